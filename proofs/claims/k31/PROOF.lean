import PyProof.Rows.All
import Wide.All
import OpenK.AllK
import Wide.FinOn
import PyProof.EqAt
import PyProof.EqKinds
import PyProof.TupleCall
import HandS.ForMost
import HandS.ForExc
import HandS.DictComp
import HandS.Defaults
import HandS.TupMul
import HandS.ExcInit
import HandS.Property
import HandS.ClsMeth
import HandS.Codes
import PySem.Challenge.RW_searchrules_k31_whole_purposes_together
import HandS.TupLen
import HandS.ListItems
import HandS.Zip
import KE.KDictList
import HandS.IsInst
import HandS.MakeKwOnly
import KE.KDictPairs
import HandS.TryOnly
import HandS.Wide
import KE.KStateDown
import HandS.Base
import HandS.Call
import HandS.Exc
import HandS.Head0
import HandS.Head1
import HandS.Head2
import HandS.HeadHook1
import HandS.HeadHook2
import HandS.HeadHook3
import HandS.HeadEnd
import HandS.HeadWalk
set_option Elab.async false
set_option linter.all false
set_option maxRecDepth 100000
/-! ### SR0 -/
set_option maxHeartbeats 4000000
namespace SR
open PySem PySem.Spec PyProof.Rows L2
/-! ## the text by places -/
def top (i : Nat) : Stmt := PySem.Challenge.pw_searchrules_k31_whole_purposes_together.main.body.getD i (.Pass ⟨0, 0, 0, 0⟩)

/-! ## heaps -/
theorem same_upd {H H' : Hp} {a : Addr} {o : HO} (s : Same H H') (n : H a = none) : Same H (upd H' a o) := fun b u e => by
  rw [upd_ne (ne_of_none e n)]
  exact s b u e
theorem same_new {H H' : Hp} {a : Addr} {o : HO} (s : Same H H') (n : H' a = none) : Same H (upd H' a o) := same_upd s (s.free n)
theorem same_up1 {H : Hp} {a : Addr} {o : HO} (n : H a = none) : Same H (upd H a o) := same_upd (Same.refl H) n
theorem sqt_same {K : PySem.W.Frag} {H H' : Hp} {a : Addr} {xs : List V} (e : Same H H') (h : SqT K H a xs) : SqT K H' a xs := by
  rcases h with (h | ⟨o, h⟩) | h
  · exact .inl (.inl (e _ _ h))
  · exact .inl (.inr ⟨o, e _ _ h⟩)
  · exact .inr h
theorem upd_none {H : Hp} {a b : Addr} {o : HO} (h : upd H a o b = none) : b ≠ a ∧ H b = none := by
  have hn : b ≠ a := fun z => by
    rw [z, upd_same] at h
    cases h
  rw [upd_ne hn] at h
  exact ⟨hn, h⟩
/-- a list or a tuple -/
def Sq (K : PySem.W.Frag) (H : Hp) (a : Addr) (xs : List V) : Prop := SqL K H a xs ∨ SqT K H a xs
theorem sq_same {K : PySem.W.Frag} {H H' : Hp} {a : Addr} {xs : List V} (e : Same H H') (h : Sq K H a xs) : Sq K H' a xs := h.imp (e.seq ·) (sqt_same e ·)
/-- an item of a list or a tuple -/
def rIxS (K : PySem.W.Frag) : R2 := fun x y H Q => ∃ p xs i v, x = .ref p ∧ y = .int i ∧ Sq K H p xs ∧ atI xs i = some v ∧ Q v H
theorem ix_sq {X : Cx} : IxR X (rIxS X.K) := by
  intro value slice pins s σ H x y v u Q I rx ry h hs
  obtain ⟨p, xs, i, z, e1, e2, hq, he, q⟩ := h
  rcases hq with hq | hq
  · exact ix_list value slice pins s σ H x y v u Q I rx ry ⟨p, xs, i, z, e1, e2, hq, he, q⟩ hs
  · exact ix_tup value slice pins s σ H x y v u Q I rx ry ⟨p, xs, i, z, e1, e2, hq, he, q⟩ hs
/-! ## the rules that name K, for comprehensions' blocks -/
theorem ix_listK {X : Cx} (K : PySem.W.Frag) (hK : X.K = K := by rfl) : IxR X (rIxL K) := by
  subst hK
  exact ix_list
theorem ix_tupK {X : Cx} (K : PySem.W.Frag) (hK : X.K = K := by rfl) : IxR X (rIxT K) := by
  subst hK
  exact ix_tup
theorem ix_sqK {X : Cx} (K : PySem.W.Frag) (hK : X.K = K := by rfl) : IxR X (rIxS K) := by
  subst hK
  exact ix_sq
theorem pg_tupK {X : Cx} (K : PySem.W.Frag) (n : Nat) {es : List Expr} {k : Nat} {pos : Pos} {t : TGs} (hK : X.K = K) (hc : X.calm = true) (h : PGs X es t)
    (hn : (assignEach es X.env).length = n := by rfl) (hst : (assignEach es X.env).findIdx? (·.1) = none := by rfl) : PG X (.Tuple es k pos) (gTup K n t) := by
  subst hK
  exact pg_tup hc h hn hst
def rLenS (K : PySem.W.Frag) : List V → Hp → VK → Prop := fun xs H Q => ∃ p ys, xs = [V.ref p] ∧ (SqL K H p ys ∨ SqT K H p ys) ∧ Q (.int ys.length) H
theorem call_len_seqK {X : Cx} (K : PySem.W.Frag) (hK : X.K = K := by rfl) : CallR X (.builtin "len") (rLenS K) := by
  subst hK
  exact call_len_seq
def rTupOf (K : PySem.W.Frag) : List V → Hp → VK → Prop := fun xs H Q => ∃ p ys, xs = [V.ref p] ∧ ((SqL K H p ys ∧ ∀ l, H l = none → Q (.ref l) (upd H l (.tup ys))) ∨ (SqT K H p ys ∧ Q (.ref p) H))
theorem call_tuple_ofK {X : Cx} (K : PySem.W.Frag) (hK : X.K = K := by rfl) : CallR X (.type "tuple") (rTupOf K) := by
  subst hK
  exact call_tuple_of
theorem pi_tupK {X : Cx} (K : PySem.W.Frag) {tg l : Expr} {tl : TE} (hK : X.K = K) (hl : PE X l tl) : PI X tg l (iTup K tl) := by
  subst hK
  exact pi_tup hl
theorem pi_listK {X : Cx} (K : PySem.W.Frag) {tg l : Expr} {tl : TE} (hK : X.K = K) (hl : PE X l tl) : PI X tg l (iList K tl) := by
  subst hK
  exact pi_list hl
/-- ints of Nats -/
def nv (n : Nat) : V := .int (n : Int)
/-- a sequence of tuples of Nats -/
def RowsAt (K : PySem.W.Frag) (H : Hp) (a : Addr) (rows : List (List Nat)) : Prop :=
  ∃ ts : List Addr, Sq K H a (ts.map V.ref) ∧ ts.length = rows.length ∧ ∀ (i : Nat) (t : Addr) (r : List Nat), ts[i]? = some t → rows[i]? = some r → SqT K H t (r.map nv)
theorem rows_same {K : PySem.W.Frag} {H H' : Hp} {a : Addr} {rows : List (List Nat)} (e : Same H H') (h : RowsAt K H a rows) : RowsAt K H' a rows :=
  let ⟨ts, h1, h2, h3⟩ := h
  ⟨ts, sq_same e h1, h2, fun i t r a b => sqt_same e (h3 i t r a b)⟩
theorem RowsAt.item {K : PySem.W.Frag} {H : Hp} {a : Addr} {rows : List (List Nat)} {i : Nat} {r : List Nat} (h : RowsAt K H a rows) (hr : rows[i]? = some r) : ∃ (xs : List V) (t : Addr), Sq K H a xs ∧ xs[i]? = some (.ref t) ∧ SqT K H t (r.map nv) := by
  obtain ⟨ts, h1, h2, h3⟩ := h
  have hl := (List.getElem?_eq_some_iff.mp hr).1
  have ht : ts[i]? = some (ts[i]'(by omega)) := List.getElem?_eq_getElem (by omega)
  exact ⟨_, _, h1, by rw [List.getElem?_map, ht] <;> rfl, h3 i _ r ht hr⟩
theorem map_at {α β : Type} {f : α → β} {l : List α} {i : Nat} {x : α} (h : l[i]? = some x) : (l.map f)[i]? = some (f x) := by
  rw [List.getElem?_map, h] <;> rfl
/-! ## calls -/
structure Fx (P : Program) (w : World) (K : PySem.W.Frag) (mg : Str → Option Value) (base : Heap) (CX : CXT) (k : Nat) (x : Str) (ps : List Str) (sp : Sp) : Prop where
  ex : ∃ (f : Addr) (fd : FuncData), mg x = some (.ref f) ∧ PySem.W.keepIn K (.ref f) = true ∧ Binds K fd ps [] ∧ FnOk P w K mg base CX k f fd ps sp
section
variable {X : Cx} {CX : CXT} {k : Nat} {ps : List Str} {sp : Sp} {E : XK} {x : Str} {p pos : Pos} {e : Expr} {es : List Expr} {t : TA}
theorem pe_fx (G : Fx X.prog X.w X.K X.mg X.base CX k x ps sp) (hr : Room k X.A) (hx : Passes CX X E) (ha : PA X (e :: es) t) (hg : Gl X x := by rfl)
    (hdb : (x == ("__debug__" : Str)) = false := by decide) (he : starEach (e :: es) X.env = (false, eval e X.env) :: starEach es X.env := by rfl) (hpl : (backTo pos (starEach es X.env)).any (·.1) = false := by rfl) :
    PE X (.Call (.Name x p) (e :: es) [] pos) (tCall sp [] E t) := by
  obtain ⟨f, fd, hm, hk, hb, F⟩ := G.ex
  exact pe_call F hr hg hm hk hb .nil hx ha hdb he hpl
end
/-- what the module's names hold that the defs lean on -/
structure Tx (K : PySem.W.Frag) (mg : Str → Option Value) : Prop where
  len : mg "len" = none
  range : mg "range" = none
  tuple : mg "tuple" = none
  int : mg "int" = none
  bool : mg "bool" = none
  list : mg "list" = none
  set : mg "set" = none
  zip : mg "zip" = none
  enumerate : mg "enumerate" = none
  min : mg "min" = none
  abs : mg "abs" = none
  any : mg "any" = none
  sorted : mg "sorted" = none
  isinstance : mg "isinstance" = none
  str : mg "str" = none
  dict : mg "dict" = none
  mirrored : ∃ m, mg "MIRRORED" = some (.ref m) ∧ ∀ H, SqT K H m [nv 0, nv 2, nv 1, nv 3]
end SR

/-! ### SRM -/
/-! Machines in plain Lean. -/
namespace SR
/-- one step -/
def dl (rows : List (List Nat)) (s l : Nat) : Nat := (rows.getD s []).getD l 0
/-- the state behind a word -/
def stF (rows : List (List Nat)) : List Nat → Nat → Nat
  | [], s => s
  | l :: w, s => stF rows w (dl rows s l)
def st (rows : List (List Nat)) (w : List Nat) : Nat := stF rows w 0
/-- letters -/
def W4 (w : List Nat) : Prop := ∀ l ∈ w, l < 4
structure OkR (rows : List (List Nat)) : Prop where
  pos : 0 < rows.length
  row : ∀ r ∈ rows, r.length = 4 ∧ ∀ x ∈ r, x < rows.length
theorem stF_app (rows : List (List Nat)) : ∀ (u v : List Nat) (s : Nat), stF rows (u ++ v) s = stF rows v (stF rows u s)
  | [], v, s => rfl
  | l :: u, v, s => stF_app rows u v (dl rows s l)
theorem st_snoc (rows : List (List Nat)) (w : List Nat) (l : Nat) : st rows (w ++ [l]) = dl rows (st rows w) l := by
  unfold st
  rw [stF_app] <;> rfl
theorem W4.snoc {w : List Nat} {l : Nat} (h : W4 w) (hl : l < 4) : W4 (w ++ [l]) := fun x hx => by
  rcases List.mem_append.mp hx with h1 | h1
  · exact h x h1
  · rw [List.mem_singleton.mp h1]
    exact hl
theorem OkR.row4 {rows : List (List Nat)} (h : OkR rows) {s : Nat} (hs : s < rows.length) : ∃ a b c d, rows[s]? = some [a, b, c, d] := by
  have hr := h.row rows[s] (List.getElem_mem hs)
  have e : rows[s]? = some rows[s] := List.getElem?_eq_getElem hs
  rw [e]
  revert hr
  generalize rows[s] = r
  intro hr
  match r, hr.1 with
  | [a, b, c, d], _ => exact ⟨a, b, c, d, rfl⟩
theorem OkR.lt {rows : List (List Nat)} (h : OkR rows) {s l : Nat} (hs : s < rows.length) (hl : l < 4) : dl rows s l < rows.length := by
  obtain ⟨a, b, c, d, e⟩ := h.row4 hs
  have m : [a, b, c, d] ∈ rows := List.mem_of_getElem? e
  have z := (h.row _ m).2
  have e2 : dl rows s l = [a, b, c, d].getD l 0 := by
    unfold dl
    rw [List.getD_eq_getElem?_getD (l := rows), e] <;> rfl
  rw [e2]
  match l, hl with
  | 0, _ => exact z a (by simp)
  | 1, _ => exact z b (by simp)
  | 2, _ => exact z c (by simp)
  | 3, _ => exact z d (by simp)
theorem dl_of {rows : List (List Nat)} {s l : Nat} {r : List Nat} {x : Nat} (h : rows[s]? = some r) (hx : r[l]? = some x) : dl rows s l = x := by
  have e2 : dl rows s l = r.getD l 0 := by
    unfold dl
    rw [List.getD_eq_getElem?_getD (l := rows), h] <;> rfl
  rw [e2, List.getD_eq_getElem?_getD, hx] <;> rfl
theorem OkR.st_lt {rows : List (List Nat)} (h : OkR rows) : ∀ {w : List Nat} {s : Nat}, W4 w → s < rows.length → stF rows w s < rows.length
  | [], s, _, hs => hs
  | l :: w, s, hw, hs => h.st_lt (w := w) (fun x hx => hw x (List.mem_cons_of_mem _ hx)) (h.lt hs (hw l (List.mem_cons_self ..)))
/-- the pigeonholes -/
theorem nodup_sub_len {α : Type} [DecidableEq α] : ∀ {l m : List α}, l.Nodup → (∀ x ∈ l, x ∈ m) → l.length ≤ m.length
  | [], m, _, _ => Nat.zero_le _
  | a :: l, m, hn, hs => by
    have hm : a ∈ m := hs a (List.mem_cons_self ..)
    obtain ⟨h1, h2⟩ := List.nodup_cons.mp hn
    have ih := nodup_sub_len (l := l) (m := m.erase a) h2 fun x hx => (List.mem_erase_of_ne fun e : x = a => h1 (by rw [← e]; exact hx)).mpr (hs x (List.mem_cons_of_mem _ hx))
    have e := List.length_erase_of_mem hm
    have p := List.length_pos_of_mem hm
    rw [List.length_cons]
    omega
theorem nodup_le {l : List Nat} {n : Nat} (hn : l.Nodup) (hb : ∀ x ∈ l, x < n) : l.length ≤ n := by
  have h := nodup_sub_len (m := List.range n) hn fun x hx => List.mem_range.mpr (hb x hx)
  rw [List.length_range] at h
  exact h
theorem nodup_snoc {α : Type} {l : List α} {k : α} (h : l.Nodup) (hk : ¬ k ∈ l) : (l ++ [k]).Nodup := by
  rw [List.nodup_append]
  refine ⟨h, by simp, fun a ha b hb e => ?_⟩
  rw [List.mem_singleton.mp hb] at e
  exact hk (e ▸ ha)
/-- what reached gives -/
structure IsReached (rows : List (List Nat)) (S : List Nat) : Prop where
  nd : S.Nodup
  hd : S[0]? = some 0
  cl : ∀ s ∈ S, ∀ l, l < 4 → dl rows s l ∈ S
  lt : ∀ s ∈ S, s < rows.length
  re : ∀ s ∈ S, ∃ w, W4 w ∧ st rows w = s
/-! ## exploring -/
/-- the state behind a word -/
def run {σ : Type} (δ : σ → Nat → σ) : List Nat → σ → σ
  | [], s => s
  | l :: w, s => run δ w (δ s l)
theorem run_app {σ : Type} (δ : σ → Nat → σ) : ∀ (u v : List Nat) (s : σ), run δ (u ++ v) s = run δ v (run δ u s)
  | [], v, s => rfl
  | l :: u, v, s => run_app δ u v (δ s l)
theorem run_snoc {σ : Type} (δ : σ → Nat → σ) (w : List Nat) (l : Nat) (s : σ) : run δ (w ++ [l]) s = δ (run δ w s) l := by
  rw [run_app] <;> rfl
/-- a row's part -/
def RowOf {σ : Type} (δ : σ → Nat → σ) (order : List σ) (s : σ) (r : List Nat) : Prop := ∀ l j : Nat, r[l]? = some j → order[j]? = some (δ s l)
structure Expl {σ : Type} (δ : σ → Nat → σ) (s0 : σ) (order : List σ) (nexts : List (List Nat)) : Prop where
  nd : order.Nodup
  hd : order[0]? = some s0
  le : nexts.length ≤ order.length
  r4 : ∀ r ∈ nexts, r.length = 4
  nx : ∀ (i : Nat) (r : List Nat) (s : σ), nexts[i]? = some r → order[i]? = some s → RowOf δ order s r
  re : ∀ s ∈ order, ∃ w, W4 w ∧ run δ w s0 = s
theorem RowOf.more {σ : Type} {δ : σ → Nat → σ} {order e : List σ} {s : σ} {r : List Nat} (h : RowOf δ order s r) : RowOf δ (order ++ e) s r := fun l j hj => by
  have q := h l j hj
  rw [List.getElem?_append_left (List.getElem?_eq_some_iff.mp q).1]
  exact q
theorem Expl.start {σ : Type} (δ : σ → Nat → σ) (s0 : σ) : Expl δ s0 [s0] [] :=
  ⟨by simp, rfl, by simp, by simp, by simp, fun s hs => ⟨[], (fun _ h => nomatch h), (List.mem_singleton.mp hs).symm⟩⟩
/-- one more state -/
theorem Expl.grow {σ : Type} {δ : σ → Nat → σ} {s0 : σ} {order : List σ} {nexts : List (List Nat)} {s : σ} {l : Nat} (h : Expl δ s0 order nexts) (hs : s ∈ order) (hl : l < 4) (hn : ¬ δ s l ∈ order) : Expl δ s0 (order ++ [δ s l]) nexts where
  nd := nodup_snoc h.nd hn
  hd := by
    have q := h.hd
    rw [List.getElem?_append_left (List.getElem?_eq_some_iff.mp q).1]
    exact q
  le := by
    rw [List.length_append]
    have := h.le
    omega
  r4 := h.r4
  nx := fun i r t hi ht => by
    have hi2 := (List.getElem?_eq_some_iff.mp hi).1
    have hle := h.le
    rw [List.getElem?_append_left (by omega)] at ht
    exact (h.nx i r t hi ht).more
  re := fun t ht => by
    rcases List.mem_append.mp ht with q | q
    · exact h.re t q
    · obtain ⟨w, hw, e⟩ := h.re s hs
      exact ⟨w ++ [l], hw.snoc hl, by rw [run_snoc, e, List.mem_singleton.mp q]⟩
/-- a row more -/
theorem Expl.row {σ : Type} {δ : σ → Nat → σ} {s0 : σ} {order : List σ} {nexts : List (List Nat)} {s : σ} {r : List Nat} (h : Expl δ s0 order nexts) (hs : order[nexts.length]? = some s) (hr : RowOf δ order s r) (h4 : r.length = 4) : Expl δ s0 order (nexts ++ [r]) where
  nd := h.nd
  hd := h.hd
  le := by
    rw [List.length_append, List.length_singleton]
    exact (List.getElem?_eq_some_iff.mp hs).1
  r4 := fun x hx => by
    rcases List.mem_append.mp hx with q | q
    · exact h.r4 x q
    · rw [List.mem_singleton.mp q]
      exact h4
  nx := fun i x t hi ht => by
    by_cases hl : i < nexts.length
    · rw [List.getElem?_append_left hl] at hi
      exact h.nx i x t hi ht
    · have hi2 := (List.getElem?_eq_some_iff.mp hi).1
      rw [List.length_append, List.length_singleton] at hi2
      have e : i = nexts.length := by omega
      subst e
      rw [List.getElem?_append_right (Nat.le_refl _), Nat.sub_self] at hi
      have e1 : r = x := Option.some.inj hi
      have e2 : s = t := Option.some.inj (hs.symm.trans ht)
      rw [← e1, ← e2]
      exact hr
  re := h.re
/-- whole: the rows are a machine that follows δ -/
theorem Expl.ok {σ : Type} {δ : σ → Nat → σ} {s0 : σ} {order : List σ} {nexts : List (List Nat)} (h : Expl δ s0 order nexts) (hl : order.length ≤ nexts.length) : OkR nexts := by
  have e : nexts.length = order.length := Nat.le_antisymm h.le hl
  refine ⟨?_, fun r hr => ⟨h.r4 r hr, fun x hx => ?_⟩⟩
  · rw [e]
    exact (List.getElem?_eq_some_iff.mp h.hd).1
  · obtain ⟨i, hi⟩ := List.getElem?_of_mem hr
    obtain ⟨l, hl2⟩ := List.getElem?_of_mem hx
    have hi2 := (List.getElem?_eq_some_iff.mp hi).1
    have q := h.nx i r _ hi (List.getElem?_eq_getElem (by omega)) l x hl2
    rw [e]
    exact (List.getElem?_eq_some_iff.mp q).1
theorem Expl.follows {σ : Type} {δ : σ → Nat → σ} {s0 : σ} {order : List σ} {nexts : List (List Nat)} (h : Expl δ s0 order nexts) (hl : order.length ≤ nexts.length) : ∀ {w : List Nat} {i : Nat} {s : σ}, W4 w → order[i]? = some s → order[stF nexts w i]? = some (run δ w s)
  | [], i, s, _, hi => hi
  | l :: w, i, s, hw, hi => by
    have hi2 := (List.getElem?_eq_some_iff.mp hi).1
    obtain ⟨r, hr⟩ : ∃ r, nexts[i]? = some r := ⟨nexts[i], List.getElem?_eq_getElem (by omega)⟩
    have h4 := h.r4 r (List.mem_of_getElem? hr)
    have hl4 := hw l (List.mem_cons_self ..)
    obtain ⟨j, hj⟩ : ∃ j, r[l]? = some j := ⟨r[l], List.getElem?_eq_getElem (by omega)⟩
    have q := h.nx i r s hr hi l j hj
    have e : dl nexts i l = j := dl_of hr hj
    show order[stF nexts w (dl nexts i l)]? = some (run δ w (δ s l))
    rw [e]
    exact h.follows hl (w := w) (fun x hx => hw x (List.mem_cons_of_mem _ hx)) q
theorem Expl.at_ {σ : Type} {δ : σ → Nat → σ} {s0 : σ} {order : List σ} {nexts : List (List Nat)} (h : Expl δ s0 order nexts) (hl : order.length ≤ nexts.length) {w : List Nat} (hw : W4 w) : order[st nexts w]? = some (run δ w s0) := h.follows hl hw h.hd
/-! ## bounds of products -/
def prod2 (a b : Nat) : List (List Nat) := (List.range a).flatMap fun x => (List.range b).map fun y => [x, y]
theorem flat_len {α β : Type} (f : α → List β) (n : Nat) : ∀ (l : List α), (∀ x ∈ l, (f x).length = n) → (l.flatMap f).length = l.length * n
  | [], _ => by simp
  | x :: l, h => by
    rw [List.flatMap_cons, List.length_append, flat_len f n l fun y hy => h y (List.mem_cons_of_mem _ hy), h x (List.mem_cons_self ..), List.length_cons, Nat.succ_mul]
    omega
theorem prod2_len (a b : Nat) : (prod2 a b).length = a * b := by
  unfold prod2
  rw [flat_len _ b _ (fun x _ => by rw [List.length_map, List.length_range]), List.length_range]
theorem prod2_mem {a b x y : Nat} (hx : x < a) (hy : y < b) : [x, y] ∈ prod2 a b :=
  List.mem_flatMap.mpr ⟨x, List.mem_range.mpr hx, List.mem_map.mpr ⟨y, List.mem_range.mpr hy, rfl⟩⟩
def prod3 (a b c : Nat) : List (List Nat) := (List.range a).flatMap fun x => (prod2 b c).map fun y => x :: y
theorem prod3_len (a b c : Nat) : (prod3 a b c).length = a * (b * c) := by
  unfold prod3
  rw [flat_len _ (b * c) _ (fun x _ => by rw [List.length_map, prod2_len]), List.length_range]
theorem prod3_mem {a b c x y z : Nat} (hx : x < a) (hy : y < b) (hz : z < c) : [x, y, z] ∈ prod3 a b c :=
  List.mem_flatMap.mpr ⟨x, List.mem_range.mpr hx, List.mem_map.mpr ⟨[y, z], prod2_mem hy hz, rfl⟩⟩
/-- the pairs of two machines -/
def dl2 (A B : List (List Nat)) (p : List Nat) (l : Nat) : List Nat := [dl A (p.getD 0 0) l, dl B (p.getD 1 0) l]
def mir (l : Nat) : Nat := match l with
  | 1 => 2
  | 2 => 1
  | n => n
theorem mir_lt {l : Nat} (h : l < 4) : mir l < 4 := by
  match l, h with
  | 0, _ => decide
  | 1, _ => decide
  | 2, _ => decide
  | 3, _ => decide
theorem mir_mir (l : Nat) : mir (mir l) = l := by
  match l with
  | 0 => rfl
  | 1 => rfl
  | 2 => rfl
  | n + 3 => rfl
theorem W4.mir {w : List Nat} (h : W4 w) : W4 (w.map mir) := fun x hx => by
  obtain ⟨y, hy, rfl⟩ := List.mem_map.mp hx
  exact mir_lt (h y hy)
def dl3 (A B : List (List Nat)) (p : List Nat) (l : Nat) : List Nat := [dl A (p.getD 0 0) l, dl A (p.getD 1 0) (mir l), dl B (p.getD 2 0) l]
theorem run_dl2 (A B : List (List Nat)) : ∀ (w : List Nat) (a b : Nat), run (dl2 A B) w [a, b] = [stF A w a, stF B w b]
  | [], a, b => rfl
  | l :: w, a, b => run_dl2 A B w (dl A a l) (dl B b l)
theorem run_dl3 (A B : List (List Nat)) : ∀ (w : List Nat) (a c b : Nat), run (dl3 A B) w [a, c, b] = [stF A w a, stF A (w.map mir) c, stF B w b]
  | [], a, c, b => rfl
  | l :: w, a, c, b => run_dl3 A B w (dl A a l) (dl A c (mir l)) (dl B b l)
/-! ## until, every, turned -/
def keptRow (on : Bool) (r : List Nat) : List Nat := if on = true then r else List.replicate 4 (r.getD 0 0)
def shiftRow (b : Nat) (r : List Nat) : List Nat := r.map fun x => b + x
def untilPart (A : List (List Nat)) (k i : Nat) : List (List Nat) := A.map fun r => shiftRow (min (i + 1) k * A.length) (keptRow (decide (i < k)) r)
def untilRows (A : List (List Nat)) (k : Nat) : List (List Nat) := (List.range (k + 1)).flatMap (untilPart A k)
def everyPart (A : List (List Nat)) (d t i : Nat) : List (List Nat) := A.map fun r => shiftRow ((i + 1) % d * A.length) (keptRow (decide (i = t)) r)
def everyRows (A : List (List Nat)) (d t : Nat) : List (List Nat) := (List.range d).flatMap (everyPart A d t)
def repF (F : List Bool) (n : Nat) : List Bool := (List.range n).flatMap fun _ => F
theorem range_flat {α : Type} (f : Nat → List α) (n : Nat) : (List.range (n + 1)).flatMap f = (List.range n).flatMap f ++ f n := by
  rw [List.range_succ, List.flatMap_append] <;> simp
theorem keptRow_len {on : Bool} {r : List Nat} (h : r.length = 4) : (keptRow on r).length = 4 := by
  unfold keptRow
  split
  · exact h
  · exact List.length_replicate
def mirRow (r : List Nat) : List Nat := [r.getD 0 0, r.getD 2 0, r.getD 1 0, r.getD 3 0]
end SR

/-! ### SR1 -/
set_option maxHeartbeats 4000000
namespace SR
open PySem PySem.Spec PyProof.Rows L2
/-! ## keys -/
def nk (n : Nat) : Key := Sum.inl (n : Int)
theorem nk_inj {a b : Nat} (h : nk a = nk b) : a = b := by
  have e := Sum.inl.inj h
  omega
theorem kV_nk (n : Nat) : kV (nk n) = nv n := rfl
theorem nv_inj {a b : Nat} (h : nv a = nv b) : a = b := by
  have e : (a : Int) = (b : Int) := by
    injection h
  omega
section
variable {κ : Type} [DecidableEq κ]
theorem valV_mem {kvs : List (κ × V)} {k : κ} : (valV kvs k).isSome = true ↔ k ∈ kvs.map (·.1) := by
  constructor
  · intro h
    obtain ⟨v, e⟩ := Option.isSome_iff_exists.mp h
    exact valV_in e
  · intro h
    cases e : valV kvs k with
    | some v => rfl
    | none => exact absurd h (valV_not e)
end
theorem nk_mem {l : List Nat} {n : Nat} : nk n ∈ l.map nk ↔ n ∈ l := by
  constructor
  · intro h
    obtain ⟨x, hx, e⟩ := List.mem_map.mp h
    rw [← nk_inj e]
    exact hx
  · exact List.mem_map_of_mem
/-! ## reached -/
abbrev sReached : Stmt := top 22
def spReached (K : PySem.W.Frag) : Sp := fun vs H Q _ => ∃ (a : Addr) (rows : List (List Nat)), vs = [.ref a] ∧ RowsAt K H a rows ∧ OkR rows ∧ rows.length ≤ 60000 ∧
  ∀ (H' : Hp) (p : Addr) (S : List Nat), Same H H' → H p = none → H' p = some (.lst (S.map nv)) → IsReached rows S → Q (.ref p) H'
structure WR (rows : List (List Nat)) (H : Hp) (nu ff : Addr) (H' : Hp) (F : List Nat) : Prop where
  same : Same H H'
  dn : ∃ kvs, H' nu = some (.dK kvs) ∧ kvs.map (·.1) = F.map nk
  fo : H' ff = some (.lst (F.map nv))
  nn : H nu = none
  fn : H ff = none
  nd : F.Nodup
  hd : F[0]? = some 0
  lt : ∀ x ∈ F, x < rows.length
  re : ∀ x ∈ F, ∃ w, W4 w ∧ st rows w = x
def Cl (rows : List (List Nat)) (F : List Nat) (n : Nat) : Prop := ∀ i, i < n → ∀ s, F[i]? = some s → ∀ l, l < 4 → dl rows s l ∈ F
theorem scReached : FnScope ["rows", "numbers", "found", "place", "later"] ["rows"] (defScope sReached) := ⟨rfl, rfl, rfl, by decide +kernel, rfl, by decide +kernel, by decide +kernel⟩
section
variable {P : Program} {w : World} {K : PySem.W.Frag} {mg : Str → Option Value} {base : Heap}
theorem ok_reached {f : Addr} {fd : FuncData} (F : Fun K "reached" "reached" sReached f fd) (T : Tx K mg) : FnOk P w K mg base CX0 1 f fd ["rows"] (spReached K) := by
  refine F.ok scReached (fun vs H Q E h => ?_) (fun cdv A outer s H vs Q E hr h => ?_)
  · obtain ⟨a, rows, rfl, _⟩ := h
    rfl
  · obtain ⟨a, rows, rfl, ⟨ts, hts, htl, htr⟩, ok, hlen, k⟩ := h
    have hu := hu_of hr
    have nd := scReached.nd
    refine ⟨_, pss_cons (ps_set (i := 1) nd rfl (.inl rfl) (pe_disp (pps_cons pe_int pe_int pps_nil) (by rfl) (by rfl) (fun z => by cases z) (by decide)))
      (pss_cons (ps_set (i := 2) nd rfl (.inl rfl) (pe_lst (pa_cons pe_int pa_nil)))
      (pss_cons (ps_set (i := 3) nd rfl (.inl rfl) pe_int)
      (pss_cons (ps_while PassesOwn.never (pt_cmpR op_lt (pv 3) (pe_callB call_len_seq (by rfl) T.len PySem.boot_len (pa_cons (pv 2) pa_nil)) (nomark _))
        (pss_cons (ps_for PassesOwn.never rfl (pi_tup (pe_ix ix_sq (pv 0) (pe_ix ix_list (pv 2) (pv 3) (fun _ _ => rfl)) (fun _ _ => rfl))) (pg_name (i := 4) nd rfl (.inl rfl))
          (pss_one (ps_if (pt_cmp (pc_dnotin hu (pv 4) (pv 1)))
            (pss_cons (ps_dput hu (pv 1) (pv 4) (pe_callB call_len_seq (by rfl) T.len PySem.boot_len (pa_cons (pv 2) pa_nil)) rfl)
              (pss_one (ps_expr (pe_bm PySem.F.plainAttrs_list PySem.F.slot_list_append PySem.F.type_list_append mt_append (pv 2) (pa_cons (pv 4) pa_nil))))) pss_nil)))
        (pss_one (ps_aug (i := 3) nd rfl (.inl rfl) pe_int ip_add))))
      (pss_one (ps_ret (pv 2)))))), ?_⟩
    -- numbers = {0: 0}; found = [0]; place = 0
    intro nu hnu
    refine ⟨upd_same, [(nk 0, nv 0)], rfl, by decide, ?_⟩
    refine ⟨by show 1 ≤ sizeLine; decide, fun fo hfo => ?_⟩
    have hfn : fo ≠ nu := fun e => by rw [e, upd_same] at hfo; cases hfo
    have hfo0 : H fo = none := by rw [upd_ne hfn, upd_ne hfn] at hfo; exact hfo
    refine ⟨fun m σ H' => ∃ (F : List Nat) (pl : Nat) (v : Option V), σ = [some (.ref a), some (.ref nu), some (.ref fo), some (nv pl), v] ∧ m = rows.length - pl ∧ WR rows H nu fo H' F ∧ pl ≤ F.length ∧ Cl rows F pl,
      ⟨_, [0], 0, none, rfl, rfl, ⟨?_, ⟨[(nk 0, nv 0)], ?_, rfl⟩, upd_same, hnu, hfo0, by simp, rfl, ?_, ?_⟩, by simp, ?_⟩, ?_⟩
    · exact same_upd (same_upd (same_upd (Same.refl H) hnu) hnu) hfo0
    · rw [upd_ne hfn.symm, upd_same] <;> rfl
    · intro x hx
      rw [List.mem_singleton.mp hx]
      exact ok.pos
    · intro x hx
      rw [List.mem_singleton.mp hx]
      exact ⟨[], (fun _ h => nomatch h), rfl⟩
    · intro i hi
      omega
    · rintro m σ H' ⟨F, pl, v, rfl, rfl, I, hpl, hcl⟩
      have hFl : F.length ≤ rows.length := nodup_le I.nd I.lt
      -- place < len(found)
      refine ⟨_, rfl, _, rfl, fo, _, rfl, .inl (SqL.of I.fo), _, _, rfl, rfl, _, rfl, ?_⟩
      refine ite2 (fun hc => ⟨_, fun _ _ z => z, ?_⟩) (fun hc => ?_)
      · have hlt : pl < F.length := by
          have := of_decide_eq_true hc
          rw [List.length_map] at this
          omega
        obtain ⟨s0, hs0⟩ : ∃ s0, F[pl]? = some s0 := ⟨F[pl], List.getElem?_eq_getElem hlt⟩
        have hs0l : s0 < rows.length := I.lt s0 (List.mem_of_getElem? hs0)
        obtain ⟨r0, r1, r2, r3, hrow⟩ := ok.row4 hs0l
        obtain ⟨t0, ht0⟩ : ∃ t0, ts[s0]? = some t0 := ⟨ts[s0]'(by omega), List.getElem?_eq_getElem (by omega)⟩
        have hrt := htr s0 t0 _ ht0 hrow
        -- for later in rows[found[place]]
        refine ⟨_, rfl, _, rfl, _, rfl, fo, _, _, _, rfl, rfl, SqL.of I.fo, at_of rfl (by rw [List.getElem?_map, hs0] <;> rfl), ?_⟩
        refine ⟨a, _, _, _, rfl, rfl, sq_same I.same hts, at_of rfl (by rw [List.getElem?_map, ht0] <;> rfl), t0, rfl, ⟨_, sqt_same I.same hrt⟩, ?_⟩
        refine for_tup (K := K) (a := t0) (xs := [r0, r1, r2, r3].map nv) (fun j σ' H2 => ∃ (G : List Nat) (v : Option V), σ' = [some (.ref a), some (.ref nu), some (.ref fo), some (nv pl), v] ∧ WR rows H nu fo H2 G ∧ Cl rows G pl ∧ (∃ e, G = F ++ e) ∧ ∀ l, l < j → l < 4 → dl rows s0 l ∈ G)
          ⟨F, v, rfl, I, hcl, ⟨[], by simp⟩, fun l hl => by omega⟩ (fun j σ' H2 _ ⟨G, _, _, J, _⟩ => sqt_same J.same hrt) ?_ ?_
        · rintro j x σ' H2 hj ⟨G, v2, rfl, J, hcl2, ⟨e, he⟩, hdone⟩
          obtain ⟨y, hy, rfl⟩ : ∃ y, [r0, r1, r2, r3][j]? = some y ∧ nv y = x := by
            rw [List.getElem?_map] at hj
            exact Option.map_eq_some_iff.mp hj
          have hj4 : j < 4 := (List.getElem?_eq_some_iff.mp hy).1
          have hdl : dl rows s0 j = y := dl_of hrow hy
          obtain ⟨kvs, hk, hkeys⟩ := J.dn
          -- if later not in numbers
          refine ⟨_, rfl, _, rfl, nu, _, rfl, DGet.k (k := nk y) hk, _, rfl, ?_⟩
          cases hv : valV kvs (nk y) with
          | some v3 =>
            have hin : y ∈ G := nk_mem.mp (hkeys ▸ valV_in hv)
            refine iteF ?_
            refine ⟨G, _, rfl, J, hcl2, ⟨e, he⟩, fun l hl hl4 => ?_⟩
            by_cases q : l = j
            · rw [q, hdl]
              exact hin
            · exact hdone l (by omega) hl4
          | none =>
            have hni : ¬ y ∈ G := fun m => valV_not hv (hkeys ▸ nk_mem.mpr m)
            have hGl : G.length ≤ rows.length := nodup_le J.nd J.lt
            have hkl : kvs.length = G.length := by
              have := congrArg List.length hkeys
              rw [List.length_map, List.length_map] at this
              exact this
            have nnf : nu ≠ fo := fun z => by rw [z, J.fo] at hk; cases hk
            refine iteT ?_
            -- numbers[later] = len(found); found.append(later)
            refine ⟨_, rfl, fo, _, rfl, .inl (SqL.of J.fo), _, rfl, _, rfl, nu, _, rfl, DPut.k (k := nk y) hk (by rw [hkl]; exact Nat.lt_of_le_of_lt hGl (Nat.lt_of_le_of_lt hlen (by decide))), ?_⟩
            have hfo2 : (upd H2 nu (.dK (putK kvs (nk y) (.int (G.map nv).length)))) fo = some (.lst (G.map nv)) := by rw [upd_ne nnf.symm]; exact J.fo
            refine ⟨_, rfl, .inl ⟨rfl, _, SqL.of hfo2⟩, _, rfl, fo, _, _, rfl, rfl, hfo2, (by rw [List.length_map]; exact Nat.lt_of_le_of_lt hGl (Nat.lt_of_le_of_lt hlen (by decide))), ?_⟩
            refine ⟨G ++ [y], _, rfl, ⟨same_upd (same_upd J.same J.nn) J.fn, ⟨putK kvs (nk y) (.int (G.map nv).length), by rw [upd_ne nnf, upd_same], ?_⟩, by rw [upd_same, List.map_append] <;> rfl, J.nn, J.fn, nodup_snoc J.nd hni, ?_, ?_, ?_⟩, ?_, ⟨e ++ [y], by rw [he, List.append_assoc]⟩, ?_⟩
            · rw [putK_new _ hv, List.map_append, hkeys, List.map_append] <;> rfl
            · have := J.hd
              rw [List.getElem?_append_left (List.getElem?_eq_some_iff.mp this).1]
              exact this
            · intro x hx
              rcases List.mem_append.mp hx with h1 | h1
              · exact J.lt x h1
              · rw [List.mem_singleton.mp h1, ← hdl]
                exact ok.lt hs0l hj4
            · intro x hx
              rcases List.mem_append.mp hx with h1 | h1
              · exact J.re x h1
              · obtain ⟨w, hw, ew⟩ := I.re s0 (List.mem_of_getElem? hs0)
                refine ⟨w ++ [j], hw.snoc hj4, ?_⟩
                rw [List.mem_singleton.mp h1, st_snoc, ew, hdl]
            · intro i hi s1 hs1 l hl
              have hFl2 : pl < F.length := hlt
              have hGF : F.length ≤ G.length := by rw [he, List.length_append]; omega
              rw [List.getElem?_append_left (by omega)] at hs1
              exact List.mem_append_left _ (hcl2 i hi s1 hs1 l hl)
            · intro l hl hl4
              by_cases q : l = j
              · rw [q, hdl]
                exact List.mem_append_right _ (List.mem_singleton.mpr rfl)
              · exact List.mem_append_left _ (hdone l (by omega) hl4)
        · -- place += 1
          rintro σ' H2 ⟨G, v2, rfl, J, hcl2, ⟨e, he⟩, hdone⟩
          have hGF : F.length ≤ G.length := by rw [he, List.length_append]; omega
          have hGl : G.length ≤ rows.length := nodup_le J.nd J.lt
          have hs0G : G[pl]? = some s0 := by rw [he, List.getElem?_append_left hlt]; exact hs0
          refine ⟨_, rfl, pl, 1, rfl, rfl, rows.length - (pl + 1), by omega, G, pl + 1, _, rfl, rfl, J, by omega, ?_⟩
          intro i hi s1 hs1 l hl
          by_cases q : i = pl
          · rw [q, hs0G] at hs1
            rw [← Option.some.inj hs1]
            exact hdone l (by show l < 4; exact hl) hl
          · exact hcl2 i (by omega) s1 hs1 l hl
      · -- return found
        refine ⟨_, rfl, k H' fo F I.same I.fn I.fo ⟨I.nd, I.hd, fun s hs l hl => ?_, I.lt, I.re⟩⟩
        obtain ⟨i, hi⟩ := List.getElem?_of_mem hs
        have hi2 := (List.getElem?_eq_some_iff.mp hi).1
        have hge : F.length ≤ pl := by
          have := of_decide_eq_false (Bool.eq_false_iff.mpr hc)
          rw [List.length_map] at this
          omega
        exact hcl i (by omega) s hi l hl
end
end SR

/-! ### SRN -/
set_option maxHeartbeats 4000000
/-! Dicts whose keys are tuples of an int and a tuple of ints. -/
namespace SRN
open PySem PySem.Spec PyProof.Rows L2
abbrev NK := Int × List Key
section
variable {prog : Program} {w : World}
def nIs (prog : Program) (w : World) (h : Heap) (k : NK) (a : Addr) : Prop :=
  ∃ (o : Obj) (b : Addr) (t : Tok) (n : Nat), h.get? a = some o ∧ o.cls = .type "tuple" ∧ o.data = .seq #[.int k.1 t, .ref b] n ∧ IsTupleKey (mixKind prog w) h k.2 b
def nHash (prog : Program) (w : World) (k : NK) : Int := reduceHash (Builtin.Tuple.tupleHashOf [hashInt k.1, tupleKeyHash (mixKind prog w) k.2])
def nDraws (k : NK) : Nat := 1 + (k.2.length + 1) + 1
variable {A : Around} {E : Value → Shared → Prop} {s : Shared}
theorem nIs.typeIs {k : NK} {a : Addr} (x : nIs prog w s.heap k a) : s.TypeIs (.ref a) "tuple" := let ⟨o, _, _, _, ho, hc, _⟩ := x; ⟨o, ho, hc⟩
theorem nIs.inj {h : Heap} {a : Addr} {x y : NK} (hx : nIs prog w h x a) (hy : nIs prog w h y a) : x = y := by
  obtain ⟨o, b, t, n, ho, _, hd, hi⟩ := hx
  obtain ⟨o', b', t', n', ho', _, hd', hi'⟩ := hy
  obtain rfl : o = o' := Option.some.inj (ho.symm.trans ho')
  rw [hd] at hd'
  injection hd' with h1 _
  have h2 := congrArg Array.toList h1
  simp only [List.cons.injEq] at h2
  obtain ⟨h3, h4, _⟩ := h2
  injection h3 with h5 _
  injection h4 with h6
  subst h6
  exact Prod.ext h5 (hi.inj hi')
theorem nIs.keeps {h h' : Heap} {k : NK} {a d : Addr} {o : Obj} {es ep} (x : nIs prog w h k a) (ho : h.get? d = some o) (hd : o.data = .dict es ep) (hs : Heap.SameBut d h h') : nIs prog w h' k a := by
  obtain ⟨o', b, t, n, ho', hc, hd', hi⟩ := x
  have hne : a ≠ d := by
    rintro rfl
    obtain rfl : o' = o := Option.some.inj (ho'.symm.trans ho)
    rw [hd] at hd'
    exact nomatch hd'
  exact ⟨o', b, t, n, (hs.2 a hne).trans ho', hc, hd', hi.keeps ho hd hs⟩
theorem nHash_walk {k : NK} {a : Addr} {Q : Int → Shared → Prop} (hu : A.units + 1 < cLine) (hk : nIs prog w s.heap k a) (h : Q (nHash prog w k) { s with toks := s.toks + nDraws k }) :
    wpAny (model prog w) A (pyHash (.ref a)) Q E s := by
  have hT := hk.typeIs
  have hu0 : A.units < cLine := by omega
  obtain ⟨o, b, t, n, ho, _, hd, hi⟩ := hk
  unfold pyHash
  first | unfold pyHashByItsType | skip
  first | refine wpAny_bind (wpAny_cRoomFor_or (.inr hu0) ?_) | skip
  refine wpAny_bind (wpAny_specialOf hT F.slot_tuple_hash.lookup ?_)
  show wpAny _ _ (if (some (Value.builtin "tuple.__hash__") == some Value.none) = true then _ else _) Q E s
  rw [if_neg (by rw [beq_builtin_none]; exact Bool.false_ne_true)]
  refine wpAny_bind (wpAny_specialOf hT F.slot_tuple_hash.lookup ?_)
  show wpAny _ _ (callSpecialIfBoundUnlessNone? (.ref a) "__hash__" _ >>= _) Q E s
  refine wpAny_bind (wpAny_callSpecialIfBoundUnlessNone?_slot hT F.slot_tuple_hash (wpAny_call_entry F.slot_tuple_hash hT F.entry_tuple_hash ?_ (F.args_tuple_hash_1 _)))
  show wpAny _ _ (Builtin.Tuple.tupleItemsOf (.ref a) >>= _) _ _ s
  refine wpAny_bind (wpAny_tupleItemsOf ho hd ?_)
  refine wpAny_bind ?_
  rw [← Array.forIn_toList]
  refine wpAny_forIn_list _
    (fun rest (b' : Array Int) s' => (rest = [.int k.1 t, .ref b] ∧ b'.toList = [] ∧ s' = s) ∨ (rest = [.ref b] ∧ b'.toList = [hashInt k.1] ∧ s' = { s with toks := s.toks + 1 }) ∨
      (rest = [] ∧ b'.toList = [hashInt k.1, tupleKeyHash (mixKind prog w) k.2] ∧ s' = { s with toks := s.toks + 1 + (k.2.length + 1) }))
    _ ?_ ?_ _ _ (.inl ⟨rfl, rfl, rfl⟩)
  · rintro x rest b' s' (⟨hr, hb, rfl⟩ | ⟨hr, hb, rfl⟩ | ⟨hr, _, _⟩)
    · obtain ⟨rfl, rfl⟩ := List.cons.inj hr
      refine wpAny_bind (wpAny_pyHash_int ?_)
      first
        | exact wpAny_pure (.inr (.inl ⟨rfl, by simp [hb], rfl⟩))
        | exact wpAny_bind (wpAny_pure (wpAny_pure (.inr (.inl ⟨rfl, by simp [hb], rfl⟩))))
    · obtain ⟨rfl, rfl⟩ := List.cons.inj hr
      refine wpAny_bind (wpAny_pyHash_tuple (A := A.in1) hu hi ?_)
      first
        | exact wpAny_pure (.inr (.inr ⟨rfl, by simp [hb], rfl⟩))
        | exact wpAny_bind (wpAny_pure (wpAny_pure (.inr (.inr ⟨rfl, by simp [hb], rfl⟩))))
    · cases hr
  · rintro b' s' (⟨hr, _, _⟩ | ⟨hr, _, _⟩ | ⟨_, hb, rfl⟩)
    · cases hr
    · cases hr
    show wpAny _ _ (retInt (Builtin.Tuple.tupleHashOf b'.toList)) _ _ _
    rw [hb]
    refine wpAny_ret_mkInt ?_
    show wpAny _ _ (if (decide (-(2 : Int) ^ 63 ≤ Builtin.Tuple.tupleHashOf [hashInt k.1, tupleKeyHash (mixKind prog w) k.2]) && decide (Builtin.Tuple.tupleHashOf [hashInt k.1, tupleKeyHash (mixKind prog w) k.2] < 2 ^ 63)) = true then _ else _) Q E _
    unfold nHash reduceHash at h
    unfold nDraws at h
    by_cases hr : (decide (-(2 : Int) ^ 63 ≤ Builtin.Tuple.tupleHashOf [hashInt k.1, tupleKeyHash (mixKind prog w) k.2]) && decide (Builtin.Tuple.tupleHashOf [hashInt k.1, tupleKeyHash (mixKind prog w) k.2] < 2 ^ 63)) = true
    · rw [if_pos hr]
      rw [if_pos hr] at h
      exact wpAny_pure (by simpa [Nat.add_assoc] using h)
    · rw [if_neg hr]
      rw [if_neg hr] at h
      exact wpAny_bind (wpAny_rule (wpAny_pure (by simpa [Nat.add_assoc] using h)))
theorem nIs.isTuple {h : Heap} {k : NK} {a : Addr} (x : nIs prog w h k a) : ∃ (b : Addr) (t : Tok), h.IsTuple a #[.int k.1 t, .ref b] ∧ IsTupleKey (mixKind prog w) h k.2 b := by
  obtain ⟨o, b, t, n, ho, hc, hd, hi⟩ := x
  exact ⟨b, t, ⟨o, ho, hc, n, hd⟩, hi⟩
theorem items_other {p q : Program} {v u : World} : ∀ {ks : List Key} {vs : List Value}, ItemsAre (mixKind p v) ks vs → ItemsAre (mixKind q u) ks vs
  | _, _, .nil => .nil
  | _, _, .cons h t => .cons h (items_other t)
theorem key_other {p q : Program} {v u : World} {h : Heap} {ks : List Key} {a : Addr} (x : IsTupleKey (mixKind p v) h ks a) : IsTupleKey (mixKind q u) h ks a :=
  let ⟨o, items, n, h1, h2, h3, h4⟩ := x
  ⟨o, items, n, h1, h2, h3, items_other h4⟩
theorem nEq_walk {x y : NK} {a b : Addr} {Q : Bool → Shared → Prop} (hu : A.units + 1 < cLine) (hx : nIs prog w s.heap x a) (hy : nIs prog w s.heap y b) (h : Q (decide (x = y)) s) :
    wpAny (model prog w) A (eqBool (.ref a) (.ref b)) Q E s := by
  have hu0 : A.units < cLine := by omega
  by_cases hab : a = b
  · subst hab
    obtain rfl := hx.inj hy
    exact SeqAt.EqAt.same (.ref a) prog w E Q (by simpa using h)
  · obtain ⟨c, t, hta, hka⟩ := hx.isTuple
    obtain ⟨d, u, htb, hkb⟩ := hy.isTuple
    have r := SeqAt.RcAt.tuples (A := A) (s := s) (e := fun j => match j with | 0 => x.1 == y.1 | _ => decide (x.2 = y.2)) hta htb hu0 (fun j h1 h2 => ?_)
    · have e := SeqAt.EqAt.of_refs hab r prog w E Q
      refine e ?_
      have q : ((List.range (min (#[Value.int x.1 t, Value.ref c] : Array Value).size (#[Value.int y.1 u, Value.ref d] : Array Value).size)).all (fun j => match j with | 0 => x.1 == y.1 | _ => decide (x.2 = y.2)) && (#[Value.int x.1 t, Value.ref c] : Array Value).size == (#[Value.int y.1 u, Value.ref d] : Array Value).size) = decide (x = y) := by
        show ((List.range 2).all (fun j => match j with | 0 => x.1 == y.1 | _ => decide (x.2 = y.2)) && true) = decide (x = y)
        rw [Bool.and_true]
        show ((x.1 == y.1) && (decide (x.2 = y.2) && true)) = decide (x = y)
        rw [Bool.and_true]
        obtain ⟨x1, x2⟩ := x
        obtain ⟨y1, y2⟩ := y
        rw [Bool.eq_iff_iff]
        simp
      rw [q]
      exact h
    · have h1' : j < 2 := h1
      match j, h1' with
      | 0, _ => exact SeqAt.EqAt.int_int x.1 t y.1 u
      | 1, _ => exact fun p v E' Q' hq => wpAny_eqBool_tuple (knd := mixKind p v) (A := A.in1) hu (key_other hka) (key_other hkb) hq
theorem quiet_tuple {m : Nat} {ks : List Key} {a : Addr} {Q : Bool → Shared → Prop} (hk : IsTupleKey (mixKind prog w) s.heap ks a) (h : Q true s) : wpAny (model prog w) A (eqIsQuiet (m + 1) (.ref a)) Q E s := by
  have hT := hk.typeIs
  obtain ⟨o, items, n, ho, _, hd, hi⟩ := hk
  unfold eqIsQuiet
  refine wpAny_bind (wpAny_specialOf hT F.slot_tuple_eq.lookup ?_)
  show wpAny _ _ (isInstance (.ref a) (.type "tuple") >>= _) _ _ s
  refine wpAny_bind (wpAny_isInstance hT isSubtype_tuple_tuple ?_)
  simp only [Bool.not_true, Bool.false_eq_true, if_false]
  refine wpAny_bind (wpAny_seqItems ho hd ?_)
  refine wpAny_bind ?_
  show wpAny _ _ (forIn items _ _) _ _ s
  rw [← Array.forIn_toList]
  refine wpAny_forIn_list _ (fun rest r s' => r.1 = none ∧ s' = s ∧ ∀ v ∈ rest, carriedByValue v = true) _ ?_ ?_ _ _ ⟨rfl, rfl, hi.byValue⟩
  · rintro v rest r s' ⟨hr, rfl, hall⟩
    rw [eqIsQuiet_byValue _ (hall v List.mem_cons_self)]
    refine wpAny_bind (wpAny_pure ?_)
    simp only [Bool.not_true, Bool.false_eq_true, if_false]
    exact wpAny_pure ⟨rfl, rfl, fun u hu' => hall u (List.mem_cons_of_mem _ hu')⟩
  · rintro ⟨r1, r2⟩ s' ⟨hr, rfl, _⟩
    simp only at hr
    subst hr
    exact wpAny_pure h
theorem nQuiet_walk {k : NK} {a : Addr} {Q : Bool → Shared → Prop} (hk : nIs prog w s.heap k a) (h : Q true s) : wpAny (model prog w) A (eqIsQuiet 8 (.ref a)) Q E s := by
  have hT := hk.typeIs
  obtain ⟨o, b, t, n, ho, _, hd, hi⟩ := hk
  unfold eqIsQuiet
  refine wpAny_bind (wpAny_specialOf hT F.slot_tuple_eq.lookup ?_)
  show wpAny _ _ (isInstance (.ref a) (.type "tuple") >>= _) _ _ s
  refine wpAny_bind (wpAny_isInstance hT isSubtype_tuple_tuple ?_)
  simp only [Bool.not_true, Bool.false_eq_true, if_false]
  refine wpAny_bind (wpAny_seqItems ho hd ?_)
  refine wpAny_bind ?_
  show wpAny _ _ (forIn (#[Value.int k.1 t, Value.ref b] : Array Value) _ _) _ _ s
  rw [← Array.forIn_toList]
  refine wpAny_forIn_list _ (fun rest r s' => r.1 = none ∧ s' = s ∧ (∀ v ∈ rest, carriedByValue v = true ∨ v = .ref b)) _ ?_ ?_ _ _ ⟨rfl, rfl, fun v hv => ?_⟩
  · rintro v rest r s' ⟨hr, rfl, hall⟩
    have fin : ∀ {Q' : Bool → Shared → Prop} {E' : Value → Shared → Prop}, Q' true s' → wpAny (model prog w) A (eqIsQuiet 7 v) Q' E' s' := fun {Q' E'} q => by
      rcases hall v List.mem_cons_self with h1 | h1
      · rw [eqIsQuiet_byValue _ h1]
        exact wpAny_pure q
      · subst h1
        exact quiet_tuple (m := 6) hi q
    refine wpAny_bind (fin ?_)
    simp only [Bool.not_true, Bool.false_eq_true, if_false]
    exact wpAny_pure ⟨rfl, rfl, fun u hu' => hall u (List.mem_cons_of_mem _ hu')⟩
  · rintro ⟨r1, r2⟩ s' ⟨hr, rfl, _⟩
    simp only at hr
    subst hr
    exact wpAny_pure h
  · have hv' : v ∈ [Value.int k.1 t, Value.ref b] := hv
    rcases List.mem_cons.mp hv' with e | e
    · rw [e]
      exact .inl rfl
    · exact .inr (List.mem_singleton.mp e)
def nestKind (prog : Program) (w : World) : HeapKind prog w NK where
  is := nIs prog w
  hash := nHash prog w
  draws := nDraws
  room := fun A => A.units + 1 < cLine
  inj := fun hx hy => hx.inj hy
  keeps := fun x ho hd hs => x.keeps ho hd hs
  pyHash := fun hu hk h => nHash_walk hu hk h
  eqBool := fun hu hx hy h => nEq_walk hu hx hy h
  quiet := fun hk h => nQuiet_walk hk h
end
end SRN

/-! ### SRN2 -/
set_option maxHeartbeats 4000000
namespace SRN
open PySem PySem.Spec PyProof.Rows L2
/-- a dict's entries: key, its tuple, the int -/
abbrev NKV := List (NK × Addr × Int)
def nRel : NK × Addr × Int → NK × Addr × Value → Prop := fun p q => p.1 = q.1 ∧ p.2.1 = q.2.1 ∧ RelV (.int p.2.2) q.2.2
def nestAt (P : Program) (w : World) (a : Addr) (kvs : NKV) : HO := .ext fun h => kvs.length ≤ sizeLine ∧ (a == sysModules) = false ∧ ∃ ys : List (NK × Addr × Value), Paired nRel kvs ys ∧
  (∃ o es ep, h.get? a = some o ∧ o.ExactDict ∧ o.data = .dict es ep ∧ es.toList = ys.map (entryOfKey (nestKind P w))) ∧ (ys.map (·.1)).Nodup
/-- the key k stands at c -/
def KeyAt (H : Hp) (k : NK) (c : Addr) : Prop := ∃ b : Addr, H c = some (.tup [.int k.1, .ref b]) ∧ H b = some (.tup (k.2.map kV))
def KeysOk (H : Hp) (kvs : NKV) : Prop := ∀ p ∈ kvs, KeyAt H p.1 p.2.1
def valN (kvs : NKV) (k : NK) : Option Int := (kvs.find? fun p => decide (p.1 = k)).map (·.2.2)
theorem KeyAt.same {H H' : Hp} {k : NK} {c : Addr} (s : Same H H') (h : KeyAt H k c) : KeyAt H' k c := let ⟨b, h1, h2⟩ := h; ⟨b, s _ _ h1, s _ _ h2⟩
theorem KeysOk.same {H H' : Hp} {kvs : NKV} (s : Same H H') (h : KeysOk H kvs) : KeysOk H' kvs := fun p hp => (h p hp).same s
theorem ext_ne {φ : Heap → Prop} {o : HO} (h : ∀ ψ, o ≠ .ext ψ) : HO.ext φ ≠ o := fun e => h φ e.symm
theorem nest_tup {P : Program} {w : World} {a : Addr} {kvs : NKV} {xs : List V} : HO.tup xs ≠ nestAt P w a kvs := fun z => by
  have z' : HO.tup xs = HO.ext _ := z
  cases z'
/-- behind a store at the dict -/
theorem KeyAt.upd {P : Program} {w : World} {H : Hp} {k : NK} {c a : Addr} {kvs : NKV} {o : HO} (ha : H a = some (nestAt P w a kvs)) (h : KeyAt H k c) : KeyAt (upd H a o) k c := by
  obtain ⟨b, h1, h2⟩ := h
  exact ⟨b, by rw [upd_ne (ne_of h1 ha nest_tup)]; exact h1, by rw [upd_ne (ne_of h2 ha nest_tup)]; exact h2⟩
section
variable {X : Cx} {pins : List (Addr × Obj)} {σ : L2.St} {H : Hp} {s : Shared} {a : Addr} {kvs : NKV}
theorem nkey_of {P : Program} {w : World} {h : Heap} {k : NK} {c : Addr} (ok : HOk P w H h) (e : KeyAt H k c) : (nestKind P w).is h k c := by
  obtain ⟨b, h1, h2⟩ := e
  obtain ⟨_, its, r, o, q1, q2, n, q3⟩ := (show ObjOk P w H h c (.tup [.int k.1, .ref b]) from ok c _ h1)
  have kb : IsTupleKey (mixKind P w) h k.2 b := key_of ok h2
  cases r with
  | cons r1 t =>
    cases t with
    | cons r2 t2 =>
      cases t2
      obtain ⟨t, rfl⟩ := r1
      cases r2
      exact ⟨o, b, t, n, q1, q2, q3, kb⟩
theorem nest_of {P : Program} {w : World} {h : Heap} (ok : HOk P w H h) (e : H a = some (nestAt P w a kvs)) (ke : KeysOk H kvs) :
    kvs.length ≤ sizeLine ∧ (a == sysModules) = false ∧ ∃ ys, Paired nRel kvs ys ∧ h.DictOfH (nestKind P w) a ys := by
  obtain ⟨⟨z, y, ys, r, ⟨o, es, ep, h1, h2, h3, h4⟩, h5⟩, _⟩ := (show ObjOk P w H h a (.ext _) from ok a _ e)
  refine ⟨z, y, ys, r, o, es, ep, h1, h2, h3, h4, ?_, h5⟩
  have all : ∀ {l : NKV} {m : List (NK × Addr × Value)}, Paired nRel l m → KeysOk H l → ∀ x ∈ m, (nestKind P w).is h x.1 x.2.1 := by
    intro l m q
    induction q with
    | nil => intro _ x hx; exact nomatch hx
    | @cons p q ps qs hq t ih =>
      intro hk x hx
      rcases List.mem_cons.mp hx with e | hx
      · subst e
        obtain ⟨q1, q2, _⟩ := hq
        rw [← q1, ← q2]
        exact nkey_of ok (hk p (List.mem_cons_self ..))
      · exact ih (fun p hp => hk p (List.mem_cons_of_mem _ hp)) x hx
  exact all r ke
theorem nrel_val {kvs : NKV} {ys : List (NK × Addr × Value)} (r : Paired nRel kvs ys) (k : NK) : RelO ((valN kvs k).map V.int) ((atKey ys k).map (·.2)) := by
  induction r with
  | nil => exact True.intro
  | @cons p q ps qs h t ih =>
    obtain ⟨h1, h2, h3⟩ := h
    by_cases e : p.1 = k
    · have e' : q.1 = k := h1.symm.trans e
      have b1 : valN (p :: ps) k = some p.2.2 := by simp [valN, List.find?_cons, e]
      have b2 : atKey (q :: qs) k = some q.2 := by simp [atKey, List.find?_cons, e']
      rw [b1, b2]
      exact h3
    · have e' : ¬ q.1 = k := fun z => e (h1.trans z)
      have b1 : valN (p :: ps) k = valN ps k := by simp [valN, List.find?_cons, e]
      have b2 : atKey (q :: qs) k = atKey qs k := by simp [atKey, List.find?_cons, e']
      rw [b1, b2]
      exact ih
theorem room_n {A : Around} (hu : A.units + 64 < cLine) : A.in1.units + 1 < cLine := by
  show A.units + 1 + 1 < cLine
  omega
/-! ## rules -/
def rNotInN (P : Program) (w : World) : R2 := fun x y H Q => ∃ (c a : Addr) (k : NK) (kvs : NKV), x = .ref c ∧ y = .ref a ∧ H a = some (nestAt P w a kvs) ∧ KeysOk H kvs ∧ KeyAt H k c ∧ Q (.bl (!(valN kvs k).isSome)) H
theorem op_nnotin (hu : X.A.units + 64 < cLine) : OpR X (compareOp .NotIn) (rNotInN X.prog X.w) := by
  intro pins s σ H x y v u Q I rx ry h
  obtain ⟨c, a, k, kvs, rfl, rfl, ha, ke, kc, q⟩ := h
  cases rx
  cases ry
  obtain ⟨z, hd, ys, rel, dd⟩ := nest_of I.hok ha ke
  refine wpAny_notIn_heap (room_n hu) (nkey_of I.hok kc) hd dd ?_
  have e := (nrel_val rel k).isSome_eq
  rw [Option.isSome_map, Option.isSome_map] at e
  rw [← e]
  exact ⟨.bl _, H, I.tok _, rfl, q⟩
def rIxN (P : Program) (w : World) : R2 := fun x y H Q => ∃ (a c : Addr) (k : NK) (kvs : NKV) (i : Int), x = .ref a ∧ y = .ref c ∧ H a = some (nestAt P w a kvs) ∧ KeysOk H kvs ∧ KeyAt H k c ∧ valN kvs k = some i ∧ Q (.int i) H
theorem pe_nget {o i : Expr} {pos : Pos} {td ty : TE} (hu : X.A.units + 64 < cLine) (ho : PE X o td) (hi : PE X i ty) (hs : NoSl i) : PE X (.Subscript o i pos) (tOp (rIxN X.prog X.w) td ty) := by
  refine ⟨fun pins s σ H Q I h => ?_⟩
  refine subD_of PySem.F.slot_dict_getitem.lookup hs (thn (ho.run pins s σ H _ I h) fun u s1 ⟨x, H1, I1, rx, q1⟩ => thn (hi.run pins s1 σ H1 _ I1 q1) fun iv s2 ⟨y, H2, I2, ry, a, c, k, kvs, j, ex, ey, ha, ke, kc, hv, q2⟩ => ?_)
  subst ex ey
  obtain rfl : u = Value.ref a := rx
  obtain rfl : iv = Value.ref c := ry
  obtain ⟨z, hd, ys, rel, dd⟩ := nest_of I2.hok ha ke
  refine ⟨dd.typeIs, ?_⟩
  have e := nrel_val rel k
  rw [hv] at e
  obtain ⟨w', hw, rw'⟩ := RelO.some_of (v := .int j) (o := (atKey ys k).map (·.2)) (by exact e)
  obtain ⟨p, hp, hp2⟩ := Option.map_eq_some_iff.mp hw
  refine wpAny_getItem_heap (room_n hu) (nkey_of I2.hok kc) dd hp ?_
  rw [hp2]
  exact ⟨.int j, H2, I2.tok _, rw', q2⟩
/-- d[k] = i, k not yet there -/
def tSetN (P : Program) (w : World) : TSet := fun o y v H Q => ∃ (a c : Addr) (k : NK) (kvs : NKV) (i : Int), o = .ref a ∧ y = .ref c ∧ v = .int i ∧ H a = some (nestAt P w a kvs) ∧ KeysOk H kvs ∧ KeyAt H k c ∧ valN kvs k = none ∧ kvs.length < sizeLine ∧
  Q (upd H a (nestAt P w a (kvs ++ [(k, c, i)])))
theorem set_nest (hu : X.A.units + 64 < cLine) : PSet X (tSetN X.prog X.w) := by
  intro pins s σ H o y v ov iv u Q I ro ry rv h
  obtain ⟨a, c, k, kvs, i, rfl, rfl, rfl, ha, ke, kc, hv, hl, q⟩ := h
  cases ro
  cases ry
  obtain ⟨z, hd, ys, rel, dd⟩ := nest_of I.hok ha ke
  have hlen : kvs.length = ys.length := Paired.length rel
  refine wpAny_setItem_heap (hsz := by rw [← hlen]; exact z) (room_n hu) (nkey_of I.hok kc) dd fun h' dd' hs => ?_
  have hn : atKey ys k = none := by
    have e := nrel_val rel k
    rw [hv] at e
    cases q2 : atKey ys k with
    | none => rfl
    | some p =>
      rw [q2] at e
      exact e.elim
  rw [storedH_new hn] at dd'
  obtain ⟨ob, es, ep, hq, h2, h3, h4, _, h5⟩ := dd'
  refine ⟨_, d_write (t' := s.toks + (nestKind X.prog X.w).draws k) (ob := nestAt X.prog X.w a (kvs ++ [(k, c, i)])) I (by rw [ha]; exact True.intro) hs ⟨ob, hq⟩ ⟨⟨by rw [List.length_append, List.length_singleton]; omega, hd, _, Paired.snoc rel (show nRel (k, c, i) (k, c, u) from ⟨rfl, rfl, rv⟩), ⟨ob, es, ep, hq, h2, h3, h4⟩, h5⟩, ⟨ob, hq⟩, ?_⟩, q⟩
  rintro g1 g2 ⟨z1, z2, ys', r', ⟨o', es', ep', e1, e2, e3, e4⟩, z3⟩ kp
  exact ⟨z1, z2, ys', r', ⟨o', es', ep', kp _ e1, e2, e3, e4⟩, z3⟩
def rLenN (P : Program) (w : World) : List V → Hp → VK → Prop := fun xs H Q => ∃ (a : Addr) (kvs : NKV), xs = [.ref a] ∧ H a = some (nestAt P w a kvs) ∧ KeysOk H kvs ∧ Q (.int ((kvs.length : Nat) : Int)) H
theorem call_lenN : CallR X (.builtin "len") (rLenN X.prog X.w) := by
  intro pins s σ H xs us Q I r h
  obtain ⟨p, kvs, rfl, hp, ke, q⟩ := h
  obtain ⟨u, rfl, rx⟩ := vals1 r
  obtain rfl : u = .ref p := rx
  obtain ⟨z, hd, ys, rel, dd⟩ := nest_of I.hok hp ke
  have hl : kvs.length = ys.length := Paired.length rel
  refine call_len_dictH hd dd (by rw [← hl]; rw [sizeLine_eq] at z; omega) ?_
  rw [← hl]
  exact ⟨.int ((kvs.length : Nat) : Int), H, I.tok _, ⟨_, rfl⟩, q⟩
/-- {}, to be such a dict -/
def tDNewN (P : Program) (w : World) : TE := fun _ H Q => ∀ p, H p = none → Q (.ref p) (upd H p (nestAt P w p []))
theorem pe_dnewN {pos : Pos} : PE X (.Dict [] [] pos) (tDNewN X.prog X.w) := ⟨fun pins s σ H Q I h => by
  refine wpAny_Dict_empty ⟨.ref s.heap.objs.size, _, I.laid (a := s.heap.objs.size) (o := nestAt X.prog X.w s.heap.objs.size []) (t' := s.toks) (fun _ _ q => Heap.get?_push_of_some _ q) (Nat.le_refl _) ?_, rfl, h _ (I.hok.fresh (Nat.le_refl _))⟩
  refine ⟨⟨Nat.zero_le _, beq_eq_false_iff_ne.mpr (Ne.symm (Nat.ne_of_lt I.big)), [], .nil, ⟨_, #[], 0, Heap.get?_push_size _ rfl, ⟨rfl, rfl, rfl⟩, rfl, rfl⟩, List.nodup_nil⟩, ⟨_, Heap.get?_push_size _ rfl⟩, ?_⟩
  rintro g1 g2 ⟨z1, z2, ys', r', ⟨o', es', ep', e1, e2, e3, e4⟩, z3⟩ kp
  exact ⟨z1, z2, ys', r', ⟨o', es', ep', kp _ e1, e2, e3, e4⟩, z3⟩⟩
end
end SRN

/-! ### SRR -/
set_option maxHeartbeats 4000000
/-! More rules: list(d.values()), len(set(xs)), a display with one tuple key. -/
namespace SRR
open PySem PySem.Spec PyProof.Rows L2
/-! ## list(d.values()) -/
def tListVals (te : TE) : TE := fun σ H Q => te σ H fun x H1 => ∃ (d : Addr) (kvs : List (Key × V)), x = .ref d ∧ H1 d = some (.dK kvs) ∧ ∀ p, H1 p = none → Q (.ref p) (upd H1 p (.lst (kvs.map (·.2))))
theorem vals_snd : ∀ {kvs : List (Key × V)} {vs : List (Key × Value)}, KV kvs vs → Vals (kvs.map (·.2)) (vs.map (·.2))
  | _, _, .nil => .nil
  | _, _, .cons h t => .cons h.2 (vals_snd t)
section
variable {X : Cx} {e : Expr} {te : TE} {p apos cpos pos : Pos}
theorem pe_listVals (hc : X.calm = true) (he : PE X e te) (hg : Gl X "list") (hm : X.mg "list" = none) (hbase : attributeBase e "values" X.env (eval e X.env) = eval e X.env := by rfl) (hline : (apos.endLine == cpos.line) = true := by rfl)
    (hs : starEach [.Call (.Attribute e "values" apos) [] [] cpos] X.env = (false, eval (.Call (.Attribute e "values" apos) [] [] cpos) X.env) :: starEach [] X.env := by rfl) :
    PE X (.Call (.Name "list" p) [.Call (.Attribute e "values" apos) [] [] cpos] [] pos) (tListVals te) := by
  refine ⟨fun pins s σ H Q I hq => ?_⟩
  refine wpAny_Call_Name_kw (ld_blt I hg hm (u := .type "list") (by decide +kernel) ?_)
  refine PyProof.Rows.callWith_type1 ?_ hs rfl
  rw [hs]
  show wpAny _ _ (spliced ((false, eval (.Call (.Attribute e "values" apos) [] [] cpos) X.env) :: backTo pos (starEach [] X.env))) _ _ s
  refine Calls.spliced_cons ?_
  refine wpAny_Call_method (T := "dict") (id := "dict.values") hbase rfl hline F.plainAttrs_dict F.slot_dict_values F.type_dict_values (thn (he.run pins s σ H _ I hq) fun u s1 ⟨x, H1, I1, rx, d, kvs, ex, hd, q⟩ => ?_)
  subst ex
  obtain rfl : u = Value.ref d := rx
  obtain ⟨hz, hs0, vs, kv, hdo⟩ := I1.hok d _ hd
  obtain ⟨ep, hat⟩ := hdo.dictAt
  have lk : kvs.length = vs.length := Paired.length kv
  have I2 : Inv X pins σ H1 { s1 with heap := s1.heap.push { cls := .type "dict_values", data := .fields #[.ref d] } } := I1.kept (t' := s1.toks) fun b ob q => Heap.get?_push_of_some _ q
  refine ⟨hdo.typeIs, hdo.mapOf.noDict, ?_⟩
  show wpAny _ _ (callWith cpos (.builtin "dict.values") [.ref d] [] []) _ X.xe s1
  refine method_meetsIn F.slot_dict_values F.entry_dict_values rfl (PySem.evalArgs_none ⟨rfl, hdo.typeIs, F.args_dict_values_1 _, _, meets_dict_values (mixKind X.prog X.w) d hs0, ⟨vs, hdo⟩, ?_⟩)
  refine Calls.spliced_nil ?_
  refine PySem.W.kdl_call (PySem.W.kdl_values (knd := mixKind X.prog X.w) (kvs := vs) (ep := ep) (d := d) (r := s1.heap.objs.size)) (I1.ok.hd hc) ⟨⟨_, Heap.get?_push_size _ rfl, rfl, rfl⟩, hat.push _⟩ (by omega) fun h' tk acc c hk hS hacc => ?_
  have ev : acc.toList = vs.map (·.2) := PySem.W.kdl_vals_eq acc.toList (by rw [Array.length_toList]; exact hacc.1) fun j v e => hacc.2 j v (by rw [← Array.getElem?_toList]; exact e)
  refine ⟨.ref _, _, I2.laid (t' := tk) (o := .lst (kvs.map (·.2))) hk (Nat.le_refl _) ⟨by rw [List.length_map]; omega, acc.toList, c, by rw [ev]; exact vals_snd kv, ?_⟩, rfl, q _ (I2.hok.fresh (Nat.le_refl _))⟩
  rw [Array.toArray_toList]
  exact hS
end
/-! ## len(set(xs)) -/
/-- how many differ -/
def cnt (ns : List Int) : Nat := (PyProof.Rows.firstMet (fun i => ns.getD i 0) ns.length).length
def tLenSet (K : PySem.W.Frag) (ta : TE) : TE := fun σ H Q => ta σ H fun x H1 => ∃ (l : Addr) (ns : List Int), x = .ref l ∧ SqL K H1 l (ns.map V.int) ∧ ns.length ≤ 4094 ∧ Q (.int (cnt ns : Nat)) H1
theorem pe_lenSet {X : Cx} {a : Expr} {ta : TE} {p p2 q pos : Pos} (hg : Gl X "len") (hm : X.mg "len" = none) (hg2 : Gl X "set") (hm2 : X.mg "set" = none) (ha : PE X a ta) (hc : X.calm = true := by rfl)
    (na : starEach [a] X.env = (false, eval a X.env) :: starEach [] X.env := by rfl) : PE X (.Call (.Name "len" p) [.Call (.Name "set" p2) [a] [] q] [] pos) (tLenSet X.K ta) := by
  refine ⟨fun pins s σ H Q I h => ?_⟩
  refine Call_ (ld_blt I hg hm boot_len ?_)
  refine PyProof.Rows.callWith_builtin1 (PyProof.Rows.args_cons ?_ rfl) rfl rfl
  refine Call_ (ld_blt I hg2 hm2 boot_set ?_)
  refine PyProof.Rows.callWith_type1 (PyProof.Rows.args_cons (thn (ha.run pins s σ H _ I h) fun v s1 ⟨x, H1, I1, r1, q1⟩ => PyProof.Rows.args_nil ?_) na) na rfl
  obtain ⟨l, ns, rfl, hq, hl, q1⟩ := q1
  cases r1
  obtain ⟨its, r, pl, hz⟩ := I1.list hq
  have hlen : its.toArray.size = ns.length := by rw [List.size_toArray, ← r.length, List.length_map]
  refine call_set_list (I1.ok.hd hc) pl.isList (by simpa using RZ.intsAre_vals r) (by rw [hlen]; unfold scanBound; omega) fun h' tk hS hk => ?_
  refine PyProof.Rows.args_nil ?_
  rw [hlen] at hS
  obtain ⟨o, es, ep, t, ho, hex, hd, _, _, _, hf, hn⟩ := hS
  have I2 : Inv X pins σ H1 { s1 with heap := h', toks := tk } := I1.kept fun b o e => hk b o (Heap.lt_size e) e
  have hb := PyProof.Rows.firstMet_length_le (fun i => ns.getD i 0) ns.length
  exact call_len_set ho hex hd hf (by rw [hn] <;> omega) ⟨.int (cnt ns), H1, I2.tok _, ⟨_, by rw [hn] <;> rfl⟩, q1⟩
theorem firstMet_nd (val : Nat → Int) : ∀ i, (PyProof.Rows.firstMet val i).Nodup
  | 0 => List.nodup_nil
  | i + 1 => by
    have ih := firstMet_nd val i
    rw [PyProof.Rows.firstMet_succ]
    unfold step_dedup
    by_cases h : (PyProof.Rows.firstMet val i).any (· == val i) = true
    · rw [if_pos h]
      exact ih
    · rw [if_neg h]
      refine nd_snoc ih fun m => h (List.any_eq_true.mpr ⟨_, m, by simp⟩)
theorem cnt_spec (ns : List Int) : ∃ D : List Int, D.Nodup ∧ (∀ x, x ∈ D ↔ x ∈ ns) ∧ D.length = cnt ns := by
  refine ⟨_, firstMet_nd (fun i => ns.getD i 0) ns.length, fun x => ?_, rfl⟩
  have h := PyProof.Rows.firstMet_any (fun i => ns.getD i 0) ns.length x
  have e : (List.range ns.length).map (fun i => ns.getD i 0) = ns := by
    apply List.ext_getElem?
    intro i
    rw [List.getElem?_map]
    by_cases hi : i < ns.length
    · rw [List.getElem?_range hi, Option.map_some, List.getElem?_eq_getElem hi, List.getD_eq_getElem?_getD, List.getElem?_eq_getElem hi] <;> rfl
    · rw [List.getElem?_eq_none (by simpa using hi), List.getElem?_eq_none (by omega)] <;> rfl
  rw [e] at h
  have a1 : ∀ l : List Int, (l.any (· == x) = true) ↔ x ∈ l := fun l => by simp
  rw [← a1, ← a1, h]
/-! ## {k: v}, k a tuple of ints and texts -/
def tDisp1T (tk tv : TE) : TE := fun σ H Q => ∀ p, H p = none → tk σ (upd H p (.dT [])) fun x H1 => tv σ H1 fun y H2 => ∃ (b : Addr) (ks : List Key), x = .ref b ∧ H2 p = some (.dT []) ∧ H2 b = some (.tup (ks.map kV)) ∧ Q (.ref p) (upd H2 p (.dT [(ks, y)]))
theorem pe_disp1T {X : Cx} {pos : Pos} {k v : Expr} {tk tv : TE} (hu : X.A.units + 1 < cLine) (hk : PE X k tk) (hv : PE X v tv) : PE X (.Dict [some k] [v] pos) (tDisp1T tk tv) := by
  refine ⟨fun pins s σ H Q I q => ?_⟩
  have hn := I.hok.fresh (Nat.le_refl s.heap.objs.size)
  have I1 := I.laid (a := s.heap.objs.size) (o := .dT []) (h' := s.heap.push { cls := .type "dict", data := .dict #[] }) (t' := s.toks) (fun _ _ q => Heap.get?_push_of_some _ q) (Nat.le_refl _) (dt_empty s.heap I.big)
  rw [arm_eval_Dict, zip_pairTrees [some k] [v] X.env pos rfl rfl, dictDisplay_pairs (pairTrees [some k] [v] X.env pos) (by simp [pairTrees]) (by simp [pairTrees])]
  refine wpAny_bind (wpAny_standAt (wpAny_bind ?_))
  unfold subDict
  refine wpAny_bind (wpAny_alloc ?_)
  refine wpAny_bind (wpAny_holding ?_)
  rw [if_pos (by simp [pairTrees])]
  refine wpAny_bind (pairTrees_cons_walk (thn (hk.run pins _ σ _ _ I1 (q _ hn)) fun u s1 ⟨x, H1, J1, rx, q1⟩ => thn (hv.run pins s1 σ H1 _ J1 q1) fun w2 s2 ⟨y, H2, J2, ry, b, ks, ex, hp, hb, q2⟩ => pairTrees_nil_walk ?_))
  subst ex
  obtain rfl : u = Value.ref b := rx
  obtain ⟨z, hd, xs, rel, dd⟩ := dt_of J2.hok hp
  cases rel
  refine wpAny_holding (wpAny_bind ?_)
  rw [List.forIn_cons]
  refine wpAny_bind (wpAny_bind (wpAny_dictSet_heap (knd := tupleKind (mixKind X.prog X.w)) (hsz := Nat.zero_le _) (show X.A.units < cLine by omega) (key_of J2.hok hb) dd fun h' dd' hs => wpAny_pure ?_))
  show wpAny _ _ (forIn ([] : List (Value × Value)) PUnit.unit _) _ _ _
  rw [List.forIn_nil]
  refine wpAny_pure (wpAny_pure (wpAny_pure (wpAny_pure ⟨.ref s.heap.objs.size, upd H2 s.heap.objs.size (.dT [(ks, y)]), ?_, rfl, q2⟩)))
  obtain ⟨o, es, ep, hq, h2, h3, h4, _, h5⟩ := dd'
  refine d_write J2 (by rw [hp]; exact True.intro) hs ⟨o, hq⟩ ⟨by show 1 ≤ sizeLine; decide, hd, _, .cons ⟨rfl, ?_, ry⟩ .nil, o, es, ep, hq, h2, h3, h4, h5⟩
  have hbp : b ≠ s.heap.objs.size := ne_of hb hp (fun z => nomatch z)
  show upd H2 s.heap.objs.size (.dT [(ks, y)]) b = _
  rw [upd_ne hbp]
  exact hb
end SRR

/-! ### SR2 -/
set_option maxHeartbeats 4000000
namespace SR
open PySem PySem.Spec PyProof.Rows L2 SRR
/-! ## lists of tuples -/
def TupsAt (H : Hp) (a : Addr) (L : List (List Nat)) : Prop :=
  ∃ ts : List Addr, H a = some (.lst (ts.map V.ref)) ∧ ts.length = L.length ∧ ∀ (i : Nat) (t : Addr) (r : List Nat), ts[i]? = some t → L[i]? = some r → H t = some (.tup (r.map nv))
theorem TupsAt.same {H H' : Hp} {a : Addr} {L : List (List Nat)} (s : Same H H') (h : TupsAt H a L) : TupsAt H' a L :=
  let ⟨ts, h1, h2, h3⟩ := h
  ⟨ts, s _ _ h1, h2, fun i t r a b => s _ _ (h3 i t r a b)⟩
theorem TupsAt.upd {H : Hp} {a b : Addr} {o o' : HO} {L : List (List Nat)} (h : TupsAt H a L) (hb : H b = some o) (no : ∀ xs, HO.tup xs ≠ o) (ab : a ≠ b) : TupsAt (upd H b o') a L :=
  let ⟨ts, h1, h2, h3⟩ := h
  ⟨ts, by rw [upd_ne ab]; exact h1, h2, fun i t r a b => by rw [upd_ne (ne_of (h3 i t r a b) hb (no _))]; exact h3 i t r a b⟩
theorem TupsAt.new {H : Hp} {a p : Addr} {o : HO} {L : List (List Nat)} (h : TupsAt H a L) (hp : H p = none) : TupsAt (L2.upd H p o) a L := h.same (same_up1 hp)
theorem TupsAt.rows {K : PySem.W.Frag} {H : Hp} {a : Addr} {L : List (List Nat)} (h : TupsAt H a L) : RowsAt K H a L :=
  let ⟨ts, h1, h2, h3⟩ := h
  ⟨ts, .inl (SqL.of h1), h2, fun i t r a b => SqT.of (h3 i t r a b)⟩
theorem nv_list (L : List (List Nat)) : True := trivial
/-- a tuple more -/
theorem TupsAt.push {H : Hp} {a t : Addr} {L : List (List Nat)} {r : List Nat} {xs : List V} (h : TupsAt H a L) (hx : H a = some (.lst xs)) (ht : H t = some (.tup (r.map nv))) : TupsAt (L2.upd H a (.lst (xs ++ [.ref t]))) a (L ++ [r]) := by
  obtain ⟨ts, h1, h2, h3⟩ := h
  have e : xs = ts.map V.ref := by
    rw [hx] at h1
    injection h1 with h1
    injection h1
  subst e
  refine ⟨ts ++ [t], by rw [upd_same, List.map_append] <;> rfl, by rw [List.length_append, List.length_append, h2] <;> rfl, fun i u q hi hq => ?_⟩
  have key : ∀ {z : Addr} {y : List V}, H z = some (.tup y) → L2.upd H a (.lst (ts.map V.ref ++ [.ref t])) z = some (.tup y) := fun {z y} hz => by
    rw [upd_ne (ne_of hz hx (fun z => nomatch z))]
    exact hz
  by_cases hl : i < ts.length
  · rw [List.getElem?_append_left hl] at hi
    rw [List.getElem?_append_left (by omega)] at hq
    exact key (h3 i u q hi hq)
  · have hi2 := (List.getElem?_eq_some_iff.mp hi).1
    rw [List.length_append, List.length_singleton] at hi2
    have ei : i = ts.length := by omega
    subst ei
    rw [List.getElem?_append_right (Nat.le_refl _), Nat.sub_self] at hi
    rw [h2, List.getElem?_append_right (Nat.le_refl _), Nat.sub_self] at hq
    have e1 : t = u := Option.some.inj hi
    have e2 : r = q := Option.some.inj hq
    rw [← e1, ← e2]
    exact key ht
theorem TupsAt.at_ {H : Hp} {a : Addr} {L : List (List Nat)} {i : Nat} {r : List Nat} {xs : List V} (h : TupsAt H a L) (hx : H a = some (.lst xs)) (hi : L[i]? = some r) : ∃ t, xs[i]? = some (.ref t) ∧ H t = some (.tup (r.map nv)) := by
  obtain ⟨ts, h1, h2, h3⟩ := h
  have e : xs = ts.map V.ref := by
    rw [hx] at h1
    injection h1 with h1
    injection h1
  subst e
  have hlt := (List.getElem?_eq_some_iff.mp hi).1
  have ht : ts[i]? = some ts[i] := List.getElem?_eq_getElem (by omega)
  exact ⟨ts[i], by rw [List.getElem?_map, ht] <;> rfl, h3 i _ r ht hi⟩
theorem TupsAt.len {H : Hp} {a : Addr} {L : List (List Nat)} {xs : List V} (h : TupsAt H a L) (hx : H a = some (.lst xs)) : xs.length = L.length := by
  obtain ⟨ts, h1, h2, h3⟩ := h
  rw [hx] at h1
  injection h1 with h1
  injection h1 with h1
  rw [h1, List.length_map, h2]
theorem TupsAt.lst {H : Hp} {a : Addr} {L : List (List Nat)} (h : TupsAt H a L) : ∃ xs, H a = some (.lst xs) ∧ xs.length = L.length :=
  let ⟨ts, h1, h2, _⟩ := h
  ⟨_, h1, by rw [List.length_map, h2]⟩
theorem TupsAt.nil {H : Hp} {a : Addr} (h : H a = some (.lst [])) : TupsAt H a [] := ⟨[], h, rfl, fun i t r hi _ => by simp at hi⟩
/-! ## dicts from tuples to places -/
def lk (p : List Nat) : List Key := p.map nk
theorem lk_inj : ∀ {p q : List Nat}, lk p = lk q → p = q
  | [], [], _ => rfl
  | [], _ :: _, h => by cases h
  | _ :: _, [], h => by cases h
  | a :: p, b :: q, h => by
    have h' : nk a :: lk p = nk b :: lk q := h
    injection h' with h1 h2
    rw [nk_inj h1, lk_inj h2]
theorem lk_tup (p : List Nat) : (lk p).map kV = p.map nv := by
  unfold lk
  rw [List.map_map] <;> rfl
def ixD (l : List (List Nat)) : List (List Key × V) := l.zipIdx.map fun p => (lk p.1, nv p.2)
theorem ixD_len (l : List (List Nat)) : (ixD l).length = l.length := by
  unfold ixD
  rw [List.length_map, List.length_zipIdx]
theorem ixD_keys (l : List (List Nat)) : (ixD l).map (·.1) = l.map lk := by
  unfold ixD
  rw [List.map_map]
  have e : ((fun x : List Key × V => x.1) ∘ fun p : List Nat × Nat => (lk p.1, nv p.2)) = fun p => lk p.1 := rfl
  rw [e]
  have e2 : (fun p : List Nat × Nat => lk p.1) = lk ∘ Prod.fst := rfl
  rw [e2, ← List.map_map, List.zipIdx_map_fst]
theorem ixD_snoc (l : List (List Nat)) (p : List Nat) : ixD (l ++ [p]) = ixD l ++ [(lk p, nv l.length)] := by
  unfold ixD
  rw [List.zipIdx_append, List.map_append]
  simp
theorem ixD_none {l : List (List Nat)} {p : List Nat} (h : ¬ p ∈ l) : valV (ixD l) (lk p) = none := by
  cases e : valV (ixD l) (lk p) with
  | none => rfl
  | some v =>
    have m := valV_in e
    rw [ixD_keys] at m
    obtain ⟨q, hq, e2⟩ := List.mem_map.mp m
    rw [lk_inj e2] at hq
    exact absurd hq h
theorem ixD_some {l : List (List Nat)} {p : List Nat} (hn : l.Nodup) {i : Nat} (h : l[i]? = some p) : valV (ixD l) (lk p) = some (nv i) := by
  have hl : i < l.length := (List.getElem?_eq_some_iff.mp h).1
  have hm : (lk p, nv i) ∈ ixD l := by
    unfold ixD
    refine List.mem_map.mpr ⟨(p, i), ?_, rfl⟩
    refine List.mem_of_getElem? (i := i) ?_
    rw [List.getElem?_zipIdx, h]
    simp
  cases e : valV (ixD l) (lk p) with
  | none => exact absurd (List.mem_map.mpr ⟨_, hm, rfl⟩) (valV_not e)
  | some v =>
    unfold valV at e
    obtain ⟨q, hq, rfl⟩ := Option.map_eq_some_iff.mp e
    have q1 : q.1 = lk p := of_decide_eq_true (p := q.1 = lk p) (by simpa using List.find?_some hq)
    have q2 := List.mem_of_find?_eq_some hq
    unfold ixD at q2
    obtain ⟨⟨p', j⟩, hj, rfl⟩ := List.mem_map.mp q2
    have e1 : p' = p := lk_inj q1
    subst e1
    obtain ⟨k, hk⟩ := List.getElem?_of_mem hj
    rw [List.getElem?_zipIdx] at hk
    obtain ⟨z, hz, ez⟩ := Option.map_eq_some_iff.mp hk
    have z1 : z = p' := congrArg Prod.fst ez
    have z2 : 0 + k = j := congrArg Prod.snd ez
    subst z1
    have : k = i := nd_ix hn hz h
    rw [← z2, this]
    simp
/-! ## comprehensions whose items are known ahead -/
theorem tyesT {σ : L2.St} {H : Hp} {A B : Hp → Prop} (h : A H) : tYes σ H fun b H3 => if b = true then A H3 else B H3 := by
  show if true = true then A H else B H
  rw [if_pos rfl]
  exact h
def MI (H1 : Hp) (D : Addr) (ys : List V) (i : Nat) (H : Hp) : Prop := Same H1 H ∧ H D = some (.lst (ys.take i))
theorem MI.start {H1 : Hp} {D : Addr} {ys : List V} (hD : H1 D = none) : MI H1 D ys 0 (upd H1 D (.lst [])) := ⟨same_up1 hD, upd_same⟩
theorem take_succ {α : Type} {l : List α} {i : Nat} {x : α} (h : l[i]? = some x) : l.take (i + 1) = l.take i ++ [x] := by
  rw [List.take_add_one, h] <;> rfl
theorem MI.step {H1 H : Hp} {D : Addr} {ys : List V} {i : Nat} {y : V} (m : MI H1 D ys i H) (hy : ys[i]? = some y) (hD : H1 D = none) (hz : ys.length ≤ sizeLine) :
    ∃ acc, H D = some (.lst acc) ∧ acc.length < sizeLine ∧ MI H1 D ys (i + 1) (upd H D (.lst (acc ++ [y]))) := by
  have hl := (List.getElem?_eq_some_iff.mp hy).1
  refine ⟨_, m.2, ?_, same_upd m.1 hD, by rw [upd_same, take_succ hy]⟩
  rw [List.length_take]
  omega
theorem MI.fin {H1 H : Hp} {D : Addr} {ys : List V} {n : Nat} (m : MI H1 D ys n H) (h : ys.length = n) : Same H1 H ∧ H D = some (.lst ys) := by
  obtain ⟨m1, m2⟩ := m
  rw [← h, List.take_length] at m2
  exact ⟨m1, m2⟩
theorem MI.other {H1 H : Hp} {D : Addr} {ys : List V} {i : Nat} {p : Addr} {o : HO} (m : MI H1 D ys i H) (hp : H p = none) : MI H1 D ys i (upd H p o) :=
  ⟨same_new m.1 hp, by rw [upd_ne (ne_of_none m.2 hp)]; exact m.2⟩
/-! ## for i, x in enumerate(xs) -/
theorem for_enum {K : PySem.W.Frag} {a : Addr} {xs : List V} {g : TG} {tb : TS} {D : Ends} {σ : L2.St} {H : Hp} (Pv : Nat → L2.St → Hp → Prop) (h0 : Pv 0 σ H) (hl : ∀ i σ H, i ≤ xs.length → Pv i σ H → SqL K H a xs)
    (hs : ∀ (i : Nat) (x : V) (T : Addr) (σ : L2.St) (H : Hp), xs[i]? = some x → Pv i σ H → H T = none → g (.ref T) σ (upd H T (.tup [.int (i : Nat), x])) fun σ2 H2 => tb { D with nx := Pv (i + 1), ct := Pv (i + 1), bk := D.nx } σ2 H2) (hd : ∀ σ H, Pv xs.length σ H → D.nx σ H) :
    ∃ W : Nat → Nat → L2.St → Hp → Prop, (∃ m, W 0 m σ H) ∧ ∀ i m σ H, W i m σ H →
      ((Ite K a).stop i H ∧ D.nx σ H) ∨ ((Ite K a).go i H ∧ ∃ N : L2.St → Hp → Prop, (∀ σ' H', N σ' H' → ∃ m', m' < m ∧ W (i + 1) m' σ' H') ∧ ∀ x H', (Ite K a).yld i H x H' → g x σ H' fun σ2 H2 => tb { D with nx := N, ct := N, bk := D.nx } σ2 H2) := by
  refine ⟨fun i m σ H => m = xs.length - i ∧ i ≤ xs.length ∧ Pv i σ H, ⟨xs.length, by simp, Nat.zero_le _, h0⟩, ?_⟩
  rintro i m σ H ⟨rfl, hi, p⟩
  have q := hl i σ H hi p
  by_cases hlt : i < xs.length
  · refine .inr ⟨⟨xs, xs[i], q, by simp [hlt]⟩, Pv (i + 1), fun σ' H' p' => ⟨xs.length - (i + 1), by omega, rfl, hlt, p'⟩, fun v H' y => ?_⟩
    obtain ⟨T, x, ev, hT, eH, hx⟩ := y
    subst ev eH
    exact hs i x T σ H (hx xs q) p hT
  · have e : i = xs.length := by omega
    subst e
    exact .inl ⟨⟨xs, q, Nat.le_refl _⟩, hd σ H p⟩
end SR

/-! ### SR3 -/
set_option maxHeartbeats 4000000
namespace SR
open PySem PySem.Spec PyProof.Rows L2 SRR
/-! ## both_read -/
abbrev sBothRead : Stmt := top 34
theorem scBothRead : FnScope ["rows", "others", "numbers", "pairs", "nexts", "one", "other", "row", "letter", "behind"] ["rows", "others"] (defScope sBothRead) := ⟨rfl, rfl, rfl, by decide +kernel, rfl, by decide +kernel, by decide +kernel⟩
def spBothRead (K : PySem.W.Frag) : Sp := fun vs H Q _ => ∃ (a b : Addr) (A B : List (List Nat)), vs = [.ref a, .ref b] ∧ RowsAt K H a A ∧ RowsAt K H b B ∧ OkR A ∧ OkR B ∧ A.length * B.length ≤ 60000 ∧
  ∀ (H' : Hp) (t pa ne : Addr) (order nexts : List (List Nat)), Same H H' → H pa = none → H ne = none → H' t = some (.tup [.ref pa, .ref ne]) → TupsAt H' pa order → TupsAt H' ne nexts → Expl (dl2 A B) [0, 0] order nexts → order.length ≤ nexts.length →
    order.length ≤ A.length * B.length → Q (.ref t) H'
/-- an item of a row -/
theorem row_item {A : List (List Nat)} (ok : OkR A) {s l : Nat} (hs : s < A.length) (hl : l < 4) : ∃ r, A[s]? = some r ∧ r[l]? = some (dl A s l) ∧ r.length = 4 := by
  obtain ⟨a, b, c, d, e⟩ := ok.row4 hs
  have h4 : ([a, b, c, d] : List Nat).length = 4 := rfl
  obtain ⟨x, hx⟩ : ∃ x, [a, b, c, d][l]? = some x := ⟨[a, b, c, d][l], List.getElem?_eq_getElem (by rw [h4]; exact hl)⟩
  exact ⟨_, e, by rw [dl_of e hx]; exact hx, rfl⟩
/-- the objects of the exploring loop -/
structure EX (H : Hp) (nu pa ne : Addr) (H' : Hp) (order nexts : List (List Nat)) : Prop where
  same : Same H H'
  nn : H nu = none
  pn : H pa = none
  en : H ne = none
  np : nu ≠ pa
  nq : nu ≠ ne
  pq : pa ≠ ne
  du : H' nu = some (.dT (ixD order))
  ap : TupsAt H' pa order
  ae : TupsAt H' ne nexts
theorem EX.new {H : Hp} {nu pa ne : Addr} {H' : Hp} {order nexts : List (List Nat)} {p : Addr} {o : HO} (h : EX H nu pa ne H' order nexts) (hp : H' p = none) : EX H nu pa ne (upd H' p o) order nexts :=
  ⟨same_new h.same hp, h.nn, h.pn, h.en, h.np, h.nq, h.pq, by rw [upd_ne (ne_of_none h.du hp)]; exact h.du, h.ap.new hp, h.ae.new hp⟩
/-- a list of our own is changed -/
theorem EX.upd {H : Hp} {nu pa ne : Addr} {H' : Hp} {order nexts : List (List Nat)} {p : Addr} {xs : List V} {o : HO} (h : EX H nu pa ne H' order nexts) (hp : H' p = some (.lst xs)) (h0 : H p = none) (h1 : pa ≠ p) (h2 : ne ≠ p) : EX H nu pa ne (L2.upd H' p o) order nexts :=
  ⟨same_upd h.same h0, h.nn, h.pn, h.en, h.np, h.nq, h.pq, by rw [upd_ne (ne_of h.du hp (fun z => nomatch z))]; exact h.du, h.ap.upd hp (fun _ z => nomatch z) h1, h.ae.upd hp (fun _ z => nomatch z) h2⟩
/-- a state more: the dict, then the list -/
theorem nv_len {xs : List V} {n : Nat} (h : xs.length = n) : V.int ((xs.length : Nat) : Int) = nv n := by
  rw [h] <;> rfl
theorem EX.grow {H : Hp} {nu pa ne : Addr} {H' : Hp} {order nexts : List (List Nat)} {t : Addr} {p : List Nat} {xs : List V} (h : EX H nu pa ne H' order nexts) (hn : ¬ p ∈ order) (hx : H' pa = some (.lst xs)) (ht : H' t = some (.tup (p.map nv))) :
    EX H nu pa ne (L2.upd (L2.upd H' nu (.dT (putK (ixD order) (lk p) (.int ((xs.length : Nat) : Int))))) pa (.lst (xs ++ [.ref t]))) (order ++ [p]) nexts := by
  rw [nv_len (h.ap.len hx)]
  have hx2 : (L2.upd H' nu (.dT (putK (ixD order) (lk p) (nv order.length)))) pa = some (.lst xs) := by rw [upd_ne h.np.symm]; exact hx
  have ht2 : (L2.upd H' nu (.dT (putK (ixD order) (lk p) (nv order.length)))) t = some (.tup (p.map nv)) := by rw [upd_ne (ne_of ht h.du (fun z => nomatch z))]; exact ht
  refine ⟨same_upd (same_upd h.same h.nn) h.pn, h.nn, h.pn, h.en, h.np, h.nq, h.pq, ?_, (h.ap.upd h.du (fun _ z => nomatch z) h.np.symm).push hx2 ht2, (h.ae.upd h.du (fun _ z => nomatch z) h.nq.symm).upd hx2 (fun _ z => nomatch z) h.pq.symm⟩
  rw [upd_ne h.np, upd_same, putK_new _ (ixD_none hn), ixD_snoc]
/-- a row more -/
theorem EX.row {H : Hp} {nu pa ne : Addr} {H' : Hp} {order nexts : List (List Nat)} {t : Addr} {r : List Nat} {xs : List V} (h : EX H nu pa ne H' order nexts) (hx : H' ne = some (.lst xs)) (ht : H' t = some (.tup (r.map nv))) :
    EX H nu pa ne (L2.upd H' ne (.lst (xs ++ [.ref t]))) order (nexts ++ [r]) :=
  ⟨same_upd h.same h.en, h.nn, h.pn, h.en, h.np, h.nq, h.pq, by rw [upd_ne h.nq]; exact h.du, h.ap.upd hx (fun _ z => nomatch z) h.pq, h.ae.push hx ht⟩
theorem EX.start {H : Hp} {nu t0 t1 pa ne : Addr} {p0 : List Nat} (hnu : H nu = none) (ht0 : (L2.upd H nu (.dT [])) t0 = none)
    (ht1 : (L2.upd (L2.upd (L2.upd H nu (.dT [])) t0 (.tup (p0.map nv))) nu (.dT [(lk p0, .int 0)])) t1 = none)
    (hpa : (L2.upd (L2.upd (L2.upd (L2.upd H nu (.dT [])) t0 (.tup (p0.map nv))) nu (.dT [(lk p0, .int 0)])) t1 (.tup (p0.map nv))) pa = none)
    (hne : (L2.upd (L2.upd (L2.upd (L2.upd (L2.upd H nu (.dT [])) t0 (.tup (p0.map nv))) nu (.dT [(lk p0, .int 0)])) t1 (.tup (p0.map nv))) pa (.lst [.ref t1])) ne = none) :
    EX H nu pa ne (L2.upd (L2.upd (L2.upd (L2.upd (L2.upd (L2.upd H nu (.dT [])) t0 (.tup (p0.map nv))) nu (.dT [(lk p0, .int 0)])) t1 (.tup (p0.map nv))) pa (.lst [.ref t1])) ne (.lst [])) [p0] [] := by
  obtain ⟨q1, q2⟩ := upd_none hne
  obtain ⟨q3, q4⟩ := upd_none q2
  obtain ⟨q5, q6⟩ := upd_none q4
  obtain ⟨q7, q8⟩ := upd_none q6
  obtain ⟨_, q9⟩ := upd_none q8
  obtain ⟨r1, r2⟩ := upd_none hpa
  obtain ⟨r3, r4⟩ := upd_none r2
  obtain ⟨r5, r6⟩ := upd_none r4
  obtain ⟨_, r7⟩ := upd_none r6
  obtain ⟨u1, u2⟩ := upd_none ht1
  obtain ⟨u3, u4⟩ := upd_none u2
  obtain ⟨_, u5⟩ := upd_none u4
  obtain ⟨v1, v2⟩ := upd_none ht0
  refine ⟨same_upd (same_upd (same_upd (same_upd (same_upd (same_upd (Same.refl H) hnu) v2) hnu) u5) r7) q9, hnu, r7, q9, r3.symm, q5.symm, q1.symm, ?_, ⟨[t1], ?_, rfl, ?_⟩, .nil upd_same⟩
  · rw [upd_ne q5.symm, upd_ne r3.symm, upd_ne u1.symm, upd_same] <;> rfl
  · rw [upd_ne q1.symm, upd_same] <;> rfl
  · intro i t r hi hr
    match i with
    | 0 =>
      have e1 : t1 = t := Option.some.inj hi
      have e2 : p0 = r := Option.some.inj hr
      rw [← e1, ← e2, upd_ne q3.symm, upd_ne r1.symm, upd_same]
    | i + 1 => simp at hi
section
variable {P : Program} {w : World} {K : PySem.W.Frag} {mg : Str → Option Value} {base : Heap}
theorem ok_bothRead {f : Addr} {fd : FuncData} (F : Fun K "both_read" "both_read" sBothRead f fd) (T : Tx K mg) : FnOk P w K mg base CX0 1 f fd ["rows", "others"] (spBothRead K) := by
  refine F.ok scBothRead (fun vs H Q E h => ?_) (fun cdv A₀ outer s H vs Q E hr h => ?_)
  · obtain ⟨a, b, A, B, rfl, _⟩ := h
    rfl
  · obtain ⟨a, b, A, B, rfl, hA, hB, okA, okB, hsz, k⟩ := h
    have hu := hu_of hr
    have nd := scBothRead.nd
    refine ⟨_,
    (pss_cons (ps_set (i := 2) nd rfl (.inl rfl) (pe_disp1T hu (pe_tup (pa_cons pe_int (pa_cons pe_int (pa_nil)))) pe_int))
    (pss_cons (ps_set (i := 3) nd rfl (.inl rfl) (pe_lst (pa_cons (pe_tup (pa_cons pe_int (pa_cons pe_int (pa_nil)))) (pa_nil))))
    (pss_cons (ps_set (i := 4) nd rfl (.inl rfl) (pe_lst pa_nil))
    (pss_cons (ps_while PassesOwn.never (pt_cmpR op_lt (pe_callB call_len_seq (by rfl) T.len PySem.boot_len (pa_cons (pv 4) (pa_nil))) (pe_callB call_len_seq (by rfl) T.len PySem.boot_len (pa_cons (pv 3) (pa_nil))) (nomark _)) 
      (pss_cons (ps_asg (pe_ix ix_list (pv 3) (pe_callB call_len_seq (by rfl) T.len PySem.boot_len (pa_cons (pv 4) (pa_nil))) (fun _ _ => rfl)) (pg_tup rfl (pgs_cons (pg_name (i := 5) nd rfl (.inl rfl)) (pgs_cons (pg_name (i := 6) nd rfl (.inl rfl)) pgs_nil))))
      (pss_cons (ps_set (i := 7) nd rfl (.inl rfl) (pe_lst pa_nil))
      (pss_cons (ps_for PassesOwn.never rfl (pi_range1 rfl T.range (pa_cons pe_int (pa_nil))) (pg_name (i := 8) nd rfl (.inl rfl)) 
        (pss_cons (ps_set (i := 9) nd rfl (.inl rfl) (pe_tup (pa_cons (pe_ix ix_tup (pe_ix ix_sq (pv 0) (pv 5) (fun _ _ => rfl)) (pv 8) (fun _ _ => rfl)) (pa_cons (pe_ix ix_tup (pe_ix ix_sq (pv 1) (pv 6) (fun _ _ => rfl)) (pv 8) (fun _ _ => rfl)) (pa_nil)))))
        (C8.pss_cut (ps_if (pt_cmp (pc_dnotin hu (pv 9) (pv 2))) 
          (pss_cons (ps_dput hu (pv 2) (pv 9) (pe_callB call_len_seq (by rfl) T.len PySem.boot_len (pa_cons (pv 3) (pa_nil))) rfl)
          (pss_one (ps_expr (pe_bm PySem.F.plainAttrs_list PySem.F.slot_list_append PySem.F.type_list_append mt_append (pv 3) (pa_cons (pv 9) (pa_nil)))))) pss_nil)
        (pss_one (ps_expr (pe_bm PySem.F.plainAttrs_list PySem.F.slot_list_append PySem.F.type_list_append mt_append (pv 7) (pa_cons (pe_dget hu (pv 2) (pv 9) (fun _ _ => rfl)) (pa_nil))))))))
      (pss_one (ps_expr (pe_bm PySem.F.plainAttrs_list PySem.F.slot_list_append PySem.F.type_list_append mt_append (pv 4) (pa_cons (pe_callTy call_tuple_of (by rfl) T.tuple (by decide +kernel) (pa_cons (pv 7) (pa_nil))) (pa_nil)))))))))
    (pss_one (ps_ret (pe_tup (pa_cons (pv 3) (pa_cons (pv 4) (pa_nil)))))))))), ?_⟩
    -- numbers = {(0, 0): 0}
    intro nu hnu
    refine ⟨by show 2 ≤ sizeLine; decide, fun t0 ht0 => ?_⟩
    have ht0' := upd_none ht0
    refine ⟨t0, lk [0, 0], rfl, by rw [upd_ne ht0'.1.symm, upd_same], by rw [upd_same] <;> rfl, ?_⟩
    -- pairs = [(0, 0)]; nexts = []
    refine ⟨by show 2 ≤ sizeLine; decide, fun t1 ht1 => ⟨by show 1 ≤ sizeLine; decide, fun pa hpa => ⟨by show 0 ≤ sizeLine; decide, fun ne hne => ?_⟩⟩⟩
    have X0 := EX.start (p0 := [0, 0]) hnu ht0 ht1 hpa hne
    refine ⟨fun m σ H' => ∃ (order nexts : List (List Nat)) (v5 v6 v7 v8 v9 : Option V), σ = [some (.ref a), some (.ref b), some (.ref nu), some (.ref pa), some (.ref ne), v5, v6, v7, v8, v9] ∧ m = A.length * B.length - nexts.length ∧ EX H nu pa ne H' order nexts ∧ Expl (dl2 A B) [0, 0] order nexts ∧
      (∀ p ∈ order, ∃ x y, p = [x, y] ∧ x < A.length ∧ y < B.length),
      ⟨_, [[0, 0]], [], _, _, _, _, _, rfl, rfl, X0, Expl.start _ _, fun p hp => ⟨0, 0, List.mem_singleton.mp hp, okA.pos, okB.pos⟩⟩, ?_⟩
    rintro m σ H' ⟨order, nexts, v5, v6, v7, v8, v9, rfl, rfl, X, G, hin⟩
    have hlen : order.length ≤ A.length * B.length := by
      rw [← prod2_len]
      refine nodup_sub_len G.nd fun p hp => ?_
      obtain ⟨x, y, rfl, hx, hy⟩ := hin p hp
      exact prod2_mem hx hy
    obtain ⟨xs, hxs, hxl⟩ := X.ap.lst
    obtain ⟨ys, hys, hyl⟩ := X.ae.lst
    -- len(nexts) < len(pairs)
    refine ⟨_, rfl, ne, _, rfl, .inl (SqL.of hys), _, rfl, pa, _, rfl, .inl (SqL.of hxs), _, _, rfl, rfl, _, rfl, ?_⟩
    refine ite2 (fun hc => ⟨_, fun _ _ z => z, ?_⟩) (fun hc => ?_)
    · have hlt : nexts.length < order.length := by
        have := of_decide_eq_true hc
        omega
      obtain ⟨p, hp⟩ : ∃ p, order[nexts.length]? = some p := ⟨order[nexts.length], List.getElem?_eq_getElem hlt⟩
      obtain ⟨x, y, rfl, hx, hy⟩ := hin p (List.mem_of_getElem? hp)
      obtain ⟨tp, htp, htp2⟩ := X.ap.at_ hxs hp
      -- one, other = pairs[len(nexts)]
      refine ⟨_, rfl, _, rfl, ne, _, rfl, .inl (SqL.of hys), pa, _, _, _, rfl, rfl, SqL.of hxs, at_of (by rw [hyl]) htp, tp, _, rfl, SqT.of htp2, rfl, _, _, rfl, _, _, rfl, rfl, ?_⟩
      -- row = []
      refine ⟨by show 0 ≤ sizeLine; decide, fun ro hro => ?_⟩
      have hro' : H ro = none := X.same.free hro
      have X1 := X.new (o := .lst []) hro
      have pr : pa ≠ ro := fun z => by rw [← z, hxs] at hro; cases hro
      have er : ne ≠ ro := fun z => by rw [← z, hys] at hro; cases hro
      have hsz2 : A.length * B.length < sizeLine := Nat.lt_of_le_of_lt hsz (by decide)
      -- for letter in range(4)
      refine ⟨4, rfl, by decide, by decide, for_range (lo := 0) (n := 4) (fun l σ' H2 => ∃ (ord2 : List (List Nat)) (r : List Nat) (v8 v9 : Option V), σ' = [some (.ref a), some (.ref b), some (.ref nu), some (.ref pa), some (.ref ne), some (nv x), some (nv y), some (.ref ro), v8, v9] ∧
        EX H nu pa ne H2 ord2 nexts ∧ Expl (dl2 A B) [0, 0] ord2 nexts ∧ (∀ p ∈ ord2, ∃ x y, p = [x, y] ∧ x < A.length ∧ y < B.length) ∧ ord2[nexts.length]? = some [x, y] ∧ H2 ro = some (.lst (r.map nv)) ∧ r.length = l ∧ RowOf (dl2 A B) ord2 [x, y] r)
        ⟨order, [], _, _, rfl, X1, G, hin, hp, upd_same, rfl, fun l j h => by simp at h⟩ ?_ ?_⟩
      · rintro l σ' H2 hl4 ⟨ord2, r, v8, v9, rfl, X2, G2, hin2, hp2, hr2, hrl, hrow⟩
        have hl4' : l < 4 := hl4
        obtain ⟨r1, hr1, hl1, _⟩ := row_item okA hx hl4'
        obtain ⟨r2, hr2', hl2, _⟩ := row_item okB hy hl4'
        obtain ⟨xa, ta, ha1, ha2, ha3⟩ := (rows_same X2.same hA).item hr1
        obtain ⟨xb, tb, hb1, hb2, hb3⟩ := (rows_same X2.same hB).item hr2'
        have el : (0 : Int) + (l : Int) = (l : Int) := by omega
        have hlen2 : ord2.length ≤ A.length * B.length := by
          rw [← prod2_len]
          refine nodup_sub_len G2.nd fun p hp => ?_
          obtain ⟨x, y, rfl, hx, hy⟩ := hin2 p hp
          exact prod2_mem hx hy
        -- behind = (rows[one][letter], others[other][letter])
        refine ⟨_, rfl, _, rfl, a, xa, _, _, rfl, rfl, ha1, at_of rfl ha2, _, rfl, ta, _, _, _, rfl, rfl, ha3, at_of el (map_at hl1),
          _, rfl, _, rfl, b, xb, _, _, rfl, rfl, hb1, at_of rfl hb2, _, rfl, tb, _, _, _, rfl, rfl, hb3, at_of el (map_at hl2), by show 2 ≤ sizeLine; decide, fun be hbe => ?_⟩
        have X3 := X2.new (o := .tup [nv (dl A x l), nv (dl B y l)]) hbe
        have hq : (upd H2 be (.tup [nv (dl A x l), nv (dl B y l)])) be = some (.tup ((lk (dl2 A B [x, y] l)).map kV)) := by rw [upd_same, lk_tup] <;> rfl
        have hr3 : (upd H2 be (.tup [nv (dl A x l), nv (dl B y l)])) ro = some (.lst (r.map nv)) := by rw [upd_ne (ne_of_none hr2 hbe)]; exact hr2
        have hxl' : dl A x l < A.length := okA.lt hx hl4'
        have hyl' : dl B y l < B.length := okB.lt hy hl4'
        have hmem : [x, y] ∈ ord2 := List.mem_of_getElem? hp2
        -- if behind not in numbers
        refine ⟨fun σ' H4 => ∃ (ord3 : List (List Nat)) (j : Nat), σ' = [some (.ref a), some (.ref b), some (.ref nu), some (.ref pa), some (.ref ne), some (nv x), some (nv y), some (.ref ro), some (.int (0 + (l : Int))), some (.ref be)] ∧
          EX H nu pa ne H4 ord3 nexts ∧ Expl (dl2 A B) [0, 0] ord3 nexts ∧ (∀ p ∈ ord3, ∃ x y, p = [x, y] ∧ x < A.length ∧ y < B.length) ∧ ord3[nexts.length]? = some [x, y] ∧ H4 ro = some (.lst (r.map nv)) ∧ RowOf (dl2 A B) ord3 [x, y] r ∧ ord3[j]? = some (dl2 A B [x, y] l) ∧
          H4 be = some (.tup ((lk (dl2 A B [x, y] l)).map kV)), ?_, ?_⟩
        · refine ⟨_, rfl, _, rfl, nu, _, rfl, DGet.t X3.du hq, _, rfl, ?_⟩
          by_cases hm : dl2 A B [x, y] l ∈ ord2
          · obtain ⟨j, hj⟩ := List.getElem?_of_mem hm
            rw [ixD_some G2.nd hj]
            refine iteF ?_
            exact ⟨ord2, j, rfl, X3, G2, hin2, hp2, hr3, hrow, hj, hq⟩
          · rw [ixD_none hm]
            refine iteT ?_
            obtain ⟨zs, hzs, hzl⟩ := X3.ap.lst
            have hzs2 : (upd (upd H2 be (.tup [nv (dl A x l), nv (dl B y l)])) nu (.dT (putK (ixD ord2) (lk (dl2 A B [x, y] l)) (.int ((zs.length : Nat) : Int))))) pa = some (.lst zs) := by rw [upd_ne X.np.symm]; exact hzs
            refine ⟨_, rfl, pa, _, rfl, .inl (SqL.of hzs), _, rfl, _, rfl, nu, _, rfl, DPut.t X3.du hq (by rw [ixD_len]; omega), ?_⟩
            refine ⟨_, rfl, .inl ⟨rfl, _, SqL.of hzs2⟩, _, rfl, pa, _, _, rfl, rfl, hzs2, by omega, ?_⟩
            have hq2 := hq
            rw [lk_tup] at hq2
            have X4 := X3.grow hm hzs hq2
            refine ⟨ord2 ++ [dl2 A B [x, y] l], ord2.length, rfl, X4, G2.grow hmem hl4' hm, ?_, ?_, ?_, hrow.more, ?_, ?_⟩
            · intro p hp
              rcases List.mem_append.mp hp with q | q
              · exact hin2 p q
              · exact ⟨_, _, List.mem_singleton.mp q, hxl', hyl'⟩
            · rw [List.getElem?_append_left (List.getElem?_eq_some_iff.mp hp2).1]
              exact hp2
            · rw [upd_ne pr.symm, upd_ne (ne_of hr3 X3.du (fun z => nomatch z))]
              exact hr3
            · rw [List.getElem?_append_right (Nat.le_refl _), Nat.sub_self] <;> rfl
            · rw [upd_ne (ne_of hq hzs (fun z => nomatch z)), upd_ne (ne_of hq X3.du (fun z => nomatch z))]
              exact hq
        · -- row.append(numbers[behind])
          rintro σ' H4 ⟨ord3, j, rfl, X4, G3, hin3, hp3, hr4, hrow3, hj, hq4⟩
          refine ⟨_, rfl, .inl ⟨rfl, _, SqL.of hr4⟩, _, rfl, _, rfl, nu, nv j, rfl, (by rw [← ixD_some G3.nd hj]; exact DGet.t X4.du hq4), ro, _, _, rfl, rfl, hr4, (by rw [List.length_map, hrl]; exact Nat.lt_of_lt_of_le hl4' (by decide)), ?_⟩
          refine ⟨ord3, r ++ [j], _, _, rfl, X4.upd hr4 hro' pr er, G3, hin3, hp3, by rw [upd_same, List.map_append] <;> rfl, by rw [List.length_append, hrl] <;> rfl, ?_⟩
          intro l' j' h'
          by_cases hl' : l' < r.length
          · rw [List.getElem?_append_left hl'] at h'
            exact hrow3 l' j' h'
          · have h2 := (List.getElem?_eq_some_iff.mp h').1
            rw [List.length_append, List.length_singleton] at h2
            have e : l' = r.length := by omega
            subst e
            rw [List.getElem?_append_right (Nat.le_refl _), Nat.sub_self] at h'
            have ej : j = j' := Option.some.inj h'
            rw [← ej, hrl]
            exact hj
      · -- nexts.append(tuple(row))
        rintro σ' H2 ⟨ord2, r, v8, v9, rfl, X2, G2, hin2, hp2, hr2, hrl, hrow⟩
        obtain ⟨us, hus, hul⟩ := X2.ae.lst
        have hle := G2.le
        have hlen2 : ord2.length ≤ A.length * B.length := by
          rw [← prod2_len]
          refine nodup_sub_len G2.nd fun p hp => ?_
          obtain ⟨x, y, rfl, hx, hy⟩ := hin2 p hp
          exact prod2_mem hx hy
        refine ⟨_, rfl, .inl ⟨rfl, _, SqL.of hus⟩, _, rfl, ro, _, rfl, .inl ⟨SqL.of hr2, fun tr htr => ?_⟩⟩
        have X3 := X2.new (o := .tup (r.map nv)) htr
        have hus2 : (upd H2 tr (.tup (r.map nv))) ne = some (.lst us) := by rw [upd_ne (ne_of_none hus htr)]; exact hus
        refine ⟨ne, _, _, rfl, rfl, hus2, by omega, ?_⟩
        refine ⟨_, ?_, ord2, nexts ++ [r], _, _, _, _, _, rfl, rfl, X3.row hus2 upd_same, G2.row hp2 hrow hrl, hin2⟩
        rw [List.length_append, List.length_singleton]
        omega
    · -- return (pairs, nexts)
      refine ⟨_, rfl, _, rfl, by show 2 ≤ sizeLine; decide, fun t ht => ?_⟩
      refine k _ t pa ne order nexts (same_new X.same ht) X.pn X.en upd_same (X.ap.new ht) (X.ae.new ht) G ?_ hlen
      have := of_decide_eq_false (Bool.eq_false_iff.mpr hc)
      omega
end
end SR

/-! ### SR4 -/
set_option maxHeartbeats 4000000
namespace SR
open PySem PySem.Spec PyProof.Rows L2 SRR
/-! ## tied_then -/
abbrev sTiedThen : Stmt := top 38
theorem scTiedThen : FnScope ["rows", "flags", "others", "marks", "numbers", "states", "nexts", "one", "back", "other", "row", "letter", "behind"] ["rows", "flags", "others", "marks"] (defScope sTiedThen) := ⟨rfl, rfl, rfl, by decide +kernel, rfl, by decide +kernel, by decide +kernel⟩
/-- worse by the one, or tied and worse by the other -/
def thenFlag (F M : List Bool) (p : List Nat) : Bool := F.getD (p.getD 0 0) false || (!(F.getD (p.getD 1 0) false) && M.getD (p.getD 2 0) false)
def spTiedThen (K : PySem.W.Frag) : Sp := fun vs H Q _ => ∃ (a fa b fb : Addr) (A B : List (List Nat)) (F M : List Bool), vs = [.ref a, .ref fa, .ref b, .ref fb] ∧ RowsAt K H a A ∧ SqL K H fa (F.map V.bl) ∧ RowsAt K H b B ∧ SqL K H fb (M.map V.bl) ∧
  OkR A ∧ OkR B ∧ F.length = A.length ∧ M.length = B.length ∧ A.length * (A.length * B.length) ≤ 60000 ∧
  ∀ (H' : Hp) (t ne fl : Addr) (order nexts : List (List Nat)), Same H H' → H' t = some (.tup [.ref ne, .ref fl]) → TupsAt H' ne nexts → H' fl = some (.lst ((order.map (thenFlag F M)).map V.bl)) → Expl (dl3 A B) [0, 0, 0] order nexts → order.length ≤ nexts.length →
    order.length ≤ A.length * (A.length * B.length) → Q (.ref t) H'
theorem getD_of {α : Type} {l : List α} {i : Nat} {x d : α} (h : l[i]? = some x) : l.getD i d = x := by
  rw [List.getD_eq_getElem?_getD, h] <;> rfl
section
variable {P : Program} {w : World} {K : PySem.W.Frag} {mg : Str → Option Value} {base : Heap}
theorem ok_tiedThen {f : Addr} {fd : FuncData} (F : Fun K "tied_then" "tied_then" sTiedThen f fd) (T : Tx K mg) : FnOk P w K mg base CX0 1 f fd ["rows", "flags", "others", "marks"] (spTiedThen K) := by
  refine F.ok scTiedThen (fun vs H Q E h => ?_) (fun cdv A₀ outer s H vs Q E hr h => ?_)
  · obtain ⟨a, fa, b, fb, A, B, F, M, rfl, _⟩ := h
    rfl
  · obtain ⟨a, fa, b, fb, A, B, F, M, rfl, hA, hF, hB, hM, okA, okB, lF, lM, hsz, k⟩ := h
    obtain ⟨mm, hMm, hMt⟩ := T.mirrored
    have hu := hu_of hr
    have nd := scTiedThen.nd
    refine ⟨_,
    (pss_cons (ps_set (i := 4) nd rfl (.inl rfl) (pe_disp1T hu (pe_tup (pa_cons pe_int (pa_cons pe_int (pa_cons pe_int (pa_nil))))) pe_int))
    (pss_cons (ps_set (i := 5) nd rfl (.inl rfl) (pe_lst (pa_cons (pe_tup (pa_cons pe_int (pa_cons pe_int (pa_cons pe_int (pa_nil))))) (pa_nil))))
    (pss_cons (ps_set (i := 6) nd rfl (.inl rfl) (pe_lst pa_nil))
    (pss_cons (ps_while PassesOwn.never (pt_cmpR op_lt (pe_callB call_len_seq (by rfl) T.len PySem.boot_len (pa_cons (pv 6) (pa_nil))) (pe_callB call_len_seq (by rfl) T.len PySem.boot_len (pa_cons (pv 5) (pa_nil))) (nomark _)) 
      (pss_cons (ps_asg (pe_ix ix_list (pv 5) (pe_callB call_len_seq (by rfl) T.len PySem.boot_len (pa_cons (pv 6) (pa_nil))) (fun _ _ => rfl)) (pg_tup rfl (pgs_cons (pg_name (i := 7) nd rfl (.inl rfl)) (pgs_cons (pg_name (i := 8) nd rfl (.inl rfl)) (pgs_cons (pg_name (i := 9) nd rfl (.inl rfl)) pgs_nil)))))
      (pss_cons (ps_set (i := 10) nd rfl (.inl rfl) (pe_lst pa_nil))
      (pss_cons (ps_for PassesOwn.never rfl (pi_range1 rfl T.range (pa_cons pe_int (pa_nil))) (pg_name (i := 11) nd rfl (.inl rfl)) 
        (pss_cons (ps_set (i := 12) nd rfl (.inl rfl) (pe_tup (pa_cons (pe_ix ix_tup (pe_ix ix_sq (pv 0) (pv 7) (fun _ _ => rfl)) (pv 11) (fun _ _ => rfl)) (pa_cons (pe_ix ix_tup (pe_ix ix_sq (pv 0) (pv 8) (fun _ _ => rfl)) (pe_ix ix_tup (pe_glob (v := .ref mm) rfl hMm rfl) (pv 11) (fun _ _ => rfl)) (fun _ _ => rfl)) (pa_cons (pe_ix ix_tup (pe_ix ix_sq (pv 2) (pv 9) (fun _ _ => rfl)) (pv 11) (fun _ _ => rfl)) (pa_nil))))))
        (C8.pss_cut (ps_if (pt_cmp (pc_dnotin hu (pv 12) (pv 4))) 
          (pss_cons (ps_dput hu (pv 4) (pv 12) (pe_callB call_len_seq (by rfl) T.len PySem.boot_len (pa_cons (pv 5) (pa_nil))) rfl)
          (pss_one (ps_expr (pe_bm PySem.F.plainAttrs_list PySem.F.slot_list_append PySem.F.type_list_append mt_append (pv 5) (pa_cons (pv 12) (pa_nil)))))) pss_nil)
        (pss_one (ps_expr (pe_bm PySem.F.plainAttrs_list PySem.F.slot_list_append PySem.F.type_list_append mt_append (pv 10) (pa_cons (pe_dget hu (pv 4) (pv 12) (fun _ _ => rfl)) (pa_nil))))))))
      (pss_one (ps_expr (pe_bm PySem.F.plainAttrs_list PySem.F.slot_list_append PySem.F.type_list_append mt_append (pv 6) (pa_cons (pe_callTy call_tuple_of (by rfl) T.tuple (by decide +kernel) (pa_cons (pv 10) (pa_nil))) (pa_nil)))))))))
    (pss_one (ps_ret (pe_tup (pa_cons (pv 6) (pa_cons (pe_lc (own := [("one", 7), ("back", 8), ("other", 9)]) rfl nd (pi_list (pv 5)) (blkOk_by (own := [("one", 7), ("back", 8), ("other", 9)]) (N := ["rows", "flags", "others", "marks", "numbers", "states", "nexts", "one", "back", "other", "row", "letter", "behind"]) (sc := defScope sTiedThen) (by decide +kernel)) (fun _ _ _ _ _ => (pg_tupK K 3 rfl rfl (pgs_cons (pg_name (i := 7) nd rfl (.inl rfl)) (pgs_cons (pg_name (i := 8) nd rfl (.inl rfl)) (pgs_cons (pg_name (i := 9) nd rfl (.inl rfl)) pgs_nil))))) (fun _ _ _ _ _ => pts_nil) (fun _ _ _ _ _ => (pe_or (pe_ix (ix_listK K) (pv 1) (pv 7) (fun _ _ => rfl)) (pe_one (pe_and (pe_not (pe_ix (ix_listK K) (pv 1) (pv 8) (fun _ _ => rfl))) (pe_one (pe_ix (ix_listK K) (pv 3) (pv 9) (fun _ _ => rfl)))))))) (pa_nil)))))))))), ?_⟩
    -- numbers = {(0, 0, 0): 0}
    intro nu hnu
    refine ⟨by show 3 ≤ sizeLine; decide, fun t0 ht0 => ?_⟩
    have ht0' := upd_none ht0
    refine ⟨t0, lk [0, 0, 0], rfl, by rw [upd_ne ht0'.1.symm, upd_same], by rw [upd_same] <;> rfl, ?_⟩
    -- pairs = [(0, 0, 0)]; nexts = []
    refine ⟨by show 3 ≤ sizeLine; decide, fun t1 ht1 => ⟨by show 1 ≤ sizeLine; decide, fun pa hpa => ⟨by show 0 ≤ sizeLine; decide, fun ne hne => ?_⟩⟩⟩
    have X0 := EX.start (p0 := [0, 0, 0]) hnu ht0 ht1 hpa hne
    refine ⟨fun m σ H' => ∃ (order nexts : List (List Nat)) (v5 v6 v7 v8 v9 v10 : Option V), σ = [some (.ref a), some (.ref fa), some (.ref b), some (.ref fb), some (.ref nu), some (.ref pa), some (.ref ne), v5, v6, v7, v8, v9, v10] ∧ m = A.length * (A.length * B.length) - nexts.length ∧ EX H nu pa ne H' order nexts ∧ Expl (dl3 A B) [0, 0, 0] order nexts ∧
      (∀ p ∈ order, ∃ x c y, p = [x, c, y] ∧ x < A.length ∧ c < A.length ∧ y < B.length),
      ⟨_, [[0, 0, 0]], [], _, _, _, _, _, _, rfl, rfl, X0, Expl.start _ _, fun p hp => ⟨0, 0, 0, List.mem_singleton.mp hp, okA.pos, okA.pos, okB.pos⟩⟩, ?_⟩
    rintro m σ H' ⟨order, nexts, v5, v6, v7, v8, v9, v10, rfl, rfl, X, G, hin⟩
    have hlen : order.length ≤ A.length * (A.length * B.length) := by
      rw [← prod3_len]
      refine nodup_sub_len G.nd fun p hp => ?_
      obtain ⟨x, c, y, rfl, hx, hc', hy⟩ := hin p hp
      exact prod3_mem hx hc' hy
    obtain ⟨xs, hxs, hxl⟩ := X.ap.lst
    obtain ⟨ys, hys, hyl⟩ := X.ae.lst
    -- len(nexts) < len(pairs)
    refine ⟨_, rfl, ne, _, rfl, .inl (SqL.of hys), _, rfl, pa, _, rfl, .inl (SqL.of hxs), _, _, rfl, rfl, _, rfl, ?_⟩
    refine ite2 (fun hc => ⟨_, fun _ _ z => z, ?_⟩) (fun hc => ?_)
    · have hlt : nexts.length < order.length := by
        have := of_decide_eq_true hc
        omega
      obtain ⟨p, hp⟩ : ∃ p, order[nexts.length]? = some p := ⟨order[nexts.length], List.getElem?_eq_getElem hlt⟩
      obtain ⟨x, c, y, rfl, hx, hc', hy⟩ := hin p (List.mem_of_getElem? hp)
      obtain ⟨tp, htp, htp2⟩ := X.ap.at_ hxs hp
      -- one, other = pairs[len(nexts)]
      refine ⟨_, rfl, _, rfl, ne, _, rfl, .inl (SqL.of hys), pa, _, _, _, rfl, rfl, SqL.of hxs, at_of (by rw [hyl]) htp, tp, _, rfl, SqT.of htp2, rfl, _, _, rfl, _, _, rfl, _, _, rfl, rfl, ?_⟩
      -- row = []
      refine ⟨by show 0 ≤ sizeLine; decide, fun ro hro => ?_⟩
      have hro' : H ro = none := X.same.free hro
      have X1 := X.new (o := .lst []) hro
      have pr : pa ≠ ro := fun z => by rw [← z, hxs] at hro; cases hro
      have er : ne ≠ ro := fun z => by rw [← z, hys] at hro; cases hro
      have hsz2 : A.length * (A.length * B.length) < sizeLine := Nat.lt_of_le_of_lt hsz (by decide)
      -- for letter in range(4)
      refine ⟨4, rfl, by decide, by decide, for_range (lo := 0) (n := 4) (fun l σ' H2 => ∃ (ord2 : List (List Nat)) (r : List Nat) (v8 v9 : Option V), σ' = [some (.ref a), some (.ref fa), some (.ref b), some (.ref fb), some (.ref nu), some (.ref pa), some (.ref ne), some (nv x), some (nv c), some (nv y), some (.ref ro), v8, v9] ∧
        EX H nu pa ne H2 ord2 nexts ∧ Expl (dl3 A B) [0, 0, 0] ord2 nexts ∧ (∀ p ∈ ord2, ∃ x c y, p = [x, c, y] ∧ x < A.length ∧ c < A.length ∧ y < B.length) ∧ ord2[nexts.length]? = some [x, c, y] ∧ H2 ro = some (.lst (r.map nv)) ∧ r.length = l ∧ RowOf (dl3 A B) ord2 [x, c, y] r)
        ⟨order, [], _, _, rfl, X1, G, hin, hp, upd_same, rfl, fun l j h => by simp at h⟩ ?_ ?_⟩
      · rintro l σ' H2 hl4 ⟨ord2, r, v8, v9, rfl, X2, G2, hin2, hp2, hr2, hrl, hrow⟩
        have hl4' : l < 4 := hl4
        obtain ⟨r1, hr1, hl1, _⟩ := row_item okA hx hl4'
        obtain ⟨r2, hr2', hl2, _⟩ := row_item okB hy hl4'
        obtain ⟨xa, ta, ha1, ha2, ha3⟩ := (rows_same X2.same hA).item hr1
        obtain ⟨xb, tb, hb1, hb2, hb3⟩ := (rows_same X2.same hB).item hr2'
        obtain ⟨r3, hr3', hl3, _⟩ := row_item okA hc' (mir_lt hl4')
        obtain ⟨xc, tc, hc1, hc2, hc3⟩ := (rows_same X2.same hA).item hr3'
        have hmir : [nv 0, nv 2, nv 1, nv 3][l]? = some (nv (mir l)) := by
          match l, hl4' with
          | 0, _ => rfl
          | 1, _ => rfl
          | 2, _ => rfl
          | 3, _ => rfl
        have el : (0 : Int) + (l : Int) = (l : Int) := by omega
        have hlen2 : ord2.length ≤ A.length * (A.length * B.length) := by
          rw [← prod3_len]
          refine nodup_sub_len G2.nd fun p hp => ?_
          obtain ⟨x, c, y, rfl, hx, hc', hy⟩ := hin2 p hp
          exact prod3_mem hx hc' hy
        -- behind = (rows[one][letter], others[other][letter])
        refine ⟨_, rfl, _, rfl, a, xa, _, _, rfl, rfl, ha1, at_of rfl ha2, _, rfl, ta, _, _, _, rfl, rfl, ha3, at_of el (map_at hl1),
          _, rfl, _, rfl, a, xc, _, _, rfl, rfl, hc1, at_of rfl hc2, _, rfl, mm, _, _, _, rfl, rfl, hMt _, at_of el hmir, tc, _, _, _, rfl, rfl, hc3, at_of rfl (map_at hl3),
          _, rfl, _, rfl, b, xb, _, _, rfl, rfl, hb1, at_of rfl hb2, _, rfl, tb, _, _, _, rfl, rfl, hb3, at_of el (map_at hl2), by show 3 ≤ sizeLine; decide, fun be hbe => ?_⟩
        have X3 := X2.new (o := .tup [nv (dl A x l), nv (dl A c (mir l)), nv (dl B y l)]) hbe
        have hq : (upd H2 be (.tup [nv (dl A x l), nv (dl A c (mir l)), nv (dl B y l)])) be = some (.tup ((lk (dl3 A B [x, c, y] l)).map kV)) := by rw [upd_same, lk_tup] <;> rfl
        have hr3 : (upd H2 be (.tup [nv (dl A x l), nv (dl A c (mir l)), nv (dl B y l)])) ro = some (.lst (r.map nv)) := by rw [upd_ne (ne_of_none hr2 hbe)]; exact hr2
        have hxl' : dl A x l < A.length := okA.lt hx hl4'
        have hcl' : dl A c (mir l) < A.length := okA.lt hc' (mir_lt hl4')
        have hyl' : dl B y l < B.length := okB.lt hy hl4'
        have hmem : [x, c, y] ∈ ord2 := List.mem_of_getElem? hp2
        -- if behind not in numbers
        refine ⟨fun σ' H4 => ∃ (ord3 : List (List Nat)) (j : Nat), σ' = [some (.ref a), some (.ref fa), some (.ref b), some (.ref fb), some (.ref nu), some (.ref pa), some (.ref ne), some (nv x), some (nv c), some (nv y), some (.ref ro), some (.int (0 + (l : Int))), some (.ref be)] ∧
          EX H nu pa ne H4 ord3 nexts ∧ Expl (dl3 A B) [0, 0, 0] ord3 nexts ∧ (∀ p ∈ ord3, ∃ x c y, p = [x, c, y] ∧ x < A.length ∧ c < A.length ∧ y < B.length) ∧ ord3[nexts.length]? = some [x, c, y] ∧ H4 ro = some (.lst (r.map nv)) ∧ RowOf (dl3 A B) ord3 [x, c, y] r ∧ ord3[j]? = some (dl3 A B [x, c, y] l) ∧
          H4 be = some (.tup ((lk (dl3 A B [x, c, y] l)).map kV)), ?_, ?_⟩
        · refine ⟨_, rfl, _, rfl, nu, _, rfl, DGet.t X3.du hq, _, rfl, ?_⟩
          by_cases hm : dl3 A B [x, c, y] l ∈ ord2
          · obtain ⟨j, hj⟩ := List.getElem?_of_mem hm
            rw [ixD_some G2.nd hj]
            refine iteF ?_
            exact ⟨ord2, j, rfl, X3, G2, hin2, hp2, hr3, hrow, hj, hq⟩
          · rw [ixD_none hm]
            refine iteT ?_
            obtain ⟨zs, hzs, hzl⟩ := X3.ap.lst
            have hzs2 : (upd (upd H2 be (.tup [nv (dl A x l), nv (dl A c (mir l)), nv (dl B y l)])) nu (.dT (putK (ixD ord2) (lk (dl3 A B [x, c, y] l)) (.int ((zs.length : Nat) : Int))))) pa = some (.lst zs) := by rw [upd_ne X.np.symm]; exact hzs
            refine ⟨_, rfl, pa, _, rfl, .inl (SqL.of hzs), _, rfl, _, rfl, nu, _, rfl, DPut.t X3.du hq (by rw [ixD_len]; omega), ?_⟩
            refine ⟨_, rfl, .inl ⟨rfl, _, SqL.of hzs2⟩, _, rfl, pa, _, _, rfl, rfl, hzs2, by omega, ?_⟩
            have hq2 := hq
            rw [lk_tup] at hq2
            have X4 := X3.grow hm hzs hq2
            refine ⟨ord2 ++ [dl3 A B [x, c, y] l], ord2.length, rfl, X4, G2.grow hmem hl4' hm, ?_, ?_, ?_, hrow.more, ?_, ?_⟩
            · intro p hp
              rcases List.mem_append.mp hp with q | q
              · exact hin2 p q
              · exact ⟨_, _, _, List.mem_singleton.mp q, hxl', hcl', hyl'⟩
            · rw [List.getElem?_append_left (List.getElem?_eq_some_iff.mp hp2).1]
              exact hp2
            · rw [upd_ne pr.symm, upd_ne (ne_of hr3 X3.du (fun z => nomatch z))]
              exact hr3
            · rw [List.getElem?_append_right (Nat.le_refl _), Nat.sub_self] <;> rfl
            · rw [upd_ne (ne_of hq hzs (fun z => nomatch z)), upd_ne (ne_of hq X3.du (fun z => nomatch z))]
              exact hq
        · -- row.append(numbers[behind])
          rintro σ' H4 ⟨ord3, j, rfl, X4, G3, hin3, hp3, hr4, hrow3, hj, hq4⟩
          refine ⟨_, rfl, .inl ⟨rfl, _, SqL.of hr4⟩, _, rfl, _, rfl, nu, nv j, rfl, (by rw [← ixD_some G3.nd hj]; exact DGet.t X4.du hq4), ro, _, _, rfl, rfl, hr4, (by rw [List.length_map, hrl]; exact Nat.lt_of_lt_of_le hl4' (by decide)), ?_⟩
          refine ⟨ord3, r ++ [j], _, _, rfl, X4.upd hr4 hro' pr er, G3, hin3, hp3, by rw [upd_same, List.map_append] <;> rfl, by rw [List.length_append, hrl] <;> rfl, ?_⟩
          intro l' j' h'
          by_cases hl' : l' < r.length
          · rw [List.getElem?_append_left hl'] at h'
            exact hrow3 l' j' h'
          · have h2 := (List.getElem?_eq_some_iff.mp h').1
            rw [List.length_append, List.length_singleton] at h2
            have e : l' = r.length := by omega
            subst e
            rw [List.getElem?_append_right (Nat.le_refl _), Nat.sub_self] at h'
            have ej : j = j' := Option.some.inj h'
            rw [← ej, hrl]
            exact hj
      · -- nexts.append(tuple(row))
        rintro σ' H2 ⟨ord2, r, v8, v9, rfl, X2, G2, hin2, hp2, hr2, hrl, hrow⟩
        obtain ⟨us, hus, hul⟩ := X2.ae.lst
        have hle := G2.le
        have hlen2 : ord2.length ≤ A.length * (A.length * B.length) := by
          rw [← prod3_len]
          refine nodup_sub_len G2.nd fun p hp => ?_
          obtain ⟨x, c, y, rfl, hx, hc', hy⟩ := hin2 p hp
          exact prod3_mem hx hc' hy
        refine ⟨_, rfl, .inl ⟨rfl, _, SqL.of hus⟩, _, rfl, ro, _, rfl, .inl ⟨SqL.of hr2, fun tr htr => ?_⟩⟩
        have X3 := X2.new (o := .tup (r.map nv)) htr
        have hus2 : (upd H2 tr (.tup (r.map nv))) ne = some (.lst us) := by rw [upd_ne (ne_of_none hus htr)]; exact hus
        refine ⟨ne, _, _, rfl, rfl, hus2, by omega, ?_⟩
        refine ⟨_, ?_, ord2, nexts ++ [r], _, _, _, _, _, _, rfl, rfl, X3.row hus2 upd_same, G2.row hp2 hrow hrl, hin2⟩
        rw [List.length_append, List.length_singleton]
        omega
    · -- return (nexts, [..])
      have hge : order.length ≤ nexts.length := by
        have := of_decide_eq_false (Bool.eq_false_iff.mpr hc)
        omega
      have hsz2 : A.length * (A.length * B.length) < sizeLine := Nat.lt_of_le_of_lt hsz (by decide)
      refine ⟨_, rfl, _, rfl, pa, rfl, ⟨_, SqL.of hxs⟩, fun D hD => ?_⟩
      refine lc_list (K := K) (a := pa) (xs := xs) (MI H' D ((order.map (thenFlag F M)).map V.bl)) (.start hD) (fun i H2 _ m => SqL.of (m.1 _ _ hxs)) ?_ ?_
      · intro i v H2 hi m
        have hil := (List.getElem?_eq_some_iff.mp hi).1
        obtain ⟨p, hp⟩ : ∃ p, order[i]? = some p := ⟨order[i], List.getElem?_eq_getElem (by omega)⟩
        obtain ⟨x, c, y, rfl, hx, hc', hy⟩ := hin p (List.mem_of_getElem? hp)
        obtain ⟨tp, htp, htp2⟩ := X.ap.at_ hxs hp
        rw [hi] at htp
        have ev : v = .ref tp := Option.some.inj htp
        subst ev
        have e1 : F[x]? = some F[x] := List.getElem?_eq_getElem (by omega)
        have e2 : F[c]? = some F[c] := List.getElem?_eq_getElem (by omega)
        have e3 : M[y]? = some M[y] := List.getElem?_eq_getElem (by omega)
        have hF2 := (X.same.trans m.1).seq hF
        have hM2 := (X.same.trans m.1).seq hM
        have hfin : ∀ q : Bool, q = thenFlag F M [x, c, y] → ∃ acc, H2 D = some (.lst acc) ∧ acc.length < sizeLine ∧ MI H' D ((order.map (thenFlag F M)).map V.bl) (i + 1) (upd H2 D (.lst (acc ++ [.bl q]))) := fun q hq => by
          refine m.step (by rw [hq]; exact map_at (map_at hp)) hD ?_
          rw [List.length_map, List.length_map]
          omega
        have et : thenFlag F M [x, c, y] = (F[x] || (!F[c] && M[y])) := by
          show (F.getD x false || (!(F.getD c false) && M.getD y false)) = _
          rw [getD_of e1, getD_of e2, getD_of e3]
        refine ⟨tp, _, rfl, SqT.of (m.1 _ _ htp2), rfl, _, _, rfl, _, _, rfl, _, _, rfl, rfl, rfl, tyesT ?_⟩
        refine ⟨_, rfl, _, rfl, fa, _, _, _, rfl, rfl, hF2, at_of rfl (map_at e1), F[x], rfl, ?_⟩
        refine ite2 (fun h1 => hfin true (by rw [et, h1] <;> rfl)) (fun h1 => ?_)
        have h1' : F[x] = false := by simpa using h1
        refine ⟨_, rfl, _, rfl, fa, _, _, _, rfl, rfl, hF2, at_of rfl (map_at e2), F[c], rfl, !F[c], rfl, ?_⟩
        refine ite2 (fun h2 => ?_) (fun h2 => hfin false (by rw [et, h1', Bool.eq_false_iff.mpr h2] <;> rfl))
        refine ⟨_, rfl, _, rfl, fb, _, _, _, rfl, rfl, hM2, at_of rfl (map_at e3), hfin _ ?_⟩
        rw [et, h1', h2] <;> rfl
      · intro H2 m
        obtain ⟨m1, m2⟩ := m.fin (by rw [List.length_map, List.length_map, hxl])
        refine ⟨by show 2 ≤ sizeLine; decide, fun t ht => ?_⟩
        exact k _ t ne D order nexts (same_new (X.same.trans m1) ht) upd_same ((X.ae.same m1).new ht) (by rw [upd_ne (ne_of_none m2 ht)]; exact m2) G hge hlen
end
end SR

/-! ### SR5 -/
set_option maxHeartbeats 4000000
namespace SR
open PySem PySem.Spec PyProof.Rows L2 SRR
/-! ## mirrored -/
abbrev sMirrored : Stmt := top 25
theorem scMirrored : FnScope ["row", "letter"] ["row"] (defScope sMirrored) := ⟨rfl, rfl, rfl, by decide +kernel, rfl, by decide +kernel, by decide +kernel⟩
def spMirrored (K : PySem.W.Frag) : Sp := fun vs H Q _ => ∃ (t : Addr) (r : List Nat), vs = [.ref t] ∧ SqT K H t (r.map nv) ∧ r.length = 4 ∧ ∀ (H' : Hp) (u : Addr), Same H H' → H u = none → H' u = some (.tup ((mirRow r).map nv)) → Q (.ref u) H'
section
variable {P : Program} {w : World} {K : PySem.W.Frag} {mg : Str → Option Value} {base : Heap}
theorem ok_mirrored {f : Addr} {fd : FuncData} (F : Fun K "mirrored" "mirrored" sMirrored f fd) (T : Tx K mg) : FnOk P w K mg base CX0 1 f fd ["row"] (spMirrored K) := by
  refine F.ok scMirrored (fun vs H Q E h => ?_) (fun cdv A₀ outer s H vs Q E hr h => ?_)
  · obtain ⟨t, r, rfl, _⟩ := h
    rfl
  · obtain ⟨t, r, rfl, hT, h4, k⟩ := h
    obtain ⟨mm, hMm, hMt⟩ := T.mirrored
    have hu := hu_of hr
    have nd := scMirrored.nd
    refine ⟨_,
    (pss_one (ps_ret (pe_callTy call_tuple_of (by rfl) T.tuple (by decide +kernel) (pa_cons (pe_lc (own := [("letter", 1)]) rfl nd (pi_tup (pe_glob (v := .ref mm) rfl hMm rfl)) (blkOk_by (own := [("letter", 1)]) (N := ["row", "letter"]) (sc := defScope sMirrored) (by decide +kernel)) (fun _ _ _ _ _ => (pg_name (i := 1) nd rfl (.inl rfl))) (fun _ _ _ _ _ => pts_nil) (fun _ _ _ _ _ => (pe_ix (ix_tupK K) (pv 0) (pv 1) (fun _ _ => rfl)))) (pa_nil))))), ?_⟩
    refine ⟨mm, rfl, ⟨_, hMt _⟩, fun D hD => ?_⟩
    refine lc_tup (K := K) (a := mm) (xs := [nv 0, nv 2, nv 1, nv 3]) (MI H D ((mirRow r).map nv)) (.start hD) (fun i H2 _ m => hMt _) ?_ ?_
    · intro i v H2 hi m
      have hil : i < 4 := (List.getElem?_eq_some_iff.mp hi).1
      match r, h4 with
      | [a, b, c, d], _ =>
        match i, hil with
        | 0, _ =>
          cases Option.some.inj hi
          exact ⟨rfl, tyesT ⟨_, rfl, _, rfl, t, _, _, _, rfl, rfl, sqt_same m.1 hT, at_of (j := 0) rfl rfl, m.step rfl hD (by show 4 ≤ sizeLine; decide)⟩⟩
        | 1, _ =>
          cases Option.some.inj hi
          exact ⟨rfl, tyesT ⟨_, rfl, _, rfl, t, _, _, _, rfl, rfl, sqt_same m.1 hT, at_of (j := 2) rfl rfl, m.step rfl hD (by show 4 ≤ sizeLine; decide)⟩⟩
        | 2, _ =>
          cases Option.some.inj hi
          exact ⟨rfl, tyesT ⟨_, rfl, _, rfl, t, _, _, _, rfl, rfl, sqt_same m.1 hT, at_of (j := 1) rfl rfl, m.step rfl hD (by show 4 ≤ sizeLine; decide)⟩⟩
        | 3, _ =>
          cases Option.some.inj hi
          exact ⟨rfl, tyesT ⟨_, rfl, _, rfl, t, _, _, _, rfl, rfl, sqt_same m.1 hT, at_of (j := 3) rfl rfl, m.step rfl hD (by show 4 ≤ sizeLine; decide)⟩⟩
    · intro H2 m
      obtain ⟨m1, m2⟩ := m.fin rfl
      refine ⟨D, _, rfl, .inl ⟨SqL.of m2, fun u hu => ?_⟩⟩
      exact k _ u (same_new m1 hu) (m1.free hu) upd_same
end
end SR

/-! ### SR6 -/
set_option maxHeartbeats 4000000
namespace SR
open PySem PySem.Spec PyProof.Rows L2 SRR

/-! ## kept_until -/
abbrev sKeptUntil : Stmt := top 35
theorem scKeptUntil : FnScope ["rows", "flags", "number", "nexts", "found", "step", "later", "state", "row", "chosen", "one"] ["rows", "flags", "number"] (defScope sKeptUntil) := ⟨rfl, rfl, rfl, by decide +kernel, rfl, by decide +kernel, by decide +kernel⟩
def spKeptUntil (K : PySem.W.Frag) : Sp := fun vs H Q _ => ∃ (a fa : Addr) (A : List (List Nat)) (F : List Bool) (k : Nat), vs = [.ref a, .ref fa, nv k] ∧ TupsAt H a A ∧ H fa = some (.lst (F.map V.bl)) ∧ OkR A ∧ F.length = A.length ∧ A.length ≤ 100 ∧ (k ≤ 30) ∧
  ∀ (H' : Hp) (u ne fo : Addr), Same H H' → H' u = some (.tup [.ref ne, .ref fo]) → TupsAt H' ne (untilRows A k) → H' fo = some (.lst ((repF F (k + 1)).map V.bl)) → Q (.ref u) H'
section
variable {P : Program} {w : World} {K : PySem.W.Frag} {mg : Str → Option Value} {base : Heap}
theorem ok_keptUntil {f : Addr} {fd : FuncData} (F : Fun K "kept_until" "kept_until" sKeptUntil f fd) (T : Tx K mg) : FnOk P w K mg base CX0 1 f fd ["rows", "flags", "number"] (spKeptUntil K) := by
  refine F.ok scKeptUntil (fun vs H Q E h => ?_) (fun cdv A₀ outer s H vs Q E hr h => ?_)
  · obtain ⟨a, fa, A, F, k, rfl, _⟩ := h
    rfl
  · obtain ⟨a, fa, A, F, k, rfl, hA, hF, okA, lF, lA, hk, kk⟩ := h
    have hu := hu_of hr
    have nd := scKeptUntil.nd
    refine ⟨_,
    (pss_cons (ps_set (i := 3) nd rfl (.inl rfl) (pe_lst pa_nil))
    (pss_cons (ps_set (i := 4) nd rfl (.inl rfl) (pe_lst pa_nil))
    (pss_cons (ps_for PassesOwn.never rfl (pi_range1 rfl T.range (pa_cons (pe_op op_add (pv 2) pe_int) (pa_nil))) (pg_name (i := 5) nd rfl (.inl rfl)) 
      (pss_cons (ps_set (i := 6) nd rfl (.inr rfl) (pe_callB (call_min2 rfl) (by rfl) T.min (by decide +kernel) (pa_cons (pe_op op_add (pv 5) pe_int) (pa_cons (pv 2) (pa_nil)))))
      (pss_one (ps_for PassesOwn.never rfl (pi_enum (by rfl) T.enumerate (pa_cons (pv 0) (pa_nil))) (pg_tup rfl (pgs_cons (pg_name (i := 7) nd rfl (.inl rfl)) (pgs_cons (pg_name (i := 8) nd rfl (.inl rfl)) pgs_nil))) 
        (C8.pss_cut (ps_set (i := 9) nd rfl (.inl rfl) (pe_ifExp (pt_cmpR op_lt (pv 5) (pv 2) (nomark _)) (pv 8) (pe_op op_repT (pe_tup (pa_cons (pe_ix ix_tup (pv 8) pe_int (fun _ _ => rfl)) (pa_nil))) pe_int)))
        (pss_cons (ps_expr (pe_bm PySem.F.plainAttrs_list PySem.F.slot_list_append PySem.F.type_list_append mt_append (pv 3) (pa_cons (pe_callTy call_tuple_of (by rfl) T.tuple (by decide +kernel) (pa_cons (pe_lc (own := [("one", 10)]) rfl nd (pi_tup (pv 9)) (blkOk_by (own := [("one", 10)]) (N := ["rows", "flags", "number", "nexts", "found", "step", "later", "state", "row", "chosen", "one"]) (sc := defScope sKeptUntil) (by decide +kernel)) (fun _ _ _ _ _ => (pg_name (i := 10) nd rfl (.inl rfl))) (fun _ _ _ _ _ => pts_nil) (fun _ _ _ _ _ => (pe_op op_add (pe_op op_mul (pv 6) (pe_callB (call_len_seqK K) (by rfl) T.len PySem.boot_len (pa_cons (pv 0) (pa_nil)))) (pv 10)))) (pa_nil))) (pa_nil))))
        (pss_one (ps_expr (pe_bm PySem.F.plainAttrs_list PySem.F.slot_list_append PySem.F.type_list_append mt_append (pv 4) (pa_cons (pe_ix ix_list (pv 1) (pv 7) (fun _ _ => rfl)) (pa_nil)))))))))))
    (pss_one (ps_ret (pe_tup (pa_cons (pv 3) (pa_cons (pv 4) (pa_nil))))))))), ?_⟩
    obtain ⟨xs, hxs, hxl⟩ := hA.lst
    -- nexts = []; found = []
    refine ⟨Nat.zero_le _, fun ne hne => ⟨Nat.zero_le _, fun fo hfo => ?_⟩⟩
    obtain ⟨hfn, hfo0⟩ := upd_none hfo
    -- for step in range
    refine ⟨_, rfl, _, _, rfl, rfl, _, rfl, by omega, by omega, ?_⟩
    have hn : ((k : Int) + 1).toNat = k + 1 := by omega
    rw [hn]
    refine for_range (lo := 0) (n := k + 1) (fun i σ H' => ∃ (v5 v6 v7 v8 v9 v10 : Option V), σ = [some (.ref a), some (.ref fa), some (nv k), some (.ref ne), some (.ref fo), v5, v6, v7, v8, v9, v10] ∧ Same H H' ∧ TupsAt H' ne ((List.range i).flatMap (untilPart A k)) ∧ H' fo = some (.lst ((repF F i).map V.bl)))
      ⟨_, _, _, _, _, _, rfl, same_upd (same_up1 hne) hfo0, .nil (by rw [upd_ne hfn.symm, upd_same]), by rw [upd_same] <;> rfl⟩ ?_ ?_
    · rintro i σ H' hi ⟨v5, v6, v7, v8, v9, v10, rfl, hs, ht, hf⟩
      -- later = min(step + 1, number)
      refine ⟨_, rfl, _, _, rfl, rfl, _, rfl, _, _, rfl, ?_⟩
      have hL : (if ((k : Nat) : Int) < 0 + (i : Int) + 1 then ((k : Nat) : Int) else 0 + (i : Int) + 1) = ((min (i + 1) k : Nat) : Int) := by
        split <;> omega
      revert hL
      generalize (if ((k : Nat) : Int) < 0 + (i : Int) + 1 then ((k : Nat) : Int) else 0 + (i : Int) + 1) = L
      intro hL
      have hLb : min (i + 1) k ≤ 30 := by omega
      -- for state, row in enumerate(rows)
      refine ⟨_, rfl, a, _, rfl, SqL.of (hs _ _ hxs), ?_⟩
      refine for_enum (K := K) (a := a) (xs := xs) (fun j σ H2 => ∃ (v7 v8 v9 v10 : Option V), σ = [some (.ref a), some (.ref fa), some (nv k), some (.ref ne), some (.ref fo), some (.int (0 + (i : Int))), some (.int L), v7, v8, v9, v10] ∧ Same H H2 ∧ TupsAt H2 ne ((List.range i).flatMap (untilPart A k) ++ (untilPart A k i).take j) ∧
        H2 fo = some (.lst ((repF F i ++ F.take j).map V.bl)))
        ⟨_, _, _, _, rfl, hs, by simpa using ht, by simpa using hf⟩ (fun j σ H2 _ ⟨_, _, _, _, _, q, _⟩ => SqL.of (q _ _ hxs)) ?_ ?_
      · rintro j x T₀ σ H2 hj ⟨v7, v8, v9, v10, rfl, hs2, ht2, hf2⟩ hT0
        have hjl := (List.getElem?_eq_some_iff.mp hj).1
        obtain ⟨r, hrj⟩ : ∃ r, A[j]? = some r := ⟨A[j], List.getElem?_eq_getElem (by omega)⟩
        obtain ⟨t1, ht1, ht1'⟩ := hA.at_ hxs hrj
        rw [hj] at ht1
        have ex : x = .ref t1 := Option.some.inj ht1
        subst ex
        have h4 : r.length = 4 := (okA.row r (List.mem_of_getElem? hrj)).1
        have hfl : F[j]? = some (F[j]'(by omega)) := List.getElem?_eq_getElem (by omega)
        have s3 : Same H (upd H2 T₀ (.tup [.int (j : Nat), .ref t1])) := same_new hs2 hT0
        have ht3 := ht2.new (o := .tup [.int (j : Nat), .ref t1]) hT0
        have hf3 : (upd H2 T₀ (.tup [.int (j : Nat), .ref t1])) fo = some (.lst ((repF F i ++ F.take j).map V.bl)) := by rw [upd_ne (ne_of_none hf2 hT0)]; exact hf2
        refine ⟨T₀, _, rfl, SqT.of upd_same, rfl, _, _, rfl, _, _, rfl, rfl, ?_⟩
        -- chosen = ..
        refine ⟨fun σ' H3 => ∃ (c : Addr), σ' = [some (.ref a), some (.ref fa), some (nv k), some (.ref ne), some (.ref fo), some (.int (0 + (i : Int))), some (.int L), some (nv j), some (.ref t1), some (.ref c), v10] ∧ Same H H3 ∧ TupsAt H3 ne ((List.range i).flatMap (untilPart A k) ++ (untilPart A k i).take j) ∧
          H3 fo = some (.lst ((repF F i ++ F.take j).map V.bl)) ∧ SqT K H3 c ((keptRow (decide (i < k)) r).map nv), ?_, ?_⟩
        · refine ⟨_, rfl, _, rfl, _, _, rfl, rfl, _, rfl, ?_⟩
          refine ite2 (fun hc => ?_) (fun hc => ?_)
          · have hc2 : i < k := by
              have := of_decide_eq_true hc
              omega
            exact ⟨_, rfl, t1, rfl, s3, ht3, hf3, by rw [decide_eq_true hc2]; exact SqT.of (s3 _ _ ht1')⟩
          · have hc2 : ¬ i < k := by
              have := of_decide_eq_false (Bool.eq_false_iff.mpr hc)
              omega
            have e0 : r[0]? = some (r.getD 0 0) := by rw [List.getD_eq_getElem?_getD, List.getElem?_eq_getElem (by omega)] <;> rfl
            refine ⟨_, rfl, t1, _, _, _, rfl, rfl, SqT.of (s3 _ _ ht1'), at_of (j := 0) rfl (map_at e0), by show 1 ≤ sizeLine; decide, fun c1 hc1 => ?_⟩
            refine ⟨c1, 4, _, rfl, rfl, SqT.of upd_same, by simp, by decide, by decide, by show 1 ≤ 1000; decide, fun c hc3 => ?_⟩
            refine ⟨c, rfl, same_new (same_new s3 hc1) hc3, (ht3.new hc1).new hc3, by rw [upd_ne (ne_of_none (by rw [upd_ne (ne_of_none hf3 hc1)]; exact hf3) hc3), upd_ne (ne_of_none hf3 hc1)]; exact hf3, SqT.of ?_⟩
            rw [upd_same, decide_eq_false hc2]
            unfold keptRow
            rw [if_neg Bool.false_ne_true]
            rfl
        · -- nexts.append(tuple([..])); found.append(flags[state])
          rintro σ' H3 ⟨c, rfl, s4, ht4, hf4, hc4⟩
          obtain ⟨ys, hys, hyl⟩ := ht4.lst
          have nfo : ne ≠ fo := hfn.symm
          have hkl : (keptRow (decide (i < k)) r).length = 4 := keptRow_len h4
          have hlen : ys.length < sizeLine := by
            have e1 : ((List.range i).flatMap (untilPart A k)).length = i * A.length := by
              rw [flat_len _ A.length _ (fun x _ => by unfold untilPart; rw [List.length_map]), List.length_range]
            rw [hyl, List.length_append, e1]
            have e2 : ((untilPart A k i).take j).length ≤ 100 := by
              have : (untilPart A k i).length = A.length := by unfold untilPart; rw [List.length_map]
              rw [List.length_take]
              omega
            have e3 : i * A.length ≤ 31 * 100 := Nat.mul_le_mul (by omega) lA
            exact Nat.lt_of_le_of_lt (Nat.add_le_add e3 e2) (by decide)
          refine ⟨_, rfl, .inl ⟨rfl, _, SqL.of hys⟩, _, rfl, c, rfl, ⟨_, hc4⟩, fun D hD => ?_⟩
          refine lc_tup (K := K) (a := c) (xs := (keptRow (decide (i < k)) r).map nv) (MI H3 D ((shiftRow (min (i + 1) k * A.length) (keptRow (decide (i < k)) r)).map nv)) (.start hD) (fun i H2 _ m => sqt_same m.1 hc4) ?_ ?_
          · intro i2 v H4 hi2 m
            obtain ⟨y, hy, rfl⟩ : ∃ y, (keptRow (decide (i < k)) r)[i2]? = some y ∧ nv y = v := by
              rw [List.getElem?_map] at hi2
              exact Option.map_eq_some_iff.mp hi2
            have hxs4 := (s4.trans m.1) _ _ hxs
            refine ⟨rfl, tyesT ⟨_, rfl, _, rfl, a, _, rfl, .inl (SqL.of hxs4), _, _, rfl, rfl, .inl ⟨by omega, by omega⟩, _, rfl, _, _, rfl, rfl, m.step ?_ hD ?_⟩⟩
            · have ev : V.int (L * ((xs.length : Nat) : Int) + (y : Int)) = nv (min (i + 1) k * A.length + y) := by
                rw [hL, hxl]
                show V.int _ = V.int _
                rw [Int.natCast_add, Int.natCast_mul]
              show _ = some (V.int (L * ((xs.length : Nat) : Int) + (y : Int)))
              rw [ev]
              unfold shiftRow
              exact map_at (map_at hy)
            · unfold shiftRow
              rw [List.length_map, List.length_map, hkl]
              decide
          · intro H4 m
            obtain ⟨m1, m2⟩ := m.fin (by unfold shiftRow; rw [List.length_map, List.length_map, List.length_map])
            refine ⟨D, _, rfl, .inl ⟨SqL.of m2, fun u hu => ?_⟩⟩
            have hys5 : (upd H4 u (.tup ((shiftRow (min (i + 1) k * A.length) (keptRow (decide (i < k)) r)).map nv))) ne = some (.lst ys) := by rw [upd_ne (ne_of_none (m1 _ _ hys) hu)]; exact m1 _ _ hys
            refine ⟨ne, _, _, rfl, rfl, hys5, hlen, ?_⟩
            have ht5 := ((ht4.same m1).new (o := .tup ((shiftRow (min (i + 1) k * A.length) (keptRow (decide (i < k)) r)).map nv)) hu).push hys5 upd_same
            have hf5 : (upd (upd H4 u (.tup ((shiftRow (min (i + 1) k * A.length) (keptRow (decide (i < k)) r)).map nv))) ne (.lst (ys ++ [.ref u]))) fo = some (.lst ((repF F i ++ F.take j).map V.bl)) := by
              rw [upd_ne nfo.symm, upd_ne (ne_of_none (m1 _ _ hf4) hu)]
              exact m1 _ _ hf4
            have s5 : Same H (upd (upd H4 u (.tup ((shiftRow (min (i + 1) k * A.length) (keptRow (decide (i < k)) r)).map nv))) ne (.lst (ys ++ [.ref u]))) := same_upd (same_new (s4.trans m1) hu) hne
            refine ⟨_, rfl, .inl ⟨rfl, _, SqL.of hf5⟩, _, rfl, _, rfl, fa, _, _, _, rfl, rfl, SqL.of (s5 _ _ hF), at_of rfl (map_at hfl), fo, _, _, rfl, rfl, hf5, ?_, ?_⟩
            · have e1 : (repF F i).length = i * F.length := by
                unfold repF
                rw [flat_len _ F.length _ (fun x _ => rfl), List.length_range]
              rw [List.length_map, List.length_append, e1, List.length_take]
              have e3 : i * F.length ≤ 31 * 100 := Nat.mul_le_mul (by omega) (by omega)
              exact Nat.lt_of_le_of_lt (Nat.add_le_add e3 (show min j F.length ≤ 100 by omega)) (by decide)
            · have hpj : (untilPart A k i)[j]? = some (shiftRow (min (i + 1) k * A.length) (keptRow (decide (i < k)) r)) := by unfold untilPart; exact map_at hrj
              refine ⟨_, _, _, _, rfl, same_upd s5 hfo0, ?_, ?_⟩
              · rw [take_succ hpj, ← List.append_assoc]
                exact ht5.upd hf5 (fun _ z => nomatch z) nfo
              · have e5 : (repF F i ++ F.take (j + 1)).map V.bl = (repF F i ++ F.take j).map V.bl ++ [V.bl (F[j]'(by omega))] := by
                  rw [take_succ hfl, ← List.append_assoc, List.map_append] <;> rfl
                rw [upd_same, e5]
      · -- the turn's end
        rintro σ H2 ⟨v7, v8, v9, v10, rfl, hs2, ht2, hf2⟩
        refine ⟨_, _, _, _, _, _, rfl, hs2, ?_, ?_⟩
        · rw [range_flat]
          have e : (untilPart A k i).take xs.length = untilPart A k i := List.take_of_length_le (by unfold untilPart; rw [List.length_map]; omega)
          rw [e] at ht2
          exact ht2
        · have e : repF F (i + 1) = repF F i ++ F := range_flat (fun _ => F) i
          rw [e]
          have e2 : F.take xs.length = F := List.take_of_length_le (by omega)
          rw [e2] at hf2
          exact hf2
    · -- return (nexts, found)
      rintro σ H' ⟨v5, v6, v7, v8, v9, v10, rfl, hs, ht, hf⟩
      refine ⟨_, rfl, _, rfl, by show 2 ≤ sizeLine; decide, fun u ht' => ?_⟩
      exact kk _ u ne fo (same_new hs ht') upd_same (ht.new ht') (by rw [upd_ne (ne_of_none hf ht')]; exact hf)
end

/-! ## kept_every -/
abbrev sKeptEvery : Stmt := top 36
theorem scKeptEvery : FnScope ["rows", "flags", "divisor", "rest", "nexts", "found", "step", "later", "state", "row", "chosen", "one"] ["rows", "flags", "divisor", "rest"] (defScope sKeptEvery) := ⟨rfl, rfl, rfl, by decide +kernel, rfl, by decide +kernel, by decide +kernel⟩
def spKeptEvery (K : PySem.W.Frag) : Sp := fun vs H Q _ => ∃ (a fa : Addr) (A : List (List Nat)) (F : List Bool) (d t : Nat), vs = [.ref a, .ref fa, nv d, nv t] ∧ TupsAt H a A ∧ H fa = some (.lst (F.map V.bl)) ∧ OkR A ∧ F.length = A.length ∧ A.length ≤ 100 ∧ (0 < d ∧ d ≤ 6 ∧ t < d) ∧
  ∀ (H' : Hp) (u ne fo : Addr), Same H H' → H' u = some (.tup [.ref ne, .ref fo]) → TupsAt H' ne (everyRows A d t) → H' fo = some (.lst ((repF F (d)).map V.bl)) → Q (.ref u) H'
section
variable {P : Program} {w : World} {K : PySem.W.Frag} {mg : Str → Option Value} {base : Heap}
theorem ok_keptEvery {f : Addr} {fd : FuncData} (F : Fun K "kept_every" "kept_every" sKeptEvery f fd) (T : Tx K mg) : FnOk P w K mg base CX0 1 f fd ["rows", "flags", "divisor", "rest"] (spKeptEvery K) := by
  refine F.ok scKeptEvery (fun vs H Q E h => ?_) (fun cdv A₀ outer s H vs Q E hr h => ?_)
  · obtain ⟨a, fa, A, F, d, t, rfl, _⟩ := h
    rfl
  · obtain ⟨a, fa, A, F, d, t, rfl, hA, hF, okA, lF, lA, hk, kk⟩ := h
    have hu := hu_of hr
    have nd := scKeptEvery.nd
    refine ⟨_,
    (pss_cons (ps_set (i := 4) nd rfl (.inl rfl) (pe_lst pa_nil))
    (pss_cons (ps_set (i := 5) nd rfl (.inl rfl) (pe_lst pa_nil))
    (pss_cons (ps_for PassesOwn.never rfl (pi_range1 rfl T.range (pa_cons (pv 2) (pa_nil))) (pg_name (i := 6) nd rfl (.inl rfl)) 
      (pss_cons (ps_set (i := 7) nd rfl (.inr rfl) (pe_op op_mod (pe_op op_add (pv 6) pe_int) (pv 2)))
      (pss_one (ps_for PassesOwn.never rfl (pi_enum (by rfl) T.enumerate (pa_cons (pv 0) (pa_nil))) (pg_tup rfl (pgs_cons (pg_name (i := 8) nd rfl (.inl rfl)) (pgs_cons (pg_name (i := 9) nd rfl (.inl rfl)) pgs_nil))) 
        (C8.pss_cut (ps_set (i := 10) nd rfl (.inl rfl) (pe_ifExp (pt_cmpR op_eq (pv 6) (pv 3) (nomark _)) (pv 9) (pe_op op_repT (pe_tup (pa_cons (pe_ix ix_tup (pv 9) pe_int (fun _ _ => rfl)) (pa_nil))) pe_int)))
        (pss_cons (ps_expr (pe_bm PySem.F.plainAttrs_list PySem.F.slot_list_append PySem.F.type_list_append mt_append (pv 4) (pa_cons (pe_callTy call_tuple_of (by rfl) T.tuple (by decide +kernel) (pa_cons (pe_lc (own := [("one", 11)]) rfl nd (pi_tup (pv 10)) (blkOk_by (own := [("one", 11)]) (N := ["rows", "flags", "divisor", "rest", "nexts", "found", "step", "later", "state", "row", "chosen", "one"]) (sc := defScope sKeptEvery) (by decide +kernel)) (fun _ _ _ _ _ => (pg_name (i := 11) nd rfl (.inl rfl))) (fun _ _ _ _ _ => pts_nil) (fun _ _ _ _ _ => (pe_op op_add (pe_op op_mul (pv 7) (pe_callB (call_len_seqK K) (by rfl) T.len PySem.boot_len (pa_cons (pv 0) (pa_nil)))) (pv 11)))) (pa_nil))) (pa_nil))))
        (pss_one (ps_expr (pe_bm PySem.F.plainAttrs_list PySem.F.slot_list_append PySem.F.type_list_append mt_append (pv 5) (pa_cons (pe_ix ix_list (pv 1) (pv 8) (fun _ _ => rfl)) (pa_nil)))))))))))
    (pss_one (ps_ret (pe_tup (pa_cons (pv 4) (pa_cons (pv 5) (pa_nil))))))))), ?_⟩
    obtain ⟨xs, hxs, hxl⟩ := hA.lst
    -- nexts = []; found = []
    refine ⟨Nat.zero_le _, fun ne hne => ⟨Nat.zero_le _, fun fo hfo => ?_⟩⟩
    obtain ⟨hfn, hfo0⟩ := upd_none hfo
    -- for step in range
    refine ⟨_, rfl, _, rfl, by omega, by omega, ?_⟩
    have hn : ((d : Nat) : Int).toNat = d := by omega
    rw [hn]
    refine for_range (lo := 0) (n := d) (fun i σ H' => ∃ (v5 v6 v7 v8 v9 v10 : Option V), σ = [some (.ref a), some (.ref fa), some (nv d), some (nv t), some (.ref ne), some (.ref fo), v5, v6, v7, v8, v9, v10] ∧ Same H H' ∧ TupsAt H' ne ((List.range i).flatMap (everyPart A d t)) ∧ H' fo = some (.lst ((repF F i).map V.bl)))
      ⟨_, _, _, _, _, _, rfl, same_upd (same_up1 hne) hfo0, .nil (by rw [upd_ne hfn.symm, upd_same]), by rw [upd_same] <;> rfl⟩ ?_ ?_
    · rintro i σ H' hi ⟨v5, v6, v7, v8, v9, v10, rfl, hs, ht, hf⟩
      -- later = (step + 1) % divisor
      have hd0 : (0 : Int) < (d : Int) := by omega
      refine ⟨_, rfl, _, _, rfl, rfl, _, rfl, _, _, rfl, rfl, hd0, ?_⟩
      have hL : (0 + (i : Int) + 1) % ((d : Nat) : Int) = (((i + 1) % d : Nat) : Int) := by
        rw [Int.zero_add, Int.natCast_emod, Int.natCast_add] <;> rfl
      have hLb : (i + 1) % d ≤ 30 := by have := Nat.mod_lt (i + 1) hk.1; omega
      -- for state, row in enumerate(rows)
      refine ⟨_, rfl, a, _, rfl, SqL.of (hs _ _ hxs), ?_⟩
      refine for_enum (K := K) (a := a) (xs := xs) (fun j σ H2 => ∃ (v7 v8 v9 v10 : Option V), σ = [some (.ref a), some (.ref fa), some (nv d), some (nv t), some (.ref ne), some (.ref fo), some (.int (0 + (i : Int))), some (.int ((0 + (i : Int) + 1) % ((d : Nat) : Int))), v7, v8, v9, v10] ∧ Same H H2 ∧ TupsAt H2 ne ((List.range i).flatMap (everyPart A d t) ++ (everyPart A d t i).take j) ∧
        H2 fo = some (.lst ((repF F i ++ F.take j).map V.bl)))
        ⟨_, _, _, _, rfl, hs, by simpa using ht, by simpa using hf⟩ (fun j σ H2 _ ⟨_, _, _, _, _, q, _⟩ => SqL.of (q _ _ hxs)) ?_ ?_
      · rintro j x T₀ σ H2 hj ⟨v7, v8, v9, v10, rfl, hs2, ht2, hf2⟩ hT0
        have hjl := (List.getElem?_eq_some_iff.mp hj).1
        obtain ⟨r, hrj⟩ : ∃ r, A[j]? = some r := ⟨A[j], List.getElem?_eq_getElem (by omega)⟩
        obtain ⟨t1, ht1, ht1'⟩ := hA.at_ hxs hrj
        rw [hj] at ht1
        have ex : x = .ref t1 := Option.some.inj ht1
        subst ex
        have h4 : r.length = 4 := (okA.row r (List.mem_of_getElem? hrj)).1
        have hfl : F[j]? = some (F[j]'(by omega)) := List.getElem?_eq_getElem (by omega)
        have s3 : Same H (upd H2 T₀ (.tup [.int (j : Nat), .ref t1])) := same_new hs2 hT0
        have ht3 := ht2.new (o := .tup [.int (j : Nat), .ref t1]) hT0
        have hf3 : (upd H2 T₀ (.tup [.int (j : Nat), .ref t1])) fo = some (.lst ((repF F i ++ F.take j).map V.bl)) := by rw [upd_ne (ne_of_none hf2 hT0)]; exact hf2
        refine ⟨T₀, _, rfl, SqT.of upd_same, rfl, _, _, rfl, _, _, rfl, rfl, ?_⟩
        -- chosen = ..
        refine ⟨fun σ' H3 => ∃ (c : Addr), σ' = [some (.ref a), some (.ref fa), some (nv d), some (nv t), some (.ref ne), some (.ref fo), some (.int (0 + (i : Int))), some (.int ((0 + (i : Int) + 1) % ((d : Nat) : Int))), some (nv j), some (.ref t1), some (.ref c), v10] ∧ Same H H3 ∧ TupsAt H3 ne ((List.range i).flatMap (everyPart A d t) ++ (everyPart A d t i).take j) ∧
          H3 fo = some (.lst ((repF F i ++ F.take j).map V.bl)) ∧ SqT K H3 c ((keptRow (decide (i = t)) r).map nv), ?_, ?_⟩
        · refine ⟨_, rfl, _, rfl, rfl, _, rfl, ?_⟩
          refine ite2 (fun hc => ?_) (fun hc => ?_)
          · have hc2 : i = t := by
              have := of_decide_eq_true hc
              injection this with this
              omega
            exact ⟨_, rfl, t1, rfl, s3, ht3, hf3, by rw [decide_eq_true hc2]; exact SqT.of (s3 _ _ ht1')⟩
          · have hc2 : ¬ i = t := fun e => hc (decide_eq_true (by rw [e, Int.zero_add] <;> rfl))
            have e0 : r[0]? = some (r.getD 0 0) := by rw [List.getD_eq_getElem?_getD, List.getElem?_eq_getElem (by omega)] <;> rfl
            refine ⟨_, rfl, t1, _, _, _, rfl, rfl, SqT.of (s3 _ _ ht1'), at_of (j := 0) rfl (map_at e0), by show 1 ≤ sizeLine; decide, fun c1 hc1 => ?_⟩
            refine ⟨c1, 4, _, rfl, rfl, SqT.of upd_same, by simp, by decide, by decide, by show 1 ≤ 1000; decide, fun c hc3 => ?_⟩
            refine ⟨c, rfl, same_new (same_new s3 hc1) hc3, (ht3.new hc1).new hc3, by rw [upd_ne (ne_of_none (by rw [upd_ne (ne_of_none hf3 hc1)]; exact hf3) hc3), upd_ne (ne_of_none hf3 hc1)]; exact hf3, SqT.of ?_⟩
            rw [upd_same, decide_eq_false hc2]
            unfold keptRow
            rw [if_neg Bool.false_ne_true]
            rfl
        · -- nexts.append(tuple([..])); found.append(flags[state])
          rintro σ' H3 ⟨c, rfl, s4, ht4, hf4, hc4⟩
          obtain ⟨ys, hys, hyl⟩ := ht4.lst
          have nfo : ne ≠ fo := hfn.symm
          have hkl : (keptRow (decide (i = t)) r).length = 4 := keptRow_len h4
          have hlen : ys.length < sizeLine := by
            have e1 : ((List.range i).flatMap (everyPart A d t)).length = i * A.length := by
              rw [flat_len _ A.length _ (fun x _ => by unfold everyPart; rw [List.length_map]), List.length_range]
            rw [hyl, List.length_append, e1]
            have e2 : ((everyPart A d t i).take j).length ≤ 100 := by
              have : (everyPart A d t i).length = A.length := by unfold everyPart; rw [List.length_map]
              rw [List.length_take]
              omega
            have e3 : i * A.length ≤ 31 * 100 := Nat.mul_le_mul (by omega) lA
            exact Nat.lt_of_le_of_lt (Nat.add_le_add e3 e2) (by decide)
          refine ⟨_, rfl, .inl ⟨rfl, _, SqL.of hys⟩, _, rfl, c, rfl, ⟨_, hc4⟩, fun D hD => ?_⟩
          refine lc_tup (K := K) (a := c) (xs := (keptRow (decide (i = t)) r).map nv) (MI H3 D ((shiftRow ((i + 1) % d * A.length) (keptRow (decide (i = t)) r)).map nv)) (.start hD) (fun i H2 _ m => sqt_same m.1 hc4) ?_ ?_
          · intro i2 v H4 hi2 m
            obtain ⟨y, hy, rfl⟩ : ∃ y, (keptRow (decide (i = t)) r)[i2]? = some y ∧ nv y = v := by
              rw [List.getElem?_map] at hi2
              exact Option.map_eq_some_iff.mp hi2
            have hxs4 := (s4.trans m.1) _ _ hxs
            refine ⟨rfl, tyesT ⟨_, rfl, _, rfl, a, _, rfl, .inl (SqL.of hxs4), _, _, rfl, rfl, .inl ⟨by omega, by omega⟩, _, rfl, _, _, rfl, rfl, m.step ?_ hD ?_⟩⟩
            · have ev : V.int (((0 + (i : Int) + 1) % ((d : Nat) : Int)) * ((xs.length : Nat) : Int) + (y : Int)) = nv ((i + 1) % d * A.length + y) := by
                rw [hL, hxl]
                show V.int _ = V.int _
                rw [Int.natCast_add, Int.natCast_mul]
              show _ = some (V.int (((0 + (i : Int) + 1) % ((d : Nat) : Int)) * ((xs.length : Nat) : Int) + (y : Int)))
              rw [ev]
              unfold shiftRow
              exact map_at (map_at hy)
            · unfold shiftRow
              rw [List.length_map, List.length_map, hkl]
              decide
          · intro H4 m
            obtain ⟨m1, m2⟩ := m.fin (by unfold shiftRow; rw [List.length_map, List.length_map, List.length_map])
            refine ⟨D, _, rfl, .inl ⟨SqL.of m2, fun u hu => ?_⟩⟩
            have hys5 : (upd H4 u (.tup ((shiftRow ((i + 1) % d * A.length) (keptRow (decide (i = t)) r)).map nv))) ne = some (.lst ys) := by rw [upd_ne (ne_of_none (m1 _ _ hys) hu)]; exact m1 _ _ hys
            refine ⟨ne, _, _, rfl, rfl, hys5, hlen, ?_⟩
            have ht5 := ((ht4.same m1).new (o := .tup ((shiftRow ((i + 1) % d * A.length) (keptRow (decide (i = t)) r)).map nv)) hu).push hys5 upd_same
            have hf5 : (upd (upd H4 u (.tup ((shiftRow ((i + 1) % d * A.length) (keptRow (decide (i = t)) r)).map nv))) ne (.lst (ys ++ [.ref u]))) fo = some (.lst ((repF F i ++ F.take j).map V.bl)) := by
              rw [upd_ne nfo.symm, upd_ne (ne_of_none (m1 _ _ hf4) hu)]
              exact m1 _ _ hf4
            have s5 : Same H (upd (upd H4 u (.tup ((shiftRow ((i + 1) % d * A.length) (keptRow (decide (i = t)) r)).map nv))) ne (.lst (ys ++ [.ref u]))) := same_upd (same_new (s4.trans m1) hu) hne
            refine ⟨_, rfl, .inl ⟨rfl, _, SqL.of hf5⟩, _, rfl, _, rfl, fa, _, _, _, rfl, rfl, SqL.of (s5 _ _ hF), at_of rfl (map_at hfl), fo, _, _, rfl, rfl, hf5, ?_, ?_⟩
            · have e1 : (repF F i).length = i * F.length := by
                unfold repF
                rw [flat_len _ F.length _ (fun x _ => rfl), List.length_range]
              rw [List.length_map, List.length_append, e1, List.length_take]
              have e3 : i * F.length ≤ 31 * 100 := Nat.mul_le_mul (by omega) (by omega)
              exact Nat.lt_of_le_of_lt (Nat.add_le_add e3 (show min j F.length ≤ 100 by omega)) (by decide)
            · have hpj : (everyPart A d t i)[j]? = some (shiftRow ((i + 1) % d * A.length) (keptRow (decide (i = t)) r)) := by unfold everyPart; exact map_at hrj
              refine ⟨_, _, _, _, rfl, same_upd s5 hfo0, ?_, ?_⟩
              · rw [take_succ hpj, ← List.append_assoc]
                exact ht5.upd hf5 (fun _ z => nomatch z) nfo
              · have e5 : (repF F i ++ F.take (j + 1)).map V.bl = (repF F i ++ F.take j).map V.bl ++ [V.bl (F[j]'(by omega))] := by
                  rw [take_succ hfl, ← List.append_assoc, List.map_append] <;> rfl
                rw [upd_same, e5]
      · -- the turn's end
        rintro σ H2 ⟨v7, v8, v9, v10, rfl, hs2, ht2, hf2⟩
        refine ⟨_, _, _, _, _, _, rfl, hs2, ?_, ?_⟩
        · rw [range_flat]
          have e : (everyPart A d t i).take xs.length = everyPart A d t i := List.take_of_length_le (by unfold everyPart; rw [List.length_map]; omega)
          rw [e] at ht2
          exact ht2
        · have e : repF F (i + 1) = repF F i ++ F := range_flat (fun _ => F) i
          rw [e]
          have e2 : F.take xs.length = F := List.take_of_length_le (by omega)
          rw [e2] at hf2
          exact hf2
    · -- return (nexts, found)
      rintro σ H' ⟨v5, v6, v7, v8, v9, v10, rfl, hs, ht, hf⟩
      refine ⟨_, rfl, _, rfl, by show 2 ≤ sizeLine; decide, fun u ht' => ?_⟩
      exact kk _ u ne fo (same_new hs ht') upd_same (ht.new ht') (by rw [upd_ne (ne_of_none hf ht')]; exact hf)
end
end SR

/-! ### SR7 -/
set_option maxHeartbeats 4000000
namespace SR
open PySem PySem.Spec PyProof.Rows L2 SRR
/-! ## by_turns -/
abbrev scOuterBT : Scope := { kind := .function, names := [(".0", .local), ("row", .local), ("tuple", .globalImplicit), ("many", .cell)], isGenerator := false, isCoroutine := false }
theorem TupsAt.cat {H : Hp} {a b p : Addr} {L M : List (List Nat)} {xs zs : List V} (h : TupsAt H a L) (g : TupsAt H b M) (hx : H a = some (.lst xs)) (hz : H b = some (.lst zs)) (hp : H p = none) : TupsAt (L2.upd H p (.lst (xs ++ zs))) p (L ++ M) := by
  obtain ⟨ts, h1, h2, h3⟩ := h
  obtain ⟨us, g1, g2, g3⟩ := g
  have e : xs = ts.map V.ref := by
    rw [hx] at h1
    injection h1 with h1
    injection h1
  have e' : zs = us.map V.ref := by
    rw [hz] at g1
    injection g1 with g1
    injection g1
  subst e e'
  refine ⟨ts ++ us, by rw [upd_same, List.map_append], by rw [List.length_append, List.length_append, h2, g2], fun i t r hi hr => ?_⟩
  have key : ∀ {z : Addr} {y : List V}, H z = some (.tup y) → L2.upd H p (.lst (ts.map V.ref ++ us.map V.ref)) z = some (.tup y) := fun {z y} hz => by
    rw [upd_ne (ne_of_none hz hp)]
    exact hz
  by_cases hl : i < ts.length
  · rw [List.getElem?_append_left hl] at hi
    rw [List.getElem?_append_left (by omega)] at hr
    exact key (h3 i t r hi hr)
  · rw [List.getElem?_append_right (by omega)] at hi
    rw [List.getElem?_append_right (by omega), ← h2] at hr
    exact key (g3 _ t r hi hr)
abbrev sByTurns : Stmt := top 37
theorem scByTurns : FnScope ["rows", "flags", "others", "marks", "pairs", "behind", "many", "nexts", "row", "one", "other"] ["rows", "flags", "others", "marks"] (defScope sByTurns) := ⟨rfl, rfl, rfl, by decide +kernel, rfl, by decide +kernel, by decide +kernel⟩
def turnRows (nexts : List (List Nat)) (n : Nat) : List (List Nat) := nexts.map (shiftRow n) ++ nexts
def turnFlags (F M : List Bool) (order : List (List Nat)) : List Bool := (order.map fun p => F.getD (p.getD 0 0) false) ++ order.map fun p => M.getD (p.getD 1 0) false
def spByTurns (K : PySem.W.Frag) : Sp := fun vs H Q _ => ∃ (a fa b fb : Addr) (A B : List (List Nat)) (F M : List Bool), vs = [.ref a, .ref fa, .ref b, .ref fb] ∧ TupsAt H a A ∧ H fa = some (.lst (F.map V.bl)) ∧ TupsAt H b B ∧ H fb = some (.lst (M.map V.bl)) ∧
  OkR A ∧ OkR B ∧ F.length = A.length ∧ M.length = B.length ∧ A.length * B.length ≤ 20000 ∧
  ∀ (H' : Hp) (t ne fl : Addr) (order nexts : List (List Nat)), Same H H' → H' t = some (.tup [.ref ne, .ref fl]) → TupsAt H' ne (turnRows nexts order.length) → H' fl = some (.lst ((turnFlags F M order).map V.bl)) → Expl (dl2 A B) [0, 0] order nexts → order.length ≤ nexts.length →
    order.length ≤ A.length * B.length → Q (.ref t) H'
section
variable {P : Program} {w : World} {K : PySem.W.Frag} {mg : Str → Option Value} {base : Heap}
theorem ok_byTurns {f : Addr} {fd : FuncData} (F : Fun K "by_turns" "by_turns" sByTurns f fd) (T : Tx K mg) (GB : Fx P w K mg base CX0 1 "both_read" ["rows", "others"] (spBothRead K)) : FnOk P w K mg base CX0 2 f fd ["rows", "flags", "others", "marks"] (spByTurns K) := by
  refine F.ok scByTurns (fun vs H Q E h => ?_) (fun cdv A₀ outer s H vs Q E hr h => ?_)
  · obtain ⟨a, fa, b, fb, A, B, F, M, rfl, _⟩ := h
    rfl
  · obtain ⟨a, fa, b, fb, A, B, F, M, rfl, hA, hF, hB, hM, okA, okB, lF, lM, hsz, k⟩ := h
    have hu := hu_of hr
    have nd := scByTurns.nd
    refine ⟨_,
    (pss_cons (ps_asg (pe_fx GB hr pass0 (pa_cons (pv 0) (pa_cons (pv 2) (pa_nil)))) (pg_tup rfl (pgs_cons (pg_name (i := 4) nd rfl (.inl rfl)) (pgs_cons (pg_name (i := 5) nd rfl (.inl rfl)) pgs_nil))))
    (pss_cons (ps_set (i := 6) nd rfl (.inr rfl) (pe_callB call_len_seq (by rfl) T.len PySem.boot_len (pa_cons (pv 4) (pa_nil))))
    (pss_cons (ps_set (i := 7) nd rfl (.inl rfl) (pe_op op_cat (pe_lc (own := [("row", 8)]) rfl nd (pi_list (pv 5)) (blkOk_by (own := [("row", 8)]) (N := ["rows", "flags", "others", "marks", "pairs", "behind", "many", "nexts", "row", "one", "other"]) (sc := defScope sByTurns) (by decide +kernel)) (fun _ _ _ _ _ => (pg_name (i := 8) nd rfl (.inl rfl))) (fun _ _ _ _ _ => pts_nil) (fun _ _ _ _ _ => (pe_callTy (call_tuple_ofK K) (by rfl) T.tuple (by decide +kernel) (pa_cons (pe_lc (own := [("one", 9)]) rfl nd (pi_tupK K rfl (pv 8)) (blkOk_by (own := [("one", 9)]) (N := ["rows", "flags", "others", "marks", "pairs", "behind", "many", "nexts", "row", "one", "other"]) (sc := scOuterBT) (by decide +kernel)) (fun _ _ _ _ _ => (pg_name (i := 9) nd rfl (.inl rfl))) (fun _ _ _ _ _ => pts_nil) (fun _ _ _ _ _ => (pe_op op_add (pv 6) (pv 9)))) (pa_nil))))) (pv 5)))
    (pss_one (ps_ret (pe_tup (pa_cons (pv 7) (pa_cons (pe_op op_cat (pe_lc (own := [("one", 9), ("other", 10)]) rfl nd (pi_list (pv 4)) (blkOk_by (own := [("one", 9), ("other", 10)]) (N := ["rows", "flags", "others", "marks", "pairs", "behind", "many", "nexts", "row", "one", "other"]) (sc := defScope sByTurns) (by decide +kernel)) (fun _ _ _ _ _ => (pg_tupK K 2 rfl rfl (pgs_cons (pg_name (i := 9) nd rfl (.inl rfl)) (pgs_cons (pg_name (i := 10) nd rfl (.inl rfl)) pgs_nil)))) (fun _ _ _ _ _ => pts_nil) (fun _ _ _ _ _ => (pe_ix (ix_listK K) (pv 1) (pv 9) (fun _ _ => rfl)))) (pe_lc (own := [("one", 9), ("other", 10)]) rfl nd (pi_list (pv 4)) (blkOk_by (own := [("one", 9), ("other", 10)]) (N := ["rows", "flags", "others", "marks", "pairs", "behind", "many", "nexts", "row", "one", "other"]) (sc := defScope sByTurns) (by decide +kernel)) (fun _ _ _ _ _ => (pg_tupK K 2 rfl rfl (pgs_cons (pg_name (i := 9) nd rfl (.inl rfl)) (pgs_cons (pg_name (i := 10) nd rfl (.inl rfl)) pgs_nil)))) (fun _ _ _ _ _ => pts_nil) (fun _ _ _ _ _ => (pe_ix (ix_listK K) (pv 3) (pv 10) (fun _ _ => rfl))))) (pa_nil))))))))), ?_⟩
    -- pairs, behind = both_read(rows, others)
    refine ⟨_, rfl, _, rfl, a, b, A, B, rfl, hA.rows, hB.rows, okA, okB, by omega, fun H1 t0 pa ne order nexts s1 npa nne ht hpa hne G hge hle => ?_⟩
    refine ⟨t0, _, rfl, SqT.of ht, rfl, _, _, rfl, _, _, rfl, rfl, ?_⟩
    obtain ⟨xs, hxs, hxl⟩ := hpa.lst
    obtain ⟨ys, hys, hyl⟩ := hne.lst
    have hlen : nexts.length = order.length := Nat.le_antisymm G.le hge
    have hsl : order.length < 60000 := by omega
    -- many = len(pairs)
    refine ⟨_, rfl, pa, _, rfl, .inl (SqL.of hxs), ?_⟩
    -- nexts = [..] + behind
    refine ⟨_, rfl, ne, rfl, ⟨_, SqL.of hys⟩, fun D hD => ?_⟩
    refine lc_list (K := K) (a := ne) (xs := ys) (fun i H2 => Same H1 H2 ∧ TupsAt H2 D ((nexts.take i).map (shiftRow order.length))) ⟨same_up1 hD, .nil upd_same⟩ (fun i H2 _ m => SqL.of (m.1 _ _ hys)) ?_ ?_
    · rintro i v H2 hi ⟨s2, hD2⟩
      have hil := (List.getElem?_eq_some_iff.mp hi).1
      obtain ⟨r, hr1⟩ : ∃ r, nexts[i]? = some r := ⟨nexts[i], List.getElem?_eq_getElem (by omega)⟩
      obtain ⟨t1, ht1, ht2⟩ := hne.at_ hys hr1
      rw [hi] at ht1
      have ev : v = .ref t1 := Option.some.inj ht1
      subst ev
      have h4 := G.r4 r (List.mem_of_getElem? hr1)
      refine ⟨rfl, tyesT ⟨_, rfl, t1, rfl, ⟨_, SqT.of (s2 _ _ ht2)⟩, fun D2 hD2' => ?_⟩⟩
      refine lc_tup (K := K) (a := t1) (xs := r.map nv) (MI H2 D2 ((shiftRow order.length r).map nv)) (.start hD2') (fun i H3 _ m => SqT.of ((s2.trans m.1) _ _ ht2)) ?_ ?_
      · intro i2 v H4 hi2 m
        obtain ⟨y, hy, rfl⟩ : ∃ y, r[i2]? = some y ∧ nv y = v := by
          rw [List.getElem?_map] at hi2
          exact Option.map_eq_some_iff.mp hi2
        refine ⟨rfl, tyesT ⟨_, rfl, _, rfl, _, _, rfl, rfl, m.step ?_ hD2' ?_⟩⟩
        · show _ = some (V.int (((xs.length : Nat) : Int) + (y : Int)))
          have ev : V.int (((xs.length : Nat) : Int) + (y : Int)) = nv (order.length + y) := by
            rw [hxl]
            show V.int _ = V.int _
            rw [Int.natCast_add]
          rw [ev]
          unfold shiftRow
          exact map_at (map_at hy)
        · unfold shiftRow
          rw [List.length_map, List.length_map, h4]
          decide
      · intro H4 m
        obtain ⟨m1, m2⟩ := m.fin (by unfold shiftRow; rw [List.length_map, List.length_map, List.length_map])
        refine ⟨D2, _, rfl, .inl ⟨SqL.of m2, fun u hu => ?_⟩⟩
        obtain ⟨ds, hds, hdl⟩ := hD2.lst
        have hds5 : (upd H4 u (.tup ((shiftRow order.length r).map nv))) D = some (.lst ds) := by rw [upd_ne (ne_of_none (m1 _ _ hds) hu)]; exact m1 _ _ hds
        refine ⟨ds, hds5, ?_, same_upd (same_new (s2.trans m1) hu) hD, ?_⟩
        · rw [hdl, List.length_map, List.length_take]
          exact Nat.lt_of_le_of_lt (Nat.le_trans (Nat.min_le_right _ _) (by omega : nexts.length ≤ 60000)) (by decide)
        · have e : (nexts.take (i + 1)).map (shiftRow order.length) = (nexts.take i).map (shiftRow order.length) ++ [shiftRow order.length r] := by
            rw [take_succ hr1, List.map_append] <;> rfl
          rw [e]
          exact ((hD2.same m1).new hu).push hds5 upd_same
    · rintro H2 ⟨s2, hD2⟩
      have e : nexts.take ys.length = nexts := List.take_of_length_le (by omega)
      rw [e] at hD2
      obtain ⟨ds, hds, hdl⟩ := hD2.lst
      have hys2 := s2 _ _ hys
      rw [List.length_map] at hdl
      refine ⟨_, rfl, D, ne, _, _, rfl, rfl, hds, hys2, ?_, fun nx hnx => ?_⟩
      · rw [hdl, hyl]
        exact Nat.le_trans (by omega : nexts.length + nexts.length ≤ 120000) (by decide)
      · have hN : TupsAt (upd H2 nx (.lst (ds ++ ys))) nx (turnRows nexts order.length) := hD2.cat (hne.same s2) hds hys2 hnx
        generalize hH3 : upd H2 nx (.lst (ds ++ ys)) = H3 at hN
        have s3 : Same H1 H3 := by
          rw [← hH3]
          exact same_new s2 hnx
        have hpa3 := hpa.same s3
        have hin : ∀ p ∈ order, p.getD 0 0 < A.length ∧ p.getD 1 0 < B.length ∧ ∃ x y, p = [x, y] := fun p hp => by
          obtain ⟨w, hw, e⟩ := G.re p hp
          rw [run_dl2] at e
          subst e
          exact ⟨okA.st_lt hw okA.pos, okB.st_lt hw okB.pos, _, _, rfl⟩
        -- return (nexts, [..] + [..])
        refine ⟨_, rfl, _, rfl, pa, rfl, ⟨_, SqL.of (s3 _ _ hxs)⟩, fun D3 hD3 => ?_⟩
        refine lc_list (K := K) (a := pa) (xs := xs) (MI H3 D3 ((order.map fun p => F.getD (p.getD 0 0) false).map V.bl)) (.start hD3) (fun i H2 _ m => SqL.of ((s3.trans m.1) _ _ hxs)) ?_ ?_
        · intro i v H4 hi m
          have hil := (List.getElem?_eq_some_iff.mp hi).1
          obtain ⟨p, hp⟩ : ∃ p, order[i]? = some p := ⟨order[i], List.getElem?_eq_getElem (by omega)⟩
          obtain ⟨hx, hy, x, y, rfl⟩ := hin p (List.mem_of_getElem? hp)
          obtain ⟨tp, htp, htp2⟩ := hpa.at_ hxs hp
          rw [hi] at htp
          have ev : v = .ref tp := Option.some.inj htp
          subst ev
          have hx' : x < F.length := by rw [lF]; exact hx
          have e1 : F[x]? = some F[x] := List.getElem?_eq_getElem hx'
          refine ⟨tp, _, rfl, SqT.of ((s3.trans m.1) _ _ htp2), rfl, _, _, rfl, _, _, rfl, rfl, rfl, tyesT ?_⟩
          refine ⟨_, rfl, _, rfl, fa, _, _, _, rfl, rfl, SqL.of ((s1.trans (s3.trans m.1)) _ _ hF), at_of rfl (map_at e1), m.step ?_ hD3 ?_⟩
          · have e2 : F.getD ([x, y].getD 0 0) false = F[x] := getD_of e1
            rw [← e2]
            exact map_at (map_at (f := fun p : List Nat => F.getD (p.getD 0 0) false) hp)
          · rw [List.length_map, List.length_map]
            exact Nat.le_trans (by omega : order.length ≤ 60000) (by decide)
        · intro H4 m
          obtain ⟨m1, m2⟩ := m.fin (by rw [List.length_map, List.length_map, hxl])
          refine ⟨_, rfl, pa, rfl, ⟨_, SqL.of ((s3.trans m1) _ _ hxs)⟩, fun D4 hD4 => ?_⟩
          refine lc_list (K := K) (a := pa) (xs := xs) (MI H4 D4 ((order.map fun p => M.getD (p.getD 1 0) false).map V.bl)) (.start hD4) (fun i H2 _ m => SqL.of (((s3.trans m1).trans m.1) _ _ hxs)) ?_ ?_
          · intro i v H5 hi m
            have hil := (List.getElem?_eq_some_iff.mp hi).1
            obtain ⟨p, hp⟩ : ∃ p, order[i]? = some p := ⟨order[i], List.getElem?_eq_getElem (by omega)⟩
            obtain ⟨hx, hy, x, y, rfl⟩ := hin p (List.mem_of_getElem? hp)
            obtain ⟨tp, htp, htp2⟩ := hpa.at_ hxs hp
            rw [hi] at htp
            have ev : v = .ref tp := Option.some.inj htp
            subst ev
            have hy' : y < M.length := by rw [lM]; exact hy
            have e1 : M[y]? = some M[y] := List.getElem?_eq_getElem hy'
            refine ⟨tp, _, rfl, SqT.of (((s3.trans m1).trans m.1) _ _ htp2), rfl, _, _, rfl, _, _, rfl, rfl, rfl, tyesT ?_⟩
            refine ⟨_, rfl, _, rfl, fb, _, _, _, rfl, rfl, SqL.of ((s1.trans ((s3.trans m1).trans m.1)) _ _ hM), at_of rfl (map_at e1), m.step ?_ hD4 ?_⟩
            · have e2 : M.getD ([x, y].getD 1 0) false = M[y] := getD_of e1
              rw [← e2]
              exact map_at (map_at (f := fun p : List Nat => M.getD (p.getD 1 0) false) hp)
            · rw [List.length_map, List.length_map]
              exact Nat.le_trans (by omega : order.length ≤ 60000) (by decide)
          · intro H5 m'
            obtain ⟨m3, m4⟩ := m'.fin (by rw [List.length_map, List.length_map, hxl])
            refine ⟨D3, D4, _, _, rfl, rfl, m3 _ _ m2, m4, ?_, fun fl hfl => ?_⟩
            · simp only [List.length_map]
              exact Nat.le_trans (by omega : order.length + order.length ≤ 120000) (by decide)
            · refine ⟨by show 2 ≤ sizeLine; decide, fun t ht3 => ?_⟩
              refine k _ t nx fl order nexts (same_new (same_new (s1.trans ((s3.trans m1).trans m3)) hfl) ht3) upd_same (((hN.same (m1.trans m3)).new hfl).new ht3) ?_ G hge hle
              obtain ⟨q1, _⟩ := upd_none ht3
              rw [upd_ne q1.symm, upd_same]
              unfold turnFlags
              rw [List.map_append]
end
end SR

/-! ### SR8 -/
set_option maxHeartbeats 4000000
namespace SR
open PySem PySem.Spec PyProof.Rows L2 SRR
/-! ## S.__init__(self, ..), S a class of the text whose __init__ is ValueError's -/
theorem pe_cinit {X : Cx} {x : Str} {S : Addr} {mc : Value} {e : Expr} {es : List Expr} {ta : TA} {p1 p2 pos : Pos} {pl : Sem Bool} (hg : Gl X x) (hm : X.mg x = some (.ref S)) (r : ClX.CRead X.K S mc) (vV : PySem.W.findCls X.K (.ref S) mc "__init__" = some (.val (.builtin "ValueError.__init__"))) (ha : PA X (e :: es) ta)
    (hdb : (x == ("__debug__" : Str)) = false := by decide)
    (hc : eval (.Call (.Attribute (.Name x p1) "__init__" p2) (e :: es) [] pos) X.env = (do
      let ov ← eval (.Name x p1) X.env
      standAt p2.atName
      let (f, first) ← holding [ov] (getMethod ov "__init__" pl)
      callWith pos f first (backTo pos (starEach (e :: es) X.env)) (backToKw pos (keywordEach [] X.env))) := by rfl)
    (he : starEach (e :: es) X.env = (false, eval e X.env) :: starEach es X.env := by rfl) (hpl : (backTo pos (starEach es X.env)).any (·.1) = false := by rfl) :
    PE X (.Call (.Attribute (.Name x p1) "__init__" p2) (e :: es) [] pos) (tVeI X.K ta) := by
  refine ⟨fun pins s σ H Q I h => ?_⟩
  refine PySem.W.methodCall_KW (ld_glob I hg hm ?_ hdb) hc
  refine PySem.W.method_cls I.kIn r.ga (PySem.W.cls_value I.kIn r.rd vV rfl ?_)
  show wpAny _ _ (callWith pos (Value.builtin "ValueError.__init__") [] (backTo pos (starEach (e :: es) X.env)) []) _ _ _
  refine PyProof.Rows.callWith_method1 (thn (ha.run pos pins _ σ H _ (I.tok _) h) fun us s1 ⟨vs, H1, I1, r1, a, C, ws, ev, hl, T, ea, q⟩ => ?_) he hpl
  subst ev
  cases r1 with
  | @cons _ u0 _ ur ra rw' =>
    obtain rfl : u0 = Value.ref a := ra
    have hlen : ur.length ≤ sizeLine := by
      rw [← Paired.length rw', sizeLine_eq]
      omega
    exact oinit_ok T I1 ea hlen fun s' J => ⟨.non, H1, J, rfl, q⟩
/-! ## TooMany -/
abbrev sTmI : Stmt := inClass (top 11) 0
theorem scTmI : FnScope ["self", "limit"] ["self", "limit"] (defScope sTmI) := ⟨rfl, rfl, rfl, by decide +kernel, rfl, by decide +kernel, by decide +kernel⟩
/-- what the text has written of SearchError and TooMany -/
structure Tm (K : PySem.W.Frag) (mg : Str → Option Value) (C : Addr) : Prop where
  se : ∃ (S : Addr) (mc : Value), mg "SearchError" = some (.ref S) ∧ ClX.CRead K S mc ∧ PySem.W.findCls K (.ref S) mc "__init__" = some (.val (.builtin "ValueError.__init__"))
  gC : mg "TooMany" = some (.ref C)
  ox : OexC K C
  noF : PySem.W.findIn K (.ref C) "limit" = some none
  ini : ∃ (fI : Addr) (fd : FuncData), PySem.W.findIn K (.ref C) "__init__" = some (some (.ref fI)) ∧ PySem.W.typeIn K (.ref fI) = some (.type "function") ∧ Fun K "__init__" "TooMany.__init__" sTmI fI fd ∧ Binds K fd ["self", "limit"] []
def spTmI (K : PySem.W.Frag) (C : Addr) : Sp := fun vs H Q _ => ∃ (a : Addr) (n : Int), vs = [.ref a, .int n] ∧ H a = some (exo a C none) ∧ ∀ d, H d = none → d ≠ a → Q .non (upd (upd H d (exd d [(("limit" : Str), .int n)])) a (exo a C (some d)))
section
variable {P : Program} {w : World} {K : PySem.W.Frag} {mg : Str → Option Value} {base : Heap} {C : Addr}
theorem ok_tmI {f : Addr} {fd : FuncData} (F : Fun K "__init__" "TooMany.__init__" sTmI f fd) (T : Tm K mg C) : FnOk P w K mg base CX0 1 f fd ["self", "limit"] (spTmI K C) := by
  obtain ⟨S, mc, hS, rS, vS⟩ := T.se
  refine F.ok scTmI (fun vs H Q E h => ?_) (fun cdv A₀ outer s H vs Q E hr h => ?_)
  · obtain ⟨a, n, rfl, _⟩ := h
    rfl
  · obtain ⟨a, n, rfl, ha, k⟩ := h
    refine ⟨_, (pss_cons (ps_expr (pe_cinit rfl hS rS vS (pa_cons (pv 0) (pa_cons pe_str pa_nil))))
      (pss_one (ps_ost (pv 0) (pv 1)))), ?_⟩
    refine ⟨_, rfl, a, C, _, rfl, by decide, T.ox, ha, ?_⟩
    refine ⟨_, rfl, _, rfl, a, C, rfl, T.ox, T.noF, .inl ⟨ha, fun d hd hn => k d hd hn⟩⟩
end
/-- raise TooMany(e) -/
def tTooMany (K : PySem.W.Frag) (C : Addr) (W : WX) (te : TE) : TS := fun _ σ H => tMkO C (spTmI K C) [] (tCons te tNil) σ H fun cls d H' => W cls d σ H'
theorem ps_tooMany {X : Cx} {W : WX} {a : Expr} {te : TE} {p pos pos2 : Pos} {C : Addr} (hc : X.calm = true) (T : Tm X.K X.mg C) (hr : Room 2 X.A) (tk : Takes X W) (ha : PA X [a] (tCons te tNil)) (hg : Gl X "TooMany" := by rfl)
    (he : starEach (a :: []) X.env = (false, eval a X.env) :: starEach [] X.env := by rfl) (hpl : (backTo pos (starEach [] X.env)).any (·.1) = false := by rfl) :
    PS X (.Raise (some (.Call (.Name "TooMany" p) [a] [] pos)) none pos2) (tTooMany X.K C W te) := by
  obtain ⟨fI, fd, h1, h2, F, b⟩ := T.ini
  have G := ok_tmI (P := X.prog) (w := X.w) (base := X.base) F T
  exact ps_raise (W := W) hc tk (pmk_oex T.ox h1 h2 G hr b .nil pass0 hg T.gC ha (by decide) he hpl)
theorem tooMany_rd {K : PySem.W.Frag} {C : Addr} {W : WX} {n : Int} {D : Ends} {σ : L2.St} {H : Hp} (h : ∀ d H2, Same H H2 → W (.ref C) (some d) σ H2) : tTooMany K C W (tC (.int n)) D σ H := by
  refine ⟨by show 1 ≤ 1000; decide, fun a ha => ⟨a, n, rfl, upd_same, fun d hd hn => ⟨rfl, d, [(("limit" : Str), .int n)], upd_same, ?_, ?_, ?_⟩⟩⟩
  · rw [upd_ne hn, upd_same]
  · rw [upd_ne hn] at hd
    exact hd
  · rw [upd_ne hn] at hd
    refine h d _ fun b u e => ?_
    rw [upd_ne (ne_of_none e hd), del_ne (ne_of_none e ha), upd_ne (ne_of_none e ha), upd_ne (ne_of_none e hd), upd_ne (ne_of_none e ha)]
    exact e
end SR

/-! ### SR9 -/
set_option maxHeartbeats 4000000
namespace SR
open PySem PySem.Spec PyProof.Rows L2 SRR SRN
/-! ## kinds of states -/
def kd (S : List Nat) (κ : Nat → Nat) : List (Key × V) := S.map fun s => (nk s, nv (κ s))
theorem kd_keys (S : List Nat) (κ : Nat → Nat) : (kd S κ).map (·.1) = S.map nk := by
  unfold kd
  rw [List.map_map] <;> rfl
theorem kd_vals (S : List Nat) (κ : Nat → Nat) : (kd S κ).map (·.2) = (S.map fun s => (κ s : Int)).map V.int := by
  unfold kd
  rw [List.map_map, List.map_map] <;> rfl
theorem kd_val {S : List Nat} {κ : Nat → Nat} {s : Nat} (h : s ∈ S) : valV (kd S κ) (nk s) = some (nv (κ s)) := by
  cases e : valV (kd S κ) (nk s) with
  | none => exact absurd (by rw [kd_keys]; exact List.mem_map_of_mem h) (valV_not e)
  | some v =>
    unfold valV at e
    obtain ⟨q, hq, rfl⟩ := Option.map_eq_some_iff.mp e
    have q1 : q.1 = nk s := of_decide_eq_true (p := q.1 = nk s) (by simpa using List.find?_some hq)
    have q2 := List.mem_of_find?_eq_some hq
    unfold kd at q2
    obtain ⟨t, ht, rfl⟩ := List.mem_map.mp q2
    rw [nk_inj q1]
theorem kd_none {S : List Nat} {κ : Nat → Nat} {s : Nat} (h : ¬ s ∈ S) : valV (kd S κ) (nk s) = none := by
  cases e : valV (kd S κ) (nk s) with
  | none => rfl
  | some v =>
    have m := valV_in e
    rw [kd_keys] at m
    exact absurd (nk_mem.mp m) h
def setF (κ : Nat → Nat) (s v : Nat) : Nat → Nat := fun t => if t = s then v else κ t
theorem setF_same {κ : Nat → Nat} {s v : Nat} : setF κ s v s = v := if_pos rfl
theorem setF_ne {κ : Nat → Nat} {s v t : Nat} (h : t ≠ s) : setF κ s v t = κ t := if_neg h
theorem kd_put {S : List Nat} {κ : Nat → Nat} {s v : Nat} (h : ¬ s ∈ S) : putK (kd S κ) (nk s) (nv v) = kd (S ++ [s]) (setF κ s v) := by
  rw [putK_new _ (kd_none h)]
  unfold kd
  rw [List.map_append]
  have e : S.map (fun t => (nk t, nv (κ t))) = S.map fun t => (nk t, nv (setF κ s v t)) := List.map_congr_left fun t ht => by rw [setF_ne (fun z : t = s => h (by rw [← z]; exact ht))]
  rw [e]
  show _ ++ [(nk s, nv v)] = _ ++ [(nk s, nv (setF κ s v s))]
  rw [setF_same]
theorem kd_len {S : List Nat} {κ : Nat → Nat} : (kd S κ).length = S.length := by
  unfold kd
  rw [List.length_map]
/-- how many kinds -/
def cntK (S : List Nat) (κ : Nat → Nat) : Nat := cnt (S.map fun s => (κ s : Int))
theorem cntK_spec (S : List Nat) (κ : Nat → Nat) : ∃ D : List Int, D.Nodup ∧ (∀ x, x ∈ D ↔ ∃ s ∈ S, (κ s : Int) = x) ∧ D.length = cntK S κ := by
  obtain ⟨D, h1, h2, h3⟩ := cnt_spec (S.map fun s => (κ s : Int))
  exact ⟨D, h1, fun x => by rw [h2, List.mem_map], h3⟩
theorem cntK_le (S : List Nat) (κ : Nat → Nat) : cntK S κ ≤ S.length := by
  obtain ⟨D, h1, h2, h3⟩ := cntK_spec S κ
  rw [← h3, ← List.length_map (f := fun s => (κ s : Int))]
  exact nodup_sub_len h1 fun x hx => List.mem_map.mpr ((h2 x).mp hx)
theorem cntK_pos {S : List Nat} {κ : Nat → Nat} {s : Nat} (h : s ∈ S) : 0 < cntK S κ := by
  obtain ⟨D, h1, h2, h3⟩ := cntK_spec S κ
  rw [← h3]
  exact List.length_pos_of_mem ((h2 _).mpr ⟨s, h, rfl⟩)
/-- a refinement that has no more kinds is the same -/
theorem same_part {S : List Nat} {κ μ : Nat → Nat} (hr : ∀ s ∈ S, ∀ t ∈ S, μ s = μ t → κ s = κ t) (hc : cntK S μ ≤ cntK S κ) : ∀ s ∈ S, ∀ t ∈ S, κ s = κ t → μ s = μ t := by
  intro s hs t ht e
  by_cases q : μ s = μ t
  · exact q
  exfalso
  obtain ⟨D, h1, h2, h3⟩ := cntK_spec S κ
  obtain ⟨D', g1, g2, g3⟩ := cntK_spec S μ
  have ht' : (μ t : Int) ∈ D' := (g2 _).mpr ⟨t, ht, rfl⟩
  let φ : Int → Int := fun d => match S.find? fun u => decide ((μ u : Int) = d) with
    | some u => (κ u : Int)
    | none => 0
  have hφ : ∀ u ∈ S, φ (μ u : Int) = (κ u : Int) := fun u hu => by
    show (match S.find? fun v => decide ((μ v : Int) = (μ u : Int)) with
    | some v => (κ v : Int)
    | none => 0) = _
    cases ef : S.find? fun v => decide ((μ v : Int) = (μ u : Int)) with
    | none => exact absurd (decide_eq_true (rfl : (μ u : Int) = (μ u : Int))) (by simpa using List.find?_eq_none.mp ef u hu)
    | some v =>
      have q1 : (μ v : Int) = (μ u : Int) := of_decide_eq_true (by simpa using List.find?_some ef)
      have q2 := List.mem_of_find?_eq_some ef
      show (κ v : Int) = _
      rw [hr v q2 u hu (by omega)]
  have hsub : ∀ x ∈ D, x ∈ (D'.erase (μ t : Int)).map φ := fun x hx => by
    obtain ⟨u, hu, rfl⟩ := (h2 x).mp hx
    by_cases hut : μ u = μ t
    · refine List.mem_map.mpr ⟨(μ s : Int), (List.mem_erase_of_ne (by omega)).mpr ((g2 _).mpr ⟨s, hs, rfl⟩), ?_⟩
      rw [hφ s hs, e, hr u hu t ht hut]
    · exact List.mem_map.mpr ⟨(μ u : Int), (List.mem_erase_of_ne (by omega)).mpr ((g2 _).mpr ⟨u, hu, rfl⟩), hφ u hu⟩
  have hl := nodup_sub_len h1 hsub
  rw [List.length_map, List.length_erase_of_mem ht'] at hl
  have := List.length_pos_of_mem ht'
  omega
/-- the key of a state -/
def keyOf (A : List (List Nat)) (κ : Nat → Nat) (s : Nat) : NK := ((κ s : Int), lk ((A.getD s []).map κ))
theorem keyOf_eq {A : List (List Nat)} {κ : Nat → Nat} {s t : Nat} (ok : OkR A) (hs : s < A.length) (ht : t < A.length) : keyOf A κ s = keyOf A κ t ↔ κ s = κ t ∧ ∀ l, l < 4 → κ (dl A s l) = κ (dl A t l) := by
  obtain ⟨a0, a1, a2, a3, ea⟩ := ok.row4 hs
  obtain ⟨b0, b1, b2, b3, eb⟩ := ok.row4 ht
  have ga : A.getD s [] = [a0, a1, a2, a3] := by rw [List.getD_eq_getElem?_getD, ea] <;> rfl
  have gb : A.getD t [] = [b0, b1, b2, b3] := by rw [List.getD_eq_getElem?_getD, eb] <;> rfl
  unfold keyOf dl
  rw [ga, gb]
  constructor
  · intro h
    have h1 := congrArg Prod.fst h
    have h2 := lk_inj (congrArg Prod.snd h)
    have h1' : (κ s : Int) = (κ t : Int) := h1
    have h2' : [κ a0, κ a1, κ a2, κ a3] = [κ b0, κ b1, κ b2, κ b3] := h2
    injection h2' with q0 h2'
    injection h2' with q1 h2'
    injection h2' with q2 h2'
    injection h2' with q3 h2'
    refine ⟨by omega, fun l hl => ?_⟩
    match l, hl with
    | 0, _ => exact q0
    | 1, _ => exact q1
    | 2, _ => exact q2
    | 3, _ => exact q3
  · rintro ⟨h1, h2⟩
    have q0 : κ a0 = κ b0 := h2 0 (by decide)
    have q1 : κ a1 = κ b1 := h2 1 (by decide)
    have q2 : κ a2 = κ b2 := h2 2 (by decide)
    have q3 : κ a3 = κ b3 := h2 3 (by decide)
    show (((κ s : Nat) : Int), lk [κ a0, κ a1, κ a2, κ a3]) = (((κ t : Nat) : Int), lk [κ b0, κ b1, κ b2, κ b3])
    rw [h1, q0, q1, q2, q3]
structure Stable (A : List (List Nat)) (F : List Bool) (S : List Nat) (κ : Nat → Nat) : Prop where
  fl : ∀ s ∈ S, ∀ t ∈ S, κ s = κ t → F.getD s false = F.getD t false
  st : ∀ s ∈ S, ∀ t ∈ S, κ s = κ t → ∀ l, l < 4 → κ (dl A s l) = κ (dl A t l)
  many : ∃ D : List Int, D.length ≤ 100 ∧ ∀ s ∈ S, (κ s : Int) ∈ D
/-! ## the dict of keys -/
structure NumOk (kvs : NKV) : Prop where
  at_ : ∀ (j : Nat) (p : NK × Addr × Int), kvs[j]? = some p → p.2.2 = (j : Int)
theorem NumOk.nil : NumOk [] := ⟨fun j p h => by simp at h⟩
theorem valN_some {kvs : NKV} {k : NK} {i : Int} (h : valN kvs k = some i) : ∃ (j : Nat) (p : NK × Addr × Int), kvs[j]? = some p ∧ p.1 = k ∧ p.2.2 = i := by
  unfold valN at h
  obtain ⟨p, hp, e⟩ := Option.map_eq_some_iff.mp h
  have p1 : p.1 = k := of_decide_eq_true (p := p.1 = k) (by simpa using List.find?_some hp)
  obtain ⟨j, hj⟩ := List.getElem?_of_mem (List.mem_of_find?_eq_some hp)
  exact ⟨j, p, hj, p1, e⟩
theorem NumOk.inj {kvs : NKV} (n : NumOk kvs) {k k' : NK} {i : Int} (h : valN kvs k = some i) (h' : valN kvs k' = some i) : k = k' := by
  obtain ⟨j, p, e1, e2, e3⟩ := valN_some h
  obtain ⟨j', p', f1, f2, f3⟩ := valN_some h'
  have a := n.at_ j p e1
  have b := n.at_ j' p' f1
  have : j = j' := by omega
  subst this
  rw [e1] at f1
  cases f1
  rw [← e2, ← f2]
theorem NumOk.nat {kvs : NKV} (n : NumOk kvs) {k : NK} {i : Int} (h : valN kvs k = some i) : ∃ j : Nat, i = (j : Int) ∧ j < kvs.length := by
  obtain ⟨j, p, e1, e2, e3⟩ := valN_some h
  exact ⟨j, by rw [← e3, n.at_ j p e1], (List.getElem?_eq_some_iff.mp e1).1⟩
theorem NumOk.snoc {kvs : NKV} (n : NumOk kvs) {k : NK} {c : Addr} : NumOk (kvs ++ [(k, c, (kvs.length : Int))]) := ⟨fun j p h => by
  by_cases hl : j < kvs.length
  · rw [List.getElem?_append_left hl] at h
    exact n.at_ j p h
  · have h2 := (List.getElem?_eq_some_iff.mp h).1
    rw [List.length_append, List.length_singleton] at h2
    have e : j = kvs.length := by omega
    subst e
    rw [List.getElem?_append_right (Nat.le_refl _), Nat.sub_self] at h
    have e2 := Option.some.inj h
    rw [← e2]⟩
theorem valN_snoc {kvs : NKV} {k : NK} {c : Addr} {i : Int} (h : valN kvs k = none) : valN (kvs ++ [(k, c, i)]) k = some i := by
  unfold valN at h ⊢
  rw [List.find?_append, Option.map_eq_none_iff.mp h]
  simp
theorem valN_more {kvs e : NKV} {k : NK} {i : Int} (h : valN kvs k = some i) : valN (kvs ++ e) k = some i := by
  unfold valN at h ⊢
  obtain ⟨p, hp, q⟩ := Option.map_eq_some_iff.mp h
  rw [List.find?_append, hp]
  show some p.2.2 = _
  rw [q]
/-! ## {k: v for x in a list} -/
theorem dc_list {K : PySem.W.Frag} {a : Addr} {xs : List V} {g : TG} {tt : TT} {tk tv : TE} {vs : List Nat} {σ : L2.St} {H1 : Hp} {D : Addr} {Qd : Hp → Prop} (Pv : Nat → Hp → Prop) (h0 : Pv 0 (upd H1 D (.dK []))) (hl : ∀ i H, i ≤ xs.length → Pv i H → SqL K H a xs)
    (hs : ∀ i x H, xs[i]? = some x → Pv i H → g x (wipe σ vs) H fun σ2 H2 => wipe σ2 vs = wipe σ vs ∧ tt σ2 H2 fun b H3 =>
      if b = true then tk σ2 H3 fun y H4 => tv σ2 H4 fun z H5 => ∃ kvs k, y = kV k ∧ H5 D = some (.dK kvs) ∧ kvs.length < sizeLine ∧ Pv (i + 1) (upd H5 D (.dK (putK kvs k z))) else Pv (i + 1) H3) (hd : ∀ H, Pv xs.length H → Qd H) :
    ∃ W : Nat → Nat → Hp → Prop, (∃ m, W 0 m (upd H1 D (.dK []))) ∧ ∀ i m H, W i m H →
      ((Itl K a).stop i H ∧ Qd H) ∨ ((Itl K a).go i H ∧ ∃ Nx : Hp → Prop, (∀ H', Nx H' → ∃ m', m' < m ∧ W (i + 1) m' H') ∧ ∀ x H', (Itl K a).yld i H x H' → g x (wipe σ vs) H' fun σ2 H2 => wipe σ2 vs = wipe σ vs ∧ tt σ2 H2 fun b H3 =>
        if b = true then tk σ2 H3 fun y H4 => tv σ2 H4 fun z H5 => ∃ kvs k, y = kV k ∧ H5 D = some (.dK kvs) ∧ kvs.length < sizeLine ∧ Nx (upd H5 D (.dK (putK kvs k z))) else Nx H3) := by
  refine ⟨fun i m H => m = xs.length - i ∧ i ≤ xs.length ∧ Pv i H, ⟨xs.length, by simp, Nat.zero_le _, h0⟩, ?_⟩
  rintro i m H ⟨rfl, hi, p⟩
  have q := hl i H hi p
  by_cases hlt : i < xs.length
  · refine .inr ⟨⟨xs, xs[i], q, by simp [hlt]⟩, Pv (i + 1), fun H' p' => ⟨xs.length - (i + 1), by omega, rfl, hlt, p'⟩, fun x H' y => ?_⟩
    obtain ⟨e, y⟩ := y
    subst e
    exact hs i x _ (y xs q) p
  · have e : i = xs.length := by omega
    subst e
    exact .inl ⟨⟨xs, q, Nat.le_refl _⟩, hd H p⟩
end SR

/-! ### SR10 -/
set_option maxHeartbeats 4000000
namespace SR
open PySem PySem.Spec PyProof.Rows L2 SRR SRN
theorem pc_nnotin {X : Cx} {i o : Expr} {ty td : TE} (hu : X.A.units + 64 < cLine) (hi : PE X i ty) (ho : PE X o td) : PC X .NotIn i o (tOp (rNotInN X.prog X.w) ty td) := by
  refine ⟨fun pins s σ H Q I h => ?_⟩
  refine thn (hi.run pins s σ H _ I h) fun iv s1 ⟨y, H1, I1, ry, q1⟩ => thn (ho.run pins s1 σ H1 _ I1 q1) fun u s2 ⟨x, H2, I2, rx, q2⟩ => ?_
  exact op_nnotin hu pins s2 σ H2 y x iv u Q I2 ry rx q2
/-! ## classes_of -/
abbrev sClassesOf : Stmt := top 23
theorem scClassesOf : FnScope ["rows", "flags", "states", "kinds", "many", "numbers", "later", "state", "key", "one"] ["rows", "flags", "states"] (defScope sClassesOf) := ⟨rfl, rfl, rfl, by decide +kernel, rfl, by decide +kernel, by decide +kernel⟩
/-- the ints that the module's names hold -/
structure Tn (mg : Str → Option Value) : Prop where
  states : ∃ u, mg "MOST_STATES" = some u ∧ RelV (.int 100) u
  layered : ∃ u, mg "MOST_LAYERED" = some u ∧ RelV (.int 16) u
  until_ : ∃ u, mg "MOST_UNTIL" = some u ∧ RelV (.int 30) u
  divisor : ∃ u, mg "MOST_DIVISOR" = some u ∧ RelV (.int 6) u
  bound : ∃ u, mg "MOST_BOUND" = some u ∧ RelV (.int 3) u
def spClassesOf (K : PySem.W.Frag) (C : Addr) : Sp := fun vs H Q E => ∃ (a fa sa : Addr) (A : List (List Nat)) (F : List Bool) (S : List Nat), vs = [.ref a, .ref fa, .ref sa] ∧ RowsAt K H a A ∧ SqL K H fa (F.map V.bl) ∧ SqL K H sa (S.map nv) ∧
  OkR A ∧ F.length = A.length ∧ IsReached A S ∧ S.length ≤ 4094 ∧ (100 < S.length → ∀ (d : Addr) (H' : Hp), Same H H' → E (.ref C) (some d) H') ∧
  ∀ (H' : Hp) (p : Addr) (κ : Nat → Nat), Same H H' → H' p = some (.dK (kd S κ)) → Stable A F S κ → Q (.ref p) H'
/-- before the loop's turn -/
def CInv (A : List (List Nat)) (S : List Nat) (κ : Nat → Nat) (many : Nat) : Prop :=
  many = 0 ∨ ∃ κp : Nat → Nat, many = cntK S κp ∧ many ≤ 100 ∧ ∀ s ∈ S, ∀ t ∈ S, κ s = κ t ↔ κp s = κp t ∧ ∀ l, l < 4 → κp (dl A s l) = κp (dl A t l)
theorem CInv.done {A : List (List Nat)} {F : List Bool} {S : List Nat} {κ : Nat → Nat} {many : Nat} (h : CInv A S κ many) (r : IsReached A S) (fl : ∀ s ∈ S, ∀ t ∈ S, κ s = κ t → F.getD s false = F.getD t false) (hm : cntK S κ ≤ many) : Stable A F S κ := by
  have h0 : 0 ∈ S := List.mem_of_getElem? r.hd
  have hp := cntK_pos (κ := κ) h0
  rcases h with h | ⟨κp, h1, h2, h3⟩
  · omega
  · have sp := same_part (fun s hs t ht e => ((h3 s hs t ht).mp e).1) (h1 ▸ hm)
    refine ⟨fl, fun s hs t ht e l hl => ?_, ?_⟩
    · exact sp _ (r.cl s hs l hl) _ (r.cl t ht l hl) (((h3 s hs t ht).mp e).2 l hl)
    · obtain ⟨D, d1, d2, d3⟩ := cntK_spec S κ
      exact ⟨D, by omega, fun s hs => (d2 _).mpr ⟨s, hs, rfl⟩⟩
theorem nest_dK {P : Program} {w : World} {a : Addr} {kvs : NKV} {xs : List (Key × V)} : HO.dK xs ≠ nestAt P w a kvs := fun z => by
  have z' : HO.dK xs = HO.ext _ := z
  cases z'
/-- the heap in the loop over the states -/
structure CH (P : Program) (w : World) (H1 : Hp) (nu la : Addr) (A : List (List Nat)) (S : List Nat) (κ : Nat → Nat) (i : Nat) (H : Hp) (kvs : NKV) (μ : Nat → Nat) : Prop where
  same : Same H1 H
  nn : H1 nu = none
  ln : H1 la = none
  nu : H nu = some (nestAt P w nu kvs)
  la : H la = some (.dK (kd (S.take i) μ))
  ke : KeysOk H kvs
  num : NumOk kvs
  len : kvs.length ≤ i
  val : ∀ s ∈ S.take i, valN kvs (keyOf A κ s) = some (μ s : Int)
theorem CH.new {P : Program} {w : World} {H1 H : Hp} {nu la p : Addr} {A : List (List Nat)} {S : List Nat} {κ μ : Nat → Nat} {i : Nat} {kvs : NKV} {o : HO} (h : CH P w H1 nu la A S κ i H kvs μ) (hp : H p = none) : CH P w H1 nu la A S κ i (upd H p o) kvs μ where
  same := same_new h.same hp
  nn := h.nn
  ln := h.ln
  nu := by rw [upd_ne (ne_of_none h.nu hp)]; exact h.nu
  la := by rw [upd_ne (ne_of_none h.la hp)]; exact h.la
  ke := h.ke.same (same_up1 hp)
  num := h.num
  len := h.len
  val := h.val
theorem CH.to {P : Program} {w : World} {H1 H H2 : Hp} {nu la : Addr} {A : List (List Nat)} {S : List Nat} {κ μ : Nat → Nat} {i : Nat} {kvs : NKV} (h : CH P w H1 nu la A S κ i H kvs μ) (s : Same H H2) : CH P w H1 nu la A S κ i H2 kvs μ :=
  ⟨h.same.trans s, h.nn, h.ln, s _ _ h.nu, s _ _ h.la, h.ke.same s, h.num, h.len, h.val⟩
theorem nodup_take {α : Type} {l : List α} {i : Nat} {x : α} (hn : l.Nodup) (h : l[i]? = some x) : ¬ x ∈ l.take i := fun m => by
  obtain ⟨j, hj⟩ := List.getElem?_of_mem m
  have h2 := (List.getElem?_eq_some_iff.mp hj).1
  rw [List.length_take] at h2
  rw [List.getElem?_take_of_lt (by omega)] at hj
  have := nd_ix hn hj h
  omega
theorem kd_put_same {S : List Nat} {κ : Nat → Nat} {s : Nat} (h : ¬ s ∈ S) : putK (kd S κ) (nk s) (nv (κ s)) = kd (S ++ [s]) κ := by
  rw [putK_new _ (kd_none h)]
  unfold kd
  rw [List.map_append] <;> rfl
section
variable {P : Program} {w : World} {K : PySem.W.Frag} {mg : Str → Option Value} {base : Heap}
theorem ok_classesOf {f C : Addr} {fd : FuncData} (F : Fun K "classes_of" "classes_of" sClassesOf f fd) (T : Tx K mg) (TN : Tn mg) (TM : Tm K mg C) : FnOk P w K mg base (L2.CX P w) 4 f fd ["rows", "flags", "states"] (spClassesOf K C) := by
  refine F.okX scClassesOf (fun vs H Q E h => ?_) (fun cdv A₀ outer s H vs Q E hr h => ?_)
  · obtain ⟨a, fa, sa, A, F, S, rfl, _⟩ := h
    rfl
  · obtain ⟨a, fa, sa, A, F, S, rfl, hA, hF, hS, okA, lF, R, hz, kE, k⟩ := h
    obtain ⟨um, hum, rum⟩ := TN.states
    have hu := hu_of hr
    have nd := scClassesOf.nd
    refine ⟨_,
    (pss_cons (ps_set (i := 3) nd rfl (.inr rfl) (pe_dc (own := [("state", 7)]) rfl nd (pi_list (pv 2)) (blkOk_by (own := [("state", 7)]) (N := ["rows", "flags", "states", "kinds", "many", "numbers", "later", "state", "key", "one"]) (sc := defScope sClassesOf) (by decide +kernel)) (fun _ _ _ _ _ => (pg_name (i := 7) nd rfl (.inl rfl))) (fun _ _ _ _ _ => pts_nil) (fun _ _ _ _ _ => (pv 7)) (fun _ _ _ _ _ => (pe_callTy call_int1 (by rfl) T.int (by decide +kernel) (pa_cons (pe_ix (ix_listK K) (pv 1) (pv 7) (fun _ _ => rfl)) (pa_nil))))))
    (pss_cons (ps_set (i := 4) nd rfl (.inl rfl) pe_int)
    (pss_cons (ps_while (passes_of rfl) (pt_cmpR op_lt (pv 4) (pe_lenSet (by rfl) T.len (by rfl) T.set (pe_listVals rfl (pv 3) (by rfl) T.list)) (nomark _)) 
      (pss_cons (ps_set (i := 4) nd rfl (.inl rfl) (pe_lenSet (by rfl) T.len (by rfl) T.set (pe_listVals rfl (pv 3) (by rfl) T.list)))
      (C8.pss_cut (ps_if (pt_cmpR op_gt (pv 4) (pe_glob rfl hum rum) (nomark _)) 
        (pss_one (ps_tooMany (W := fun cls d _ H => E cls d H) rfl TM (hr.mono (by decide)) (takes_of rfl rfl rfl rfl) (pa_cons (pe_glob rfl hum rum) pa_nil))) pss_nil)
      (pss_cons (ps_set (i := 5) nd rfl (.inl rfl) pe_dnewN)
      (pss_cons (ps_set (i := 6) nd rfl (.inl rfl) pe_dnewK)
      (pss_cons (ps_for (passes_of rfl) rfl (pi_list (pv 2)) (pg_name (i := 7) nd rfl (.inl rfl)) 
        (pss_cons (ps_set (i := 8) nd rfl (.inl rfl) (pe_tup (pa_cons (pe_dget hu (pv 3) (pv 7) (fun _ _ => rfl)) (pa_cons (pe_callTy call_tuple_of (by rfl) T.tuple (by decide +kernel) (pa_cons (pe_lc (own := [("one", 9)]) rfl nd (pi_tup (pe_ix ix_sq (pv 0) (pv 7) (fun _ _ => rfl))) (blkOk_by (own := [("one", 9)]) (N := ["rows", "flags", "states", "kinds", "many", "numbers", "later", "state", "key", "one"]) (sc := defScope sClassesOf) (by decide +kernel)) (fun _ _ _ _ _ => (pg_name (i := 9) nd rfl (.inl rfl))) (fun _ _ _ _ _ => pts_nil) (fun _ _ _ _ _ => (pe_dget hu (pv 3) (pv 9) (fun _ _ => rfl)))) (pa_nil))) (pa_nil)))))
        (C8.pss_cut (ps_if (pt_cmp (pc_nnotin hr.units (pv 8) (pv 5))) 
          (pss_one (ps_asg (pe_callB call_lenN (by rfl) T.len PySem.boot_len (pa_cons (pv 5) (pa_nil))) (pg_sub (pv 5) (pv 8) (set_nest hr.units)))) pss_nil)
        (pss_one (ps_dput hu (pv 6) (pv 7) (pe_nget hr.units (pv 5) (pv 8) (fun _ _ => rfl)) rfl)))))
      (pss_one (ps_set (i := 3) nd rfl (.inr rfl) (pv 6)))))))))
    (pss_one (ps_ret (pv 3)))))), ?_⟩
    have hS0 := hS
    let κ0 : Nat → Nat := fun s => if F.getD s false = true then 1 else 0
    -- kinds = {state: int(flags[state]) for state in states}
    refine ⟨_, rfl, sa, rfl, ⟨_, hS⟩, fun D hD => ?_⟩
    refine dc_list (K := K) (a := sa) (xs := S.map nv) (fun i H' => Same H H' ∧ H' D = some (.dK (kd (S.take i) κ0))) ⟨same_up1 hD, upd_same⟩ (fun i H' _ m => m.1.seq hS) ?_ ?_
    · rintro i v H2 hi ⟨m1, m2⟩
      obtain ⟨s0, hs0, rfl⟩ : ∃ y, S[i]? = some y ∧ nv y = v := by
        rw [List.getElem?_map] at hi
        exact Option.map_eq_some_iff.mp hi
      have hlt : s0 < F.length := by rw [lF]; exact R.lt s0 (List.mem_of_getElem? hs0)
      have e1 : F[s0]? = some F[s0] := List.getElem?_eq_getElem hlt
      refine ⟨rfl, tyesT ⟨_, rfl, _, rfl, _, rfl, fa, _, _, _, rfl, rfl, m1.seq hF, at_of rfl (map_at e1), .inr ⟨F[s0], rfl, ?_⟩⟩⟩
      refine ⟨kd (S.take i) κ0, nk s0, rfl, m2, ?_, same_upd m1 hD, ?_⟩
      · rw [kd_len, List.length_take]
        exact Nat.lt_of_le_of_lt (by omega : min i S.length ≤ 4094) (by decide)
      · have ev : V.int (if F[s0] = true then 1 else 0) = nv (κ0 s0) := by
          show _ = nv (if F.getD s0 false = true then 1 else 0)
          rw [getD_of e1]
          cases F[s0] <;> rfl
        rw [upd_same, ev, kd_put_same (nodup_take R.nd hs0), take_succ hs0]
    rintro H1 ⟨s1, hD1⟩
    rw [List.length_map, List.take_length] at hD1
    -- many = 0
    refine ⟨fun m σ H' => ∃ (κ : Nat → Nat) (many : Nat) (ki : Addr) (v5 v6 v7 v8 v9 : Option V), σ = [some (.ref a), some (.ref fa), some (.ref sa), some (.ref ki), some (nv many), v5, v6, v7, v8, v9] ∧ m = S.length + 1 - many ∧ Same H H' ∧ H' ki = some (.dK (kd S κ)) ∧
      (∀ s ∈ S, ∀ t ∈ S, κ s = κ t → F.getD s false = F.getD t false) ∧ CInv A S κ many,
      ⟨_, κ0, 0, D, _, _, _, _, _, rfl, rfl, s1, hD1, ?_, .inl rfl⟩, ?_⟩
    · intro s _ t _ e
      have e' : (if F.getD s false = true then 1 else 0 : Nat) = if F.getD t false = true then 1 else 0 := e
      revert e'
      cases F.getD s false <;> cases F.getD t false <;> simp
    rintro m σ H2 ⟨κ, many, ki, v5, v6, v7, v8, v9, rfl, rfl, s2, hki, hfl, hci⟩
    have hcl : cntK S κ ≤ S.length := cntK_le S κ
    have hcn : cnt (S.map fun s => ((κ s : Nat) : Int)) = cntK S κ := rfl
    -- many < len(set(list(kinds.values())))
    refine ⟨_, rfl, ?_⟩
    refine ⟨_, rfl, ki, _, rfl, hki, fun p1 hp1 => ⟨p1, S.map fun s => (κ s : Int), rfl, SqL.of (by rw [upd_same, kd_vals]), by rw [List.length_map]; exact hz, ?_⟩⟩
    refine ⟨_, _, rfl, rfl, _, rfl, ?_⟩
    have s3 := same_new (o := .lst ((kd S κ).map (·.2))) s2 hp1
    have hki3 := (same_up1 (o := .lst ((kd S κ).map (·.2))) hp1) _ _ hki
    generalize upd H2 p1 (.lst ((kd S κ).map (·.2))) = H3 at s3 hki3
    refine ite2 (fun hc => ⟨_, fun _ _ z => z, ?_⟩) (fun hc => ?_)
    · have hlt : many < cntK S κ := by
        have := of_decide_eq_true hc
        omega
      -- many = len(..)
      refine ⟨_, rfl, ki, _, rfl, hki3, fun p2 hp2 => ⟨p2, S.map fun s => (κ s : Int), rfl, SqL.of (by rw [upd_same, kd_vals]), by rw [List.length_map]; exact hz, ?_⟩⟩
      have s4 := same_new (o := .lst ((kd S κ).map (·.2))) s3 hp2
      have hki4 := (same_up1 (o := .lst ((kd S κ).map (·.2))) hp2) _ _ hki3
      generalize upd H3 p2 (.lst ((kd S κ).map (·.2))) = H4 at s4 hki4
      -- if many > MOST_STATES: raise
      refine ⟨fun σ' H' => σ' = [some (.ref a), some (.ref fa), some (.ref sa), some (.ref ki), some (nv (cntK S κ)), v5, v6, v7, v8, v9] ∧ H' = H4 ∧ cntK S κ ≤ 100, ?_, ?_⟩
      · refine ⟨_, rfl, _, _, rfl, rfl, _, rfl, ?_⟩
        refine ite2 (fun hm => ?_) (fun hm => ?_)
        · have : 100 < cntK S κ := by
            have := of_decide_eq_true hm
            omega
          exact tooMany_rd fun d H' s' => kE (by omega) d H' (s4.trans s')
        · have := of_decide_eq_false (Bool.eq_false_iff.mpr hm)
          exact ⟨rfl, rfl, by omega⟩
      rintro σ' H' ⟨rfl, rfl, h100⟩
      -- numbers = {}; later = {}
      refine fun nu hnu => fun la hla => ?_
      have hla' := upd_none hla
      have hla0 : H' la = none := hla'.2
      have X0 : CH P w H' nu la A S κ 0 (upd (upd H' nu (nestAt P w nu [])) la (.dK [])) [] κ :=
        ⟨same_upd (same_up1 hnu) hla0, hnu, hla0, by rw [upd_ne hla'.1.symm, upd_same], upd_same, (fun p hp => nomatch hp), .nil, Nat.le_refl _, fun s hs => by simp at hs⟩
      refine ⟨_, rfl, sa, rfl, ⟨_, (s4.trans X0.same).seq hS⟩, for_list (K := K) (a := sa) (xs := S.map nv) (fun i σ' H5 => ∃ (kvs : NKV) (μ : Nat → Nat) (v7 v8 v9 : Option V), σ' = [some (.ref a), some (.ref fa), some (.ref sa), some (.ref ki), some (nv (cntK S κ)), some (.ref nu), some (.ref la), v7, v8, v9] ∧ CH P w H' nu la A S κ i H5 kvs μ)
        ⟨[], κ, _, _, _, rfl, X0⟩ (fun i σ' H5 _ ⟨_, _, _, _, _, _, X⟩ => (s4.trans X.same).seq hS) ?_ ?_⟩
      · rintro i v σ' H5 hi ⟨kvs, μ, v7, v8, v9, rfl, X⟩
        obtain ⟨s0, hs0, rfl⟩ : ∃ y, S[i]? = some y ∧ nv y = v := by
          rw [List.getElem?_map] at hi
          exact Option.map_eq_some_iff.mp hi
        have hs0m := List.mem_of_getElem? hs0
        have hs0l := R.lt s0 hs0m
        obtain ⟨r0, r1, r2, r3, hrow⟩ := okA.row4 hs0l
        have hrm : ∀ y ∈ [r0, r1, r2, r3], y ∈ S := fun y hy => by
          obtain ⟨l, hl⟩ := List.getElem?_of_mem hy
          have hl4 := (List.getElem?_eq_some_iff.mp hl).1
          rw [← dl_of hrow hl]
          exact R.cl s0 hs0m l hl4
        obtain ⟨xa, ta, ha1, ha2, ha3⟩ := (rows_same (s4.trans X.same) hA).item hrow
        have hki5 := X.same _ _ hki4
        -- key = (kinds[state], tuple([kinds[one] for one in rows[state]]))
        refine ⟨_, rfl, _, rfl, ki, nv (κ s0), rfl, (by rw [← kd_val hs0m]; exact DGet.k (k := nk s0) hki5), ?_⟩
        refine ⟨_, rfl, _, rfl, a, xa, _, _, rfl, rfl, ha1, at_of rfl ha2, ta, rfl, ⟨_, ha3⟩, fun D hD => ?_⟩
        refine lc_tup (K := K) (a := ta) (xs := [r0, r1, r2, r3].map nv) (MI H5 D (([r0, r1, r2, r3].map κ).map nv)) (.start hD) (fun i H2 _ m => sqt_same m.1 ha3) ?_ ?_
        · intro i2 v H6 hi2 m
          obtain ⟨y, hy, rfl⟩ : ∃ y, [r0, r1, r2, r3][i2]? = some y ∧ nv y = v := by
            rw [List.getElem?_map] at hi2
            exact Option.map_eq_some_iff.mp hi2
          refine ⟨rfl, tyesT ⟨_, rfl, _, rfl, ki, nv (κ y), rfl, (by rw [← kd_val (hrm y (List.mem_of_getElem? hy))]; exact DGet.k (k := nk y) (m.1 _ _ hki5)), m.step (map_at (map_at hy)) hD (by show 4 ≤ sizeLine; decide)⟩⟩
        · intro H6 m
          obtain ⟨m1, m2⟩ := m.fin rfl
          refine ⟨D, _, rfl, .inl ⟨SqL.of m2, fun tb htb => ?_⟩⟩
          have X6 := (X.to m1).new (o := .tup (([r0, r1, r2, r3].map κ).map nv)) htb
          have htb2 : (upd H6 tb (.tup (([r0, r1, r2, r3].map κ).map nv))) tb = some (.tup (([r0, r1, r2, r3].map κ).map nv)) := upd_same
          generalize upd H6 tb (.tup (([r0, r1, r2, r3].map κ).map nv)) = H7 at X6 htb2
          refine ⟨by show 2 ≤ sizeLine; decide, fun kc hkc => ?_⟩
          have X7 := X6.new (o := .tup [nv (κ s0), .ref tb]) hkc
          have hga : A.getD s0 [] = [r0, r1, r2, r3] := getD_of hrow
          have hkc2 : KeyAt (upd H7 kc (.tup [nv (κ s0), .ref tb])) (keyOf A κ s0) kc := by
            refine ⟨tb, upd_same, ?_⟩
            rw [upd_ne (ne_of_none htb2 hkc), htb2]
            unfold keyOf
            rw [hga, lk_tup]
          generalize upd H7 kc (.tup [nv (κ s0), .ref tb]) = H8 at X7 hkc2
          have hil := (List.getElem?_eq_some_iff.mp hs0).1
          -- if key not in numbers: numbers[key] = len(numbers)
          refine ⟨fun σ' H9 => ∃ (kvs : NKV) (j : Nat), σ' = [some (.ref a), some (.ref fa), some (.ref sa), some (.ref ki), some (nv (cntK S κ)), some (.ref nu), some (.ref la), some (nv s0), some (.ref kc), v9] ∧ Same H' H9 ∧ H9 nu = some (nestAt P w nu kvs) ∧ H9 la = some (.dK (kd (S.take i) μ)) ∧ KeysOk H9 kvs ∧ NumOk kvs ∧ kvs.length ≤ i + 1 ∧
            (∀ s ∈ S.take i, valN kvs (keyOf A κ s) = some (μ s : Int)) ∧ valN kvs (keyOf A κ s0) = some (j : Int) ∧ KeyAt H9 (keyOf A κ s0) kc, ?_, ?_⟩
          · refine ⟨_, rfl, _, rfl, kc, nu, keyOf A κ s0, kvs, rfl, rfl, X7.nu, X7.ke, hkc2, _, rfl, ?_⟩
            cases hv : valN kvs (keyOf A κ s0) with
            | some j0 =>
              obtain ⟨j, rfl, _⟩ := X7.num.nat hv
              refine iteF ?_
              exact ⟨kvs, j, rfl, X7.same, X7.nu, X7.la, X7.ke, X7.num, by have := X7.len; omega, X7.val, hv, hkc2⟩
            | none =>
              refine iteT ?_
              refine ⟨_, rfl, nu, kvs, rfl, X7.nu, X7.ke, ?_⟩
              refine ⟨_, rfl, _, rfl, nu, kc, keyOf A κ s0, kvs, _, rfl, rfl, rfl, X7.nu, X7.ke, hkc2, hv, ?_, ?_⟩
              · exact Nat.lt_of_le_of_lt (by have := X7.len; omega : kvs.length ≤ 4094) (by decide)
              · have hln : la ≠ nu := fun z => by
                  have q := X7.la
                  rw [z, X7.nu] at q
                  exact nest_dK (Option.some.inj q).symm
                refine ⟨kvs ++ [(keyOf A κ s0, kc, (kvs.length : Int))], kvs.length, rfl, same_upd X7.same X7.nn, upd_same, by rw [upd_ne hln]; exact X7.la, ?_, X7.num.snoc, ?_, fun s hs => valN_more (X7.val s hs), valN_snoc hv, hkc2.upd X7.nu⟩
                · intro p hp
                  rcases List.mem_append.mp hp with q | q
                  · exact (X7.ke p q).upd X7.nu
                  · rw [List.mem_singleton.mp q]
                    exact hkc2.upd X7.nu
                · rw [List.length_append, List.length_singleton]
                  have := X7.len
                  omega
          · -- later[state] = numbers[key]
            rintro σ' H9 ⟨kvs, j, rfl, s9, hnu9, hla9, ke9, num9, len9, val9, hv9, hkc9⟩
            refine ⟨_, rfl, _, rfl, nu, kc, keyOf A κ s0, kvs, (j : Int), rfl, rfl, hnu9, ke9, hkc9, hv9, ?_⟩
            refine ⟨_, rfl, _, rfl, la, _, rfl, DPut.k (k := nk s0) hla9 ?_, ?_⟩
            · rw [kd_len, List.length_take]
              exact Nat.lt_of_le_of_lt (by omega : min i S.length ≤ 4094) (by decide)
            · have hln : nu ≠ la := fun z => by
                have q := hla9
                rw [← z, hnu9] at q
                exact nest_dK (Option.some.inj q).symm
              have hni := nodup_take R.nd hs0
              have ev : V.int (j : Int) = nv j := rfl
              refine ⟨kvs, setF μ s0 j, _, _, _, rfl, ⟨same_upd s9 hla0, hnu, hla0, by rw [upd_ne hln]; exact hnu9, ?_, ?_, num9, len9, ?_⟩⟩
              · rw [upd_same, ev, kd_put hni, take_succ hs0]
              · intro p hp
                obtain ⟨b, h1, h2⟩ := ke9 p hp
                exact ⟨b, by rw [upd_ne (ne_of h1 hla9 (fun z => nomatch z))]; exact h1, by rw [upd_ne (ne_of h2 hla9 (fun z => nomatch z))]; exact h2⟩
              · intro s hs
                rw [take_succ hs0] at hs
                rcases List.mem_append.mp hs with q | q
                · rw [setF_ne (fun z : s = s0 => hni (by rw [← z]; exact q))]
                  exact val9 s q
                · rw [List.mem_singleton.mp q, setF_same]
                  exact hv9
      · -- kinds = later
        rintro σ' H5 ⟨kvs, μ, v7, v8, v9, rfl, X⟩
        rw [List.length_map] at X
        have hla5 := X.la
        have hval := X.val
        rw [List.take_length] at hla5 hval
        have key : ∀ s ∈ S, ∀ t ∈ S, μ s = μ t ↔ κ s = κ t ∧ ∀ l, l < 4 → κ (dl A s l) = κ (dl A t l) := fun s hs t ht => by
          rw [← keyOf_eq okA (R.lt s hs) (R.lt t ht)]
          constructor
          · intro e
            refine X.num.inj (hval s hs) ?_
            rw [hval t ht, e]
          · intro e
            have q := hval s hs
            rw [e, hval t ht] at q
            have := Option.some.inj q
            omega
        refine ⟨_, rfl, S.length + 1 - cntK S κ, by omega, μ, cntK S κ, la, _, _, _, _, _, rfl, rfl, s4.trans X.same, hla5, fun s hs t ht e => hfl s hs t ht ((key s hs t ht).mp e).1, .inr ⟨κ, rfl, h100, key⟩⟩
    · -- return kinds
      have hge : cntK S κ ≤ many := by
        have := of_decide_eq_false (Bool.eq_false_iff.mpr hc)
        omega
      exact ⟨_, rfl, k H3 ki κ s3 hki3 (hci.done R hfl hge)⟩
end
end SR

/-! ### SR11 -/
set_option maxHeartbeats 4000000
namespace SR
open PySem PySem.Spec PyProof.Rows L2 SRR SRN
/-! ## least_machine -/
abbrev sLeast : Stmt := top 24
theorem scLeast : FnScope ["rows", "flags", "states", "kinds", "chosen", "state", "numbers", "order", "least", "place", "nexts", "later", "kind"] ["rows", "flags"] (defScope sLeast) := ⟨rfl, rfl, rfl, by decide +kernel, rfl, by decide +kernel, by decide +kernel⟩
/-- a machine that keeps the language of another -/
structure Least (A : List (List Nat)) (F : List Bool) (A' : List (List Nat)) (F' : List Bool) : Prop where
  ok : OkR A'
  len : F'.length = A'.length
  most : A'.length ≤ 100
  le : ∃ S, IsReached A S ∧ A'.length ≤ S.length
  keep : ∃ φ : Nat → Nat, ∀ w, W4 w → st A' w = φ (st A w) ∧ F'.getD (st A' w) false = F.getD (st A w) false
def spLeast (K : PySem.W.Frag) (C : Addr) : Sp := fun vs H Q E => ∃ (a fa : Addr) (A : List (List Nat)) (F : List Bool), vs = [.ref a, .ref fa] ∧ RowsAt K H a A ∧ SqL K H fa (F.map V.bl) ∧
  OkR A ∧ F.length = A.length ∧ A.length ≤ 60000 ∧ (∀ S, IsReached A S → S.length ≤ 4094 ∧ (100 < S.length → ∀ (d : Addr) (H' : Hp), Same H H' → E (.ref C) (some d) H')) ∧
  ∀ (H' : Hp) (t ne fl : Addr) (A' : List (List Nat)) (F' : List Bool), Same H H' → H ne = none → H fl = none → H' t = some (.tup [.ref ne, .ref fl]) → TupsAt H' ne A' → H' fl = some (.lst (F'.map V.bl)) → Least A F A' F' → Q (.ref t) H'
/-- the exploring loop over ints -/
structure LX (H : Hp) (nu oa le : Addr) (H' : Hp) (pos : Nat → Nat) (order : List Nat) (nexts : List (List Nat)) : Prop where
  same : Same H H'
  nn : H nu = none
  on : H oa = none
  en : H le = none
  no : nu ≠ oa
  ne : nu ≠ le
  oe : oa ≠ le
  du : H' nu = some (.dK (kd order pos))
  ao : H' oa = some (.lst (order.map nv))
  ae : TupsAt H' le nexts
  pos : ∀ k ∈ order, order[pos k]? = some k
theorem LX.new {H : Hp} {nu oa le : Addr} {H' : Hp} {pos : Nat → Nat} {order : List Nat} {nexts : List (List Nat)} {p : Addr} {o : HO} (h : LX H nu oa le H' pos order nexts) (hp : H' p = none) : LX H nu oa le (upd H' p o) pos order nexts :=
  ⟨same_new h.same hp, h.nn, h.on, h.en, h.no, h.ne, h.oe, by rw [upd_ne (ne_of_none h.du hp)]; exact h.du, by rw [upd_ne (ne_of_none h.ao hp)]; exact h.ao, h.ae.new hp, h.pos⟩
theorem LX.upd {H : Hp} {nu oa le : Addr} {H' : Hp} {pos : Nat → Nat} {order : List Nat} {nexts : List (List Nat)} {p : Addr} {xs : List V} {o : HO} (h : LX H nu oa le H' pos order nexts) (hp : H' p = some (.lst xs)) (h0 : H p = none) (h1 : oa ≠ p) (h2 : le ≠ p) : LX H nu oa le (L2.upd H' p o) pos order nexts :=
  ⟨same_upd h.same h0, h.nn, h.on, h.en, h.no, h.ne, h.oe, by rw [upd_ne (ne_of h.du hp (fun z => nomatch z))]; exact h.du, by rw [upd_ne h1]; exact h.ao, h.ae.upd hp (fun _ z => nomatch z) h2, h.pos⟩
theorem LX.grow {H : Hp} {nu oa le : Addr} {H' : Hp} {pos : Nat → Nat} {order : List Nat} {nexts : List (List Nat)} {k : Nat} (h : LX H nu oa le H' pos order nexts) (hn : ¬ k ∈ order) :
    LX H nu oa le (L2.upd (L2.upd H' nu (.dK (putK (kd order pos) (nk k) (nv order.length)))) oa (.lst (order.map nv ++ [nv k]))) (setF pos k order.length) (order ++ [k]) nexts := by
  refine ⟨same_upd (same_upd h.same h.nn) h.on, h.nn, h.on, h.en, h.no, h.ne, h.oe, ?_, by rw [upd_same, List.map_append] <;> rfl, (h.ae.upd h.du (fun _ z => nomatch z) h.ne.symm).upd (o := .lst (order.map nv)) ?_ (fun _ z => nomatch z) h.oe.symm, ?_⟩
  · rw [upd_ne h.no, upd_same, kd_put hn]
  · rw [upd_ne h.no.symm]
    exact h.ao
  · intro k' hk'
    rcases List.mem_append.mp hk' with q | q
    · rw [setF_ne (fun z : k' = k => hn (by rw [← z]; exact q))]
      have e := h.pos k' q
      rw [List.getElem?_append_left (List.getElem?_eq_some_iff.mp e).1]
      exact e
    · rw [List.mem_singleton.mp q, setF_same, List.getElem?_append_right (Nat.le_refl _), Nat.sub_self] <;> rfl
theorem LX.row {H : Hp} {nu oa le : Addr} {H' : Hp} {pos : Nat → Nat} {order : List Nat} {nexts : List (List Nat)} {t : Addr} {r : List Nat} {xs : List V} (h : LX H nu oa le H' pos order nexts) (hx : H' le = some (.lst xs)) (ht : H' t = some (.tup (r.map nv))) :
    LX H nu oa le (L2.upd H' le (.lst (xs ++ [.ref t]))) pos order (nexts ++ [r]) :=
  ⟨same_upd h.same h.en, h.nn, h.on, h.en, h.no, h.ne, h.oe, by rw [upd_ne h.ne]; exact h.du, by rw [upd_ne h.oe]; exact h.ao, h.ae.push hx ht, h.pos⟩
/-- kinds, their step by way of the chosen states -/
def kstep (A : List (List Nat)) (κ ch : Nat → Nat) (k l : Nat) : Nat := κ (dl A (ch k) l)
structure Chosen (S : List Nat) (κ ch : Nat → Nat) : Prop where
  in_ : ∀ s ∈ S, ch (κ s) ∈ S
  is_ : ∀ s ∈ S, κ (ch (κ s)) = κ s
theorem kstep_run {A : List (List Nat)} {F : List Bool} {S : List Nat} {κ ch : Nat → Nat} (R : IsReached A S) (st : Stable A F S κ) (c : Chosen S κ ch) : ∀ {w : List Nat} {s : Nat}, W4 w → s ∈ S → stF A w s ∈ S ∧ run (kstep A κ ch) w (κ s) = κ (stF A w s)
  | [], s, _, hs => ⟨hs, rfl⟩
  | l :: w, s, hw, hs => by
    have hl := hw l (List.mem_cons_self ..)
    have e : kstep A κ ch (κ s) l = κ (dl A s l) := st.st _ (c.in_ s hs) _ hs (c.is_ s hs) l hl
    have ih := kstep_run R st c (w := w) (s := dl A s l) (fun x hx => hw x (List.mem_cons_of_mem _ hx)) (R.cl s hs l hl)
    show stF A w (dl A s l) ∈ S ∧ run (kstep A κ ch) w (kstep A κ ch (κ s) l) = κ (stF A w (dl A s l))
    rw [e]
    exact ih
theorem reached_eq {A : List (List Nat)} {S S' : List Nat} (R : IsReached A S) (R' : IsReached A S') : S.length ≤ S'.length := by
  refine nodup_sub_len R.nd fun x hx => ?_
  obtain ⟨w, hw, rfl⟩ := R.re x hx
  have h0 : 0 ∈ S' := List.mem_of_getElem? R'.hd
  have : ∀ (w : List Nat) (s : Nat), W4 w → s ∈ S' → stF A w s ∈ S' := by
    intro w
    induction w with
    | nil => intro s _ hs; exact hs
    | cons l w ih => intro s hw hs; exact ih _ (fun x hx => hw x (List.mem_cons_of_mem _ hx)) (R'.cl s hs l (hw l (List.mem_cons_self ..)))
  exact this w 0 hw h0
theorem least_of {A : List (List Nat)} {F : List Bool} {S : List Nat} {κ ch : Nat → Nat} {order : List Nat} {nexts : List (List Nat)} (lF : F.length = A.length) (R : IsReached A S) (st' : Stable A F S κ) (c : Chosen S κ ch) (G : Expl (kstep A κ ch) (κ 0) order nexts) (hge : order.length ≤ nexts.length) :
    Least A F nexts (order.map fun k => F.getD (ch k) false) := by
  have h0 : 0 ∈ S := List.mem_of_getElem? R.hd
  have hin : ∀ k ∈ order, ∃ s ∈ S, κ s = k := fun k hk => by
    obtain ⟨w, hw, e⟩ := G.re k hk
    obtain ⟨h1, h2⟩ := kstep_run R st' c hw h0
    exact ⟨_, h1, by rw [← h2]; exact e⟩
  have hlen : nexts.length = order.length := Nat.le_antisymm G.le hge
  have hS : order.length ≤ S.length := by
    rw [← List.length_map (f := κ) (as := S)]
    exact nodup_sub_len G.nd fun k hk => let ⟨s, hs, e⟩ := hin k hk; List.mem_map.mpr ⟨s, hs, e⟩
  refine ⟨G.ok hge, by rw [List.length_map, hlen], ?_, ⟨S, R, by rw [hlen]; exact hS⟩, fun s => order.idxOf (κ s), fun w hw => ?_⟩
  · obtain ⟨D, d1, d2⟩ := st'.many
    rw [hlen]
    refine Nat.le_trans ?_ d1
    rw [← List.length_map (f := fun k : Nat => (k : Int)) (as := order)]
    refine nodup_sub_len (G.nd.map (f := fun k : Nat => (k : Int)) (by intro a b h e; exact h (by have e' : (a : Int) = (b : Int) := e; omega))) fun x hx => ?_
    obtain ⟨k, hk, rfl⟩ := List.mem_map.mp hx
    obtain ⟨s, hs, rfl⟩ := hin k hk
    exact d2 s hs
  · obtain ⟨h1, h2⟩ := kstep_run R st' c hw h0
    have e := G.at_ hge hw
    rw [show run (kstep A κ ch) w (κ 0) = κ (st A w) from h2] at e
    have hi := (List.getElem?_eq_some_iff.mp e).1
    refine ⟨?_, ?_⟩
    · have hm : κ (st A w) ∈ order := List.mem_of_getElem? e
      have e2 : order[order.idxOf (κ (st A w))]? = some (κ (st A w)) := by
        have hl := List.idxOf_lt_length_of_mem hm
        rw [List.getElem?_eq_getElem hl, List.getElem_idxOf hl]
      exact nd_ix G.nd e e2
    · rw [getD_of (map_at (f := fun k => F.getD (ch k) false) e)]
      exact st'.fl _ (c.in_ _ h1) _ h1 (c.is_ _ h1)

section
variable {P : Program} {w : World} {K : PySem.W.Frag} {mg : Str → Option Value} {base : Heap}
theorem ok_least {f C : Addr} {fd : FuncData} (F : Fun K "least_machine" "least_machine" sLeast f fd) (T : Tx K mg) (GR : Fx P w K mg base CX0 1 "reached" ["rows"] (spReached K)) (GC : Fx P w K mg base (L2.CX P w) 4 "classes_of" ["rows", "flags", "states"] (spClassesOf K C)) :
    FnOk P w K mg base (L2.CX P w) 5 f fd ["rows", "flags"] (spLeast K C) := by
  refine F.okX scLeast (fun vs H Q E h => ?_) (fun cdv A₀ outer s H vs Q E hr h => ?_)
  · obtain ⟨a, fa, A, F, rfl, _⟩ := h
    rfl
  · obtain ⟨a, fa, A, F, rfl, hA, hF, okA, lF, hz, hR, k⟩ := h
    have hu := hu_of hr
    have nd := scLeast.nd
    refine ⟨_,
    (pss_cons (ps_set (i := 2) nd rfl (.inl rfl) (pe_fx GR (hr.mono (by decide)) pass0 (pa_cons (pv 0) (pa_nil))))
    (pss_cons (ps_set (i := 3) nd rfl (.inl rfl) (pe_fx GC hr (passes_call (W := fun cls d _ H => E cls d H) (takes_of rfl rfl rfl rfl) (fun _ _ _ _ h => h)) (pa_cons (pv 0) (pa_cons (pv 1) (pa_cons (pv 2) (pa_nil))))))
    (pss_cons (ps_set (i := 4) nd rfl (.inr rfl) pe_dnewK)
    (pss_cons (ps_for (passes_of rfl) rfl (pi_list (pv 2)) (pg_name (i := 5) nd rfl (.inl rfl)) 
      (pss_one (ps_if (pt_cmp (pc_dnotin hu (pe_dget hu (pv 3) (pv 5) (fun _ _ => rfl)) (pv 4))) 
        (pss_one (ps_dput hu (pv 4) (pe_dget hu (pv 3) (pv 5) (fun _ _ => rfl)) (pv 5) rfl)) pss_nil)))
    (pss_cons (ps_set (i := 6) nd rfl (.inl rfl) (pe_disp (pps_cons (pe_dget hu (pv 3) pe_int (fun _ _ => rfl)) pe_int pps_nil) (by rfl) (by rfl) (fun z => by cases z) (by decide)))
    (pss_cons (ps_set (i := 7) nd rfl (.inl rfl) (pe_lst (pa_cons (pe_dget hu (pv 3) pe_int (fun _ _ => rfl)) (pa_nil))))
    (pss_cons (ps_set (i := 8) nd rfl (.inl rfl) (pe_lst pa_nil))
    (pss_cons (ps_set (i := 9) nd rfl (.inl rfl) pe_int)
    (pss_cons (ps_while (passes_of rfl) (pt_cmpR op_lt (pv 9) (pe_callB call_len_seq (by rfl) T.len PySem.boot_len (pa_cons (pv 7) (pa_nil))) (nomark _)) 
      (pss_cons (ps_set (i := 10) nd rfl (.inl rfl) (pe_lst pa_nil))
      (pss_cons (ps_for (passes_of rfl) rfl (pi_tup (pe_ix ix_sq (pv 0) (pe_dget hu (pv 4) (pe_ix ix_list (pv 7) (pv 9) (fun _ _ => rfl)) (fun _ _ => rfl)) (fun _ _ => rfl))) (pg_name (i := 11) nd rfl (.inl rfl)) 
        (pss_cons (ps_set (i := 12) nd rfl (.inl rfl) (pe_dget hu (pv 3) (pv 11) (fun _ _ => rfl)))
        (C8.pss_cut (ps_if (pt_cmp (pc_dnotin hu (pv 12) (pv 6))) 
          (pss_cons (ps_dput hu (pv 6) (pv 12) (pe_callB call_len_seq (by rfl) T.len PySem.boot_len (pa_cons (pv 7) (pa_nil))) rfl)
          (pss_one (ps_expr (pe_bm PySem.F.plainAttrs_list PySem.F.slot_list_append PySem.F.type_list_append mt_append (pv 7) (pa_cons (pv 12) (pa_nil)))))) pss_nil)
        (pss_one (ps_expr (pe_bm PySem.F.plainAttrs_list PySem.F.slot_list_append PySem.F.type_list_append mt_append (pv 10) (pa_cons (pe_dget hu (pv 6) (pv 12) (fun _ _ => rfl)) (pa_nil))))))))
      (pss_cons (ps_expr (pe_bm PySem.F.plainAttrs_list PySem.F.slot_list_append PySem.F.type_list_append mt_append (pv 8) (pa_cons (pe_callTy call_tuple_of (by rfl) T.tuple (by decide +kernel) (pa_cons (pv 10) (pa_nil))) (pa_nil))))
      (pss_one (ps_aug (i := 9) nd rfl (.inl rfl) pe_int ip_add))))))
    (pss_one (ps_ret (pe_tup (pa_cons (pv 8) (pa_cons (pe_lc (own := [("kind", 12)]) rfl nd (pi_list (pv 7)) (blkOk_by (own := [("kind", 12)]) (N := ["rows", "flags", "states", "kinds", "chosen", "state", "numbers", "order", "least", "place", "nexts", "later", "kind"]) (sc := defScope sLeast) (by decide +kernel)) (fun _ _ _ _ _ => (pg_name (i := 12) nd rfl (.inl rfl))) (fun _ _ _ _ _ => pts_nil) (fun _ _ _ _ _ => (pe_callTy call_bool1 (by rfl) T.bool (by decide +kernel) (pa_cons (pe_ix (ix_listK K) (pv 1) (pe_dget hu (pv 4) (pv 12) (fun _ _ => rfl)) (fun _ _ => rfl)) (pa_nil))))) (pa_nil))))))))))))))), ?_⟩
    -- states = reached(rows); kinds = classes_of(rows, flags, states)
    refine ⟨_, rfl, a, A, rfl, hA, okA, hz, fun H1 sa S s1 nsa hsa R => ?_⟩
    obtain ⟨hS, kE⟩ := hR S R
    have h0 : 0 ∈ S := List.mem_of_getElem? R.hd
    refine ⟨_, rfl, _, rfl, _, rfl, a, fa, sa, A, F, S, rfl, rows_same s1 hA, s1.seq hF, SqL.of hsa, okA, lF, R, hS, fun h d H' s' => kE h d H' (s1.trans s'), fun H2 ki κ s2' hki st => ?_⟩
    have s2 := s1.trans s2'
    have hsa2 := s2' _ _ hsa
    -- chosen = {}
    refine fun ca hca => ?_
    have hca0 : H ca = none := s2.free hca
    -- for state in states
    refine ⟨_, rfl, sa, rfl, ⟨_, SqL.of ((same_up1 hca) _ _ hsa2)⟩, for_list (K := K) (a := sa) (xs := S.map nv) (fun i σ' H3 => ∃ (ks : List Nat) (ch : Nat → Nat) (v5 : Option V), σ' = [some (.ref a), some (.ref fa), some (.ref sa), some (.ref ki), some (.ref ca), v5, none, none, none, none, none, none, none] ∧ Same H2 H3 ∧ H3 ca = some (.dK (kd ks ch)) ∧
      (∀ k ∈ ks, ch k ∈ S ∧ κ (ch k) = k) ∧ (∀ s ∈ S.take i, κ s ∈ ks) ∧ ks.length ≤ i)
      ⟨[], κ, _, rfl, same_up1 hca, upd_same, (fun k hk => nomatch hk), (fun s hs => by rw [List.take_zero] at hs; exact nomatch hs), Nat.le_refl _⟩ (fun i σ' H3 _ ⟨_, _, _, _, m, _⟩ => SqL.of (m _ _ hsa2)) ?_ ?_⟩
    · rintro i v σ' H3 hi ⟨ks, ch, v5, rfl, s3, hca3, hch, hdone, hkl⟩
      obtain ⟨s0, hs0, rfl⟩ : ∃ y, S[i]? = some y ∧ nv y = v := by
        rw [List.getElem?_map] at hi
        exact Option.map_eq_some_iff.mp hi
      have hs0m := List.mem_of_getElem? hs0
      have hil := (List.getElem?_eq_some_iff.mp hs0).1
      have hki3 := s3 _ _ hki
      refine ⟨_, rfl, _, rfl, ki, nv (κ s0), rfl, (by rw [← kd_val hs0m]; exact DGet.k (k := nk s0) hki3), _, rfl, ca, _, rfl, DGet.k (k := nk (κ s0)) hca3, _, rfl, ?_⟩
      by_cases hm : κ s0 ∈ ks
      · rw [kd_val hm]
        refine iteF ?_
        refine ⟨ks, ch, _, rfl, s3, hca3, hch, ?_, by omega⟩
        intro s hs
        rw [take_succ hs0] at hs
        rcases List.mem_append.mp hs with q | q
        · exact hdone s q
        · rw [List.mem_singleton.mp q]
          exact hm
      · rw [kd_none hm]
        refine iteT ?_
        refine ⟨_, rfl, _, rfl, _, rfl, _, rfl, ki, nv (κ s0), rfl, (by rw [← kd_val hs0m]; exact DGet.k (k := nk s0) hki3), ca, _, rfl, DPut.k (k := nk (κ s0)) hca3 ?_, ?_⟩
        · rw [kd_len]
          exact Nat.lt_of_le_of_lt (by omega : ks.length ≤ 4094) (by decide)
        · refine ⟨ks ++ [κ s0], setF ch (κ s0) s0, _, rfl, same_upd s3 hca, by rw [upd_same, kd_put hm], ?_, ?_, ?_⟩
          · intro k' hk'
            rcases List.mem_append.mp hk' with q | q
            · rw [setF_ne (fun z : k' = κ s0 => hm (by rw [← z]; exact q))]
              exact hch k' q
            · rw [List.mem_singleton.mp q, setF_same]
              exact ⟨hs0m, rfl⟩
          · intro s hs
            rw [take_succ hs0] at hs
            rcases List.mem_append.mp hs with q | q
            · exact List.mem_append_left _ (hdone s q)
            · rw [List.mem_singleton.mp q]
              exact List.mem_append_right _ (List.mem_singleton.mpr rfl)
          · rw [List.length_append, List.length_singleton]
            omega
    rintro σ' H3 ⟨ks, ch, v5, rfl, s3, hca3, hch, hdone, hkl⟩
    rw [List.length_map] at hdone hkl
    rw [List.take_length] at hdone
    have c : Chosen S κ ch := ⟨fun s hs => (hch _ (hdone s hs)).1, fun s hs => (hch _ (hdone s hs)).2⟩
    have hki3 := s3 _ _ hki
    -- numbers = {kinds[0]: 0}
    refine fun nu hnu => ?_
    refine ⟨_, rfl, ki, nv (κ 0), rfl, (by rw [← kd_val h0]; exact DGet.k (k := nk 0) ((same_up1 hnu) _ _ hki3)), upd_same, [(nk (κ 0), nv 0)], rfl, by show 1 ≤ 15; decide, ?_⟩
    have s4 : Same H3 (upd (upd H3 nu (.dK [])) nu (.dK (mergeK [] [(nk (κ 0), nv 0)]))) := same_upd (same_up1 hnu) hnu
    have hnu4 : (upd (upd H3 nu (.dK [])) nu (.dK (mergeK [] [(nk (κ 0), nv 0)]))) nu = some (.dK (kd [κ 0] fun _ => 0)) := by rw [upd_same] <;> rfl
    generalize upd (upd H3 nu (.dK [])) nu (.dK (mergeK [] [(nk (κ 0), nv 0)])) = H4 at s4 hnu4
    -- order = [kinds[0]]; least = []; place = 0
    refine ⟨_, rfl, ki, nv (κ 0), rfl, (by rw [← kd_val h0]; exact DGet.k (k := nk 0) (s4 _ _ hki3)), by show 1 ≤ sizeLine; decide, fun oa hoa => ⟨by show 0 ≤ sizeLine; decide, fun le hle => ?_⟩⟩
    have hle' := upd_none hle
    have X0 : LX H3 nu oa le (upd (upd H4 oa (.lst [nv (κ 0)])) le (.lst [])) (fun _ => 0) [κ 0] [] := by
      refine ⟨same_upd (same_new s4 hoa) (s4.free hle'.2), hnu, s4.free hoa, s4.free hle'.2, fun z => ?_, fun z => ?_, hle'.1.symm, ?_, ?_, .nil upd_same, ?_⟩
      · rw [← z, hnu4] at hoa
        cases hoa
      · have := hle'.2
        rw [← z, hnu4] at this
        cases this
      · rw [upd_ne (ne_of_none hnu4 hle'.2), upd_ne (ne_of_none hnu4 hoa)]
        exact hnu4
      · rw [upd_ne hle'.1.symm, upd_same] <;> rfl
      · intro k' hk'
        rw [List.mem_singleton.mp hk'] <;> rfl
    refine ⟨fun m σ H' => ∃ (order : List Nat) (pos : Nat → Nat) (nexts : List (List Nat)) (v5 v10 v11 v12 : Option V), σ = [some (.ref a), some (.ref fa), some (.ref sa), some (.ref ki), some (.ref ca), v5, some (.ref nu), some (.ref oa), some (.ref le), some (nv nexts.length), v10, v11, v12] ∧ m = S.length - nexts.length ∧ LX H3 nu oa le H' pos order nexts ∧ Expl (kstep A κ ch) (κ 0) order nexts,
      ⟨_, [κ 0], _, [], _, _, _, _, rfl, rfl, X0, Expl.start _ _⟩, ?_⟩
    rintro m σ H' ⟨order, pos, nexts, v5, v10, v11, v12, rfl, rfl, X, G⟩
    have hin : ∀ {order : List Nat} {nexts : List (List Nat)}, Expl (kstep A κ ch) (κ 0) order nexts → (∀ k ∈ order, ∃ s ∈ S, κ s = k) ∧ order.length ≤ S.length := fun {order nexts} G => by
      have h1 : ∀ k ∈ order, ∃ s ∈ S, κ s = k := fun k hk => by
        obtain ⟨w, hw, e⟩ := G.re k hk
        obtain ⟨h1, h2⟩ := kstep_run R st c hw h0
        exact ⟨_, h1, by rw [← h2]; exact e⟩
      refine ⟨h1, ?_⟩
      rw [← List.length_map (f := κ) (as := S)]
      exact nodup_sub_len G.nd fun k hk => let ⟨s, hs, e⟩ := h1 k hk; List.mem_map.mpr ⟨s, hs, e⟩
    -- place < len(order)
    refine ⟨_, rfl, _, rfl, oa, _, rfl, .inl (SqL.of X.ao), _, _, rfl, rfl, _, rfl, ?_⟩
    refine ite2 (fun hc => ⟨_, fun _ _ z => z, ?_⟩) (fun hc => ?_)
    · have hlt : nexts.length < order.length := by
        have := of_decide_eq_true hc
        rw [List.length_map] at this
        omega
      obtain ⟨k0, hk0⟩ : ∃ k0, order[nexts.length]? = some k0 := ⟨order[nexts.length], List.getElem?_eq_getElem hlt⟩
      have hk0m := List.mem_of_getElem? hk0
      obtain ⟨s0, hs0, rfl⟩ := (hin G).1 k0 hk0m
      have hks := hdone s0 hs0
      have hcS := c.in_ s0 hs0
      obtain ⟨r0, r1, r2, r3, hrow⟩ := okA.row4 (R.lt _ hcS)
      -- nexts = []
      refine ⟨by show 0 ≤ sizeLine; decide, fun ro hro => ?_⟩
      have hro' : H3 ro = none := X.same.free hro
      have X1 := X.new (o := .lst []) hro
      have hr1 : (upd H' ro (.lst [])) ro = some (.lst ([].map nv)) := upd_same
      have pr : oa ≠ ro := fun z => by rw [← z, X.ao] at hro; cases hro
      have er : le ≠ ro := fun z => by
        obtain ⟨ys, hys, _⟩ := X.ae.lst
        rw [← z, hys] at hro
        cases hro
      generalize upd H' ro (.lst []) = H5 at X1 hr1
      obtain ⟨xa, ta, ha1, ha2, ha3⟩ := hA.item hrow
      refine ⟨_, rfl, _, rfl, _, rfl, _, rfl, oa, _, _, _, rfl, rfl, SqL.of X1.ao, at_of rfl (map_at hk0), ca, nv (ch (κ s0)), rfl, (by rw [← kd_val hks]; exact DGet.k (k := nk (κ s0)) (X1.same _ _ hca3)),
        a, xa, _, _, rfl, rfl, sq_same ((s2.trans s3).trans X1.same) ha1, at_of rfl ha2, ta, rfl, ⟨_, sqt_same ((s2.trans s3).trans X1.same) ha3⟩, ?_⟩
      refine for_tup (K := K) (a := ta) (xs := [r0, r1, r2, r3].map nv) (fun l σ' H6 => ∃ (ord2 : List Nat) (pos2 : Nat → Nat) (r : List Nat) (v11 v12 : Option V), σ' = [some (.ref a), some (.ref fa), some (.ref sa), some (.ref ki), some (.ref ca), v5, some (.ref nu), some (.ref oa), some (.ref le), some (nv nexts.length), some (.ref ro), v11, v12] ∧
        LX H3 nu oa le H6 pos2 ord2 nexts ∧ Expl (kstep A κ ch) (κ 0) ord2 nexts ∧ ord2[nexts.length]? = some (κ s0) ∧ H6 ro = some (.lst (r.map nv)) ∧ r.length = l ∧ RowOf (kstep A κ ch) ord2 (κ s0) r)
        ⟨order, pos, [], _, _, rfl, X1, G, hk0, hr1, rfl, fun l j h => by simp at h⟩ (fun l σ' H6 _ ⟨_, _, _, _, _, _, X2, _⟩ => sqt_same ((s2.trans s3).trans X2.same) ha3) ?_ ?_
      · rintro l v σ' H6 hl ⟨ord2, pos2, r, v11, v12, rfl, X2, G2, hk2, hr2, hrl, hrow2⟩
        obtain ⟨y, hy, rfl⟩ : ∃ y, [r0, r1, r2, r3][l]? = some y ∧ nv y = v := by
          rw [List.getElem?_map] at hl
          exact Option.map_eq_some_iff.mp hl
        have hl4 : l < 4 := (List.getElem?_eq_some_iff.mp hy).1
        have hdl : dl A (ch (κ s0)) l = y := dl_of hrow hy
        have hyS : y ∈ S := by
          rw [← hdl]
          exact R.cl _ hcS l hl4
        have hkst : kstep A κ ch (κ s0) l = κ y := by
          unfold kstep
          rw [hdl]
        -- kind = kinds[later]
        refine ⟨_, rfl, _, rfl, ki, nv (κ y), rfl, (by rw [← kd_val hyS]; exact DGet.k (k := nk y) (X2.same _ _ hki3)), ?_⟩
        have hlen2 := (hin G2).2
        -- if kind not in numbers
        refine ⟨fun σ' H7 => ∃ (ord3 : List Nat) (pos3 : Nat → Nat), σ' = [some (.ref a), some (.ref fa), some (.ref sa), some (.ref ki), some (.ref ca), v5, some (.ref nu), some (.ref oa), some (.ref le), some (nv nexts.length), some (.ref ro), some (nv y), some (nv (κ y))] ∧
          LX H3 nu oa le H7 pos3 ord3 nexts ∧ Expl (kstep A κ ch) (κ 0) ord3 nexts ∧ ord3[nexts.length]? = some (κ s0) ∧ H7 ro = some (.lst (r.map nv)) ∧ RowOf (kstep A κ ch) ord3 (κ s0) r ∧ κ y ∈ ord3, ?_, ?_⟩
        · refine ⟨_, rfl, _, rfl, nu, _, rfl, DGet.k (k := nk (κ y)) X2.du, _, rfl, ?_⟩
          by_cases hm : κ y ∈ ord2
          · rw [kd_val hm]
            refine iteF ?_
            exact ⟨ord2, pos2, rfl, X2, G2, hk2, hr2, hrow2, hm⟩
          · rw [kd_none hm]
            refine iteT ?_
            have hao2 : (upd H6 nu (.dK (putK (kd ord2 pos2) (nk (κ y)) (.int (((ord2.map nv).length : Nat) : Int))))) oa = some (.lst (ord2.map nv)) := by rw [upd_ne X2.no.symm]; exact X2.ao
            refine ⟨_, rfl, oa, _, rfl, .inl (SqL.of X2.ao), _, rfl, _, rfl, nu, _, rfl, DPut.k (k := nk (κ y)) X2.du (by rw [kd_len]; exact Nat.lt_of_le_of_lt (by omega : ord2.length ≤ 4094) (by decide)), ?_⟩
            refine ⟨_, rfl, .inl ⟨rfl, _, SqL.of hao2⟩, _, rfl, oa, _, _, rfl, rfl, hao2, (by rw [List.length_map]; exact Nat.lt_of_le_of_lt (by omega : ord2.length ≤ 4094) (by decide)), ?_⟩
            have X3 := X2.grow hm
            have ev : V.int (((ord2.map nv).length : Nat) : Int) = nv ord2.length := by rw [List.length_map] <;> rfl
            rw [ev]
            have hmem := List.mem_of_getElem? hk2
            have G3 := G2.grow hmem hl4 (by rw [hkst]; exact hm)
            rw [hkst] at G3
            refine ⟨ord2 ++ [κ y], setF pos2 (κ y) ord2.length, rfl, X3, G3, ?_, ?_, hrow2.more, List.mem_append_right _ (List.mem_singleton.mpr rfl)⟩
            · rw [List.getElem?_append_left (List.getElem?_eq_some_iff.mp hk2).1]
              exact hk2
            · rw [upd_ne pr.symm, upd_ne (ne_of hr2 X2.du (fun z => nomatch z))]
              exact hr2
        · -- nexts.append(numbers[kind])
          rintro σ' H7 ⟨ord3, pos3, rfl, X4, G3, hk3, hr4, hrow3, hm⟩
          refine ⟨_, rfl, .inl ⟨rfl, _, SqL.of hr4⟩, _, rfl, _, rfl, nu, nv (pos3 (κ y)), rfl, (by rw [← kd_val hm]; exact DGet.k (k := nk (κ y)) X4.du), ro, _, _, rfl, rfl, hr4, (by rw [List.length_map, hrl]; exact Nat.lt_of_lt_of_le hl4 (by decide)), ?_⟩
          refine ⟨ord3, pos3, r ++ [pos3 (κ y)], _, _, rfl, X4.upd hr4 hro' pr er, G3, hk3, by rw [upd_same, List.map_append] <;> rfl, by rw [List.length_append, hrl] <;> rfl, ?_⟩
          intro l' j' h'
          by_cases hl' : l' < r.length
          · rw [List.getElem?_append_left hl'] at h'
            exact hrow3 l' j' h'
          · have h2 := (List.getElem?_eq_some_iff.mp h').1
            rw [List.length_append, List.length_singleton] at h2
            have e : l' = r.length := by omega
            subst e
            rw [List.getElem?_append_right (Nat.le_refl _), Nat.sub_self] at h'
            have ej : pos3 (κ y) = j' := Option.some.inj h'
            rw [← ej, hrl, hkst]
            exact X4.pos _ hm
      · -- least.append(tuple(nexts)); place += 1
        rintro σ' H6 ⟨ord2, pos2, r, v11, v12, rfl, X2, G2, hk2, hr2, hrl, hrow2⟩
        obtain ⟨us, hus, hul⟩ := X2.ae.lst
        have hle2 := G2.le
        have hlen2 := (hin G2).2
        have hrl4 : r.length = 4 := hrl
        refine ⟨_, rfl, .inl ⟨rfl, _, SqL.of hus⟩, _, rfl, ro, _, rfl, .inl ⟨SqL.of hr2, fun tr htr => ?_⟩⟩
        have X3 := X2.new (o := .tup (r.map nv)) htr
        have hus3 : (upd H6 tr (.tup (r.map nv))) le = some (.lst us) := by rw [upd_ne (ne_of_none hus htr)]; exact hus
        refine ⟨le, _, _, rfl, rfl, hus3, (by rw [hul]; exact Nat.lt_of_le_of_lt (by omega : nexts.length ≤ 4094) (by decide)), ?_⟩
        refine ⟨_, rfl, nexts.length, 1, rfl, rfl, S.length - (nexts.length + 1), ?_, ord2, pos2, nexts ++ [r], v5, some (.ref ro), v11, v12, ?_, by rw [List.length_append] <;> rfl, X3.row hus3 upd_same, G2.row hk2 hrow2 hrl4⟩
        · have := (hin G).2
          omega
        · rw [List.length_append] <;> rfl
    · -- return (least, [bool(flags[chosen[kind]]) for kind in order])
      have hge : order.length ≤ nexts.length := by
        have := of_decide_eq_false (Bool.eq_false_iff.mpr hc)
        rw [List.length_map] at this
        omega
      have LM := least_of lF R st c G hge
      refine ⟨_, rfl, _, rfl, oa, rfl, ⟨_, SqL.of X.ao⟩, fun D hD => ?_⟩
      refine lc_list (K := K) (a := oa) (xs := order.map nv) (MI H' D ((order.map fun k => F.getD (ch k) false).map V.bl)) (.start hD) (fun i H2 _ m => SqL.of (m.1 _ _ X.ao)) ?_ ?_
      · intro i v H6 hi m
        obtain ⟨k0, hk0, rfl⟩ : ∃ y, order[i]? = some y ∧ nv y = v := by
          rw [List.getElem?_map] at hi
          exact Option.map_eq_some_iff.mp hi
        obtain ⟨s0, hs0, rfl⟩ := (hin G).1 k0 (List.mem_of_getElem? hk0)
        have hcl : ch (κ s0) < F.length := by rw [lF]; exact R.lt _ (c.in_ s0 hs0)
        have e1 : F[ch (κ s0)]? = some F[ch (κ s0)] := List.getElem?_eq_getElem hcl
        have hlen2 := (hin G).2
        refine ⟨rfl, tyesT ⟨_, rfl, _, rfl, _, rfl, ca, nv (ch (κ s0)), rfl, (by rw [← kd_val (hdone s0 hs0)]; exact DGet.k (k := nk (κ s0)) ((X.same.trans m.1) _ _ hca3)), fa, _, _, _, rfl, rfl, (((s2.trans s3).trans X.same).trans m.1).seq hF, at_of rfl (map_at e1), .inr ⟨F[ch (κ s0)], rfl, m.step ?_ hD ?_⟩⟩⟩
        · rw [← getD_of (d := false) e1]
          exact map_at (map_at (f := fun k => F.getD (ch k) false) hk0)
        · rw [List.length_map, List.length_map]
          exact Nat.le_trans (by omega : order.length ≤ 4094) (by decide)
      · intro H6 m
        obtain ⟨m1, m2⟩ := m.fin (by rw [List.length_map, List.length_map, List.length_map])
        refine ⟨by show 2 ≤ sizeLine; decide, fun t ht => ?_⟩
        have sH := ((s2.trans s3).trans X.same).trans m1
        refine k _ t le D nexts _ (same_new sH ht) ((s2.trans s3).free X.en) (((s2.trans s3).trans X.same).free hD) upd_same ((X.ae.same m1).new ht) (by rw [upd_ne (ne_of_none m2 ht)]; exact m2) LM
end
end SR

/-! ### SRZ -/
set_option maxHeartbeats 4000000
/-! zip of two iterables of whatever kinds. -/
namespace SRZ
open PySem PySem.Spec PyProof.Rows L2
open PySem.Sem (wp)
/-- a kind of iterator: it at place k over the items at l -/
structure IK where
  It : Heap → Addr → Addr → Nat → Prop
  Sq : Heap → Addr → Array Value → Prop
  at_ : ∀ {h h' : Heap} {it l : Addr} {k : Nat}, It h it l k → (∀ o, h.get? it = some o → h'.get? it = some o) → It h' it l k
  sq_ : ∀ {h h' : Heap} {l : Addr} {xs : Array Value}, Sq h l xs → (∀ o, h.get? l = some o → h'.get? l = some o) → Sq h' l xs
  has : ∀ {h : Heap} {it l : Addr} {k : Nat}, It h it l k → ∃ o, h.get? it = some o ∧ ∀ v, o.data ≠ .cell v
  item : ∀ {prog : Program} {w : World} {A : Around} {E : Value → Shared → Prop} {s : Shared} {it l : Addr} {i : Nat} {items : Array Value} {x : Value} {Q : Value → Shared → Prop}, It s.heap it l i → Sq s.heap l items → items[i]? = some x →
    (∀ h', It h' it l (i + 1) → Heap.SameBut it s.heap h' → Q x { s with heap := h' }) → wpAny (model prog w) A (Builtin.SmallTypes.nextOf (.ref it)) Q E s
  stop : ∀ {prog : Program} {w : World} {A : Around} {E : Value → Shared → Prop} {s : Shared} {it l : Addr} {i : Nat} {items : Array Value} {Q : Value → Shared → Prop}, A.handled = none → It s.heap it l i → Sq s.heap l items → items[i]? = none →
    (∀ h' e, Heap.ExtBut it s.heap h' → (∃ o, h'.get? e = some o ∧ o.cls = .type "StopIteration") → E (.ref e) { s with heap := h' }) → wpAny (model prog w) A (Builtin.SmallTypes.nextOf (.ref it)) Q E s
def kL : IK where
  It := fun h it l k => h.IsListIter it l k
  Sq := fun h l xs => h.IsList l xs
  at_ := fun h e => h.at e
  sq_ := fun {h h' l xs} q e => let ⟨o, h1, h2⟩ := q; ⟨o, e o h1, h2⟩
  has := fun h => let ⟨o, e, _, d⟩ := h; ⟨o, e, fun v q => by rw [d] at q; cases q⟩
  item := fun h1 h2 h3 h4 => wpAny_nextOf_list_item h1 h2 h3 h4
  stop := fun h0 h1 h2 h3 h4 => wpAny_nextOf_list_end h0 h1 h2 h3 h4
def kT : IK where
  It := fun h it l k => h.IsTupleIter it l k
  Sq := fun h l xs => h.IsTuple l xs
  at_ := fun h e => h.at e
  sq_ := fun {h h' l xs} q e => let ⟨o, h1, h2⟩ := q; ⟨o, e o h1, h2⟩
  has := fun h => let ⟨o, e, _, d⟩ := h; ⟨o, e, fun v q => by rw [d] at q; cases q⟩
  item := fun h1 h2 h3 h4 => RZ.nextOf_tuple_item h1 h2 h3 h4
  stop := fun h0 h1 h2 h3 h4 => RZ.nextOf_tuple_end h0 h1 h2 h3 h4
/-- what stands apart from the changed cells -/
def Keeps (L : List Addr) (h h' : Heap) : Prop := ∀ c o, c ∉ L → h.get? c = some o → h'.get? c = some o
theorem Keeps.one {a : Addr} {h h' : Heap} (s : Heap.SameBut a h h') : Keeps [a] h h' := fun c o n e => s.extBut c o (fun z => n (List.mem_singleton.mpr z)) e
theorem Keeps.ext {a : Addr} {h h' : Heap} (s : Heap.ExtBut a h h') : Keeps [a] h h' := fun c o n e => s c o (fun z => n (List.mem_singleton.mpr z)) e
theorem Keeps.then {L M : List Addr} {h h' h'' : Heap} (a : Keeps L h h') (b : Keeps M h' h'') : Keeps (L ++ M) h h'' := fun c o n e => b c o (fun m => n (List.mem_append_right _ m)) (a c o (fun m => n (List.mem_append_left _ m)) e)
theorem Keeps.at_ {L : List Addr} {h h' : Heap} {c : Addr} (k : Keeps L h h') (n : c ∉ L) : ∀ o, h.get? c = some o → h'.get? c = some o := fun o e => k c o n e
section
variable {prog : Program} {w : World} {A : Around} {E : Value → Shared → Prop} {s : Shared} {I J : IK} {z TI TO i1 i2 l1 l2 : Addr} {k1 k2 : Nat} {xs ys : Array Value} {a b : Value}
/-- zip's next: both give an item -/
theorem next_item {x y : Value} {Q : Value → Shared → Prop} (D : ZipApart z TI TO i1 i2 l1 l2) (hz : IsZip s.heap z TI TO .none) (hTI : IsPair s.heap TI (.ref i1) (.ref i2)) (hTO : IsPair s.heap TO a b)
    (h1 : I.It s.heap i1 l1 k1) (h2 : J.It s.heap i2 l2 k2) (hl1 : I.Sq s.heap l1 xs) (hl2 : J.Sq s.heap l2 ys) (hx : xs[k1]? = some x) (hy : ys[k2]? = some y)
    (hQ : ∀ h', IsZip h' z TI TO (rawInt s.heap.objs.size) → IsPair h' TO x y → I.It h' i1 l1 (k1 + 1) → J.It h' i2 l2 (k2 + 1) → IsPair h' s.heap.objs.size x y → h'.objs.size = s.heap.objs.size + 1 → Keeps [z, TO, i1, i2] s.heap h' → Q (.ref s.heap.objs.size) { s with heap := h' }) :
    wpAny (model prog w) A (Builtin.«zip.__next__» ⟨[.ref z], []⟩) (fun fin s' => ∃ v, fin = .done (.ret v) ∧ Q v s') E s := by
  obtain ⟨_, _, d3, d4, _, _, _, d8, d9, d10, d11, d12, d13, d14, d15, d16, d17, d18⟩ := id D
  have dTOz := D.TOz
  show wpAny _ _ (field (.ref z) 2 >>= _) _ _ _
  refine wpAny_bind (wpAny_field hz rfl (x := .bool false) rfl ?_)
  refine wpAny_bind (wpAny_field hz rfl (x := .ref TI) rfl (wpAny_bind (wpAny_seqItems hTI rfl ?_)))
  refine wpAny_bind ?_
  unfold Builtin.SmallTypes.ownedTupleIsFree
  refine wpAny_bind (wpAny_field hz rfl (x := .none) rfl (wpAny_pure ?_))
  simp only [if_true]
  refine wpAny_bind (wpAny_rule (wpAny_bind (wpAny_field hz rfl (x := .ref TO) rfl (wpAny_bind (wpAny_setField_rec hz (by simp) fun g1 z1 s1 => ?_)))))
  replace z1 : IsZip g1 z TI TO .ellipsis := z1
  have e1 := Keeps.one s1
  refine wpAny_bind ?_
  simp only [List.zipIdx_cons, List.zipIdx_nil, List.forIn_cons, List.forIn_nil]
  -- the first
  refine wpAny_bind (wpAny_bind (wpAny_onRaise ?_))
  refine wpAny_bind (I.item (I.at_ h1 (e1.at_ (by simp [d3]))) (I.sq_ hl1 (e1.at_ (by simp [d11]))) hx fun g2 i1' s2 => wpAny_pure ?_)
  have e2 := e1.then (Keeps.one s2)
  refine wpAny_bind (wpAny_seqItems (e2 _ _ (by simp [dTOz, d8]) hTO) rfl ?_)
  refine wpAny_bind (wpAny_updateSeq_pair (e2 _ _ (by simp [dTOz, d8]) hTO) fun g3 t3 s3 => ?_)
  replace t3 : IsPair g3 TO x b := t3
  have e3 := e2.then (Keeps.one s3)
  have i1'' := I.at_ i1' ((Keeps.one s3).at_ (by simp [d8.symm]))
  refine wpAny_bind (wpAny_letGo (wpAny_pure ?_))
  -- the second
  refine wpAny_bind (wpAny_bind (wpAny_onRaise ?_))
  refine wpAny_bind (J.item (J.at_ h2 (e3.at_ (by simp [d4, d10.symm, d9.symm]))) (J.sq_ hl2 (e3.at_ (by simp [d15, d17, d16]))) hy fun g4 i2' s4 => wpAny_pure ?_)
  have e4 := e3.then (Keeps.one s4)
  have t4 : IsPair g4 TO x b := (Keeps.one s4) _ _ (by simp [d9]) t3
  refine wpAny_bind (wpAny_seqItems t4 rfl ?_)
  refine wpAny_bind (wpAny_updateSeq_pair t4 fun g5 t5 s5 => ?_)
  replace t5 : IsPair g5 TO x y := t5
  have e5 := e4.then (Keeps.one s5)
  refine wpAny_bind (wpAny_letGo (wpAny_pure (wpAny_pure ?_)))
  -- the pair is handed out
  refine wpAny_bind (wpAny_seqItems t5 rfl (wpAny_bind (wpAny_newTuple ?_)))
  have sz : g5.objs.size = s.heap.objs.size := by rw [s5.1, s4.1, s3.1, s2.1, s1.1]
  have z5 : IsZip g5 z TI TO .ellipsis := ((((Keeps.one s2).then (Keeps.one s3)).then (Keeps.one s4)).then (Keeps.one s5)) _ _ (by simp [d3.symm, d4.symm, dTOz.symm]) z1
  have w1 : I.It g5 i1 l1 (k1 + 1) := I.at_ i1'' (((Keeps.one s4).then (Keeps.one s5)).at_ (by simp [d10, d8.symm]))
  have w2 : J.It g5 i2 l2 (k2 + 1) := J.at_ i2' ((Keeps.one s5).at_ (by simp [d9.symm]))
  have zlt : z < g5.objs.size := Heap.lt_size z5
  refine wpAny_bind ?_
  unfold Builtin.SmallTypes.ownedTupleHandOut
  have z6 : IsZip (g5.push { cls := .type "tuple", data := .seq #[x, y] }) z TI TO .ellipsis := Heap.get?_push_of_some _ z5
  refine wpAny_bind (wpAny_setField_rec z6 (by simp) fun g7 z7 s7 => ?_)
  replace z7 : IsZip g7 z TI TO (rawInt g5.objs.size) := z7
  refine wpAny_setField_rec z7 (by simp) fun g8 z8 s8 => ?_
  replace z8 : IsZip g8 z TI TO (rawInt g5.objs.size) := z8
  have e8 : Keeps [z] g5 g8 := fun c o n e => (Keeps.one s8) c o n ((Keeps.one s7) c o n (Heap.get?_push_of_some _ e))
  have zn : g5.objs.size ∉ [z] := fun m => Nat.ne_of_gt zlt (List.mem_singleton.mp m)
  have p8 : IsPair g8 g5.objs.size x y := (Keeps.one s8) _ _ zn ((Keeps.one s7) _ _ zn (Heap.get?_push_size _ rfl))
  have sz8 : g8.objs.size = g5.objs.size + 1 := by rw [s8.1, s7.1, Heap.size_push]
  rw [sz] at z8 p8 sz8
  refine wpAny_pure ⟨_, rfl, ?_⟩
  show Q (.ref g5.objs.size) _
  rw [sz]
  refine hQ g8 z8 (e8 _ _ (by simp [dTOz]) t5) (I.at_ w1 (e8.at_ (by simp [d3]))) (J.at_ w2 (e8.at_ (by simp [d4]))) p8 sz8 fun c o n e => (e5.then e8) c o (fun m => n ?_) e
  have sub : ∀ c, c ∈ [z] ++ [i1] ++ [TO] ++ [i2] ++ [TO] ++ [z] → c ∈ [z, TO, i1, i2] := by
    intro c m
    simp at m ⊢
    rcases m with h | h | h | h | h | h <;> simp [h]
  exact sub c m
/-- zip's next: one of the two is at its end -/
theorem next_end {Q : Fin → Shared → Prop} (hh : A.handled = none) (D : ZipApart z TI TO i1 i2 l1 l2) (hz : IsZip s.heap z TI TO .none) (hTI : IsPair s.heap TI (.ref i1) (.ref i2)) (hTO : IsPair s.heap TO a b)
    (h1 : I.It s.heap i1 l1 k1) (h2 : J.It s.heap i2 l2 k2) (hl1 : I.Sq s.heap l1 xs) (hl2 : J.Sq s.heap l2 ys) (hend : xs[k1]? = none ∨ ys[k2]? = none)
    (hE : ∀ h' e, Keeps [z, TO, i1, i2] s.heap h' → (∃ o, h'.get? e = some o ∧ o.cls = .type "StopIteration") → E (.ref e) { s with heap := h' }) :
    wpAny (model prog w) A (Builtin.«zip.__next__» ⟨[.ref z], []⟩) Q E s := by
  obtain ⟨_, _, d3, d4, _, _, _, d8, d9, d10, d11, d12, d13, d14, d15, d16, d17, d18⟩ := id D
  have dTOz := D.TOz
  show wpAny _ _ (field (.ref z) 2 >>= _) _ _ _
  refine wpAny_bind (wpAny_field hz rfl (x := .bool false) rfl ?_)
  refine wpAny_bind (wpAny_field hz rfl (x := .ref TI) rfl (wpAny_bind (wpAny_seqItems hTI rfl ?_)))
  refine wpAny_bind ?_
  unfold Builtin.SmallTypes.ownedTupleIsFree
  refine wpAny_bind (wpAny_field hz rfl (x := .none) rfl (wpAny_pure ?_))
  simp only [if_true]
  refine wpAny_bind (wpAny_rule (wpAny_bind (wpAny_field hz rfl (x := .ref TO) rfl (wpAny_bind (wpAny_setField_rec hz (by simp) fun g1 z1 s1 => ?_)))))
  replace z1 : IsZip g1 z TI TO .ellipsis := z1
  have e1 := Keeps.one s1
  -- an end e, in a heap that keeps all but L: z's own mark is set back
  have out : ∀ (L : List Addr) (g : Heap) (e : Addr), Keeps L s.heap g → (∀ c, c ∈ L → c ∈ [z, TO, i1, i2]) → IsZip g z TI TO .ellipsis → (∃ o, g.get? e = some o ∧ o.cls = .type "StopIteration") →
      ∀ {m : Sem Unit}, (∀ (g' : Heap), Heap.SameBut z g g' → E (.ref e) { s with heap := g' }) ∨ True → ∀ g', Heap.SameBut z g g' → E (.ref e) { s with heap := g' } := by
    intro L g e kL sub zg ⟨oe, ho, hc⟩ m _ g' sb
    have ne : e ≠ z := fun q => by
      subst q
      rw [zg] at ho
      cases ho
      simp at hc
    refine hE g' e (fun c o n x => (Keeps.one sb) c o (by simpa using fun q => n (by rw [q]; simp)) (kL c o (fun q => n (sub c q)) x)) ⟨oe, (Keeps.one sb) e oe (by simpa using ne) ho, hc⟩
  refine wpAny_bind ?_
  simp only [List.zipIdx_cons, List.zipIdx_nil, List.forIn_cons, List.forIn_nil]
  refine wpAny_bind (wpAny_bind (wpAny_onRaise ?_))
  cases hx : xs[k1]? with
  | none =>
    refine wpAny_bind (I.stop hh (I.at_ h1 (e1.at_ (by simp [d3]))) (I.sq_ hl1 (e1.at_ (by simp [d11]))) hx fun g2 e s2 he => ?_)
    have e2 := e1.then (Keeps.ext s2)
    have z2 : IsZip g2 z TI TO .ellipsis := (Keeps.ext s2) _ _ (by simp [d3.symm]) z1
    refine wpAny_setField_rec z2 (by simp) fun g3 _ s3 => out _ g2 e e2 (by simp) z2 he (m := pure ()) (.inr trivial) g3 s3
  | some x =>
    have hy : ys[k2]? = none := by
      rcases hend with h | h
      · rw [hx] at h
        cases h
      · exact h
    refine wpAny_bind (I.item (I.at_ h1 (e1.at_ (by simp [d3]))) (I.sq_ hl1 (e1.at_ (by simp [d11]))) hx fun g2 i1' s2 => wpAny_pure ?_)
    have e2 := e1.then (Keeps.one s2)
    refine wpAny_bind (wpAny_seqItems (e2 _ _ (by simp [dTOz, d8]) hTO) rfl ?_)
    refine wpAny_bind (wpAny_updateSeq_pair (e2 _ _ (by simp [dTOz, d8]) hTO) fun g3 t3 s3 => ?_)
    have e3 := e2.then (Keeps.one s3)
    refine wpAny_bind (wpAny_letGo (wpAny_pure ?_))
    refine wpAny_bind (wpAny_bind (wpAny_onRaise ?_))
    refine wpAny_bind (J.stop hh (J.at_ h2 (e3.at_ (by simp [d4, d10.symm, d9.symm]))) (J.sq_ hl2 (e3.at_ (by simp [d15, d17, d16]))) hy fun g4 e s4 he => ?_)
    have e4 := e3.then (Keeps.ext s4)
    have z4 : IsZip g4 z TI TO .ellipsis := (((Keeps.one s2).then (Keeps.one s3)).then (Keeps.ext s4)) _ _ (by simp [d3.symm, d4.symm, dTOz.symm]) z1
    refine wpAny_setField_rec z4 (by simp) fun g5 _ s5 => out _ g4 e e4 (by simp) z4 he (m := pure ()) (.inr trivial) g5 s5
theorem pyNext_item {x y : Value} {Q : Option Value → Shared → Prop} (D : ZipApart z TI TO i1 i2 l1 l2) (hz : IsZip s.heap z TI TO .none) (hTI : IsPair s.heap TI (.ref i1) (.ref i2)) (hTO : IsPair s.heap TO a b)
    (h1 : I.It s.heap i1 l1 k1) (h2 : J.It s.heap i2 l2 k2) (hl1 : I.Sq s.heap l1 xs) (hl2 : J.Sq s.heap l2 ys) (hx : xs[k1]? = some x) (hy : ys[k2]? = some y)
    (hQ : ∀ h', IsZip h' z TI TO (rawInt s.heap.objs.size) → IsPair h' TO x y → I.It h' i1 l1 (k1 + 1) → J.It h' i2 l2 (k2 + 1) → IsPair h' s.heap.objs.size x y → h'.objs.size = s.heap.objs.size + 1 → Keeps [z, TO, i1, i2] s.heap h' → Q (some (.ref s.heap.objs.size)) { s with heap := h' }) :
    wpAny (model prog w) A (pyNext (.ref z)) Q E s := by
  have hT : s.TypeIs (.ref z) "zip" := ⟨_, hz, rfl⟩
  unfold pyNext
  exact wpAny_bind (wpAny_attempt (wpAny_callSpecial?_slot (name := Str.ofString "__next__") hT F.slot_zip_next (wpAny_call_entry F.slot_zip_next hT F.entry_zip_next
    (next_item D hz hTI hTO h1 h2 hl1 hl2 hx hy fun h' q1 q2 q3 q4 q5 q6 q7 => wpAny_pure (hQ h' q1 q2 q3 q4 q5 q6 q7)) (F.args_zip_next_1 _))))
theorem pyNext_end {Q : Option Value → Shared → Prop} (hh : A.handled = none) (D : ZipApart z TI TO i1 i2 l1 l2) (hz : IsZip s.heap z TI TO .none) (hTI : IsPair s.heap TI (.ref i1) (.ref i2)) (hTO : IsPair s.heap TO a b)
    (h1 : I.It s.heap i1 l1 k1) (h2 : J.It s.heap i2 l2 k2) (hl1 : I.Sq s.heap l1 xs) (hl2 : J.Sq s.heap l2 ys) (hend : xs[k1]? = none ∨ ys[k2]? = none) (hQ : ∀ h', Keeps [z, TO, i1, i2] s.heap h' → Q none { s with heap := h' }) :
    wpAny (model prog w) A (pyNext (.ref z)) Q E s := by
  have hT : s.TypeIs (.ref z) "zip" := ⟨_, hz, rfl⟩
  unfold pyNext
  refine wpAny_bind (wpAny_attempt (wpAny_callSpecial?_slot (name := Str.ofString "__next__") hT F.slot_zip_next (wpAny_call_entry F.slot_zip_next hT F.entry_zip_next
    (next_end hh D hz hTI hTO h1 h2 hl1 hl2 hend fun h' e hk ⟨o, ho, hc⟩ => ?_) (F.args_zip_next_1 _))))
  exact wpAny_bind (wpAny_isInstance (T := "StopIteration") (b := true) ⟨o, ho, hc⟩ isSubtype_stop (wpAny_pure (hQ _ hk)))
end
/-! ## zip(a tuple, a list) -/
abbrev mH1 (h : Heap) (l1 : Addr) : Heap := h.push { cls := .type "tuple_iterator", data := .fields #[.ref l1, .int 0 0] }
abbrev mH2 (h : Heap) (l1 l2 : Addr) : Heap := (mH1 h l1).push { cls := .type "list_iterator", data := .fields #[.ref l2, .int 0 0] }
abbrev mH3 (h : Heap) (l1 l2 : Addr) : Heap := (mH2 h l1 l2).push { cls := .type "tuple", data := .seq #[.ref h.objs.size, .ref (mH1 h l1).objs.size] }
abbrev mH4 (h : Heap) (l1 l2 : Addr) : Heap := (mH3 h l1 l2).push { cls := .type "tuple", data := .seq #[.none, .none] }
abbrev mH5 (h : Heap) (l1 l2 : Addr) : Heap := (mH4 h l1 l2).push { cls := .type "zip", data := .fields #[.none, .bool false, .bool false, .ref (mH2 h l1 l2).objs.size, .ref (mH3 h l1 l2).objs.size] }
theorem meets_new (l1 l2 : Addr) (xs ys : Array Value) :
    Meets (Builtin.«zip.__new__» ⟨[.type "zip", .ref l1, .ref l2], []⟩) (fun _ R s => s.heap.IsTuple l1 xs ∧ s.heap.IsList l2 ys ∧ R (.ok (.ret (.ref (mH4 s.heap l1 l2).objs.size))) { s with heap := mH5 s.heap l1 l2 }) :=
  .of_wp fun prog w A R s h => by
    obtain ⟨hp, g, d, tk, os⟩ := s
    obtain ⟨hl1, hl2, h⟩ := h
    have hsub := sub_zip
    have q1 : Heap.IsTuple (Shared.heap ⟨hp, g, d, tk, os⟩) l1 xs := hl1
    have q2 : Heap.IsList (Shared.heap ⟨hp.push { cls := .type "tuple_iterator", data := .fields #[.ref l1, .int 0 0] }, g, d, tk, os⟩) l2 ys := Heap.IsList.push hl2 _
    wp_walk using wpAny_pyIter_tuple q1, wpAny_pyIter_list q2
    exact ⟨_, rfl, h⟩
theorem call_zipM {prog : Program} {w : World} {A : Around} {E : Value → Shared → Prop} {s : Shared} {l1 l2 : Addr} {xs ys : Array Value} {Q : Value → Shared → Prop} (hl1 : s.heap.IsTuple l1 xs) (hl2 : s.heap.IsList l2 ys)
    (h : ∀ h', IsZip h' (s.heap.objs.size + 4) (s.heap.objs.size + 2) (s.heap.objs.size + 3) .none → IsPair h' (s.heap.objs.size + 2) (.ref s.heap.objs.size) (.ref (s.heap.objs.size + 1)) →
      IsPair h' (s.heap.objs.size + 3) .none .none → kT.It h' s.heap.objs.size l1 0 → kL.It h' (s.heap.objs.size + 1) l2 0 → (∀ c o, s.heap.get? c = some o → h'.get? c = some o) → Q (.ref (s.heap.objs.size + 4)) { s with heap := h' }) :
    wpAny (model prog w) A (call (.type "zip") [.ref l1, .ref l2]) Q E s := by
  refine callType_new F.called_zip (by decide) (F.typeCall_zip_2 _ _) (F.newCall_zip_2 _ _) (fun obj => F.args_object_init_3 obj _ _) F.entry_zip_new (meets_new l1 l2 xs ys) ⟨hl1, hl2, ?_⟩
  have z1 : (mH1 s.heap l1).objs.size = s.heap.objs.size + 1 := Heap.size_push ..
  have z2 : (mH2 s.heap l1 l2).objs.size = s.heap.objs.size + 2 := by rw [Heap.size_push, z1]
  have z3 : (mH3 s.heap l1 l2).objs.size = s.heap.objs.size + 3 := by rw [Heap.size_push, z2]
  have z4 : (mH4 s.heap l1 l2).objs.size = s.heap.objs.size + 4 := by rw [Heap.size_push, z3]
  have up : ∀ {h : Heap} {o : Obj} {c : Addr} {q : Obj}, h.get? c = some q → (h.push o).get? c = some q := fun e => Heap.get?_push_of_some _ e
  have g5 : (mH5 s.heap l1 l2).get? (mH4 s.heap l1 l2).objs.size = some _ := Heap.get?_push_size _ rfl
  have g4 : (mH5 s.heap l1 l2).get? (mH3 s.heap l1 l2).objs.size = some _ := up (Heap.get?_push_size _ rfl)
  have g3 : (mH5 s.heap l1 l2).get? (mH2 s.heap l1 l2).objs.size = some _ := up (up (Heap.get?_push_size _ rfl))
  have g2 : (mH5 s.heap l1 l2).get? (mH1 s.heap l1).objs.size = some _ := up (up (up (Heap.get?_push_size _ rfl)))
  have g1 : (mH5 s.heap l1 l2).get? s.heap.objs.size = some _ := up (up (up (up (Heap.get?_push_size _ rfl))))
  show _ ∧ _
  rw [z2, z3, z4] at g5
  rw [z1, z2] at g3
  rw [z3] at g4
  rw [z1] at g2
  rw [z4]
  exact ⟨⟨_, g5, rfl⟩, h _ g5 g3 g4 ⟨_, g1, rfl, rfl⟩ ⟨_, g2, rfl, rfl⟩ fun c o x => up (up (up (up (up x))))⟩
/-- the items at a and b as they stand at each turn, in new pairs -/
def Itm (K : PySem.W.Frag) (a b : Addr) : It :=
  ⟨fun i H => ∃ (xs ys : List V) (x y : V), SqT K H a xs ∧ SqL K H b ys ∧ xs[i]? = some x ∧ ys[i]? = some y,
    fun i H v H' => ∃ T x y, v = .ref T ∧ H T = none ∧ H' = upd H T (.tup [x, y]) ∧ (∀ xs, SqT K H a xs → xs[i]? = some x) ∧ ∀ ys, SqL K H b ys → ys[i]? = some y,
    fun i H => ∃ xs ys : List V, SqT K H a xs ∧ SqL K H b ys ∧ (xs.length ≤ i ∨ ys.length ≤ i)⟩
theorem turn_m {P : Program} {w : World} {K : PySem.W.Frag} {elts : List Expr} {kk : Nat} {tpos : Pos} {a b z TI TO i1 i2 : Addr} (D : ZipApart z TI TO i1 i2 a b) :
    Turn P w K (.Tuple elts kk tpos) (Itm K a b) [z, TI, TO, i1, i2] z (fun i h => IsZip h z TI TO .none ∧ IsPair h TI (.ref i1) (.ref i2) ∧ (∃ x y, IsPair h TO x y) ∧ kT.It h i1 a i ∧ kL.It h i2 b i) where
  mem := by simp
  obj := fun i h st c hc => by
    obtain ⟨hz, hTI, ⟨x, y, hTO⟩, h1, h2⟩ := st
    have e' : c = z ∨ c = TI ∨ c = TO ∨ c = i1 ∨ c = i2 := by simpa using hc
    rcases e' with rfl | rfl | rfl | rfl | rfl
    · exact ⟨_, hz, fun v q => nomatch q⟩
    · exact ⟨_, hTI, fun v q => nomatch q⟩
    · exact ⟨_, hTO, fun v q => nomatch q⟩
    · exact kT.has h1
    · exact kL.has h2
  keep := fun i h h' st k => by
    obtain ⟨hz, hTI, ⟨x, y, hTO⟩, h1, h2⟩ := st
    exact ⟨k z (by simp) _ hz, k TI (by simp) _ hTI, ⟨x, y, k TO (by simp) _ hTO⟩, kT.at_ h1 fun o q => k i1 (by simp) o q, kL.at_ h2 fun o q => k i2 (by simp) o q⟩
  item := by
    intro X hP hw hK hc i pins s σ H E I hf st hg
    subst hP hw hK
    obtain ⟨hz, hTI, ⟨x0, y0, hTO⟩, h1, h2⟩ := st
    obtain ⟨xs, ys, x, y, hqx, hqy, hx, hy⟩ := hg
    obtain ⟨its, rv, p, _⟩ := I.tuple hqx
    obtain ⟨its2, rv2, p2, _⟩ := I.list hqy
    obtain ⟨u, hu, ru⟩ := rv.get hx
    obtain ⟨u2, hu2, ru2⟩ := rv2.get hy
    have hzl : z < s.heap.objs.size := Heap.lt_size hz
    have hlt : ∀ c ∈ [z, TI, TO, i1, i2], c < s.heap.objs.size := fun c hcm => by
      have e' : c = z ∨ c = TI ∨ c = TO ∨ c = i1 ∨ c = i2 := by simpa using hcm
      rcases e' with rfl | rfl | rfl | rfl | rfl
      · exact hzl
      · exact Heap.lt_size hTI
      · exact Heap.lt_size hTO
      · obtain ⟨_, e1, _⟩ := kT.has h1
        exact Heap.lt_size e1
      · obtain ⟨_, e2, _⟩ := kL.has h2
        exact Heap.lt_size e2
    refine pyNext_item (I := kT) (J := kL) D hz hTI hTO h1 h2 (show s.heap.IsTuple a its.toArray from p) (show s.heap.IsList b its2.toArray from p2.isList) (x := u) (y := u2) (by simpa using hu) (by simpa using hu2) fun h' z' TO' h1' h2' hT hsz hk => ?_
    refine ⟨_, rfl, wpAny_letOwnedTupleGo_zip (s := { s with heap := h' }) z' fun h'' z'' sb => ?_⟩
    have up : ∀ {c : Addr} {o : Obj}, c ≠ z → h'.get? c = some o → h''.get? c = some o := fun {c o} n q => (sb.2 c n).trans q
    have hT2 : h''.get? s.heap.objs.size = some { cls := .type "tuple", data := .seq #[u, u2] } := up (Nat.ne_of_gt hzl) hT
    have new : ObjOk X.prog X.w (upd H s.heap.objs.size (.tup [x, y])) h'' s.heap.objs.size (.tup [x, y]) := ⟨by show 2 ≤ sizeLine; decide, [u, u2], .cons ru (.cons ru2 .nil), ⟨_, hT2, rfl, _, rfl⟩⟩
    have nin : ∀ {c : Addr}, c ∉ [z, TI, TO, i1, i2] → c ≠ z ∧ c ∉ [z, TO, i1, i2] := fun {c} n => by
      simp at n ⊢
      exact ⟨n.1, n.2.2.1, n.2.2.2.1, n.2.2.2.2⟩
    have I1 : Inv X pins σ (upd H s.heap.objs.size (.tup [x, y])) { s with heap := h'' } := I.turnedNew (t' := s.toks) (ch := [z, TI, TO, i1, i2]) (fun c o hb q => up (nin hb).1 (hk c o (nin hb).2 q)) hf (Nat.le_refl _) new
    refine ⟨.ref s.heap.objs.size, _, I1, rfl, ⟨_, x, y, rfl, I.hok.fresh (Nat.le_refl _), rfl, fun l hl => by rw [I.tuple_inj hl hqx]; exact hx, fun l hl => by rw [I.list_inj hl hqy]; exact hy⟩, ⟨z'', ?_, ⟨u, u2, ?_⟩, ?_, ?_⟩, fun c hcm => ?_⟩
    · exact up D.TIz (hk _ _ (by simp [D.TIz, D.TITO, D.TIi1, D.TIi2]) hTI)
    · exact up D.TOz TO'
    · exact kT.at_ h1' fun o q => up D.i1z q
    · exact kL.at_ h2' fun o q => up D.i2z q
    · rw [upd_ne (Nat.ne_of_lt (hlt c hcm))]
      exact (hf c hcm).1
  done := by
    intro X hP hw hK hc i pins s σ H E I hf st hg
    subst hP hw hK
    obtain ⟨hz, hTI, ⟨x0, y0, hTO⟩, h1, h2⟩ := st
    obtain ⟨xs, ys, hqx, hqy, hend⟩ := hg
    obtain ⟨its, rv, p, _⟩ := I.tuple hqx
    obtain ⟨its2, rv2, p2, _⟩ := I.list hqy
    have l1 := rv.length
    have l2 := rv2.length
    have he : its.toArray[i]? = none ∨ its2.toArray[i]? = none := by
      rcases hend with q | q
      · exact .inl (by simp; omega)
      · exact .inr (by simp; omega)
    have nin : ∀ {c : Addr}, c ∉ [z, TI, TO, i1, i2] → c ∉ [z, TO, i1, i2] := fun {c} n => by
      simp at n ⊢
      exact ⟨n.1, n.2.2.1, n.2.2.2.1, n.2.2.2.2⟩
    exact pyNext_end (I := kT) (J := kL) (I.ok.hd hc) D hz hTI hTO h1 h2 (show s.heap.IsTuple a its.toArray from p) (show s.heap.IsList b its2.toArray from p2.isList) he fun h' hk => ⟨rfl, I.turnedL (t' := s.toks) (ch := [z, TI, TO, i1, i2]) (fun c o hb q => hk c o (nin hb) q) hf⟩
  self := fun A i s Q E st h => wpAny_pyIter_zip st.1 h
def iZipM (K : PySem.W.Frag) (ta : TA) : TI := fun σ H R => ta σ H fun vs H1 => ∃ a b xs ys, vs = [.ref a, .ref b] ∧ SqT K H1 a xs ∧ SqL K H1 b ys ∧ R (Itm K a b) H1
theorem pi_zipM {X : Cx} {e e2 : Expr} {ta : TA} {p pos tpos : Pos} {elts : List Expr} {kk : Nat} (hg : Gl X "zip") (hm : X.mg "zip" = none) (ha : PA X [e, e2] ta)
    (hs : starEach [e, e2] X.env = (false, eval e X.env) :: starEach [e2] X.env := by rfl) (hpl : (backTo pos (starEach [e2] X.env)).any (·.1) = false := by rfl) :
    PI X (.Tuple elts kk tpos) (.Call (.Name "zip" p) [e, e2] [] pos) (iZipM X.K ta) := by
  refine ⟨fun pins s σ H R I h => ?_⟩
  refine Call_ (ld_blt I hg hm PyProof.Rows.boot_zip (PyProof.Rows.callWith_type1 (thn (ha.run pos pins s σ H _ I h) fun us s1 ⟨vs, H1, I1, r1, a, b, xs, ys, ex, hqx, hqy, q⟩ => ?_) hs hpl))
  subst ex
  obtain ⟨u, u', rfl, r, r'⟩ : ∃ u u', us = [u, u'] ∧ RelV (.ref a) u ∧ RelV (.ref b) u' := by
    cases r1 with
    | cons r rr => cases rr with
      | cons r' rr =>
        cases rr
        exact ⟨_, _, rfl, r, r'⟩
  cases r
  cases r'
  have fresh5 : ∀ c, c ∈ [s1.heap.objs.size + 4, s1.heap.objs.size + 2, s1.heap.objs.size + 3, s1.heap.objs.size, s1.heap.objs.size + 1] → FpOk X pins H1 c := fun c hcm => by
    have hle : s1.heap.objs.size ≤ c := by
      have e' : c = s1.heap.objs.size + 4 ∨ c = s1.heap.objs.size + 2 ∨ c = s1.heap.objs.size + 3 ∨ c = s1.heap.objs.size ∨ c = s1.heap.objs.size + 1 := by simpa using hcm
      rcases e' with rfl | rfl | rfl | rfl | rfl
      · exact Nat.le_add_right _ _
      · exact Nat.le_add_right _ _
      · exact Nat.le_add_right _ _
      · exact Nat.le_refl _
      · exact Nat.le_add_right _ _
    exact I1.fpOk hle (I1.hok.fresh hle)
  obtain ⟨its, rv, p1, _⟩ := I1.tuple hqx
  obtain ⟨its2, rv2, p2, _⟩ := I1.list hqy
  obtain ⟨o1, ho1, _⟩ := id p1
  refine call_zipM (show s1.heap.IsTuple a its.toArray from p1) p2.isList fun h' hz hTI hTO h1 h2 hk => wpAny_pyIter_zip hz ?_
  have I2 : Inv X pins σ H1 { s1 with heap := h' } := I1.kept (t' := s1.toks) hk
  exact ⟨s1.heap.objs.size + 4, [s1.heap.objs.size + 4, s1.heap.objs.size + 2, s1.heap.objs.size + 3, s1.heap.objs.size, s1.heap.objs.size + 1], _, _, H1, rfl, I2, turn_m (PySem.W.ktu_apart s1.heap.objs.size a b (Heap.lt_size ho1) p2.lt), ⟨hz, hTI, ⟨_, _, hTO⟩, h1, h2⟩, fresh5, q⟩
/-- a loop over zip of a tuple and a list of one length -/
theorem for_zipM {K : PySem.W.Frag} {a b : Addr} {xs ys : List V} {g : TG} {tb : TS} {D : Ends} {σ : L2.St} {H : Hp} (hl : xs.length = ys.length) (Pv : Nat → L2.St → Hp → Prop) (h0 : Pv 0 σ H) (hq : ∀ i σ H, Pv i σ H → SqT K H a xs ∧ SqL K H b ys)
    (hs : ∀ (i : Nat) (x y : V) (T : Addr) (σ : L2.St) (H : Hp), xs[i]? = some x → ys[i]? = some y → Pv i σ H → H T = none → g (.ref T) σ (upd H T (.tup [x, y])) fun σ2 H2 => tb { D with nx := Pv (i + 1), ct := Pv (i + 1), bk := D.nx } σ2 H2) (hd : ∀ σ H, Pv xs.length σ H → D.nx σ H) :
    ∃ W : Nat → Nat → L2.St → Hp → Prop, (∃ m, W 0 m σ H) ∧ ∀ i m σ H, W i m σ H →
      ((Itm K a b).stop i H ∧ D.nx σ H) ∨ ((Itm K a b).go i H ∧ ∃ N : L2.St → Hp → Prop, (∀ σ' H', N σ' H' → ∃ m', m' < m ∧ W (i + 1) m' σ' H') ∧ ∀ v H', (Itm K a b).yld i H v H' → g v σ H' fun σ2 H2 => tb { D with nx := N, ct := N, bk := D.nx } σ2 H2) := by
  refine ⟨fun i m σ H => m = xs.length - i ∧ i ≤ xs.length ∧ Pv i σ H, ⟨_, rfl, Nat.zero_le _, h0⟩, ?_⟩
  rintro i m σ H ⟨rfl, hi, p⟩
  obtain ⟨qx, qy⟩ := hq i σ H p
  by_cases hlt : i < xs.length
  · refine .inr ⟨⟨xs, ys, _, _, qx, qy, List.getElem?_eq_getElem hlt, List.getElem?_eq_getElem (by omega)⟩, Pv (i + 1), fun σ' H' p' => ⟨xs.length - (i + 1), by omega, rfl, hlt, p'⟩, fun v H' ⟨T, x', y', e1, hT, e2, f1, f2⟩ => ?_⟩
    subst e1 e2
    exact hs i x' y' T σ H (f1 xs qx) (f2 ys qy) p hT
  · have e : i = xs.length := by omega
    subst e
    exact .inl ⟨⟨xs, ys, qx, qy, .inl (Nat.le_refl _)⟩, hd σ H p⟩
end SRZ

/-! ### SR12 -/
set_option maxHeartbeats 4000000
namespace SR
open PySem PySem.Spec PyProof.Rows L2 SRR SRN SRZ
/-! ## letter_of -/
abbrev sLetterOf : Stmt := top 26
theorem scLetterOf : FnScope ["one", "other"] ["one", "other"] (defScope sLetterOf) := ⟨rfl, rfl, rfl, by decide +kernel, rfl, by decide +kernel, by decide +kernel⟩
def spLetterOf : Sp := fun vs H Q _ => ∃ i j : Int, vs = [.int i, .int j] ∧ Q (.int (i + 2 * j)) H
/-- the five pairs of three sets -/
def P5 : List (List Nat) := [[0, 1], [1, 0], [1, 2], [2, 1], [0, 2]]
def bitAt (l p : Nat) : Nat := l / 2 ^ p % 2
def let2 (l : Nat) (p : List Nat) : Nat := bitAt l (p.getD 0 0) + 2 * bitAt l (p.getD 1 0)
def dT (A : List (List Nat)) (s : List Nat) (l : Nat) : List Nat := List.zipWith (fun h p => dl A h (let2 l p)) s P5
theorem bit_of {l p : Nat} (hl : l < 8) (hp : p < 3) : Builtin.bitAnd ((l : Int) / 2 ^ ((p : Int)).toNat) 1 = (bitAt l p : Int) := by
  have h : ∀ l : Nat, l < 8 → ∀ p : Nat, p < 3 → Builtin.bitAnd ((l : Int) / 2 ^ ((p : Int)).toNat) 1 = (bitAt l p : Int) := by decide +kernel
  exact h l hl p hp
theorem bitAt_le (l p : Nat) : bitAt l p < 2 := Nat.mod_lt _ (by decide)
theorem let2_lt (l : Nat) (p : List Nat) : let2 l p < 4 := by
  have a := bitAt_le l (p.getD 0 0)
  have b := bitAt_le l (p.getD 1 0)
  unfold let2
  omega
theorem P5_mem {p : List Nat} (h : p ∈ P5) : ∃ x y, p = [x, y] ∧ x < 3 ∧ y < 3 := by
  unfold P5 at h
  simp at h
  rcases h with rfl | rfl | rfl | rfl | rfl <;> exact ⟨_, _, rfl, by decide, by decide⟩
abbrev sThreeBehind : Stmt := top 30
theorem scThreeBehind : FnScope ["rows", "pairs", "state", "letter", "found", "here", "pair", "one", "other"] ["rows", "pairs", "state", "letter"] (defScope sThreeBehind) := ⟨rfl, rfl, rfl, by decide +kernel, rfl, by decide +kernel, by decide +kernel⟩
def spThreeBehind (K : PySem.W.Frag) : Sp := fun vs H Q _ => ∃ (a pa sa : Addr) (A : List (List Nat)) (s : List Nat) (l : Nat), vs = [.ref a, .ref pa, .ref sa, nv l] ∧ RowsAt K H a A ∧ TupsAt H pa P5 ∧ H sa = some (.tup (s.map nv)) ∧ s.length = 5 ∧ (∀ x ∈ s, x < A.length) ∧ OkR A ∧ l < 8 ∧
  ∀ (H' : Hp) (t : Addr), Same H H' → H' t = some (.tup ((dT A s l).map nv)) → Q (.ref t) H'
section
variable {P : Program} {w : World} {K : PySem.W.Frag} {mg : Str → Option Value} {base : Heap}
theorem ok_letterOf {f : Addr} {fd : FuncData} (F : Fun K "letter_of" "letter_of" sLetterOf f fd) (T : Tx K mg) : FnOk P w K mg base CX0 1 f fd ["one", "other"] spLetterOf := by
  refine F.ok scLetterOf (fun vs H Q E h => ?_) (fun cdv A outer s H vs Q E hr h => ?_)
  · obtain ⟨i, j, rfl, _⟩ := h
    rfl
  · obtain ⟨i, j, rfl, k⟩ := h
    refine ⟨_, (pss_one (ps_ret (pe_op op_add (pe_callTy call_int1 (by rfl) T.int (by decide +kernel) (pa_cons (pv 0) (pa_nil))) (pe_op op_mul pe_int (pe_callTy call_int1 (by rfl) T.int (by decide +kernel) (pa_cons (pv 1) (pa_nil))))))), ?_⟩
    refine ⟨_, rfl, .inl ⟨i, rfl, ?_⟩⟩
    refine ⟨_, rfl, .inl ⟨j, rfl, ?_⟩⟩
    refine ⟨2, j, rfl, rfl, .inl (by decide), ?_⟩
    exact ⟨_, _, rfl, rfl, k⟩
theorem ok_threeBehind {f : Addr} {fd : FuncData} (F : Fun K "three_behind" "three_behind" sThreeBehind f fd) (T : Tx K mg) (GL : Fx P w K mg base CX0 1 "letter_of" ["one", "other"] spLetterOf) : FnOk P w K mg base CX0 2 f fd ["rows", "pairs", "state", "letter"] (spThreeBehind K) := by
  refine F.ok scThreeBehind (fun vs H Q E h => ?_) (fun cdv A₀ outer s H vs Q E hr h => ?_)
  · obtain ⟨a, pa, sa, A, s, l, rfl, _⟩ := h
    rfl
  · obtain ⟨a, pa, sa, A, s0, l, rfl, hA, hP, hS, hs5, hsl, okA, hl8, k⟩ := h
    have hu := hu_of hr
    have nd := scThreeBehind.nd
    refine ⟨_,
    (pss_cons (ps_set (i := 4) nd rfl (.inl rfl) (pe_lst pa_nil))
    (pss_cons (ps_for PassesOwn.never rfl (pi_zipM (by rfl) T.zip (pa_cons (pv 2) (pa_cons (pv 1) (pa_nil)))) (pg_tup rfl (pgs_cons (pg_name (i := 5) nd rfl (.inl rfl)) (pgs_cons (pg_name (i := 6) nd rfl (.inl rfl)) pgs_nil))) 
      (pss_cons (ps_asg (pv 6) (pg_tup rfl (pgs_cons (pg_name (i := 7) nd rfl (.inl rfl)) (pgs_cons (pg_name (i := 8) nd rfl (.inl rfl)) pgs_nil))))
      (pss_one (ps_expr (pe_bm PySem.F.plainAttrs_list PySem.F.slot_list_append PySem.F.type_list_append mt_append (pv 4) (pa_cons (pe_ix ix_tup (pe_ix ix_sq (pv 0) (pv 5) (fun _ _ => rfl)) (pe_fx GL hr pass0 (pa_cons (pe_op op_and (pe_op op_shr (pv 3) (pv 7)) pe_int) (pa_cons (pe_op op_and (pe_op op_shr (pv 3) (pv 8)) pe_int) (pa_nil)))) (fun _ _ => rfl)) (pa_nil)))))))
    (pss_one (ps_ret (pe_callTy call_tuple_of (by rfl) T.tuple (by decide +kernel) (pa_cons (pv 4) (pa_nil))))))), ?_⟩
    obtain ⟨ts, hts, htl, htr⟩ := hP
    -- found = []
    refine ⟨by show 0 ≤ sizeLine; decide, fun fo hfo => ?_⟩
    have s1 : Same H (upd H fo (.lst [])) := same_up1 hfo
    refine ⟨_, rfl, _, rfl, sa, pa, s0.map nv, ts.map V.ref, rfl, SqT.of (s1 _ _ hS), SqL.of (s1 _ _ hts), for_zipM (K := K) (a := sa) (b := pa) (xs := s0.map nv) (ys := ts.map V.ref) (by rw [List.length_map, List.length_map, hs5, htl] <;> rfl)
      (fun i σ H' => ∃ v5 v6 v7 v8 : Option V, σ = [some (.ref a), some (.ref pa), some (.ref sa), some (nv l), some (.ref fo), v5, v6, v7, v8] ∧ Same H H' ∧ H' fo = some (.lst (((dT A s0 l).take i).map nv)))
      ⟨_, _, _, _, rfl, s1, upd_same⟩ (fun i σ H' ⟨_, _, _, _, _, m, _⟩ => ⟨SqT.of (m _ _ hS), SqL.of (m _ _ hts)⟩) ?_ ?_⟩
    · rintro i x y TT σ H' hx hy ⟨v5, v6, v7, v8, rfl, m, hf⟩ hT
      obtain ⟨h0, hh0, rfl⟩ : ∃ y, s0[i]? = some y ∧ nv y = x := by
        rw [List.getElem?_map] at hx
        exact Option.map_eq_some_iff.mp hx
      obtain ⟨tp, htp, rfl⟩ : ∃ u, ts[i]? = some u ∧ V.ref u = y := by
        rw [List.getElem?_map] at hy
        exact Option.map_eq_some_iff.mp hy
      have hi5 : i < P5.length := by
        rw [← htl]
        exact (List.getElem?_eq_some_iff.mp htp).1
      obtain ⟨p, hp⟩ : ∃ p, P5[i]? = some p := ⟨P5[i], List.getElem?_eq_getElem hi5⟩
      obtain ⟨p0, p1, rfl, hp0, hp1⟩ := P5_mem (List.mem_of_getElem? hp)
      have htp2 := htr i tp _ htp hp
      have hh0l : h0 < A.length := hsl h0 (List.mem_of_getElem? hh0)
      obtain ⟨r, hr1, hr2, _⟩ := row_item okA hh0l (let2_lt l [p0, p1])
      have m2 : Same H' (upd H' TT (.tup [nv h0, .ref tp])) := same_up1 hT
      have hf2 := m2 _ _ hf
      have hT2 : (upd H' TT (.tup [nv h0, .ref tp])) TT = some (.tup [nv h0, .ref tp]) := upd_same
      generalize upd H' TT (.tup [nv h0, .ref tp]) = H2 at m2 hf2 hT2
      have m3 := m.trans m2
      obtain ⟨xa, ta, ha1, ha2, ha3⟩ := (rows_same m3 hA).item hr1
      refine ⟨TT, _, rfl, SqT.of hT2, rfl, _, _, rfl, _, _, rfl, rfl, ?_⟩
      -- one, other = pair
      refine ⟨_, rfl, tp, _, rfl, SqT.of (m3 _ _ htp2), rfl, _, _, rfl, _, _, rfl, rfl, ?_⟩
      -- found.append(rows[here][letter_of(letter >> one & 1, letter >> other & 1)])
      refine ⟨_, rfl, .inl ⟨rfl, _, SqL.of hf2⟩, _, rfl, _, rfl, a, xa, _, _, rfl, rfl, ha1, at_of rfl ha2, ?_⟩
      refine ⟨_, rfl, _, rfl, _, _, rfl, rfl, Int.natCast_nonneg p0, _, _, rfl, rfl, _, rfl, _, rfl, _, _, rfl, rfl, Int.natCast_nonneg p1, _, _, rfl, rfl, _, _, rfl, ?_⟩
      rw [bit_of hl8 hp0, bit_of hl8 hp1]
      have el : ((bitAt l p0 : Nat) : Int) + 2 * ((bitAt l p1 : Nat) : Int) = ((let2 l [p0, p1] : Nat) : Int) := by
        unfold let2
        simp
      rw [el]
      refine ⟨ta, _, _, _, rfl, rfl, ha3, at_of rfl (map_at hr2), fo, _, _, rfl, rfl, hf2, ?_, ?_⟩
      · rw [List.length_map, List.length_take]
        exact Nat.lt_of_le_of_lt (Nat.le_trans (Nat.min_le_left _ _) (Nat.le_of_lt hi5)) (by decide)
      · refine ⟨_, _, _, _, rfl, same_upd m3 hfo, ?_⟩
        have e : (dT A s0 l)[i]? = some (dl A h0 (let2 l [p0, p1])) := by
          unfold dT
          rw [List.getElem?_zipWith, hh0, hp]
        rw [upd_same, take_succ e, List.map_append] <;> rfl
    · rintro σ H' ⟨v5, v6, v7, v8, rfl, m, hf⟩
      have hl5 : (dT A s0 l).length = 5 := by
        unfold dT
        rw [List.length_zipWith, hs5] <;> rfl
      have ef : (dT A s0 l).take (s0.map nv).length = dT A s0 l := List.take_of_length_le (by rw [hl5, List.length_map, hs5]; exact Nat.le_refl _)
      rw [ef] at hf
      exact ⟨_, rfl, fo, _, rfl, .inl ⟨SqL.of hf, fun t ht => k _ t (same_new m ht) upd_same⟩⟩
end
end SR

/-! ### SR13 -/
set_option maxHeartbeats 4000000
namespace SR
open PySem PySem.Spec PyProof.Rows L2 SRR SRN SRZ
/-! ## lists of bools compared -/
def dB (bs : List Bool) : PyData := .list (bs.map PyData.bool)
theorem dpAllB {K : PySem.W.Frag} {H : Hp} : ∀ bs : List Bool, DpAll K H (bs.map V.bl) (bs.map PyData.bool)
  | [] => .nil
  | b :: bs => .cons (.bl b) (dpAllB bs)
theorem dpB {K : PySem.W.Frag} {H : Hp} {a : Addr} {bs : List Bool} (h : SqL K H a (bs.map V.bl)) : Dp K H (.ref a) (dB bs) := .lst h (dpAllB bs)
theorem eqvAllB : ∀ xs ys : List Bool, PyData.eqvAll (xs.map PyData.bool) (ys.map PyData.bool) = decide (xs = ys)
  | [], [] => by simp [PyData.eqvAll]
  | [], _ :: _ => by simp [PyData.eqvAll]
  | _ :: _, [] => by simp [PyData.eqvAll]
  | x :: xs, y :: ys => by
    have ih := eqvAllB xs ys
    show (PyData.eqv (.bool x) (.bool y) && PyData.eqvAll (xs.map PyData.bool) (ys.map PyData.bool)) = _
    rw [ih]
    cases x <;> cases y <;> simp [PyData.eqv]
theorem eqvB (xs ys : List Bool) : PyData.eqv (dB xs) (dB ys) = decide (xs = ys) := by
  show PyData.eqvAll _ _ = _
  exact eqvAllB xs ys
theorem shB : ∀ bs : List Bool, bs.length = 5 → SeqAt.shaped (dB bs) = true
  | [a, b, c, d, e], _ => by
    cases a <;> cases b <;> cases c <;> cases d <;> cases e <;> decide +kernel
/-! ## the search over five pairs -/
def Z5 : List Nat := [0, 0, 0, 0, 0]
def due5 : List Bool := [false, false, false, false, true]
def flagsOf (F : List Bool) (s : List Nat) : List Bool := s.map fun h => F.getD h false
def W8 (u : List Nat) : Prop := ∀ l ∈ u, l < 8
def allT (n : Nat) : Nat → List (List Nat)
  | 0 => [[]]
  | k + 1 => (List.range n).flatMap fun x => (allT n k).map (x :: ·)
theorem allT_len (n : Nat) : ∀ k, (allT n k).length = n ^ k
  | 0 => rfl
  | k + 1 => by
    unfold allT
    rw [flat_len _ (n ^ k) _ (fun x _ => by rw [List.length_map, allT_len n k]), List.length_range, Nat.pow_succ, Nat.mul_comm]
theorem allT_mem {n : Nat} : ∀ {k : Nat} {s : List Nat}, s.length = k → (∀ x ∈ s, x < n) → s ∈ allT n k
  | 0, [], _, _ => List.mem_singleton.mpr rfl
  | k + 1, x :: s, h, hb => List.mem_flatMap.mpr ⟨x, List.mem_range.mpr (hb x (List.mem_cons_self ..)), List.mem_map.mpr ⟨s, allT_mem (Nat.succ.inj h) (fun y hy => hb y (List.mem_cons_of_mem _ hy)), rfl⟩⟩
abbrev Sh (A : List (List Nat)) (s : List Nat) : Prop := s.length = 5 ∧ ∀ x ∈ s, x < A.length
theorem dT_sh {A : List (List Nat)} (ok : OkR A) {s : List Nat} (h : Sh A s) (l : Nat) : Sh A (dT A s l) := by
  constructor
  · unfold dT
    rw [List.length_zipWith, h.1] <;> rfl
  · intro x hx
    unfold dT at hx
    obtain ⟨i, hi⟩ := List.getElem?_of_mem hx
    rw [List.getElem?_zipWith] at hi
    cases e1 : s[i]? with
    | none => rw [e1] at hi; cases hi
    | some y =>
      cases e2 : P5[i]? with
      | none => rw [e1, e2] at hi; cases hi
      | some p =>
        rw [e1, e2] at hi
        have := Option.some.inj hi
        rw [← this]
        exact ok.lt (h.2 y (List.mem_of_getElem? e1)) (let2_lt l p)
structure BI (A : List (List Nat)) (F : List Bool) (Kn : List (List Nat)) (fr : List (List Nat × List Nat)) : Prop where
  nd : Kn.Nodup
  st : Z5 ∈ Kn
  sh : ∀ s ∈ Kn, Sh A s
  ent : ∀ e ∈ fr, W8 e.2 ∧ run (dT A) e.2 Z5 = e.1 ∧ e.1 ∈ Kn ∧ e.2.length ≤ Kn.length
  done : ∀ s ∈ Kn, (∃ e ∈ fr, e.1 = s) ∨ (flagsOf F s ≠ due5 ∧ ∀ l, l < 8 → dT A s l ∈ Kn)
theorem BI.most {A : List (List Nat)} {F : List Bool} {Kn : List (List Nat)} {fr : List (List Nat × List Nat)} (b : BI A F Kn fr) : Kn.length ≤ A.length ^ 5 := by
  rw [← allT_len]
  exact nodup_sub_len b.nd fun s hs => allT_mem (b.sh s hs).1 (b.sh s hs).2
theorem BI.start {A : List (List Nat)} {F : List Bool} (ok : OkR A) : BI A F [Z5] [(Z5, [])] where
  nd := by simp
  st := List.mem_singleton.mpr rfl
  sh := fun s hs => by
    rw [List.mem_singleton.mp hs]
    refine ⟨rfl, fun x hx => ?_⟩
    have : x = 0 := by
      unfold Z5 at hx
      simp at hx
      exact hx
    rw [this]
    exact ok.pos
  ent := fun e he => by
    rw [List.mem_singleton.mp he]
    exact ⟨(fun _ h => nomatch h), rfl, List.mem_singleton.mpr rfl, Nat.zero_le _⟩
  done := fun s hs => .inl ⟨_, List.mem_singleton.mpr rfl, (List.mem_singleton.mp hs).symm⟩
theorem BI.add {A : List (List Nat)} {F : List Bool} {Kn : List (List Nat)} {L : List (List Nat × List Nat)} {e : List Nat × List Nat} {l : Nat} (ok : OkR A) (b : BI A F Kn L) (he : e ∈ L) (hl : l < 8) (hn : ¬ dT A e.1 l ∈ Kn) : BI A F (Kn ++ [dT A e.1 l]) (L ++ [(dT A e.1 l, e.2 ++ [l])]) := by
  obtain ⟨h1, h2, h3, h4⟩ := b.ent e he
  refine ⟨nodup_snoc b.nd hn, List.mem_append_left _ b.st, fun s hs => ?_, fun e' he' => ?_, fun s hs => ?_⟩
  · rcases List.mem_append.mp hs with q | q
    · exact b.sh s q
    · rw [List.mem_singleton.mp q]
      exact dT_sh ok (b.sh _ h3) l
  · rcases List.mem_append.mp he' with q | q
    · obtain ⟨g1, g2, g3, g4⟩ := b.ent e' q
      exact ⟨g1, g2, List.mem_append_left _ g3, by rw [List.length_append]; omega⟩
    · rw [List.mem_singleton.mp q]
      refine ⟨fun x hx => ?_, by rw [run_snoc, h2], List.mem_append_right _ (List.mem_singleton.mpr rfl), by simp; exact h4⟩
      rcases List.mem_append.mp hx with q | q
      · exact h1 x q
      · rw [List.mem_singleton.mp q]
        exact hl
  · rcases List.mem_append.mp hs with q | q
    · rcases b.done s q with ⟨e', g1, g2⟩ | ⟨g1, g2⟩
      · exact .inl ⟨e', List.mem_append_left _ g1, g2⟩
      · exact .inr ⟨g1, fun l' hl' => List.mem_append_left _ (g2 l' hl')⟩
    · exact .inl ⟨_, List.mem_append_right _ (List.mem_singleton.mpr rfl), (List.mem_singleton.mp q).symm⟩
theorem BI.closed {A : List (List Nat)} {F : List Bool} {Kn : List (List Nat)} {L : List (List Nat × List Nat)} {e : List Nat × List Nat} (b : BI A F Kn (e :: L)) (hb : flagsOf F e.1 ≠ due5) (hc : ∀ l, l < 8 → dT A e.1 l ∈ Kn) : BI A F Kn L :=
  ⟨b.nd, b.st, b.sh, fun e' he' => b.ent e' (List.mem_cons_of_mem _ he'), fun s hs => by
    rcases b.done s hs with ⟨e', g1, g2⟩ | g
    · rcases List.mem_cons.mp g1 with q | q
      · subst q
        subst g2
        exact .inr ⟨hb, hc⟩
      · exact .inl ⟨e', q, g2⟩
    · exact .inr g⟩
theorem BI.none {A : List (List Nat)} {F : List Bool} {Kn : List (List Nat)} (b : BI A F Kn []) : ∀ u, W8 u → flagsOf F (run (dT A) u Z5) ≠ due5 := by
  have h : ∀ s ∈ Kn, flagsOf F s ≠ due5 ∧ ∀ l, l < 8 → dT A s l ∈ Kn := fun s hs => by
    rcases b.done s hs with ⟨_, g1, _⟩ | g
    · cases g1
    · exact g
  have key : ∀ (u s : List Nat), W8 u → s ∈ Kn → run (dT A) u s ∈ Kn := by
    intro u
    induction u with
    | nil => intro s _ hs; exact hs
    | cons l u ih => intro s hu hs; exact ih _ (fun x hx => hu x (List.mem_cons_of_mem _ hx)) ((h s hs).2 l (hu l (List.mem_cons_self ..)))
  exact fun u hu => (h _ (key u Z5 hu b.st)).1
/-! ## its objects -/
def kd5 (Kn : List (List Nat)) : List (List Key × V) := Kn.map fun s => (lk s, V.bl true)
theorem kd5_none {Kn : List (List Nat)} {s : List Nat} (h : ¬ s ∈ Kn) : valV (kd5 Kn) (lk s) = none := by
  cases e : valV (kd5 Kn) (lk s) with
  | none => rfl
  | some v =>
    have m := valV_in e
    unfold kd5 at m
    rw [List.map_map] at m
    obtain ⟨q, hq, e2⟩ := List.mem_map.mp m
    have : q = s := lk_inj e2
    exact absurd (this ▸ hq) h
theorem kd5_some {Kn : List (List Nat)} {s : List Nat} (h : s ∈ Kn) : ∃ v, valV (kd5 Kn) (lk s) = some v := by
  cases e : valV (kd5 Kn) (lk s) with
  | none =>
    refine absurd ?_ (valV_not e)
    unfold kd5
    rw [List.map_map]
    exact List.mem_map.mpr ⟨s, h, rfl⟩
  | some v => exact ⟨v, rfl⟩
theorem kd5_put {Kn : List (List Nat)} {s : List Nat} (h : ¬ s ∈ Kn) : putK (kd5 Kn) (lk s) (.bl true) = kd5 (Kn ++ [s]) := by
  rw [putK_new _ (kd5_none h)]
  unfold kd5
  rw [List.map_append] <;> rfl
theorem kd5_len {Kn : List (List Nat)} : (kd5 Kn).length = Kn.length := by
  unfold kd5
  rw [List.length_map]
def Ent (la : Addr) (H : Hp) (t : Addr) (e : List Nat × List Nat) : Prop := ∃ sa ua : Addr, H t = some (.tup [.ref sa, .ref ua]) ∧ H sa = some (.tup (e.1.map nv)) ∧ H ua = some (.lst (e.2.map nv)) ∧ ua ≠ la
def FrAt (la : Addr) (H : Hp) (a : Addr) (es : List (List Nat × List Nat)) : Prop := ∃ ts : List Addr, H a = some (.lst (ts.map V.ref)) ∧ ts.length = es.length ∧ ∀ (i : Nat) (t : Addr) (e : List Nat × List Nat), ts[i]? = some t → es[i]? = some e → Ent la H t e
theorem Ent.same {la t : Addr} {H H' : Hp} {e : List Nat × List Nat} (s : Same H H') (h : Ent la H t e) : Ent la H' t e := let ⟨sa, ua, h1, h2, h3, h4⟩ := h; ⟨sa, ua, s _ _ h1, s _ _ h2, s _ _ h3, h4⟩
theorem Ent.updD {la t nu : Addr} {H : Hp} {e : List Nat × List Nat} {d d' : List (List Key × V)} (hn : H nu = some (.dT d)) (h : Ent la H t e) : Ent la (upd H nu (.dT d')) t e := by
  obtain ⟨sa, ua, h1, h2, h3, h4⟩ := h
  exact ⟨sa, ua, by rw [upd_ne (ne_of h1 hn (fun z => nomatch z))]; exact h1, by rw [upd_ne (ne_of h2 hn (fun z => nomatch z))]; exact h2, by rw [upd_ne (ne_of h3 hn (fun z => nomatch z))]; exact h3, h4⟩
theorem Ent.updL {la t : Addr} {H : Hp} {e : List Nat × List Nat} {xs : List V} {o : HO} (hn : H la = some (.lst xs)) (h : Ent la H t e) : Ent la (upd H la o) t e := by
  obtain ⟨sa, ua, h1, h2, h3, h4⟩ := h
  exact ⟨sa, ua, by rw [upd_ne (ne_of h1 hn (fun z => nomatch z))]; exact h1, by rw [upd_ne (ne_of h2 hn (fun z => nomatch z))]; exact h2, by rw [upd_ne h4]; exact h3, h4⟩
theorem FrAt.same {la a : Addr} {H H' : Hp} {es : List (List Nat × List Nat)} (s : Same H H') (h : FrAt la H a es) : FrAt la H' a es := let ⟨ts, h1, h2, h3⟩ := h; ⟨ts, s _ _ h1, h2, fun i t e x y => (h3 i t e x y).same s⟩
theorem FrAt.updD {la a nu : Addr} {H : Hp} {es : List (List Nat × List Nat)} {d d' : List (List Key × V)} (hn : H nu = some (.dT d)) (h : FrAt la H a es) : FrAt la (upd H nu (.dT d')) a es :=
  let ⟨ts, h1, h2, h3⟩ := h
  ⟨ts, by rw [upd_ne (ne_of h1 hn (fun z => nomatch z))]; exact h1, h2, fun i t e x y => (h3 i t e x y).updD hn⟩
theorem FrAt.updL {la a : Addr} {H : Hp} {es : List (List Nat × List Nat)} {xs : List V} {o : HO} (hn : H la = some (.lst xs)) (ne : a ≠ la) (h : FrAt la H a es) : FrAt la (upd H la o) a es :=
  let ⟨ts, h1, h2, h3⟩ := h
  ⟨ts, by rw [upd_ne ne]; exact h1, h2, fun i t e x y => (h3 i t e x y).updL hn⟩
theorem FrAt.push {la t : Addr} {H : Hp} {es : List (List Nat × List Nat)} {e : List Nat × List Nat} {xs : List V} (hn : H la = some (.lst xs)) (h : FrAt la H la es) (ht : Ent la H t e) : FrAt la (upd H la (.lst (xs ++ [.ref t]))) la (es ++ [e]) := by
  obtain ⟨ts, h1, h2, h3⟩ := h
  rw [hn] at h1
  have ex : xs = ts.map V.ref := by
    injection h1 with h1
    injection h1
  subst ex
  refine ⟨ts ++ [t], by rw [upd_same, List.map_append] <;> rfl, by rw [List.length_append, List.length_append, h2] <;> rfl, fun i u q hi hq => ?_⟩
  by_cases hl : i < ts.length
  · rw [List.getElem?_append_left hl] at hi
    rw [List.getElem?_append_left (by omega)] at hq
    exact (h3 i u q hi hq).updL hn
  · have hi2 := (List.getElem?_eq_some_iff.mp hi).1
    rw [List.length_append, List.length_singleton] at hi2
    have ei : i = ts.length := by omega
    subst ei
    rw [List.getElem?_append_right (Nat.le_refl _), Nat.sub_self] at hi
    rw [h2, List.getElem?_append_right (Nat.le_refl _), Nat.sub_self] at hq
    have e1 : t = u := Option.some.inj hi
    have e2 : e = q := Option.some.inj hq
    rw [← e1, ← e2]
    exact ht.updL hn
/-- another list to come -/
theorem FrAt.other {la lb a : Addr} {H : Hp} {es : List (List Nat × List Nat)} (hb : H lb = none) (h : FrAt la H a es) : FrAt lb H a es :=
  let ⟨ts, h1, h2, h3⟩ := h
  ⟨ts, h1, h2, fun i t e x y => let ⟨sa, ua, g1, g2, g3, _⟩ := h3 i t e x y; ⟨sa, ua, g1, g2, g3, ne_of_none g3 hb⟩⟩
end SR

/-! ### SR14 -/
set_option maxHeartbeats 4000000
namespace SR
open PySem PySem.Spec PyProof.Rows L2 SRR SRN SRZ
abbrev sThreeSets : Stmt := top 31
theorem scThreeSets : FnScope ["rows", "pairs", "flags", "due", "start", "known", "front", "later", "state", "letters", "letter", "behind", "pair", "here"] ["rows", "pairs", "flags", "due"] (defScope sThreeSets) := ⟨rfl, rfl, rfl, by decide +kernel, rfl, by decide +kernel, by decide +kernel⟩
def spThreeSets (K : PySem.W.Frag) : Sp := fun vs H Q _ => ∃ (a pa fa da : Addr) (A : List (List Nat)) (F : List Bool), vs = [.ref a, .ref pa, .ref fa, .ref da] ∧ RowsAt K H a A ∧ TupsAt H pa P5 ∧ SqL K H fa (F.map V.bl) ∧ H da = some (.lst (due5.map V.bl)) ∧ OkR A ∧ F.length = A.length ∧ A.length ≤ 16 ∧
  (∀ H', Same H H' → (∀ u, W8 u → flagsOf F (run (dT A) u Z5) ≠ due5) → Q .non H') ∧
  ∀ (H' : Hp) (l : Addr) (u : List Nat), Same H H' → H' l = some (.lst (u.map nv)) → u.length ≤ 1048576 → W8 u → flagsOf F (run (dT A) u Z5) = due5 → Q (.ref l) H'
theorem pow16 {n : Nat} (h : n ≤ 16) : n ^ 5 ≤ 1048576 := Nat.le_trans (Nat.pow_le_pow_left h 5) (by decide)
section
variable {P : Program} {w : World} {K : PySem.W.Frag} {mg : Str → Option Value} {base : Heap}
theorem ok_threeSets {f : Addr} {fd : FuncData} (F : Fun K "three_sets" "three_sets" sThreeSets f fd) (T : Tx K mg) (GB : Fx P w K mg base CX0 2 "three_behind" ["rows", "pairs", "state", "letter"] (spThreeBehind K)) : FnOk P w K mg base CX0 3 f fd ["rows", "pairs", "flags", "due"] (spThreeSets K) := by
  refine F.ok scThreeSets (fun vs H Q E h => ?_) (fun cdv A₀ outer s H vs Q E hr h => ?_)
  · obtain ⟨a, pa, fa, da, A, F, rfl, _⟩ := h
    rfl
  · obtain ⟨a, pa, fa, da, A, F, rfl, hA, hP, hF, hD, okA, lF, h16, k0, k1⟩ := h
    have hu := hu_of hr
    have nd := scThreeSets.nd
    refine ⟨_,
    (pss_cons (ps_set (i := 4) nd rfl (.inl rfl) (pe_callTy call_tuple_of (by rfl) T.tuple (by decide +kernel) (pa_cons (pe_lc (own := [("pair", 12)]) rfl nd (pi_list (pv 1)) (blkOk_by (own := [("pair", 12)]) (N := ["rows", "pairs", "flags", "due", "start", "known", "front", "later", "state", "letters", "letter", "behind", "pair", "here"]) (sc := defScope sThreeSets) (by decide +kernel)) (fun _ _ _ _ _ => (pg_name (i := 12) nd rfl (.inl rfl))) (fun _ _ _ _ _ => pts_nil) (fun _ _ _ _ _ => pe_int)) (pa_nil))))
    (pss_cons (ps_set (i := 5) nd rfl (.inl rfl) (pe_disp1T hu (pv 4) pe_bl))
    (pss_cons (ps_set (i := 6) nd rfl (.inl rfl) (pe_lst (pa_cons (pe_tup (pa_cons (pv 4) (pa_cons (pe_lst pa_nil) (pa_nil)))) (pa_nil))))
    (pss_cons (ps_while PassesOwn.never (pt_truth (pv 6) (by intro _; rfl)) 
      (pss_cons (ps_set (i := 7) nd rfl (.inl rfl) (pe_lst pa_nil))
      (pss_cons (ps_for PassesOwn.never rfl (pi_list (pv 6)) (pg_tup rfl (pgs_cons (pg_name (i := 8) nd rfl (.inl rfl)) (pgs_cons (pg_name (i := 9) nd rfl (.inl rfl)) pgs_nil))) 
        (pss_cons (ps_if (pt_cmpR (op_eqD hr.units) (pe_lc (own := [("here", 13)]) rfl nd (pi_tup (pv 8)) (blkOk_by (own := [("here", 13)]) (N := ["rows", "pairs", "flags", "due", "start", "known", "front", "later", "state", "letters", "letter", "behind", "pair", "here"]) (sc := defScope sThreeSets) (by decide +kernel)) (fun _ _ _ _ _ => (pg_name (i := 13) nd rfl (.inl rfl))) (fun _ _ _ _ _ => pts_nil) (fun _ _ _ _ _ => (pe_callTy call_bool1 (by rfl) T.bool (by decide +kernel) (pa_cons (pe_ix (ix_listK K) (pv 2) (pv 13) (fun _ _ => rfl)) (pa_nil))))) (pv 3) (nomark _)) 
          (pss_one (ps_ret (pv 9))) pss_nil)
        (pss_one (ps_for PassesOwn.never rfl (pi_range1 rfl T.range (pa_cons pe_int (pa_nil))) (pg_name (i := 10) nd rfl (.inl rfl)) 
          (pss_cons (ps_set (i := 11) nd rfl (.inl rfl) (pe_fx GB hr pass0 (pa_cons (pv 0) (pa_cons (pv 1) (pa_cons (pv 8) (pa_cons (pv 10) (pa_nil)))))))
          (pss_one (ps_if (pt_cmp (pc_dnotin hu (pv 11) (pv 5))) 
            (pss_cons (ps_dput hu (pv 5) (pv 11) pe_bl rfl)
            (pss_one (ps_expr (pe_bm PySem.F.plainAttrs_list PySem.F.slot_list_append PySem.F.type_list_append mt_append (pv 7) (pa_cons (pe_tup (pa_cons (pv 11) (pa_cons (pe_op op_cat (pv 9) (pe_lst (pa_cons (pv 10) (pa_nil)))) (pa_nil)))) (pa_nil)))))) pss_nil)))))))
      (pss_one (ps_set (i := 6) nd rfl (.inl rfl) (pv 7))))))
    (pss_one (ps_ret pe_non)))))), ?_⟩
    have hPr := hP
    obtain ⟨ps, hps, hpl, hpt⟩ := hP
    -- start = tuple([0 for pair in pairs])
    refine ⟨_, rfl, pa, rfl, ⟨_, SqL.of hps⟩, fun D hDn => ?_⟩
    refine lc_list (K := K) (a := pa) (xs := ps.map V.ref) (MI H D (Z5.map nv)) (.start hDn) (fun i H2 _ m => SqL.of (m.1 _ _ hps)) ?_ ?_
    · intro i v H2 hi m
      have hi5 : i < 5 := by
        have := (List.getElem?_eq_some_iff.mp hi).1
        rw [List.length_map, hpl] at this
        exact this
      refine ⟨rfl, tyesT (m.step (y := nv 0) ?_ hDn (by show 5 ≤ sizeLine; decide))⟩
      match i, hi5 with
      | 0, _ => rfl
      | 1, _ => rfl
      | 2, _ => rfl
      | 3, _ => rfl
      | 4, _ => rfl
    intro H1 m0
    obtain ⟨s1, hD1⟩ := m0.fin (by rw [List.length_map, List.length_map, hpl] <;> rfl)
    refine ⟨D, _, rfl, .inl ⟨SqL.of hD1, fun st hst => ?_⟩⟩
    have s2 := same_new (o := .tup (Z5.map nv)) s1 hst
    have hst2 : (upd H1 st (.tup (Z5.map nv))) st = some (.tup (Z5.map nv)) := upd_same
    generalize upd H1 st (.tup (Z5.map nv)) = H2 at s2 hst2
    -- known = {start: True}
    refine fun nu hnu => ⟨_, rfl, st, lk Z5, rfl, upd_same, by rw [upd_ne (ne_of_none hst2 hnu), lk_tup]; exact hst2, ?_⟩
    have hnu0 : H nu = none := s2.free hnu
    have s3 := same_upd (o := .dT [(lk Z5, V.bl true)]) (same_new (o := .dT []) s2 hnu) hnu0
    have hnu3 : (upd (upd H2 nu (.dT [])) nu (.dT [(lk Z5, V.bl true)])) nu = some (.dT (kd5 [Z5])) := upd_same
    have hst3 : (upd (upd H2 nu (.dT [])) nu (.dT [(lk Z5, V.bl true)])) st = some (.tup (Z5.map nv)) := by rw [upd_ne (ne_of_none hst2 hnu), upd_ne (ne_of_none hst2 hnu)]; exact hst2
    generalize upd (upd H2 nu (.dT [])) nu (.dT [(lk Z5, V.bl true)]) = H3 at s3 hnu3 hst3
    -- front = [(start, [])]
    refine ⟨_, rfl, by show 0 ≤ sizeLine; decide, fun l0 hl0 => ⟨by show 2 ≤ sizeLine; decide, fun t0 ht0 => ⟨by show 1 ≤ sizeLine; decide, fun fr hfr => ?_⟩⟩⟩
    have ht0' := upd_none ht0
    have hfr' := upd_none hfr
    have hfr'' := upd_none hfr'.2
    have s4 := same_new (o := .lst [.ref t0]) (same_new (o := .tup [.ref st, .ref l0]) (same_new (o := .lst []) s3 hl0) ht0) hfr
    have hnu4 : (upd (upd (upd H3 l0 (.lst [])) t0 (.tup [.ref st, .ref l0])) fr (.lst [.ref t0])) nu = some (.dT (kd5 [Z5])) := by
      rw [upd_ne (ne_of_none hnu3 hfr''.2), upd_ne (ne_of_none hnu3 ht0'.2), upd_ne (ne_of_none hnu3 hl0)]
      exact hnu3
    have X0 : FrAt fr (upd (upd (upd H3 l0 (.lst [])) t0 (.tup [.ref st, .ref l0])) fr (.lst [.ref t0])) fr [(Z5, [])] := by
      refine ⟨[t0], upd_same, rfl, fun i t e hi he => ?_⟩
      match i with
      | 0 =>
        have e1 : t0 = t := Option.some.inj hi
        have e2 : (Z5, []) = e := Option.some.inj he
        subst e1 e2
        refine ⟨st, l0, by rw [upd_ne hfr'.1.symm, upd_same], ?_, ?_, hfr''.1.symm⟩
        · rw [upd_ne (ne_of_none hst3 hfr''.2), upd_ne (ne_of_none hst3 ht0'.2), upd_ne (ne_of_none hst3 hl0)]
          exact hst3
        · rw [upd_ne hfr''.1.symm, upd_ne ht0'.1.symm, upd_same] <;> rfl
      | i + 1 => cases hi
    generalize upd (upd (upd H3 l0 (.lst [])) t0 (.tup [.ref st, .ref l0])) fr (.lst [.ref t0]) = H4 at s4 hnu4 X0
    -- while front
    refine ⟨fun m σ H' => ∃ (Kn : List (List Nat)) (es : List (List Nat × List Nat)) (fr lb : Addr) (v7 v8 v9 v10 v11 v12 v13 : Option V), σ = [some (.ref a), some (.ref pa), some (.ref fa), some (.ref da), some (.ref st), some (.ref nu), some (.ref fr), v7, v8, v9, v10, v11, v12, v13] ∧
      m = 1048576 - Kn.length + (if es = [] then 0 else 1) ∧ Same H H' ∧ H' nu = some (.dT (kd5 Kn)) ∧ FrAt lb H' fr es ∧ BI A F Kn es, ⟨_, [Z5], [(Z5, [])], fr, fr, _, _, _, _, _, _, _, rfl, rfl, s4, hnu4, X0, BI.start okA⟩, ?_⟩
    rintro m σ H' ⟨Kn, es, fr, lb, v7, v8, v9, v10, v11, v12, v13, rfl, rfl, s5, hnu5, X, B⟩
    have hKn := Nat.le_trans B.most (pow16 h16)
    obtain ⟨ts, hts, htl, hte⟩ := id X
    refine ⟨_, rfl, _, .inl ⟨_, SqL.of hts, rfl⟩, ?_⟩
    refine ite2 (fun hc => ⟨_, fun _ _ z => z, ?_⟩) (fun hc => ?_)
    · have hne : es ≠ [] := fun z => by
        subst z
        have : ts = [] := List.eq_nil_of_length_eq_zero htl
        subst this
        exact absurd hc (by simp)
      -- later = []
      refine ⟨by show 0 ≤ sizeLine; decide, fun la hla => ?_⟩
      have hla0 : H la = none := s5.free hla
      have m6 := same_up1 (o := .lst []) hla
      have hnl : nu ≠ la := fun z => by rw [← z, hnu5] at hla; cases hla
      have hfl : fr ≠ la := fun z => by rw [← z, hts] at hla; cases hla
      have hte6 : ∀ (i : Nat) (t : Addr) (e : List Nat × List Nat), ts[i]? = some t → es[i]? = some e → Ent la (upd H' la (.lst [])) t e := fun i t e x y => by
        obtain ⟨sa, ua, g1, g2, g3, _⟩ := hte i t e x y
        exact ⟨sa, ua, m6 _ _ g1, m6 _ _ g2, m6 _ _ g3, ne_of_none g3 hla⟩
      -- for state, letters in front
      refine ⟨_, rfl, fr, rfl, ⟨_, SqL.of (m6 _ _ hts)⟩, for_list (K := K) (a := fr) (xs := ts.map V.ref) (fun i σ' H6 => ∃ (Kn2 : List (List Nat)) (lt : List (List Nat × List Nat)) (v8 v9 v10 v11 v12 v13 : Option V), σ' = [some (.ref a), some (.ref pa), some (.ref fa), some (.ref da), some (.ref st), some (.ref nu), some (.ref fr), some (.ref la), v8, v9, v10, v11, v12, v13] ∧
        Same H H6 ∧ H6 nu = some (.dT (kd5 Kn2)) ∧ H6 fr = some (.lst (ts.map V.ref)) ∧ (∀ (i : Nat) (t : Addr) (e : List Nat × List Nat), ts[i]? = some t → es[i]? = some e → Ent la H6 t e) ∧ FrAt la H6 la lt ∧ BI A F Kn2 (es.drop i ++ lt) ∧ Kn.length + lt.length ≤ Kn2.length)
        ⟨Kn, [], _, _, _, _, _, _, rfl, same_new s5 hla, m6 _ _ hnu5, m6 _ _ hts, hte6, ⟨[], upd_same, rfl, fun i t e x y => by cases x⟩, by rw [List.drop_zero, List.append_nil]; exact B, Nat.le_refl _⟩ (fun i σ' H6 _ ⟨_, _, _, _, _, _, _, _, _, _, _, q, _⟩ => SqL.of q) ?_ ?_⟩
      · rintro i v σ' H6 hi ⟨Kn2, lt, v8, v9, v10, v11, v12, v13, rfl, s6, hnu6, hfr6, hte7, Y, B2, hKl⟩
        obtain ⟨tt, htt, rfl⟩ : ∃ u, ts[i]? = some u ∧ V.ref u = v := by
          rw [List.getElem?_map] at hi
          exact Option.map_eq_some_iff.mp hi
        have hie : i < es.length := by
          rw [← htl]
          exact (List.getElem?_eq_some_iff.mp htt).1
        obtain ⟨e0, he0⟩ : ∃ e, es[i]? = some e := ⟨es[i], List.getElem?_eq_getElem hie⟩
        have hdrop : es.drop i = e0 :: es.drop (i + 1) := by
          rw [List.drop_eq_getElem_cons hie]
          have : es[i] = e0 := Option.some.inj ((List.getElem?_eq_getElem hie).symm.trans he0)
          rw [this]
        obtain ⟨sa, ua, g1, g2, g3, g4⟩ := hte7 i tt e0 htt he0
        have hmem : e0 ∈ es.drop i ++ lt := by
          rw [hdrop]
          exact List.mem_append_left _ (List.mem_cons_self ..)
        obtain ⟨b1, b2, b3, b4⟩ := B2.ent e0 hmem
        obtain ⟨hs5, hsb⟩ := B2.sh _ b3
        refine ⟨tt, _, rfl, SqT.of g1, rfl, _, _, rfl, _, _, rfl, rfl, ?_⟩
        -- if [bool(flags[here]) for here in state] == due
        refine ⟨_, rfl, sa, rfl, ⟨_, SqT.of g2⟩, fun D hDn => ?_⟩
        refine lc_tup (K := K) (a := sa) (xs := e0.1.map nv) (MI H6 D ((flagsOf F e0.1).map V.bl)) (.start hDn) (fun i H2 _ m => SqT.of (m.1 _ _ g2)) ?_ ?_
        · intro i2 v H7 hi2 m
          obtain ⟨x, hx, rfl⟩ : ∃ y, e0.1[i2]? = some y ∧ nv y = v := by
            rw [List.getElem?_map] at hi2
            exact Option.map_eq_some_iff.mp hi2
          have hxF : x < F.length := by
            rw [lF]
            exact hsb x (List.mem_of_getElem? hx)
          have e1 : F[x]? = some F[x] := List.getElem?_eq_getElem hxF
          refine ⟨rfl, tyesT ⟨_, rfl, _, rfl, fa, _, _, _, rfl, rfl, (s6.trans m.1).seq hF, at_of rfl (map_at e1), .inr ⟨F[x], rfl, m.step ?_ hDn ?_⟩⟩⟩
          · rw [← getD_of (d := false) e1]
            exact map_at (map_at (f := fun h => F.getD h false) hx)
          · unfold flagsOf
            rw [List.length_map, List.length_map, hs5]
            decide
        intro H7 m0
        obtain ⟨s7, hD7⟩ := m0.fin (by unfold flagsOf; rw [List.length_map, List.length_map, List.length_map])
        have hl5 : (flagsOf F e0.1).length = 5 := by
          unfold flagsOf
          rw [List.length_map, hs5]
        refine ⟨_, rfl, dB (flagsOf F e0.1), dB due5, dpB (SqL.of hD7), dpB (SqL.of ((s6.trans s7) _ _ hD)), shB _ hl5, shB _ rfl, _, rfl, ?_⟩
        rw [eqvB]
        refine ite2 (fun hq => ?_) (fun hq => ?_)
        · have hbad := of_decide_eq_true hq
          exact ⟨_, rfl, k1 H7 ua e0.2 (s6.trans s7) (s7 _ _ g3) (Nat.le_trans b4 (Nat.le_trans B2.most (pow16 h16))) b1 (by rw [b2]; exact hbad)⟩
        have hgood : flagsOf F e0.1 ≠ due5 := fun z => hq (decide_eq_true z)
        -- for letter in range(8)
        refine ⟨8, rfl, by decide, by decide, for_range (lo := 0) (n := 8) (fun l σ' H8 => ∃ (Kn3 : List (List Nat)) (lt2 : List (List Nat × List Nat)) (v10 v11 : Option V), σ' = [some (.ref a), some (.ref pa), some (.ref fa), some (.ref da), some (.ref st), some (.ref nu), some (.ref fr), some (.ref la), some (.ref sa), some (.ref ua), v10, v11, v12, v13] ∧
          Same H H8 ∧ H8 nu = some (.dT (kd5 Kn3)) ∧ H8 fr = some (.lst (ts.map V.ref)) ∧ (∀ (i : Nat) (t : Addr) (e : List Nat × List Nat), ts[i]? = some t → es[i]? = some e → Ent la H8 t e) ∧ FrAt la H8 la lt2 ∧ BI A F Kn3 (es.drop i ++ lt2) ∧ Kn.length + lt2.length ≤ Kn3.length ∧
          H8 sa = some (.tup (e0.1.map nv)) ∧ H8 ua = some (.lst (e0.2.map nv)) ∧ ∀ l', l' < l → dT A e0.1 l' ∈ Kn3)
          ⟨Kn2, lt, _, _, rfl, s6.trans s7, s7 _ _ hnu6, s7 _ _ hfr6, fun i t e x y => (hte7 i t e x y).same s7, Y.same s7, B2, hKl, s7 _ _ g2, s7 _ _ g3, fun l' hl' => absurd hl' (Nat.not_lt_zero _)⟩ ?_ ?_⟩
        · rintro l σ' H8 hl8 ⟨Kn3, lt2, v10, v11, rfl, s8, hnu8, hfr8, hte8, Y8, B3, hKl3, h8s, h8u, hdone⟩
          have hl8' : l < 8 := hl8
          have el : (0 : Int) + (l : Int) = (l : Int) := by omega
          have hK3 := Nat.le_trans B3.most (pow16 h16)
          have hmem3 : e0 ∈ es.drop i ++ lt2 := by
            rw [hdrop]
            exact List.mem_append_left _ (List.mem_cons_self ..)
          -- behind = three_behind(rows, pairs, state, letter)
          refine ⟨_, rfl, _, rfl, _, rfl, _, rfl, a, pa, sa, A, e0.1, l, (by rw [el] <;> rfl), rows_same s8 hA, hPr.same s8, h8s, hs5, hsb, okA, hl8', fun H9 be s9 hbe => ?_⟩
          have hq : H9 be = some (.tup ((lk (dT A e0.1 l)).map kV)) := by rw [lk_tup]; exact hbe
          -- if behind not in known
          refine ⟨_, rfl, _, rfl, nu, _, rfl, DGet.t (s9 _ _ hnu8) hq, _, rfl, ?_⟩
          by_cases hm : dT A e0.1 l ∈ Kn3
          · obtain ⟨v, hv⟩ := kd5_some hm
            rw [hv]
            refine iteF ?_
            refine ⟨Kn3, lt2, _, _, rfl, s8.trans s9, s9 _ _ hnu8, s9 _ _ hfr8, fun i t e x y => (hte8 i t e x y).same s9, Y8.same s9, B3, hKl3, s9 _ _ h8s, s9 _ _ h8u, fun l' hl' => ?_⟩
            by_cases q : l' = l
            · rw [q]
              exact hm
            · exact hdone l' (by omega)
          · rw [kd5_none hm]
            refine iteT ?_
            have hnu9 := s9 _ _ hnu8
            refine ⟨_, rfl, _, rfl, nu, _, rfl, DPut.t hnu9 hq (by rw [kd5_len]; exact Nat.lt_of_le_of_lt hK3 (by decide)), ?_⟩
            rw [kd5_put hm]
            have s10 : Same H (upd H9 nu (.dT (kd5 (Kn3 ++ [dT A e0.1 l])))) := same_upd (s8.trans s9) hnu0
            have Y10 := (Y8.same s9).updD (d' := kd5 (Kn3 ++ [dT A e0.1 l])) hnu9
            have hte10 : ∀ (i : Nat) (t : Addr) (e : List Nat × List Nat), ts[i]? = some t → es[i]? = some e → Ent la (upd H9 nu (.dT (kd5 (Kn3 ++ [dT A e0.1 l])))) t e := fun i t e x y => ((hte8 i t e x y).same s9).updD hnu9
            have h10s : (upd H9 nu (.dT (kd5 (Kn3 ++ [dT A e0.1 l])))) sa = some (.tup (e0.1.map nv)) := by rw [upd_ne (ne_of (s9 _ _ h8s) hnu9 (fun z => nomatch z))]; exact s9 _ _ h8s
            have h10u : (upd H9 nu (.dT (kd5 (Kn3 ++ [dT A e0.1 l])))) ua = some (.lst (e0.2.map nv)) := by rw [upd_ne (ne_of (s9 _ _ h8u) hnu9 (fun z => nomatch z))]; exact s9 _ _ h8u
            have h10f : (upd H9 nu (.dT (kd5 (Kn3 ++ [dT A e0.1 l])))) fr = some (.lst (ts.map V.ref)) := by rw [upd_ne (ne_of (s9 _ _ hfr8) hnu9 (fun z => nomatch z))]; exact s9 _ _ hfr8
            have h10b : (upd H9 nu (.dT (kd5 (Kn3 ++ [dT A e0.1 l])))) be = some (.tup ((dT A e0.1 l).map nv)) := by rw [upd_ne (ne_of hbe hnu9 (fun z => nomatch z))]; exact hbe
            have h10n : (upd H9 nu (.dT (kd5 (Kn3 ++ [dT A e0.1 l])))) nu = some (.dT (kd5 (Kn3 ++ [dT A e0.1 l]))) := upd_same
            generalize upd H9 nu (.dT (kd5 (Kn3 ++ [dT A e0.1 l]))) = H10 at s10 Y10 hte10 h10s h10u h10f h10b h10n
            obtain ⟨us, hus, hul, _⟩ := id Y10
            have hB := (B3.ent e0 hmem3).2.2.2
            have hlen2 : lt2.length ≤ 1048576 := by omega
            -- later.append((behind, letters + [letter]))
            refine ⟨_, rfl, .inl ⟨rfl, _, SqL.of hus⟩, _, rfl, _, rfl, _, rfl, by show 1 ≤ sizeLine; decide, fun p1 hp1 => ?_⟩
            have m11 := same_up1 (o := .lst [.int (0 + (l : Int))]) hp1
            refine ⟨ua, p1, _, _, rfl, rfl, m11 _ _ h10u, upd_same, ?_, fun p2 hp2 => ?_⟩
            · rw [List.length_map]
              show e0.2.length + 1 ≤ sizeLine
              exact Nat.le_trans (by omega : e0.2.length + 1 ≤ 1048577) (by decide)
            have m12 := same_new (o := .lst (e0.2.map nv ++ [.int (0 + (l : Int))])) m11 hp2
            have hp22 : (upd (upd H10 p1 (.lst [.int (0 + (l : Int))])) p2 (.lst (e0.2.map nv ++ [.int (0 + (l : Int))]))) p2 = some (.lst ((e0.2 ++ [l]).map nv)) := by
              rw [upd_same, List.map_append, el] <;> rfl
            have hp2n : H10 p2 = none := m11.free hp2
            generalize upd (upd H10 p1 (.lst [.int (0 + (l : Int))])) p2 (.lst (e0.2.map nv ++ [.int (0 + (l : Int))])) = H11 at m12 hp22
            refine ⟨by show 2 ≤ sizeLine; decide, fun p3 hp3 => ?_⟩
            have m13 := same_new (o := .tup [.ref be, .ref p2]) m12 hp3
            have ent13 : Ent la (upd H11 p3 (.tup [.ref be, .ref p2])) p3 (dT A e0.1 l, e0.2 ++ [l]) := by
              refine ⟨be, p2, upd_same, ?_, ?_, ne_of_none hus hp2n |>.symm⟩
              · exact m13 _ _ h10b
              · rw [upd_ne (ne_of_none hp22 hp3)]
                exact hp22
            generalize upd H11 p3 (.tup [.ref be, .ref p2]) = H12 at m13 ent13
            have hus12 := m13 _ _ hus
            refine ⟨la, _, _, rfl, rfl, hus12, ?_, ?_⟩
            · rw [List.length_map, hul]
              exact Nat.lt_of_le_of_lt hlen2 (by decide)
            have hmv : ∀ {x : Addr} {o : HO}, H10 x = some o → x ≠ la → (upd H12 la (.lst (us.map V.ref ++ [.ref p3]))) x = some o := fun {x o} q n => by
              rw [upd_ne n]
              exact m13 _ _ q
            have B4 := B3.add okA hmem3 hl8' hm
            rw [List.append_assoc] at B4
            refine ⟨Kn3 ++ [dT A e0.1 l], lt2 ++ [(dT A e0.1 l, e0.2 ++ [l])], _, _, rfl, same_upd (s10.trans m13) hla0, hmv h10n hnl, hmv h10f hfl, fun i t e x y => ((hte10 i t e x y).same m13).updL hus12, (Y10.same m13).push hus12 ent13, B4, ?_, hmv h10s (ne_of h10s hus (fun z => nomatch z)), hmv h10u g4, fun l' hl' => ?_⟩
            · rw [List.length_append, List.length_append, List.length_singleton, List.length_singleton]
              omega
            · by_cases q : l' = l
              · rw [q]
                exact List.mem_append_right _ (List.mem_singleton.mpr rfl)
              · exact List.mem_append_left _ (hdone l' (by omega))
        · rintro σ' H8 ⟨Kn3, lt2, v10, v11, rfl, s8, hnu8, hfr8, hte8, Y8, B3, hKl3, h8s, h8u, hdone⟩
          rw [hdrop] at B3
          exact ⟨Kn3, lt2, _, _, _, _, _, _, rfl, s8, hnu8, hfr8, hte8, Y8, B3.closed hgood (fun l hl => hdone l hl), hKl3⟩
      · -- front = later
        rintro σ' H6 ⟨Kn2, lt, v8, v9, v10, v11, v12, v13, rfl, s6, hnu6, hfr6, hte7, Y, B2, hKl⟩
        rw [List.length_map, htl, List.drop_length, List.nil_append] at B2
        have hK2 := Nat.le_trans B2.most (pow16 h16)
        refine ⟨_, rfl, 1048576 - Kn2.length + (if lt = [] then 0 else 1), ?_, Kn2, lt, la, la, _, _, _, _, _, _, _, rfl, rfl, s6, hnu6, Y, B2⟩
        rw [if_neg hne]
        by_cases z : lt = []
        · rw [if_pos z]
          omega
        · rw [if_neg z]
          have : 0 < lt.length := List.length_pos_iff.mpr z
          omega
    · have he : es = [] := by
        have : ts = [] := by simpa using hc
        rw [this] at htl
        exact List.eq_nil_of_length_eq_zero htl.symm
      subst he
      exact k0 _ s5 B.none
end
end SR

/-! ### SR15 -/
set_option maxHeartbeats 4000000
namespace SR
open PySem PySem.Spec PyProof.Rows L2 SRR SRN SRZ
/-! ## sets_of -/
theorem pi_enumK {X : Cx} (K : PySem.W.Frag) {e : Expr} {ta : TA} {p pos tpos : Pos} {elts : List Expr} {kk : Nat} (hK : X.K = K) (hg : Gl X "enumerate") (hm : X.mg "enumerate" = none) (ha : PA X [e] ta) (hs : starEach [e] X.env = [(false, eval e X.env)] := by rfl) :
    PI X (.Tuple elts kk tpos) (.Call (.Name "enumerate" p) [e] [] pos) (iEnum K ta) := by
  subst hK
  exact pi_enum hg hm ha hs
def tTru (K : PySem.W.Frag) (ta : TE) : TT := fun σ H Q => ta σ H fun x H' => ∃ k, TruV K x H' k ∧ Q k H'
theorem pt_truthK {X : Cx} (K : PySem.W.Frag) {a : Expr} {ta : TE} (hK : X.K = K) (ha : PE X a ta) (he : ∀ whole, isTrue a X.env whole = (do let v ← whole; standAt a.pos; holding [v] (truthy v))) :
    PT X a (tTru K ta) := by
  subst hK
  exact pt_truth ha he
theorem lc_enum {K : PySem.W.Frag} {a : Addr} {xs : List V} {g : TG} {tt : TT} {te : TE} {vs : List Nat} {σ : L2.St} {H1 : Hp} {D : Addr} {Qd : Hp → Prop} (Pv : Nat → Hp → Prop) (h0 : Pv 0 (upd H1 D (.lst []))) (hl : ∀ i H, i ≤ xs.length → Pv i H → SqL K H a xs)
    (hs : ∀ i x T H, xs[i]? = some x → Pv i H → H T = none → g (.ref T) (wipe σ vs) (upd H T (.tup [.int (i : Nat), x])) fun σ2 H2 => wipe σ2 vs = wipe σ vs ∧ tt σ2 H2 fun b H3 =>
      if b = true then te σ2 H3 fun y H4 => ∃ acc, H4 D = some (.lst acc) ∧ acc.length < sizeLine ∧ Pv (i + 1) (upd H4 D (.lst (acc ++ [y]))) else Pv (i + 1) H3) (hd : ∀ H, Pv xs.length H → Qd H) :
    ∃ W : Nat → Nat → Hp → Prop, (∃ m, W 0 m (upd H1 D (.lst []))) ∧ ∀ i m H, W i m H →
      ((Ite K a).stop i H ∧ Qd H) ∨ ((Ite K a).go i H ∧ ∃ Nx : Hp → Prop, (∀ H', Nx H' → ∃ m', m' < m ∧ W (i + 1) m' H') ∧ ∀ x H', (Ite K a).yld i H x H' → g x (wipe σ vs) H' fun σ2 H2 => wipe σ2 vs = wipe σ vs ∧ tt σ2 H2 fun b H3 =>
        if b = true then te σ2 H3 fun y H4 => ∃ acc, H4 D = some (.lst acc) ∧ acc.length < sizeLine ∧ Nx (upd H4 D (.lst (acc ++ [y]))) else Nx H3) := by
  refine ⟨fun i m H => m = xs.length - i ∧ i ≤ xs.length ∧ Pv i H, ⟨xs.length, by simp, Nat.zero_le _, h0⟩, ?_⟩
  rintro i m H ⟨rfl, hi, p⟩
  have q := hl i H hi p
  by_cases hlt : i < xs.length
  · refine .inr ⟨⟨xs, xs[i], q, by simp [hlt]⟩, Pv (i + 1), fun H' p' => ⟨xs.length - (i + 1), by omega, rfl, hlt, p'⟩, fun v H' ⟨T, x, e1, hT, e2, hx⟩ => ?_⟩
    subst e1 e2
    exact hs i x T H (hx xs q) p hT
  · have e : i = xs.length := by omega
    subst e
    exact .inl ⟨⟨xs, q, Nat.le_refl _⟩, hd H p⟩
abbrev sSetsOf : Stmt := top 28
theorem scSetsOf : FnScope ["letters", "many", "place", "step", "letter"] ["letters", "many"] (defScope sSetsOf) := ⟨rfl, rfl, rfl, by decide +kernel, rfl, by decide +kernel, by decide +kernel⟩
abbrev scOuterSO : Scope := { kind := .function, names := [(".0", .local), ("place", .cell), ("enumerate", .globalImplicit), ("letters", .cell)], isGenerator := false, isCoroutine := false }
def spSetsOf (K : PySem.W.Frag) : Sp := fun vs H Q _ => ∃ (a : Addr) (u : List Nat), vs = [.ref a, .int 3] ∧ H a = some (.lst (u.map nv)) ∧ u.length ≤ 1048576 ∧ ∀ (H' : Hp) (p : Addr), Same H H' → Q (.ref p) H'
section
variable {P : Program} {w : World} {K : PySem.W.Frag} {mg : Str → Option Value} {base : Heap}
theorem ok_setsOf {f : Addr} {fd : FuncData} (F : Fun K "sets_of" "sets_of" sSetsOf f fd) (T : Tx K mg) : FnOk P w K mg base CX0 1 f fd ["letters", "many"] (spSetsOf K) := by
  refine F.ok scSetsOf (fun vs H Q E h => ?_) (fun cdv A₀ outer s H vs Q E hr h => ?_)
  · obtain ⟨a, u, rfl, _⟩ := h
    rfl
  · obtain ⟨a, u, rfl, ha, hz, k⟩ := h
    have nd := scSetsOf.nd
    refine ⟨_,
    (pss_one (ps_ret (pe_lc (own := [("place", 2)]) rfl nd (pi_range1 rfl T.range (pa_cons (pv 1) (pa_nil))) (blkOk_by (own := [("place", 2)]) (N := ["letters", "many", "place", "step", "letter"]) (sc := defScope sSetsOf) (by decide +kernel)) (fun _ _ _ _ _ => (pg_name (i := 2) nd rfl (.inr rfl))) (fun _ _ _ _ _ => pts_nil) (fun _ _ _ _ _ => (pe_lc (own := [("step", 3), ("letter", 4)]) rfl nd (pi_enumK K rfl (by rfl) T.enumerate (pa_cons (pv 0) (pa_nil))) (blkOk_by (own := [("step", 3), ("letter", 4)]) (N := ["letters", "many", "place", "step", "letter"]) (sc := scOuterSO) (by decide +kernel)) (fun _ _ _ _ _ => (pg_tupK K 2 rfl rfl (pgs_cons (pg_name (i := 3) nd rfl (.inl rfl)) (pgs_cons (pg_name (i := 4) nd rfl (.inl rfl)) pgs_nil)))) (fun _ _ _ _ _ => (pts_one (pt_truthK K rfl (pe_op op_and (pe_op op_shr (pv 4) (pv 2)) pe_int) (by intro _; rfl)))) (fun _ _ _ _ _ => (pv 3))))))), ?_⟩
    refine ⟨_, rfl, 3, rfl, by decide, by decide, fun D hD => ?_⟩
    refine lc_range (lo := 0) (n := 3) (fun i H2 => Same H H2 ∧ ∃ xs : List V, H2 D = some (.lst xs) ∧ xs.length = i) ⟨same_up1 hD, [], upd_same, rfl⟩ ?_ ?_
    · rintro i H2 hi ⟨m, xs, hx, hl⟩
      refine ⟨rfl, tyesT ⟨_, rfl, a, _, rfl, SqL.of (m _ _ ha), fun D2 hD2 => ?_⟩⟩
      refine lc_enum (K := K) (a := a) (xs := u.map nv) (fun j H3 => Same H2 H3 ∧ ∃ ys : List V, H3 D2 = some (.lst ys) ∧ ys.length ≤ j) ⟨same_up1 hD2, [], upd_same, Nat.le_refl _⟩ (fun j H3 _ q => SqL.of ((m.trans q.1) _ _ ha)) ?_ ?_
      · rintro j v TT H3 hj ⟨m3, ys, hy, hyl⟩ hT
        have hjl := (List.getElem?_eq_some_iff.mp hj).1
        rw [List.length_map] at hjl
        obtain ⟨l, hl2, rfl⟩ : ∃ y, u[j]? = some y ∧ nv y = v := by
          rw [List.getElem?_map] at hj
          exact Option.map_eq_some_iff.mp hj
        have m4 := same_new (o := .tup [.int (j : Nat), nv l]) m3 hT
        have hy4 : (upd H3 TT (.tup [.int (j : Nat), nv l])) D2 = some (.lst ys) := by rw [upd_ne (ne_of_none hy hT)]; exact hy
        have hT4 : (upd H3 TT (.tup [.int (j : Nat), nv l])) TT = some (.tup [.int (j : Nat), nv l]) := upd_same
        generalize upd H3 TT (.tup [.int (j : Nat), nv l]) = H4 at m4 hy4 hT4
        refine ⟨TT, _, rfl, SqT.of hT4, rfl, _, _, rfl, _, _, rfl, rfl, rfl, ?_⟩
        refine ⟨_, rfl, _, rfl, _, _, rfl, rfl, (by show (0 : Int) ≤ 0 + (i : Int); omega), _, _, rfl, rfl, _, rfl, ?_⟩
        refine ite2 (fun _ => ?_) (fun _ => ?_)
        · refine ⟨_, rfl, ys, hy4, ?_, same_upd m4 hD2, _, upd_same, ?_⟩
          · exact Nat.lt_of_le_of_lt (by omega : ys.length ≤ 1048576) (by decide)
          · rw [List.length_append, List.length_singleton]
            omega
        · exact ⟨m4, ys, hy4, by omega⟩
      · rintro H3 ⟨m3, ys, hy, hyl⟩
        refine ⟨xs, m3 _ _ hx, ?_, same_upd (m.trans m3) hD, _, upd_same, ?_⟩
        · rw [hl]
          exact Nat.lt_of_lt_of_le hi (by decide)
        · rw [List.length_append, hl] <;> rfl
    · rintro H2 ⟨m, _⟩
      exact k H2 D m
/-! ## unlayered -/
abbrev sUnlayered : Stmt := top 33
theorem scUnlayered : FnScope ["rows", "flags", "pairs", "three"] ["rows", "flags"] (defScope sUnlayered) := ⟨rfl, rfl, rfl, by decide +kernel, rfl, by decide +kernel, by decide +kernel⟩
/-- tied is transitive -/
def LayeredM (A : List (List Nat)) (F : List Bool) : Prop := ∀ u, W8 u → flagsOf F (run (dT A) u Z5) ≠ due5
def spUnlayered (K : PySem.W.Frag) : Sp := fun vs H Q _ => ∃ (a fa : Addr) (A : List (List Nat)) (F : List Bool), vs = [.ref a, .ref fa] ∧ RowsAt K H a A ∧ SqL K H fa (F.map V.bl) ∧ OkR A ∧ F.length = A.length ∧ A.length ≤ 16 ∧
  (∀ H', Same H H' → LayeredM A F → Q .non H') ∧ ∀ (H' : Hp) (t : Addr) (x y : V), Same H H' → H' t = some (.tup [x, y]) → ¬ LayeredM A F → Q (.ref t) H'
theorem ok_unlayered {f : Addr} {fd : FuncData} (F : Fun K "unlayered" "unlayered" sUnlayered f fd) (T : Tx K mg) (GT : Fx P w K mg base CX0 3 "three_sets" ["rows", "pairs", "flags", "due"] (spThreeSets K)) (GS : Fx P w K mg base CX0 1 "sets_of" ["letters", "many"] (spSetsOf K)) :
    FnOk P w K mg base CX0 4 f fd ["rows", "flags"] (spUnlayered K) := by
  refine F.ok scUnlayered (fun vs H Q E h => ?_) (fun cdv A₀ outer s H vs Q E hr h => ?_)
  · obtain ⟨a, fa, A, F, rfl, _⟩ := h
    rfl
  · obtain ⟨a, fa, A, F, rfl, hA, hF, okA, lF, h16, k0, k1⟩ := h
    have nd := scUnlayered.nd
    refine ⟨_,
    (pss_cons (ps_set (i := 2) nd rfl (.inl rfl) (pe_lst (pa_cons (pe_tup (pa_cons pe_int (pa_cons pe_int (pa_nil)))) (pa_cons (pe_tup (pa_cons pe_int (pa_cons pe_int (pa_nil)))) (pa_cons (pe_tup (pa_cons pe_int (pa_cons pe_int (pa_nil)))) (pa_cons (pe_tup (pa_cons pe_int (pa_cons pe_int (pa_nil)))) (pa_cons (pe_tup (pa_cons pe_int (pa_cons pe_int (pa_nil)))) (pa_nil))))))))
    (pss_cons (ps_set (i := 3) nd rfl (.inl rfl) (pe_fx GT hr pass0 (pa_cons (pv 0) (pa_cons (pv 2) (pa_cons (pv 1) (pa_cons (pe_lst (pa_cons pe_bl (pa_cons pe_bl (pa_cons pe_bl (pa_cons pe_bl (pa_cons pe_bl (pa_nil))))))) (pa_nil)))))))
    (pss_cons (ps_if (pt_cmpR op_isN (pv 3) pe_non (nomark _)) 
      (pss_one (ps_ret pe_non)) pss_nil)
    (pss_one (ps_ret (pe_tup (pa_cons (pe_callB call_len_seq (by rfl) T.len PySem.boot_len (pa_cons (pv 3) (pa_nil))) (pa_cons (pe_fx GS (hr.mono (by decide)) pass0 (pa_cons (pv 3) (pa_cons pe_int (pa_nil)))) (pa_nil))))))))), ?_⟩
    -- pairs = [..]
    refine ⟨by show 2 ≤ sizeLine; decide, fun t0 n0 => ⟨by show 2 ≤ sizeLine; decide, fun t1 n1 => ⟨by show 2 ≤ sizeLine; decide, fun t2 n2 => ⟨by show 2 ≤ sizeLine; decide, fun t3 n3 => ⟨by show 2 ≤ sizeLine; decide, fun t4 n4 => ⟨by show 5 ≤ sizeLine; decide, fun pa n5 => ?_⟩⟩⟩⟩⟩⟩
    have m0 := same_up1 (o := .tup [.int 0, .int 1]) n0
    have m1 := same_up1 (o := .tup [.int 1, .int 0]) n1
    have m2 := same_up1 (o := .tup [.int 1, .int 2]) n2
    have m3 := same_up1 (o := .tup [.int 2, .int 1]) n3
    have m4 := same_up1 (o := .tup [.int 0, .int 2]) n4
    have m5 := same_up1 (o := .lst [.ref t0, .ref t1, .ref t2, .ref t3, .ref t4]) n5
    have e0 := m5 _ _ (m4 _ _ (m3 _ _ (m2 _ _ (m1 _ _ (upd_same (H := H) (a := t0) (o := HO.tup [.int 0, .int 1]))))))
    have e1 := m5 _ _ (m4 _ _ (m3 _ _ (m2 _ _ (upd_same (a := t1) (o := HO.tup [.int 1, .int 0])))))
    have e2 := m5 _ _ (m4 _ _ (m3 _ _ (upd_same (a := t2) (o := HO.tup [.int 1, .int 2]))))
    have e3 := m5 _ _ (m4 _ _ (upd_same (a := t3) (o := HO.tup [.int 2, .int 1])))
    have e4 := m5 _ _ (upd_same (a := t4) (o := HO.tup [.int 0, .int 2]))
    have sH := (((((m0.trans m1).trans m2).trans m3).trans m4).trans m5)
    have hpa := upd_same (H := upd (upd (upd (upd (upd H t0 (.tup [.int 0, .int 1])) t1 (.tup [.int 1, .int 0])) t2 (.tup [.int 1, .int 2])) t3 (.tup [.int 2, .int 1])) t4 (.tup [.int 0, .int 2])) (a := pa) (o := HO.lst [.ref t0, .ref t1, .ref t2, .ref t3, .ref t4])
    have hP : TupsAt _ pa P5 := ⟨[t0, t1, t2, t3, t4], hpa, rfl, fun i t r hi hr => by
      match i with
      | 0 => cases hi; cases hr; exact e0
      | 1 => cases hi; cases hr; exact e1
      | 2 => cases hi; cases hr; exact e2
      | 3 => cases hi; cases hr; exact e3
      | 4 => cases hi; cases hr; exact e4
      | i + 5 => cases hi⟩
    generalize upd (upd (upd (upd (upd (upd H t0 (.tup [.int 0, .int 1])) t1 (.tup [.int 1, .int 0])) t2 (.tup [.int 1, .int 2])) t3 (.tup [.int 2, .int 1])) t4 (.tup [.int 0, .int 2])) pa (.lst [.ref t0, .ref t1, .ref t2, .ref t3, .ref t4]) = H1 at sH hP
    -- three = three_sets(..)
    refine ⟨_, rfl, _, rfl, _, rfl, by show 5 ≤ sizeLine; decide, fun da nda => ?_⟩
    have m6 := same_up1 (o := .lst (due5.map V.bl)) nda
    refine ⟨a, pa, fa, da, A, F, rfl, rows_same (sH.trans m6) hA, hP.same m6, (sH.trans m6).seq hF, upd_same, okA, lF, h16, fun H2 s2 hl => ?_, fun H2 l u s2 hl2 hul hu8 hbad => ?_⟩
    · refine ⟨_, rfl, rfl, _, rfl, ?_⟩
      refine ite2 (fun _ => ?_) (fun q => absurd (decide_eq_true rfl) q)
      exact k0 H2 ((sH.trans m6).trans s2) hl
    · refine ⟨_, rfl, rfl, _, rfl, ?_⟩
      refine ite2 (fun q => ?_) (fun _ => ?_)
      · have := of_decide_eq_true q
        cases this
      · refine ⟨_, rfl, l, _, rfl, .inl (SqL.of hl2), _, rfl, l, u, rfl, hl2, hul, fun H3 p s3 => ⟨by show 2 ≤ sizeLine; decide, fun t ht => ?_⟩⟩
        exact k1 _ t _ _ (same_new (((sH.trans m6).trans s2).trans s3) ht) upd_same fun z => z u hu8 hbad
end
end SR

/-! ### SR16 -/
set_option maxHeartbeats 4000000
namespace SR
open PySem PySem.Spec PyProof.Rows L2 SRR SRN SRZ
/-! ## o.f as one of several targets -/
def gFld (K : PySem.W.Frag) (f : Str) (to : TE) : TG := fun v σ H Q => to σ H fun x H1 => ∃ a C dx fs, x = .ref a ∧ H1 a = some (.ins C dx fs) ∧ Cls K C ∧ NoAttr K C f ∧ fs.length < 1000 ∧ Q σ (upd H1 a (.ins C dx (putF f v fs)))
theorem pg_fld {X : Cx} {o : Expr} {f : Str} {pos : Pos} {to : TE} (ho : PE X o to) : PG X (.Attribute o f pos) (gFld X.K f to) := by
  refine ⟨fun pins s σ H v u Q I r h => ?_⟩
  rw [arm_assign_Attribute]
  refine wpAny_bind (wpAny_holding (thn (ho.run pins s σ H _ I h) fun ov s1 ⟨x, H1, I1, r1, a, C, dx, fs, ex, ea, c, n, l, q⟩ => ?_))
  subst ex
  obtain rfl : ov = Value.ref a := r1
  refine wpAny_bind (wpAny_standAt (wpAny_bind (wpAny_holding (setattr_ok I1 ea c n l r fun s2 I2 => ?_))))
  exact wpAny_release ⟨σ, _, I2, q⟩
/-! ## own operators -/
theorem look_ins {X : Cx} {pins : List (Addr × Obj)} {σ : L2.St} {H : Hp} {s : Shared} {a C dx : Addr} {fs : List (Str × V)} (I : Inv X pins σ H s) (e : H a = some (.ins C dx fs)) : ∃ od, PySem.W.InstAt s.heap a (PySem.W.instObj C dx) C (some od) := by
  obtain ⟨mA, O, _, _, _, _⟩ := ins_get I.hok e
  obtain ⟨od, J, _⟩ := O.look
  exact ⟨od, J⟩
/-- a def of a class, found by its name -/
structure OpM (K : PySem.W.Frag) (C : Addr) (nm : Str) (f : Addr) : Prop where
  at_ : PySem.W.findIn K (.ref C) nm = some (some (.ref f))
  fn : PySem.W.isFn K (.ref f) = true
def rOwn2 (C : Addr) (sp : Sp) (E : XK) : R2 := fun x y H Q => ∃ a b dx fs dy gs, x = .ref a ∧ y = .ref b ∧ H a = some (.ins C dx fs) ∧ H b = some (.ins C dy gs) ∧ sp [.ref a, .ref b] H (fun v H' => (∃ p, v = .ref p) ∧ Q v H') E
section
variable {X : Cx} {CX : CXT} {k : Nat} {f C : Addr} {fd : FuncData} {ps : List Str} {sp : Sp} {E : XK}
theorem op_own2 {op : Operator} (hc : PySem.W.selfFirst X.K C = true) (hm : OpM X.K C (PySem.dunder op.info.2) f) (F : FnOk X.prog X.w X.K X.mg X.base CX k f fd ps sp) (hr : Room k X.A) (hb : Binds X.K fd ps []) (hx : Passes CX X E) : OpR X (binaryOp op) (rOwn2 C sp E) := by
  intro pins s σ H x y v u Q I rx ry h
  obtain ⟨a, b, dx, fs, dy, gs, rfl, rfl, ha, hb', q⟩ := h
  obtain rfl : v = Value.ref a := rx
  obtain rfl : u = Value.ref b := ry
  obtain ⟨od, J⟩ := look_ins I ha
  obtain ⟨od', J'⟩ := look_ins I hb'
  obtain ⟨m, fr⟩ := I.fr
  refine PySem.W.binop_K fr I.ok.mod.kin J J'.type hc hm.at_ hm.fn (thn (run_fn (us := [.ref a, .ref b]) (vs := [.ref a, .ref b]) F hr hb .nil hx I (.cons rfl (.cons rfl .nil)) (by rw [List.append_nil]; exact q)) fun w s' hw => ?_)
  obtain ⟨z, H', I', rz, ⟨p, rfl⟩, q'⟩ := hw
  obtain rfl : w = Value.ref p := rz
  exact ⟨.ref p, H', I', rfl, q'⟩
def rOwn1 (C : Addr) (sp : Sp) (E : XK) : V → Hp → VK → Prop := fun x H Q => ∃ a dx fs, x = .ref a ∧ H a = some (.ins C dx fs) ∧ sp [.ref a] H Q E
theorem un_inv (hm : OpM X.K C "__invert__" f) (F : FnOk X.prog X.w X.K X.mg X.base CX k f fd ps sp) (hr : Room k X.A) (hb : Binds X.K fd ps []) (hx : Passes CX X E) : UnR X (unaryOp .Invert) (rOwn1 C sp E) := by
  intro pins s σ H x v Q I rx h
  obtain ⟨a, dx, fs, rfl, ha, q⟩ := h
  obtain rfl : v = Value.ref a := rx
  obtain ⟨od, J⟩ := look_ins I ha
  obtain ⟨m, fr⟩ := I.fr
  exact PySem.W.ksp_inv fr I.ok.mod.kin J hm.at_ hm.fn (run_fn (us := [.ref a]) (vs := [.ref a]) F hr hb .nil hx I (.cons rfl .nil) (by rw [List.append_nil]; exact q))
/-- x in y, y an instance -/
def rOwnIn (C : Addr) (sp : Sp) (E : XK) : R2 := fun x y H Q => ∃ b dy gs, y = .ref b ∧ H b = some (.ins C dy gs) ∧ sp [.ref b, x] H (fun v H' => ∃ c, v = .bl c ∧ Q (.bl c) H') E
theorem op_ownIn (hm : OpM X.K C "__contains__" f) (F : FnOk X.prog X.w X.K X.mg X.base CX k f fd ps sp) (hr : Room k X.A) (hb : Binds X.K fd ps []) (hx : Passes CX X E) : OpR X (compareOp .In) (rOwnIn C sp E) := by
  intro pins s σ H x y v u Q I rx ry h
  obtain ⟨b, dy, gs, rfl, hb', q⟩ := h
  obtain rfl : u = Value.ref b := ry
  obtain ⟨od, J⟩ := look_ins I hb'
  obtain ⟨m, fr⟩ := I.fr
  refine PySem.W.in_K fr I.ok.mod.kin J hm.at_ hm.fn (thn (run_fn (us := [.ref b, v]) (vs := [.ref b, x]) F hr hb .nil hx I (.cons rfl (.cons rx .nil)) (by rw [List.append_nil]; exact q)) fun w s' hw => ?_)
  obtain ⟨z, H', I', rz, c, rfl, q'⟩ := hw
  cases rz
  exact wpAny_truthy_bool ⟨.bl c, H', I', rfl, q'⟩
theorem op_ownNotIn (hm : OpM X.K C "__contains__" f) (F : FnOk X.prog X.w X.K X.mg X.base CX k f fd ps sp) (hr : Room k X.A) (hb : Binds X.K fd ps []) (hx : Passes CX X E) : OpR X (compareOp .NotIn) (fun x y H Q => rOwnIn C sp E x y H fun v H' => ∃ c, v = .bl c ∧ Q (.bl (!c)) H') := by
  intro pins s σ H x y v u Q I rx ry h
  obtain ⟨b, dy, gs, rfl, hb', q⟩ := h
  obtain rfl : u = Value.ref b := ry
  obtain ⟨od, J⟩ := look_ins I hb'
  obtain ⟨m, fr⟩ := I.fr
  refine PySem.W.notIn_K fr I.ok.mod.kin J hm.at_ hm.fn (thn (run_fn (us := [.ref b, v]) (vs := [.ref b, x]) F hr hb .nil hx I (.cons rfl (.cons rx .nil)) (by rw [List.append_nil]; exact q)) fun w s' hw => ?_)
  obtain ⟨z, H', I', rz, c, rfl, c', ec, q'⟩ := hw
  cases ec
  cases rz
  exact wpAny_truthy_bool ⟨.bl (!c), H', I', rfl, q'⟩
end
/-- a statement that is never reached -/
theorem ps_never {X : Cx} {st : Stmt} : PS X st (fun _ _ _ => False) := ⟨fun _ _ _ _ _ _ h => h.elim⟩
end SR

/-! ### SR17 -/
set_option maxHeartbeats 4000000
namespace SR
open PySem PySem.Spec PyProof.Rows L2 SRR SRN SRZ
/-! ## is_whole, checked_between -/
abbrev sIsWhole : Stmt := top 13
theorem scIsWhole : FnScope ["thing"] ["thing"] (defScope sIsWhole) := ⟨rfl, rfl, rfl, by decide +kernel, rfl, by decide +kernel, by decide +kernel⟩
def spIsWhole : Sp := fun vs H Q _ => ∃ i : Int, vs = [.int i] ∧ Q (.bl true) H
abbrev sChecked : Stmt := top 52
theorem scChecked : FnScope ["number", "least", "most"] ["number", "least", "most"] (defScope sChecked) := ⟨rfl, rfl, rfl, by decide +kernel, rfl, by decide +kernel, by decide +kernel⟩
def spChecked : Sp := fun vs H Q _ => ∃ i l m : Int, vs = [.int i, .int l, .int m] ∧ l ≤ i ∧ i ≤ m ∧ Q (.int i) H
/-! ## counting -/
abbrev sCounting : Stmt := top 53
theorem scCounting : FnScope ["bound", "rows", "flags", "one", "other", "row", "letter", "here", "there"] ["bound"] (defScope sCounting) := ⟨rfl, rfl, rfl, by decide +kernel, rfl, by decide +kernel, by decide +kernel⟩
def cEl (b one other l : Nat) : Nat := min b (one + l % 2) * (b + 1) + min b (other + l / 2)
def cRow (b one other : Nat) : List Nat := (List.range 4).map (cEl b one other)
def cRowsTo (b i j : Nat) : List (List Nat) := ((List.range i).flatMap fun one => (List.range (b + 1)).map (cRow b one)) ++ (List.range j).map (cRow b i)
def cFlagsTo (b i j : Nat) : List Bool := ((List.range i).flatMap fun one => (List.range (b + 1)).map fun other => decide (one < other)) ++ (List.range j).map fun other => decide (i < other)
def countRows (b : Nat) : List (List Nat) := cRowsTo b (b + 1) 0
def countFlags (b : Nat) : List Bool := cFlagsTo b (b + 1) 0
theorem range_map {α : Type} (f : Nat → α) (n : Nat) : (List.range (n + 1)).map f = (List.range n).map f ++ [f n] := by
  rw [List.range_succ, List.map_append] <;> rfl
theorem cRowsTo_next (b i j : Nat) : cRowsTo b i (j + 1) = cRowsTo b i j ++ [cRow b i j] := by
  unfold cRowsTo
  rw [range_map, List.append_assoc]
theorem cRowsTo_up (b i : Nat) : cRowsTo b i (b + 1) = cRowsTo b (i + 1) 0 := by
  unfold cRowsTo
  rw [range_flat, List.range_zero, List.map_nil, List.append_nil]
theorem cFlagsTo_next (b i j : Nat) : cFlagsTo b i (j + 1) = cFlagsTo b i j ++ [decide (i < j)] := by
  unfold cFlagsTo
  rw [range_map (fun other => decide (i < other)), List.append_assoc]
theorem cFlagsTo_up (b i : Nat) : cFlagsTo b i (b + 1) = cFlagsTo b (i + 1) 0 := by
  unfold cFlagsTo
  rw [range_flat, List.range_zero, List.map_nil, List.append_nil]
theorem cTo_len (b i j : Nat) : (cRowsTo b i j).length = i * (b + 1) + j ∧ (cFlagsTo b i j).length = i * (b + 1) + j := by
  unfold cRowsTo cFlagsTo
  constructor
  · rw [List.length_append, List.length_map, flat_len _ (b + 1) _ (fun x _ => by rw [List.length_map, List.length_range]), List.length_range, List.length_range]
  · rw [List.length_append, List.length_map, flat_len _ (b + 1) _ (fun x _ => by rw [List.length_map, List.length_range]), List.length_range, List.length_range]
def spCounting : Sp := fun vs H Q _ => ∃ b : Nat, vs = [nv b] ∧ b ≤ 2 ∧ ∀ (H' : Hp) (t ra fa : Addr), Same H H' → H' t = some (.tup [.ref ra, .ref fa]) → TupsAt H' ra (countRows b) → H' fa = some (.lst ((countFlags b).map V.bl)) → Q (.ref t) H'
theorem min_if {b xn : Nat} {x : Int} (e : x = (xn : Int)) : (if x < (b : Int) then x else (b : Int)) = ((min b xn : Nat) : Int) := by
  subst e
  by_cases h : xn < b
  · rw [if_pos (by omega), Nat.min_eq_right (by omega)]
  · rw [if_neg (by omega), Nat.min_eq_left (by omega)]
section
variable {P : Program} {w : World} {K : PySem.W.Frag} {mg : Str → Option Value} {base : Heap}
theorem ok_isWhole {f : Addr} {fd : FuncData} (F : Fun K "is_whole" "is_whole" sIsWhole f fd) (T : Tx K mg) : FnOk P w K mg base CX0 1 f fd ["thing"] spIsWhole := by
  refine F.ok scIsWhole (fun vs H Q E h => ?_) (fun cdv A outer s H vs Q E hr h => ?_)
  · obtain ⟨i, rfl, _⟩ := h
    rfl
  · obtain ⟨i, rfl, k⟩ := h
    refine ⟨_, (pss_one (ps_ret (pe_and (pe_callB call_isi (by rfl) T.isinstance (by decide +kernel) (pa_cons (pv 0) (pa_cons (pe_bltn (v := .ty "int") (by rfl) T.int (by decide +kernel) rfl) (pa_nil)))) (pe_one (pe_not (pe_callB call_isi (by rfl) T.isinstance (by decide +kernel) (pa_cons (pv 0) (pa_cons (pe_bltn (v := .ty "bool") (by rfl) T.bool (by decide +kernel) rfl) (pa_nil))))))))), ?_⟩
    refine ⟨_, rfl, _, _, _, _, true, rfl, .ty _, .base (.int i), kit_ty (by decide +kernel), true, rfl, ?_⟩
    refine iteT ?_
    exact ⟨_, rfl, _, _, _, _, false, rfl, .ty _, .base (.int i), kit_ty (by decide +kernel), false, rfl, k⟩
theorem ok_checked {f : Addr} {fd : FuncData} (F : Fun K "checked_between" "checked_between" sChecked f fd) (T : Tx K mg) (GW : Fx P w K mg base CX0 1 "is_whole" ["thing"] spIsWhole) : FnOk P w K mg base CX0 2 f fd ["number", "least", "most"] spChecked := by
  refine F.ok scChecked (fun vs H Q E h => ?_) (fun cdv A outer s H vs Q E hr h => ?_)
  · obtain ⟨i, l, m, rfl, _⟩ := h
    rfl
  · obtain ⟨i, l, m, rfl, h1, h2, k⟩ := h
    refine ⟨_, (pss_cons (ps_if (PW.pt (pw_or (pt_not (pt_truth (pe_fx GW hr pass0 (pa_cons (pv 0) (pa_nil))) (by intro _; rfl))) (pw_or (pt_cmpR op_lt (pv 0) (pv 1) (nomark _)) (pw_or1 (pt_cmpR op_gt (pv 0) (pv 2) (nomark _)))))) 
      (pss_one ps_never) pss_nil)
    (pss_one (ps_ret (pv 0)))), ?_⟩
    refine ⟨_, rfl, i, rfl, true, rfl, ?_⟩
    refine iteF ?_
    refine ⟨_, rfl, _, rfl, _, _, rfl, rfl, _, rfl, ?_⟩
    refine ite2 (fun q => absurd (of_decide_eq_true q) (by omega)) (fun _ => ?_)
    refine ⟨_, rfl, _, rfl, _, _, rfl, rfl, _, rfl, ?_⟩
    refine ite2 (fun q => absurd (of_decide_eq_true q) (by omega)) (fun _ => ?_)
    exact ⟨_, rfl, k⟩
theorem ok_counting {f : Addr} {fd : FuncData} (F : Fun K "counting" "counting" sCounting f fd) (T : Tx K mg) : FnOk P w K mg base CX0 1 f fd ["bound"] spCounting := by
  refine F.ok scCounting (fun vs H Q E h => ?_) (fun cdv A outer s H vs Q E hr h => ?_)
  · obtain ⟨b, rfl, _⟩ := h
    rfl
  · obtain ⟨b, rfl, hb, k⟩ := h
    have nd := scCounting.nd
    refine ⟨_,
    (pss_cons (ps_set (i := 1) nd rfl (.inl rfl) (pe_lst pa_nil))
    (pss_cons (ps_set (i := 2) nd rfl (.inl rfl) (pe_lst pa_nil))
    (pss_cons (ps_for PassesOwn.never rfl (pi_range1 rfl T.range (pa_cons (pe_op op_add (pv 0) pe_int) (pa_nil))) (pg_name (i := 3) nd rfl (.inl rfl)) 
      (pss_one (ps_for PassesOwn.never rfl (pi_range1 rfl T.range (pa_cons (pe_op op_add (pv 0) pe_int) (pa_nil))) (pg_name (i := 4) nd rfl (.inl rfl)) 
        (pss_cons (ps_set (i := 5) nd rfl (.inl rfl) (pe_lst pa_nil))
        (pss_cons (ps_for PassesOwn.never rfl (pi_range1 rfl T.range (pa_cons pe_int (pa_nil))) (pg_name (i := 6) nd rfl (.inl rfl)) 
          (pss_cons (ps_set (i := 7) nd rfl (.inl rfl) (pe_callB (call_min2 rfl) (by rfl) T.min (by decide +kernel) (pa_cons (pv 0) (pa_cons (pe_op op_add (pv 3) (pe_op op_mod (pv 6) pe_int)) (pa_nil)))))
          (pss_cons (ps_set (i := 8) nd rfl (.inl rfl) (pe_callB (call_min2 rfl) (by rfl) T.min (by decide +kernel) (pa_cons (pv 0) (pa_cons (pe_op op_add (pv 4) (pe_op op_fdiv (pv 6) pe_int)) (pa_nil)))))
          (pss_one (ps_expr (pe_bm PySem.F.plainAttrs_list PySem.F.slot_list_append PySem.F.type_list_append mt_append (pv 5) (pa_cons (pe_op op_add (pe_op op_mul (pv 7) (pe_op op_add (pv 0) pe_int)) (pv 8)) (pa_nil))))))))
        (pss_cons (ps_expr (pe_bm PySem.F.plainAttrs_list PySem.F.slot_list_append PySem.F.type_list_append mt_append (pv 1) (pa_cons (pe_callTy call_tuple_of (by rfl) T.tuple (by decide +kernel) (pa_cons (pv 5) (pa_nil))) (pa_nil))))
        (pss_one (ps_expr (pe_bm PySem.F.plainAttrs_list PySem.F.slot_list_append PySem.F.type_list_append mt_append (pv 2) (pa_cons (pe_cmpR op_lt (pv 3) (pv 4) (nomark _)) (pa_nil)))))))))))
    (pss_one (ps_ret (pe_tup (pa_cons (pv 1) (pa_cons (pv 2) (pa_nil))))))))), ?_⟩
    -- rows = []; flags = []
    refine ⟨by show 0 ≤ sizeLine; decide, fun ra hra => ⟨by show 0 ≤ sizeLine; decide, fun fa hfa => ?_⟩⟩
    have hfa' := upd_none hfa
    have eb : ((b : Int) + 1) = (((b + 1 : Nat)) : Int) := by omega
    -- for one in range(bound + 1)
    refine ⟨_, rfl, _, _, rfl, rfl, b + 1, by show [V.int ((b : Int) + 1)] = _; rw [eb], by omega, by omega, for_range (lo := 0) (n := b + 1) (fun i σ' H2 => ∃ v3 v4 v5 v6 v7 v8 : Option V, σ' = [some (nv b), some (.ref ra), some (.ref fa), v3, v4, v5, v6, v7, v8] ∧
      Same H H2 ∧ TupsAt H2 ra (cRowsTo b i 0) ∧ H2 fa = some (.lst ((cFlagsTo b i 0).map V.bl)))
      ⟨_, _, _, _, _, _, rfl, same_new (same_up1 hra) hfa, .nil (by rw [upd_ne hfa'.1.symm, upd_same]), upd_same⟩ ?_ ?_⟩
    · rintro i σ' H2 hi ⟨v3, v4, v5, v6, v7, v8, rfl, s2, hR, hF⟩
      refine ⟨_, rfl, _, _, rfl, rfl, b + 1, by show [V.int ((b : Int) + 1)] = _; rw [eb], by omega, by omega, for_range (lo := 0) (n := b + 1) (fun j σ' H3 => ∃ v4 v5 v6 v7 v8 : Option V, σ' = [some (nv b), some (.ref ra), some (.ref fa), some (.int (0 + (i : Int))), v4, v5, v6, v7, v8] ∧
        Same H H3 ∧ TupsAt H3 ra (cRowsTo b i j) ∧ H3 fa = some (.lst ((cFlagsTo b i j).map V.bl))) ⟨_, _, _, _, _, rfl, s2, hR, hF⟩ ?_ ?_⟩
      · rintro j σ' H3 hj ⟨v4, v5, v6, v7, v8, rfl, s3, hR3, hF3⟩
        -- row = []
        refine ⟨by show 0 ≤ sizeLine; decide, fun ro hro => ?_⟩
        have hro0 : H ro = none := s3.free hro
        have s4 := same_new (o := .lst []) s3 hro
        have hR4 := hR3.new (o := .lst []) hro
        have hF4 := (same_up1 (o := .lst []) hro) _ _ hF3
        have hr4 : (upd H3 ro (.lst [])) ro = some (.lst (((List.range 0).map (cEl b i j)).map nv)) := upd_same
        have frn : fa ≠ ro := fun z => by rw [← z, hF3] at hro; cases hro
        have rrn : ra ≠ ro := fun z => by
          obtain ⟨_, q, _⟩ := hR3
          rw [← z, q] at hro
          cases hro
        have frr : fa ≠ ra := hfa'.1
        generalize upd H3 ro (.lst []) = H4 at s4 hR4 hF4 hr4
        refine ⟨4, rfl, by decide, by decide, for_range (lo := 0) (n := 4) (fun l σ' H5 => ∃ v6 v7 v8 : Option V, σ' = [some (nv b), some (.ref ra), some (.ref fa), some (.int (0 + (i : Int))), some (.int (0 + (j : Int))), some (.ref ro), v6, v7, v8] ∧
          Same H H5 ∧ TupsAt H5 ra (cRowsTo b i j) ∧ H5 fa = some (.lst ((cFlagsTo b i j).map V.bl)) ∧ H5 ro = some (.lst (((List.range l).map (cEl b i j)).map nv))) ⟨_, _, _, rfl, s4, hR4, hF4, hr4⟩ ?_ ?_⟩
        · rintro l σ' H5 hl ⟨v6, v7, v8, rfl, s5, hR5, hF5, hr5⟩
          refine ⟨_, rfl, _, rfl, _, rfl, _, _, rfl, rfl, (by show (0 : Int) < 2; decide), _, _, rfl, rfl, _, _, rfl, ?_⟩
          have e1 : (if (0 : Int) + (i : Int) + (0 + (l : Int)) % 2 < (b : Int) then (0 : Int) + (i : Int) + (0 + (l : Int)) % 2 else (b : Int)) = ((min b (i + l % 2) : Nat) : Int) := min_if (by omega)
          have e2 : (if (0 : Int) + (j : Int) + (0 + (l : Int)) / 2 < (b : Int) then (0 : Int) + (j : Int) + (0 + (l : Int)) / 2 else (b : Int)) = ((min b (j + l / 2) : Nat) : Int) := min_if (by omega)
          refine ⟨_, rfl, _, rfl, _, rfl, _, _, rfl, rfl, ⟨by decide, by decide⟩, _, _, rfl, rfl, _, _, rfl, ?_⟩
          refine ⟨_, rfl, .inl ⟨rfl, _, SqL.of hr5⟩, _, rfl, _, rfl, _, _, rfl, rfl, _, _, rfl, rfl, .inr ⟨?_, ?_⟩, _, rfl, _, _, rfl, rfl, ro, _, _, rfl, rfl, hr5, ?_, ?_⟩
          · show -(2 ^ 64) < (b : Int) + 1
            have : (0 : Int) ≤ (b : Int) := Int.natCast_nonneg b
            omega
          · show (b : Int) + 1 < 2 ^ 64
            omega
          · rw [List.length_map, List.length_map, List.length_range]
            exact Nat.lt_of_lt_of_le hl (by decide)
          · rw [e1, e2]
            have ev : V.int (((min b (i + l % 2) : Nat) : Int) * ((b : Int) + 1) + ((min b (j + l / 2) : Nat) : Int)) = nv (cEl b i j l) := by
              unfold cEl
              show V.int _ = V.int _
              rw [Int.natCast_add, Int.natCast_mul, Int.natCast_add] <;> rfl
            refine ⟨_, _, _, rfl, same_upd s5 hro0, hR5.upd hr5 (fun _ z => nomatch z) rrn, by rw [upd_ne frn]; exact hF5, ?_⟩
            rw [upd_same, range_map, List.map_append]
            exact congrArg (fun z => some (HO.lst (((List.range l).map (cEl b i j)).map nv ++ [z]))) ev
        · -- rows.append(tuple(row)); flags.append(one < other)
          rintro σ' H5 ⟨v6, v7, v8, rfl, s5, hR5, hF5, hr5⟩
          obtain ⟨us, hus, hul⟩ := hR5.lst
          have hln := (cTo_len b i j)
          have hsm : i * (b + 1) + j ≤ 100 := by
            have h1 : i ≤ 2 := by omega
            have h2 : b + 1 ≤ 3 := by omega
            have := Nat.mul_le_mul h1 h2
            omega
          refine ⟨_, rfl, .inl ⟨rfl, _, SqL.of hus⟩, _, rfl, ro, _, rfl, .inl ⟨SqL.of hr5, fun tr htr => ?_⟩⟩
          have s6 := same_new (o := .tup (((List.range 4).map (cEl b i j)).map nv)) s5 htr
          have hus6 : (upd H5 tr (.tup (((List.range 4).map (cEl b i j)).map nv))) ra = some (.lst us) := by rw [upd_ne (ne_of_none hus htr)]; exact hus
          have hF6 : (upd H5 tr (.tup (((List.range 4).map (cEl b i j)).map nv))) fa = some (.lst ((cFlagsTo b i j).map V.bl)) := by rw [upd_ne (ne_of_none hF5 htr)]; exact hF5
          have hR6 := (hR5.new (o := .tup (((List.range 4).map (cEl b i j)).map nv)) htr).push hus6 (r := cRow b i j) upd_same
          refine ⟨ra, _, _, rfl, rfl, hus6, ?_, ?_⟩
          · rw [hul, hln.1]
            exact Nat.lt_of_le_of_lt hsm (by decide)
          generalize upd H5 tr (.tup (((List.range 4).map (cEl b i j)).map nv)) = H6 at s6 hus6 hF6 hR6
          have hF7 : (upd H6 ra (.lst (us ++ [.ref tr]))) fa = some (.lst ((cFlagsTo b i j).map V.bl)) := by rw [upd_ne frr]; exact hF6
          refine ⟨_, rfl, .inl ⟨rfl, _, SqL.of hF7⟩, _, rfl, _, rfl, _, _, rfl, rfl, fa, _, _, rfl, rfl, hF7, ?_, ?_⟩
          · rw [List.length_map, hln.2]
            exact Nat.lt_of_le_of_lt hsm (by decide)
          · have ed : decide ((0 : Int) + (i : Int) < 0 + (j : Int)) = decide (i < j) := by
              by_cases q : i < j
              · rw [decide_eq_true q, decide_eq_true (by omega)]
              · rw [decide_eq_false q, decide_eq_false (by omega)]
            refine ⟨_, _, _, _, _, rfl, same_upd (same_upd s6 hra) hfa'.2, ?_, ?_⟩
            · rw [cRowsTo_next]
              exact hR6.upd hF7 (fun _ z => nomatch z) frr.symm
            · rw [upd_same, cFlagsTo_next, List.map_append]
              exact congrArg (fun z => some (HO.lst ((cFlagsTo b i j).map V.bl ++ [V.bl z]))) ed
      · rintro σ' H3 ⟨v4, v5, v6, v7, v8, rfl, s3, hR3, hF3⟩
        rw [cRowsTo_up] at hR3
        rw [cFlagsTo_up] at hF3
        exact ⟨_, _, _, _, _, _, rfl, s3, hR3, hF3⟩
    · rintro σ' H2 ⟨v3, v4, v5, v6, v7, v8, rfl, s2, hR, hF⟩
      refine ⟨_, rfl, _, rfl, by show 2 ≤ sizeLine; decide, fun t ht => ?_⟩
      exact k _ t ra fa (same_new s2 ht) upd_same (hR.new ht) (by rw [upd_ne (ne_of_none hF ht)]; exact hF)
end
end SR

/-! ### SR18 -/
set_option maxHeartbeats 4000000
namespace SR
open PySem PySem.Spec PyProof.Rows L2 SRR SRN SRZ
/-! ## what a made rule is -/
structure Good (A : List (List Nat)) (F : List Bool) : Prop where
  ok : OkR A
  len : F.length = A.length
  most : A.length ≤ 100
/-- at most n keys -/
def Few (key : List Nat → List Nat) (n : Nat) : Prop := ∀ L : List (List Nat), L.Nodup → (∀ s ∈ L, ∃ w, W4 w ∧ key w = s) → L.length ≤ n
structure Made (A : List (List Nat)) (F : List Bool) (n : Nat) (lang : List Nat → Bool) (key : List Nat → List Nat) : Prop where
  good : Good A F
  few : A.length ≤ n
  lang : ∀ w, W4 w → F.getD (st A w) false = lang w
  key : ∃ φ : List Nat → Nat, ∀ w, W4 w → st A w = φ (key w)
theorem nodup_map {α β : Type} {f : α → β} : ∀ {l : List α}, l.Nodup → (∀ a ∈ l, ∀ b ∈ l, f a = f b → a = b) → (l.map f).Nodup
  | [], _, _ => List.nodup_nil
  | a :: l, h, hi => by
    obtain ⟨h1, h2⟩ := List.nodup_cons.mp h
    rw [List.map_cons, List.nodup_cons]
    refine ⟨fun m => ?_, nodup_map h2 fun x hx y hy => hi x (List.mem_cons_of_mem _ hx) y (List.mem_cons_of_mem _ hy)⟩
    obtain ⟨b, hb, e⟩ := List.mem_map.mp m
    have := hi b (List.mem_cons_of_mem _ hb) a (List.mem_cons_self ..) e
    exact h1 (this ▸ hb)
theorem few_reached {R : List (List Nat)} {key : List Nat → List Nat} {n : Nat} (hk : ∃ φ : List Nat → Nat, ∀ w, W4 w → st R w = φ (key w)) (hf : Few key n) {S : List Nat} (hS : IsReached R S) : S.length ≤ n := by
  classical
  obtain ⟨φ, hφ⟩ := hk
  let ψ : Nat → List Nat := fun s => if h : ∃ w, W4 w ∧ st R w = s then key (Classical.choose h) else []
  have hψ : ∀ s ∈ S, (∃ w, W4 w ∧ key w = ψ s) ∧ φ (ψ s) = s := fun s hs => by
    have h := hS.re s hs
    have e : ψ s = key (Classical.choose h) := dif_pos h
    obtain ⟨h1, h2⟩ := Classical.choose_spec h
    rw [e]
    exact ⟨⟨_, h1, rfl⟩, by rw [← hφ _ h1]; exact h2⟩
  rw [← List.length_map (f := ψ)]
  refine hf _ (nodup_map hS.nd fun a ha b hb e => ?_) fun s hs => ?_
  · rw [← (hψ a ha).2, e, (hψ b hb).2]
  · obtain ⟨a, ha, rfl⟩ := List.mem_map.mp hs
    exact (hψ a ha).1
theorem made_of {R A : List (List Nat)} {f F : List Bool} {n : Nat} {lang : List Nat → Bool} {key : List Nat → List Nat} (h : Least R f A F) (hl : ∀ w, W4 w → f.getD (st R w) false = lang w) (hk : ∃ φ : List Nat → Nat, ∀ w, W4 w → st R w = φ (key w)) (hf : Few key n) : Made A F n lang key := by
  obtain ⟨S, hS, hle⟩ := h.le
  obtain ⟨φ, hφ⟩ := h.keep
  obtain ⟨ψ, hψ⟩ := hk
  refine ⟨⟨h.ok, h.len, h.most⟩, Nat.le_trans hle (few_reached ⟨ψ, hψ⟩ hf hS), fun w hw => by rw [(hφ w hw).2, hl w hw], fun k => φ (ψ k), fun w hw => by rw [(hφ w hw).1, hψ w hw]⟩
/-! ## explored machines -/
theorem expl_key {δ : List Nat → Nat → List Nat} {s0 : List Nat} {order nexts : List (List Nat)} (h : Expl δ s0 order nexts) (hl : order.length ≤ nexts.length) : ∀ w, W4 w → st nexts w = order.idxOf (run δ w s0) := fun w hw => by
  have e := h.at_ hl hw
  have hm : run δ w s0 ∈ order := List.mem_of_getElem? e
  have hl := List.idxOf_lt_length_of_mem hm
  exact nd_ix h.nd e (by rw [List.getElem?_eq_getElem hl, List.getElem_idxOf hl])
theorem expl_flag {δ : List Nat → Nat → List Nat} {s0 : List Nat} {order nexts : List (List Nat)} (h : Expl δ s0 order nexts) (hl : order.length ≤ nexts.length) (g : List Nat → Bool) : ∀ w, W4 w → (order.map g).getD (st nexts w) false = g (run δ w s0) := fun w hw => getD_of (map_at (h.at_ hl hw))
theorem expl_len {δ : List Nat → Nat → List Nat} {s0 : List Nat} {order nexts : List (List Nat)} {n : Nat} (h : Expl δ s0 order nexts) (hf : Few (fun w => run δ w s0) n) : order.length ≤ n := hf _ h.nd fun s hs => let ⟨w, hw, e⟩ := h.re s hs; ⟨w, hw, e⟩
/-! ## the pairs -/
def key2 (A B : List (List Nat)) (w : List Nat) : List Nat := [st A w, st B w]
def key3 (A B : List (List Nat)) (w : List Nat) : List Nat := [st A w, st A (w.map mir), st B w]
theorem run2 (A B : List (List Nat)) (w : List Nat) : run (dl2 A B) w [0, 0] = key2 A B w := run_dl2 A B w 0 0
theorem run3 (A B : List (List Nat)) (w : List Nat) : run (dl3 A B) w [0, 0, 0] = key3 A B w := run_dl3 A B w 0 0 0
/-! ## turned -/
theorem dl_mir {A : List (List Nat)} (ok : OkR A) {s l : Nat} (hs : s < A.length) (hl : l < 4) : dl (A.map mirRow) s l = dl A s (mir l) := by
  obtain ⟨a, b, c, d, e⟩ := ok.row4 hs
  have e2 : (A.map mirRow)[s]? = some (mirRow [a, b, c, d]) := map_at e
  match l, hl with
  | 0, _ => rw [dl_of e2 (x := a) rfl, dl_of e (x := a) rfl]
  | 1, _ => rw [dl_of e2 (x := c) rfl, dl_of e (l := mir 1) (x := c) rfl]
  | 2, _ => rw [dl_of e2 (x := b) rfl, dl_of e (l := mir 2) (x := b) rfl]
  | 3, _ => rw [dl_of e2 (x := d) rfl, dl_of e (l := mir 3) (x := d) rfl]
theorem stF_mir {A : List (List Nat)} (ok : OkR A) : ∀ {w : List Nat} {s : Nat}, W4 w → s < A.length → stF (A.map mirRow) w s = stF A (w.map mir) s
  | [], s, _, _ => rfl
  | l :: w, s, hw, hs => by
    have hl := hw l (List.mem_cons_self ..)
    show stF (A.map mirRow) w (dl (A.map mirRow) s l) = stF A (w.map mir) (dl A s (mir l))
    rw [dl_mir ok hs hl]
    exact stF_mir ok (fun x hx => hw x (List.mem_cons_of_mem _ hx)) (ok.lt hs (mir_lt hl))
theorem okR_mir {A : List (List Nat)} (ok : OkR A) : OkR (A.map mirRow) := by
  refine ⟨by rw [List.length_map]; exact ok.pos, fun r hr => ?_⟩
  obtain ⟨q, hq, rfl⟩ := List.mem_map.mp hr
  obtain ⟨h1, h2⟩ := ok.row q hq
  refine ⟨rfl, fun x hx => ?_⟩
  rw [List.length_map]
  match q, h1 with
  | [a, b, c, d], _ =>
    have hx' : x = a ∨ x = c ∨ x = b ∨ x = d := by
      unfold mirRow at hx
      simpa using hx
    rcases hx' with rfl | rfl | rfl | rfl <;> exact h2 _ (by simp)
/-! ## until, every, turns: rows in parts -/
/-- the step of a machine in parts -/
theorem part_at {α : Type} (f : Nat → List α) (m : Nat) (hf : ∀ i, (f i).length = m) : ∀ (n i j : Nat), i < n → j < m → ((List.range n).flatMap f)[i * m + j]? = (f i)[j]?
  | 0, i, j, hi, _ => absurd hi (Nat.not_lt_zero _)
  | n + 1, i, j, hi, hj => by
    rw [range_flat]
    have hl : ((List.range n).flatMap f).length = n * m := by rw [flat_len f m _ (fun x _ => hf x), List.length_range]
    by_cases h : i < n
    · have : i * m + j < n * m := by
        have := Nat.mul_le_mul_right m (show i + 1 ≤ n from h)
        rw [Nat.add_mul] at this
        omega
      rw [List.getElem?_append_left (by rw [hl]; exact this)]
      exact part_at f m hf n i j h hj
    · have e : i = n := by omega
      subst e
      rw [List.getElem?_append_right (by rw [hl]; omega), hl]
      congr 1
      omega
/-- w with the letters from place k on set to 0 -/
def cutW (k : Nat) : List Nat → List Nat
  | [] => []
  | l :: w => match k with
    | 0 => 0 :: cutW 0 w
    | k + 1 => l :: cutW k w
/-- w with the letters at all places but those ≡ t (d), counted from i, set to 0 -/
def sieveW (d t : Nat) : Nat → List Nat → List Nat
  | _, [] => []
  | i, l :: w => (if i % d = t then l else 0) :: sieveW d t (i + 1) w
theorem keptRow_at {on : Bool} {r : List Nat} (h4 : r.length = 4) {l x : Nat} (hl : l < 4) (hx : r[if on = true then l else 0]? = some x) : (keptRow on r)[l]? = some x := by
  unfold keptRow
  cases on with
  | true => exact hx
  | false =>
    rw [if_neg Bool.false_ne_true] at hx ⊢
    rw [List.getElem?_replicate, if_pos hl, getD_of hx]
theorem dl_untilRows {A : List (List Nat)} (ok : OkR A) {k i s l : Nat} (hi : i < k + 1) (hs : s < A.length) (hl : l < 4) : dl (untilRows A k) (i * A.length + s) l = min (i + 1) k * A.length + dl A s (if i < k then l else 0) := by
  have hl' : (if i < k then l else 0) < 4 := by
    split
    · exact hl
    · decide
  obtain ⟨r, hr, hx, h4⟩ := row_item ok hs hl'
  have e1 : (untilRows A k)[i * A.length + s]? = some (shiftRow (min (i + 1) k * A.length) (keptRow (decide (i < k)) r)) := by
    unfold untilRows
    rw [part_at (untilPart A k) A.length (fun i => by unfold untilPart; rw [List.length_map]) (k + 1) i s hi hs]
    unfold untilPart
    exact map_at hr
  refine dl_of e1 ?_
  unfold shiftRow
  refine map_at (f := fun x => min (i + 1) k * A.length + x) (keptRow_at h4 hl ?_)
  by_cases h : i < k
  · rw [if_pos h] at hx ⊢
    rw [decide_eq_true h]
    exact hx
  · rw [if_neg h] at hx ⊢
    rw [decide_eq_false h]
    exact hx
theorem stF_until {A : List (List Nat)} (ok : OkR A) (k : Nat) : ∀ {w : List Nat} {i s : Nat}, W4 w → i ≤ k → s < A.length → stF (untilRows A k) w (i * A.length + s) = min (i + w.length) k * A.length + stF A (cutW (k - i) w) s
  | [], i, s, _, hi, _ => by
    show i * A.length + s = min (i + 0) k * A.length + s
    rw [Nat.add_zero, Nat.min_eq_left hi]
  | l :: w, i, s, hw, hi, hs => by
    have hl := hw l (List.mem_cons_self ..)
    have hw' : W4 w := fun x hx => hw x (List.mem_cons_of_mem _ hx)
    show stF (untilRows A k) w (dl (untilRows A k) (i * A.length + s) l) = _
    rw [dl_untilRows ok (by omega) hs hl]
    by_cases h : i < k
    · rw [if_pos h, Nat.min_eq_left (show i + 1 ≤ k from h)]
      rw [stF_until ok k hw' (show i + 1 ≤ k from h) (ok.lt hs hl)]
      have e1 : k - i = (k - (i + 1)) + 1 := by omega
      rw [e1]
      show _ = min (i + (w.length + 1)) k * A.length + stF A (cutW (k - (i + 1)) w) (dl A s l)
      rw [show i + 1 + w.length = i + (w.length + 1) by omega]
    · have e : i = k := by omega
      subst e
      rw [if_neg h, Nat.min_eq_right (by omega : i ≤ i + 1)]
      rw [stF_until ok i hw' (Nat.le_refl _) (ok.lt hs (by decide))]
      rw [Nat.sub_self]
      show _ = min (i + (w.length + 1)) i * A.length + stF A (cutW 0 w) (dl A s 0)
      rw [Nat.min_eq_right (by omega : i ≤ i + w.length), Nat.min_eq_right (by omega : i ≤ i + (w.length + 1))]
theorem dl_everyRows {A : List (List Nat)} (ok : OkR A) {d t i s l : Nat} (hi : i < d) (hs : s < A.length) (hl : l < 4) : dl (everyRows A d t) (i * A.length + s) l = (i + 1) % d * A.length + dl A s (if i = t then l else 0) := by
  have hl' : (if i = t then l else 0) < 4 := by
    split
    · exact hl
    · decide
  obtain ⟨r, hr, hx, h4⟩ := row_item ok hs hl'
  have e1 : (everyRows A d t)[i * A.length + s]? = some (shiftRow ((i + 1) % d * A.length) (keptRow (decide (i = t)) r)) := by
    unfold everyRows
    rw [part_at (everyPart A d t) A.length (fun i => by unfold everyPart; rw [List.length_map]) d i s hi hs]
    unfold everyPart
    exact map_at hr
  refine dl_of e1 ?_
  unfold shiftRow
  refine map_at (f := fun x => (i + 1) % d * A.length + x) (keptRow_at h4 hl ?_)
  by_cases h : i = t
  · rw [if_pos h] at hx ⊢
    rw [decide_eq_true h]
    exact hx
  · rw [if_neg h] at hx ⊢
    rw [decide_eq_false h]
    exact hx
theorem stF_every {A : List (List Nat)} (ok : OkR A) {d t : Nat} (hd : 0 < d) : ∀ {w : List Nat} {i s : Nat}, W4 w → s < A.length → stF (everyRows A d t) w (i % d * A.length + s) = (i + w.length) % d * A.length + stF A (sieveW d t i w) s
  | [], i, s, _, _ => rfl
  | l :: w, i, s, hw, hs => by
    have hl := hw l (List.mem_cons_self ..)
    have hw' : W4 w := fun x hx => hw x (List.mem_cons_of_mem _ hx)
    show stF (everyRows A d t) w (dl (everyRows A d t) (i % d * A.length + s) l) = _
    rw [dl_everyRows ok (Nat.mod_lt _ hd) hs hl]
    have e1 : (i % d + 1) % d = (i + 1) % d := by rw [Nat.mod_add_mod]
    have hl' : (if i % d = t then l else 0) < 4 := by
      split
      · exact hl
      · decide
    rw [e1, stF_every ok hd hw' (ok.lt hs hl')]
    show _ = (i + (w.length + 1)) % d * A.length + stF A (sieveW d t (i + 1) w) (dl A s (if i % d = t then l else 0))
    rw [show i + 1 + w.length = i + (w.length + 1) by omega]
theorem dl_turns {N : List (List Nat)} (ok : OkR N) {i s l : Nat} (hi : i < 2) (hs : s < N.length) (hl : l < 4) : dl (turnRows N N.length) (i * N.length + s) l = (1 - i) * N.length + dl N s l := by
  obtain ⟨r, hr, hx, h4⟩ := row_item ok hs hl
  match i, hi with
  | 0, _ =>
    have e1 : (turnRows N N.length)[0 * N.length + s]? = some (shiftRow N.length r) := by
      unfold turnRows
      rw [Nat.zero_mul, Nat.zero_add, List.getElem?_append_left (by rw [List.length_map]; exact hs)]
      exact map_at hr
    rw [dl_of e1 (x := N.length + dl N s l) (by unfold shiftRow; exact map_at hx)]
    omega
  | 1, _ =>
    have e1 : (turnRows N N.length)[1 * N.length + s]? = some r := by
      unfold turnRows
      rw [Nat.one_mul, List.getElem?_append_right (by rw [List.length_map]; omega), List.length_map, Nat.add_sub_cancel_left]
      exact hr
    rw [dl_of e1 hx]
    omega
theorem stF_turns {N : List (List Nat)} (ok : OkR N) : ∀ {w : List Nat} {i s : Nat}, W4 w → s < N.length → stF (turnRows N N.length) w (i % 2 * N.length + s) = (i + w.length) % 2 * N.length + stF N w s
  | [], i, s, _, _ => rfl
  | l :: w, i, s, hw, hs => by
    have hl := hw l (List.mem_cons_self ..)
    have hw' : W4 w := fun x hx => hw x (List.mem_cons_of_mem _ hx)
    show stF (turnRows N N.length) w (dl (turnRows N N.length) (i % 2 * N.length + s) l) = _
    rw [dl_turns ok (Nat.mod_lt _ (by decide)) hs hl]
    have e1 : 1 - i % 2 = (i + 1) % 2 := by omega
    rw [e1, stF_turns ok hw' (ok.lt hs hl)]
    show _ = (i + (w.length + 1)) % 2 * N.length + stF N w (dl N s l)
    rw [show i + 1 + w.length = i + (w.length + 1) by omega]
end SR

/-! ### SR19 -/
set_option maxHeartbeats 4000000
namespace SR
open PySem PySem.Spec PyProof.Rows L2 SRR SRN SRZ
theorem keptRow_mem {on : Bool} {r : List Nat} {n x : Nat} (h4 : r.length = 4) (h : ∀ x ∈ r, x < n) (hx : x ∈ keptRow on r) : x < n := by
  match r, h4 with
  | [a, b, c, d], _ =>
    unfold keptRow at hx
    split at hx
    · exact h x hx
    · rw [(List.mem_replicate.mp hx).2]
      exact h a (by simp)
theorem okR_until {A : List (List Nat)} (ok : OkR A) (k : Nat) : OkR (untilRows A k) ∧ (untilRows A k).length = (k + 1) * A.length := by
  have hl : (untilRows A k).length = (k + 1) * A.length := by
    unfold untilRows
    rw [flat_len _ A.length _ (fun x _ => by unfold untilPart; rw [List.length_map]), List.length_range]
  refine ⟨⟨?_, fun r hr => ?_⟩, hl⟩
  · rw [hl]
    exact Nat.mul_pos (Nat.succ_pos _) ok.pos
  · unfold untilRows at hr
    obtain ⟨i, hi, hr⟩ := List.mem_flatMap.mp hr
    unfold untilPart at hr
    obtain ⟨q, hq, rfl⟩ := List.mem_map.mp hr
    obtain ⟨h1, h2⟩ := ok.row q hq
    refine ⟨by unfold shiftRow; rw [List.length_map, keptRow_len h1], fun x hx => ?_⟩
    unfold shiftRow at hx
    obtain ⟨y, hy, rfl⟩ := List.mem_map.mp hx
    have hy' := keptRow_mem h1 h2 hy
    rw [hl]
    have h3 : min (i + 1) k + 1 ≤ k + 1 := by omega
    have := Nat.mul_le_mul_right A.length h3
    rw [Nat.add_mul, Nat.one_mul] at this
    omega
theorem okR_every {A : List (List Nat)} (ok : OkR A) {d : Nat} (hd : 0 < d) (t : Nat) : OkR (everyRows A d t) ∧ (everyRows A d t).length = d * A.length := by
  have hl : (everyRows A d t).length = d * A.length := by
    unfold everyRows
    rw [flat_len _ A.length _ (fun x _ => by unfold everyPart; rw [List.length_map]), List.length_range]
  refine ⟨⟨?_, fun r hr => ?_⟩, hl⟩
  · rw [hl]
    exact Nat.mul_pos hd ok.pos
  · unfold everyRows at hr
    obtain ⟨i, hi, hr⟩ := List.mem_flatMap.mp hr
    unfold everyPart at hr
    obtain ⟨q, hq, rfl⟩ := List.mem_map.mp hr
    obtain ⟨h1, h2⟩ := ok.row q hq
    refine ⟨by unfold shiftRow; rw [List.length_map, keptRow_len h1], fun x hx => ?_⟩
    unfold shiftRow at hx
    obtain ⟨y, hy, rfl⟩ := List.mem_map.mp hx
    have hy' := keptRow_mem h1 h2 hy
    rw [hl]
    have h3 : (i + 1) % d + 1 ≤ d := Nat.mod_lt _ hd
    have := Nat.mul_le_mul_right A.length h3
    rw [Nat.add_mul, Nat.one_mul] at this
    omega
theorem okR_turns {N : List (List Nat)} (ok : OkR N) : OkR (turnRows N N.length) := by
  have hl : (turnRows N N.length).length = N.length + N.length := by
    unfold turnRows
    rw [List.length_append, List.length_map]
  refine ⟨by rw [hl]; have := ok.pos; omega, fun r hr => ?_⟩
  rw [hl]
  unfold turnRows at hr
  rcases List.mem_append.mp hr with q | q
  · obtain ⟨p, hp, rfl⟩ := List.mem_map.mp q
    obtain ⟨h1, h2⟩ := ok.row p hp
    refine ⟨by unfold shiftRow; rw [List.length_map, h1], fun x hx => ?_⟩
    unfold shiftRow at hx
    obtain ⟨y, hy, rfl⟩ := List.mem_map.mp hx
    have := h2 y hy
    omega
  · obtain ⟨h1, h2⟩ := ok.row r q
    exact ⟨h1, fun x hx => by have := h2 x hx; omega⟩
theorem repF_at {F : List Bool} {n i s : Nat} (hi : i < n) (hs : s < F.length) : (repF F n).getD (i * F.length + s) false = F.getD s false := by
  have e := part_at (fun _ => F) F.length (fun _ => rfl) n i s hi hs
  rw [List.getD_eq_getElem?_getD, List.getD_eq_getElem?_getD]
  exact congrArg (fun z => z.getD false) e
theorem repF_len {F : List Bool} {n : Nat} : (repF F n).length = n * F.length := by
  unfold repF
  rw [flat_len _ F.length _ (fun _ _ => rfl), List.length_range]
theorem cutW_4 : ∀ {k : Nat} {w : List Nat}, W4 w → W4 (cutW k w)
  | _, [], _ => fun _ h => nomatch h
  | 0, l :: w, h => fun x hx => by
    rcases List.mem_cons.mp hx with e | e
    · rw [e]
      decide
    · exact cutW_4 (k := 0) (w := w) (fun y hy => h y (List.mem_cons_of_mem _ hy)) x e
  | k + 1, l :: w, h => fun x hx => by
    rcases List.mem_cons.mp hx with e | e
    · rw [e]
      exact h l (List.mem_cons_self ..)
    · exact cutW_4 (k := k) (w := w) (fun y hy => h y (List.mem_cons_of_mem _ hy)) x e
theorem sieveW_4 {d t : Nat} : ∀ {i : Nat} {w : List Nat}, W4 w → W4 (sieveW d t i w)
  | _, [], _ => fun _ h => nomatch h
  | i, l :: w, h => fun x hx => by
    rcases List.mem_cons.mp hx with e | e
    · rw [e]
      split
      · exact h l (List.mem_cons_self ..)
      · decide
    · exact sieveW_4 (i := i + 1) (w := w) (fun y hy => h y (List.mem_cons_of_mem _ hy)) x e
def keyU (A : List (List Nat)) (k : Nat) (w : List Nat) : List Nat := [min w.length k, st A (cutW k w)]
def keyE (A : List (List Nat)) (d t : Nat) (w : List Nat) : List Nat := [w.length % d, st A (sieveW d t 0 w)]
def keyT (A B : List (List Nat)) (w : List Nat) : List Nat := [w.length % 2, st A w, st B w]
def keyM (A : List (List Nat)) (w : List Nat) : List Nat := [st A (w.map mir)]
section
variable {A B : List (List Nat)} {F G : List Bool} {n : Nat}
theorem until_st (g : Good A F) {k : Nat} {w : List Nat} (hw : W4 w) : st (untilRows A k) w = min w.length k * A.length + st A (cutW k w) ∧ (repF F (k + 1)).getD (st (untilRows A k) w) false = F.getD (st A (cutW k w)) false := by
  have e : st (untilRows A k) w = min w.length k * A.length + st A (cutW k w) := by
    have h := stF_until g.ok k (w := w) (i := 0) (s := 0) hw (Nat.zero_le _) g.ok.pos
    rw [Nat.zero_mul, Nat.zero_add, Nat.zero_add, Nat.sub_zero] at h
    exact h
  refine ⟨e, ?_⟩
  rw [e, ← g.len]
  exact repF_at (by omega) (by rw [g.len]; exact g.ok.st_lt (cutW_4 hw) g.ok.pos)
theorem every_st (g : Good A F) {d t : Nat} (hd : 0 < d) {w : List Nat} (hw : W4 w) : st (everyRows A d t) w = w.length % d * A.length + st A (sieveW d t 0 w) ∧ (repF F d).getD (st (everyRows A d t) w) false = F.getD (st A (sieveW d t 0 w)) false := by
  have e : st (everyRows A d t) w = w.length % d * A.length + st A (sieveW d t 0 w) := by
    have h := stF_every g.ok hd (t := t) (w := w) (i := 0) (s := 0) hw g.ok.pos
    rw [Nat.zero_mod, Nat.zero_mul, Nat.zero_add, Nat.zero_add] at h
    exact h
  refine ⟨e, ?_⟩
  rw [e, ← g.len]
  exact repF_at (Nat.mod_lt _ hd) (by rw [g.len]; exact g.ok.st_lt (sieveW_4 hw) g.ok.pos)
theorem turns_st {order nexts : List (List Nat)} (h : Expl (dl2 A B) [0, 0] order nexts) (hl : order.length ≤ nexts.length) {w : List Nat} (hw : W4 w) :
    st (turnRows nexts order.length) w = w.length % 2 * nexts.length + order.idxOf (key2 A B w) ∧ (turnFlags F G order).getD (st (turnRows nexts order.length) w) false = if w.length % 2 = 0 then F.getD (st A w) false else G.getD (st B w) false := by
  have hlen : nexts.length = order.length := Nat.le_antisymm h.le hl
  have ok := h.ok hl
  have e : st (turnRows nexts order.length) w = w.length % 2 * nexts.length + order.idxOf (key2 A B w) := by
    have q := stF_turns ok (w := w) (i := 0) (s := 0) hw ok.pos
    rw [Nat.zero_mod, Nat.zero_mul, Nat.zero_add, Nat.zero_add] at q
    rw [← hlen, ← run2, ← expl_key h hl w hw]
    exact q
  refine ⟨e, ?_⟩
  have hat := h.at_ hl hw
  rw [run2] at hat
  have hst : st nexts w = order.idxOf (key2 A B w) := by rw [← run2]; exact expl_key h hl w hw
  have hlt := (List.getElem?_eq_some_iff.mp hat).1
  rw [e, ← hst]
  unfold turnFlags
  by_cases p : w.length % 2 = 0
  · rw [if_pos p, p, Nat.zero_mul, Nat.zero_add, List.getD_eq_getElem?_getD, List.getElem?_append_left (by rw [List.length_map]; exact hlt)]
    rw [map_at (f := fun p : List Nat => F.getD (p.getD 0 0) false) hat] <;> rfl
  · have p1 : w.length % 2 = 1 := by omega
    rw [if_neg p, p1, Nat.one_mul, hlen, List.getD_eq_getElem?_getD, List.getElem?_append_right (by rw [List.length_map]; omega), List.length_map, Nat.add_sub_cancel_left]
    rw [map_at (f := fun p : List Nat => G.getD (p.getD 1 0) false) hat] <;> rfl
end
end SR

/-! ### SR20 -/
set_option maxHeartbeats 4000000
namespace SR
open PySem PySem.Spec PyProof.Rows L2 SRR SRN SRZ
/-! ## rules as objects -/
def ruleFs (ra fa : Addr) : List (Str × V) := [(("row_list" : Str), .ref ra), (("flags" : Str), .ref fa)]
def RuleAt (CM : Addr) (H : Hp) (p : Addr) (A : List (List Nat)) (F : List Bool) : Prop := ∃ dx ra fa, H p = some (.ins CM dx (ruleFs ra fa)) ∧ TupsAt H ra A ∧ H fa = some (.lst (F.map V.bl))
theorem RuleAt.same {CM : Addr} {H H' : Hp} {p : Addr} {A : List (List Nat)} {F : List Bool} (s : Same H H') (h : RuleAt CM H p A F) : RuleAt CM H' p A F := let ⟨dx, ra, fa, h1, h2, h3⟩ := h; ⟨dx, ra, fa, s _ _ h1, h2.same s, s _ _ h3⟩
/-- what the text has written of MadeRule -/
structure Rf (K : PySem.W.Frag) (CM : Addr) : Prop where
  cl : Cls K CM
  nr : NoAttr K CM "row_list"
  nf : NoAttr K CM "flags"
abbrev sMkI : Stmt := inClass (top 56) 0
theorem scMkI : FnScope ["self", "rows", "flags"] ["self", "rows", "flags"] (defScope sMkI) := ⟨rfl, rfl, rfl, by decide +kernel, rfl, by decide +kernel, by decide +kernel⟩
def spMk (K : PySem.W.Frag) (CM CT : Addr) : Sp := fun vs H Q E => ∃ (H0 : Hp) (x dx a fa : Addr) (A : List (List Nat)) (F : List Bool), vs = [.ref x, .ref a, .ref fa] ∧ Same H0 H ∧ H0 x = none ∧ H x = some (.ins CM dx []) ∧ RowsAt K H a A ∧ SqL K H fa (F.map V.bl) ∧
  OkR A ∧ F.length = A.length ∧ A.length ≤ 60000 ∧ (∀ S, IsReached A S → S.length ≤ 4094 ∧ (100 < S.length → ∀ (d : Addr) (H' : Hp), Same H0 H' → E (.ref CT) (some d) H')) ∧
  ∀ (H' : Hp) (A' : List (List Nat)) (F' : List Bool), Same H0 H' → RuleAt CM H' x A' F' → Least A F A' F' → Q .non H'
section
variable {P : Program} {w : World} {K : PySem.W.Frag} {mg : Str → Option Value} {base : Heap} {CM CT : Addr}
theorem ok_mk {f : Addr} {fd : FuncData} (F : Fun K "__init__" "MadeRule.__init__" sMkI f fd) (R : Rf K CM) (GL : Fx P w K mg base (L2.CX P w) 5 "least_machine" ["rows", "flags"] (spLeast K CT)) : FnOk P w K mg base (L2.CX P w) 6 f fd ["self", "rows", "flags"] (spMk K CM CT) := by
  refine F.okX scMkI (fun vs H Q E h => ?_) (fun cdv A₀ outer s H vs Q E hr h => ?_)
  · obtain ⟨H0, x, dx, a, fa, A, F, rfl, _⟩ := h
    rfl
  · obtain ⟨H0, x, dx, a, fa, A, F, rfl, s0, hx0, hx, hA, hF, okA, lF, hz, hR, k⟩ := h
    refine ⟨_, (pss_one (ps_asg (pe_fx GL hr (passes_call (W := fun cls d _ H => E cls d H) (takes_of rfl rfl rfl rfl) (fun _ _ _ _ h => h)) (pa_cons (pv 1) (pa_cons (pv 2) (pa_nil)))) (pg_tup rfl (pgs_cons (pg_fld (pv 0)) (pgs_cons (pg_fld (pv 0)) pgs_nil))))), ?_⟩
    refine ⟨_, rfl, _, rfl, a, fa, A, F, rfl, hA, hF, okA, lF, hz, fun S hS => ⟨(hR S hS).1, fun h d H' s' => (hR S hS).2 h d H' (s0.trans s')⟩, fun H' t ne fl A' F' s' nne nfl ht hne hfl L => ?_⟩
    have hx' := s' _ _ hx
    have nx : ne ≠ x := fun z => by rw [z, hx] at nne; cases nne
    have fx : fl ≠ x := fun z => by rw [z, hx] at nfl; cases nfl
    refine ⟨t, _, rfl, SqT.of ht, rfl, _, _, rfl, ⟨_, rfl, x, CM, dx, _, rfl, hx', R.cl, R.nr, by decide, ?_⟩⟩
    refine ⟨_, _, rfl, ⟨_, rfl, x, CM, dx, _, rfl, upd_same, R.cl, R.nf, (by show 1 < 1000; decide), rfl, ?_⟩⟩
    have hne2 : TupsAt (upd (upd H' x (.ins CM dx (putF "row_list" (.ref ne) []))) x (.ins CM dx (putF "flags" (.ref fl) (putF "row_list" (.ref ne) [])))) ne A' := (hne.upd hx' (fun _ z => nomatch z) nx).upd upd_same (fun _ z => nomatch z) nx
    refine k _ A' F' (same_upd (same_upd (s0.trans s') hx0) hx0) ⟨dx, ne, fl, by rw [upd_same] <;> rfl, hne2, ?_⟩ L
    rw [upd_ne fx, upd_ne fx]
    exact hfl
end
/-- the class MadeRule, made -/
structure MkR (P : Program) (w : World) (K : PySem.W.Frag) (mg : Str → Option Value) (base : Heap) (CM CT : Addr) : Prop where
  ex : ∃ (f : Addr) (fd : FuncData), Mk K CM f ∧ FnOk P w K mg base (L2.CX P w) 6 f fd ["self", "rows", "flags"] (spMk K CM CT) ∧ mg "MadeRule" = some (.ref CM) ∧ Binds K fd ["self", "rows", "flags"] []
theorem pe_mk {X : Cx} {CM CT : Addr} {e : Expr} {es : List Expr} {t : TA} {E : XK} {p pos : Pos} (M : MkR X.prog X.w X.K X.mg X.base CM CT) (hr : Room 7 X.A) (hx : Passes (L2.CX X.prog X.w) X E) (ha : PA X (e :: es) t) (hg : Gl X "MadeRule" := by rfl)
    (he : starEach (e :: es) X.env = (false, eval e X.env) :: starEach es X.env := by rfl) (hpl : (backTo pos (starEach es X.env)).any (·.1) = false := by rfl) :
    PE X (.Call (.Name "MadeRule" p) (e :: es) [] pos) (tMake CM (spMk X.K CM CT) [] E t) := by
  obtain ⟨f, fd, M, F, hm, hb⟩ := M.ex
  exact pe_make M F hr hg hm hb .nil hx ha (by decide) he hpl
theorem mk_rd {K : PySem.W.Frag} {CM CT : Addr} {H1 : Hp} {a fa : Addr} {A : List (List Nat)} {F : List Bool} {Q : VK} {E : XK} (hA : RowsAt K H1 a A) (hF : SqL K H1 fa (F.map V.bl)) (okA : OkR A) (lF : F.length = A.length) (hz : A.length ≤ 60000)
    (hR : ∀ S, IsReached A S → S.length ≤ 4094 ∧ (100 < S.length → ∀ (d : Addr) (H' : Hp), Same H1 H' → E (.ref CT) (some d) H')) (k : ∀ (H' : Hp) (x : Addr) (A' : List (List Nat)) (F' : List Bool), Same H1 H' → RuleAt CM H' x A' F' → Least A F A' F' → Q (.ref x) H') :
    ∀ x dx, H1 x = none → H1 dx = none → dx ≠ x → spMk K CM CT (.ref x :: ([.ref a, .ref fa] ++ [])) (upd (upd H1 dx (.own x)) x (.ins CM dx [])) (fun v H2 => v = .non ∧ Q (.ref x) H2) E := by
  intro x dx hx hdx ne
  have m : Same H1 (upd (upd H1 dx (.own x)) x (.ins CM dx [])) := same_new (same_up1 hdx) (by rw [upd_ne (Ne.symm ne)]; exact hx)
  exact ⟨H1, x, dx, a, fa, A, F, rfl, m, hx, upd_same, rows_same m hA, m.seq hF, okA, lF, hz, hR, fun H' A' F' s' hr L => ⟨rfl, k H' x A' F' s' hr L⟩⟩
/-! ## contained -/
abbrev sContained : Stmt := top 54
theorem scContained : FnScope ["one", "other", "pairs", "nexts", "here", "there"] ["one", "other"] (defScope sContained) := ⟨rfl, rfl, rfl, by decide +kernel, rfl, by decide +kernel, by decide +kernel⟩
/-- every word of the one is one of the other -/
def Sub (A : List (List Nat)) (F : List Bool) (B : List (List Nat)) (G : List Bool) : Prop := ∀ w, W4 w → F.getD (st A w) false = true → G.getD (st B w) false = true
def spContained (CM : Addr) : Sp := fun vs H Q _ => ∃ (p q : Addr) (A : List (List Nat)) (F : List Bool) (B : List (List Nat)) (G : List Bool), vs = [.ref p, .ref q] ∧ RuleAt CM H p A F ∧ RuleAt CM H q B G ∧ Good A F ∧ Good B G ∧
  ∀ (H' : Hp) (c : Bool), Same H H' → (c = true ↔ Sub A F B G) → Q (.bl c) H'
end SR

/-! ### SR21 -/
set_option maxHeartbeats 4000000
namespace SR
open PySem PySem.Spec PyProof.Rows L2 SRR SRN SRZ
theorem pe_fldK {X : Cx} (K : PySem.W.Frag) {e : Expr} {ta : TE} {f : Str} {pos : Pos} (hK : X.K = K) (he : PE X e ta) (hb : attributeBase e f X.env (eval e X.env) = eval e X.env) : PE X (.Attribute e f pos) (tFld K ta f) := by
  subst hK
  exact pe_fld he hb
section
variable {P : Program} {w : World} {K : PySem.W.Frag} {mg : Str → Option Value} {base : Heap} {CM CT : Addr}
theorem ok_contained {f : Addr} {fd : FuncData} (F : Fun K "contained" "contained" sContained f fd) (T : Tx K mg) (R : Rf K CM) (GB : Fx P w K mg base CX0 1 "both_read" ["rows", "others"] (spBothRead K)) : FnOk P w K mg base CX0 2 f fd ["one", "other"] (spContained CM) := by
  refine F.ok scContained (fun vs H Q E h => ?_) (fun cdv A₀ outer s H vs Q E hr h => ?_)
  · obtain ⟨p, q, A, F, B, G, rfl, _⟩ := h
    rfl
  · obtain ⟨p, q, A, F, B, G, rfl, ⟨dx, ra, fa, hp, hA, hF⟩, ⟨dy, rb, fb, hq, hB, hG⟩, gA, gB, k⟩ := h
    have nd := scContained.nd
    refine ⟨_,
    (pss_cons (ps_asg (pe_fx GB hr pass0 (pa_cons (pe_fld (pv 0) rfl) (pa_cons (pe_fld (pv 1) rfl) (pa_nil)))) (pg_tup rfl (pgs_cons (pg_name (i := 2) nd rfl (.inl rfl)) (pgs_cons (pg_name (i := 3) nd rfl (.inl rfl)) pgs_nil))))
    (pss_one (ps_ret (pe_not (pe_callB (cr_any rfl) (by rfl) T.any (by decide +kernel) (pa_cons (pe_lc (own := [("here", 4), ("there", 5)]) rfl nd (pi_list (pv 2)) (blkOk_by (own := [("here", 4), ("there", 5)]) (N := ["one", "other", "pairs", "nexts", "here", "there"]) (sc := defScope sContained) (by decide +kernel)) (fun _ _ _ _ _ => (pg_tupK K 2 rfl rfl (pgs_cons (pg_name (i := 4) nd rfl (.inl rfl)) (pgs_cons (pg_name (i := 5) nd rfl (.inl rfl)) pgs_nil)))) (fun _ _ _ _ _ => pts_nil) (fun _ _ _ _ _ => (pe_and (pe_ix (ix_listK K) (pe_fldK K rfl (pv 0) rfl) (pv 4) (fun _ _ => rfl)) (pe_one (pe_not (pe_ix (ix_listK K) (pe_fldK K rfl (pv 1) rfl) (pv 5) (fun _ _ => rfl))))))) (pa_nil))))))), ?_⟩
    have hsz : A.length * B.length ≤ 60000 := Nat.le_trans (Nat.mul_le_mul gA.most gB.most) (by decide)
    refine ⟨_, rfl, p, CM, dx, _, _, rfl, hp, R.cl, R.nr, rfl, _, rfl, q, CM, dy, _, _, rfl, hq, R.cl, R.nr, rfl, ra, rb, A, B, rfl, hA.rows, hB.rows, gA.ok, gB.ok, hsz, fun H1 t pa ne order nexts s1 npa nne ht hpa hne X hge hle => ?_⟩
    refine ⟨t, _, rfl, SqT.of ht, rfl, _, _, rfl, _, _, rfl, rfl, ?_⟩
    obtain ⟨xs, hxs, hxl⟩ := hpa.lst
    refine ⟨_, rfl, pa, rfl, ⟨_, SqL.of hxs⟩, fun D hD => ?_⟩
    let bad : List Nat → Bool := fun s => F.getD (s.getD 0 0) false && !(G.getD (s.getD 1 0) false)
    refine lc_list (K := K) (a := pa) (xs := xs) (MI H1 D ((order.map bad).map V.bl)) (.start hD) (fun i H2 _ m => SqL.of (m.1 _ _ hxs)) ?_ ?_
    · intro i v H2 hi m
      have hil := (List.getElem?_eq_some_iff.mp hi).1
      obtain ⟨s0, hs0⟩ : ∃ s, order[i]? = some s := ⟨order[i], List.getElem?_eq_getElem (by omega)⟩
      obtain ⟨w0, hw0, ew⟩ := X.re s0 (List.mem_of_getElem? hs0)
      rw [run2] at ew
      subst ew
      obtain ⟨tp, htp, htp2⟩ := hpa.at_ hxs hs0
      rw [hi] at htp
      have ev : v = .ref tp := Option.some.inj htp
      subst ev
      have hx : st A w0 < F.length := by
        rw [gA.len]
        exact gA.ok.st_lt hw0 gA.ok.pos
      have hy : st B w0 < G.length := by
        rw [gB.len]
        exact gB.ok.st_lt hw0 gB.ok.pos
      have e1 : F[st A w0]? = some F[st A w0] := List.getElem?_eq_getElem hx
      have e2 : G[st B w0]? = some G[st B w0] := List.getElem?_eq_getElem hy
      have hfin : ∀ c : Bool, c = bad (key2 A B w0) → ∃ acc, H2 D = some (.lst acc) ∧ acc.length < sizeLine ∧ MI H1 D ((order.map bad).map V.bl) (i + 1) (upd H2 D (.lst (acc ++ [.bl c]))) := fun c hc => by
        refine m.step (by rw [hc]; exact map_at (map_at (f := bad) hs0)) hD ?_
        rw [List.length_map, List.length_map]
        exact Nat.le_trans (by omega : order.length ≤ 60000) (by decide)
      have eb : bad (key2 A B w0) = (F[st A w0] && !G[st B w0]) := by
        show (F.getD (st A w0) false && !(G.getD (st B w0) false)) = _
        rw [getD_of e1, getD_of e2]
      have s2 := s1.trans m.1
      refine ⟨tp, _, rfl, SqT.of (m.1 _ _ htp2), rfl, _, _, rfl, _, _, rfl, rfl, rfl, tyesT ?_⟩
      refine ⟨_, rfl, p, CM, dx, _, _, rfl, s2 _ _ hp, R.cl, R.nf, rfl, _, rfl, fa, _, _, _, rfl, rfl, SqL.of (s2 _ _ hF), at_of rfl (map_at e1), F[st A w0], rfl, ?_⟩
      refine ite2 (fun h1 => ?_) (fun h1 => hfin false (by rw [eb, Bool.eq_false_iff.mpr h1] <;> rfl))
      refine ⟨_, rfl, q, CM, dy, _, _, rfl, s2 _ _ hq, R.cl, R.nf, rfl, _, rfl, fb, _, _, _, rfl, rfl, SqL.of (s2 _ _ hG), at_of rfl (map_at e2), G[st B w0], rfl, hfin _ (by rw [eb, h1] <;> rfl)⟩
    · intro H2 m
      obtain ⟨m1, m2⟩ := m.fin (by rw [List.length_map, List.length_map, hxl])
      refine ⟨D, order.map bad, rfl, SqL.of m2, _, rfl, k H2 _ (s1.trans m1) ?_⟩
      rw [List.any_map]
      constructor
      · intro hn w0 hw0 hF1
        have hat := X.at_ hge hw0
        rw [run2] at hat
        have hb : bad (key2 A B w0) = false := by
          have : ¬ (order.any (id ∘ bad)) = true := by simpa using hn
          cases hb : bad (key2 A B w0) with
          | false => rfl
          | true => exact absurd (List.any_eq_true.mpr ⟨_, List.mem_of_getElem? hat, hb⟩) this
        have hb' : (F.getD (st A w0) false && !(G.getD (st B w0) false)) = false := hb
        rw [hF1] at hb'
        simpa using hb'
      · intro hs
        have : (order.any (id ∘ bad)) = false := by
          refine List.any_eq_false.mpr fun s hs' => ?_
          obtain ⟨w0, hw0, ew⟩ := X.re s hs'
          rw [run2] at ew
          subst ew
          show ¬ (F.getD (st A w0) false && !(G.getD (st B w0) false)) = true
          intro hb
          obtain ⟨h1, h2⟩ := Bool.and_eq_true_iff.mp hb
          rw [hs w0 hw0 h1] at h2
          cases h2
        rw [this] <;> rfl
end
end SR

/-! ### SR22 -/
set_option maxHeartbeats 4000000
namespace SR
open PySem PySem.Spec PyProof.Rows L2 SRR SRN SRZ
def Lim (CT : Addr) (H : Hp) (E : XK) (n : Nat) : Prop := n ≤ 4094 ∧ (100 < n → ∀ (d : Addr) (H' : Hp), Same H H' → E (.ref CT) (some d) H')
def GetsMade (CM : Addr) (H : Hp) (Q : VK) (n : Nat) (lang : List Nat → Bool) (key : List Nat → List Nat) : Prop := ∀ (H' : Hp) (x : Addr) (A' : List (List Nat)) (F' : List Bool), Same H H' → RuleAt CM H' x A' F' → Made A' F' n lang key → Q (.ref x) H'
theorem Lim.rd {CT : Addr} {H H1 : Hp} {E : XK} {n : Nat} {R : List (List Nat)} (l : Lim CT H E n) (s : Same H H1) (hf : ∀ S, IsReached R S → S.length ≤ n) : ∀ S, IsReached R S → S.length ≤ 4094 ∧ (100 < S.length → ∀ (d : Addr) (H' : Hp), Same H1 H' → E (.ref CT) (some d) H') := fun S hS =>
  ⟨Nat.le_trans (hf S hS) l.1, fun h d H' s' => l.2 (Nat.lt_of_lt_of_le h (hf S hS)) d H' (s.trans s')⟩
/-! ## shown_unlayered -/
abbrev sShown : Stmt := top 57
theorem scShown : FnScope ["rule"] ["rule"] (defScope sShown) := ⟨rfl, rfl, rfl, by decide +kernel, rfl, by decide +kernel, by decide +kernel⟩
def spShown (CM CT : Addr) : Sp := fun vs H Q E => ∃ (p : Addr) (A : List (List Nat)) (F : List Bool), vs = [.ref p] ∧ RuleAt CM H p A F ∧ Good A F ∧ (16 < A.length → ∀ (d : Addr) (H' : Hp), Same H H' → E (.ref CT) (some d) H') ∧
  (A.length ≤ 16 → (∀ H', Same H H' → LayeredM A F → Q .non H') ∧ ∀ (H' : Hp) (t : Addr) (x y : V), Same H H' → H' t = some (.tup [x, y]) → ¬ LayeredM A F → Q (.ref t) H')
abbrev sContains : Stmt := inClass (top 55) 7
theorem scContains : FnScope ["self", "x"] ["self", "x"] (defScope sContains) := ⟨rfl, rfl, rfl, by decide +kernel, rfl, by decide +kernel, by decide +kernel⟩
/-- x in y -/
def spContains (CM : Addr) : Sp := fun vs H Q _ => ∃ (p q : Addr) (A : List (List Nat)) (F : List Bool) (B : List (List Nat)) (G : List Bool), vs = [.ref q, .ref p] ∧ RuleAt CM H p A F ∧ RuleAt CM H q B G ∧ Good A F ∧ Good B G ∧
  ∀ (H' : Hp) (c : Bool), Same H H' → (c = true ↔ Sub A F B G) → Q (.bl c) H'
abbrev sAnd : Stmt := inClass (top 55) 8
theorem scAnd : FnScope ["self", "other", "pairs", "nexts", "one", "two"] ["self", "other"] (defScope sAnd) := ⟨rfl, rfl, rfl, by decide +kernel, rfl, by decide +kernel, by decide +kernel⟩
def spAnd (CM CT : Addr) : Sp := fun vs H Q E => ∃ (p q : Addr) (A : List (List Nat)) (F : List Bool) (B : List (List Nat)) (G : List Bool) (n : Nat), vs = [.ref p, .ref q] ∧ RuleAt CM H p A F ∧ RuleAt CM H q B G ∧ Good A F ∧ Good B G ∧
  Few (key2 A B) n ∧ Lim CT H E n ∧ GetsMade CM H Q n (fun w => F.getD (st A w) false && G.getD (st B w) false) (key2 A B)
abbrev sShift : Stmt := inClass (top 55) 9
theorem scShift : FnScope ["self", "other", "shown", "rows", "flags"] ["self", "other"] (defScope sShift) := ⟨rfl, rfl, rfl, by decide +kernel, rfl, by decide +kernel, by decide +kernel⟩
def thenL (A : List (List Nat)) (F : List Bool) (B : List (List Nat)) (G : List Bool) (w : List Nat) : Bool := F.getD (st A w) false || (!(F.getD (st A (w.map mir)) false) && G.getD (st B w) false)
def spShift (CM CT : Addr) : Sp := fun vs H Q E => ∃ (p q : Addr) (A : List (List Nat)) (F : List Bool) (B : List (List Nat)) (G : List Bool) (n : Nat), vs = [.ref p, .ref q] ∧ RuleAt CM H p A F ∧ RuleAt CM H q B G ∧ Good A F ∧ Good B G ∧ LayeredM A F ∧
  (16 < A.length → ∀ (d : Addr) (H' : Hp), Same H H' → E (.ref CT) (some d) H') ∧ (A.length ≤ 16 → Few (key3 A B) n ∧ Lim CT H E n ∧ GetsMade CM H Q n (thenL A F B G) (key3 A B))
abbrev sInv : Stmt := inClass (top 55) 10
theorem scInv : FnScope ["self", "row"] ["self"] (defScope sInv) := ⟨rfl, rfl, rfl, by decide +kernel, rfl, by decide +kernel, by decide +kernel⟩
def spInv (CM CT : Addr) : Sp := fun vs H Q E => ∃ (p : Addr) (A : List (List Nat)) (F : List Bool) (n : Nat), vs = [.ref p] ∧ RuleAt CM H p A F ∧ Good A F ∧ Few (keyM A) n ∧ Lim CT H E n ∧ GetsMade CM H Q n (fun w => F.getD (st A (w.map mir)) false) (keyM A)
abbrev sIsL : Stmt := inClass (top 55) 11
theorem scIsL : FnScope ["self"] ["self"] (defScope sIsL) := ⟨rfl, rfl, rfl, by decide +kernel, rfl, by decide +kernel, by decide +kernel⟩
def spIsL (CM : Addr) : Sp := fun vs H Q _ => ∃ (p : Addr) (A : List (List Nat)) (F : List Bool), vs = [.ref p] ∧ RuleAt CM H p A F ∧ Good A F ∧ A.length ≤ 16 ∧ ∀ (H' : Hp) (c : Bool), Same H H' → (c = true ↔ LayeredM A F) → Q (.bl c) H'
abbrev sUntil : Stmt := inClass (top 55) 12
theorem scUntil : FnScope ["self", "number", "rows", "flags"] ["self", "number"] (defScope sUntil) := ⟨rfl, rfl, rfl, by decide +kernel, rfl, by decide +kernel, by decide +kernel⟩
def spUntil (CM CT : Addr) : Sp := fun vs H Q E => ∃ (p : Addr) (A : List (List Nat)) (F : List Bool) (k n : Nat), vs = [.ref p, nv k] ∧ RuleAt CM H p A F ∧ Good A F ∧ k ≤ 30 ∧ Few (keyU A k) n ∧ Lim CT H E n ∧ GetsMade CM H Q n (fun w => F.getD (st A (cutW k w)) false) (keyU A k)
abbrev sEvery : Stmt := inClass (top 55) 13
theorem scEvery : FnScope ["self", "divisor", "rest", "rows", "flags"] ["self", "divisor", "rest"] (defScope sEvery) := ⟨rfl, rfl, rfl, by decide +kernel, rfl, by decide +kernel, by decide +kernel⟩
def spEvery (CM CT : Addr) : Sp := fun vs H Q E => ∃ (p : Addr) (A : List (List Nat)) (F : List Bool) (d t n : Nat), vs = [.ref p, nv d, nv t] ∧ RuleAt CM H p A F ∧ Good A F ∧ 0 < d ∧ d ≤ 6 ∧ t < d ∧ Few (keyE A d t) n ∧ Lim CT H E n ∧ GetsMade CM H Q n (fun w => F.getD (st A (sieveW d t 0 w)) false) (keyE A d t)
abbrev sTurns : Stmt := inClass (top 55) 14
theorem scTurns : FnScope ["self", "other", "rows", "flags"] ["self", "other"] (defScope sTurns) := ⟨rfl, rfl, rfl, by decide +kernel, rfl, by decide +kernel, by decide +kernel⟩
def turnsL (A : List (List Nat)) (F : List Bool) (B : List (List Nat)) (G : List Bool) (w : List Nat) : Bool := if w.length % 2 = 0 then F.getD (st A w) false else G.getD (st B w) false
def spTurns (CM CT : Addr) : Sp := fun vs H Q E => ∃ (p q : Addr) (A : List (List Nat)) (F : List Bool) (B : List (List Nat)) (G : List Bool) (n : Nat), vs = [.ref p, .ref q] ∧ RuleAt CM H p A F ∧ RuleAt CM H q B G ∧ Good A F ∧ Good B G ∧
  Few (keyT A B) n ∧ Lim CT H E n ∧ GetsMade CM H Q n (turnsL A F B G) (keyT A B)
abbrev sStates : Stmt := inClass (top 55) 3
theorem scStates : FnScope ["self"] ["self"] (defScope sStates) := ⟨rfl, rfl, rfl, by decide +kernel, rfl, by decide +kernel, by decide +kernel⟩
def spStates (CM : Addr) : Sp := fun vs H Q _ => ∃ (p : Addr) (A : List (List Nat)) (F : List Bool), vs = [.ref p] ∧ RuleAt CM H p A F ∧ Q (nv A.length) H
section
variable {P : Program} {w : World} {K : PySem.W.Frag} {mg : Str → Option Value} {base : Heap} {CM CT : Addr}
theorem ok_shown {f : Addr} {fd : FuncData} (F : Fun K "shown_unlayered" "shown_unlayered" sShown f fd) (T : Tx K mg) (TN : Tn mg) (TM : Tm K mg CT) (R : Rf K CM) (GU : Fx P w K mg base CX0 4 "unlayered" ["rows", "flags"] (spUnlayered K)) : FnOk P w K mg base (L2.CX P w) 5 f fd ["rule"] (spShown CM CT) := by
  refine F.okX scShown (fun vs H Q E h => ?_) (fun cdv A₀ outer s H vs Q E hr h => ?_)
  · obtain ⟨p, A, F, rfl, _⟩ := h
    rfl
  · obtain ⟨p, A, F, rfl, ⟨dx, ra, fa, hp, hA, hF⟩, g, kE, k⟩ := h
    obtain ⟨um, hum, rum⟩ := TN.layered
    refine ⟨_,
    (pss_cons (ps_if (pt_cmpR op_gt (pe_callB call_len_seq (by rfl) T.len PySem.boot_len (pa_cons (pe_fld (pv 0) rfl) (pa_nil))) (pe_glob rfl hum rum) (nomark _)) 
      (pss_one (ps_tooMany (W := fun cls d _ H => E cls d H) rfl TM (hr.mono (by decide)) (takes_of rfl rfl rfl rfl) (pa_cons (pe_glob rfl hum rum) pa_nil))) pss_nil)
    (pss_one (ps_ret (pe_fx GU hr pass0 (pa_cons (pe_fld (pv 0) rfl) (pa_cons (pe_fld (pv 0) rfl) (pa_nil))))))), ?_⟩
    obtain ⟨xs, hxs, hxl⟩ := hA.lst
    refine ⟨_, rfl, p, CM, dx, _, _, rfl, hp, R.cl, R.nr, rfl, ra, _, rfl, .inl (SqL.of hxs), _, _, rfl, rfl, _, rfl, ?_⟩
    refine ite2 (fun hc => ?_) (fun hc => ?_)
    · have := of_decide_eq_true hc
      exact tooMany_rd fun d H' s' => kE (by omega) d H' s'
    · have := of_decide_eq_false (Bool.eq_false_iff.mpr hc)
      obtain ⟨k0, k1⟩ := k (by omega)
      exact ⟨_, rfl, p, CM, dx, _, _, rfl, hp, R.cl, R.nr, rfl, _, rfl, p, CM, dx, _, _, rfl, hp, R.cl, R.nf, rfl, ra, fa, A, F, rfl, hA.rows, SqL.of hF, g.ok, g.len, by omega, k0, k1⟩
theorem ok_states {f : Addr} {fd : FuncData} (F : Fun K "states" "Rule.states" sStates f fd) (T : Tx K mg) (R : Rf K CM) : FnOk P w K mg base CX0 1 f fd ["self"] (spStates CM) := by
  refine F.ok scStates (fun vs H Q E h => ?_) (fun cdv A₀ outer s H vs Q E hr h => ?_)
  · obtain ⟨p, A, F, rfl, _⟩ := h
    rfl
  · obtain ⟨p, A, F, rfl, ⟨dx, ra, fa, hp, hA, hF⟩, k⟩ := h
    refine ⟨_, (pss_one (ps_ret (pe_callB call_len_seq (by rfl) T.len PySem.boot_len (pa_cons (pe_fld (pv 0) rfl) (pa_nil))))), ?_⟩
    obtain ⟨xs, hxs, hxl⟩ := hA.lst
    refine ⟨_, rfl, p, CM, dx, _, _, rfl, hp, R.cl, R.nr, rfl, ra, _, rfl, .inl (SqL.of hxs), ?_⟩
    have e : V.int ((xs.length : Nat) : Int) = nv A.length := by rw [hxl] <;> rfl
    rw [e]
    exact k
theorem ok_isL {f : Addr} {fd : FuncData} (F : Fun K "is_layered" "Rule.is_layered" sIsL f fd) (GS : Fx P w K mg base (L2.CX P w) 5 "shown_unlayered" ["rule"] (spShown CM CT)) : FnOk P w K mg base CX0 6 f fd ["self"] (spIsL CM) := by
  refine F.ok scIsL (fun vs H Q E h => ?_) (fun cdv A₀ outer s H vs Q E hr h => ?_)
  · obtain ⟨p, A, F, rfl, _⟩ := h
    rfl
  · obtain ⟨p, A, F, rfl, hp, g, h16, k⟩ := h
    refine ⟨_, (pss_one (ps_ret (pe_cmpR op_isN (pe_fx GS hr passL (pa_cons (pv 0) (pa_nil))) pe_non (nomark _)))), ?_⟩
    refine ⟨_, rfl, p, A, F, rfl, hp, g, fun h => absurd h (by omega), fun _ => ⟨fun H' s' hl => ⟨rfl, k H' _ s' ?_⟩, fun H' t x y s' ht hl => ⟨rfl, k H' _ s' ?_⟩⟩⟩
    · exact ⟨fun _ => hl, fun _ => decide_eq_true rfl⟩
    · exact ⟨fun e => absurd (of_decide_eq_true e) (fun z => nomatch z), fun e => absurd e hl⟩
end
end SR

/-! ### SR23 -/
set_option maxHeartbeats 4000000
namespace SR
open PySem PySem.Spec PyProof.Rows L2 SRR SRN SRZ
structure Ri (K : PySem.W.Frag) (mg : Str → Option Value) (CM : Addr) : Prop where
  rule : ∃ CR, mg "Rule" = some (.ref CR) ∧ PySem.W.kitOne K (.ref CM) (.ref CR) = some true
  cc : PySem.W.findIn K (.ref CM) "__class__" = some (some (.builtin "object.__class__"))
  cg : PySem.W.specialIn K (.builtin "object.__class__") "__get__" = some (some (.builtin "getset_descriptor.__get__"))
  ct : PySem.W.takesIn K (.builtin "object.__class__") = some true
  cm : PySem.W.mroIn K CM (.type "object") = some true
section
variable {P : Program} {w : World} {K : PySem.W.Frag} {mg : Str → Option Value} {base : Heap} {CM CT : Addr}
theorem ok_contains {f : Addr} {fd : FuncData} (F : Fun K "__contains__" "Rule.__contains__" sContains f fd) (T : Tx K mg) (R : Rf K CM) (I : Ri K mg CM) (GC : Fx P w K mg base CX0 2 "contained" ["one", "other"] (spContained CM)) : FnOk P w K mg base CX0 3 f fd ["self", "x"] (spContains CM) := by
  refine F.ok scContains (fun vs H Q E h => ?_) (fun cdv A₀ outer s H vs Q E hr h => ?_)
  · obtain ⟨p, q, A, F, B, G, rfl, _⟩ := h
    rfl
  · obtain ⟨p, q, A, F, B, G, rfl, hp, hq, gA, gB, k⟩ := h
    obtain ⟨CR, hCR, hkit⟩ := I.rule
    refine ⟨_, (pss_one (ps_ret (pe_and (pe_callB call_isi (by rfl) T.isinstance (by decide +kernel) (pa_cons (pv 1) (pa_cons (pe_glob (v := .ref CR) rfl hCR rfl) (pa_nil)))) (pe_one (pe_fx GC hr pass0 (pa_cons (pv 1) (pa_cons (pv 0) (pa_nil)))))))), ?_⟩
    obtain ⟨dx, ra, fa, hp1, hp2, hp3⟩ := id hp
    refine ⟨_, rfl, _, _, _, _, true, rfl, .own CR, .base (.ins hp1 R.cl I.cc I.cg I.ct I.cm), hkit, true, rfl, ?_⟩
    refine iteT ?_
    exact ⟨_, rfl, _, rfl, p, q, A, F, B, G, rfl, hp, hq, gA, gB, k⟩
theorem ok_and {f : Addr} {fd : FuncData} (F : Fun K "__and__" "Rule.__and__" sAnd f fd) (R : Rf K CM) (GB : Fx P w K mg base CX0 1 "both_read" ["rows", "others"] (spBothRead K)) (M : MkR P w K mg base CM CT) : FnOk P w K mg base (L2.CX P w) 8 f fd ["self", "other"] (spAnd CM CT) := by
  refine F.okX scAnd (fun vs H Q E h => ?_) (fun cdv A₀ outer s H vs Q E hr h => ?_)
  · obtain ⟨p, q, A, F, B, G, n, rfl, _⟩ := h
    rfl
  · obtain ⟨p, q, A, F, B, G, n, rfl, ⟨dx, ra, fa, hp, hA, hF⟩, ⟨dy, rb, fb, hq, hB, hG⟩, gA, gB, few, lim, k⟩ := h
    have nd := scAnd.nd
    refine ⟨_,
    (pss_cons (ps_asg (pe_fx GB (hr.mono (by decide)) pass0 (pa_cons (pe_fld (pv 0) rfl) (pa_cons (pe_fld (pv 1) rfl) (pa_nil)))) (pg_tup rfl (pgs_cons (pg_name (i := 2) nd rfl (.inl rfl)) (pgs_cons (pg_name (i := 3) nd rfl (.inl rfl)) pgs_nil))))
    (pss_one (ps_ret (pe_mk M hr (passes_call (W := fun cls d _ H => E cls d H) (takes_of rfl rfl rfl rfl) (fun _ _ _ _ h => h)) (pa_cons (pv 3) (pa_cons (pe_lc (own := [("one", 4), ("two", 5)]) rfl nd (pi_list (pv 2)) (blkOk_by (own := [("one", 4), ("two", 5)]) (N := ["self", "other", "pairs", "nexts", "one", "two"]) (sc := defScope sAnd) (by decide +kernel)) (fun _ _ _ _ _ => (pg_tupK K 2 rfl rfl (pgs_cons (pg_name (i := 4) nd rfl (.inl rfl)) (pgs_cons (pg_name (i := 5) nd rfl (.inl rfl)) pgs_nil)))) (fun _ _ _ _ _ => pts_nil) (fun _ _ _ _ _ => (pe_and (pe_ix (ix_listK K) (pe_fldK K rfl (pv 0) rfl) (pv 4) (fun _ _ => rfl)) (pe_one (pe_ix (ix_listK K) (pe_fldK K rfl (pv 1) rfl) (pv 5) (fun _ _ => rfl)))))) (pa_nil))))))), ?_⟩
    have hsz : A.length * B.length ≤ 60000 := Nat.le_trans (Nat.mul_le_mul gA.most gB.most) (by decide)
    refine ⟨_, rfl, p, CM, dx, _, _, rfl, hp, R.cl, R.nr, rfl, _, rfl, q, CM, dy, _, _, rfl, hq, R.cl, R.nr, rfl, ra, rb, A, B, rfl, hA.rows, hB.rows, gA.ok, gB.ok, hsz, fun H1 t pa ne order nexts s1 npa nne ht hpa hne X hge hle => ?_⟩
    refine ⟨t, _, rfl, SqT.of ht, rfl, _, _, rfl, _, _, rfl, rfl, ?_⟩
    obtain ⟨xs, hxs, hxl⟩ := hpa.lst
    have hlen : nexts.length = order.length := Nat.le_antisymm X.le hge
    refine ⟨_, rfl, _, rfl, pa, rfl, ⟨_, SqL.of hxs⟩, fun D hD => ?_⟩
    let bad : List Nat → Bool := fun s => F.getD (s.getD 0 0) false && G.getD (s.getD 1 0) false
    refine lc_list (K := K) (a := pa) (xs := xs) (MI H1 D ((order.map bad).map V.bl)) (.start hD) (fun i H2 _ m => SqL.of (m.1 _ _ hxs)) ?_ ?_
    · intro i v H2 hi m
      have hil := (List.getElem?_eq_some_iff.mp hi).1
      obtain ⟨s0, hs0⟩ : ∃ s, order[i]? = some s := ⟨order[i], List.getElem?_eq_getElem (by omega)⟩
      obtain ⟨w0, hw0, ew⟩ := X.re s0 (List.mem_of_getElem? hs0)
      rw [run2] at ew
      subst ew
      obtain ⟨tp, htp, htp2⟩ := hpa.at_ hxs hs0
      rw [hi] at htp
      have ev : v = .ref tp := Option.some.inj htp
      subst ev
      have hx : st A w0 < F.length := by
        rw [gA.len]
        exact gA.ok.st_lt hw0 gA.ok.pos
      have hy : st B w0 < G.length := by
        rw [gB.len]
        exact gB.ok.st_lt hw0 gB.ok.pos
      have e1 : F[st A w0]? = some F[st A w0] := List.getElem?_eq_getElem hx
      have e2 : G[st B w0]? = some G[st B w0] := List.getElem?_eq_getElem hy
      have hfin : ∀ c : Bool, c = bad (key2 A B w0) → ∃ acc, H2 D = some (.lst acc) ∧ acc.length < sizeLine ∧ MI H1 D ((order.map bad).map V.bl) (i + 1) (upd H2 D (.lst (acc ++ [.bl c]))) := fun c hc => by
        refine m.step (by rw [hc]; exact map_at (map_at (f := bad) hs0)) hD ?_
        rw [List.length_map, List.length_map]
        exact Nat.le_trans (by omega : order.length ≤ 60000) (by decide)
      have eb : bad (key2 A B w0) = (F[st A w0] && G[st B w0]) := by
        show (F.getD (st A w0) false && G.getD (st B w0) false) = _
        rw [getD_of e1, getD_of e2]
      have s2 := s1.trans m.1
      refine ⟨tp, _, rfl, SqT.of (m.1 _ _ htp2), rfl, _, _, rfl, _, _, rfl, rfl, rfl, tyesT ?_⟩
      refine ⟨_, rfl, p, CM, dx, _, _, rfl, s2 _ _ hp, R.cl, R.nf, rfl, _, rfl, fa, _, _, _, rfl, rfl, SqL.of (s2 _ _ hF), at_of rfl (map_at e1), F[st A w0], rfl, ?_⟩
      refine ite2 (fun h1 => ?_) (fun h1 => hfin false (by rw [eb, Bool.eq_false_iff.mpr h1] <;> rfl))
      exact ⟨_, rfl, q, CM, dy, _, _, rfl, s2 _ _ hq, R.cl, R.nf, rfl, _, rfl, fb, _, _, _, rfl, rfl, SqL.of (s2 _ _ hG), at_of rfl (map_at e2), hfin _ (by rw [eb, h1] <;> rfl)⟩
    · intro H2 m
      obtain ⟨m1, m2⟩ := m.fin (by rw [List.length_map, List.length_map, hxl])
      have hkey : ∃ φ : List Nat → Nat, ∀ w, W4 w → st nexts w = φ (key2 A B w) := ⟨fun s => order.idxOf s, fun w hw => by rw [← run2]; exact expl_key X hge w hw⟩
      refine mk_rd (hne.same m1).rows (SqL.of m2) (X.ok hge) (by rw [List.length_map, hlen]) (by omega) (lim.rd (s1.trans m1) fun S hS => few_reached hkey few hS) fun H' x A' F' s' hr L => ?_
      refine k H' x A' F' ((s1.trans m1).trans s') hr (made_of L (fun w hw => ?_) hkey few)
      rw [expl_flag X hge bad w hw, run2] <;> rfl
theorem ok_shift {f : Addr} {fd : FuncData} (F : Fun K "__rshift__" "Rule.__rshift__" sShift f fd) (R : Rf K CM) (GS : Fx P w K mg base (L2.CX P w) 5 "shown_unlayered" ["rule"] (spShown CM CT)) (GT : Fx P w K mg base CX0 1 "tied_then" ["rows", "flags", "others", "marks"] (spTiedThen K)) (M : MkR P w K mg base CM CT) :
    FnOk P w K mg base (L2.CX P w) 8 f fd ["self", "other"] (spShift CM CT) := by
  refine F.okX scShift (fun vs H Q E h => ?_) (fun cdv A₀ outer s H vs Q E hr h => ?_)
  · obtain ⟨p, q, A, F, B, G, n, rfl, _⟩ := h
    rfl
  · obtain ⟨p, q, A, F, B, G, n, rfl, hp, hq, gA, gB, hl, kE, k⟩ := h
    have nd := scShift.nd
    refine ⟨_,
    (pss_cons (ps_set (i := 2) nd rfl (.inl rfl) (pe_fx GS (hr.mono (by decide)) (passes_call (W := fun cls d _ H => E cls d H) (takes_of rfl rfl rfl rfl) (fun _ _ _ _ h => h)) (pa_cons (pv 0) (pa_nil))))
    (pss_cons (ps_if (pt_cmpR op_notN (pv 2) pe_non (nomark _)) 
      (pss_one ps_never) pss_nil)
    (pss_cons (ps_asg (pe_fx GT (hr.mono (by decide)) pass0 (pa_cons (pe_fld (pv 0) rfl) (pa_cons (pe_fld (pv 0) rfl) (pa_cons (pe_fld (pv 1) rfl) (pa_cons (pe_fld (pv 1) rfl) (pa_nil)))))) (pg_tup rfl (pgs_cons (pg_name (i := 3) nd rfl (.inl rfl)) (pgs_cons (pg_name (i := 4) nd rfl (.inl rfl)) pgs_nil))))
    (pss_one (ps_ret (pe_mk M hr (passes_call (W := fun cls d _ H => E cls d H) (takes_of rfl rfl rfl rfl) (fun _ _ _ _ h => h)) (pa_cons (pv 3) (pa_cons (pv 4) (pa_nil))))))))), ?_⟩
    refine ⟨_, rfl, p, A, F, rfl, hp, gA, kE, fun h16 => ⟨fun H0 s0 _ => ?_, fun H0 t x y s0 ht hn => absurd hl hn⟩⟩
    obtain ⟨few, lim, k⟩ := k h16
    refine ⟨_, rfl, rfl, _, rfl, ?_⟩
    refine ite2 (fun z => absurd z (by decide)) (fun _ => ?_)
    obtain ⟨dx, ra, fa, hp, hA, hF⟩ := hp.same s0
    obtain ⟨dy, rb, fb, hq, hB, hG⟩ := hq.same s0
    have hsz : A.length * (A.length * B.length) ≤ 60000 := Nat.le_trans (Nat.mul_le_mul h16 (Nat.mul_le_mul h16 gB.most)) (by decide)
    refine ⟨_, rfl, p, CM, dx, _, _, rfl, hp, R.cl, R.nr, rfl, _, rfl, p, CM, dx, _, _, rfl, hp, R.cl, R.nf, rfl, _, rfl, q, CM, dy, _, _, rfl, hq, R.cl, R.nr, rfl, _, rfl, q, CM, dy, _, _, rfl, hq, R.cl, R.nf, rfl,
      ra, fa, rb, fb, A, B, F, G, rfl, hA.rows, SqL.of hF, hB.rows, SqL.of hG, gA.ok, gB.ok, gA.len, gB.len, hsz, fun H1 t ne fl order nexts s1 ht hne hfl X hge hle => ?_⟩
    refine ⟨t, _, rfl, SqT.of ht, rfl, _, _, rfl, _, _, rfl, rfl, ?_⟩
    have hlen : nexts.length = order.length := Nat.le_antisymm X.le hge
    have hkey : ∃ φ : List Nat → Nat, ∀ w, W4 w → st nexts w = φ (key3 A B w) := ⟨fun s => order.idxOf s, fun w hw => by rw [← run3]; exact expl_key X hge w hw⟩
    refine ⟨_, rfl, _, rfl, mk_rd hne.rows (SqL.of hfl) (X.ok hge) (by rw [List.length_map, hlen]) (by omega) (lim.rd (s0.trans s1) fun S hS => few_reached hkey few hS) fun H' x A' F' s' hr L => ?_⟩
    refine k H' x A' F' ((s0.trans s1).trans s') hr (made_of L (fun w hw => ?_) hkey few)
    rw [expl_flag X hge (thenFlag F G) w hw, run3] <;> rfl
theorem ok_inv {f : Addr} {fd : FuncData} (F : Fun K "__invert__" "Rule.__invert__" sInv f fd) (R : Rf K CM) (GM : Fx P w K mg base CX0 1 "mirrored" ["row"] (spMirrored K)) (M : MkR P w K mg base CM CT) : FnOk P w K mg base (L2.CX P w) 8 f fd ["self"] (spInv CM CT) := by
  refine F.okX scInv (fun vs H Q E h => ?_) (fun cdv A₀ outer s H vs Q E hr h => ?_)
  · obtain ⟨p, A, F, n, rfl, _⟩ := h
    rfl
  · obtain ⟨p, A, F, n, rfl, ⟨dx, ra, fa, hp, hA, hF⟩, gA, few, lim, k⟩ := h
    have nd := scInv.nd
    refine ⟨_,
    (pss_one (ps_ret (pe_mk M hr (passes_call (W := fun cls d _ H => E cls d H) (takes_of rfl rfl rfl rfl) (fun _ _ _ _ h => h)) (pa_cons (pe_lc (own := [("row", 1)]) rfl nd (pi_list (pe_fld (pv 0) rfl)) (blkOk_by (own := [("row", 1)]) (N := ["self", "row"]) (sc := defScope sInv) (by decide +kernel)) (fun _ _ _ _ _ => (pg_name (i := 1) nd rfl (.inl rfl))) (fun _ _ _ _ _ => pts_nil) (fun _ _ _ _ _ => (pe_fx GM (hr.mono (by decide)) pass0 (pa_cons (pv 1) (pa_nil))))) (pa_cons (pe_fld (pv 0) rfl) (pa_nil)))))), ?_⟩
    obtain ⟨xs, hxs, hxl⟩ := hA.lst
    refine ⟨_, rfl, p, CM, dx, _, _, rfl, hp, R.cl, R.nr, rfl, ra, rfl, ⟨_, SqL.of hxs⟩, fun D hD => ?_⟩
    refine lc_list (K := K) (a := ra) (xs := xs) (fun i H2 => Same H H2 ∧ TupsAt H2 D ((A.take i).map mirRow)) ⟨same_up1 hD, .nil upd_same⟩ (fun i H2 _ m => SqL.of (m.1 _ _ hxs)) ?_ ?_
    · rintro i v H2 hi ⟨s2, hD2⟩
      have hil := (List.getElem?_eq_some_iff.mp hi).1
      obtain ⟨r, hr1⟩ : ∃ r, A[i]? = some r := ⟨A[i], List.getElem?_eq_getElem (by omega)⟩
      obtain ⟨t1, ht1, ht2⟩ := hA.at_ hxs hr1
      rw [hi] at ht1
      have ev : v = .ref t1 := Option.some.inj ht1
      subst ev
      have h4 := (gA.ok.row r (List.mem_of_getElem? hr1)).1
      refine ⟨rfl, tyesT ⟨_, rfl, t1, r, rfl, SqT.of (s2 _ _ ht2), h4, fun H3 u s3 nu hu => ?_⟩⟩
      obtain ⟨ds, hds, hdl⟩ := (hD2.same s3).lst
      refine ⟨ds, hds, ?_, same_upd (s2.trans s3) hD, ?_⟩
      · rw [hdl, List.length_map, List.length_take]
        exact Nat.lt_of_le_of_lt (Nat.le_trans (Nat.min_le_right _ _) gA.most) (by decide)
      · have e : (A.take (i + 1)).map mirRow = (A.take i).map mirRow ++ [mirRow r] := by
          rw [take_succ hr1, List.map_append] <;> rfl
        rw [e]
        exact (hD2.same s3).push hds hu
    · rintro H2 ⟨s2, hD2⟩
      have e : A.take xs.length = A := List.take_of_length_le (by omega)
      rw [e] at hD2
      have hkey : ∃ φ : List Nat → Nat, ∀ w, W4 w → st (A.map mirRow) w = φ (keyM A w) := ⟨fun s => s.getD 0 0, fun w hw => stF_mir gA.ok hw gA.ok.pos⟩
      refine ⟨_, rfl, p, CM, dx, _, _, rfl, s2 _ _ hp, R.cl, R.nf, rfl, mk_rd hD2.rows (SqL.of (s2 _ _ hF)) (okR_mir gA.ok) (by rw [List.length_map, gA.len]) (by rw [List.length_map]; exact Nat.le_trans gA.most (by decide)) (lim.rd s2 fun S hS => few_reached hkey few hS) fun H' x A' F' s' hr L => ?_⟩
      refine k H' x A' F' (s2.trans s') hr (made_of L (fun w hw => ?_) hkey few)
      rw [show st (A.map mirRow) w = st A (w.map mir) from stF_mir gA.ok hw gA.ok.pos]
end
end SR

/-! ### SR24 -/
set_option maxHeartbeats 4000000
namespace SR
open PySem PySem.Spec PyProof.Rows L2 SRR SRN SRZ
section
variable {P : Program} {w : World} {K : PySem.W.Frag} {mg : Str → Option Value} {base : Heap} {CM CT : Addr}
theorem ok_until {f : Addr} {fd : FuncData} (F : Fun K "until" "Rule.until" sUntil f fd) (TN : Tn mg) (R : Rf K CM) (GC : Fx P w K mg base CX0 2 "checked_between" ["number", "least", "most"] spChecked) (GK : Fx P w K mg base CX0 1 "kept_until" ["rows", "flags", "number"] (spKeptUntil K)) (M : MkR P w K mg base CM CT) :
    FnOk P w K mg base (L2.CX P w) 8 f fd ["self", "number"] (spUntil CM CT) := by
  refine F.okX scUntil (fun vs H Q E h => ?_) (fun cdv A₀ outer s H vs Q E hr h => ?_)
  · obtain ⟨p, A, F, k, n, rfl, _⟩ := h
    rfl
  · obtain ⟨p, A, F, k, n, rfl, ⟨dx, ra, fa, hp, hA, hF⟩, gA, hk, few, lim, kQ⟩ := h
    obtain ⟨um, hum, rum⟩ := TN.until_
    have nd := scUntil.nd
    refine ⟨_,
    (pss_cons (ps_expr (pe_fx GC (hr.mono (by decide)) pass0 (pa_cons (pv 1) (pa_cons pe_int (pa_cons (pe_glob rfl hum rum) (pa_nil))))))
    (pss_cons (ps_asg (pe_fx GK (hr.mono (by decide)) pass0 (pa_cons (pe_fld (pv 0) rfl) (pa_cons (pe_fld (pv 0) rfl) (pa_cons (pv 1) (pa_nil))))) (pg_tup rfl (pgs_cons (pg_name (i := 2) nd rfl (.inl rfl)) (pgs_cons (pg_name (i := 3) nd rfl (.inl rfl)) pgs_nil))))
    (pss_one (ps_ret (pe_mk M hr (passes_call (W := fun cls d _ H => E cls d H) (takes_of rfl rfl rfl rfl) (fun _ _ _ _ h => h)) (pa_cons (pv 2) (pa_cons (pv 3) (pa_nil)))))))), ?_⟩
    refine ⟨_, rfl, (k : Int), 0, 30, rfl, by omega, by omega, ?_⟩
    refine ⟨_, rfl, p, CM, dx, _, _, rfl, hp, R.cl, R.nr, rfl, _, rfl, p, CM, dx, _, _, rfl, hp, R.cl, R.nf, rfl, _, rfl, ra, fa, A, F, k, rfl, hA, hF, gA.ok, gA.len, gA.most, hk, fun H1 t ne fo s1 ht hne hfo => ?_⟩
    refine ⟨t, _, rfl, SqT.of ht, rfl, _, _, rfl, _, _, rfl, rfl, ?_⟩
    obtain ⟨okU, lU⟩ := okR_until gA.ok k
    have hkey : ∃ φ : List Nat → Nat, ∀ w, W4 w → st (untilRows A k) w = φ (keyU A k w) := ⟨fun s => s.getD 0 0 * A.length + s.getD 1 0, fun w hw => (until_st gA hw).1⟩
    refine ⟨_, rfl, _, rfl, mk_rd hne.rows (SqL.of hfo) okU (by rw [repF_len, lU, gA.len]) ?_ (lim.rd s1 fun S hS => few_reached hkey few hS) fun H' x A' F' s' hr L => ?_⟩
    · rw [lU]
      exact Nat.le_trans (Nat.mul_le_mul (show k + 1 ≤ 31 by omega) gA.most) (by decide)
    · exact kQ H' x A' F' (s1.trans s') hr (made_of L (fun w hw => (until_st gA hw).2) hkey few)
theorem ok_every {f : Addr} {fd : FuncData} (F : Fun K "every" "Rule.every" sEvery f fd) (TN : Tn mg) (R : Rf K CM) (GC : Fx P w K mg base CX0 2 "checked_between" ["number", "least", "most"] spChecked) (GK : Fx P w K mg base CX0 1 "kept_every" ["rows", "flags", "divisor", "rest"] (spKeptEvery K)) (M : MkR P w K mg base CM CT) :
    FnOk P w K mg base (L2.CX P w) 8 f fd ["self", "divisor", "rest"] (spEvery CM CT) := by
  refine F.okX scEvery (fun vs H Q E h => ?_) (fun cdv A₀ outer s H vs Q E hr h => ?_)
  · obtain ⟨p, A, F, d, t, n, rfl, _⟩ := h
    rfl
  · obtain ⟨p, A, F, d, t, n, rfl, ⟨dx, ra, fa, hp, hA, hF⟩, gA, hd0, hd6, htd, few, lim, kQ⟩ := h
    obtain ⟨um, hum, rum⟩ := TN.divisor
    have nd := scEvery.nd
    refine ⟨_,
    (pss_cons (ps_expr (pe_fx GC (hr.mono (by decide)) pass0 (pa_cons (pv 1) (pa_cons pe_int (pa_cons (pe_glob rfl hum rum) (pa_nil))))))
    (pss_cons (ps_expr (pe_fx GC (hr.mono (by decide)) pass0 (pa_cons (pv 2) (pa_cons pe_int (pa_cons (pe_op op_sub (pv 1) pe_int) (pa_nil))))))
    (pss_cons (ps_asg (pe_fx GK (hr.mono (by decide)) pass0 (pa_cons (pe_fld (pv 0) rfl) (pa_cons (pe_fld (pv 0) rfl) (pa_cons (pv 1) (pa_cons (pv 2) (pa_nil)))))) (pg_tup rfl (pgs_cons (pg_name (i := 3) nd rfl (.inl rfl)) (pgs_cons (pg_name (i := 4) nd rfl (.inl rfl)) pgs_nil))))
    (pss_one (ps_ret (pe_mk M hr (passes_call (W := fun cls d _ H => E cls d H) (takes_of rfl rfl rfl rfl) (fun _ _ _ _ h => h)) (pa_cons (pv 3) (pa_cons (pv 4) (pa_nil))))))))), ?_⟩
    refine ⟨_, rfl, (d : Int), 1, 6, rfl, by omega, by omega, ?_⟩
    refine ⟨_, rfl, _, rfl, _, _, rfl, rfl, (t : Int), 0, (d : Int) - 1, rfl, by omega, by omega, ?_⟩
    refine ⟨_, rfl, p, CM, dx, _, _, rfl, hp, R.cl, R.nr, rfl, _, rfl, p, CM, dx, _, _, rfl, hp, R.cl, R.nf, rfl, _, rfl, _, rfl, ra, fa, A, F, d, t, rfl, hA, hF, gA.ok, gA.len, gA.most, ⟨hd0, hd6, htd⟩, fun H1 u ne fo s1 ht hne hfo => ?_⟩
    refine ⟨u, _, rfl, SqT.of ht, rfl, _, _, rfl, _, _, rfl, rfl, ?_⟩
    obtain ⟨okU, lU⟩ := okR_every gA.ok hd0 t
    have hkey : ∃ φ : List Nat → Nat, ∀ w, W4 w → st (everyRows A d t) w = φ (keyE A d t w) := ⟨fun s => s.getD 0 0 * A.length + s.getD 1 0, fun w hw => (every_st gA hd0 hw).1⟩
    refine ⟨_, rfl, _, rfl, mk_rd hne.rows (SqL.of hfo) okU (by rw [repF_len, lU, gA.len]) ?_ (lim.rd s1 fun S hS => few_reached hkey few hS) fun H' x A' F' s' hr L => ?_⟩
    · rw [lU]
      exact Nat.le_trans (Nat.mul_le_mul hd6 gA.most) (by decide)
    · exact kQ H' x A' F' (s1.trans s') hr (made_of L (fun w hw => (every_st gA hd0 hw).2) hkey few)
theorem ok_turns {f : Addr} {fd : FuncData} (F : Fun K "turns" "Rule.turns" sTurns f fd) (R : Rf K CM) (GB : Fx P w K mg base CX0 2 "by_turns" ["rows", "flags", "others", "marks"] (spByTurns K)) (M : MkR P w K mg base CM CT) :
    FnOk P w K mg base (L2.CX P w) 8 f fd ["self", "other"] (spTurns CM CT) := by
  refine F.okX scTurns (fun vs H Q E h => ?_) (fun cdv A₀ outer s H vs Q E hr h => ?_)
  · obtain ⟨p, q, A, F, B, G, n, rfl, _⟩ := h
    rfl
  · obtain ⟨p, q, A, F, B, G, n, rfl, ⟨dx, ra, fa, hp, hA, hF⟩, ⟨dy, rb, fb, hq, hB, hG⟩, gA, gB, few, lim, kQ⟩ := h
    have nd := scTurns.nd
    refine ⟨_,
    (pss_cons (ps_asg (pe_fx GB (hr.mono (by decide)) pass0 (pa_cons (pe_fld (pv 0) rfl) (pa_cons (pe_fld (pv 0) rfl) (pa_cons (pe_fld (pv 1) rfl) (pa_cons (pe_fld (pv 1) rfl) (pa_nil)))))) (pg_tup rfl (pgs_cons (pg_name (i := 2) nd rfl (.inl rfl)) (pgs_cons (pg_name (i := 3) nd rfl (.inl rfl)) pgs_nil))))
    (pss_one (ps_ret (pe_mk M hr (passes_call (W := fun cls d _ H => E cls d H) (takes_of rfl rfl rfl rfl) (fun _ _ _ _ h => h)) (pa_cons (pv 2) (pa_cons (pv 3) (pa_nil))))))), ?_⟩
    have hsz : A.length * B.length ≤ 20000 := Nat.le_trans (Nat.mul_le_mul gA.most gB.most) (by decide)
    refine ⟨_, rfl, p, CM, dx, _, _, rfl, hp, R.cl, R.nr, rfl, _, rfl, p, CM, dx, _, _, rfl, hp, R.cl, R.nf, rfl, _, rfl, q, CM, dy, _, _, rfl, hq, R.cl, R.nr, rfl, _, rfl, q, CM, dy, _, _, rfl, hq, R.cl, R.nf, rfl,
      ra, fa, rb, fb, A, B, F, G, rfl, hA, hF, hB, hG, gA.ok, gB.ok, gA.len, gB.len, hsz, fun H1 t ne fl order nexts s1 ht hne hfl X hge hle => ?_⟩
    refine ⟨t, _, rfl, SqT.of ht, rfl, _, _, rfl, _, _, rfl, rfl, ?_⟩
    have hlen : nexts.length = order.length := Nat.le_antisymm X.le hge
    have hok : OkR (turnRows nexts order.length) := by
      rw [← hlen]
      exact okR_turns (X.ok hge)
    have hl2 : (turnRows nexts order.length).length = order.length + order.length := by
      unfold turnRows
      rw [List.length_append, List.length_map, hlen]
    have hkey : ∃ φ : List Nat → Nat, ∀ w, W4 w → st (turnRows nexts order.length) w = φ (keyT A B w) := ⟨fun s => s.getD 0 0 * nexts.length + order.idxOf [s.getD 1 0, s.getD 2 0], fun w hw => (turns_st (F := F) (G := G) X hge hw).1⟩
    refine ⟨_, rfl, _, rfl, mk_rd hne.rows (SqL.of hfl) hok ?_ (by rw [hl2]; omega) (lim.rd s1 fun S hS => few_reached hkey few hS) fun H' x A' F' s' hr L => ?_⟩
    · unfold turnFlags
      rw [hl2, List.length_append, List.length_map, List.length_map]
    · exact kQ H' x A' F' (s1.trans s') hr (made_of L (fun w hw => (turns_st X hge hw).2) hkey few)
end
end SR

/-! ### SR25 -/
set_option maxHeartbeats 4000000
namespace SR
open PySem PySem.Spec PyProof.Rows L2 SRR SRN SRZ
/-! ## staticmethods of a class -/
structure SMet (K : PySem.W.Frag) (C : Addr) (mc : Value) (m : Str) (p g : Addr) : Prop where
  at_ : PySem.W.findCls K (.ref C) mc m = some (.get (.builtin "staticmethod.__get__") (.ref p) .none (.ref C))
  rc : ∃ rest, PySem.W.recIn K p "staticmethod" = some (.ref g :: rest)
  kp : PySem.W.keepIn K (.ref g) = true
section
variable {X : Cx} {CX : CXT} {k n : Nat} {C p g : Addr} {mc : Value} {fd : FuncData} {ps ks : List Str} {sp : Sp} {E : XK} {o e : Expr} {es : List Expr} {kws : List Keyword} {m : Str} {pos apos : Pos} {ta : TE} {t tk : TA} {pl : Sem Bool} {dvs : List V} {ds : List Value} {gg : List Value → List Value → List Value} {gV : List V → List V → List V}
theorem getsm_ok {pins : List (Addr × Obj)} {σ : L2.St} {H : Hp} {s : Shared} {A : Around} {E : Value → Shared → Prop} {Q : Value × List Value → Shared → Prop} (I : Inv X pins σ H s) (r : ClX.CRead X.K C mc) (c : SMet X.K C mc m p g) (h : ∀ s', Inv X pins σ H s' → Q (.ref g, []) s') :
    wpAny (model X.prog X.w) A (getMethod (.ref C) m pl) Q E s := by
  obtain ⟨rest, hp⟩ := c.rc
  exact PySem.W.method_cls I.kIn r.ga (PySem.W.cls_bind I.kIn r.rd c.at_ (wpAny_call (PySem.W.sm_get (s := { s with toks := s.toks + 1 }) I.kIn hp (PySem.W.handed_on rfl (h _ (I.tok _))))))
/-- o.m(e, ..), o the class C -/
def tSMeth (C : Addr) (sp : Sp) (dvs : List V) (E : XK) (ta : TE) (t : TA) : TE := fun σ H Q => ta σ H fun x H1 => x = .ref C ∧ t σ H1 fun vs H2 => sp (vs ++ dvs) H2 Q E
theorem pe_smeth (he : PE X o ta) (r : ClX.CRead X.K C mc) (c : SMet X.K C mc m p g) (F : FnOk X.prog X.w X.K X.mg X.base CX k g fd ps sp) (hr : Room k X.A) (hb : Binds X.K fd ps ds) (hd : Vals dvs ds) (hx : Passes CX X E) (ha : PA X (e :: es) t)
    (hst : starEach (e :: es) X.env = (false, eval e X.env) :: starEach es X.env := by rfl) (hpl : (backTo pos (starEach es X.env)).any (·.1) = false := by rfl)
    (ht : eval (.Call (.Attribute o m apos) (e :: es) [] pos) X.env = (do
      let ov ← eval o X.env
      standAt apos.atName
      let (f, first) ← holding [ov] (getMethod ov m pl)
      callWith pos f first (backTo pos (starEach (e :: es) X.env)) (backToKw pos (keywordEach [] X.env))) := by rfl) :
    PE X (.Call (.Attribute o m apos) (e :: es) [] pos) (tSMeth C sp dvs E ta t) := by
  refine ⟨fun pins s σ H Q I h => ?_⟩
  refine PySem.W.methodCall_KW (pl := pl) (thn (he.run pins s σ H _ I h) fun u s1 ⟨x, H1, I1, rx, ex, q⟩ => ?_) ht
  subst ex
  obtain rfl : u = Value.ref C := rx
  refine getsm_ok I1 r c fun s2 I2 => ?_
  refine PySem.W.callWith_K (h₀ := X.base) I2.ok.mod.kin c.kp (thn (ha.run pos pins s2 σ H1 _ I2 q) fun us s3 ⟨vs, H2, I3, rv, q2⟩ => ⟨I3.kIn, ?_⟩) hst hpl
  exact run_fn F hr hb hd hx I3 rv q2
/-- o.m(e, .., k = v, ..), o the class C -/
def tSMethN (C : Addr) (n m : Nat) (sp : Sp) (gV : List V → List V → List V) (E : XK) (ta : TE) (t tk : TA) : TE := fun σ H Q => ta σ H fun x H1 => x = .ref C ∧ t σ H1 fun vs H2 => tk σ H2 fun zs H3 => vs.length = n ∧ zs.length = m ∧ sp (gV vs zs) H3 Q E
theorem pe_smethN (he : PE X o ta) (r : ClX.CRead X.K C mc) (c : SMet X.K C mc m p g) (F : FnOk X.prog X.w X.K X.mg X.base CX k g fd ps sp) (hr : Room k X.A) (hb : KBn X.K fd ps n ks gg gV) (hx : Passes CX X E) (ha : PA X (e :: es) t) (hkw : PK X kws tk)
    (hall : (backToKw pos (keywordEach kws X.env)).all (·.1.isSome) = true := by rfl) (hks : (backToKw pos (keywordEach kws X.env)).filterMap (·.1) = ks := by rfl)
    (hst : starEach (e :: es) X.env = (false, eval e X.env) :: starEach es X.env := by rfl) (hpl : ((backTo pos (starEach (e :: es) X.env)).any (·.1) || (backToKw pos (keywordEach kws X.env)).any (·.1.isNone)) = false := by rfl)
    (ht : eval (.Call (.Attribute o m apos) (e :: es) kws pos) X.env = (do
      let ov ← eval o X.env
      standAt apos.atName
      let (f, first) ← holding [ov] (getMethod ov m pl)
      callWith pos f first (backTo pos (starEach (e :: es) X.env)) (backToKw pos (keywordEach kws X.env))) := by rfl) :
    PE X (.Call (.Attribute o m apos) (e :: es) kws pos) (tSMethN C n ks.length sp gV E ta t tk) := by
  refine ⟨fun pins s σ H Q I h => ?_⟩
  refine PySem.W.methodCall_KW (pl := pl) (thn (he.run pins s σ H _ I h) fun u s1 ⟨x, H1, I1, rx, ex, q⟩ => ?_) ht
  subst ex
  obtain rfl : u = Value.ref C := rx
  refine getsm_ok I1 r c fun s2 I2 => ?_
  refine PySem.W.callWith_KW (h₀ := X.base) I2.ok.mod.kin c.kp hall (thn (ha.run pos pins s2 σ H1 _ I2 q) fun us s3 ⟨vs, H2, I3, rv, q2⟩ => ?_) hpl hst
  refine thn (hkw.run pos pins s3 σ H2 _ I3 q2) fun ws s4 ⟨zs, H3, I4, rz, l1, l2, q3⟩ => ⟨I4.kIn, ?_⟩
  rw [hks]
  exact run_fnN F hr hb hx I4 rv rz l1 l2 q3
end
end SR

/-! ### SR26 -/
set_option maxHeartbeats 4000000
namespace SR
open PySem PySem.Spec PyProof.Rows L2 SRR SRN SRZ
/-! ## written machines -/
abbrev RawE := Str × List (List Nat) × List Nat
def rawTab : List RawE := [("any", [[0, 0, 0, 0]], []), ("some", [[0, 1, 2, 1], [1, 1, 1, 1], [2, 1, 2, 1]], [2]), ("single", [[0, 1, 2, 1], [1, 1, 1, 1], [2, 1, 1, 1]], [2]), ("first", [[0, 1, 2, 1], [1, 1, 1, 1], [2, 2, 2, 2]], [2]),
  ("last", [[0, 0, 1, 0], [1, 0, 1, 0]], [1]), ("early", [[0, 1, 2, 0], [1, 1, 1, 1], [2, 2, 2, 2]], [2]), ("late", [[0, 0, 1, 0], [1, 0, 1, 1]], [1]), ("within", [[0, 1, 2, 0], [1, 1, 1, 1], [2, 1, 2, 2]], [2])]
def aloneTab : List RawE := [("to the end", [[0, 1, 2, 1], [1, 1, 1, 1], [1, 1, 2, 1]], [2]), ("first alone", [[0, 1, 2, 1], [1, 1, 1, 1], [2, 3, 1, 1], [3, 1, 1, 1]], [2, 3]), ("last alone", [[0, 3, 2, 1], [1, 1, 1, 1], [2, 1, 1, 1], [3, 1, 4, 1], [4, 1, 1, 1]], [2, 4])]
def flagsW (R : List (List Nat)) (wo : List Nat) : List Bool := (List.range R.length).map fun s => decide (s ∈ wo)
def okB (R : List (List Nat)) : Bool := decide (0 < R.length) && R.all fun r => decide (r.length = 4) && r.all fun x => decide (x < R.length)
theorem okB_ok {R : List (List Nat)} (h : okB R = true) : OkR R := by
  unfold okB at h
  obtain ⟨h1, h2⟩ := Bool.and_eq_true_iff.mp h
  refine ⟨of_decide_eq_true h1, fun r hr => ?_⟩
  obtain ⟨h3, h4⟩ := Bool.and_eq_true_iff.mp (List.all_eq_true.mp h2 r hr)
  exact ⟨of_decide_eq_true h3, fun x hx => of_decide_eq_true (List.all_eq_true.mp h4 x hx)⟩
theorem raw_ok : ∀ e ∈ rawTab ++ aloneTab, okB e.2.1 = true ∧ e.2.1.length ≤ 9 := by decide +kernel
theorem count_ok : ∀ b, b = 1 ∨ b = 2 → okB (countRows b) = true ∧ (countRows b).length ≤ 9 ∧ (countFlags b).length = (countRows b).length := by
  intro b hb
  rcases hb with rfl | rfl <;> decide +kernel
structure TabF (K : PySem.W.Frag) (w : World) (mg : Str → Option Value) (x : Str) (tab : List RawE) : Prop where
  ex : ∃ (d : Addr) (es : Array DictEntry) (n : Nat), mg x = some (.ref d) ∧ KDict K w d es n ∧ ∀ e ∈ tab, ∃ t tr tw : Addr, PySem.W.nsIn K d e.1 = some (some (.ref t)) ∧ (∀ H, SqT K H t [.ref tr, .ref tw]) ∧ (∀ H, RowsAt K H tr e.2.1) ∧ ∀ H, SqT K H tw (e.2.2.map nv)
def namesL : List Str := ["any", "some", "single", "first", "last", "early", "late", "within", "count"]
structure NamF (K : PySem.W.Frag) (mg : Str → Option Value) : Prop where
  ex : ∃ t : Addr, mg "NAMES" = some (.ref t) ∧ ∀ H, SqT K H t (namesL.map V.str)
theorem inV_str {x : Str} {L : List Str} (h : x ∈ L) : inV (.str x) (L.map V.str) = true := List.any_eq_true.mpr ⟨.str x, List.mem_map_of_mem h, by show (x == x) = true; simp⟩
theorem inV_nat (i : Nat) (wo : List Nat) : inV (.int (0 + (i : Int))) (wo.map nv) = decide (i ∈ wo) := by
  unfold inV
  rw [List.any_map]
  by_cases h : i ∈ wo
  · rw [decide_eq_true h]
    exact List.any_eq_true.mpr ⟨i, h, by show ((i : Int) == 0 + (i : Int)) = true; simp⟩
  · rw [decide_eq_false h]
    refine List.any_eq_false.mpr fun j hj => ?_
    show ¬ (((j : Int) == 0 + (i : Int)) = true)
    intro e
    have : (j : Int) = 0 + (i : Int) := by simpa using e
    have : j = i := by omega
    exact h (this ▸ hj)
theorem all_flat_str : ∀ L : List Str, (L.map V.str).all flatV = true
  | [] => rfl
  | _ :: L => all_flat_str L
theorem all_flat_nv : ∀ L : List Nat, (L.map nv).all flatV = true
  | [] => rfl
  | _ :: L => all_flat_nv L
theorem op_in_seqK {X : Cx} (K : PySem.W.Frag) (hK : X.K = K := by rfl) : OpR X (compareOp .In) (rIn K false) := by
  subst hK
  exact op_in_seq
abbrev sNamed : Stmt := inClass (top 55) 1
theorem scNamed : FnScope ["name", "bound", "rows", "flags", "worse", "state"] ["name", "bound"] (defScope sNamed) := ⟨rfl, rfl, rfl, by decide +kernel, rfl, by decide +kernel, by decide +kernel⟩
def RawOf (name : Str) (bv : V) (R : List (List Nat)) (f : List Bool) : Prop := (name = "count" ∧ ∃ b : Nat, (b = 1 ∨ b = 2) ∧ bv = nv b ∧ R = countRows b ∧ f = countFlags b) ∨ (bv = .non ∧ ∃ wo, (name, R, wo) ∈ rawTab ∧ f = flagsW R wo)
def key1 (R : List (List Nat)) (w : List Nat) : List Nat := [st R w]
theorem few1 {R : List (List Nat)} (ok : OkR R) : Few (key1 R) R.length := fun L hn hL => by
  rw [← List.length_range (n := R.length), ← List.length_map (f := fun x : Nat => [x])]
  refine nodup_sub_len hn fun s hs => ?_
  obtain ⟨w, hw, rfl⟩ := hL s hs
  exact List.mem_map.mpr ⟨st R w, List.mem_range.mpr (ok.st_lt hw ok.pos), rfl⟩
theorem made1 {R A : List (List Nat)} {f F : List Bool} (ok : OkR R) (h : Least R f A F) : Made A F R.length (fun w => f.getD (st R w) false) (key1 R) := made_of h (fun _ _ => rfl) ⟨fun s => s.getD 0 0, fun _ _ => rfl⟩ (few1 ok)
def spNamed (CM : Addr) : Sp := fun vs H Q _ => ∃ (name : Str) (bv : V) (R : List (List Nat)) (f : List Bool), vs = [.str name, bv] ∧ RawOf name bv R f ∧ GetsMade CM H Q R.length (fun w => f.getD (st R w) false) (key1 R)
theorem lim9 {R : List (List Nat)} (ok : OkR R) (h9 : R.length ≤ 9) {E : XK} {CT : Addr} {H : Hp} : ∀ S, IsReached R S → S.length ≤ 4094 ∧ (100 < S.length → ∀ (d : Addr) (H' : Hp), Same H H' → E (.ref CT) (some d) H') := fun S hS => by
  have := nodup_le hS.nd hS.lt
  exact ⟨by omega, fun h => absurd h (by omega)⟩
section
variable {P : Program} {w : World} {K : PySem.W.Frag} {mg : Str → Option Value} {base : Heap} {CM CT : Addr}
theorem ok_named {f : Addr} {fd : FuncData} (F : FunD K "named" "Rule.named" (defArgs sNamed) (defBody sNamed) (defScope sNamed) [] [(("bound" : Str), .non)] f fd) (T : Tx K mg) (TN : Tn mg) (NF : NamF K mg) (TF : TabF K w mg "NAMED" rawTab)
    (GC : Fx P w K mg base CX0 2 "checked_between" ["number", "least", "most"] spChecked) (GO : Fx P w K mg base CX0 1 "counting" ["bound"] spCounting) (M : MkR P w K mg base CM CT) : FnOk P w K mg base CX0 8 f fd ["name", "bound"] (spNamed CM) := by
  refine F.ok scNamed (fun vs H Q E h => ?_) (fun cdv A₀ outer s H vs Q E hr h => ?_)
  · obtain ⟨name, bv, R, f, rfl, _⟩ := h
    rfl
  · obtain ⟨name, bv, R, f, rfl, hraw, k⟩ := h
    obtain ⟨ub, hub, rub⟩ := TN.bound
    obtain ⟨tn, htn, htn2⟩ := NF.ex
    obtain ⟨d, es, n, hd, KD, htab⟩ := TF.ex
    have nd := scNamed.nd
    refine ⟨_,
    (pss_cons (ps_if (PW.pt (pw_or (pt_not (pt_truth (pe_callB call_isi (by rfl) T.isinstance (by decide +kernel) (pa_cons (pv 0) (pa_cons (pe_bltn (v := .ty "str") (by rfl) T.str (by decide +kernel) rfl) (pa_nil)))) (by intro _; rfl))) (pw_or1 (pt_cmpR op_notIn_seq (pv 0) (pe_glob (v := .ref tn) rfl htn rfl) (by rfl))))) 
      (pss_one ps_never) pss_nil)
    (pss_cons (ps_if (pt_cmpR op_eq (pv 0) pe_str (nomark _)) 
      (pss_cons (ps_asg (pe_fx GO (hr.mono (by decide)) pass0 (pa_cons (pe_fx GC (hr.mono (by decide)) pass0 (pa_cons (pv 1) (pa_cons pe_int (pa_cons (pe_glob rfl hub rub) (pa_nil))))) (pa_nil))) (pg_tup rfl (pgs_cons (pg_name (i := 2) nd rfl (.inl rfl)) (pgs_cons (pg_name (i := 3) nd rfl (.inl rfl)) pgs_nil))))
      (pss_one (ps_ret (pe_mk M hr passL (pa_cons (pv 2) (pa_cons (pv 3) (pa_nil))))))) pss_nil)
    (pss_cons (ps_if (pt_cmpR op_notN (pv 1) pe_non (nomark _)) 
      (pss_one ps_never) pss_nil)
    (pss_cons (ps_asg (pe_ix ix_kdict (pe_glob (v := .ref d) rfl hd rfl) (pv 0) (fun _ _ => rfl)) (pg_tup rfl (pgs_cons (pg_name (i := 2) nd rfl (.inl rfl)) (pgs_cons (pg_name (i := 4) nd rfl (.inr rfl)) pgs_nil))))
    (pss_one (ps_ret (pe_mk M hr passL (pa_cons (pv 2) (pa_cons (pe_lc (own := [("state", 5)]) rfl nd (pi_range1 rfl T.range (pa_cons (pe_callB call_len_seq (by rfl) T.len PySem.boot_len (pa_cons (pv 2) (pa_nil))) (pa_nil))) (blkOk_by (own := [("state", 5)]) (N := ["name", "bound", "rows", "flags", "worse", "state"]) (sc := defScope sNamed) (by decide +kernel)) (fun _ _ _ _ _ => (pg_name (i := 5) nd rfl (.inl rfl))) (fun _ _ _ _ _ => pts_nil) (fun _ _ _ _ _ => (pe_cmpR (op_in_seqK K) (pv 5) (pv 4) (by rfl)))) (pa_nil)))))))))), ?_⟩
    have hnm : name ∈ namesL := by
      rcases hraw with ⟨rfl, _⟩ | ⟨_, wo, hm, _⟩
      · decide +kernel
      · have h : ∀ e ∈ rawTab, e.1 ∈ namesL := by decide +kernel
        exact h _ hm
    refine ⟨_, rfl, _, _, _, _, true, rfl, .ty _, .base (.str _), kit_ty (by decide +kernel), true, rfl, ?_⟩
    refine iteF ?_
    refine ⟨_, rfl, tn, _, rfl, .inr (htn2 _), rfl, all_flat_str _, _, rfl, ?_⟩
    rw [inV_str hnm]
    refine ite2 (fun z => absurd z (by decide)) (fun _ => ?_)
    refine ⟨_, rfl, rfl, _, rfl, ?_⟩
    rcases hraw with ⟨rfl, b, hb, rfl, rfl, rfl⟩ | ⟨rfl, wo, hm, rfl⟩
    · refine ite2 (fun _ => ?_) (fun z => absurd (decide_eq_true rfl) z)
      obtain ⟨c1, c2, c3⟩ := count_ok b hb
      refine ⟨_, rfl, (b : Int), 1, 3, rfl, by omega, by omega, b, rfl, by omega, fun H1 t ra fa s1 ht hR hF => ⟨t, _, rfl, SqT.of ht, rfl, _, _, rfl, _, _, rfl, rfl, ?_⟩⟩
      exact ⟨_, rfl, _, rfl, mk_rd hR.rows (SqL.of hF) (okB_ok c1) c3 (by omega) (lim9 (okB_ok c1) c2) fun H' x A' F' s' hr' L => k H' x A' F' (s1.trans s') hr' (made1 (okB_ok c1) L)⟩
    · have hne : name ≠ "count" := by
        have h : ∀ e ∈ rawTab, e.1 ≠ ("count" : Str) := by decide +kernel
        exact h _ hm
      refine ite2 (fun z => absurd (of_decide_eq_true z) (fun q => hne (by injection q))) (fun _ => ?_)
      refine ⟨_, rfl, rfl, _, rfl, ?_⟩
      refine ite2 (fun z => absurd z (by decide)) (fun _ => ?_)
      obtain ⟨t, tr, tw, h1, h2, h3, h4⟩ := htab _ hm
      obtain ⟨c1, c2'⟩ := raw_ok _ (List.mem_append_left _ hm)
      have c2 : R.length ≤ 9 := c2'
      refine ⟨_, rfl, d, name, .ref t, rfl, rfl, ⟨es, n, _, KD.at_, KD.lit, h1, rfl⟩, t, _, rfl, h2 _, rfl, _, _, rfl, _, _, rfl, rfl, ?_⟩
      obtain ⟨ts, hts, htl, _⟩ := h3 H
      refine ⟨_, rfl, _, rfl, tr, _, rfl, hts, R.length, by rw [List.length_map, htl], by omega, by omega, fun D hD => ?_⟩
      refine lc_range (lo := 0) (n := R.length) (MI H D ((flagsW R wo).map V.bl)) (.start hD) ?_ ?_
      · intro i H2 hi m
        refine ⟨rfl, tyesT ⟨_, rfl, _, rfl, tw, _, rfl, .inr (h4 _), rfl, all_flat_nv _, ?_⟩⟩
        rw [if_neg (by decide), inV_nat]
        refine m.step ?_ hD ?_
        · refine map_at (map_at (f := fun s => decide (s ∈ wo)) ?_)
          rw [List.getElem?_range hi]
        · unfold flagsW
          rw [List.length_map, List.length_map, List.length_range]
          exact Nat.le_trans c2 (by decide)
      · intro H2 m
        obtain ⟨m1, m2⟩ := m.fin (by unfold flagsW; rw [List.length_map, List.length_map, List.length_range])
        exact mk_rd (h3 _) (SqL.of m2) (okB_ok c1) (by unfold flagsW; rw [List.length_map, List.length_range]) (by omega) (lim9 (okB_ok c1) c2) fun H' x A' F' s' hr' L => k H' x A' F' (m1.trans s') hr' (made1 (okB_ok c1) L)
end
end SR

/-! ### SR27 -/
set_option maxHeartbeats 4000000
namespace SR
open PySem PySem.Spec PyProof.Rows L2 SRR SRN SRZ
/-! ## dict(T), T a written tuple of pairs -/
theorem pairs_of2 {X : Cx} {pins : List (Addr × Obj)} {σ : L2.St} {H : Hp} {s : Shared} (I : Inv X pins σ H s) : ∀ {ps : List Addr} {kvs : List (Key × V)}, Paired (fun p kv => SqT X.K H p [kV kv.1, kv.2]) ps kvs →
    ∃ (prs : List (Key × Value)) (us : List (Value × Value)), KV kvs prs ∧ us.length = ps.length ∧ prs.length = ps.length ∧ ∀ (j : Nat) (k v : Value), us[j]? = some (k, v) → ∃ (b : Addr) (key : Key), ps[j]? = some b ∧ IsTup s.heap b #[k, v] ∧ prs[j]? = some (key, v) ∧ keyIs key k = true
  | _, _, .nil => ⟨[], [], .nil, rfl, rfl, fun j k v e => by simp at e⟩
  | _, _, .cons (a := p) (b := kv) h t => by
    obtain ⟨prs, us, r, hl, hl2, hp⟩ := pairs_of2 I t
    obtain ⟨its, rv, ht, _⟩ := I.tuple h
    obtain ⟨u, y, ei, ru, ry⟩ := vals2 rv
    subst ei
    refine ⟨(kv.1, y) :: prs, (u, y) :: us, .cons ⟨rfl, ry⟩ r, by rw [List.length_cons, List.length_cons, hl], by rw [List.length_cons, List.length_cons, hl2], fun j k v e => ?_⟩
    cases j with
    | zero =>
      have e' : (u, y) = (k, v) := Option.some.inj e
      cases e'
      exact ⟨p, kv.1, rfl, ht, rfl, kV_is (P := X.prog) (w := X.w) ru⟩
    | succ j =>
      obtain ⟨b, key, e1, e2, e3, e4⟩ := hp j k v (by simpa using e)
      exact ⟨b, key, by simpa using e1, e2, by simpa using e3, e4⟩
def rDictT (K : PySem.W.Frag) : List V → Hp → VK → Prop := fun xs H Q => ∃ (a : Addr) (o : Obj) (n : Nat) (ps : List Addr) (kvs : List (Key × V)), xs = [.ref a] ∧ K.lookup a = some o ∧ o.cls = .type "tuple" ∧ o.dict = none ∧ o.data = .seq (ps.map Value.ref).toArray n ∧
  Paired (fun p kv => SqT K H p [kV kv.1, kv.2]) ps kvs ∧ ps.length ≤ sizeLine ∧ ∀ p, H p = none → Q (.ref p) (upd H p (.dK (mergeK [] kvs)))
theorem call_dictT {X : Cx} (hcalm : X.calm = true) : CallR X (.type "dict") (rDictT X.K) := by
  intro pins s σ H xs us Q I r q
  obtain ⟨a, o, n, ps, kvs, rfl, ho, hc, hd, hdat, hp, hz, q⟩ := q
  obtain ⟨u, rfl, rx⟩ := vals1 r
  cases rx
  obtain ⟨prs, us, rel, hl, hl2, hpr⟩ := pairs_of2 I hp
  have ok : PySem.PlainSeq "tuple" s.heap a (ps.map Value.ref).toArray ∧ PySem.PairItems s.heap (ps.map Value.ref).toArray (fun j => ps.getD j 0) us := by
    refine ⟨⟨o, n, I.kIn a o ho, hc, hd, hdat⟩, by simp [hl], fun j k v hj => ?_⟩
    obtain ⟨b, key, e1, e2, e3, e4⟩ := hpr j k v hj
    have eb : ps.getD j 0 = b := getD_of e1
    refine ⟨?_, ?_⟩
    · show (ps.map Value.ref).toArray[j]? = some (Value.ref (ps.getD j 0))
      rw [eb]
      simp [e1]
    · show PySem.PairAt s.heap (ps.getD j 0) k v
      rw [eb]
      exact .inl e2
  refine PySem.call_dict_pairs (knd := mixKind X.prog X.w) (kvs := prs) (PySem.PairArg.tuple a (ps.map Value.ref).toArray (fun j => ps.getD j 0) us) (I.ok.hd hcalm) ok ⟨by rw [hl2, hl], fun i key v hr => ?_⟩ (by rw [hl]; exact hz) fun h' tk hd' k => ?_
  · obtain ⟨b, kk, e1, e2, e3, e4⟩ := hpr i key v hr
    exact ⟨kk, e3, e4⟩
  · have hm : (s.heap.objs.size == sysModules) = false := beq_eq_false_iff_ne.mpr (Nat.ne_of_gt I.big)
    have hlen : (mergeK [] kvs).length ≤ sizeLine := by
      refine Nat.le_trans (length_mergeK kvs []) ?_
      rw [List.length_nil, Nat.zero_add, rel.length, hl2]
      exact hz
    exact ⟨.ref s.heap.objs.size, upd H s.heap.objs.size (.dK (mergeK [] kvs)), I.laid (t' := tk) (fun b o e => k b o (fun z => nomatch z) e) (Nat.le_refl _) (show ObjOk X.prog X.w _ _ _ (.dK (mergeK [] kvs)) from ⟨hlen, hm, merged [] prs, KV.merge rel .nil, hd'⟩), rfl, q _ (I.hok.fresh (Nat.le_refl _))⟩
/-! ## C.m(), m a classmethod -/
theorem pe_cmeth0 {X : Cx} {CX : CXT} {k : Nat} {C p g : Addr} {mc : Value} {sp : Sp} {E : XK} {o : Expr} {m : Str} {pos apos : Pos} {ta : TE} {pl : Sem Bool} (he : PE X o ta) (r : ClX.CRead X.K C mc) (c : ClX.CMet X.K C mc m p g) (F : FnR X.prog X.w X.K X.mg X.base CX k g sp) (hr : Room k X.A) (hx : Passes CX X E)
    (ht : eval (.Call (.Attribute o m apos) [] [] pos) X.env = (do
      let ov ← eval o X.env
      standAt apos.atName
      let (f, first) ← holding [ov] (getMethod ov m pl)
      callWith pos f first (backTo pos (starEach [] X.env)) (backToKw pos (keywordEach [] X.env))) := by rfl) :
    PE X (.Call (.Attribute o m apos) [] [] pos) (ClX.tCMeth C sp E ta tNil) := by
  refine ⟨fun pins s σ H Q I h => ?_⟩
  refine PySem.W.methodCall_KW (pl := pl) (thn (he.run pins s σ H _ I h) fun u s1 ⟨x, H1, I1, rx, ex, q⟩ => ?_) ht
  subst ex
  obtain rfl : u = Value.ref C := rx
  refine ClX.getmethcm_ok I1 r c fun s2 I2 => ?_
  exact PySem.W.callWith_M0 (first := []) ⟨ClX.pin_at I2, I2.kIn⟩ c.fi (ClX.run_cm (us := []) (vs := []) F hr hx I2 .nil q)
end SR

/-! ### SR28 -/
set_option maxHeartbeats 4000000
namespace SR
open PySem PySem.Spec PyProof.Rows L2 SRR SRN SRZ
/-- Rule.named, called -/
structure NamedM (P : Program) (w : World) (K : PySem.W.Frag) (mg : Str → Option Value) (base : Heap) (CM : Addr) : Prop where
  ex : ∃ (CR : Addr) (mc : Value) (p g : Addr) (fd : FuncData) (ds : List Value) (gg : List Value → List Value → List Value), mg "Rule" = some (.ref CR) ∧ ClX.CRead K CR mc ∧ SMet K CR mc "named" p g ∧ FnOk P w K mg base CX0 8 g fd ["name", "bound"] (spNamed CM) ∧
    Binds K fd ["name", "bound"] ds ∧ Vals [V.non] ds ∧ KBn K fd ["name", "bound"] 1 ["bound"] gg (fun vs zs => vs ++ zs)
structure AloneF (K : PySem.W.Frag) (w : World) (mg : Str → Option Value) : Prop where
  ex : ∃ (d : Addr) (es : Array DictEntry) (n : Nat), mg "ALONE" = some (.ref d) ∧ KDict K w d es n ∧ (∀ e ∈ rawTab, PySem.W.nsIn K d e.1 = some none) ∧ ∀ e ∈ aloneTab, ∃ t tr tw : Addr, PySem.W.nsIn K d e.1 = some (some (.ref t)) ∧ (∀ H, SqT K H t [.ref tr, .ref tw]) ∧ (∀ H, RowsAt K H tr e.2.1) ∧ ∀ H, SqT K H tw (e.2.2.map nv)
/-! ## least_rule -/
abbrev sLeastRule : Stmt := top 62
theorem scLeastRule : FnScope ["name", "rows", "worse", "state"] ["name"] (defScope sLeastRule) := ⟨rfl, rfl, rfl, by decide +kernel, rfl, by decide +kernel, by decide +kernel⟩
def spLeastRule (CM : Addr) : Sp := fun vs H Q _ => ∃ (name : Str) (R : List (List Nat)) (wo : List Nat), vs = [.str name] ∧ ((name, R, wo) ∈ rawTab ∨ (name, R, wo) ∈ aloneTab) ∧ GetsMade CM H Q R.length (fun w => (flagsW R wo).getD (st R w) false) (key1 R)
section
variable {P : Program} {w : World} {K : PySem.W.Frag} {mg : Str → Option Value} {base : Heap} {CM CT CP : Addr}
theorem ok_leastRule {f : Addr} {fd : FuncData} (F : Fun K "least_rule" "least_rule" sLeastRule f fd) (T : Tx K mg) (AF : AloneF K w mg) (NM : NamedM P w K mg base CM) (M : MkR P w K mg base CM CT) : FnOk P w K mg base CX0 9 f fd ["name"] (spLeastRule CM) := by
  refine F.ok scLeastRule (fun vs H Q E h => ?_) (fun cdv A₀ outer s H vs Q E hr h => ?_)
  · obtain ⟨name, R, wo, rfl, _⟩ := h
    rfl
  · obtain ⟨name, R, wo, rfl, hraw, k⟩ := h
    obtain ⟨d, es, n, hd, KD, hno, htab⟩ := AF.ex
    obtain ⟨CR, mc, p, g, fdN, ds, gg, hCR, rR, sN, FN, bN, dN, _⟩ := NM.ex
    have nd := scLeastRule.nd
    refine ⟨_,
    (pss_cons (ps_if (pt_cmpR (op_notIn_kd KD) (pv 0) (pe_glob (v := .ref d) rfl hd rfl) (by rfl)) 
      (pss_one (ps_ret (pe_smeth (pe_glob (v := .ref CR) rfl hCR rfl) rR sN FN hr bN dN pass0 (pa_cons (pv 0) (pa_nil))))) pss_nil)
    (pss_cons (ps_asg (pe_ix ix_kdict (pe_glob (v := .ref d) rfl hd rfl) (pv 0) (fun _ _ => rfl)) (pg_tup rfl (pgs_cons (pg_name (i := 1) nd rfl (.inl rfl)) (pgs_cons (pg_name (i := 2) nd rfl (.inr rfl)) pgs_nil))))
    (pss_one (ps_ret (pe_mk M (hr.mono (by decide)) passL (pa_cons (pv 1) (pa_cons (pe_lc (own := [("state", 3)]) rfl nd (pi_range1 rfl T.range (pa_cons (pe_callB call_len_seq (by rfl) T.len PySem.boot_len (pa_cons (pv 1) (pa_nil))) (pa_nil))) (blkOk_by (own := [("state", 3)]) (N := ["name", "rows", "worse", "state"]) (sc := defScope sLeastRule) (by decide +kernel)) (fun _ _ _ _ _ => (pg_name (i := 3) nd rfl (.inl rfl))) (fun _ _ _ _ _ => pts_nil) (fun _ _ _ _ _ => (pe_cmpR (op_in_seqK K) (pv 3) (pv 2) (by rfl)))) (pa_nil)))))))), ?_⟩
    rcases hraw with hm | hm
    · refine ⟨_, rfl, name, none, rfl, rfl, hno _ hm, _, rfl, ?_⟩
      refine iteT ?_
      exact ⟨rfl, _, rfl, name, .non, R, flagsW R wo, rfl, .inr ⟨rfl, wo, hm, rfl⟩, k⟩
    · obtain ⟨t, tr, tw, h1, h2, h3, h4⟩ := htab _ hm
      obtain ⟨c1, c2'⟩ := raw_ok _ (List.mem_append_right _ hm)
      have c2 : R.length ≤ 9 := c2'
      refine ⟨_, rfl, name, _, rfl, rfl, h1, _, rfl, ?_⟩
      refine iteF ?_
      refine ⟨_, rfl, d, name, .ref t, rfl, rfl, ⟨es, n, _, KD.at_, KD.lit, h1, rfl⟩, t, _, rfl, h2 _, rfl, _, _, rfl, _, _, rfl, rfl, ?_⟩
      obtain ⟨ts, hts, htl, _⟩ := h3 H
      refine ⟨_, rfl, _, rfl, tr, _, rfl, hts, R.length, by rw [List.length_map, htl], by omega, by omega, fun D hD => ?_⟩
      refine lc_range (lo := 0) (n := R.length) (MI H D ((flagsW R wo).map V.bl)) (.start hD) ?_ ?_
      · intro i H2 hi m
        refine ⟨rfl, tyesT ⟨_, rfl, _, rfl, tw, _, rfl, .inr (h4 _), rfl, all_flat_nv _, ?_⟩⟩
        rw [if_neg (by decide), inV_nat]
        refine m.step ?_ hD ?_
        · refine map_at (map_at (f := fun s => decide (s ∈ wo)) ?_)
          rw [List.getElem?_range hi]
        · unfold flagsW
          rw [List.length_map, List.length_map, List.length_range]
          exact Nat.le_trans c2 (by decide)
      · intro H2 m
        obtain ⟨m1, m2⟩ := m.fin (by unfold flagsW; rw [List.length_map, List.length_map, List.length_range])
        exact mk_rd (h3 _) (SqL.of m2) (okB_ok c1) (by unfold flagsW; rw [List.length_map, List.length_range]) (by omega) (lim9 (okB_ok c1) c2) fun H' x A' F' s' hr' L => k H' x A' F' (m1.trans s') hr' (made1 (okB_ok c1) L)
end
theorem paired_get {α β : Type} {R : α → β → Prop} {l : List α} {m : List β} (h : Paired R l m) : ∀ {i : Nat} {x : α}, l[i]? = some x → ∃ y, m[i]? = some y ∧ R x y := by
  induction h with
  | nil => intro i x e; cases e
  | @cons a b l m hr t ih =>
    intro i x e
    cases i with
    | zero =>
      have : a = x := Option.some.inj e
      subst this
      exact ⟨b, rfl, hr⟩
    | succ i => exact ih (by simpa using e)
/-! ## purposes -/
def purTab : List (Str × Str) := [("together on graphs", "some"), ("together on forests", "single"), ("together on cliques", "to the end"), ("growing on connected graphs", "some"), ("growing on trees", "single"), ("ending on connected graphs", "some"),
  ("perfect on chordal graphs", "within"), ("perfect ending on chordal graphs", "within"), ("near first on connected graphs", "first"), ("near first on trees", "first alone"), ("deep first on connected graphs", "last"), ("deep first on trees", "last alone")]
def purKv : List (Key × V) := purTab.map fun e => (Sum.inr e.1, V.str e.2)
theorem pur_get : ∀ e ∈ purTab, valV (mergeK [] purKv) (Sum.inr e.1) = some (V.str e.2) := by decide +kernel
theorem pur_split : ∀ e ∈ purTab, (Txt.split e.1 " on ").length = 2 ∧ e.1.length ≤ 100 := by decide +kernel
/-- what the text has written of PURPOSES -/
structure PurF (K : PySem.W.Frag) (mg : Str → Option Value) : Prop where
  ex : ∃ (a : Addr) (o : Obj) (n : Nat) (ps : List Addr), mg "PURPOSES" = some (.ref a) ∧ K.lookup a = some o ∧ o.cls = .type "tuple" ∧ o.dict = none ∧ o.data = .seq (ps.map Value.ref).toArray n ∧ ps.length = 12 ∧
    ∀ H, SqT K H a (ps.map V.ref) ∧ Paired (fun p (kv : Key × V) => SqT K H p [kV kv.1, kv.2]) ps purKv
def purFs (name k g : Str) (q : Addr) : List (Str × V) := [(("written" : Str), .str name), (("kind" : Str), .str k), (("graphs" : Str), .str g), (("least_kept" : Str), .ref q)]
def PurAt (CP : Addr) (H : Hp) (p : Addr) (name : Str) (q : Addr) : Prop := ∃ dx k g, H p = some (.ins CP dx (purFs name k g q))
theorem PurAt.same {CP : Addr} {H H' : Hp} {p q : Addr} {name : Str} (s : Same H H') (h : PurAt CP H p name q) : PurAt CP H' p name q := let ⟨dx, k, g, h1⟩ := h; ⟨dx, k, g, s _ _ h1⟩
structure Pf (K : PySem.W.Frag) (CP : Addr) : Prop where
  cl : Cls K CP
  nw : NoAttr K CP "written"
  nk : NoAttr K CP "kind"
  ng : NoAttr K CP "graphs"
  nl : NoAttr K CP "least_kept"
abbrev sPNames : Stmt := inClass (top 75) 1
theorem scPNames : FnScope ["cls", "name", "least"] ["cls"] (defScope sPNames) := ⟨rfl, rfl, rfl, by decide +kernel, rfl, by decide +kernel, by decide +kernel⟩
def spPNames : Sp := fun vs H Q _ => ∃ (C : Addr), vs = [.ref C] ∧ ∀ (H' : Hp) (p : Addr), Same H H' → H' p = some (.lst ((purTab.map (·.1)).map V.str)) → Q (.ref p) H'
abbrev sCalled : Stmt := inClass (top 75) 2
theorem scCalled : FnScope ["self"] ["self"] (defScope sCalled) := ⟨rfl, rfl, rfl, by decide +kernel, rfl, by decide +kernel, by decide +kernel⟩
def spCalled (CP : Addr) : Sp := fun vs H Q _ => ∃ (p q : Addr) (name : Str), vs = [.ref p] ∧ PurAt CP H p name q ∧ Q (.str name) H
abbrev sPLeast : Stmt := inClass (top 75) 3
theorem scPLeast : FnScope ["self"] ["self"] (defScope sPLeast) := ⟨rfl, rfl, rfl, by decide +kernel, rfl, by decide +kernel, by decide +kernel⟩
def spPLeast (CP : Addr) : Sp := fun vs H Q _ => ∃ (p q : Addr) (name : Str), vs = [.ref p] ∧ PurAt CP H p name q ∧ Q (.ref q) H
abbrev sPIn : Stmt := inClass (top 75) 7
theorem scPIn : FnScope ["self", "x"] ["self", "x"] (defScope sPIn) := ⟨rfl, rfl, rfl, by decide +kernel, rfl, by decide +kernel, by decide +kernel⟩
def spPIn (CP CM : Addr) : Sp := fun vs H Q _ => ∃ (p q r : Addr) (name : Str) (A : List (List Nat)) (F : List Bool) (B : List (List Nat)) (G : List Bool), vs = [.ref p, .ref r] ∧ PurAt CP H p name q ∧ RuleAt CM H q A F ∧ RuleAt CM H r B G ∧ Good A F ∧ Good B G ∧
  ∀ (H' : Hp) (c : Bool), Same H H' → (c = true ↔ Sub A F B G) → Q (.bl c) H'
abbrev sPInit : Stmt := inClass (top 75) 0
theorem scPInit : FnScope ["self", "name"] ["self", "name"] (defScope sPInit) := ⟨rfl, rfl, rfl, by decide +kernel, rfl, by decide +kernel, by decide +kernel⟩
def spPInit (CP CM : Addr) : Sp := fun vs H Q _ => ∃ (H0 : Hp) (x dx : Addr) (name least : Str) (R : List (List Nat)) (wo : List Nat), vs = [.ref x, .str name] ∧ Same H0 H ∧ H0 x = none ∧ H x = some (.ins CP dx []) ∧ (name, least) ∈ purTab ∧ (least, R, wo) ∈ rawTab ++ aloneTab ∧
  ∀ (H' : Hp) (q : Addr) (A : List (List Nat)) (F : List Bool), Same H0 H' → PurAt CP H' x name q → RuleAt CM H' q A F → Made A F R.length (fun w => (flagsW R wo).getD (st R w) false) (key1 R) → Q .non H'
section
variable {P : Program} {w : World} {K : PySem.W.Frag} {mg : Str → Option Value} {base : Heap} {CM CT CP : Addr}
theorem ok_called {f : Addr} {fd : FuncData} (F : Fun K "called" "Purpose.called" sCalled f fd) (R : Pf K CP) : FnOk P w K mg base CX0 1 f fd ["self"] (spCalled CP) := by
  refine F.ok scCalled (fun vs H Q E h => ?_) (fun cdv A₀ outer s H vs Q E hr h => ?_)
  · obtain ⟨p, q, name, rfl, _⟩ := h
    rfl
  · obtain ⟨p, q, name, rfl, ⟨dx, k', g, hp⟩, k⟩ := h
    refine ⟨_, (pss_one (ps_ret (pe_fld (pv 0) rfl))), ?_⟩
    exact ⟨_, rfl, p, CP, dx, _, _, rfl, hp, R.cl, R.nw, rfl, k⟩
theorem ok_pLeast {f : Addr} {fd : FuncData} (F : Fun K "least" "Purpose.least" sPLeast f fd) (R : Pf K CP) : FnOk P w K mg base CX0 1 f fd ["self"] (spPLeast CP) := by
  refine F.ok scPLeast (fun vs H Q E h => ?_) (fun cdv A₀ outer s H vs Q E hr h => ?_)
  · obtain ⟨p, q, name, rfl, _⟩ := h
    rfl
  · obtain ⟨p, q, name, rfl, ⟨dx, k', g, hp⟩, k⟩ := h
    refine ⟨_, (pss_one (ps_ret (pe_fld (pv 0) rfl))), ?_⟩
    exact ⟨_, rfl, p, CP, dx, _, _, rfl, hp, R.cl, R.nl, rfl, k⟩
theorem ok_pIn {f : Addr} {fd : FuncData} (F : Fun K "__contains__" "Purpose.__contains__" sPIn f fd) (T : Tx K mg) (R : Pf K CP) (RM : Rf K CM) (I : Ri K mg CM) {fc : Addr} {fdc : FuncData} (mC : OpM K CM "__contains__" fc) (FC : FnOk P w K mg base CX0 3 fc fdc ["self", "x"] (spContains CM)) (bC : Binds K fdc ["self", "x"] []) :
    FnOk P w K mg base CX0 4 f fd ["self", "x"] (spPIn CP CM) := by
  refine F.ok scPIn (fun vs H Q E h => ?_) (fun cdv A₀ outer s H vs Q E hr h => ?_)
  · obtain ⟨p, q, r, name, A, F, B, G, rfl, _⟩ := h
    rfl
  · obtain ⟨p, q, r, name, A, F, B, G, rfl, ⟨dx, k', g, hp⟩, hq, hr', gA, gB, k⟩ := h
    obtain ⟨CR, hCR, hkit⟩ := I.rule
    refine ⟨_, (pss_one (ps_ret (pe_and (pe_callB call_isi (by rfl) T.isinstance (by decide +kernel) (pa_cons (pv 1) (pa_cons (pe_glob (v := .ref CR) rfl hCR rfl) (pa_nil)))) (pe_one (pe_cmpR (op_ownIn mC FC hr bC pass0) (pe_fld (pv 0) rfl) (pv 1) (by rfl)))))), ?_⟩
    obtain ⟨dr, ra, fa, hr1, hr2, hr3⟩ := id hr'
    refine ⟨_, rfl, _, _, _, _, true, rfl, .own CR, .base (.ins hr1 RM.cl I.cc I.cg I.ct I.cm), hkit, true, rfl, ?_⟩
    refine iteT ?_
    refine ⟨_, rfl, p, CP, dx, _, _, rfl, hp, R.cl, R.nl, rfl, _, rfl, r, dr, _, rfl, hr1, q, r, A, F, B, G, rfl, hq, hr', gA, gB, fun H' c s' hc => ⟨c, rfl, k H' c s' hc⟩⟩
theorem ok_pNames {f : Addr} {fd : FuncData} (F : Fun K "names" "Purpose.names" sPNames f fd) (PF : PurF K mg) : FnOk P w K mg base CX0 1 f fd ["cls"] spPNames := by
  refine F.ok scPNames (fun vs H Q E h => ?_) (fun cdv A₀ outer s H vs Q E hr h => ?_)
  · obtain ⟨C, rfl, _⟩ := h
    rfl
  · obtain ⟨C, rfl, k⟩ := h
    obtain ⟨a, o, n, ps, ha, h1, h2, h3, h4, h5, h6⟩ := PF.ex
    have nd := scPNames.nd
    refine ⟨_, (pss_one (ps_ret (pe_lc (own := [("name", 1), ("least", 2)]) rfl nd (pi_tup (pe_glob (v := .ref a) rfl ha rfl)) (blkOk_by (own := [("name", 1), ("least", 2)]) (N := ["cls", "name", "least"]) (sc := defScope sPNames) (by decide +kernel)) (fun _ _ _ _ _ => (pg_tupK K 2 rfl rfl (pgs_cons (pg_name (i := 1) nd rfl (.inl rfl)) (pgs_cons (pg_name (i := 2) nd rfl (.inl rfl)) pgs_nil)))) (fun _ _ _ _ _ => pts_nil) (fun _ _ _ _ _ => (pv 1))))), ?_⟩
    refine ⟨a, rfl, ⟨_, (h6 H).1⟩, fun D hD => ?_⟩
    refine lc_tup (K := K) (a := a) (xs := ps.map V.ref) (MI H D ((purTab.map (·.1)).map V.str)) (.start hD) (fun i H2 _ m => (h6 H2).1) ?_ ?_
    · intro i v H2 hi m
      obtain ⟨tp, htp, rfl⟩ : ∃ u, ps[i]? = some u ∧ V.ref u = v := by
        rw [List.getElem?_map] at hi
        exact Option.map_eq_some_iff.mp hi
      obtain ⟨kv, hkv, hs⟩ := paired_get (h6 H2).2 htp
      unfold purKv at hkv
      rw [List.getElem?_map] at hkv
      obtain ⟨e, he, rfl⟩ := Option.map_eq_some_iff.mp hkv
      refine ⟨tp, _, rfl, hs, rfl, _, _, rfl, _, _, rfl, rfl, rfl, tyesT ⟨_, rfl, m.step ?_ hD ?_⟩⟩
      · exact map_at (map_at (f := fun e : Str × Str => e.1) he)
      · decide
    · intro H2 m
      obtain ⟨m1, m2⟩ := m.fin (by rw [List.length_map, List.length_map, List.length_map, h5] <;> rfl)
      exact k H2 D m1 m2
end
end SR

/-! ### SR29 -/
set_option maxHeartbeats 4000000
namespace SR
open PySem PySem.Spec PyProof.Rows L2 SRR SRN SRZ
/-- Purpose.names, called -/
structure PNamesM (P : Program) (w : World) (K : PySem.W.Frag) (mg : Str → Option Value) (base : Heap) (CP : Addr) : Prop where
  ex : ∃ (mc : Value) (p g : Addr) (fd : FuncData), mg "Purpose" = some (.ref CP) ∧ ClX.CRead K CP mc ∧ ClX.CMet K CP mc "names" p g ∧ FnOk P w K mg base CX0 1 g fd ["cls"] spPNames ∧ Binds K fd ["cls"] []
section
variable {P : Program} {w : World} {K : PySem.W.Frag} {mg : Str → Option Value} {base : Heap} {CM CT CP : Addr}
theorem ok_pInit {f : Addr} {fd : FuncData} (F : Fun K "__init__" "Purpose.__init__" sPInit f fd) (T : Tx K mg) (R : Pf K CP) (PF : PurF K mg) (PN : PNamesM P w K mg base CP) (GL : Fx P w K mg base CX0 9 "least_rule" ["name"] (spLeastRule CM)) : FnOk P w K mg base CX0 10 f fd ["self", "name"] (spPInit CP CM) := by
  refine F.ok scPInit (fun vs H Q E h => ?_) (fun cdv A₀ outer s H vs Q E hr h => ?_)
  · obtain ⟨H0, x, dx, name, least, R, wo, rfl, _⟩ := h
    rfl
  · obtain ⟨H0, x, dx, name, least, R0, wo, rfl, s0, hx0, hx, hpt, hraw, k⟩ := h
    obtain ⟨mc, pp, g, fdN, hCP, rP, cP, FN, bN⟩ := PN.ex
    obtain ⟨a, o, n, ps, ha, h1, h2, h3, h4, h5, h6⟩ := PF.ex
    have hu := hu_of hr
    have nd := scPInit.nd
    refine ⟨_,
    (pss_cons (ps_if (PW.pt (pw_or (pt_not (pt_truth (pe_callB call_isi (by rfl) T.isinstance (by decide +kernel) (pa_cons (pv 1) (pa_cons (pe_bltn (v := .ty "str") (by rfl) T.str (by decide +kernel) rfl) (pa_nil)))) (by intro _; rfl))) (pw_or1 (pt_cmpR op_notIn_seq (pv 1) (pe_cmeth0 (pe_glob (v := .ref CP) rfl hCP rfl) rP cP (FN.raw bN .nil) (hr.mono (by decide)) pass0) (by rfl))))) 
      (pss_one ps_never) pss_nil)
    (pss_cons (ps_fld (pv 0) (pv 1) rfl)
    (pss_cons (ps_asg (pe_m1 PySem.F.slot_str_split PySem.F.type_str_split mt_split (pv 1) pe_str) (pg_lst rfl (pgs_cons (pg_fld (pv 0)) (pgs_cons (pg_fld (pv 0)) pgs_nil))))
    (pss_one (ps_fld (pv 0) (pe_fx GL hr pass0 (pa_cons (pe_dget hu (pe_callTy (call_dictT rfl) (by rfl) T.dict (by decide +kernel) (pa_cons (pe_glob (v := .ref a) rfl ha rfl) (pa_nil))) (pv 1) (fun _ _ => rfl)) (pa_nil))) rfl))))), ?_⟩
    refine ⟨_, rfl, _, _, _, _, true, rfl, .ty _, .base (.str _), kit_ty (by decide +kernel), true, rfl, ?_⟩
    refine iteF ?_
    refine ⟨_, rfl, rfl, CP, rfl, fun H1 p s1 hp => ⟨p, _, rfl, .inl (SqL.of hp), rfl, all_flat_str _, _, rfl, ?_⟩⟩
    rw [inV_str (List.mem_map_of_mem (f := fun e : Str × Str => e.1) hpt)]
    refine ite2 (fun z => absurd z (by decide)) (fun _ => ?_)
    have s01 := s0.trans s1
    -- self.written = name
    refine ⟨_, rfl, _, rfl, x, CP, dx, [], rfl, s1 _ _ hx, R.cl, R.nw, by decide, ?_⟩
    have s2 := same_upd (o := .ins CP dx (putF "written" (.str name) [])) s01 hx0
    -- self.kind, self.graphs = name.split(" on ")
    obtain ⟨sp2, sp1⟩ := pur_split _ hpt
    refine ⟨_, rfl, ⟨_, rfl⟩, name, " on ", rfl, rfl, by decide, Nat.le_trans (Nat.add_le_add_right sp1 2) (by decide), fun sl hsl => ?_⟩
    obtain ⟨kd, gr, hsp⟩ : ∃ kd gr, Txt.split name " on " = [kd, gr] := by
      have h2 : (Txt.split name " on ").length = 2 := sp2
      revert h2
      generalize Txt.split name " on " = l
      intro h2
      match l, h2 with
      | [kd, gr], _ => exact ⟨kd, gr, rfl⟩
    rw [hsp]
    have hx2 : (upd (upd H1 x (.ins CP dx (putF "written" (.str name) []))) sl (.lst ([kd, gr].map V.str))) x = some (.ins CP dx (putF "written" (.str name) [])) := by
      rw [upd_ne (fun z => by rw [← z, upd_same] at hsl; cases hsl), upd_same]
    have s3 := same_new (o := .lst ([kd, gr].map V.str)) s2 hsl
    refine ⟨sl, _, rfl, SqL.of upd_same, rfl, _, _, rfl, ⟨_, rfl, x, CP, dx, _, rfl, hx2, R.cl, R.nk, (by show 1 < 1000; decide), ?_⟩⟩
    refine ⟨_, _, rfl, ⟨_, rfl, x, CP, dx, _, rfl, upd_same, R.cl, R.ng, (by show 2 < 1000; decide), rfl, ?_⟩⟩
    generalize upd (upd H1 x (.ins CP dx (putF "written" (.str name) []))) sl (.lst ([kd, gr].map V.str)) = H3 at s3 hx2
    have s4 := same_upd (o := .ins CP dx (putF "graphs" (.str gr) (putF "kind" (.str kd) (putF "written" (.str name) [])))) (same_upd (o := .ins CP dx (putF "kind" (.str kd) (putF "written" (.str name) []))) s3 hx0) hx0
    have hx4 : (upd (upd H3 x (.ins CP dx (putF "kind" (.str kd) (putF "written" (.str name) [])))) x (.ins CP dx (putF "graphs" (.str gr) (putF "kind" (.str kd) (putF "written" (.str name) []))))) x = some (.ins CP dx (putF "graphs" (.str gr) (putF "kind" (.str kd) (putF "written" (.str name) [])))) := upd_same
    generalize upd (upd H3 x (.ins CP dx (putF "kind" (.str kd) (putF "written" (.str name) [])))) x (.ins CP dx (putF "graphs" (.str gr) (putF "kind" (.str kd) (putF "written" (.str name) [])))) = H4 at s4 hx4
    -- self.least_kept = least_rule(dict(PURPOSES)[name])
    refine ⟨a, o, n, ps, purKv, rfl, h1, h2, h3, h4, (h6 _).2, by rw [h5]; decide, fun d hd => ?_⟩
    have s5 := same_new (o := .dK (mergeK [] purKv)) s4 hd
    have hx5 : (upd H4 d (.dK (mergeK [] purKv))) x = some (.ins CP dx (putF "graphs" (.str gr) (putF "kind" (.str kd) (putF "written" (.str name) [])))) := by rw [upd_ne (ne_of_none hx4 hd)]; exact hx4
    have hd5 : (upd H4 d (.dK (mergeK [] purKv))) d = some (.dK (mergeK [] purKv)) := upd_same
    generalize upd H4 d (.dK (mergeK [] purKv)) = H5 at s5 hx5 hd5
    refine ⟨_, rfl, d, .str least, rfl, (by rw [← pur_get _ hpt]; exact DGet.k (k := Sum.inr name) hd5), least, R0, wo, rfl, List.mem_append.mp hraw, fun H6 q A F s6 hq M => ?_⟩
    have hx6 := s6 _ _ hx5
    refine ⟨_, rfl, x, CP, dx, _, rfl, hx6, R.cl, R.nl, (by show 3 < 1000; decide), ?_⟩
    refine k _ q A F (same_upd (s5.trans s6) hx0) ⟨dx, kd, gr, by rw [upd_same] <;> rfl⟩ ?_ M
    obtain ⟨dr, ra, fa, q1, q2, q3⟩ := hq
    have hxq : x ≠ q := fun z => by
      rw [← z, hx6] at q1
      have e := Option.some.inj q1
      injection e with _ _ e3
      have e4 := congrArg List.length e3
      exact absurd e4 (by show ¬ (3 : Nat) = 2; decide)
    refine ⟨dr, ra, fa, by rw [upd_ne hxq.symm]; exact q1, q2.upd hx6 (fun _ z => nomatch z) (fun z => ?_), ?_⟩
    · obtain ⟨ts, t1, _⟩ := q2
      rw [z, hx6] at t1
      cases t1
    · rw [upd_ne (ne_of q3 hx6 (fun z => nomatch z))]
      exact q3
end
/-- the class Purpose, made -/
structure PurM (P : Program) (w : World) (K : PySem.W.Frag) (mg : Str → Option Value) (base : Heap) (CP CM : Addr) : Prop where
  ex : ∃ (f : Addr) (fd : FuncData), Mk K CP f ∧ FnOk P w K mg base CX0 10 f fd ["self", "name"] (spPInit CP CM) ∧ mg "Purpose" = some (.ref CP) ∧ Binds K fd ["self", "name"] []
end SR

/-! ### SR30 -/
set_option maxHeartbeats 4000000
namespace SR
open PySem PySem.Spec PyProof.Rows L2 SRR SRN SRZ
/-! ## the pile of digits -/
def PileAt (H : Hp) (p : Addr) : Prop := ∃ d c j : Int, H p = some (.lst [.int d, .int c, .int j])
/-- all but the pile stands, the pile is one still -/
structure Pl (p : Addr) (H H' : Hp) : Prop where
  keep : ∀ b o, b ≠ p → H b = some o → H' b = some o
  pile : PileAt H' p
theorem Pl.refl {p : Addr} {H : Hp} (h : PileAt H p) : Pl p H H := ⟨fun _ _ _ e => e, h⟩
theorem Pl.trans {p : Addr} {H H1 H2 : Hp} (a : Pl p H H1) (b : Pl p H1 H2) : Pl p H H2 := ⟨fun c o n e => b.keep c o n (a.keep c o n e), b.pile⟩
theorem PileAt.same {p : Addr} {H H' : Hp} (h : PileAt H p) (s : Same H H') : PileAt H' p := let ⟨d, c, j, e⟩ := h; ⟨d, c, j, s _ _ e⟩
theorem Pl.of_same {p : Addr} {H H' : Hp} (h : PileAt H p) (s : Same H H') : Pl p H H' := ⟨fun _ _ _ e => s _ _ e, h.same s⟩
theorem Pl.same {p : Addr} {H H1 H2 : Hp} (a : Pl p H H1) (s : Same H1 H2) : Pl p H H2 := a.trans (.of_same a.pile s)
theorem Pl.set {p : Addr} {H : Hp} {d c j : Int} : Pl p H (upd H p (.lst [.int d, .int c, .int j])) := ⟨fun b o n e => by rw [upd_ne n]; exact e, d, c, j, upd_same⟩
theorem Pl.tup {p t : Addr} {H H' : Hp} {xs : List V} (h : PileAt H p) (a : Pl p H H') (e : H t = some (.tup xs)) : H' t = some (.tup xs) := by
  obtain ⟨d, c, j, hp⟩ := h
  exact a.keep t _ (fun z => by rw [z, hp] at e; cases e) e
abbrev sMixed : Stmt := top 77
theorem scMixed : FnScope ["_law_cell", "_law_k", "_law_figure"] ["_law_cell", "_law_k"] (defScope sMixed) := ⟨rfl, rfl, rfl, by decide +kernel, rfl, by decide +kernel, by decide +kernel⟩
def spMixed : Sp := fun vs H Q _ => ∃ c k : Int, vs = [.int c, .int k] ∧ ∀ n : Int, Q (.int n) H
abbrev sPile : Stmt := top 78
theorem scPile : FnScope ["_law_script", "_law_k", "_law_cell", "_law_digits"] ["_law_script", "_law_k"] (defScope sPile) := ⟨rfl, rfl, rfl, by decide +kernel, rfl, by decide +kernel, by decide +kernel⟩
def spPile (K : PySem.W.Frag) : Sp := fun vs H Q _ => ∃ (a : Addr) (ns : List Int) (k : Nat), vs = [.ref a, nv k] ∧ SqL K H a (ns.map V.int) ∧ ∀ (H' : Hp) (p : Addr), Same H H' → H p = none → PileAt H' p → Q (.ref p) H'
abbrev sTake : Stmt := top 79
theorem scTake : FnScope ["_law_pile_here", "_law_many", "_law_digit"] ["_law_pile_here", "_law_many"] (defScope sTake) := ⟨rfl, rfl, rfl, by decide +kernel, rfl, by decide +kernel, by decide +kernel⟩
def spTake : Sp := fun vs H Q _ => ∃ (p : Addr) (m : Nat), vs = [.ref p, nv m] ∧ PileAt H p ∧ 0 < m ∧ m < 1000 ∧ ∀ (H' : Hp) (r : Nat), Pl p H H' → r < m → Q (nv r) H'
theorem mod_bd (a m : Int) (hm : 0 < m) : 0 ≤ a % m ∧ a % m < m := ⟨Int.emod_nonneg a (by omega), Int.emod_lt_of_pos a hm⟩
section
variable {P : Program} {w : World} {K : PySem.W.Frag} {mg : Str → Option Value} {base : Heap}
theorem ok_mixed {f : Addr} {fd : FuncData} (F : Fun K "_law_mixed" "_law_mixed" sMixed f fd) (T : Tx K mg) : FnOk P w K mg base CX0 1 f fd ["_law_cell", "_law_k"] spMixed := by
  refine F.ok scMixed (fun vs H Q E h => ?_) (fun cdv A₀ outer s H vs Q E hr h => ?_)
  · obtain ⟨c, k, rfl, _⟩ := h
    rfl
  · obtain ⟨c, k, rfl, q⟩ := h
    have nd := scMixed.nd
    refine ⟨_,
    (pss_cons (ps_set (i := 2) nd rfl (.inl rfl) (pe_op op_mod (pe_callTy call_int1 (by rfl) T.int (by decide +kernel) (pa_cons (pe_op op_add (pe_op op_add (pe_op op_mul (pe_op op_mod (pe_callTy call_int1 (by rfl) T.int (by decide +kernel) (pa_cons (pv 0) (pa_nil))) pe_int) pe_int) (pe_op op_mul (pv 1) pe_int)) pe_int) (pa_nil))) pe_int))
    (pss_cons (ps_set (i := 2) nd rfl (.inl rfl) (pe_op op_mod (pe_callTy call_int1 (by rfl) T.int (by decide +kernel) (pa_cons (pe_op op_mul (pv 2) (pv 2)) (pa_nil))) pe_int))
    (pss_one (ps_ret (pe_op op_fdiv (pe_op op_mod (pe_callTy call_int1 (by rfl) T.int (by decide +kernel) (pa_cons (pe_op op_mul (pv 2) (pv 2)) (pa_nil))) pe_int) pe_int))))), ?_⟩
    refine ⟨_, rfl, .inl ⟨_, rfl, ?_⟩⟩
    refine ⟨_, _, rfl, rfl, (by show (0 : Int) < 2147483647; decide), _, _, rfl, rfl, .inr (by decide), ?_⟩
    refine ⟨_, rfl, _, _, rfl, rfl, .inr (by decide), _, _, rfl, rfl, _, _, rfl, rfl, .inl ⟨_, rfl, _, _, rfl, rfl, (by show (0 : Int) < 2147483647; decide), ?_⟩⟩
    refine ⟨_, rfl, _, rfl, _, _, rfl, rfl, .inl ⟨Int.lt_of_lt_of_le (by decide) (mod_bd _ 2147483647 (by decide)).1, Int.lt_trans (mod_bd _ 2147483647 (by decide)).2 (by decide)⟩, .inl ⟨_, rfl, _, _, rfl, rfl, (by show (0 : Int) < 2147483629; decide), ?_⟩⟩
    exact ⟨_, rfl, _, rfl, _, _, rfl, rfl, .inl ⟨Int.lt_of_lt_of_le (by decide) (mod_bd _ 2147483629 (by decide)).1, Int.lt_trans (mod_bd _ 2147483629 (by decide)).2 (by decide)⟩, .inl ⟨_, rfl, _, _, rfl, rfl, (by show (0 : Int) < 2147483587; decide), _, _, rfl, rfl, ⟨by decide, by decide⟩, q _⟩⟩
theorem ok_pile {f : Addr} {fd : FuncData} (F : Fun K "_law_pile" "_law_pile" sPile f fd) (T : Tx K mg) : FnOk P w K mg base CX0 1 f fd ["_law_script", "_law_k"] (spPile K) := by
  refine F.ok scPile (fun vs H Q E h => ?_) (fun cdv A₀ outer s H vs Q E hr h => ?_)
  · obtain ⟨a, ns, k, rfl, _⟩ := h
    rfl
  · obtain ⟨a, ns, k, rfl, ha, q⟩ := h
    have nd := scPile.nd
    refine ⟨_,
    (pss_cons (ps_set (i := 2) nd rfl (.inl rfl) pe_int)
    (C8.pss_cut (ps_if (pt_cmpR op_lt (pv 1) (pe_callB call_len_seq (by rfl) T.len PySem.boot_len (pa_cons (pv 0) (pa_nil))) (nomark _)) 
      (pss_one (ps_set (i := 2) nd rfl (.inl rfl) (pe_ix ix_list (pv 0) (pv 1) (fun _ _ => rfl)))) pss_nil)
    (pss_cons (ps_set (i := 3) nd rfl (.inl rfl) (pe_ix ix_list (pe_lst (pa_cons pe_int (pa_cons (pe_op op_mod (pe_callTy call_int1 (by rfl) T.int (by decide +kernel) (pa_cons (pv 2) (pa_nil))) (pe_op op_mulW (pe_op op_mulW (pe_op op_pow pe_int pe_int) (pe_op op_pow pe_int pe_int)) (pe_op op_pow pe_int pe_int))) (pa_nil)))) (pe_callTy call_int1 (by rfl) T.int (by decide +kernel) (pa_cons (pe_cmpR op_ge (pe_callB call_abs (by rfl) T.abs (by decide +kernel) (pa_cons (pv 2) (pa_nil))) (pe_op op_pow pe_int pe_int) (nomark _)) (pa_nil))) (fun _ _ => rfl)))
    (pss_one (ps_ret (pe_lst (pa_cons (pv 3) (pa_cons (pe_op op_mod (pe_callTy call_int1 (by rfl) T.int (by decide +kernel) (pa_cons (pv 2) (pa_nil))) pe_int) (pa_cons (pe_op op_mul pe_int (pv 1)) (pa_nil)))))))))), ?_⟩
    refine ⟨fun σ' H' => ∃ (c : Int) (v : Option V), σ' = [some (.ref a), some (nv k), some (.int c), v] ∧ H' = H, ?_, ?_⟩
    · refine ⟨_, rfl, _, rfl, a, _, rfl, .inl ha, _, _, rfl, rfl, _, rfl, ?_⟩
      refine ite2 (fun hc => ?_) (fun hc => ⟨0, _, rfl, rfl⟩)
      have hk : k < ns.length := by
        have := of_decide_eq_true hc
        rw [List.length_map] at this
        omega
      exact ⟨_, rfl, _, rfl, a, _, _, _, rfl, rfl, ha, at_of rfl (map_at (List.getElem?_eq_getElem hk)), ns[k], _, rfl, rfl⟩
    · rintro σ' H' ⟨c, v, rfl, rfl⟩
      refine ⟨_, rfl, .inl ⟨_, rfl, ?_⟩⟩
      refine ⟨_, _, rfl, rfl, ⟨by decide, by decide, by decide⟩, _, _, rfl, rfl, ⟨by decide, by decide, by decide⟩, _, _, rfl, rfl, (by show (10 ^ (50 : Int).toNat : Int).natAbs.log2 + (10 ^ (50 : Int).toNat : Int).natAbs.log2 < 1000000; decide +kernel), ?_⟩
      refine ⟨_, _, rfl, rfl, ⟨by decide, by decide, by decide⟩, _, _, rfl, rfl, (by show (10 ^ (50 : Int).toNat * 10 ^ (50 : Int).toNat : Int).natAbs.log2 + (10 ^ (50 : Int).toNat : Int).natAbs.log2 < 1000000; decide +kernel), ?_⟩
      refine ⟨_, _, rfl, rfl, (by show (0 : Int) < 10 ^ (50 : Int).toNat * 10 ^ (50 : Int).toNat * 10 ^ (50 : Int).toNat; decide +kernel), by show 2 ≤ sizeLine; decide, fun l hl => ?_⟩
      refine ⟨_, rfl, _, rfl, _, _, rfl, rfl, ⟨by decide, by decide, by decide⟩, _, _, rfl, rfl, ?_⟩
      have hl2 : (upd H' l (.lst [.int 0, .int (c % (10 ^ (50 : Int).toNat * 10 ^ (50 : Int).toNat * 10 ^ (50 : Int).toNat))])) l = some (.lst [.int 0, .int (c % (10 ^ (50 : Int).toNat * 10 ^ (50 : Int).toNat * 10 ^ (50 : Int).toNat))]) := upd_same
      have m1 := same_up1 (o := .lst [.int 0, .int (c % (10 ^ (50 : Int).toNat * 10 ^ (50 : Int).toNat * 10 ^ (50 : Int).toNat))]) hl
      have key : ∀ b : Bool, ∃ d : Int, atI [V.int 0, .int (c % (10 ^ (50 : Int).toNat * 10 ^ (50 : Int).toNat * 10 ^ (50 : Int).toNat))] (if b = true then 1 else 0) = some (.int d) := fun b => by
        cases b with
        | true => exact ⟨_, at_of (j := 1) rfl rfl⟩
        | false => exact ⟨0, at_of (j := 0) rfl rfl⟩
      obtain ⟨d, hd⟩ := key (decide ((10 ^ (18 : Int).toNat : Int) ≤ if c < 0 then -c else c))
      refine .inr ⟨_, rfl, l, _, _, .int d, rfl, rfl, SqL.of hl2, hd, ?_⟩
      refine ⟨_, rfl, _, rfl, .inl ⟨_, rfl, _, _, rfl, rfl, (by show (0 : Int) < 2147483647; decide), _, rfl, _, _, rfl, rfl, .inl ⟨by decide, by decide⟩, by show 3 ≤ sizeLine; decide, fun p hp => ?_⟩⟩
      exact q _ p (same_new m1 hp) (m1.free hp) ⟨_, _, _, upd_same⟩
theorem ok_take {f : Addr} {fd : FuncData} (F : Fun K "_law_take" "_law_take" sTake f fd) (T : Tx K mg) (GM : Fx P w K mg base CX0 1 "_law_mixed" ["_law_cell", "_law_k"] spMixed) : FnOk P w K mg base CX0 2 f fd ["_law_pile_here", "_law_many"] spTake := by
  refine F.ok scTake (fun vs H Q E h => ?_) (fun cdv A₀ outer s H vs Q E hr h => ?_)
  · obtain ⟨p, m, rfl, _⟩ := h
    rfl
  · obtain ⟨p, m, rfl, ⟨d, c, j, hp⟩, hm0, hm1, q⟩ := h
    have nd := scTake.nd
    have hmz : (0 : Int) < (m : Int) := by omega
    refine ⟨_,
    (pss_cons (ps_if (pt_cmpR op_in_seq (pe_ix ix_list (pv 0) pe_int (fun _ _ => rfl)) (pe_lst (pa_cons pe_int (pa_cons (pe_un un_neg pe_int) (pa_nil)))) (by rfl)) 
      (pss_cons (ps_asg (pe_op op_add (pe_ix ix_list (pv 0) pe_int (fun _ _ => rfl)) pe_int) (pg_sub (pv 0) pe_int set_list))
      (pss_one (ps_ret (pe_op op_mod (pe_callTy call_int1 (by rfl) T.int (by decide +kernel) (pa_cons (pe_fx GM hr pass0 (pa_cons (pe_ix ix_list (pv 0) pe_int (fun _ _ => rfl)) (pa_cons (pe_ix ix_list (pv 0) pe_int (fun _ _ => rfl)) (pa_nil)))) (pa_nil))) (pv 1))))) pss_nil)
    (pss_cons (ps_set (i := 2) nd rfl (.inl rfl) (pe_op op_mod (pe_callTy call_int1 (by rfl) T.int (by decide +kernel) (pa_cons (pe_ix ix_list (pv 0) pe_int (fun _ _ => rfl)) (pa_nil))) (pv 1)))
    (pss_cons (ps_asg (pe_op op_fdiv (pe_ix ix_list (pv 0) pe_int (fun _ _ => rfl)) (pv 1)) (pg_sub (pv 0) pe_int set_list))
    (pss_one (ps_ret (pv 2)))))), ?_⟩
    refine ⟨_, rfl, p, _, _, _, rfl, rfl, SqL.of hp, at_of (j := 0) rfl rfl, _, rfl, by show 2 ≤ sizeLine; decide, fun l hl => ?_⟩
    have m1 := same_up1 (o := .lst [.int 0, .int (-1)]) hl
    have hp1 := m1 _ _ hp
    have hl1 : (upd H l (.lst [.int 0, .int (-1)])) l = some (.lst [.int 0, .int (-1)]) := upd_same
    generalize upd H l (.lst [.int 0, .int (-1)]) = H1 at m1 hp1 hl1
    have pl1 : Pl p H H1 := ⟨fun _ _ _ e => m1 _ _ e, d, c, j, hp1⟩
    refine ⟨l, _, rfl, .inl (SqL.of hl1), rfl, rfl, _, rfl, ?_⟩
    refine ite2 (fun _ => ?_) (fun _ => ?_)
    · refine ⟨_, rfl, p, _, _, _, rfl, rfl, SqL.of hp1, at_of (j := 2) rfl rfl, _, _, rfl, rfl, _, rfl, p, _, 2, 2, rfl, rfl, hp1, rfl, ?_⟩
      have pl2 := pl1.trans (Pl.set (H := H1) (d := d) (c := c) (j := j + 1))
      have hp2 : (upd H1 p (.lst ([V.int d, .int c, .int j].set 2 (.int (j + 1))))) p = some (.lst [.int d, .int c, .int (j + 1)]) := upd_same
      refine ⟨_, rfl, p, _, _, _, rfl, rfl, SqL.of hp2, at_of (j := 1) rfl rfl, _, rfl, p, _, _, _, rfl, rfl, SqL.of hp2, at_of (j := 2) rfl rfl, c, j + 1, rfl, fun n => .inl ⟨n, rfl, _, rfl, _, _, rfl, rfl, hmz, ?_⟩⟩
      have hb := mod_bd n m hmz
      have e : V.int (n % (m : Int)) = nv (n % (m : Int)).toNat := by
        show V.int _ = V.int _
        rw [Int.toNat_of_nonneg hb.1]
      show Q (V.int (n % (m : Int))) _
      rw [e]
      exact q _ _ pl2 (by omega)
    · refine ⟨_, rfl, p, _, _, _, rfl, rfl, SqL.of hp1, at_of (j := 0) rfl rfl, .inl ⟨d, rfl, _, rfl, _, _, rfl, rfl, hmz, ?_⟩⟩
      refine ⟨_, rfl, p, _, _, _, rfl, rfl, SqL.of hp1, at_of (j := 0) rfl rfl, _, rfl, _, _, rfl, rfl, ⟨hmz, by omega⟩, _, rfl, p, _, 0, 0, rfl, rfl, hp1, rfl, ?_⟩
      have pl2 := pl1.trans (Pl.set (H := H1) (d := d / (m : Int)) (c := c) (j := j))
      refine ⟨_, rfl, ?_⟩
      have hb := mod_bd d m hmz
      have e : V.int (d % (m : Int)) = nv (d % (m : Int)).toNat := by
        show V.int _ = V.int _
        rw [Int.toNat_of_nonneg hb.1]
      show Q (V.int (d % (m : Int))) _
      rw [e]
      exact q _ _ pl2 (by omega)
end
end SR

/-! ### SR31 -/
set_option maxHeartbeats 4000000
namespace SR
open PySem PySem.Spec PyProof.Rows L2 SRR SRN SRZ
/-! ## expressions -/
inductive Ex where
  | plain (name : Str) (m : Nat)
  | both (a b : Ex)
  | thn (a b : Ex)
  | turned (a : Ex)
  | upto (a : Ex) (k : Nat)
  | every (a : Ex) (d t : Nat)
  | turns (a b : Ex)
def ExAt (H : Hp) : Addr → Ex → Prop
  | t, .plain n m => H t = some (.tup [.str n, nv m])
  | t, .both a b => ∃ x y : Addr, H t = some (.tup [.str "both", .ref x, .ref y]) ∧ ExAt H x a ∧ ExAt H y b
  | t, .thn a b => ∃ x y : Addr, H t = some (.tup [.str "then", .ref x, .ref y]) ∧ ExAt H x a ∧ ExAt H y b
  | t, .turned a => ∃ x : Addr, H t = some (.tup [.str "turned", .ref x]) ∧ ExAt H x a
  | t, .upto a k => ∃ x : Addr, H t = some (.tup [.str "until", .ref x, nv k]) ∧ ExAt H x a
  | t, .every a d r => ∃ x : Addr, H t = some (.tup [.str "every", .ref x, nv d, nv r]) ∧ ExAt H x a
  | t, .turns a b => ∃ x y : Addr, H t = some (.tup [.str "turns", .ref x, .ref y]) ∧ ExAt H x a ∧ ExAt H y b
/-- the tuples stand -/
def Tups (H H' : Hp) : Prop := ∀ t xs, H t = some (.tup xs) → H' t = some (.tup xs)
theorem ExAt.mono {H H' : Hp} (s : Tups H H') : ∀ {e : Ex} {t : Addr}, ExAt H t e → ExAt H' t e
  | .plain n m, t, h => s _ _ h
  | .both a b, t, h => let ⟨x, y, h1, h2, h3⟩ := h; ⟨x, y, s _ _ h1, h2.mono s, h3.mono s⟩
  | .thn a b, t, h => let ⟨x, y, h1, h2, h3⟩ := h; ⟨x, y, s _ _ h1, h2.mono s, h3.mono s⟩
  | .turned a, t, h => let ⟨x, h1, h2⟩ := h; ⟨x, s _ _ h1, h2.mono s⟩
  | .upto a k, t, h => let ⟨x, h1, h2⟩ := h; ⟨x, s _ _ h1, h2.mono s⟩
  | .every a d r, t, h => let ⟨x, h1, h2⟩ := h; ⟨x, s _ _ h1, h2.mono s⟩
  | .turns a b, t, h => let ⟨x, y, h1, h2, h3⟩ := h; ⟨x, y, s _ _ h1, h2.mono s, h3.mono s⟩
theorem Tups.same {H H' : Hp} (s : Same H H') : Tups H H' := fun t xs h => s _ _ h
theorem Pl.tups {p : Addr} {H H' : Hp} (h : PileAt H p) (a : Pl p H H') : Tups H H' := fun t xs e => a.tup h e
def layN : List Str := ["any", "some", "first", "last", "early", "late"]
def PlainOk (lay : Bool) (name : Str) (m : Nat) : Prop := (name = "count" ∧ (m = 1 ∨ m = 2)) ∨ name ∈ layN ∨ (lay = false ∧ (name = "within" ∨ name = "single"))
def Wf : Bool → Nat → Ex → Prop
  | lay, _, .plain name m => PlainOk lay name m
  | lay, n + 1, .both a b => lay = false ∧ Wf false n a ∧ Wf false n b
  | lay, n + 1, .thn a b => Wf true n a ∧ Wf lay n b
  | lay, n + 1, .turned a => Wf lay n a
  | lay, n + 1, .upto a k => Wf lay n a ∧ k < 5
  | lay, n + 1, .every a d t => Wf lay n a ∧ 0 < d ∧ d ≤ 3 ∧ t < d
  | lay, n + 1, .turns a b => Wf lay n a ∧ Wf lay n b
  | _, 0, _ => False
def namesP : List Str := ["any", "some", "first", "last", "early", "late", "count", "count", "within", "single"]
def nPick (lay : Bool) : Nat := if lay = true then 8 else 10
theorem names_at : ∀ lay : Bool, ∀ r, r < nPick lay → ∃ name, namesP[r]? = some name ∧ (name = "count" ∨ name ∈ layN ∨ (lay = false ∧ (name = "within" ∨ name = "single"))) := by
  intro lay r h
  have key : ∀ r, r < 10 → ∃ name : Str, namesP[r]? = some name ∧ (name = "count" ∨ name ∈ layN ∨ ((decide (8 ≤ r)) = true ∧ (name = "within" ∨ name = "single"))) := by
    intro r hr
    match r, hr with
    | 0, _ => exact ⟨_, rfl, by decide +kernel⟩
    | 1, _ => exact ⟨_, rfl, by decide +kernel⟩
    | 2, _ => exact ⟨_, rfl, by decide +kernel⟩
    | 3, _ => exact ⟨_, rfl, by decide +kernel⟩
    | 4, _ => exact ⟨_, rfl, by decide +kernel⟩
    | 5, _ => exact ⟨_, rfl, by decide +kernel⟩
    | 6, _ => exact ⟨_, rfl, by decide +kernel⟩
    | 7, _ => exact ⟨_, rfl, by decide +kernel⟩
    | 8, _ => exact ⟨_, rfl, by decide +kernel⟩
    | 9, _ => exact ⟨_, rfl, by decide +kernel⟩
  unfold nPick at h
  have hr : r < 10 := by
    cases lay <;> simp at h <;> omega
  obtain ⟨name, h1, h2⟩ := key r hr
  refine ⟨name, h1, ?_⟩
  rcases h2 with h2 | h2 | ⟨h2, h3⟩
  · exact .inl h2
  · exact .inr (.inl h2)
  · refine .inr (.inr ⟨?_, h3⟩)
    have := of_decide_eq_true h2
    cases lay with
    | false => rfl
    | true =>
      simp at h
      omega
abbrev sPlain : Stmt := top 80
theorem scPlain : FnScope ["_law_pile_here", "_law_layered", "_law_names_here", "_law_name"] ["_law_pile_here", "_law_layered"] (defScope sPlain) := ⟨rfl, rfl, rfl, by decide +kernel, rfl, by decide +kernel, by decide +kernel⟩
def spPlain : Sp := fun vs H Q _ => ∃ (p : Addr) (lay : Bool), vs = [.ref p, .bl lay] ∧ PileAt H p ∧ ∀ (H' : Hp) (t : Addr) (name : Str) (m : Nat), Pl p H H' → H' t = some (.tup [.str name, nv m]) → PlainOk lay name m → Q (.ref t) H'
section
variable {P : Program} {w : World} {K : PySem.W.Frag} {mg : Str → Option Value} {base : Heap}
theorem ok_plain {f : Addr} {fd : FuncData} (F : Fun K "_law_plain" "_law_plain" sPlain f fd) (T : Tx K mg) (GT : Fx P w K mg base CX0 2 "_law_take" ["_law_pile_here", "_law_many"] spTake) : FnOk P w K mg base CX0 3 f fd ["_law_pile_here", "_law_layered"] spPlain := by
  refine F.ok scPlain (fun vs H Q E h => ?_) (fun cdv A₀ outer s H vs Q E hr h => ?_)
  · obtain ⟨p, lay, rfl, _⟩ := h
    rfl
  · obtain ⟨p, lay, rfl, hp, q⟩ := h
    have nd := scPlain.nd
    refine ⟨_,
    (pss_cons (ps_set (i := 2) nd rfl (.inl rfl) (pe_lst (pa_cons pe_str (pa_cons pe_str (pa_cons pe_str (pa_cons pe_str (pa_cons pe_str (pa_cons pe_str (pa_cons pe_str (pa_cons pe_str (pa_cons pe_str (pa_cons pe_str (pa_nil)))))))))))))
    (pss_cons (ps_set (i := 3) nd rfl (.inl rfl) (pe_ix ix_list (pv 2) (pe_fx GT hr pass0 (pa_cons (pv 0) (pa_cons (pe_ix ix_list (pe_lst (pa_cons pe_int (pa_cons pe_int (pa_nil)))) (pe_callTy call_int1 (by rfl) T.int (by decide +kernel) (pa_cons (pv 1) (pa_nil))) (fun _ _ => rfl)) (pa_nil)))) (fun _ _ => rfl)))
    (pss_one (ps_ret (pe_tup (pa_cons (pv 3) (pa_cons (pe_op op_add pe_int (pe_op op_mul (pe_fx GT hr pass0 (pa_cons (pv 0) (pa_cons pe_int (pa_nil)))) (pe_callTy call_int1 (by rfl) T.int (by decide +kernel) (pa_cons (pe_cmpR op_eq (pv 3) pe_str (nomark _)) (pa_nil))))) (pa_nil)))))))), ?_⟩
    refine ⟨by show 10 ≤ sizeLine; decide, fun l hl => ?_⟩
    have s1 := same_up1 (o := .lst (namesP.map V.str)) hl
    have hl1 : (upd H l (.lst (namesP.map V.str))) l = some (.lst (namesP.map V.str)) := upd_same
    have hlp : l ≠ p := fun z => by
      obtain ⟨d, c, j, e⟩ := hp
      rw [z, e] at hl
      cases hl
    refine ⟨_, rfl, _, rfl, by show 2 ≤ sizeLine; decide, fun l2 hl2 => ?_⟩
    have s2 : Same (upd H l (.lst (namesP.map V.str))) _ := same_up1 (o := .lst [.int 10, .int 8]) hl2
    have hl22 : (upd (upd H l (.lst (namesP.map V.str))) l2 (.lst [.int 10, .int 8])) l2 = some (.lst [.int 10, .int 8]) := upd_same
    have hl3 := s2 _ _ hl1
    have s12 := s1.trans s2
    have hix : atI [V.int 10, .int 8] (if lay = true then 1 else 0) = some (nv (nPick lay)) := by
      cases lay with
      | true => exact at_of (j := 1) rfl rfl
      | false => exact at_of (j := 0) rfl rfl
    refine ⟨_, rfl, .inr ⟨lay, rfl, l2, _, _, nv (nPick lay), rfl, rfl, SqL.of hl22, hix, ?_⟩⟩
    refine ⟨p, nPick lay, rfl, hp.same s12, by cases lay <;> decide, by cases lay <;> decide, fun H3 r pl3 hr => ?_⟩
    obtain ⟨name, hn, hok⟩ := names_at lay r hr
    have hl4 : H3 l = some (.lst (namesP.map V.str)) := pl3.keep l _ hlp hl3
    refine ⟨l, _, _, .str name, rfl, rfl, SqL.of hl4, at_of rfl (map_at hn), ?_⟩
    refine ⟨_, rfl, _, rfl, p, 2, rfl, pl3.pile, by decide, by decide, fun H4 r2 pl4 hr2 => ?_⟩
    have pl : Pl p H H4 := ((Pl.of_same hp s12).trans pl3).trans pl4
    refine ⟨_, rfl, rfl, .inr ⟨_, rfl, _, _, rfl, rfl, .inl ⟨?_, ?_⟩, _, _, rfl, rfl, by show 2 ≤ sizeLine; decide, fun t ht => ?_⟩⟩
    · show -(2 ^ 64) < (r2 : Int)
      omega
    · show (r2 : Int) < 2 ^ 64
      omega
    have ev : V.int (1 + (r2 : Int) * (if decide (V.str name = V.str "count") = true then 1 else 0)) = nv (1 + r2 * (if name = "count" then 1 else 0)) := by
      by_cases z : name = "count"
      · subst z
        rw [if_pos (decide_eq_true rfl), if_pos rfl]
        show V.int _ = V.int _
        congr 1
      · rw [if_neg (fun y => z (by have := of_decide_eq_true y; injection this)), if_neg z]
        show V.int _ = V.int _
        congr 1
    refine q _ t name _ (pl.same (same_up1 ht)) (by rw [upd_same]; exact congrArg (fun z => some (HO.tup [V.str name, z])) ev) ?_
    rcases hok with rfl | h1 | h1
    · refine .inl ⟨rfl, ?_⟩
      rw [if_pos rfl]
      omega
    · exact .inr (.inl h1)
    · exact .inr (.inr h1)
end
end SR

/-! ### SR32 -/
set_option maxHeartbeats 4000000
namespace SR
open PySem PySem.Spec PyProof.Rows L2 SRR SRN SRZ
abbrev sExpr : Stmt := top 81
theorem scExpr : FnScope ["_law_pile_here", "_law_deep", "_law_layered", "_law_way", "_law_one", "_law_divisor"] ["_law_pile_here", "_law_deep", "_law_layered"] (defScope sExpr) := ⟨rfl, rfl, rfl, by decide +kernel, rfl, by decide +kernel, by decide +kernel⟩
def spExpr (n : Nat) : Sp := fun vs H Q _ => ∃ (p : Addr) (lay : Bool), vs = [.ref p, nv n, .bl lay] ∧ PileAt H p ∧ ∀ (H' : Hp) (t : Addr) (e : Ex), Pl p H H' → ExAt H' t e → Wf lay n e → Q (.ref t) H'
def spPrev : Nat → Sp
  | 0 => fun _ _ _ _ => False
  | n + 1 => spExpr n
section
variable {P : Program} {w : World} {K : PySem.W.Frag} {mg : Str → Option Value} {base : Heap}
theorem ok_expr (n k : Nat) (hk : 3 ≤ k) {f : Addr} {fd : FuncData} (F : Fun K "_law_expr" "_law_expr" sExpr f fd) (T : Tx K mg) (GT : Fx P w K mg base CX0 2 "_law_take" ["_law_pile_here", "_law_many"] spTake) (GP : Fx P w K mg base CX0 3 "_law_plain" ["_law_pile_here", "_law_layered"] spPlain)
    (GE : Fx P w K mg base CX0 k "_law_expr" ["_law_pile_here", "_law_deep", "_law_layered"] (spPrev n)) : FnOk P w K mg base CX0 (k + 1) f fd ["_law_pile_here", "_law_deep", "_law_layered"] (spExpr n) := by
  refine F.ok scExpr (fun vs H Q E h => ?_) (fun cdv A₀ outer s H vs Q E hr h => ?_)
  · obtain ⟨p, lay, rfl, _⟩ := h
    rfl
  · obtain ⟨p, lay, rfl, hp, q⟩ := h
    have nd := scExpr.nd
    refine ⟨_,
    (pss_cons (ps_set (i := 3) nd rfl (.inl rfl) (pe_fx GT (hr.mono (by omega)) pass0 (pa_cons (pv 0) (pa_cons pe_int (pa_nil)))))
    (pss_cons (ps_if (PW.pt (pw_or (pt_cmpR op_eq (pv 1) pe_int (nomark _)) (pw_or1 (pt_cmpR op_lt (pv 3) pe_int (nomark _))))) 
      (pss_one (ps_ret (pe_fx GP (hr.mono (by omega)) pass0 (pa_cons (pv 0) (pa_cons (pv 2) (pa_nil)))))) pss_nil)
    (pss_cons (ps_set (i := 4) nd rfl (.inl rfl) (pe_fx GE hr pass0 (pa_cons (pv 0) (pa_cons (pe_op op_sub (pv 1) pe_int) (pa_cons (pe_or (pv 2) (pe_one (pe_cmpR op_eq (pv 3) pe_int (nomark _)))) (pa_nil))))))
    (pss_cons (ps_if (PW.pt (pw_and (pt_cmpR op_eq (pv 3) pe_int (nomark _)) (pw_and1 (pt_not (pt_truth (pv 2) (by intro _; rfl)))))) 
      (pss_one (ps_ret (pe_tup (pa_cons pe_str (pa_cons (pv 4) (pa_cons (pe_fx GE hr pass0 (pa_cons (pv 0) (pa_cons (pe_op op_sub (pv 1) pe_int) (pa_cons pe_bl (pa_nil))))) (pa_nil))))))) pss_nil)
    (pss_cons (ps_if (pt_cmpR op_lt (pv 3) pe_int (nomark _)) 
      (pss_one (ps_ret (pe_ifExp (PW.pt (pw_or (pt_truth (pv 2) (by intro _; rfl)) (pw_or1 (pt_cmpR op_eq (pv 3) pe_int (nomark _))))) (pe_tup (pa_cons pe_str (pa_cons (pv 4) (pa_cons (pe_fx GE hr pass0 (pa_cons (pv 0) (pa_cons (pe_op op_sub (pv 1) pe_int) (pa_cons (pv 2) (pa_nil))))) (pa_nil))))) (pe_tup (pa_cons pe_str (pa_cons (pv 4) (pa_nil))))))) pss_nil)
    (pss_cons (ps_if (pt_cmpR op_eq (pv 3) pe_int (nomark _)) 
      (pss_one (ps_ret (pe_tup (pa_cons pe_str (pa_cons (pv 4) (pa_cons (pe_fx GT (hr.mono (by omega)) pass0 (pa_cons (pv 0) (pa_cons pe_int (pa_nil)))) (pa_nil))))))) pss_nil)
    (pss_cons (ps_if (pt_cmpR op_eq (pv 3) pe_int (nomark _)) 
      (pss_cons (ps_set (i := 5) nd rfl (.inl rfl) (pe_op op_add pe_int (pe_fx GT (hr.mono (by omega)) pass0 (pa_cons (pv 0) (pa_cons pe_int (pa_nil))))))
      (pss_one (ps_ret (pe_tup (pa_cons pe_str (pa_cons (pv 4) (pa_cons (pv 5) (pa_cons (pe_fx GT (hr.mono (by omega)) pass0 (pa_cons (pv 0) (pa_cons (pv 5) (pa_nil)))) (pa_nil))))))))) pss_nil)
    (pss_cons (ps_if (pt_cmpR op_eq (pv 3) pe_int (nomark _)) 
      (pss_one (ps_ret (pe_tup (pa_cons pe_str (pa_cons (pv 4) (pa_cons (pe_fx GE hr pass0 (pa_cons (pv 0) (pa_cons (pe_op op_sub (pv 1) pe_int) (pa_cons (pv 2) (pa_nil))))) (pa_nil))))))) pss_nil)
    (pss_one (ps_ret (pe_tup (pa_cons pe_str (pa_cons (pv 4) (pa_nil)))))))))))))), ?_⟩
    -- way = take(pile, 9)
    refine ⟨_, rfl, p, 9, rfl, hp, by decide, by decide, fun H1 way pl1 hw => ?_⟩
    have plain : spPlain [.ref p, .bl lay] H1 Q E0 := ⟨p, lay, rfl, pl1.pile, fun H' t name m pl ht ok => q H' t (.plain name m) (pl1.trans pl) ht (by cases n <;> exact ok)⟩
    refine ⟨_, rfl, rfl, _, rfl, ?_⟩
    refine ite2 (fun _ => ?_) (fun h0 => ?_)
    · refine iteT ?_
      exact ⟨_, rfl, _, rfl, plain⟩
    refine ⟨_, rfl, _, _, rfl, rfl, _, rfl, ?_⟩
    refine ite2 (fun _ => ⟨_, rfl, _, rfl, plain⟩) (fun h2 => ?_)
    have hw2 : 2 ≤ way := by
      have := of_decide_eq_false (Bool.eq_false_iff.mpr h2)
      omega
    cases n with
    | zero => exact absurd (decide_eq_true rfl) h0
    | succ n =>
    have en : (((n + 1 : Nat) : Int)) - 1 = (n : Int) := by omega
    clear plain h0 h2
    have argsE : ∀ {b b' : Bool}, b = b' → ([V.ref p, V.int (((n + 1 : Nat) : Int) - 1), V.bl b] : List V) = [.ref p, nv n, .bl b'] := fun h => by rw [en, h] <;> rfl
    match way, hw, hw2 with
    | 2, _, _ =>
      cases lay with
      | false =>
        refine ⟨_, rfl, _, rfl, _, _, rfl, rfl, _, rfl, false, rfl, ?_⟩
        refine iteF ?_
        refine ⟨_, rfl, rfl, ?_⟩
        refine ⟨p, false, (argsE (by decide)), pl1.pile, fun H2 x e1 pl2 hx w1 => ?_⟩
        have pl12 := pl1.trans pl2
        refine ⟨_, rfl, rfl, _, rfl, ?_⟩
        refine ite2 (fun _ => ?_) (fun z => absurd (by decide) z)
        refine ⟨_, rfl, false, rfl, ?_⟩
        refine iteT ?_
        refine ⟨_, rfl, _, rfl, _, rfl, _, _, rfl, rfl, p, false, (argsE (by decide)), pl12.pile, fun H3 y e2 pl3 hy w2 => ?_⟩
        refine ⟨by show 3 ≤ sizeLine; decide, fun t ht => ?_⟩
        have m := same_up1 (o := .tup [.str "both", .ref x, .ref y]) ht
        exact q _ t (.both e1 e2) ((pl12.trans pl3).same m) ⟨x, y, upd_same, (hx.mono (pl3.tups pl12.pile)).mono (.same m), hy.mono (.same m)⟩ ⟨rfl, w1, w2⟩
      | true =>
        refine ⟨_, rfl, _, rfl, _, _, rfl, rfl, _, rfl, true, rfl, ?_⟩
        refine iteT ?_
        refine ⟨p, true, (argsE (by decide)), pl1.pile, fun H2 x e1 pl2 hx w1 => ?_⟩
        have pl12 := pl1.trans pl2
        refine ⟨_, rfl, rfl, _, rfl, ?_⟩
        refine ite2 (fun _ => ?_) (fun z => absurd (by decide) z)
        refine ⟨_, rfl, true, rfl, ?_⟩
        refine iteF ?_
        refine ⟨_, rfl, _, _, rfl, rfl, _, rfl, ?_⟩
        refine ite2 (fun _ => ?_) (fun z => absurd (by decide) z)
        refine ⟨_, rfl, true, rfl, ?_⟩
        refine iteT ?_
        refine iteT ?_
        refine ⟨_, rfl, _, rfl, _, rfl, _, _, rfl, rfl, _, rfl, p, true, (argsE (by decide)), pl12.pile, fun H3 y e2 pl3 hy w2 => ?_⟩
        refine ⟨by show 3 ≤ sizeLine; decide, fun t ht => ?_⟩
        have m := same_up1 (o := .tup [.str "then", .ref x, .ref y]) ht
        exact q _ t (.thn e1 e2) ((pl12.trans pl3).same m) ⟨x, y, upd_same, (hx.mono (pl3.tups pl12.pile)).mono (.same m), hy.mono (.same m)⟩ ⟨w1, w2⟩
    | 3, _, _ =>
      cases lay with
      | false =>
        refine ⟨_, rfl, _, rfl, _, _, rfl, rfl, _, rfl, false, rfl, ?_⟩
        refine iteF ?_
        refine ⟨_, rfl, rfl, ?_⟩
        refine ⟨p, true, (argsE (by decide)), pl1.pile, fun H2 x e1 pl2 hx w1 => ?_⟩
        have pl12 := pl1.trans pl2
        refine ⟨_, rfl, rfl, _, rfl, ?_⟩
        refine ite2 (fun z => absurd z (by decide)) (fun _ => ?_)
        refine iteF ?_
        refine ⟨_, rfl, _, _, rfl, rfl, _, rfl, ?_⟩
        refine ite2 (fun _ => ?_) (fun z => absurd (by decide) z)
        refine ⟨_, rfl, false, rfl, ?_⟩
        refine iteF ?_
        refine ⟨_, rfl, rfl, _, rfl, ?_⟩
        refine ite2 (fun _ => ?_) (fun z => absurd (by decide) z)
        refine ⟨_, rfl, _, rfl, _, rfl, _, _, rfl, rfl, _, rfl, p, false, (argsE (by decide)), pl12.pile, fun H3 y e2 pl3 hy w2 => ?_⟩
        refine ⟨by show 3 ≤ sizeLine; decide, fun t ht => ?_⟩
        have m := same_up1 (o := .tup [.str "then", .ref x, .ref y]) ht
        exact q _ t (.thn e1 e2) ((pl12.trans pl3).same m) ⟨x, y, upd_same, (hx.mono (pl3.tups pl12.pile)).mono (.same m), hy.mono (.same m)⟩ ⟨w1, w2⟩
      | true =>
        refine ⟨_, rfl, _, rfl, _, _, rfl, rfl, _, rfl, true, rfl, ?_⟩
        refine iteT ?_
        refine ⟨p, true, (argsE (by decide)), pl1.pile, fun H2 x e1 pl2 hx w1 => ?_⟩
        have pl12 := pl1.trans pl2
        refine ⟨_, rfl, rfl, _, rfl, ?_⟩
        refine ite2 (fun z => absurd z (by decide)) (fun _ => ?_)
        refine iteF ?_
        refine ⟨_, rfl, _, _, rfl, rfl, _, rfl, ?_⟩
        refine ite2 (fun _ => ?_) (fun z => absurd (by decide) z)
        refine ⟨_, rfl, true, rfl, ?_⟩
        refine iteT ?_
        refine iteT ?_
        refine ⟨_, rfl, _, rfl, _, rfl, _, _, rfl, rfl, _, rfl, p, true, (argsE (by decide)), pl12.pile, fun H3 y e2 pl3 hy w2 => ?_⟩
        refine ⟨by show 3 ≤ sizeLine; decide, fun t ht => ?_⟩
        have m := same_up1 (o := .tup [.str "then", .ref x, .ref y]) ht
        exact q _ t (.thn e1 e2) ((pl12.trans pl3).same m) ⟨x, y, upd_same, (hx.mono (pl3.tups pl12.pile)).mono (.same m), hy.mono (.same m)⟩ ⟨w1, w2⟩
    | 4, _, _ =>
      cases lay with
      | false =>
        refine ⟨_, rfl, _, rfl, _, _, rfl, rfl, _, rfl, false, rfl, ?_⟩
        refine iteF ?_
        refine ⟨_, rfl, rfl, ?_⟩
        refine ⟨p, false, (argsE (by decide)), pl1.pile, fun H2 x e1 pl2 hx w1 => ?_⟩
        have pl12 := pl1.trans pl2
        refine ⟨_, rfl, rfl, _, rfl, ?_⟩
        refine ite2 (fun z => absurd z (by decide)) (fun _ => ?_)
        refine iteF ?_
        refine ⟨_, rfl, _, _, rfl, rfl, _, rfl, ?_⟩
        refine ite2 (fun _ => ?_) (fun z => absurd (by decide) z)
        refine ⟨_, rfl, false, rfl, ?_⟩
        refine iteF ?_
        refine ⟨_, rfl, rfl, _, rfl, ?_⟩
        refine ite2 (fun z => absurd z (by decide)) (fun _ => ?_)
        refine ⟨_, rfl, by show 2 ≤ sizeLine; decide, fun t ht => ?_⟩
        have m := same_up1 (o := .tup [.str "turned", .ref x]) ht
        exact q _ t (.turned e1) (pl12.same m) ⟨x, upd_same, hx.mono (.same m)⟩ w1
      | true =>
        refine ⟨_, rfl, _, rfl, _, _, rfl, rfl, _, rfl, true, rfl, ?_⟩
        refine iteT ?_
        refine ⟨p, true, (argsE (by decide)), pl1.pile, fun H2 x e1 pl2 hx w1 => ?_⟩
        have pl12 := pl1.trans pl2
        refine ⟨_, rfl, rfl, _, rfl, ?_⟩
        refine ite2 (fun z => absurd z (by decide)) (fun _ => ?_)
        refine iteF ?_
        refine ⟨_, rfl, _, _, rfl, rfl, _, rfl, ?_⟩
        refine ite2 (fun _ => ?_) (fun z => absurd (by decide) z)
        refine ⟨_, rfl, true, rfl, ?_⟩
        refine iteT ?_
        refine iteT ?_
        refine ⟨_, rfl, _, rfl, _, rfl, _, _, rfl, rfl, _, rfl, p, true, (argsE (by decide)), pl12.pile, fun H3 y e2 pl3 hy w2 => ?_⟩
        refine ⟨by show 3 ≤ sizeLine; decide, fun t ht => ?_⟩
        have m := same_up1 (o := .tup [.str "then", .ref x, .ref y]) ht
        exact q _ t (.thn e1 e2) ((pl12.trans pl3).same m) ⟨x, y, upd_same, (hx.mono (pl3.tups pl12.pile)).mono (.same m), hy.mono (.same m)⟩ ⟨w1, w2⟩
    | 5, _, _ =>
      cases lay with
      | false =>
        refine ⟨_, rfl, _, rfl, _, _, rfl, rfl, _, rfl, false, rfl, ?_⟩
        refine iteF ?_
        refine ⟨_, rfl, rfl, ?_⟩
        refine ⟨p, false, (argsE (by decide)), pl1.pile, fun H2 x e1 pl2 hx w1 => ?_⟩
        have pl12 := pl1.trans pl2
        refine ⟨_, rfl, rfl, _, rfl, ?_⟩
        refine ite2 (fun z => absurd z (by decide)) (fun _ => ?_)
        refine iteF ?_
        refine ⟨_, rfl, _, _, rfl, rfl, _, rfl, ?_⟩
        refine ite2 (fun z => absurd z (by decide)) (fun _ => ?_)
        refine ⟨_, rfl, rfl, _, rfl, ?_⟩
        refine ite2 (fun _ => ?_) (fun z => absurd (by decide) z)
        refine ⟨_, rfl, _, rfl, p, 5, rfl, pl12.pile, by decide, by decide, fun H3 k pl3 hk => ⟨by show 3 ≤ sizeLine; decide, fun t ht => ?_⟩⟩
        have m := same_up1 (o := .tup [.str "until", .ref x, nv k]) ht
        exact q _ t (.upto e1 k) ((pl12.trans pl3).same m) ⟨x, upd_same, (hx.mono (pl3.tups pl12.pile)).mono (.same m)⟩ ⟨w1, hk⟩
      | true =>
        refine ⟨_, rfl, _, rfl, _, _, rfl, rfl, _, rfl, true, rfl, ?_⟩
        refine iteT ?_
        refine ⟨p, true, (argsE (by decide)), pl1.pile, fun H2 x e1 pl2 hx w1 => ?_⟩
        have pl12 := pl1.trans pl2
        refine ⟨_, rfl, rfl, _, rfl, ?_⟩
        refine ite2 (fun z => absurd z (by decide)) (fun _ => ?_)
        refine iteF ?_
        refine ⟨_, rfl, _, _, rfl, rfl, _, rfl, ?_⟩
        refine ite2 (fun z => absurd z (by decide)) (fun _ => ?_)
        refine ⟨_, rfl, rfl, _, rfl, ?_⟩
        refine ite2 (fun _ => ?_) (fun z => absurd (by decide) z)
        refine ⟨_, rfl, _, rfl, p, 5, rfl, pl12.pile, by decide, by decide, fun H3 k pl3 hk => ⟨by show 3 ≤ sizeLine; decide, fun t ht => ?_⟩⟩
        have m := same_up1 (o := .tup [.str "until", .ref x, nv k]) ht
        exact q _ t (.upto e1 k) ((pl12.trans pl3).same m) ⟨x, upd_same, (hx.mono (pl3.tups pl12.pile)).mono (.same m)⟩ ⟨w1, hk⟩
    | 6, _, _ =>
      cases lay with
      | false =>
        refine ⟨_, rfl, _, rfl, _, _, rfl, rfl, _, rfl, false, rfl, ?_⟩
        refine iteF ?_
        refine ⟨_, rfl, rfl, ?_⟩
        refine ⟨p, false, (argsE (by decide)), pl1.pile, fun H2 x e1 pl2 hx w1 => ?_⟩
        have pl12 := pl1.trans pl2
        refine ⟨_, rfl, rfl, _, rfl, ?_⟩
        refine ite2 (fun z => absurd z (by decide)) (fun _ => ?_)
        refine iteF ?_
        refine ⟨_, rfl, _, _, rfl, rfl, _, rfl, ?_⟩
        refine ite2 (fun z => absurd z (by decide)) (fun _ => ?_)
        refine ⟨_, rfl, rfl, _, rfl, ?_⟩
        refine ite2 (fun z => absurd z (by decide)) (fun _ => ?_)
        refine ⟨_, rfl, rfl, _, rfl, ?_⟩
        refine ite2 (fun _ => ?_) (fun z => absurd (by decide) z)
        refine ⟨_, rfl, p, 3, rfl, pl12.pile, by decide, by decide, fun H3 k pl3 hk => ?_⟩
        have ek : (1 : Int) + (k : Int) = ((k + 1 : Nat) : Int) := by omega
        refine ⟨_, _, rfl, rfl, ?_⟩
        refine ⟨_, rfl, _, rfl, _, rfl, _, rfl, p, k + 1, (by show [V.ref p, V.int (1 + (k : Int))] = _; rw [ek] <;> rfl), pl3.pile, by omega, by omega, fun H4 r pl4 hr4 => ⟨by show 4 ≤ sizeLine; decide, fun t ht => ?_⟩⟩
        have m := same_up1 (o := .tup [.str "every", .ref x, .int (1 + (k : Int)), nv r]) ht
        exact q _ t (.every e1 (k + 1) r) (((pl12.trans pl3).trans pl4).same m) ⟨x, by rw [upd_same]; exact congrArg (fun z => some (HO.tup [.str "every", .ref x, .int z, nv r])) ek, ((hx.mono (pl3.tups pl12.pile)).mono (pl4.tups pl3.pile)).mono (.same m)⟩ ⟨w1, by omega, by omega, hr4⟩
      | true =>
        refine ⟨_, rfl, _, rfl, _, _, rfl, rfl, _, rfl, true, rfl, ?_⟩
        refine iteT ?_
        refine ⟨p, true, (argsE (by decide)), pl1.pile, fun H2 x e1 pl2 hx w1 => ?_⟩
        have pl12 := pl1.trans pl2
        refine ⟨_, rfl, rfl, _, rfl, ?_⟩
        refine ite2 (fun z => absurd z (by decide)) (fun _ => ?_)
        refine iteF ?_
        refine ⟨_, rfl, _, _, rfl, rfl, _, rfl, ?_⟩
        refine ite2 (fun z => absurd z (by decide)) (fun _ => ?_)
        refine ⟨_, rfl, rfl, _, rfl, ?_⟩
        refine ite2 (fun z => absurd z (by decide)) (fun _ => ?_)
        refine ⟨_, rfl, rfl, _, rfl, ?_⟩
        refine ite2 (fun _ => ?_) (fun z => absurd (by decide) z)
        refine ⟨_, rfl, p, 3, rfl, pl12.pile, by decide, by decide, fun H3 k pl3 hk => ?_⟩
        have ek : (1 : Int) + (k : Int) = ((k + 1 : Nat) : Int) := by omega
        refine ⟨_, _, rfl, rfl, ?_⟩
        refine ⟨_, rfl, _, rfl, _, rfl, _, rfl, p, k + 1, (by show [V.ref p, V.int (1 + (k : Int))] = _; rw [ek] <;> rfl), pl3.pile, by omega, by omega, fun H4 r pl4 hr4 => ⟨by show 4 ≤ sizeLine; decide, fun t ht => ?_⟩⟩
        have m := same_up1 (o := .tup [.str "every", .ref x, .int (1 + (k : Int)), nv r]) ht
        exact q _ t (.every e1 (k + 1) r) (((pl12.trans pl3).trans pl4).same m) ⟨x, by rw [upd_same]; exact congrArg (fun z => some (HO.tup [.str "every", .ref x, .int z, nv r])) ek, ((hx.mono (pl3.tups pl12.pile)).mono (pl4.tups pl3.pile)).mono (.same m)⟩ ⟨w1, by omega, by omega, hr4⟩
    | 7, _, _ =>
      cases lay with
      | false =>
        refine ⟨_, rfl, _, rfl, _, _, rfl, rfl, _, rfl, false, rfl, ?_⟩
        refine iteF ?_
        refine ⟨_, rfl, rfl, ?_⟩
        refine ⟨p, false, (argsE (by decide)), pl1.pile, fun H2 x e1 pl2 hx w1 => ?_⟩
        have pl12 := pl1.trans pl2
        refine ⟨_, rfl, rfl, _, rfl, ?_⟩
        refine ite2 (fun z => absurd z (by decide)) (fun _ => ?_)
        refine iteF ?_
        refine ⟨_, rfl, _, _, rfl, rfl, _, rfl, ?_⟩
        refine ite2 (fun z => absurd z (by decide)) (fun _ => ?_)
        refine ⟨_, rfl, rfl, _, rfl, ?_⟩
        refine ite2 (fun z => absurd z (by decide)) (fun _ => ?_)
        refine ⟨_, rfl, rfl, _, rfl, ?_⟩
        refine ite2 (fun z => absurd z (by decide)) (fun _ => ?_)
        refine ⟨_, rfl, rfl, _, rfl, ?_⟩
        refine ite2 (fun _ => ?_) (fun z => absurd (by decide) z)
        refine ⟨_, rfl, _, rfl, _, rfl, _, _, rfl, rfl, _, rfl, p, false, (argsE (by decide)), pl12.pile, fun H3 y e2 pl3 hy w2 => ?_⟩
        refine ⟨by show 3 ≤ sizeLine; decide, fun t ht => ?_⟩
        have m := same_up1 (o := .tup [.str "turns", .ref x, .ref y]) ht
        exact q _ t (.turns e1 e2) ((pl12.trans pl3).same m) ⟨x, y, upd_same, (hx.mono (pl3.tups pl12.pile)).mono (.same m), hy.mono (.same m)⟩ ⟨w1, w2⟩
      | true =>
        refine ⟨_, rfl, _, rfl, _, _, rfl, rfl, _, rfl, true, rfl, ?_⟩
        refine iteT ?_
        refine ⟨p, true, (argsE (by decide)), pl1.pile, fun H2 x e1 pl2 hx w1 => ?_⟩
        have pl12 := pl1.trans pl2
        refine ⟨_, rfl, rfl, _, rfl, ?_⟩
        refine ite2 (fun z => absurd z (by decide)) (fun _ => ?_)
        refine iteF ?_
        refine ⟨_, rfl, _, _, rfl, rfl, _, rfl, ?_⟩
        refine ite2 (fun z => absurd z (by decide)) (fun _ => ?_)
        refine ⟨_, rfl, rfl, _, rfl, ?_⟩
        refine ite2 (fun z => absurd z (by decide)) (fun _ => ?_)
        refine ⟨_, rfl, rfl, _, rfl, ?_⟩
        refine ite2 (fun z => absurd z (by decide)) (fun _ => ?_)
        refine ⟨_, rfl, rfl, _, rfl, ?_⟩
        refine ite2 (fun _ => ?_) (fun z => absurd (by decide) z)
        refine ⟨_, rfl, _, rfl, _, rfl, _, _, rfl, rfl, _, rfl, p, true, (argsE (by decide)), pl12.pile, fun H3 y e2 pl3 hy w2 => ?_⟩
        refine ⟨by show 3 ≤ sizeLine; decide, fun t ht => ?_⟩
        have m := same_up1 (o := .tup [.str "turns", .ref x, .ref y]) ht
        exact q _ t (.turns e1 e2) ((pl12.trans pl3).same m) ⟨x, y, upd_same, (hx.mono (pl3.tups pl12.pile)).mono (.same m), hy.mono (.same m)⟩ ⟨w1, w2⟩
    | 8, _, _ =>
      cases lay with
      | false =>
        refine ⟨_, rfl, _, rfl, _, _, rfl, rfl, _, rfl, false, rfl, ?_⟩
        refine iteF ?_
        refine ⟨_, rfl, rfl, ?_⟩
        refine ⟨p, false, (argsE (by decide)), pl1.pile, fun H2 x e1 pl2 hx w1 => ?_⟩
        have pl12 := pl1.trans pl2
        refine ⟨_, rfl, rfl, _, rfl, ?_⟩
        refine ite2 (fun z => absurd z (by decide)) (fun _ => ?_)
        refine iteF ?_
        refine ⟨_, rfl, _, _, rfl, rfl, _, rfl, ?_⟩
        refine ite2 (fun z => absurd z (by decide)) (fun _ => ?_)
        refine ⟨_, rfl, rfl, _, rfl, ?_⟩
        refine ite2 (fun z => absurd z (by decide)) (fun _ => ?_)
        refine ⟨_, rfl, rfl, _, rfl, ?_⟩
        refine ite2 (fun z => absurd z (by decide)) (fun _ => ?_)
        refine ⟨_, rfl, rfl, _, rfl, ?_⟩
        refine ite2 (fun z => absurd z (by decide)) (fun _ => ?_)
        refine ⟨_, rfl, by show 2 ≤ sizeLine; decide, fun t ht => ?_⟩
        have m := same_up1 (o := .tup [.str "turned", .ref x]) ht
        exact q _ t (.turned e1) (pl12.same m) ⟨x, upd_same, hx.mono (.same m)⟩ w1
      | true =>
        refine ⟨_, rfl, _, rfl, _, _, rfl, rfl, _, rfl, true, rfl, ?_⟩
        refine iteT ?_
        refine ⟨p, true, (argsE (by decide)), pl1.pile, fun H2 x e1 pl2 hx w1 => ?_⟩
        have pl12 := pl1.trans pl2
        refine ⟨_, rfl, rfl, _, rfl, ?_⟩
        refine ite2 (fun z => absurd z (by decide)) (fun _ => ?_)
        refine iteF ?_
        refine ⟨_, rfl, _, _, rfl, rfl, _, rfl, ?_⟩
        refine ite2 (fun z => absurd z (by decide)) (fun _ => ?_)
        refine ⟨_, rfl, rfl, _, rfl, ?_⟩
        refine ite2 (fun z => absurd z (by decide)) (fun _ => ?_)
        refine ⟨_, rfl, rfl, _, rfl, ?_⟩
        refine ite2 (fun z => absurd z (by decide)) (fun _ => ?_)
        refine ⟨_, rfl, rfl, _, rfl, ?_⟩
        refine ite2 (fun z => absurd z (by decide)) (fun _ => ?_)
        refine ⟨_, rfl, by show 2 ≤ sizeLine; decide, fun t ht => ?_⟩
        have m := same_up1 (o := .tup [.str "turned", .ref x]) ht
        exact q _ t (.turned e1) (pl12.same m) ⟨x, upd_same, hx.mono (.same m)⟩ w1
end
end SR

/-! ### SR33 -/
set_option maxHeartbeats 4000000
namespace SR
open PySem PySem.Spec PyProof.Rows L2 SRR SRN SRZ
/-! ## few keys, by a list that holds them -/
def FewD (key : List Nat → List Nat) (n : Nat) : Prop := ∃ D : List (List Nat), D.length ≤ n ∧ ∀ w, W4 w → key w ∈ D
theorem FewD.few {key : List Nat → List Nat} {n m : Nat} (h : FewD key n) (hm : n ≤ m) : Few key m := fun L hn hL => by
  obtain ⟨D, h1, h2⟩ := h
  refine Nat.le_trans (nodup_sub_len hn fun s hs => ?_) (Nat.le_trans h1 hm)
  obtain ⟨w, hw, rfl⟩ := hL s hs
  exact h2 w hw
theorem FewD.of {key κ : List Nat → List Nat} {n : Nat} (h : FewD κ n) (g : List Nat → List Nat) (e : ∀ w, W4 w → key w = g (κ w)) : FewD key n := by
  obtain ⟨D, h1, h2⟩ := h
  exact ⟨D.map g, by rw [List.length_map]; exact h1, fun w hw => by rw [e w hw]; exact List.mem_map_of_mem (h2 w hw)⟩
/-- two keys side by side, told apart by a bar -/
theorem FewD.pair {key κ μ : List Nat → List Nat} {a b : Nat} (h : FewD κ a) (h' : FewD μ b) (g : List Nat → List Nat → List Nat) (e : ∀ w, W4 w → key w = g (κ w) (μ w)) : FewD key (a * b) := by
  obtain ⟨D, h1, h2⟩ := h
  obtain ⟨D', h3, h4⟩ := h'
  refine ⟨D.flatMap fun x => D'.map (g x), ?_, fun w hw => ?_⟩
  · rw [flat_len _ D'.length _ (fun x _ => by rw [List.length_map])]
    exact Nat.mul_le_mul h1 h3
  · rw [e w hw]
    exact List.mem_flatMap.mpr ⟨_, h2 w hw, List.mem_map.mpr ⟨_, h4 w hw, rfl⟩⟩
theorem FewD.nat {f : List Nat → Nat} {n : Nat} (h : ∀ w, W4 w → f w < n) : FewD (fun w => [f w]) n := ⟨(List.range n).map fun x => [x], by rw [List.length_map, List.length_range]; exact Nat.le_refl _, fun w hw => List.mem_map.mpr ⟨f w, List.mem_range.mpr (h w hw), rfl⟩⟩
/-! ## the named machines and their joint states -/
def rawMF (name : Str) (m : Nat) : List (List Nat) × List Bool := if name = "count" then (countRows m, countFlags m) else match rawTab.find? fun e => decide (e.1 = name) with
  | some e => (e.2.1, flagsW e.2.1 e.2.2)
  | none => ([], [])
def BM : List (List (List Nat)) := [[[0, 0, 0, 0]], [[0, 1, 2, 1], [1, 1, 1, 1], [2, 1, 2, 1]], [[0, 1, 2, 1], [1, 1, 1, 1], [2, 1, 1, 1]], [[0, 1, 2, 1], [1, 1, 1, 1], [2, 2, 2, 2]], [[0, 0, 1, 0], [1, 0, 1, 0]], [[0, 1, 2, 0], [1, 1, 1, 1], [2, 2, 2, 2]], [[0, 0, 1, 0], [1, 0, 1, 1]], [[0, 1, 2, 0], [1, 1, 1, 1], [2, 1, 2, 2]], [[0, 2, 1, 3], [1, 3, 1, 3], [2, 2, 3, 3], [3, 3, 3, 3]], [[0, 3, 1, 4], [1, 4, 2, 5], [2, 5, 2, 5], [3, 6, 4, 7], [4, 7, 5, 8], [5, 8, 5, 8], [6, 6, 7, 7], [7, 7, 8, 8], [8, 8, 8, 8]]]
def BF : List (List Bool) := [[false], [false, false, true], [false, false, true], [false, false, true], [false, true], [false, false, true], [false, true], [false, false, true], [false, true, false, false], [false, true, true, false, false, true, false, false, false]]
def JL : List (List Nat) := [[0, 0, 0, 0, 0, 0, 0, 0, 0, 0, 0, 0, 0, 0, 0, 0, 0, 0, 0, 0], [0, 1, 1, 1, 0, 1, 0, 1, 2, 3, 0, 2, 2, 2, 1, 2, 1, 2, 1, 1], [0, 2, 2, 2, 1, 2, 1, 2, 1, 1, 0, 1, 1, 1, 0, 1, 0, 1, 2, 3], [0, 1, 1, 1, 0, 0, 0, 0, 3, 4, 0, 1, 1, 1, 0, 0, 0, 0, 3, 4], [0, 1, 1, 1, 0, 1, 0, 1, 2, 6, 0, 2, 1, 2, 1, 2, 1, 2, 1, 2], [0, 1, 1, 1, 1, 1, 1, 1, 3, 4, 0, 1, 1, 2, 0, 2, 0, 1, 3, 4], [0, 1, 1, 1, 0, 1, 0, 1, 3, 7, 0, 1, 1, 2, 0, 2, 1, 2, 3, 5], [0, 1, 1, 2, 0, 2, 0, 1, 3, 4, 0, 1, 1, 1, 1, 1, 1, 1, 3, 4], [0, 2, 1, 2, 1, 2, 1, 2, 1, 2, 0, 1, 1, 1, 0, 1, 0, 1, 2, 6], [0, 1, 1, 2, 0, 2, 1, 2, 3, 5, 0, 1, 1, 1, 0, 1, 0, 1, 3, 7], [0, 1, 1, 1, 0, 1, 0, 1, 3, 7, 0, 1, 1, 1, 1, 2, 1, 2, 3, 5], [0, 1, 1, 1, 1, 2, 1, 2, 3, 5, 0, 1, 1, 1, 0, 1, 0, 1, 3, 7], [0, 1, 1, 1, 0, 0, 0, 0, 3, 8, 0, 1, 1, 1, 0, 0, 0, 0, 3, 8], [0, 1, 1, 1, 1, 1, 1, 1, 3, 7, 0, 1, 1, 2, 0, 2, 0, 1, 3, 5], [0, 1, 1, 1, 0, 1, 0, 1, 3, 7, 0, 1, 1, 2, 1, 2, 1, 1, 3, 5], [0, 1, 1, 1, 1, 1, 1, 1, 3, 5, 0, 1, 1, 2, 0, 2, 0, 1, 3, 7], [0, 1, 1, 1, 0, 1, 1, 1, 3, 8, 0, 1, 1, 2, 0, 2, 0, 1, 3, 8], [0, 1, 1, 1, 0, 1, 0, 1, 3, 7, 0, 1, 1, 2, 1, 2, 1, 2, 3, 5], [0, 1, 1, 1, 1, 1, 1, 1, 3, 8, 0, 1, 1, 2, 0, 2, 0, 1, 3, 8], [0, 1, 1, 1, 0, 1, 0, 1, 3, 8, 0, 1, 1, 2, 0, 2, 1, 2, 3, 8], [0, 1, 1, 2, 0, 2, 0, 1, 3, 7, 0, 1, 1, 1, 1, 1, 1, 1, 3, 5], [0, 1, 1, 2, 1, 2, 1, 1, 3, 5, 0, 1, 1, 1, 0, 1, 0, 1, 3, 7], [0, 1, 1, 2, 0, 2, 0, 1, 3, 8, 0, 1, 1, 1, 0, 1, 1, 1, 3, 8], [0, 1, 1, 2, 0, 2, 0, 1, 3, 5, 0, 1, 1, 1, 1, 1, 1, 1, 3, 7], [0, 1, 1, 2, 0, 2, 0, 1, 3, 8, 0, 1, 1, 1, 1, 1, 1, 1, 3, 8], [0, 1, 1, 2, 1, 2, 1, 2, 3, 5, 0, 1, 1, 1, 0, 1, 0, 1, 3, 7], [0, 1, 1, 2, 0, 2, 1, 2, 3, 8, 0, 1, 1, 1, 0, 1, 0, 1, 3, 8], [0, 1, 1, 1, 1, 1, 1, 1, 3, 8, 0, 1, 1, 1, 0, 2, 0, 1, 3, 8], [0, 1, 1, 1, 0, 1, 0, 1, 3, 8, 0, 1, 1, 1, 0, 2, 1, 2, 3, 8], [0, 1, 1, 1, 0, 2, 0, 1, 3, 8, 0, 1, 1, 1, 1, 1, 1, 1, 3, 8], [0, 1, 1, 1, 0, 2, 1, 2, 3, 8, 0, 1, 1, 1, 0, 1, 0, 1, 3, 8], [0, 1, 1, 1, 0, 1, 0, 1, 3, 8, 0, 1, 1, 1, 1, 2, 1, 2, 3, 8], [0, 1, 1, 1, 1, 2, 1, 2, 3, 8, 0, 1, 1, 1, 0, 1, 0, 1, 3, 8], [0, 1, 1, 1, 0, 1, 0, 1, 3, 8, 0, 1, 1, 2, 0, 2, 1, 1, 3, 8], [0, 1, 1, 1, 0, 1, 0, 1, 3, 8, 0, 1, 1, 2, 1, 2, 1, 1, 3, 8], [0, 1, 1, 1, 0, 1, 0, 1, 3, 8, 0, 1, 1, 2, 1, 2, 1, 2, 3, 8], [0, 1, 1, 2, 1, 2, 1, 1, 3, 8, 0, 1, 1, 1, 0, 1, 0, 1, 3, 8], [0, 1, 1, 2, 0, 2, 1, 1, 3, 8, 0, 1, 1, 1, 0, 1, 0, 1, 3, 8], [0, 1, 1, 2, 1, 2, 1, 2, 3, 8, 0, 1, 1, 1, 0, 1, 0, 1, 3, 8], [0, 1, 1, 1, 0, 1, 0, 1, 3, 8, 0, 1, 1, 1, 1, 2, 1, 1, 3, 8], [0, 1, 1, 1, 0, 1, 1, 1, 3, 8, 0, 1, 1, 1, 0, 2, 0, 1, 3, 8], [0, 1, 1, 1, 1, 2, 1, 1, 3, 8, 0, 1, 1, 1, 0, 1, 0, 1, 3, 8], [0, 1, 1, 1, 0, 2, 0, 1, 3, 8, 0, 1, 1, 1, 0, 1, 1, 1, 3, 8], [0, 1, 1, 1, 0, 1, 0, 1, 3, 8, 0, 1, 1, 1, 0, 2, 1, 1, 3, 8], [0, 1, 1, 1, 0, 2, 1, 1, 3, 8, 0, 1, 1, 1, 0, 1, 0, 1, 3, 8]]
def J (w : List Nat) : List Nat := (BM.map fun R => st R w) ++ BM.map fun R => st R (w.map mir)
def dJ (j : List Nat) (l : Nat) : List Nat := List.zipWith (fun R s => dl R s l) BM (j.take 10) ++ List.zipWith (fun R s => dl R s (mir l)) BM (j.drop 10)
theorem J_snoc (w : List Nat) (l : Nat) : J (w ++ [l]) = dJ (J w) l := by
  unfold J dJ
  rw [List.map_append]
  have e : ∀ R : List (List Nat), st R (w.map mir ++ [l].map mir) = dl R (st R (w.map mir)) (mir l) := fun R => st_snoc R _ _
  simp only [st_snoc, e]
  have h10 : (BM.map fun R => st R w).length = 10 := by rw [List.length_map] <;> rfl
  rw [List.take_left' h10, List.drop_left' h10]
  rw [List.zipWith_map_right, List.zipWith_map_right, List.zipWith_self, List.zipWith_self]
theorem JL_ok : ∀ j ∈ JL, ∀ l, l < 4 → dJ j l ∈ JL := by decide +kernel
theorem J_in : ∀ (n : Nat) (w : List Nat), w.length = n → W4 w → J w ∈ JL
  | 0, w, h, _ => by
    rw [List.eq_nil_of_length_eq_zero h]
    decide +kernel
  | n + 1, w, h, hw => by
    rcases List.eq_nil_or_concat w with e | ⟨u, l, e⟩
    · rw [e] at h
      cases h
    · rw [List.concat_eq_append] at e
      subst e
      rw [List.length_append] at h
      rw [J_snoc]
      exact JL_ok _ (J_in n u (by simpa using h) fun x hx => hw x (List.mem_append_left _ hx)) l (hw l (List.mem_append_right _ (List.mem_singleton.mpr rfl)))
theorem J_mem {w : List Nat} (hw : W4 w) : J w ∈ JL := J_in _ w rfl hw
/-- what the unfiltered rules of depth 1 know of a word -/
def UF (w : List Nat) : List Nat := w.length % 2 :: J w
theorem few_UF : FewD UF 90 := by
  refine ⟨(JL.map (0 :: ·)) ++ JL.map (1 :: ·), by decide +kernel, fun w hw => ?_⟩
  have hj := J_mem hw
  have h2 : w.length % 2 = 0 ∨ w.length % 2 = 1 := by omega
  unfold UF
  rcases h2 with h2 | h2
  · rw [h2]
    exact List.mem_append_left _ (List.mem_map_of_mem hj)
  · rw [h2]
    exact List.mem_append_right _ (List.mem_map_of_mem hj)
theorem map_mir_mir (w : List Nat) : (w.map mir).map mir = w := by
  rw [List.map_map]
  have : (mir ∘ mir) = id := funext fun l => mir_mir l
  rw [this, List.map_id]
def swapJ (j : List Nat) : List Nat := j.drop 10 ++ j.take 10
theorem J_mir (w : List Nat) : J (w.map mir) = swapJ (J w) := by
  unfold J swapJ
  have h10 : (BM.map fun R => st R w).length = 10 := by rw [List.length_map] <;> rfl
  rw [List.take_left' h10, List.drop_left' h10, map_mir_mir]
theorem UF_mir (w : List Nat) : UF (w.map mir) = (match UF w with | [] => [] | a :: j => a :: swapJ j) := by
  unfold UF
  rw [List.length_map, J_mir]
theorem UF_at {i : Nat} {R : List (List Nat)} (h : BM[i]? = some R) (w : List Nat) : (UF w).getD (i + 1) 0 = st R w := by
  unfold UF J
  have hi := (List.getElem?_eq_some_iff.mp h).1
  rw [List.getD_cons_succ, List.getD_eq_getElem?_getD, List.getElem?_append_left (by rw [List.length_map]; exact hi), List.getElem?_map, h] <;> rfl
/-- a state and the mirrored one -/
def pr2 (R : List (List Nat)) (w : List Nat) : List Nat := [st R w, st R (w.map mir)]
theorem few_pr2 : ∀ (i : Nat) (R : List (List Nat)), BM[i]? = some R → FewD (pr2 R) 9 := by
  intro i R h
  have hi := (List.getElem?_eq_some_iff.mp h).1
  refine ⟨(JL.map fun j => [j.getD i 0, j.getD (i + 10) 0]).eraseDups, ?_, fun w hw => ?_⟩
  · have key : ∀ i, i < 10 → (JL.map fun j => [j.getD i 0, j.getD (i + 10) 0]).eraseDups.length ≤ 9 := by decide +kernel
    exact key i hi
  · rw [List.mem_eraseDups]
    refine List.mem_map.mpr ⟨J w, J_mem hw, ?_⟩
    have h10 : (BM.map fun R => st R w).length = 10 := by rw [List.length_map] <;> rfl
    have e1 : (J w).getD i 0 = st R w := by
      unfold J
      rw [List.getD_eq_getElem?_getD, List.getElem?_append_left (by rw [List.length_map]; exact hi), List.getElem?_map, h] <;> rfl
    have e2 : (J w).getD (i + 10) 0 = st R (w.map mir) := by
      unfold J
      rw [List.getD_eq_getElem?_getD, List.getElem?_append_right (by rw [h10]; omega), h10, Nat.add_sub_cancel, List.getElem?_map, h] <;> rfl
    rw [e1, e2] <;> rfl
/-! ## the sense of an expression -/
def sem : Ex → List Nat → Bool
  | .plain n m, w => (rawMF n m).2.getD (st (rawMF n m).1 w) false
  | .both a b, w => sem a w && sem b w
  | .thn a b, w => sem a w || (!(sem a (w.map mir)) && sem b w)
  | .turned a, w => sem a (w.map mir)
  | .upto a k, w => sem a (cutW k w)
  | .every a d t, w => sem a (sieveW d t 0 w)
  | .turns a b, w => if w.length % 2 = 0 then sem a w else sem b w
theorem cut_map {f : Nat → Nat} (h0 : f 0 = 0) : ∀ (k : Nat) (w : List Nat), cutW k (w.map f) = (cutW k w).map f
  | _, [] => rfl
  | 0, l :: w => by
    show 0 :: cutW 0 (w.map f) = f 0 :: (cutW 0 w).map f
    rw [h0, cut_map h0 0 w]
  | k + 1, l :: w => by
    show f l :: cutW k (w.map f) = f l :: (cutW k w).map f
    rw [cut_map h0 k w]
theorem sieve_map {f : Nat → Nat} (h0 : f 0 = 0) (d t : Nat) : ∀ (i : Nat) (w : List Nat), sieveW d t i (w.map f) = (sieveW d t i w).map f
  | _, [] => rfl
  | i, l :: w => by
    show (if i % d = t then f l else 0) :: sieveW d t (i + 1) (w.map f) = f (if i % d = t then l else 0) :: (sieveW d t (i + 1) w).map f
    rw [sieve_map h0 d t (i + 1) w]
    split
    · rfl
    · rw [h0]
/-! ## asymmetry -/
def Asym (g : List Nat → Bool) : Prop := ∀ w, W4 w → g w = true → g (w.map mir) = false
theorem bm_asym : ∀ (i : Nat) (R : List (List Nat)) (f : List Bool), BM[i]? = some R → BF[i]? = some f → Asym fun w => f.getD (st R w) false := by
  intro i R f h h' w hw e
  have hi := (List.getElem?_eq_some_iff.mp h).1
  have key : ∀ i, i < 10 → ∀ j ∈ JL, ((BF.getD i []).getD (j.getD i 0) false && (BF.getD i []).getD (j.getD (i + 10) 0) false) = false := by decide +kernel
  have k := key i hi (J w) (J_mem hw)
  have h10 : (BM.map fun R => st R w).length = 10 := by rw [List.length_map] <;> rfl
  have e1 : (J w).getD i 0 = st R w := by
    unfold J
    rw [List.getD_eq_getElem?_getD, List.getElem?_append_left (by rw [List.length_map]; exact hi), List.getElem?_map, h] <;> rfl
  have e2 : (J w).getD (i + 10) 0 = st R (w.map mir) := by
    unfold J
    rw [List.getD_eq_getElem?_getD, List.getElem?_append_right (by rw [h10]; omega), h10, Nat.add_sub_cancel, List.getElem?_map, h] <;> rfl
  rw [e1, e2, getD_of h'] at k
  show f.getD (st R (w.map mir)) false = false
  have e' : f.getD (st R w) false = true := e
  rw [e'] at k
  simpa using k
/-- a plain expression's machine is one of the ten -/
theorem plain_bm {lay : Bool} {name : Str} {m : Nat} (h : PlainOk lay name m) : ∃ i : Nat, BM[i]? = some (rawMF name m).1 ∧ BF[i]? = some (rawMF name m).2 ∧ (lay = true → i ∈ [0, 1, 3, 4, 5, 6, 8, 9]) := by
  have k1 : ∀ nm ∈ layN, ∃ i, i < 10 ∧ BM[i]? = some (rawMF nm 0).1 ∧ BF[i]? = some (rawMF nm 0).2 ∧ i ∈ [0, 1, 3, 4, 5, 6, 8, 9] := by
    intro nm hn
    unfold layN at hn
    simp only [List.mem_cons, List.not_mem_nil, or_false] at hn
    rcases hn with rfl | rfl | rfl | rfl | rfl | rfl
    · exact ⟨0, by decide +kernel⟩
    · exact ⟨1, by decide +kernel⟩
    · exact ⟨3, by decide +kernel⟩
    · exact ⟨4, by decide +kernel⟩
    · exact ⟨5, by decide +kernel⟩
    · exact ⟨6, by decide +kernel⟩
  have k0 : ∀ nm : Str, nm ≠ "count" → rawMF nm m = rawMF nm 0 := fun nm hn => by
    unfold rawMF
    rw [if_neg hn, if_neg hn]
  rcases h with ⟨rfl, rfl | rfl⟩ | h | ⟨rfl, rfl | rfl⟩
  · exact ⟨8, by decide +kernel, by decide +kernel, fun _ => by decide⟩
  · exact ⟨9, by decide +kernel, by decide +kernel, fun _ => by decide⟩
  · obtain ⟨i, _, h1, h2, h3⟩ := k1 name h
    have hn : name ≠ "count" := by
      have : ∀ nm ∈ layN, nm ≠ ("count" : Str) := by decide +kernel
      exact this name h
    rw [k0 name hn]
    exact ⟨i, h1, h2, fun _ => h3⟩
  · rw [k0 _ (by decide +kernel)]
    exact ⟨7, by decide +kernel, by decide +kernel, fun z => nomatch z⟩
  · rw [k0 _ (by decide +kernel)]
    exact ⟨2, by decide +kernel, by decide +kernel, fun z => nomatch z⟩
theorem asym_sem : ∀ {e : Ex} {lay : Bool} {n : Nat}, Wf lay n e → Asym (sem e)
  | .plain name m, lay, n, h => by
    have h' : PlainOk lay name m := by
      cases n <;> exact h
    obtain ⟨i, h1, h2, _⟩ := plain_bm h'
    exact bm_asym i _ _ h1 h2
  | .both a b, lay, n + 1, h => fun w hw e => by
    have ha := asym_sem h.2.1
    have e' : (sem a w && sem b w) = true := e
    show (sem a (w.map mir) && sem b (w.map mir)) = false
    rw [ha w hw (Bool.and_eq_true_iff.mp e').1] <;> rfl
  | .thn a b, lay, n + 1, h => fun w hw e => by
    have ha := asym_sem h.1
    have hb := asym_sem h.2
    have e' : (sem a w || (!(sem a (w.map mir)) && sem b w)) = true := e
    show (sem a (w.map mir) || (!(sem a ((w.map mir).map mir)) && sem b (w.map mir))) = false
    rw [map_mir_mir]
    cases ea : sem a w with
    | true =>
      rw [ha w hw ea] <;> rfl
    | false =>
      rw [ea, Bool.false_or] at e'
      obtain ⟨e1, e2⟩ := Bool.and_eq_true_iff.mp e'
      rw [hb w hw e2]
      cases e3 : sem a (w.map mir) with
      | true => rw [e3] at e1; cases e1
      | false => rfl
  | .turned a, lay, n + 1, h => fun w hw e => asym_sem (e := a) h (w.map mir) hw.mir e
  | .upto a k, lay, n + 1, h => fun w hw e => by
    show sem a (cutW k (w.map mir)) = false
    rw [cut_map rfl]
    exact asym_sem h.1 (cutW k w) (cutW_4 hw) e
  | .every a d t, lay, n + 1, h => fun w hw e => by
    show sem a (sieveW d t 0 (w.map mir)) = false
    rw [sieve_map rfl]
    exact asym_sem h.1 (sieveW d t 0 w) (sieveW_4 hw) e
  | .turns a b, lay, n + 1, h => fun w hw e => by
    have e' : (if w.length % 2 = 0 then sem a w else sem b w) = true := e
    show (if (w.map mir).length % 2 = 0 then sem a (w.map mir) else sem b (w.map mir)) = false
    rw [List.length_map]
    by_cases p : w.length % 2 = 0
    · rw [if_pos p] at e' ⊢
      exact asym_sem h.1 w hw e'
    · rw [if_neg p] at e' ⊢
      exact asym_sem h.2 w hw e'
/-! ## layered: tied is transitive -/
def prW (p : List Nat) (u : List Nat) : List Nat := u.map fun l => let2 l p
def LayL (g : List Nat → Bool) : Prop := ∀ u, W8 u → P5.map (fun p => g (prW p u)) ≠ due5
theorem prW_4 (p u : List Nat) : W4 (prW p u) := fun x hx => by
  obtain ⟨l, _, rfl⟩ := List.mem_map.mp hx
  exact let2_lt l p
theorem runT (A : List (List Nat)) : ∀ (u s : List Nat), s.length = 5 → run (dT A) u s = List.zipWith (fun h p => stF A (prW p u) h) s P5
  | [], s, h => by
    match s, h with
    | [a, b, c, d, e], _ => rfl
  | l :: u, s, h => by
    have hl : (dT A s l).length = 5 := by
      unfold dT
      rw [List.length_zipWith, h] <;> rfl
    show run (dT A) u (dT A s l) = _
    rw [runT A u _ hl]
    match s, h with
    | [a, b, c, d, e], _ => rfl
theorem layM_iff {A : List (List Nat)} {F : List Bool} {g : List Nat → Bool} (hg : ∀ w, W4 w → F.getD (st A w) false = g w) : LayeredM A F ↔ LayL g := by
  have e : ∀ u, flagsOf F (run (dT A) u Z5) = P5.map fun p => g (prW p u) := fun u => by
    rw [runT A u Z5 rfl]
    show [F.getD (st A (prW [0, 1] u)) false, F.getD (st A (prW [1, 0] u)) false, F.getD (st A (prW [1, 2] u)) false, F.getD (st A (prW [2, 1] u)) false, F.getD (st A (prW [0, 2] u)) false] = [g (prW [0, 1] u), g (prW [1, 0] u), g (prW [1, 2] u), g (prW [2, 1] u), g (prW [0, 2] u)]
    rw [hg _ (prW_4 _ _), hg _ (prW_4 _ _), hg _ (prW_4 _ _), hg _ (prW_4 _ _), hg _ (prW_4 _ _)]
  constructor
  · intro h u hu
    rw [← e]
    exact h u hu
  · intro h u hu
    rw [e]
    exact h u hu
def D5_0 : List (List Nat) := [[0, 0, 0, 0, 0]]
def D5_1 : List (List Nat) := [[0, 0, 0, 0, 0], [1, 2, 0, 0, 1], [2, 1, 1, 2, 0], [1, 1, 1, 2, 1], [0, 0, 2, 1, 2], [1, 2, 2, 1, 1], [2, 1, 1, 1, 2], [1, 1, 1, 1, 1]]
def D5_3 : List (List Nat) := [[0, 0, 0, 0, 0], [1, 2, 0, 0, 1], [2, 1, 1, 2, 0], [1, 1, 1, 2, 1], [0, 0, 2, 1, 2], [1, 2, 2, 1, 1], [2, 1, 1, 1, 2], [1, 1, 1, 1, 1], [1, 2, 1, 2, 1], [1, 2, 1, 1, 1], [2, 1, 1, 2, 1], [2, 1, 1, 2, 2], [1, 2, 2, 1, 2], [2, 1, 2, 1, 2], [1, 1, 2, 1, 2]]
def D5_4 : List (List Nat) := [[0, 0, 0, 0, 0], [0, 1, 0, 0, 0], [1, 0, 0, 1, 0], [0, 0, 0, 1, 0], [0, 0, 1, 0, 1], [0, 1, 1, 0, 0], [1, 0, 0, 0, 1], [0, 1, 1, 0, 1], [0, 1, 0, 1, 0], [1, 0, 1, 0, 1], [1, 0, 0, 1, 1]]
def D5_5 : List (List Nat) := [[0, 0, 0, 0, 0], [1, 2, 0, 0, 1], [2, 1, 1, 2, 0], [0, 0, 1, 2, 1], [0, 0, 2, 1, 2], [1, 2, 2, 1, 0], [2, 1, 0, 0, 2], [1, 2, 1, 2, 1], [1, 2, 2, 1, 1], [2, 1, 1, 2, 1], [2, 1, 1, 2, 2], [1, 2, 2, 1, 2], [2, 1, 2, 1, 2]]
def D5_6 : List (List Nat) := [[0, 0, 0, 0, 0], [0, 1, 0, 0, 0], [1, 0, 0, 1, 0], [0, 0, 0, 1, 0], [0, 0, 1, 0, 1], [0, 1, 1, 0, 0], [1, 0, 0, 0, 1], [0, 1, 0, 1, 0], [0, 1, 1, 0, 1], [1, 0, 1, 0, 1], [1, 0, 0, 1, 1]]
def D5_8 : List (List Nat) := [[0, 0, 0, 0, 0], [2, 1, 0, 0, 2], [1, 2, 2, 1, 0], [3, 3, 2, 1, 2], [0, 0, 1, 2, 1], [2, 1, 1, 2, 3], [1, 2, 3, 3, 1], [3, 3, 3, 3, 3]]
def D5_9 : List (List Nat) := [[0, 0, 0, 0, 0], [3, 1, 0, 0, 3], [1, 3, 3, 1, 0], [4, 4, 3, 1, 3], [0, 0, 1, 3, 1], [3, 1, 1, 3, 4], [1, 3, 4, 4, 1], [4, 4, 4, 4, 4], [6, 2, 0, 0, 6], [7, 5, 3, 1, 6], [6, 2, 1, 3, 7], [7, 5, 4, 4, 7], [2, 6, 6, 2, 0], [5, 7, 6, 2, 3], [2, 6, 7, 5, 1], [5, 7, 7, 5, 4], [8, 8, 6, 2, 6], [8, 8, 7, 5, 7], [0, 0, 2, 6, 2], [3, 1, 2, 6, 5], [1, 3, 5, 7, 2], [4, 4, 5, 7, 5], [6, 2, 2, 6, 8], [7, 5, 5, 7, 8], [2, 6, 8, 8, 2], [5, 7, 8, 8, 5], [8, 8, 8, 8, 8]]
def D5s : List (List (List Nat)) := [D5_0, D5_1, [], D5_3, D5_4, D5_5, D5_6, [], D5_8, D5_9]
theorem d5_ok : ∀ i ∈ [0, 1, 3, 4, 5, 6, 8, 9], Z5 ∈ D5s.getD i [] ∧ ∀ s ∈ D5s.getD i [], flagsOf (BF.getD i []) s ≠ due5 ∧ ∀ l, l < 8 → dT (BM.getD i []) s l ∈ D5s.getD i [] := by decide +kernel
theorem bm_lay {i : Nat} {R : List (List Nat)} {f : List Bool} (hi : i ∈ [0, 1, 3, 4, 5, 6, 8, 9]) (h : BM[i]? = some R) (h' : BF[i]? = some f) : LayL fun w => f.getD (st R w) false := by
  refine (layM_iff (A := R) (F := f) fun w hw => rfl).mp fun u hu => ?_
  obtain ⟨h1, h2⟩ := d5_ok i hi
  rw [getD_of h, getD_of h'] at h2
  have key : ∀ (u s : List Nat), W8 u → s ∈ D5s.getD i [] → run (dT R) u s ∈ D5s.getD i [] := by
    intro u
    induction u with
    | nil => intro s _ hs; exact hs
    | cons l u ih => intro s hu hs; exact ih _ (fun x hx => hu x (List.mem_cons_of_mem _ hx)) ((h2 s hs).2 l (hu l (List.mem_cons_self ..)))
  exact (h2 _ (key u Z5 hu h1)).1
/-- the first and the third set change places -/
def sw02 (l : Nat) : Nat := bitAt l 2 + 2 * bitAt l 1 + 4 * bitAt l 0
theorem sw02_ok : ∀ l, l < 8 → sw02 l < 8 ∧ let2 (sw02 l) [0, 1] = let2 l [2, 1] ∧ let2 (sw02 l) [1, 0] = let2 l [1, 2] ∧ let2 (sw02 l) [1, 2] = let2 l [1, 0] ∧ let2 (sw02 l) [2, 1] = let2 l [0, 1] ∧ let2 (sw02 l) [0, 2] = let2 l [2, 0] := by decide +kernel
theorem let2_mir : ∀ l, l < 8 → mir (let2 l [0, 1]) = let2 l [1, 0] ∧ mir (let2 l [1, 0]) = let2 l [0, 1] ∧ mir (let2 l [1, 2]) = let2 l [2, 1] ∧ mir (let2 l [2, 1]) = let2 l [1, 2] ∧ mir (let2 l [0, 2]) = let2 l [2, 0] := by decide +kernel
theorem prW_mir {u : List Nat} (hu : W8 u) : (prW [0, 1] u).map mir = prW [1, 0] u ∧ (prW [1, 0] u).map mir = prW [0, 1] u ∧ (prW [1, 2] u).map mir = prW [2, 1] u ∧ (prW [2, 1] u).map mir = prW [1, 2] u ∧ (prW [0, 2] u).map mir = prW [2, 0] u := by
  unfold prW
  simp only [List.map_map]
  refine ⟨List.map_congr_left fun l hl => (let2_mir l (hu l hl)).1, List.map_congr_left fun l hl => (let2_mir l (hu l hl)).2.1, List.map_congr_left fun l hl => (let2_mir l (hu l hl)).2.2.1, List.map_congr_left fun l hl => (let2_mir l (hu l hl)).2.2.2.1, List.map_congr_left fun l hl => (let2_mir l (hu l hl)).2.2.2.2⟩
theorem prW_sw {u : List Nat} (hu : W8 u) : W8 (u.map sw02) ∧ prW [0, 1] (u.map sw02) = prW [2, 1] u ∧ prW [1, 0] (u.map sw02) = prW [1, 2] u ∧ prW [1, 2] (u.map sw02) = prW [1, 0] u ∧ prW [2, 1] (u.map sw02) = prW [0, 1] u ∧ prW [0, 2] (u.map sw02) = prW [2, 0] u := by
  unfold prW
  simp only [List.map_map]
  refine ⟨fun x hx => ?_, List.map_congr_left fun l hl => (sw02_ok l (hu l hl)).2.1, List.map_congr_left fun l hl => (sw02_ok l (hu l hl)).2.2.1, List.map_congr_left fun l hl => (sw02_ok l (hu l hl)).2.2.2.1, List.map_congr_left fun l hl => (sw02_ok l (hu l hl)).2.2.2.2.1, List.map_congr_left fun l hl => (sw02_ok l (hu l hl)).2.2.2.2.2⟩
  obtain ⟨l, hl, rfl⟩ := List.mem_map.mp hx
  exact (sw02_ok l (hu l hl)).1
/-- said by five answers -/
theorem layL_iff {g : List Nat → Bool} : LayL g ↔ ∀ u, W8 u → g (prW [0, 1] u) = false → g (prW [1, 0] u) = false → g (prW [1, 2] u) = false → g (prW [2, 1] u) = false → g (prW [0, 2] u) = false := by
  constructor
  · intro h u hu h1 h2 h3 h4
    cases h5 : g (prW [0, 2] u) with
    | false => rfl
    | true => exact absurd (by show [g (prW [0, 1] u), g (prW [1, 0] u), g (prW [1, 2] u), g (prW [2, 1] u), g (prW [0, 2] u)] = due5; rw [h1, h2, h3, h4, h5] <;> rfl) (h u hu)
  · intro h u hu e
    have e' : [g (prW [0, 1] u), g (prW [1, 0] u), g (prW [1, 2] u), g (prW [2, 1] u), g (prW [0, 2] u)] = [false, false, false, false, true] := e
    injection e' with e1 e'
    injection e' with e2 e'
    injection e' with e3 e'
    injection e' with e4 e'
    injection e' with e5 e'
    rw [h u hu e1 e2 e3 e4] at e5
    cases e5
theorem W8_cut {k : Nat} {u : List Nat} (h : W8 u) : W8 (cutW k u) := by
  have key : ∀ (k : Nat) (u : List Nat), W8 u → W8 (cutW k u) := by
    intro k u
    induction u generalizing k with
    | nil => intro _ x hx; cases k <;> exact nomatch hx
    | cons l u ih =>
      intro hu x hx
      have hu' : W8 u := fun y hy => hu y (List.mem_cons_of_mem _ hy)
      cases k with
      | zero =>
        rcases List.mem_cons.mp hx with e | e
        · rw [e]
          decide
        · exact ih 0 hu' x e
      | succ k =>
        rcases List.mem_cons.mp hx with e | e
        · rw [e]
          exact hu l (List.mem_cons_self ..)
        · exact ih k hu' x e
  exact key k u h
theorem W8_sieve {d t : Nat} : ∀ (i : Nat) (u : List Nat), W8 u → W8 (sieveW d t i u)
  | _, [], _ => fun _ hx => nomatch hx
  | i, l :: u, h => fun x hx => by
    rcases List.mem_cons.mp hx with e | e
    · rw [e]
      split
      · exact h l (List.mem_cons_self ..)
      · decide
    · exact W8_sieve (i + 1) u (fun y hy => h y (List.mem_cons_of_mem _ hy)) x e
theorem let2_0 (p : List Nat) : let2 0 p = 0 := by
  unfold let2 bitAt
  simp
theorem lay_sem : ∀ {e : Ex} {n : Nat}, Wf true n e → LayL (sem e)
  | .plain name m, n, h => by
    have h' : PlainOk true name m := by
      cases n <;> exact h
    obtain ⟨i, h1, h2, h3⟩ := plain_bm h'
    exact bm_lay (h3 rfl) h1 h2
  | .both a b, n + 1, h => nomatch h.1
  | .thn a b, n + 1, h => by
    have ha := layL_iff.mp (lay_sem h.1)
    have ha' : ∀ u, W8 u → sem a (prW [0, 1] u) = false → sem a (prW [1, 0] u) = false → sem a (prW [1, 2] u) = false → sem a (prW [2, 1] u) = false → sem a (prW [2, 0] u) = false := fun u hu h1 h2 h3 h4 => by
      obtain ⟨q0, q1, q2, q3, q4, q5⟩ := prW_sw hu
      have := ha (u.map sw02) q0
      rw [q1, q2, q3, q4, q5] at this
      exact this h4 h3 h2 h1
    have hb := layL_iff.mp (lay_sem h.2)
    refine layL_iff.mpr fun u hu h1 h2 h3 h4 => ?_
    obtain ⟨m1, m2, m3, m4, m5⟩ := prW_mir hu
    have s1 : (sem a (prW [0, 1] u) || (!(sem a ((prW [0, 1] u).map mir)) && sem b (prW [0, 1] u))) = false := h1
    have s2 : (sem a (prW [1, 0] u) || (!(sem a ((prW [1, 0] u).map mir)) && sem b (prW [1, 0] u))) = false := h2
    have s3 : (sem a (prW [1, 2] u) || (!(sem a ((prW [1, 2] u).map mir)) && sem b (prW [1, 2] u))) = false := h3
    have s4 : (sem a (prW [2, 1] u) || (!(sem a ((prW [2, 1] u).map mir)) && sem b (prW [2, 1] u))) = false := h4
    rw [m1] at s1
    rw [m2] at s2
    rw [m3] at s3
    rw [m4] at s4
    have a1 := (Bool.or_eq_false_iff.mp s1).1
    have a2 := (Bool.or_eq_false_iff.mp s2).1
    have a3 := (Bool.or_eq_false_iff.mp s3).1
    have a4 := (Bool.or_eq_false_iff.mp s4).1
    rw [a1, a2] at s1
    rw [a2, a1] at s2
    rw [a3, a4] at s3
    rw [a4, a3] at s4
    show (sem a (prW [0, 2] u) || (!(sem a ((prW [0, 2] u).map mir)) && sem b (prW [0, 2] u))) = false
    rw [ha u hu a1 a2 a3 a4, m5, ha' u hu a1 a2 a3 a4, hb u hu (by simpa using s1) (by simpa using s2) (by simpa using s3) (by simpa using s4)] <;> rfl
  | .turned a, n + 1, h => by
    have ha := layL_iff.mp (lay_sem (e := a) h)
    refine layL_iff.mpr fun u hu h1 h2 h3 h4 => ?_
    obtain ⟨m1, m2, m3, m4, m5⟩ := prW_mir hu
    have s1 : sem a ((prW [0, 1] u).map mir) = false := h1
    have s2 : sem a ((prW [1, 0] u).map mir) = false := h2
    have s3 : sem a ((prW [1, 2] u).map mir) = false := h3
    have s4 : sem a ((prW [2, 1] u).map mir) = false := h4
    rw [m1] at s1
    rw [m2] at s2
    rw [m3] at s3
    rw [m4] at s4
    show sem a ((prW [0, 2] u).map mir) = false
    rw [m5]
    obtain ⟨q0, q1, q2, q3, q4, q5⟩ := prW_sw hu
    have := ha (u.map sw02) q0
    rw [q1, q2, q3, q4, q5] at this
    exact this s3 s4 s1 s2
  | .upto a k, n + 1, h => by
    have ha := layL_iff.mp (lay_sem h.1)
    have e : ∀ p u, cutW k (prW p u) = prW p (cutW k u) := fun p u => cut_map (let2_0 p) k u
    refine layL_iff.mpr fun u hu h1 h2 h3 h4 => ?_
    have s1 : sem a (cutW k (prW [0, 1] u)) = false := h1
    have s2 : sem a (cutW k (prW [1, 0] u)) = false := h2
    have s3 : sem a (cutW k (prW [1, 2] u)) = false := h3
    have s4 : sem a (cutW k (prW [2, 1] u)) = false := h4
    rw [e] at s1 s2 s3 s4
    show sem a (cutW k (prW [0, 2] u)) = false
    rw [e]
    exact ha (cutW k u) (W8_cut hu) s1 s2 s3 s4
  | .every a d t, n + 1, h => by
    have ha := layL_iff.mp (lay_sem h.1)
    have e : ∀ p u, sieveW d t 0 (prW p u) = prW p (sieveW d t 0 u) := fun p u => sieve_map (let2_0 p) d t 0 u
    refine layL_iff.mpr fun u hu h1 h2 h3 h4 => ?_
    have s1 : sem a (sieveW d t 0 (prW [0, 1] u)) = false := h1
    have s2 : sem a (sieveW d t 0 (prW [1, 0] u)) = false := h2
    have s3 : sem a (sieveW d t 0 (prW [1, 2] u)) = false := h3
    have s4 : sem a (sieveW d t 0 (prW [2, 1] u)) = false := h4
    rw [e] at s1 s2 s3 s4
    show sem a (sieveW d t 0 (prW [0, 2] u)) = false
    rw [e]
    exact ha (sieveW d t 0 u) (W8_sieve 0 u hu) s1 s2 s3 s4
  | .turns a b, n + 1, h => by
    have ha := layL_iff.mp (lay_sem h.1)
    have hb := layL_iff.mp (lay_sem h.2)
    have e : ∀ p u, (prW p u).length = u.length := fun p u => List.length_map ..
    refine layL_iff.mpr fun u hu h1 h2 h3 h4 => ?_
    have s1 : (if (prW [0, 1] u).length % 2 = 0 then sem a (prW [0, 1] u) else sem b (prW [0, 1] u)) = false := h1
    have s2 : (if (prW [1, 0] u).length % 2 = 0 then sem a (prW [1, 0] u) else sem b (prW [1, 0] u)) = false := h2
    have s3 : (if (prW [1, 2] u).length % 2 = 0 then sem a (prW [1, 2] u) else sem b (prW [1, 2] u)) = false := h3
    have s4 : (if (prW [2, 1] u).length % 2 = 0 then sem a (prW [2, 1] u) else sem b (prW [2, 1] u)) = false := h4
    show (if (prW [0, 2] u).length % 2 = 0 then sem a (prW [0, 2] u) else sem b (prW [0, 2] u)) = false
    rw [e] at s1 s2 s3 s4 ⊢
    by_cases p : u.length % 2 = 0
    · rw [if_pos p] at s1 s2 s3 s4 ⊢
      exact ha u hu s1 s2 s3 s4
    · rw [if_neg p] at s1 s2 s3 s4 ⊢
      exact hb u hu s1 s2 s3 s4
end SR

/-! ### SR34 -/
set_option maxHeartbeats 4000000
namespace SR
open PySem PySem.Spec PyProof.Rows L2 SRR SRN SRZ
def IsU (A : List (List Nat)) : Prop := ∃ φ : List Nat → Nat, ∀ w, W4 w → st A w = φ (UF w)
def IsV (A : List (List Nat)) : Prop := ∃ κ : List Nat → List Nat, FewD κ 45 ∧ (∃ ψ : List Nat → List Nat, ∀ w, W4 w → κ (w.map mir) = ψ (κ w)) ∧ ∃ φ : List Nat → Nat, ∀ w, W4 w → st A w = φ (κ w)
def Feat (A : List (List Nat)) : Prop := IsU A ∨ IsV A
theorem FewD.mono {key : List Nat → List Nat} {n m : Nat} (h : FewD key n) (hm : n ≤ m) : FewD key m := let ⟨D, h1, h2⟩ := h; ⟨D, Nat.le_trans h1 hm, h2⟩
theorem UF_mir2 : ∃ ψ : List Nat → List Nat, ∀ w, UF (w.map mir) = ψ (UF w) := ⟨fun k => match k with | [] => [] | a :: j => a :: swapJ j, fun w => UF_mir w⟩
theorem UF_par (w : List Nat) : (UF w).getD 0 0 = w.length % 2 := rfl
section
variable {A B : List (List Nat)}
theorem feat_key2 (hA : Feat A) (hB : Feat B) : FewD (key2 A B) 4050 := by
  rcases hA with ⟨φ, hφ⟩ | ⟨κ, fκ, ⟨ψ, hψ⟩, φ, hφ⟩ <;> rcases hB with ⟨φ', hφ'⟩ | ⟨κ', fκ', ⟨ψ', hψ'⟩, φ', hφ'⟩
  · exact (few_UF.of (fun k => [φ k, φ' k]) fun w hw => by unfold key2; rw [hφ w hw, hφ' w hw]).mono (by decide)
  · exact (few_UF.pair fκ' (fun k l => [φ k, φ' l]) fun w hw => by unfold key2; rw [hφ w hw, hφ' w hw]).mono (by decide)
  · exact (fκ.pair few_UF (fun k l => [φ k, φ' l]) fun w hw => by unfold key2; rw [hφ w hw, hφ' w hw]).mono (by decide)
  · exact (fκ.pair fκ' (fun k l => [φ k, φ' l]) fun w hw => by unfold key2; rw [hφ w hw, hφ' w hw]).mono (by decide)
theorem feat_key3 (hA : Feat A) (hB : Feat B) : FewD (key3 A B) 4050 := by
  obtain ⟨θ, hθ⟩ := UF_mir2
  rcases hA with ⟨φ, hφ⟩ | ⟨κ, fκ, ⟨ψ, hψ⟩, φ, hφ⟩ <;> rcases hB with ⟨φ', hφ'⟩ | ⟨κ', fκ', ⟨ψ', hψ'⟩, φ', hφ'⟩
  · exact (few_UF.of (fun k => [φ k, φ (θ k), φ' k]) fun w hw => by unfold key3; rw [hφ w hw, hφ _ hw.mir, hθ, hφ' w hw]).mono (by decide)
  · exact (few_UF.pair fκ' (fun k l => [φ k, φ (θ k), φ' l]) fun w hw => by unfold key3; rw [hφ w hw, hφ _ hw.mir, hθ, hφ' w hw]).mono (by decide)
  · exact (fκ.pair few_UF (fun k l => [φ k, φ (ψ k), φ' l]) fun w hw => by unfold key3; rw [hφ w hw, hφ _ hw.mir, hψ w hw, hφ' w hw]).mono (by decide)
  · exact (fκ.pair fκ' (fun k l => [φ k, φ (ψ k), φ' l]) fun w hw => by unfold key3; rw [hφ w hw, hφ _ hw.mir, hψ w hw, hφ' w hw]).mono (by decide)
theorem feat_keyT (hA : Feat A) (hB : Feat B) : FewD (keyT A B) 4050 := by
  rcases hA with ⟨φ, hφ⟩ | ⟨κ, fκ, _, φ, hφ⟩ <;> rcases hB with ⟨φ', hφ'⟩ | ⟨κ', fκ', _, φ', hφ'⟩
  · exact (few_UF.of (fun k => [k.getD 0 0, φ k, φ' k]) fun w hw => by unfold keyT; rw [hφ w hw, hφ' w hw, UF_par]).mono (by decide)
  · exact (few_UF.pair fκ' (fun k l => [k.getD 0 0, φ k, φ' l]) fun w hw => by unfold keyT; rw [hφ w hw, hφ' w hw, UF_par]).mono (by decide)
  · exact (fκ.pair few_UF (fun k l => [l.getD 0 0, φ k, φ' l]) fun w hw => by unfold keyT; rw [hφ w hw, hφ' w hw, UF_par]).mono (by decide)
  · have h2 : FewD (key2 A B) (45 * 45) := fκ.pair fκ' (fun k l => [φ k, φ' l]) fun w hw => by unfold key2; rw [hφ w hw, hφ' w hw]
    exact ((FewD.nat (f := fun w => w.length % 2) (n := 2) fun w _ => Nat.mod_lt _ (by decide)).pair h2 (fun k l => [k.getD 0 0, l.getD 0 0, l.getD 1 0]) fun w hw => rfl).mono (by decide)
theorem u_key2 (hA : IsU A) (hB : IsU B) {C : List (List Nat)} (h : ∃ φ : List Nat → Nat, ∀ w, W4 w → st C w = φ (key2 A B w)) : IsU C := by
  obtain ⟨φ, hφ⟩ := hA
  obtain ⟨φ', hφ'⟩ := hB
  obtain ⟨χ, hχ⟩ := h
  exact ⟨fun k => χ [φ k, φ' k], fun w hw => by rw [hχ w hw]; unfold key2; rw [hφ w hw, hφ' w hw]⟩
theorem u_key3 (hA : IsU A) (hB : IsU B) {C : List (List Nat)} (h : ∃ φ : List Nat → Nat, ∀ w, W4 w → st C w = φ (key3 A B w)) : IsU C := by
  obtain ⟨θ, hθ⟩ := UF_mir2
  obtain ⟨φ, hφ⟩ := hA
  obtain ⟨φ', hφ'⟩ := hB
  obtain ⟨χ, hχ⟩ := h
  exact ⟨fun k => χ [φ k, φ (θ k), φ' k], fun w hw => by rw [hχ w hw]; unfold key3; rw [hφ w hw, hφ _ hw.mir, hθ, hφ' w hw]⟩
theorem u_keyT (hA : IsU A) (hB : IsU B) {C : List (List Nat)} (h : ∃ φ : List Nat → Nat, ∀ w, W4 w → st C w = φ (keyT A B w)) : IsU C := by
  obtain ⟨φ, hφ⟩ := hA
  obtain ⟨φ', hφ'⟩ := hB
  obtain ⟨χ, hχ⟩ := h
  exact ⟨fun k => χ [k.getD 0 0, φ k, φ' k], fun w hw => by rw [hχ w hw]; unfold keyT; rw [hφ w hw, hφ' w hw] <;> rfl⟩
theorem u_keyM (hA : IsU A) {C : List (List Nat)} (h : ∃ φ : List Nat → Nat, ∀ w, W4 w → st C w = φ (keyM A w)) : IsU C := by
  obtain ⟨θ, hθ⟩ := UF_mir2
  obtain ⟨φ, hφ⟩ := hA
  obtain ⟨χ, hχ⟩ := h
  exact ⟨fun k => χ [φ (θ k)], fun w hw => by rw [hχ w hw]; unfold keyM; rw [hφ _ hw.mir, hθ]⟩
/-- a named rule's machine -/
def Base0 (A : List (List Nat)) : Prop := A.length ≤ 9 ∧ ∃ (i : Nat) (R : List (List Nat)) (φ : Nat → Nat), BM[i]? = some R ∧ ∀ w, W4 w → st A w = φ (st R w)
theorem Base0.isU (h : Base0 A) : IsU A := by
  obtain ⟨_, i, R, φ, hR, hφ⟩ := h
  exact ⟨fun k => φ (k.getD (i + 1) 0), fun w hw => by show st A w = φ ((UF w).getD (i + 1) 0); rw [hφ w hw, UF_at hR]⟩
theorem v_upto (h : Base0 A) {k : Nat} (hk : k < 5) {C : List (List Nat)} (hC : ∃ φ : List Nat → Nat, ∀ w, W4 w → st C w = φ (keyU A k w)) : IsV C := by
  obtain ⟨_, i, R, φ, hR, hφ⟩ := h
  obtain ⟨χ, hχ⟩ := hC
  obtain ⟨D, d1, d2⟩ := few_pr2 i R hR
  refine ⟨fun w => min w.length k :: pr2 R (cutW k w), ?_, ⟨fun s => [s.getD 0 0, s.getD 2 0, s.getD 1 0], fun w hw => ?_⟩, fun s => χ [s.getD 0 0, φ (s.getD 1 0)], fun w hw => ?_⟩
  · have f1 : FewD (fun w => [min w.length k]) (k + 1) := FewD.nat fun w _ => by omega
    have f2 : FewD (fun w => pr2 R (cutW k w)) 9 := ⟨D, d1, fun w hw => d2 _ (cutW_4 hw)⟩
    exact (f1.pair f2 (fun a b => a.getD 0 0 :: b) fun w hw => rfl).mono (by omega)
  · show min (w.map mir).length k :: pr2 R (cutW k (w.map mir)) = [min w.length k, st R ((cutW k w).map mir), st R (cutW k w)]
    rw [List.length_map, cut_map rfl]
    unfold pr2
    rw [map_mir_mir]
  · rw [hχ w hw]
    show χ [min w.length k, st A (cutW k w)] = χ [min w.length k, φ (st R (cutW k w))]
    rw [hφ _ (cutW_4 hw)]
theorem v_every (h : Base0 A) {d t : Nat} (hd : d ≤ 3) (hd0 : 0 < d) {C : List (List Nat)} (hC : ∃ φ : List Nat → Nat, ∀ w, W4 w → st C w = φ (keyE A d t w)) : IsV C := by
  obtain ⟨_, i, R, φ, hR, hφ⟩ := h
  obtain ⟨χ, hχ⟩ := hC
  obtain ⟨D, d1, d2⟩ := few_pr2 i R hR
  refine ⟨fun w => w.length % d :: pr2 R (sieveW d t 0 w), ?_, ⟨fun s => [s.getD 0 0, s.getD 2 0, s.getD 1 0], fun w hw => ?_⟩, fun s => χ [s.getD 0 0, φ (s.getD 1 0)], fun w hw => ?_⟩
  · have f1 : FewD (fun w => [w.length % d]) d := FewD.nat fun w _ => Nat.mod_lt _ hd0
    have f2 : FewD (fun w => pr2 R (sieveW d t 0 w)) 9 := ⟨D, d1, fun w hw => d2 _ (sieveW_4 hw)⟩
    exact (f1.pair f2 (fun a b => a.getD 0 0 :: b) fun w hw => rfl).mono (by omega)
  · show (w.map mir).length % d :: pr2 R (sieveW d t 0 (w.map mir)) = [w.length % d, st R ((sieveW d t 0 w).map mir), st R (sieveW d t 0 w)]
    rw [List.length_map, sieve_map rfl]
    unfold pr2
    rw [map_mir_mir]
  · rw [hχ w hw]
    show χ [w.length % d, st A (sieveW d t 0 w)] = χ [w.length % d, φ (st R (sieveW d t 0 w))]
    rw [hφ _ (sieveW_4 hw)]
theorem few_st (ok : OkR A) : FewD (fun w => [st A w]) A.length := FewD.nat fun w hw => ok.st_lt hw ok.pos
theorem few_keyU (ok : OkR A) (k : Nat) : FewD (keyU A k) ((k + 1) * A.length) := by
  have f1 : FewD (fun w => [min w.length k]) (k + 1) := FewD.nat fun w _ => by omega
  have f2 : FewD (fun w => [st A (cutW k w)]) A.length := FewD.nat fun w hw => ok.st_lt (cutW_4 hw) ok.pos
  exact f1.pair f2 (fun a b => [a.getD 0 0, b.getD 0 0]) fun w hw => rfl
theorem few_keyE (ok : OkR A) {d : Nat} (t : Nat) (hd : 0 < d) : FewD (keyE A d t) (d * A.length) := by
  have f1 : FewD (fun w => [w.length % d]) d := FewD.nat fun w _ => Nat.mod_lt _ hd
  have f2 : FewD (fun w => [st A (sieveW d t 0 w)]) A.length := FewD.nat fun w hw => ok.st_lt (sieveW_4 hw) ok.pos
  exact f1.pair f2 (fun a b => [a.getD 0 0, b.getD 0 0]) fun w hw => rfl
theorem few_keyM (ok : OkR A) : FewD (keyM A) A.length := by
  have f2 : FewD (fun w => [st A (w.map mir)]) A.length := FewD.nat fun w hw => ok.st_lt hw.mir ok.pos
  exact f2
theorem few_key2 (ok : OkR A) (ok' : OkR B) : FewD (key2 A B) (A.length * B.length) := (few_st ok).pair (few_st ok') (fun a b => [a.getD 0 0, b.getD 0 0]) fun w hw => rfl
theorem few_key3 (ok : OkR A) (ok' : OkR B) : FewD (key3 A B) (A.length * (A.length * B.length)) := (few_st ok).pair ((few_keyM ok).pair (few_st ok') (fun a b => [a.getD 0 0, b.getD 0 0]) fun w hw => rfl) (fun a b => [a.getD 0 0, b.getD 0 0, b.getD 1 0]) fun w hw => rfl
theorem few_keyT (ok : OkR A) (ok' : OkR B) : FewD (keyT A B) (2 * (A.length * B.length)) := (FewD.nat (f := fun w => w.length % 2) (n := 2) fun w _ => Nat.mod_lt _ (by decide)).pair (few_key2 ok ok') (fun k l => [k.getD 0 0, l.getD 0 0, l.getD 1 0]) fun w hw => rfl
theorem base_key3 (h : Base0 A) (ok' : OkR B) : FewD (key3 A B) (9 * B.length) := by
  obtain ⟨_, i, R, φ, hR, hφ⟩ := h
  exact (few_pr2 i R hR).pair (few_st ok') (fun a b => [φ (a.getD 0 0), φ (a.getD 1 0), b.getD 0 0]) fun w hw => by
    unfold key3
    rw [hφ w hw, hφ _ hw.mir]
    rfl
end
def Lang (A : List (List Nat)) (F : List Bool) (e : Ex) : Prop := ∀ w, W4 w → F.getD (st A w) false = sem e w
def Info : Nat → List (List Nat) → Prop
  | 0, A => Base0 A
  | 1, A => Feat A
  | _, _ => True
theorem Info.feat : ∀ {n : Nat} {A : List (List Nat)}, n ≤ 1 → Info n A → Feat A
  | 0, _, _, h => .inl h.isU
  | 1, _, _, h => h
end SR

/-! ### SR35 -/
set_option maxHeartbeats 4000000
namespace SR
open PySem PySem.Spec PyProof.Rows L2 SRR SRN SRZ
/-- Rule's methods, called -/
structure RuleM (P : Program) (w : World) (K : PySem.W.Frag) (mg : Str → Option Value) (base : Heap) (CM CT : Addr) : Prop where
  rf : Rf K CM
  first : PySem.W.selfFirst K CM = true
  and_ : ∃ (f : Addr) (fd : FuncData), OpM K CM (PySem.dunder Operator.BitAnd.info.2) f ∧ FnOk P w K mg base (L2.CX P w) 8 f fd ["self", "other"] (spAnd CM CT) ∧ Binds K fd ["self", "other"] []
  shift : ∃ (f : Addr) (fd : FuncData), OpM K CM (PySem.dunder Operator.RShift.info.2) f ∧ FnOk P w K mg base (L2.CX P w) 8 f fd ["self", "other"] (spShift CM CT) ∧ Binds K fd ["self", "other"] []
  inv : ∃ (f : Addr) (fd : FuncData), OpM K CM "__invert__" f ∧ FnOk P w K mg base (L2.CX P w) 8 f fd ["self"] (spInv CM CT) ∧ Binds K fd ["self"] []
  in_ : ∃ (f : Addr) (fd : FuncData), OpM K CM "__contains__" f ∧ FnOk P w K mg base CX0 3 f fd ["self", "x"] (spContains CM) ∧ Binds K fd ["self", "x"] []
  turns : ∃ (f : Addr) (fd : FuncData), Meth K CM "turns" f ∧ FnOk P w K mg base (L2.CX P w) 8 f fd ["self", "other"] (spTurns CM CT) ∧ Binds K fd ["self", "other"] []
  until_ : ∃ (f : Addr) (fd : FuncData), Meth K CM "until" f ∧ FnOk P w K mg base (L2.CX P w) 8 f fd ["self", "number"] (spUntil CM CT) ∧ Binds K fd ["self", "number"] []
  every : ∃ (f : Addr) (fd : FuncData), Meth K CM "every" f ∧ FnOk P w K mg base (L2.CX P w) 8 f fd ["self", "divisor", "rest"] (spEvery CM CT) ∧ Binds K fd ["self", "divisor", "rest"] []
  isL : ∃ (f : Addr) (fd : FuncData), Meth K CM "is_layered" f ∧ FnOk P w K mg base CX0 6 f fd ["self"] (spIsL CM) ∧ Binds K fd ["self"] []
  named : NamedM P w K mg base CM
abbrev sBuilt : Stmt := top 85
theorem scBuilt : FnScope ["_law_told", "_law_kind"] ["_law_told"] (defScope sBuilt) := ⟨rfl, rfl, rfl, by decide +kernel, rfl, by decide +kernel, by decide +kernel⟩
def spBuilt (CM CT : Addr) (n : Nat) : Sp := fun vs H Q E => ∃ (t : Addr) (e : Ex) (lay : Bool), vs = [.ref t] ∧ ExAt H t e ∧ Wf lay n e ∧ (n ≠ 0 → ∀ (d : Addr) (H' : Hp), Same H H' → E (.ref CT) (some d) H') ∧
  ∀ (H' : Hp) (x : Addr) (A : List (List Nat)) (F : List Bool), Same H H' → RuleAt CM H' x A F → Good A F → Lang A F e → Info n A → Q (.ref x) H'
def spBuiltP (CM CT : Addr) : Nat → Sp
  | 0 => fun _ _ _ _ => False
  | n + 1 => spBuilt CM CT n
theorem plain_names {lay : Bool} {name : Str} {m : Nat} (h : PlainOk lay name m) : name ∈ namesL := by
  rcases h with ⟨rfl, _⟩ | h | ⟨_, rfl | rfl⟩
  · decide +kernel
  · have k : ∀ nm ∈ layN, nm ∈ namesL := by decide +kernel
    exact k _ h
  · decide +kernel
  · decide +kernel
theorem names_ne : ∀ nm ∈ namesL, nm ≠ "both" ∧ nm ≠ "turned" ∧ nm ≠ "then" ∧ nm ≠ "turns" ∧ nm ≠ "until" ∧ nm ≠ "every" := by decide +kernel
theorem raw_mf : ∀ nm ∈ namesL, nm ≠ "count" → ∃ wo, (nm, (rawMF nm 0).1, wo) ∈ rawTab ∧ (rawMF nm 0).2 = flagsW (rawMF nm 0).1 wo := by
  intro nm h hn
  unfold namesL at h
  simp only [List.mem_cons, List.not_mem_nil, or_false] at h
  rcases h with rfl | rfl | rfl | rfl | rfl | rfl | rfl | rfl | rfl
  · exact ⟨[], by decide +kernel⟩
  · exact ⟨[2], by decide +kernel⟩
  · exact ⟨[2], by decide +kernel⟩
  · exact ⟨[2], by decide +kernel⟩
  · exact ⟨[1], by decide +kernel⟩
  · exact ⟨[2], by decide +kernel⟩
  · exact ⟨[1], by decide +kernel⟩
  · exact ⟨[2], by decide +kernel⟩
  · exact absurd rfl hn
theorem rawMF_0 {nm : Str} (hn : nm ≠ "count") (m : Nat) : rawMF nm m = rawMF nm 0 := by
  unfold rawMF
  rw [if_neg hn, if_neg hn]
theorem bm_len : ∀ (i : Nat) (R : List (List Nat)), BM[i]? = some R → R.length ≤ 9 := by
  intro i R h
  have k : ∀ R ∈ BM, R.length ≤ 9 := by decide +kernel
  exact k R (List.mem_of_getElem? h)
/-- a made named rule is one of the sense -/
theorem plain_made {lay : Bool} {name : Str} {m : Nat} {A : List (List Nat)} {F : List Bool} (h : PlainOk lay name m) (M : Made A F (rawMF name m).1.length (fun w => (rawMF name m).2.getD (st (rawMF name m).1 w) false) (key1 (rawMF name m).1)) : Good A F ∧ Lang A F (.plain name m) ∧ Base0 A := by
  obtain ⟨i, h1, _, _⟩ := plain_bm h
  obtain ⟨φ, hφ⟩ := M.key
  exact ⟨M.good, fun w hw => M.lang w hw, Nat.le_trans M.few (bm_len i _ h1), i, _, fun s => φ [s], h1, fun w hw => hφ w hw⟩
section
variable {P : Program} {w : World} {K : PySem.W.Frag} {mg : Str → Option Value} {base : Heap} {CM CT : Addr}
theorem ok_built (n k : Nat) (hn : n ≤ 2) (hk : 9 ≤ k) {f : Addr} {fd : FuncData} (Fn : Fun K "_law_built" "_law_built" sBuilt f fd) (RM : RuleM P w K mg base CM CT) (GB : Fx P w K mg base (L2.CX P w) k "_law_built" ["_law_told"] (spBuiltP CM CT n)) : FnOk P w K mg base (L2.CX P w) (k + 1) f fd ["_law_told"] (spBuilt CM CT n) := by
  refine Fn.okX scBuilt (fun vs H Q E h => ?_) (fun cdv A₀ outer s H vs Q E hr h => ?_)
  · obtain ⟨t, e, lay, rfl, _⟩ := h
    rfl
  · obtain ⟨t, e, lay, rfl, hx, hwf, hE, q⟩ := h
    have nd := scBuilt.nd
    have hcl := RM.rf
    obtain ⟨fA, fdA, mA, FA, bA⟩ := RM.and_
    obtain ⟨fS, fdS, mS, FS, bS⟩ := RM.shift
    obtain ⟨fI, fdI, mI, FI, bI⟩ := RM.inv
    obtain ⟨fT, fdT, mT, FT, bT⟩ := RM.turns
    obtain ⟨fU, fdU, mU, FU, bU⟩ := RM.until_
    obtain ⟨fV, fdV, mV, FV, bV⟩ := RM.every
    obtain ⟨CR, mc, pp, g, fdN, ds, gg, hCR, rR, sN, FN, bN, dN, kN⟩ := RM.named.ex
    have hr8 := hr.mono (by omega : 8 ≤ k)
    refine ⟨_,
    (pss_cons (ps_set (i := 1) nd rfl (.inl rfl) (pe_ix ix_tup (pv 0) pe_int (fun _ _ => rfl)))
    (pss_cons (ps_if (pt_cmpR op_eq (pv 1) pe_str (nomark _)) 
      (pss_one (ps_ret (pe_op (op_own2 RM.first mA FA hr8 bA (passes_call (W := fun cls d _ H => E cls d H) (takes_of rfl rfl rfl rfl) (fun _ _ _ _ h => h))) (pe_fx GB hr (passes_call (W := fun cls d _ H => E cls d H) (takes_of rfl rfl rfl rfl) (fun _ _ _ _ h => h)) (pa_cons (pe_ix ix_tup (pv 0) pe_int (fun _ _ => rfl)) (pa_nil))) (pe_fx GB hr (passes_call (W := fun cls d _ H => E cls d H) (takes_of rfl rfl rfl rfl) (fun _ _ _ _ h => h)) (pa_cons (pe_ix ix_tup (pv 0) pe_int (fun _ _ => rfl)) (pa_nil)))))) pss_nil)
    (pss_cons (ps_if (pt_cmpR op_eq (pv 1) pe_str (nomark _)) 
      (pss_one (ps_ret (pe_un (un_inv mI FI hr8 bI (passes_call (W := fun cls d _ H => E cls d H) (takes_of rfl rfl rfl rfl) (fun _ _ _ _ h => h))) (pe_fx GB hr (passes_call (W := fun cls d _ H => E cls d H) (takes_of rfl rfl rfl rfl) (fun _ _ _ _ h => h)) (pa_cons (pe_ix ix_tup (pv 0) pe_int (fun _ _ => rfl)) (pa_nil)))))) pss_nil)
    (pss_cons (ps_if (pt_cmpR op_eq (pv 1) pe_str (nomark _)) 
      (pss_one (ps_ret (pe_op (op_own2 RM.first mS FS hr8 bS (passes_call (W := fun cls d _ H => E cls d H) (takes_of rfl rfl rfl rfl) (fun _ _ _ _ h => h))) (pe_fx GB hr (passes_call (W := fun cls d _ H => E cls d H) (takes_of rfl rfl rfl rfl) (fun _ _ _ _ h => h)) (pa_cons (pe_ix ix_tup (pv 0) pe_int (fun _ _ => rfl)) (pa_nil))) (pe_fx GB hr (passes_call (W := fun cls d _ H => E cls d H) (takes_of rfl rfl rfl rfl) (fun _ _ _ _ h => h)) (pa_cons (pe_ix ix_tup (pv 0) pe_int (fun _ _ => rfl)) (pa_nil)))))) pss_nil)
    (pss_cons (ps_if (pt_cmpR op_eq (pv 1) pe_str (nomark _)) 
      (pss_one (ps_ret (pe_meth (pe_fx GB hr (passes_call (W := fun cls d _ H => E cls d H) (takes_of rfl rfl rfl rfl) (fun _ _ _ _ h => h)) (pa_cons (pe_ix ix_tup (pv 0) pe_int (fun _ _ => rfl)) (pa_nil))) hcl.cl mT FT hr8 bT .nil (passes_call (W := fun cls d _ H => E cls d H) (takes_of rfl rfl rfl rfl) (fun _ _ _ _ h => h)) (pa_cons (pe_fx GB hr (passes_call (W := fun cls d _ H => E cls d H) (takes_of rfl rfl rfl rfl) (fun _ _ _ _ h => h)) (pa_cons (pe_ix ix_tup (pv 0) pe_int (fun _ _ => rfl)) (pa_nil))) (pa_nil))))) pss_nil)
    (pss_cons (ps_if (pt_cmpR op_eq (pv 1) pe_str (nomark _)) 
      (pss_one (ps_ret (pe_meth (pe_fx GB hr (passes_call (W := fun cls d _ H => E cls d H) (takes_of rfl rfl rfl rfl) (fun _ _ _ _ h => h)) (pa_cons (pe_ix ix_tup (pv 0) pe_int (fun _ _ => rfl)) (pa_nil))) hcl.cl mU FU hr8 bU .nil (passes_call (W := fun cls d _ H => E cls d H) (takes_of rfl rfl rfl rfl) (fun _ _ _ _ h => h)) (pa_cons (pe_ix ix_tup (pv 0) pe_int (fun _ _ => rfl)) (pa_nil))))) pss_nil)
    (pss_cons (ps_if (pt_cmpR op_eq (pv 1) pe_str (nomark _)) 
      (pss_one (ps_ret (pe_meth (pe_fx GB hr (passes_call (W := fun cls d _ H => E cls d H) (takes_of rfl rfl rfl rfl) (fun _ _ _ _ h => h)) (pa_cons (pe_ix ix_tup (pv 0) pe_int (fun _ _ => rfl)) (pa_nil))) hcl.cl mV FV hr8 bV .nil (passes_call (W := fun cls d _ H => E cls d H) (takes_of rfl rfl rfl rfl) (fun _ _ _ _ h => h)) (pa_cons (pe_ix ix_tup (pv 0) pe_int (fun _ _ => rfl)) (pa_cons (pe_ix ix_tup (pv 0) pe_int (fun _ _ => rfl)) (pa_nil)))))) pss_nil)
    (pss_cons (ps_if (pt_cmpR op_eq (pv 1) pe_str (nomark _)) 
      (pss_one (ps_ret (pe_smethN (pe_glob (v := .ref CR) rfl hCR rfl) rR sN FN hr8 kN pass0 (pa_cons (pv 1) pa_nil) (pk_cons (pe_ix ix_tup (pv 0) pe_int (fun _ _ => rfl)) pk_nil)))) pss_nil)
    (pss_one (ps_ret (pe_smeth (pe_glob (v := .ref CR) rfl hCR rfl) rR sN FN hr8 bN dN pass0 (pa_cons (pv 1) pa_nil)))))))))))), ?_⟩
    cases e with
    | plain name m =>
      have hp : PlainOk lay name m := by cases n <;> exact hwf
      have hnm := plain_names hp
      obtain ⟨n1, n2, n3, n4, n5, n6⟩ := names_ne name hnm
      refine ⟨_, rfl, t, _, _, _, rfl, rfl, SqT.of hx, at_of (j := 0) rfl rfl, ?_⟩
      refine ⟨_, rfl, rfl, _, rfl, ?_⟩
      refine ite2 (fun z => absurd (of_decide_eq_true z) (fun y => n1 (by injection y))) (fun _ => ?_)
      refine ⟨_, rfl, rfl, _, rfl, ?_⟩
      refine ite2 (fun z => absurd (of_decide_eq_true z) (fun y => n2 (by injection y))) (fun _ => ?_)
      refine ⟨_, rfl, rfl, _, rfl, ?_⟩
      refine ite2 (fun z => absurd (of_decide_eq_true z) (fun y => n3 (by injection y))) (fun _ => ?_)
      refine ⟨_, rfl, rfl, _, rfl, ?_⟩
      refine ite2 (fun z => absurd (of_decide_eq_true z) (fun y => n4 (by injection y))) (fun _ => ?_)
      refine ⟨_, rfl, rfl, _, rfl, ?_⟩
      refine ite2 (fun z => absurd (of_decide_eq_true z) (fun y => n5 (by injection y))) (fun _ => ?_)
      refine ⟨_, rfl, rfl, _, rfl, ?_⟩
      refine ite2 (fun z => absurd (of_decide_eq_true z) (fun y => n6 (by injection y))) (fun _ => ?_)
      refine ⟨_, rfl, rfl, _, rfl, ?_⟩
      have fin : GetsMade CM H Q (rawMF name m).1.length (fun w => (rawMF name m).2.getD (st (rawMF name m).1 w) false) (key1 (rawMF name m).1) := fun H' x A' F' s' hr' M => by
        obtain ⟨g1, g2, g3⟩ := plain_made hp M
        refine q H' x A' F' s' hr' g1 g2 ?_
        cases n with
        | zero => exact g3
        | succ n => cases n with
          | zero => exact .inl g3.isU
          | succ n => trivial
      refine ite2 (fun z => ?_) (fun z => ?_)
      · have ec : name = "count" := by
          have := of_decide_eq_true z
          injection this
        subst ec
        have hm : m = 1 ∨ m = 2 := by
          rcases hp with ⟨_, hm⟩ | hp | ⟨_, hp | hp⟩
          · exact hm
          · exact absurd hp (by decide +kernel)
          · exact absurd hp (by decide +kernel)
          · exact absurd hp (by decide +kernel)
        refine ⟨rfl, _, rfl, _, rfl, t, _, _, _, rfl, rfl, SqT.of hx, at_of (j := 1) rfl rfl, rfl, rfl, "count", nv m, countRows m, countFlags m, rfl, .inl ⟨rfl, m, hm, rfl, rfl, rfl⟩, ?_⟩
        have e1 : rawMF "count" m = (countRows m, countFlags m) := if_pos rfl
        rw [e1] at fin
        exact fin
      · have ec : name ≠ "count" := fun y => z (decide_eq_true (by rw [y]))
        obtain ⟨wo, h1, h2⟩ := raw_mf name hnm ec
        rw [← rawMF_0 ec m] at h1 h2
        exact ⟨rfl, _, rfl, name, .non, (rawMF name m).1, (rawMF name m).2, rfl, .inr ⟨rfl, wo, h1, h2⟩, fin⟩
    | both a b =>
      cases n with
      | zero => exact hwf.elim
      | succ n =>
      obtain ⟨xa, xb, ht, ha, hb⟩ := hx
      have hEE := hE (Nat.succ_ne_zero _)
      have hn1 : n ≤ 1 := by omega
      refine ⟨_, rfl, t, _, _, _, rfl, rfl, SqT.of ht, at_of (j := 0) rfl rfl, ?_⟩
      refine ⟨_, rfl, rfl, _, rfl, ?_⟩
      refine ite2 (fun _ => ?_) (fun z => absurd (by decide +kernel) z)
      refine ⟨_, rfl, t, _, _, _, rfl, rfl, SqT.of ht, at_of (j := 1) rfl rfl, xa, a, false, rfl, ha, hwf.2.1, fun _ d H' s' => hEE d H' s', fun H1 x A F s1 hx1 gA lA iA => ?_⟩
      refine ⟨_, rfl, t, _, _, _, rfl, rfl, SqT.of (s1 _ _ ht), at_of (j := 2) rfl rfl, xb, b, false, rfl, hb.mono (.same s1), hwf.2.2, fun _ d H' s' => hEE d H' (s1.trans s'), fun H2 y B G s2 hy2 gB lB iB => ?_⟩
      obtain ⟨dx, ra, fa, p1, p2, p3⟩ := id (hx1.same s2)
      obtain ⟨dy, rb, fb, p4, p5, p6⟩ := id hy2
      have s12 := s1.trans s2
      refine ⟨x, y, dx, _, dy, _, rfl, rfl, p1, p4, x, y, A, F, B, G, 4050, rfl, hx1.same s2, hy2, gA, gB, (feat_key2 (Info.feat hn1 iA) (Info.feat hn1 iB)).few (Nat.le_refl _), ⟨by omega, fun _ d H' s' => hEE d H' (s12.trans s')⟩, fun H' z C D s' hz M => ⟨⟨z, rfl⟩, q H' z C D (s12.trans s') hz M.good (fun w hw => ?_) ?_⟩⟩
      · rw [M.lang w hw]
        show (F.getD (st A w) false && G.getD (st B w) false) = (sem a w && sem b w)
        rw [lA w hw, lB w hw]
      · cases n with
        | zero => exact .inl (u_key2 (Base0.isU iA) (Base0.isU iB) M.key)
        | succ n => trivial
    | thn a b =>
      cases n with
      | zero => exact hwf.elim
      | succ n =>
      obtain ⟨xa, xb, ht, ha, hb⟩ := hx
      have hEE := hE (Nat.succ_ne_zero _)
      have hn1 : n ≤ 1 := by omega
      refine ⟨_, rfl, t, _, _, _, rfl, rfl, SqT.of ht, at_of (j := 0) rfl rfl, ?_⟩
      refine ⟨_, rfl, rfl, _, rfl, ?_⟩
      refine ite2 (fun z => absurd z (by decide +kernel)) (fun _ => ?_)
      refine ⟨_, rfl, rfl, _, rfl, ?_⟩
      refine ite2 (fun z => absurd z (by decide +kernel)) (fun _ => ?_)
      refine ⟨_, rfl, rfl, _, rfl, ?_⟩
      refine ite2 (fun _ => ?_) (fun z => absurd (by decide +kernel) z)
      refine ⟨_, rfl, t, _, _, _, rfl, rfl, SqT.of ht, at_of (j := 1) rfl rfl, xa, a, true, rfl, ha, hwf.1, fun _ d H' s' => hEE d H' s', fun H1 x A F s1 hx1 gA lA iA => ?_⟩
      refine ⟨_, rfl, t, _, _, _, rfl, rfl, SqT.of (s1 _ _ ht), at_of (j := 2) rfl rfl, xb, b, lay, rfl, hb.mono (.same s1), hwf.2, fun _ d H' s' => hEE d H' (s1.trans s'), fun H2 y B G s2 hy2 gB lB iB => ?_⟩
      obtain ⟨dx, ra, fa, p1, p2, p3⟩ := id (hx1.same s2)
      obtain ⟨dy, rb, fb, p4, p5, p6⟩ := id hy2
      have s12 := s1.trans s2
      refine ⟨x, y, dx, _, dy, _, rfl, rfl, p1, p4, x, y, A, F, B, G, 4050, rfl, hx1.same s2, hy2, gA, gB, (layM_iff lA).mpr (lay_sem hwf.1), fun _ d H' s' => hEE d H' (s12.trans s'), fun _ => ⟨(feat_key3 (Info.feat hn1 iA) (Info.feat hn1 iB)).few (Nat.le_refl _), ⟨by omega, fun _ d H' s' => hEE d H' (s12.trans s')⟩, fun H' z C D s' hz M => ⟨⟨z, rfl⟩, q H' z C D (s12.trans s') hz M.good (fun w hw => ?_) ?_⟩⟩⟩
      · rw [M.lang w hw]
        show (F.getD (st A w) false || (!(F.getD (st A (w.map mir)) false) && G.getD (st B w) false)) = (sem a w || (!(sem a (w.map mir)) && sem b w))
        rw [lA w hw, lA _ hw.mir, lB w hw]
      · cases n with
        | zero => exact .inl (u_key3 (Base0.isU iA) (Base0.isU iB) M.key)
        | succ n => trivial
    | turned a =>
      cases n with
      | zero => exact hwf.elim
      | succ n =>
      obtain ⟨xa, ht, ha⟩ := hx
      have hEE := hE (Nat.succ_ne_zero _)
      have hn1 : n ≤ 1 := by omega
      refine ⟨_, rfl, t, _, _, _, rfl, rfl, SqT.of ht, at_of (j := 0) rfl rfl, ?_⟩
      refine ⟨_, rfl, rfl, _, rfl, ?_⟩
      refine ite2 (fun z => absurd z (by decide +kernel)) (fun _ => ?_)
      refine ⟨_, rfl, rfl, _, rfl, ?_⟩
      refine ite2 (fun _ => ?_) (fun z => absurd (by decide +kernel) z)
      refine ⟨_, rfl, t, _, _, _, rfl, rfl, SqT.of ht, at_of (j := 1) rfl rfl, xa, a, lay, rfl, ha, hwf, fun _ d H' s' => hEE d H' s', fun H1 x A F s1 hx1 gA lA iA => ?_⟩
      obtain ⟨dx, ra, fa, p1, p2, p3⟩ := id hx1
      have m100 := gA.most
      refine ⟨x, dx, _, rfl, p1, x, A, F, 100, rfl, hx1, gA, (few_keyM gA.ok).few m100, ⟨by omega, fun _ d H' s' => hEE d H' (s1.trans s')⟩, fun H' z C D s' hz M => q H' z C D (s1.trans s') hz M.good (fun w hw => ?_) ?_⟩
      · rw [M.lang w hw]
        exact lA _ hw.mir
      · cases n with
        | zero => exact .inl (u_keyM (Base0.isU iA) M.key)
        | succ n => trivial
    | upto a r =>
      cases n with
      | zero => exact hwf.elim
      | succ n =>
      obtain ⟨xa, ht, ha⟩ := hx
      have hEE := hE (Nat.succ_ne_zero _)
      have hn1 : n ≤ 1 := by omega
      refine ⟨_, rfl, t, _, _, _, rfl, rfl, SqT.of ht, at_of (j := 0) rfl rfl, ?_⟩
      refine ⟨_, rfl, rfl, _, rfl, ?_⟩
      refine ite2 (fun z => absurd z (by decide +kernel)) (fun _ => ?_)
      refine ⟨_, rfl, rfl, _, rfl, ?_⟩
      refine ite2 (fun z => absurd z (by decide +kernel)) (fun _ => ?_)
      refine ⟨_, rfl, rfl, _, rfl, ?_⟩
      refine ite2 (fun z => absurd z (by decide +kernel)) (fun _ => ?_)
      refine ⟨_, rfl, rfl, _, rfl, ?_⟩
      refine ite2 (fun z => absurd z (by decide +kernel)) (fun _ => ?_)
      refine ⟨_, rfl, rfl, _, rfl, ?_⟩
      refine ite2 (fun _ => ?_) (fun z => absurd (by decide +kernel) z)
      refine ⟨_, rfl, t, _, _, _, rfl, rfl, SqT.of ht, at_of (j := 1) rfl rfl, xa, a, lay, rfl, ha, hwf.1, fun _ d H' s' => hEE d H' s', fun H1 x A F s1 hx1 gA lA iA => ?_⟩
      obtain ⟨dx, ra, fa, p1, p2, p3⟩ := id hx1
      have m100 := gA.most
      have hk5 := hwf.2
      refine ⟨x, dx, _, rfl, p1, rfl, _, rfl, t, _, _, _, rfl, rfl, SqT.of (s1 _ _ ht), at_of (j := 2) rfl rfl, x, A, F, r, 500, rfl, hx1, gA, by omega, (few_keyU gA.ok r).few (Nat.le_trans (Nat.mul_le_mul (show r + 1 ≤ 5 by omega) m100) (by decide)), ⟨by omega, fun _ d H' s' => hEE d H' (s1.trans s')⟩, fun H' z C D s' hz M => q H' z C D (s1.trans s') hz M.good (fun w hw => ?_) ?_⟩
      · rw [M.lang w hw]
        exact lA _ (cutW_4 hw)
      · cases n with
        | zero => exact .inr (v_upto iA hk5 M.key)
        | succ n => trivial
    | every a d r =>
      cases n with
      | zero => exact hwf.elim
      | succ n =>
      obtain ⟨xa, ht, ha⟩ := hx
      have hEE := hE (Nat.succ_ne_zero _)
      have hn1 : n ≤ 1 := by omega
      refine ⟨_, rfl, t, _, _, _, rfl, rfl, SqT.of ht, at_of (j := 0) rfl rfl, ?_⟩
      refine ⟨_, rfl, rfl, _, rfl, ?_⟩
      refine ite2 (fun z => absurd z (by decide +kernel)) (fun _ => ?_)
      refine ⟨_, rfl, rfl, _, rfl, ?_⟩
      refine ite2 (fun z => absurd z (by decide +kernel)) (fun _ => ?_)
      refine ⟨_, rfl, rfl, _, rfl, ?_⟩
      refine ite2 (fun z => absurd z (by decide +kernel)) (fun _ => ?_)
      refine ⟨_, rfl, rfl, _, rfl, ?_⟩
      refine ite2 (fun z => absurd z (by decide +kernel)) (fun _ => ?_)
      refine ⟨_, rfl, rfl, _, rfl, ?_⟩
      refine ite2 (fun z => absurd z (by decide +kernel)) (fun _ => ?_)
      refine ⟨_, rfl, rfl, _, rfl, ?_⟩
      refine ite2 (fun _ => ?_) (fun z => absurd (by decide +kernel) z)
      refine ⟨_, rfl, t, _, _, _, rfl, rfl, SqT.of ht, at_of (j := 1) rfl rfl, xa, a, lay, rfl, ha, hwf.1, fun _ d H' s' => hEE d H' s', fun H1 x A F s1 hx1 gA lA iA => ?_⟩
      obtain ⟨dx, ra, fa, p1, p2, p3⟩ := id hx1
      have m100 := gA.most
      obtain ⟨_, hd0, hd3, hrd⟩ := hwf
      refine ⟨x, dx, _, rfl, p1, rfl, _, rfl, t, _, _, _, rfl, rfl, SqT.of (s1 _ _ ht), at_of (j := 2) rfl rfl, _, rfl, t, _, _, _, rfl, rfl, SqT.of (s1 _ _ ht), at_of (j := 3) rfl rfl, x, A, F, d, r, 300, rfl, hx1, gA, hd0, by omega, hrd, (few_keyE gA.ok r hd0).few (Nat.le_trans (Nat.mul_le_mul hd3 m100) (by decide)), ⟨by omega, fun _ d H' s' => hEE d H' (s1.trans s')⟩, fun H' z C D s' hz M => q H' z C D (s1.trans s') hz M.good (fun w hw => ?_) ?_⟩
      · rw [M.lang w hw]
        exact lA _ (sieveW_4 hw)
      · cases n with
        | zero => exact .inr (v_every iA hd3 hd0 M.key)
        | succ n => trivial
    | turns a b =>
      cases n with
      | zero => exact hwf.elim
      | succ n =>
      obtain ⟨xa, xb, ht, ha, hb⟩ := hx
      have hEE := hE (Nat.succ_ne_zero _)
      have hn1 : n ≤ 1 := by omega
      refine ⟨_, rfl, t, _, _, _, rfl, rfl, SqT.of ht, at_of (j := 0) rfl rfl, ?_⟩
      refine ⟨_, rfl, rfl, _, rfl, ?_⟩
      refine ite2 (fun z => absurd z (by decide +kernel)) (fun _ => ?_)
      refine ⟨_, rfl, rfl, _, rfl, ?_⟩
      refine ite2 (fun z => absurd z (by decide +kernel)) (fun _ => ?_)
      refine ⟨_, rfl, rfl, _, rfl, ?_⟩
      refine ite2 (fun z => absurd z (by decide +kernel)) (fun _ => ?_)
      refine ⟨_, rfl, rfl, _, rfl, ?_⟩
      refine ite2 (fun _ => ?_) (fun z => absurd (by decide +kernel) z)
      refine ⟨_, rfl, t, _, _, _, rfl, rfl, SqT.of ht, at_of (j := 1) rfl rfl, xa, a, lay, rfl, ha, hwf.1, fun _ d H' s' => hEE d H' s', fun H1 x A F s1 hx1 gA lA iA => ?_⟩
      obtain ⟨dx, ra, fa, p1, p2, p3⟩ := id hx1
      refine ⟨x, dx, _, rfl, p1, rfl, _, rfl, t, _, _, _, rfl, rfl, SqT.of (s1 _ _ ht), at_of (j := 2) rfl rfl, xb, b, lay, rfl, hb.mono (.same s1), hwf.2, fun _ d H' s' => hEE d H' (s1.trans s'), fun H2 y B G s2 hy2 gB lB iB => ?_⟩
      have s12 := s1.trans s2
      refine ⟨x, y, A, F, B, G, 4050, rfl, hx1.same s2, hy2, gA, gB, (feat_keyT (Info.feat hn1 iA) (Info.feat hn1 iB)).few (Nat.le_refl _), ⟨by omega, fun _ d H' s' => hEE d H' (s12.trans s')⟩, fun H' z C D s' hz M => q H' z C D (s12.trans s') hz M.good (fun w hw => ?_) ?_⟩
      · rw [M.lang w hw]
        show (if w.length % 2 = 0 then F.getD (st A w) false else G.getD (st B w) false) = (if w.length % 2 = 0 then sem a w else sem b w)
        rw [lA w hw, lB w hw]
      · cases n with
        | zero => exact .inl (u_keyT (Base0.isU iA) (Base0.isU iB) M.key)
        | succ n => trivial
end
end SR

/-! ### SR36 -/
set_option maxHeartbeats 4000000
namespace SR
open PySem PySem.Spec PyProof.Rows L2 SRR SRN SRZ
/-! ## rules stand while the pile is turned -/
theorem RuleAt.pl {CM p q : Addr} {H H' : Hp} {A : List (List Nat)} {F : List Bool} (hp : PileAt H p) (a : Pl p H H') (g : Good A F) (h : RuleAt CM H q A F) : RuleAt CM H' q A F := by
  obtain ⟨d, c, j, e⟩ := hp
  obtain ⟨dx, ra, fa, h1, ⟨ts, h2, h3, h4⟩, h5⟩ := h
  have hpos := g.ok.pos
  have hra : ra ≠ p := fun z => by
    rw [z, e] at h2
    injection h2 with h2
    injection h2 with h2
    match ts, h3 with
    | [], h3 => simp at h3; omega
    | t :: ts, _ => cases h2
  have hfa : fa ≠ p := fun z => by
    rw [z, e] at h5
    injection h5 with h5
    injection h5 with h5
    have := g.len
    match F, this with
    | [], h => simp at h; omega
    | b :: F, _ => cases h5
  refine ⟨dx, ra, fa, a.keep _ _ (fun z => by rw [z, e] at h1; cases h1) h1, ⟨ts, a.keep _ _ hra h2, h3, fun i t r x y => Pl.tup ⟨d, c, j, e⟩ a (h4 i t r x y)⟩, a.keep _ _ hfa h5⟩
def AsymM (A : List (List Nat)) (F : List Bool) : Prop := Asym fun w => F.getD (st A w) false
theorem asymM_of {A : List (List Nat)} {F : List Bool} {e : Ex} {lay : Bool} {n : Nat} (h : Wf lay n e) (l : Lang A F e) : AsymM A F := fun w hw e' => by
  show F.getD (st A (w.map mir)) false = false
  rw [l _ hw.mir]
  have e2 : F.getD (st A w) false = true := e'
  rw [l _ hw] at e2
  exact asym_sem h w hw e2
abbrev sMade : Stmt := top 86
theorem scMade : FnScope ["_law_told", "_law_found"] ["_law_told"] (defScope sMade) := ⟨rfl, rfl, rfl, by decide +kernel, rfl, by decide +kernel, by decide +kernel⟩
def spMadeE (CM : Addr) : Sp := fun vs H Q _ => ∃ (t : Addr) (e : Ex), vs = [.ref t] ∧ ExAt H t e ∧ Wf false 2 e ∧ (∀ H', Same H H' → Q .non H') ∧ ∀ (H' : Hp) (x : Addr) (A : List (List Nat)) (F : List Bool), Same H H' → RuleAt CM H' x A F → Good A F → Lang A F e → Q (.ref x) H'
abbrev sDrawn : Stmt := top 87
theorem scDrawn : FnScope ["_law_pile_here", "_law_deep", "_law_told", "_law_rule"] ["_law_pile_here", "_law_deep"] (defScope sDrawn) := ⟨rfl, rfl, rfl, by decide +kernel, rfl, by decide +kernel, by decide +kernel⟩
def GetsRule (CM p : Addr) (H : Hp) (Q : VK) : Prop := ∀ (H' : Hp) (t x : Addr) (v : V) (A : List (List Nat)) (F : List Bool), Pl p H H' → H' t = some (.tup [v, .ref x]) → RuleAt CM H' x A F → Good A F → AsymM A F → Q (.ref t) H'
def spDrawn (CM : Addr) : Sp := fun vs H Q _ => ∃ (p : Addr), vs = [.ref p, .int 2] ∧ PileAt H p ∧ GetsRule CM p H Q
section
variable {P : Program} {w : World} {K : PySem.W.Frag} {mg : Str → Option Value} {base : Heap} {CM CT : Addr}
theorem ok_made {f : Addr} {fd : FuncData} (F : Fun K "_law_made" "_law_made" sMade f fd) (gC : mg "TooMany" = some (.ref CT)) (te : PySem.W.exmOne K (.ref CT) (.ref CT) = some true) (GB : Fx P w K mg base (L2.CX P w) 12 "_law_built" ["_law_told"] (spBuilt CM CT 2)) : FnOk P w K mg base CX0 13 f fd ["_law_told"] (spMadeE CM) := by
  refine F.ok scMade (fun vs H Q E h => ?_) (fun cdv A₀ outer s H vs Q E hr h => ?_)
  · obtain ⟨t, e, rfl, _⟩ := h
    rfl
  · obtain ⟨t, e, rfl, hx, hwf, q0, q1⟩ := h
    obtain ⟨fB, fdB, hmB, hkB, hbB, FB⟩ := GB.ex
    have nd := scMade.nd
    refine ⟨_,
    (pss_cons (ps_set (i := 1) nd rfl (.inl rfl) pe_non)
    (C8.pss_cut (ps_try_only (tb := fun W => tAsg (tCallS (spBuilt CM CT 2) (WE W) (tCons (tVar 0) tNil)) (gName 1)) (ts := fun _ _ _ => tAsg (tC .non) (gName 1)) (Wout := fun _ _ _ _ => False) rfl rfl ⟨rfl, by decide, .inl gC⟩ takes0
      (fun W pn xe tk _ => pss_one (ps_set (i := 1) nd rfl (.inl rfl) (by exact (pe_callS FB hr rfl hmB hkB hbB (fun σ => passAt tk σ) (by exact (pa_cons (pv 0) pa_nil))))))
      (fun a oe cls d pn hz hf => pss_one (ps_set (i := 1) nd rfl (.inl rfl) pe_non)))
    (pss_one (ps_ret (pv 1))))), ?_⟩
    refine ⟨fun σ' H' => ∃ v, σ' = [some (.ref t), some v] ∧ Q v H', ?_, ?_⟩
    · refine ⟨_, rfl, t, e, false, rfl, hx, hwf, fun _ d H' s' => ⟨true, te, fun _ a _ => ?_, fun q => Bool.noConfusion q⟩, fun H' x A F s' hr' g l _ => ?_⟩
      · exact ⟨_, rfl, q0 H' s'⟩
      · exact ⟨_, rfl, q1 H' x A F s' hr' g l⟩
    · rintro σ' H' ⟨v, rfl, q⟩
      exact ⟨_, rfl, q⟩
theorem ok_drawn {f : Addr} {fd : FuncData} (F : Fun K "_law_drawn" "_law_drawn" sDrawn f fd) (NM : NamedM P w K mg base CM) (GE : Fx P w K mg base CX0 6 "_law_expr" ["_law_pile_here", "_law_deep", "_law_layered"] (spExpr 2)) (GM : Fx P w K mg base CX0 13 "_law_made" ["_law_told"] (spMadeE CM)) : FnOk P w K mg base CX0 14 f fd ["_law_pile_here", "_law_deep"] (spDrawn CM) := by
  refine F.ok scDrawn (fun vs H Q E h => ?_) (fun cdv A₀ outer s H vs Q E hr h => ?_)
  · obtain ⟨p, rfl, _⟩ := h
    rfl
  · obtain ⟨p, rfl, hp, q⟩ := h
    obtain ⟨CR, mc, pp, g, fdN, ds, gg, hCR, rR, sN, FN, bN, dN, kN⟩ := NM.ex
    have nd := scDrawn.nd
    refine ⟨_,
    (pss_cons (ps_set (i := 2) nd rfl (.inl rfl) (pe_fx GE (hr.mono (by decide)) pass0 (pa_cons (pv 0) (pa_cons (pv 1) (pa_cons pe_bl (pa_nil))))))
    (pss_cons (ps_set (i := 3) nd rfl (.inl rfl) (pe_fx GM hr pass0 (pa_cons (pv 2) (pa_nil))))
    (pss_cons (ps_if (pt_cmpR op_isN (pv 3) pe_non (nomark _)) 
      (pss_one (ps_ret (pe_tup (pa_cons (pe_tup (pa_cons pe_str (pa_cons pe_int (pa_nil)))) (pa_cons (pe_smeth (pe_glob (v := .ref CR) rfl hCR rfl) rR sN FN (hr.mono (by decide)) bN dN pass0 (pa_cons pe_str (pa_nil))) (pa_nil)))))) pss_nil)
    (pss_one (ps_ret (pe_tup (pa_cons (pv 2) (pa_cons (pv 3) (pa_nil))))))))), ?_⟩
    refine ⟨_, rfl, _, rfl, p, false, rfl, hp, fun H1 t e pl1 hx hwf => ?_⟩
    refine ⟨_, rfl, t, e, rfl, hx, hwf, fun H2 s2 => ?_, fun H2 x A F s2 hr2 g2 l2 => ?_⟩
    · refine ⟨_, rfl, rfl, _, rfl, ?_⟩
      refine ite2 (fun _ => ?_) (fun z => absurd (decide_eq_true rfl) z)
      refine ⟨by show 2 ≤ sizeLine; decide, fun t2 ht2 => ⟨rfl, "late", .non, (rawMF "late" 0).1, (rawMF "late" 0).2, rfl, .inr ⟨rfl, ?_⟩, fun H3 x A F s3 hr3 M => ⟨by show 2 ≤ sizeLine; decide, fun t3 ht3 => ?_⟩⟩⟩
      · exact raw_mf "late" (by decide +kernel) (by decide +kernel)
      · have hp0 : PlainOk false "late" 0 := .inr (.inl (by decide +kernel))
        obtain ⟨g1, g2, _⟩ := plain_made hp0 M
        have s23 := ((s2.trans (same_up1 ht2)).trans s3).trans (same_up1 (o := .tup [.ref t2, .ref x]) ht3)
        exact q _ t3 x _ A F (pl1.same s23) upd_same (hr3.same (same_up1 ht3)) g1 (asymM_of (lay := false) (n := 0) (e := .plain "late" 0) hp0 g2)
    · refine ⟨_, rfl, rfl, _, rfl, ?_⟩
      refine ite2 (fun z => absurd (of_decide_eq_true z) (fun y => nomatch y)) (fun _ => ?_)
      refine ⟨_, rfl, _, rfl, by show 2 ≤ sizeLine; decide, fun t3 ht3 => ?_⟩
      exact q _ t3 x _ A F (pl1.same (s2.trans (same_up1 ht3))) upd_same (hr2.same (same_up1 ht3)) g2 (asymM_of hwf l2)
end
end SR

/-! ### SR37 -/
set_option maxHeartbeats 4000000
namespace SR
open PySem PySem.Spec PyProof.Rows L2 SRR SRN SRZ
theorem inV_dec (x : Str) (L : List Str) : inV (.str x) (L.map V.str) = decide (x ∈ L) := by
  by_cases h : x ∈ L
  · rw [inV_str h, decide_eq_true h]
  · rw [decide_eq_false h]
    unfold inV
    rw [List.any_map]
    refine List.any_eq_false.mpr fun y hy => ?_
    show ¬ ((y == x) = true)
    intro e
    exact h ((eq_of_beq e) ▸ hy)
structure StatesM (P : Program) (w : World) (K : PySem.W.Frag) (mg : Str → Option Value) (base : Heap) (CM : Addr) : Prop where
  ex : ∃ (p f : Addr) (fd : FuncData), PropOf K CM "states" p f ∧ FnOk P w K mg base CX0 1 f fd ["self"] (spStates CM) ∧ Binds K fd ["self"] []
def namesS : List Str := ["some", "first", "last", "early", "late", "within", "single", "count"]
theorem namesS_at : ∀ r, r < 8 → ∃ name : Str, namesS[r]? = some name ∧ PlainOk false name 2 ∧ (name ∉ ([("within" : Str), "single"] : List Str) → PlainOk true name 2) := by
  intro r h
  unfold PlainOk
  match r, h with
  | 0, _ => exact ⟨_, rfl, by decide +kernel⟩
  | 1, _ => exact ⟨_, rfl, by decide +kernel⟩
  | 2, _ => exact ⟨_, rfl, by decide +kernel⟩
  | 3, _ => exact ⟨_, rfl, by decide +kernel⟩
  | 4, _ => exact ⟨_, rfl, by decide +kernel⟩
  | 5, _ => exact ⟨_, rfl, by decide +kernel⟩
  | 6, _ => exact ⟨_, rfl, by decide +kernel⟩
  | 7, _ => exact ⟨_, rfl, by decide +kernel⟩
theorem asym_then {A B : List (List Nat)} {F G : List Bool} (hA : AsymM A F) (hB : AsymM B G) : Asym (thenL A F B G) := fun w hw e => by
  have e' : (F.getD (st A w) false || (!(F.getD (st A (w.map mir)) false) && G.getD (st B w) false)) = true := e
  show (F.getD (st A (w.map mir)) false || (!(F.getD (st A ((w.map mir).map mir)) false) && G.getD (st B (w.map mir)) false)) = false
  rw [map_mir_mir]
  have ha := hA w hw
  have hb := hB w hw
  have ha' : F.getD (st A w) false = true → F.getD (st A (w.map mir)) false = false := ha
  have hb' : G.getD (st B w) false = true → G.getD (st B (w.map mir)) false = false := hb
  cases ea : F.getD (st A w) false with
  | true => rw [ha' ea] <;> rfl
  | false =>
    rw [ea, Bool.false_or] at e'
    obtain ⟨e1, e2⟩ := Bool.and_eq_true_iff.mp e'
    rw [hb' e2]
    cases e3 : F.getD (st A (w.map mir)) false with
    | true => rw [e3] at e1; cases e1
    | false => rfl
theorem asym_turns {A B : List (List Nat)} {F G : List Bool} (hA : AsymM A F) (hB : AsymM B G) : Asym (turnsL A F B G) := fun w hw e => by
  have e' : (if w.length % 2 = 0 then F.getD (st A w) false else G.getD (st B w) false) = true := e
  show (if (w.map mir).length % 2 = 0 then F.getD (st A (w.map mir)) false else G.getD (st B (w.map mir)) false) = false
  rw [List.length_map]
  by_cases p : w.length % 2 = 0
  · rw [if_pos p] at e' ⊢
    exact hA w hw e'
  · rw [if_neg p] at e' ⊢
    exact hB w hw e'
theorem asym_made {A : List (List Nat)} {F : List Bool} {n : Nat} {g : List Nat → Bool} {key : List Nat → List Nat} (M : Made A F n g key) (h : Asym g) : AsymM A F := fun w hw e => by
  have e' : F.getD (st A w) false = true := e
  show F.getD (st A (w.map mir)) false = false
  rw [M.lang w hw] at e'
  rw [M.lang _ hw.mir]
  exact h w hw e'
abbrev sSafer : Stmt := top 88
theorem scSafer : FnScope ["_law_pile_here", "_law_told", "_law_rule", "_law_way", "_law_names_here", "_law_name"] ["_law_pile_here"] (defScope sSafer) := ⟨rfl, rfl, rfl, by decide +kernel, rfl, by decide +kernel, by decide +kernel⟩
def spSafer (CM : Addr) : Sp := fun vs H Q _ => ∃ (p : Addr), vs = [.ref p] ∧ PileAt H p ∧ GetsRule CM p H Q
section
variable {P : Program} {w : World} {K : PySem.W.Frag} {mg : Str → Option Value} {base : Heap} {CM CT : Addr}
theorem ok_safer {f : Addr} {fd : FuncData} (F : Fun K "_law_safer" "_law_safer" sSafer f fd) (RM : RuleM P w K mg base CM CT) (SM : StatesM P w K mg base CM) (GD : Fx P w K mg base CX0 14 "_law_drawn" ["_law_pile_here", "_law_deep"] (spDrawn CM)) (GT : Fx P w K mg base CX0 2 "_law_take" ["_law_pile_here", "_law_many"] spTake)
    (GB : Fx P w K mg base (L2.CX P w) 10 "_law_built" ["_law_told"] (spBuilt CM CT 0)) : FnOk P w K mg base CX0 15 f fd ["_law_pile_here"] (spSafer CM) := by
  refine F.ok scSafer (fun vs H Q E h => ?_) (fun cdv A₀ outer s H vs Q E hr h => ?_)
  · obtain ⟨p, rfl, _⟩ := h
    rfl
  · obtain ⟨p, rfl, hp, q⟩ := h
    have nd := scSafer.nd
    obtain ⟨ps, fs, fds, hps, FSt, bSt⟩ := SM.ex
    obtain ⟨fS, fdS, mS, FS, bS⟩ := RM.shift
    obtain ⟨fT, fdT, mT, FT, bT⟩ := RM.turns
    have hcl := RM.rf
    have hr10 := hr.mono (by decide : 10 ≤ 14)
    have hr8 := hr.mono (by decide : 8 ≤ 14)
    have hr2 := hr.mono (by decide : 2 ≤ 14)
    refine ⟨_,
    (pss_cons (ps_asg (pe_fx GD hr pass0 (pa_cons (pv 0) (pa_cons pe_int (pa_nil)))) (pg_tup rfl (pgs_cons (pg_name (i := 1) nd rfl (.inl rfl)) (pgs_cons (pg_name (i := 2) nd rfl (.inl rfl)) pgs_nil))))
    (pss_cons (ps_set (i := 3) nd rfl (.inl rfl) (pe_fx GT hr2 pass0 (pa_cons (pv 0) (pa_cons pe_int (pa_nil)))))
    (pss_cons (ps_set (i := 4) nd rfl (.inl rfl) (pe_lst (pa_cons pe_str (pa_cons pe_str (pa_cons pe_str (pa_cons pe_str (pa_cons pe_str (pa_cons pe_str (pa_cons pe_str (pa_cons pe_str (pa_nil)))))))))))
    (pss_cons (ps_set (i := 5) nd rfl (.inl rfl) (pe_ix ix_list (pv 4) (pe_fx GT hr2 pass0 (pa_cons (pv 0) (pa_cons pe_int (pa_nil)))) (fun _ _ => rfl)))
    (pss_cons (ps_if (PW.pt (pw_or (pt_cmpR op_eq (pv 3) pe_int (nomark _)) (pw_or1 (pt_cmpR op_gt (pe_prop (pv 2) hcl.cl hps FSt hr2 bSt .nil pass0 rfl) pe_int (nomark _))))) 
      (pss_one (ps_ret (pe_tup (pa_cons (pe_tup (pa_cons (pv 5) (pa_cons pe_int (pa_nil)))) (pa_cons (pe_fx GB hr10 passL (pa_cons (pe_tup (pa_cons (pv 5) (pa_cons pe_int (pa_nil)))) (pa_nil))) (pa_nil)))))) pss_nil)
    (C8.pss_cut (ps_if (PW.pt (pw_and (pt_cmpR op_eq (pv 3) pe_int (nomark _)) (pw_and1 (pt_cmpR op_notIn_seq (pv 5) (pe_lst (pa_cons pe_str (pa_cons pe_str (pa_nil)))) (by rfl))))) 
      (pss_one (ps_ret (pe_tup (pa_cons (pe_tup (pa_cons pe_str (pa_cons (pe_tup (pa_cons (pv 5) (pa_cons pe_int (pa_nil)))) (pa_cons (pv 1) (pa_nil))))) (pa_cons (pe_op (op_own2 RM.first mS FS hr8 bS passL) (pe_fx GB hr10 passL (pa_cons (pe_tup (pa_cons (pv 5) (pa_cons pe_int (pa_nil)))) (pa_nil))) (pv 2)) (pa_nil)))))) pss_nil)
    (C8.pss_cut (ps_if (PW.pt (pw_and (pt_cmpR op_eq (pv 3) pe_int (nomark _)) (pw_and1 (pt_cmpR op_lt (pe_prop (pv 2) hcl.cl hps FSt hr2 bSt .nil pass0 rfl) pe_int (nomark _))))) 
      (pss_one (ps_ret (pe_tup (pa_cons (pe_tup (pa_cons pe_str (pa_cons (pv 1) (pa_cons (pe_tup (pa_cons (pv 5) (pa_cons pe_int (pa_nil)))) (pa_nil))))) (pa_cons (pe_meth (pv 2) hcl.cl mT FT hr8 bT .nil passL (pa_cons (pe_fx GB hr10 passL (pa_cons (pe_tup (pa_cons (pv 5) (pa_cons pe_int (pa_nil)))) (pa_nil))) (pa_nil))) (pa_nil)))))) pss_nil)
    (pss_one (ps_ret (pe_tup (pa_cons (pv 1) (pa_cons (pv 2) (pa_nil))))))))))))), ?_⟩
    refine ⟨_, rfl, p, rfl, hp, fun H1 t0 x v A F pl1 ht0 hr1 gA aA => ⟨t0, _, rfl, SqT.of ht0, rfl, _, _, rfl, _, _, rfl, rfl, ?_⟩⟩
    refine ⟨_, rfl, p, 4, rfl, pl1.pile, by decide, by decide, fun H2 way pl2 hw => ?_⟩
    have hr2' := hr1.pl pl1.pile pl2 gA
    have pl12 := pl1.trans pl2
    refine ⟨by show 8 ≤ sizeLine; decide, fun l hl => ?_⟩
    have m3 := same_up1 (o := .lst (namesS.map V.str)) hl
    have hl3 : (upd H2 l (.lst (namesS.map V.str))) l = some (.lst (namesS.map V.str)) := upd_same
    have hlp : l ≠ p := fun z => by
      obtain ⟨d, c, j, e⟩ := pl2.pile
      rw [z, e] at hl
      cases hl
    refine ⟨_, rfl, _, rfl, p, 8, rfl, pl2.pile.same m3, by decide, by decide, fun H4 r pl4 hr8' => ?_⟩
    obtain ⟨name, hn, hok, hokL⟩ := namesS_at r hr8'
    have hl4 : H4 l = some (.lst (namesS.map V.str)) := pl4.keep l _ hlp hl3
    have hrule := (hr2'.same m3).pl (pl2.pile.same m3) pl4 gA
    have pl := (pl12.same m3).trans pl4
    refine ⟨l, _, _, .str name, rfl, rfl, SqL.of hl4, at_of rfl (map_at hn), ?_⟩
    obtain ⟨dx, ra, fa, p1, p2, p3⟩ := id hrule
    -- way == 0 or rule.states > 8
    have ret1 : ∀ (D : Ends), D.rt = Q → ∃ z, some (V.str name) = some z ∧ True := fun _ _ => ⟨_, rfl, trivial⟩
    refine ⟨_, rfl, rfl, _, rfl, ?_⟩
    refine ite2 (fun _ => ?_) (fun h0 => ?_)
    · refine iteT ?_
      refine ⟨_, rfl, by show 2 ≤ sizeLine; decide, fun t1 ht1 => ⟨_, rfl, by show 2 ≤ sizeLine; decide, fun t2 ht2 => ?_⟩⟩
      have m1 := same_up1 (o := .tup [.str name, .int 2]) ht1
      have m2 := same_new (o := .tup [.str name, .int 2]) m1 ht2
      refine ⟨t2, .plain name 2, false, rfl, upd_same, hok, fun z => absurd rfl z, fun H' y B G s'' h1 h2 h3 _ => ⟨by show 2 ≤ sizeLine; decide, fun t3 ht3 => ?_⟩⟩
      have s' := m2.trans s''
      exact q _ t3 y _ B G ((pl.same s').same (same_up1 ht3)) upd_same (h1.same (same_up1 ht3)) h2 (asymM_of (lay := false) (n := 0) (e := .plain name 2) hok h3)
    refine ⟨_, rfl, x, dx, _, rfl, p1, x, A, F, rfl, hrule, _, _, rfl, rfl, _, rfl, ?_⟩
    refine ite2 (fun _ => ?_) (fun h8 => ?_)
    · refine ⟨_, rfl, by show 2 ≤ sizeLine; decide, fun t1 ht1 => ⟨_, rfl, by show 2 ≤ sizeLine; decide, fun t2 ht2 => ?_⟩⟩
      have m1 := same_up1 (o := .tup [.str name, .int 2]) ht1
      have m2 := same_new (o := .tup [.str name, .int 2]) m1 ht2
      refine ⟨t2, .plain name 2, false, rfl, upd_same, hok, fun z => absurd rfl z, fun H' y B G s'' h1 h2 h3 _ => ⟨by show 2 ≤ sizeLine; decide, fun t3 ht3 => ?_⟩⟩
      have s' := m2.trans s''
      exact q _ t3 y _ B G ((pl.same s').same (same_up1 ht3)) upd_same (h1.same (same_up1 ht3)) h2 (asymM_of (lay := false) (n := 0) (e := .plain name 2) hok h3)
    have hA8 : A.length ≤ 8 := by
      have := of_decide_eq_false (Bool.eq_false_iff.mpr h8)
      have h' : ¬ (8 : Int) < (A.length : Int) := this
      omega
    clear ret1
    -- if way == 1 and name not in ["within", "single"]
    refine ⟨fun σ' H' => σ' = [some (.ref p), some v, some (.ref x), some (nv way), some (.ref l), some (.str name)] ∧ Same H4 H', ?_, ?_⟩
    · refine ⟨_, rfl, rfl, _, rfl, ?_⟩
      refine ite2 (fun _ => ?_) (fun _ => iteF ⟨rfl, Same.refl H4⟩)
      refine ⟨_, rfl, by show 2 ≤ sizeLine; decide, fun l2 hl2 => ?_⟩
      have s5 := same_up1 (o := .lst [.str "within", .str "single"]) hl2
      refine ⟨l2, [.str "within", .str "single"], rfl, .inl (SqL.of upd_same), rfl, rfl, _, rfl, ?_⟩
      generalize upd H4 l2 (.lst [.str "within", .str "single"]) = H5 at s5
      rw [show ([V.str "within", V.str "single"] : List V) = ([("within" : Str), "single"] : List Str).map V.str from rfl, inV_dec]
      refine ite2 (fun hc => ?_) (fun _ => ⟨rfl, s5⟩)
      have hL : PlainOk true name 2 := hokL (by
        intro y
        have hc' : (!decide (name ∈ ([("within" : Str), "single"] : List Str))) = true := hc
        rw [decide_eq_true y] at hc'
        cases hc')
      -- ('then', (name, 2), told), built((name, 2)) >> rule
      refine ⟨_, rfl, by show 2 ≤ sizeLine; decide, fun t1 ht1 => ⟨_, rfl, by show 3 ≤ sizeLine; decide, fun t2 ht2 => ⟨_, rfl, by show 2 ≤ sizeLine; decide, fun t3 ht3 => ?_⟩⟩⟩
      have m3' := same_new (o := .tup [.str name, .int 2]) (same_new (o := .tup [.str "then", .ref t1, v]) (same_new (o := .tup [.str name, .int 2]) s5 ht1) ht2) ht3
      refine ⟨t3, .plain name 2, false, rfl, upd_same, hok, fun z => absurd rfl z, fun H' y B G s'' h1 h2 h3 h4 => ?_⟩
      have s' := m3'.trans s''
      have h4 : Base0 B := h4
      obtain ⟨dy, rb, fb, q1, q2, q3⟩ := id h1
      obtain ⟨dx', ra', fa', p1', _, _⟩ := id (hrule.same s')
      refine ⟨_, rfl, y, x, dy, _, dx', _, rfl, rfl, q1, p1', y, x, B, G, A, F, 72, rfl, h1, hrule.same s', h2, gA, (layM_iff h3).mpr (lay_sem (n := 0) (e := .plain name 2) hL), fun z => absurd z (by have := h4.1; omega), fun _ => ⟨(base_key3 h4 gA.ok).few (by omega), ⟨by decide, fun z => absurd z (by decide)⟩, fun H6 z C D s6 hz M => ⟨⟨z, rfl⟩, by show 2 ≤ sizeLine; decide, fun t4 ht4 => ?_⟩⟩⟩
      exact q _ t4 z _ C D ((pl.same (s'.trans s6)).same (same_up1 ht4)) upd_same (hz.same (same_up1 ht4)) M.good (asym_made M (asym_then (asymM_of (lay := false) (n := 0) (e := .plain name 2) hok h3) aA))
    rintro σ' H5 ⟨rfl, s5⟩
    -- if way == 2 and rule.states < 6
    refine ⟨fun σ' H' => σ' = [some (.ref p), some v, some (.ref x), some (nv way), some (.ref l), some (.str name)] ∧ Same H4 H', ?_, ?_⟩
    · refine ⟨_, rfl, rfl, _, rfl, ?_⟩
      refine ite2 (fun _ => ?_) (fun _ => iteF ⟨rfl, s5⟩)
      refine ⟨_, rfl, x, dx, _, rfl, s5 _ _ p1, x, A, F, rfl, hrule.same s5, _, _, rfl, rfl, _, rfl, ?_⟩
      refine ite2 (fun hc => ?_) (fun _ => ⟨rfl, s5⟩)
      have hA5 : A.length ≤ 5 := by
        have h' : (A.length : Int) < 6 := of_decide_eq_true hc
        omega
      refine ⟨_, rfl, _, rfl, by show 2 ≤ sizeLine; decide, fun t1 ht1 => ⟨by show 3 ≤ sizeLine; decide, fun t2 ht2 => ?_⟩⟩
      have m2' := same_new (o := .tup [.str "turns", v, .ref t1]) (same_new (o := .tup [.str name, .int 2]) s5 ht1) ht2
      refine ⟨_, rfl, x, dx, _, rfl, m2' _ _ p1, rfl, _, rfl, by show 2 ≤ sizeLine; decide, fun t3 ht3 => ?_⟩
      have m3' := same_new (o := .tup [.str name, .int 2]) m2' ht3
      refine ⟨t3, .plain name 2, false, rfl, upd_same, hok, fun z => absurd rfl z, fun H' y B G s'' h1 h2 h3 h4 => ?_⟩
      have s' := m3'.trans s''
      have h4 : Base0 B := h4
      have hB9 := h4.1
      refine ⟨x, y, A, F, B, G, 90, rfl, hrule.same s', h1, gA, h2, (few_keyT gA.ok h2.ok).few ?_, ⟨by decide, fun z => absurd z (by decide)⟩, fun H6 z C D s6 hz M => ⟨by show 2 ≤ sizeLine; decide, fun t4 ht4 => ?_⟩⟩
      · have := Nat.mul_le_mul hA5 hB9
        omega
      · exact q _ t4 z _ C D ((pl.same (s'.trans s6)).same (same_up1 ht4)) upd_same (hz.same (same_up1 ht4)) M.good (asym_made M (asym_turns aA (asymM_of (lay := false) (n := 0) (e := .plain name 2) hok h3)))
    rintro σ' H6 ⟨rfl, s6⟩
    refine ⟨_, rfl, _, rfl, by show 2 ≤ sizeLine; decide, fun t4 ht4 => ?_⟩
    exact q _ t4 x _ A F ((pl.same s6).same (same_up1 ht4)) upd_same ((hrule.same s6).same (same_up1 ht4)) gA aA
end
end SR

/-! ### SR38 -/
set_option maxHeartbeats 4000000
namespace SR
open PySem PySem.Spec PyProof.Rows L2 SRR SRN SRZ
/-! ## the twelve purposes and their least languages -/
def names12 : List Str := purTab.map (·.1)
def leastN (name : Str) : RawE := match purTab.find? fun e => decide (e.1 = name) with
  | some e => match (rawTab ++ aloneTab).find? fun r => decide (r.1 = e.2) with
    | some r => r
    | none => ("", [], [])
  | none => ("", [], [])
def rowN (name : Str) : List (List Nat) := (leastN name).2.1
def flagN (name : Str) : List Bool := flagsW (rowN name) (leastN name).2.2
def lN (name : Str) (w : List Nat) : Bool := (flagN name).getD (st (rowN name) w) false
theorem leastN_eq : ∀ e ∈ purTab, ∀ r ∈ rawTab ++ aloneTab, r.1 = e.2 → leastN e.1 = r := by decide +kernel
theorem lN_eq {name least : Str} {R : List (List Nat)} {wo : List Nat} (h1 : (name, least) ∈ purTab) (h2 : (least, R, wo) ∈ rawTab ++ aloneTab) (w : List Nat) : (flagsW R wo).getD (st R w) false = lN name w := by
  have e := leastN_eq _ h1 _ h2 rfl
  have e' : leastN name = (least, R, wo) := e
  unfold lN flagN rowN
  rw [e'] <;> rfl
theorem inRaw : ∀ e ∈ purTab, ∃ r ∈ rawTab ++ aloneTab, r.1 = e.2 := by decide +kernel
theorem lN_some : ∀ name ∈ names12, lN name [2] = true := by decide +kernel
/-- pairs that two machines come to together, the second by turned letters if q -/
def prStep (q : Bool) (A B : List (List Nat)) (S : List (Nat × Nat)) : List (Nat × Nat) :=
  S.foldl (fun S p => [0, 1, 2, 3].foldl (fun S l => let y := (dl A p.1 l, dl B p.2 (if q then mir l else l)); if S.contains y then S else y :: S) S) S
def prAll (q : Bool) (A B : List (List Nat)) : Nat → List (Nat × Nat)
  | 0 => [(0, 0)]
  | n + 1 => prStep q A B (prAll q A B n)
def prOk (q : Bool) (A B : List (List Nat)) (S : List (Nat × Nat)) (good : Nat → Nat → Bool) : Bool :=
  S.contains (0, 0) && S.all fun p => good p.1 p.2 && [0, 1, 2, 3].all fun l => S.contains (dl A p.1 l, dl B p.2 (if q then mir l else l))
theorem pr_run {q : Bool} {A B : List (List Nat)} {S : List (Nat × Nat)} {good : Nat → Nat → Bool} (h : prOk q A B S good = true) : ∀ (w : List Nat), W4 w → ∀ a b, (a, b) ∈ S → (stF A w a, stF B (if q then w.map mir else w) b) ∈ S
  | [], _, a, b, m => by
    cases q <;> exact m
  | l :: w, hw, a, b, m => by
    obtain ⟨_, h2⟩ := Bool.and_eq_true_iff.mp h
    have hl : l < 4 := hw l (List.mem_cons_self ..)
    have hw' : W4 w := fun x hx => hw x (List.mem_cons_of_mem _ hx)
    have h3 := List.all_eq_true.mp (Bool.and_eq_true_iff.mp (List.all_eq_true.mp h2 _ m)).2 l (by
      match l, hl with
      | 0, _ => decide
      | 1, _ => decide
      | 2, _ => decide
      | 3, _ => decide)
    have h4 := List.contains_iff_mem.mp h3
    have ih := pr_run h w hw' _ _ h4
    cases q <;> exact ih
theorem pr_good {q : Bool} {A B : List (List Nat)} {S : List (Nat × Nat)} {good : Nat → Nat → Bool} (h : prOk q A B S good = true) {w : List Nat} (hw : W4 w) : good (st A w) (st B (if q then w.map mir else w)) = true := by
  obtain ⟨h1, h2⟩ := Bool.and_eq_true_iff.mp h
  have m := pr_run h w hw 0 0 (List.contains_iff_mem.mp h1)
  exact (Bool.and_eq_true_iff.mp (List.all_eq_true.mp h2 _ m)).1
theorem lN_asymB : ∀ name ∈ names12, prOk true (rowN name) (rowN name) (prAll true (rowN name) (rowN name) 12) (fun a b => !((flagN name).getD a false && (flagN name).getD b false)) = true := by decide +kernel
theorem lN_asym {name : Str} (h : name ∈ names12) : Asym (lN name) := fun w hw e => by
  have g := pr_good (lN_asymB name h) hw
  rw [if_pos rfl] at g
  have e' : (flagN name).getD (st (rowN name) w) false = true := e
  rw [e', Bool.true_and] at g
  show (flagN name).getD (st (rowN name) (w.map mir)) false = false
  cases hb : (flagN name).getD (st (rowN name) (w.map mir)) false with
  | false => rfl
  | true => rw [hb] at g; cases g
def chainRows : List (List Str) := [["near first on connected graphs", "growing on connected graphs", "together on graphs"], ["near first on connected graphs", "near first on trees", "growing on trees"], ["deep first on connected graphs", "deep first on trees", "together on forests"],
  ["perfect on chordal graphs", "together on cliques"], ["together on graphs", "together on forests"], ["perfect ending on chordal graphs", "perfect on chordal graphs", "ending on connected graphs"]]
def linkOk (a b : Str) : Bool := prOk false (rowN b) (rowN a) (prAll false (rowN b) (rowN a) 12) fun x y => !(flagN b).getD x false || (flagN a).getD y false
theorem link_in {a b : Str} (h : linkOk a b = true) (w : List Nat) (hw : W4 w) (e : lN b w = true) : lN a w = true := by
  have g := pr_good h hw
  rw [if_neg (by decide)] at g
  have e' : (flagN b).getD (st (rowN b) w) false = true := e
  rw [e', Bool.not_true, Bool.false_or] at g
  exact g
theorem chain_ok : ∀ r ∈ chainRows, (∀ i, i + 1 < r.length → linkOk (r.getD i "") (r.getD (i + 1) "") = true) ∧ r.length ≤ 3 ∧ ∀ x ∈ r, x ∈ names12 := by
  have h : ∀ r ∈ chainRows, (∀ i < 2, i + 1 < r.length → linkOk (r.getD i "") (r.getD (i + 1) "") = true) ∧ r.length ≤ 3 ∧ ∀ x ∈ r, x ∈ names12 := by decide +kernel
  intro r hr
  obtain ⟨h1, h2, h3⟩ := h r hr
  exact ⟨fun i hi => h1 i (by omega) hi, h2, h3⟩
/-! ## what a rule is safe for -/
def Safe (G : List Bool) (B : List (List Nat)) (name : Str) : Prop := ∀ w, W4 w → lN name w = true → G.getD (st B w) false = true
noncomputable def safeB (B : List (List Nat)) (G : List Bool) (name : Str) : Bool := @decide (Safe G B name) (Classical.propDecidable _)
theorem safeB_iff {B : List (List Nat)} {G : List Bool} {name : Str} : safeB B G name = true ↔ Safe G B name := by
  unfold safeB
  exact @decide_eq_true_iff _ (Classical.propDecidable _)
noncomputable def safeL (B : List (List Nat)) (G : List Bool) : List Str := names12.filter (safeB B G)
theorem safeL_mem {B : List (List Nat)} {G : List Bool} {name : Str} : name ∈ safeL B G ↔ name ∈ names12 ∧ Safe G B name := by
  unfold safeL
  rw [List.mem_filter, safeB_iff]
/-! ## a purpose on the heap -/
def Pur1 (CP CM : Addr) (H : Hp) (p : Addr) (name : Str) : Prop := ∃ (q : Addr) (A : List (List Nat)) (F : List Bool), PurAt CP H p name q ∧ RuleAt CM H q A F ∧ Good A F ∧ A.length ≤ 9 ∧ ∀ w, W4 w → F.getD (st A w) false = lN name w
def PursAt (CP CM : Addr) (H : Hp) (a : Addr) : Prop := ∃ ps : List Addr, H a = some (.lst (ps.map V.ref)) ∧ ps.length = 12 ∧ ∀ (i : Nat) (p : Addr), ps[i]? = some p → ∃ name : Str, names12[i]? = some name ∧ Pur1 CP CM H p name
theorem Pur1.same {CP CM : Addr} {H H' : Hp} {p : Addr} {name : Str} (s : Same H H') (h : Pur1 CP CM H p name) : Pur1 CP CM H' p name := let ⟨q, A, F, h1, h2, h3⟩ := h; ⟨q, A, F, h1.same s, h2.same s, h3⟩
theorem PursAt.same {CP CM : Addr} {H H' : Hp} {a : Addr} (s : Same H H') (h : PursAt CP CM H a) : PursAt CP CM H' a := let ⟨ps, h1, h2, h3⟩ := h; ⟨ps, s _ _ h1, h2, fun i p e => let ⟨n, h4, h5⟩ := h3 i p e; ⟨n, h4, h5.same s⟩⟩
/-! ## comprehensions that keep some of a list of texts -/
def MF (H1 : Hp) (D : Addr) (ys : List Str) (S : Str → Bool) (i : Nat) (H : Hp) : Prop := Same H1 H ∧ H D = some (.lst (((ys.take i).filter S).map V.str))
theorem MF.start {H1 : Hp} {D : Addr} {ys : List Str} {S : Str → Bool} (hD : H1 D = none) : MF H1 D ys S 0 (upd H1 D (.lst [])) := ⟨same_up1 hD, upd_same⟩
theorem MF.mono {H1 H H' : Hp} {D : Addr} {ys : List Str} {S : Str → Bool} {i : Nat} (m : MF H1 D ys S i H) (s : Same H H') : MF H1 D ys S i H' := ⟨m.1.trans s, s _ _ m.2⟩
theorem MF.yes {H1 H : Hp} {D : Addr} {ys : List Str} {S : Str → Bool} {i : Nat} {y : Str} (m : MF H1 D ys S i H) (hy : ys[i]? = some y) (hs : S y = true) (hD : H1 D = none) (hz : ys.length ≤ sizeLine) :
    ∃ acc, H D = some (.lst acc) ∧ acc.length < sizeLine ∧ MF H1 D ys S (i + 1) (upd H D (.lst (acc ++ [.str y]))) := by
  have hl := (List.getElem?_eq_some_iff.mp hy).1
  refine ⟨_, m.2, ?_, same_upd m.1 hD, ?_⟩
  · rw [List.length_map]
    have := List.length_filter_le S (ys.take i)
    rw [List.length_take] at this
    omega
  · rw [upd_same, take_succ hy, List.filter_append, List.map_append, List.filter_cons_of_pos hs] <;> rfl
theorem MF.no {H1 H : Hp} {D : Addr} {ys : List Str} {S : Str → Bool} {i : Nat} {y : Str} (m : MF H1 D ys S i H) (hy : ys[i]? = some y) (hs : S y = false) : MF H1 D ys S (i + 1) H := by
  refine ⟨m.1, ?_⟩
  rw [take_succ hy, List.filter_append, List.filter_cons_of_neg (by rw [hs]; decide), List.filter_nil, List.append_nil]
  exact m.2
theorem MF.fin {H1 H : Hp} {D : Addr} {ys : List Str} {S : Str → Bool} {n : Nat} (m : MF H1 D ys S n H) (h : ys.length = n) : Same H1 H ∧ H D = some (.lst ((ys.filter S).map V.str)) := by
  obtain ⟨m1, m2⟩ := m
  rw [← h, List.take_length] at m2
  exact ⟨m1, m2⟩
end SR

/-! ### SR39 -/
set_option maxHeartbeats 4000000
namespace SR
open PySem PySem.Spec PyProof.Rows L2 SRR SRN SRZ
structure PurU (P : Program) (w : World) (K : PySem.W.Frag) (mg : Str → Option Value) (base : Heap) (CP CM : Addr) : Prop where
  cl : Cls K CP
  called : ∃ (p f : Addr) (fd : FuncData), PropOf K CP "called" p f ∧ FnOk P w K mg base CX0 1 f fd ["self"] (spCalled CP) ∧ Binds K fd ["self"] []
  least : ∃ (f : Addr) (fd : FuncData), Meth K CP "least" f ∧ FnOk P w K mg base CX0 1 f fd ["self"] (spPLeast CP) ∧ Binds K fd ["self"] []
  in_ : ∃ (f : Addr) (fd : FuncData), OpM K CP "__contains__" f ∧ FnOk P w K mg base CX0 4 f fd ["self", "x"] (spPIn CP CM) ∧ Binds K fd ["self", "x"] []
abbrev sNames : Stmt := top 89
theorem scNames : FnScope ["_law_some"] [] (defScope sNames) := ⟨rfl, rfl, rfl, by decide +kernel, rfl, by decide +kernel, by decide +kernel⟩
def spNames : Sp := fun vs H Q _ => vs = [] ∧ ∀ (H' : Hp) (p : Addr), Same H H' → H' p = some (.lst (names12.map V.str)) → Q (.ref p) H'
def nmA : List Str := ["together on graphs", "together on forests", "together on cliques", "growing on connected graphs"]
def nmB : List Str := ["growing on trees", "ending on connected graphs", "perfect on chordal graphs"]
def nmC : List Str := ["perfect ending on chordal graphs", "near first on connected graphs", "near first on trees"]
def nmD : List Str := ["deep first on connected graphs", "deep first on trees"]
abbrev sSafe : Stmt := top 90
theorem scSafe : FnScope ["_law_purposes", "_law_rule", "_law_purpose"] ["_law_purposes", "_law_rule"] (defScope sSafe) := ⟨rfl, rfl, rfl, by decide +kernel, rfl, by decide +kernel, by decide +kernel⟩
def spSafe (CP CM : Addr) : Sp := fun vs H Q _ => ∃ (a r : Addr) (B : List (List Nat)) (G : List Bool), vs = [.ref a, .ref r] ∧ PursAt CP CM H a ∧ RuleAt CM H r B G ∧ Good B G ∧
  ∀ (H' : Hp) (p : Addr), Same H H' → H' p = some (.lst ((safeL B G).map V.str)) → Q (.ref p) H'
theorem safe_sub {A B : List (List Nat)} {F G : List Bool} {name : Str} (h : ∀ w, W4 w → F.getD (st A w) false = lN name w) : Sub A F B G ↔ Safe G B name :=
  ⟨fun s w hw e => s w hw (by rw [h w hw]; exact e), fun s w hw e => s w hw (by rw [← h w hw]; exact e)⟩
section
variable {P : Program} {w : World} {K : PySem.W.Frag} {mg : Str → Option Value} {base : Heap} {CM CT CP : Addr}
theorem ok_names {f : Addr} {fd : FuncData} (F : Fun K "_law_names" "_law_names" sNames f fd) : FnOk P w K mg base CX0 1 f fd [] spNames := by
  refine F.ok scNames (fun vs H Q E h => ?_) (fun cdv A₀ outer s H vs Q E hr h => ?_)
  · obtain ⟨rfl, _⟩ := h
    rfl
  · obtain ⟨rfl, q⟩ := h
    have nd := scNames.nd
    refine ⟨_,
    (pss_cons (ps_set (i := 0) nd rfl (.inl rfl) (pe_lst (pa_cons pe_str (pa_cons pe_str (pa_cons pe_str (pa_cons pe_str (pa_nil)))))))
    (pss_cons (ps_set (i := 0) nd rfl (.inl rfl) (pe_op op_cat (pv 0) (pe_lst (pa_cons pe_str (pa_cons pe_str (pa_cons pe_str (pa_nil)))))))
    (pss_cons (ps_set (i := 0) nd rfl (.inl rfl) (pe_op op_cat (pv 0) (pe_lst (pa_cons pe_str (pa_cons pe_str (pa_cons pe_str (pa_nil)))))))
    (pss_one (ps_ret (pe_op op_cat (pv 0) (pe_lst (pa_cons pe_str (pa_cons pe_str (pa_nil)))))))))), ?_⟩
    refine ⟨by show 4 ≤ sizeLine; decide, fun a1 n1 => ?_⟩
    have s1 := same_up1 (o := .lst (nmA.map V.str)) n1
    have e1 : (upd H a1 (.lst (nmA.map V.str))) a1 = some (.lst (nmA.map V.str)) := upd_same
    refine ⟨_, rfl, by show 3 ≤ sizeLine; decide, fun a2 n2 => ?_⟩
    have s2 := same_up1 (o := .lst (nmB.map V.str)) n2
    refine ⟨a1, a2, nmA.map V.str, nmB.map V.str, rfl, rfl, s2 _ _ e1, upd_same, by show 7 ≤ sizeLine; decide, fun a3 n3 => ?_⟩
    have s3 := same_new (s1.trans s2) n3 (o := .lst (nmA.map V.str ++ nmB.map V.str))
    refine ⟨_, rfl, by show 3 ≤ sizeLine; decide, fun a4 n4 => ?_⟩
    have s4 := same_up1 (o := .lst (nmC.map V.str)) n4
    refine ⟨a3, a4, nmA.map V.str ++ nmB.map V.str, nmC.map V.str, rfl, rfl, s4 _ _ upd_same, upd_same, by show 10 ≤ sizeLine; decide, fun a5 n5 => ?_⟩
    have s5 := same_new (s3.trans s4) n5 (o := .lst ((nmA.map V.str ++ nmB.map V.str) ++ nmC.map V.str))
    refine ⟨_, rfl, by show 2 ≤ sizeLine; decide, fun a6 n6 => ?_⟩
    have s6 := same_up1 (o := .lst (nmD.map V.str)) n6
    refine ⟨a5, a6, (nmA.map V.str ++ nmB.map V.str) ++ nmC.map V.str, nmD.map V.str, rfl, rfl, s6 _ _ upd_same, upd_same, by show 12 ≤ sizeLine; decide, fun a7 n7 => ?_⟩
    exact q _ _ (same_new (s5.trans s6) n7) upd_same
theorem ok_safe {f : Addr} {fd : FuncData} (F : Fun K "_law_safe" "_law_safe" sSafe f fd) (U : PurU P w K mg base CP CM) : FnOk P w K mg base CX0 5 f fd ["_law_purposes", "_law_rule"] (spSafe CP CM) := by
  refine F.ok scSafe (fun vs H Q E h => ?_) (fun cdv A₀ outer s H vs Q E hr h => ?_)
  · obtain ⟨a, r, B, G, rfl, _⟩ := h
    rfl
  · obtain ⟨a, r, B, G, rfl, ⟨ps, ha, hl, hps⟩, hR, gB, q⟩ := h
    have nd := scSafe.nd
    obtain ⟨pc, fc, fdc, hpc, FC, bC⟩ := U.called
    obtain ⟨fi, fdi, mI, FI, bI⟩ := U.in_
    have hr2 := hr.mono (by decide : 2 ≤ 4)
    refine ⟨_,
    (pss_one (ps_ret (pe_lc (own := [("_law_purpose", 2)]) rfl nd (pi_list (pv 0)) (blkOk_by (own := [("_law_purpose", 2)]) (N := ["_law_purposes", "_law_rule", "_law_purpose"]) (sc := defScope sSafe) (by decide +kernel)) (fun _ _ _ _ _ => (pg_name (i := 2) nd rfl (.inl rfl))) (fun _ _ _ _ _ => (pts_one (pt_cmpR (op_ownIn (C := CP) mI FI hr bI pass0) (pv 1) (pv 2) (by rfl)))) (fun _ _ _ _ _ => (pe_prop (pv 2) U.cl hpc FC hr2 bC .nil pass0 rfl))))), ?_⟩
    refine ⟨_, rfl, a, rfl, ⟨_, SqL.of ha⟩, fun D hD => ?_⟩
    refine lc_list (K := K) (a := a) (xs := ps.map V.ref) (MF H D names12 (safeB B G)) (.start hD) (fun i H2 _ m => SqL.of (m.1 _ _ ha)) ?_ ?_
    · intro i v H2 hi m
      rw [List.getElem?_map] at hi
      obtain ⟨p, hp, rfl⟩ := Option.map_eq_some_iff.mp hi
      obtain ⟨name, hn, hpu⟩ := hps i p hp
      obtain ⟨q', A, F', h1, h2, h3, h4, h5⟩ := hpu.same m.1
      obtain ⟨dx, kk, gg, hpi⟩ := id h1
      refine ⟨rfl, _, rfl, _, rfl, p, dx, _, rfl, hpi, p, q', r, name, A, F', B, G, rfl, h1, h2, hR.same m.1, h3, gB, fun H3 c s3 hc => ⟨c, rfl, c, rfl, ?_⟩⟩
      have hc' : c = true ↔ safeB B G name = true := hc.trans ((safe_sub h5).trans safeB_iff.symm)
      refine ite2 (fun e => ?_) (fun e => (m.mono s3).no hn (Bool.eq_false_iff.mpr fun z => e (hc'.mpr z)))
      refine ⟨_, rfl, p, dx, _, rfl, s3 _ _ hpi, p, q', name, rfl, h1.same s3, ?_⟩
      exact (m.mono s3).yes hn (hc'.mp e) hD (by show 12 ≤ sizeLine; decide)
    · intro H2 m
      obtain ⟨m1, m2⟩ := m.fin (by rw [List.length_map, hl] <;> rfl)
      exact q H2 D m1 m2
end
end SR

/-! ### SR40 -/
set_option maxHeartbeats 4000000
namespace SR
open PySem PySem.Spec PyProof.Rows L2 SRR SRN SRZ
/-! ## lists of texts compared -/
def dS (xs : List Str) : PyData := .list (xs.map PyData.str)
theorem dpAllS {K : PySem.W.Frag} {H : Hp} : ∀ xs : List Str, DpAll K H (xs.map V.str) (xs.map PyData.str)
  | [] => .nil
  | b :: bs => .cons (.str b) (dpAllS bs)
theorem dpS {K : PySem.W.Frag} {H : Hp} {a : Addr} {xs : List Str} (h : SqL K H a (xs.map V.str)) : Dp K H (.ref a) (dS xs) := .lst h (dpAllS xs)
theorem eqvAllS : ∀ xs ys : List Str, PyData.eqvAll (xs.map PyData.str) (ys.map PyData.str) = decide (xs = ys)
  | [], [] => by simp [PyData.eqvAll]
  | [], _ :: _ => by simp [PyData.eqvAll]
  | _ :: _, [] => by simp [PyData.eqvAll]
  | x :: xs, y :: ys => by
    have ih := eqvAllS xs ys
    show (PyData.eqv (.str x) (.str y) && PyData.eqvAll (xs.map PyData.str) (ys.map PyData.str)) = _
    rw [ih]
    show ((x == y) && decide (xs = ys)) = decide (x :: xs = y :: ys)
    by_cases h : x = y
    · subst h
      simp
    · rw [beq_false_of_ne h]
      simp [h]
theorem eqvS (xs ys : List Str) : PyData.eqv (dS xs) (dS ys) = decide (xs = ys) := by
  show PyData.eqvAll _ _ = _
  exact eqvAllS xs ys
theorem canAllS : ∀ xs : List Str, (∀ x ∈ xs, PySem.PyData.canLay0 (.str x) = true) → PyData.canLayAll0 (xs.map PyData.str) = true
  | [], _ => by simp [PyData.canLayAll0]
  | x :: xs, h => by
    have ih := canAllS xs fun y hy => h y (List.mem_cons_of_mem _ hy)
    have hx := h x (List.mem_cons_self ..)
    show PyData.canLayAll0 (.str x :: xs.map PyData.str) = true
    unfold PyData.canLayAll0
    rw [hx, ih] <;> rfl
theorem depAllS : ∀ xs : List Str, PyData.depthAll (xs.map PyData.str) = 0
  | [] => by simp [PyData.depthAll]
  | x :: xs => by
    have ih := depAllS xs
    show PyData.depthAll (.str x :: xs.map PyData.str) = 0
    unfold PyData.depthAll
    rw [ih]
    simp [PyData.depth]
theorem names_can : ∀ x ∈ names12, PySem.PyData.canLay0 (.str x) = true := by decide +kernel
theorem shS {xs : List Str} (h : ∀ x ∈ xs, x ∈ names12) : SeqAt.shaped (dS xs) = true := by
  unfold SeqAt.shaped dS
  have h1 := canAllS xs fun x hx => names_can x (h x hx)
  have h2 := depAllS xs
  rw [Bool.and_eq_true_iff]
  constructor
  · show PyData.canLay0 (.list _) = true
    unfold PyData.canLay0
    exact h1
  · show decide (PyData.depth (.list _) ≤ 64) = true
    unfold PyData.depth
    rw [h2]
    decide
theorem flatS (xs : List Str) : (xs.map V.str).all flatV = true := List.all_eq_true.mpr fun x hx => by
  obtain ⟨y, _, rfl⟩ := List.mem_map.mp hx
  rfl
theorem eqvBl (a b : Bool) : PyData.eqv (.bool a) (.bool b) = (a == b) := by simp [PyData.eqv]
theorem shBl (a : Bool) : SeqAt.shaped (.bool a) = true := by cases a <;> decide +kernel
/-! ## one least language in another -/
def SubN (a b : Str) : Prop := ∀ w, W4 w → lN a w = true → lN b w = true
noncomputable def subN (a b : Str) : Bool := @decide (SubN a b) (Classical.propDecidable _)
theorem subN_iff {a b : Str} : subN a b = true ↔ SubN a b := by
  unfold subN
  exact @decide_eq_true_iff _ (Classical.propDecidable _)
theorem sub_names {A B : List (List Nat)} {F G : List Bool} {a b : Str} (h : ∀ w, W4 w → F.getD (st A w) false = lN a w) (h' : ∀ w, W4 w → G.getD (st B w) false = lN b w) : Sub A F B G ↔ SubN a b :=
  ⟨fun s w hw e => by rw [← h' w hw]; exact s w hw (by rw [h w hw]; exact e), fun s w hw e => by rw [h' w hw]; exact s w hw (by rw [← h w hw]; exact e)⟩
theorem W2 : W4 [2] := fun x hx => by
  rw [List.mem_singleton.mp hx]
  decide
theorem inv_not {A C : List (List Nat)} {F D : List Bool} {name : Str} {n : Nat} {κ : List Nat → List Nat} (hn : name ∈ names12) (h : ∀ w, W4 w → F.getD (st A w) false = lN name w) (M : Made C D n (fun w => F.getD (st A (w.map mir)) false) κ) : ¬ Sub A F C D := fun s => by
  have e := s [2] W2 (by rw [h _ W2]; exact lN_some name hn)
  rw [M.lang _ W2, h _ W2.mir, lN_asym hn _ W2 (lN_some name hn)] at e
  cases e
theorem inv_not2 {A B C : List (List Nat)} {F G D : List Bool} {name : Str} {n : Nat} {κ : List Nat → List Nat} (hn : name ∈ names12) (h : ∀ w, W4 w → F.getD (st A w) false = lN name w) (as : AsymM B G) (sf : Safe G B name) (M : Made C D n (fun w => G.getD (st B (w.map mir)) false) κ) : ¬ Sub A F C D := fun s => by
  have e := s [2] W2 (by rw [h _ W2]; exact lN_some name hn)
  rw [M.lang _ W2] at e
  have e2 : G.getD (st B ([2].map mir)) false = false := as _ W2 (sf _ W2 (lN_some name hn))
  rw [e2] at e
  cases e
abbrev sAlone : Stmt := top 91
theorem scAlone : FnScope ["_law_purposes", "_law_rule", "_law_safe_here", "_law_purpose", "_law_name", "_law_least", "_law_inside", "_law_other"] ["_law_purposes", "_law_rule"] (defScope sAlone) := ⟨rfl, rfl, rfl, by decide +kernel, rfl, by decide +kernel, by decide +kernel⟩
def spAlone (CP CM : Addr) : Sp := fun vs H Q _ => ∃ (a r : Addr) (B : List (List Nat)) (G : List Bool), vs = [.ref a, .ref r] ∧ PursAt CP CM H a ∧ RuleAt CM H r B G ∧ Good B G ∧ AsymM B G ∧ ∀ (H' : Hp), Same H H' → Q (.bl true) H'
section
variable {P : Program} {w : World} {K : PySem.W.Frag} {mg : Str → Option Value} {base : Heap} {CM CT CP : Addr}
theorem ok_alone {f : Addr} {fd : FuncData} (F : Fun K "_law_alone" "_law_alone" sAlone f fd) (RM : RuleM P w K mg base CM CT) (U : PurU P w K mg base CP CM) (NM : NamedM P w K mg base CM) (GS : Fx P w K mg base CX0 5 "_law_safe" ["_law_purposes", "_law_rule"] (spSafe CP CM)) : FnOk P w K mg base CX0 9 f fd ["_law_purposes", "_law_rule"] (spAlone CP CM) := by
  refine F.ok scAlone (fun vs H Q E h => ?_) (fun cdv A₀ outer s H vs Q E hr h => ?_)
  · obtain ⟨a, r, B, G, rfl, _⟩ := h
    rfl
  · obtain ⟨a, r, B, G, rfl, hpu, hR, gB, asB, q⟩ := h
    have nd := scAlone.nd
    obtain ⟨pc, fc, fdc, hpc, FC, bC⟩ := U.called
    obtain ⟨fl, fdl, mL, FL, bL⟩ := U.least
    obtain ⟨fi, fdi, mI, FI, bI⟩ := U.in_
    obtain ⟨fr, fdr, mR, FR, bR⟩ := RM.in_
    obtain ⟨fv, fdv, mV, FV, bV⟩ := RM.inv
    obtain ⟨CR, mc, pp, g, fdN, ds, gg, hCR, rR, sN, FN, bN, dN, kN⟩ := NM.ex
    have hr1 := hr.mono (by decide : 1 ≤ 8)
    have hr2 := hr.mono (by decide : 2 ≤ 8)
    have hr3 := hr.mono (by decide : 3 ≤ 8)
    have hr4 := hr.mono (by decide : 4 ≤ 8)
    have hr5 := hr.mono (by decide : 5 ≤ 8)
    refine ⟨_,
    (pss_cons (ps_set (i := 2) nd rfl (.inr rfl) (pe_fx GS hr5 pass0 (pa_cons (pv 0) (pa_cons (pv 1) (pa_nil)))))
    (pss_cons (ps_for PassesOwn.never rfl (pi_list (pv 0)) (pg_name (i := 3) nd rfl (.inl rfl)) 
      (pss_cons (ps_asg (pe_tup (pa_cons (pe_prop (pv 3) U.cl hpc FC hr2 bC .nil pass0 rfl) (pa_cons (pe_meth0 (pv 3) U.cl mL FL hr1 bL .nil pass0) (pa_nil)))) (pg_tup rfl (pgs_cons (pg_name (i := 4) nd rfl (.inl rfl)) (pgs_cons (pg_name (i := 5) nd rfl (.inr rfl)) pgs_nil))))
      (pss_cons (ps_setLc (i := 6) (own := [("_law_other", 7)]) rfl nd rfl rfl (sw_true rfl rfl rfl (by decide +kernel)) (pi_list (pv 0)) (blkOk_by (own := [("_law_other", 7)]) (N := ["_law_purposes", "_law_rule", "_law_safe_here", "_law_purpose", "_law_name", "_law_least", "_law_inside", "_law_other"]) (sc := defScope sAlone) (by decide +kernel)) (fun _ _ _ _ _ => (pg_name (i := 7) nd rfl (.inl rfl))) (fun _ _ _ _ _ => (pts_one (PW.pt (pw_and (pt_cmpR (op_in_seqK K) (pe_prop (pv 7) U.cl hpc FC hr2 bC .nil pass0 rfl) (pv 2) (by rfl)) (pw_and1 (pt_cmpR (op_ownIn (C := CM) mR FR hr3 bR pass0) (pv 5) (pe_meth0 (pv 7) U.cl mL FL hr1 bL .nil pass0) (by rfl))))))) (fun _ _ _ _ _ => (pe_prop (pv 7) U.cl hpc FC hr2 bC .nil pass0 rfl)))
      (pss_cons (ps_if (PW.pt (pw_or (PW.pt (pw_and (pt_cmpR (op_neD hr.units) (pv 6) (pe_lst pa_nil) (nomark _)) (pw_and1 (pt_cmpR op_notIn_seq (pv 4) (pv 2) (by rfl))))) (pw_or1 (pt_cmpR (op_neD hr.units) (pe_cmpR op_in_seq (pv 4) (pv 2) (by rfl)) (pe_cmpR (op_ownIn (C := CM) mR FR hr3 bR pass0) (pv 5) (pv 1) (by rfl)) (nomark _))))) 
        (pss_one (ps_ret pe_bl)) pss_nil)
      (C8.pss_cut (ps_if (PW.pt (pw_or (pt_cmpR (op_ownNotIn (C := CP) mI FI hr4 bI pass0) (pv 5) (pv 3) (by rfl)) (pw_or (pt_cmpR (op_ownIn (C := CP) mI FI hr4 bI pass0) (pe_un (un_inv (C := CM) mV FV hr bV passL) (pv 5)) (pv 3) (by rfl)) (pw_or1 (PW.pt (pw_and (pt_cmpR op_in_seq (pv 4) (pv 2) (by rfl)) (pw_and1 (pt_cmpR (op_ownIn (C := CP) mI FI hr4 bI pass0) (pe_un (un_inv (C := CM) mV FV hr bV passL) (pv 1)) (pv 3) (by rfl))))))))) 
        (pss_one (ps_ret pe_bl)) pss_nil)
      (pss_one (ps_if (pt_cmpR op_notIn_seq (pv 4) (pe_fx GS hr5 pass0 (pa_cons (pv 0) (pa_cons (pv 5) (pa_nil)))) (by rfl)) 
        (pss_one (ps_ret pe_bl)) pss_nil)))))))
    (pss_one (ps_ret (pe_cmpR (op_eqD hr.units) (pe_fx GS hr5 pass0 (pa_cons (pv 0) (pa_cons (pe_smeth (pe_glob (v := .ref CR) rfl hCR rfl) rR sN FN hr bN dN pass0 (pa_cons pe_str (pa_nil))) (pa_nil)))) (pe_lst pa_nil) (nomark _)))))), ?_⟩
    refine ⟨_, rfl, _, rfl, a, r, B, G, rfl, hpu, hR, gB, fun H1 sh s1 hsh => ?_⟩
    obtain ⟨ps, ha, hl, hps⟩ := hpu.same s1
    refine ⟨_, rfl, a, rfl, ⟨_, SqL.of ha⟩, for_list (K := K) (a := a) (xs := ps.map V.ref) (fun i σ' H' => ∃ v3 v4 v5 v6 v7 : Option V, σ' = [some (.ref a), some (.ref r), some (.ref sh), v3, v4, v5, v6, v7] ∧ Same H1 H') ⟨_, _, _, _, _, rfl, Same.refl _⟩ (fun i σ' H' _ h => by obtain ⟨_, _, _, _, _, _, s'⟩ := h; exact SqL.of (s' _ _ ha)) ?_ ?_⟩
    · rintro i x σ' H2 hi ⟨v3, v4, v5, v6, v7, rfl, s2⟩
      rw [List.getElem?_map] at hi
      obtain ⟨p, hp, rfl⟩ := Option.map_eq_some_iff.mp hi
      obtain ⟨name, hn, hpu1⟩ := hps i p hp
      have hnm : name ∈ names12 := List.mem_of_getElem? hn
      have hpu2 := hpu1.same s2
      obtain ⟨q', A, F', h1, h2, h3, h4, h5⟩ := id hpu2
      obtain ⟨dx, kk, gg', hpi⟩ := id h1
      refine ⟨_, rfl, p, dx, _, rfl, hpi, p, q', name, rfl, h1, _, rfl, p, dx, _, rfl, hpi, rfl, p, q', name, rfl, h1, by show 2 ≤ sizeLine; decide, fun t ht => ⟨t, _, rfl, SqT.of upd_same, rfl, _, _, rfl, _, _, rfl, rfl, ?_⟩⟩
      have s23 := same_up1 (o := .tup [.str name, .ref q']) ht
      generalize upd H2 t (.tup [.str name, .ref q']) = H3 at s23
      have s3 := s2.trans s23
      refine ⟨_, rfl, a, rfl, ⟨_, SqL.of (s3 _ _ ha)⟩, fun D hD => ?_⟩
      refine lc_list (K := K) (a := a) (xs := ps.map V.ref) (MF H3 D names12 (fun o => safeB B G o && subN name o)) (.start hD) (fun i H2 _ m => SqL.of (m.1 _ _ (s3 _ _ ha))) ?_ ?_
      · intro j v H4 hj m
        rw [List.getElem?_map] at hj
        obtain ⟨p2, hp2, rfl⟩ := Option.map_eq_some_iff.mp hj
        obtain ⟨name2, hn2, hpu2'⟩ := hps j p2 hp2
        obtain ⟨q2, A2, F2, k1, k2, k3, k4, k5⟩ := hpu2'.same (s3.trans m.1)
        obtain ⟨dx2, kk2, gg2, hpi2⟩ := id k1
        obtain ⟨dq2, ra2, fa2, hq2, _⟩ := id k2
        have s34 := (s3.trans m.1)
        have hsh4 := s34 _ _ hsh
        refine ⟨rfl, _, rfl, p2, dx2, _, rfl, hpi2, p2, q2, name2, rfl, k1, _, rfl, sh, _, rfl, .inl (SqL.of hsh4), rfl, flatS _, _, rfl, ?_⟩
        rw [if_neg (by decide), inV_dec]
        have hno : ¬ name2 ∈ safeL B G → (fun o => safeB B G o && subN name o) name2 = false := fun z => by
          show (safeB B G name2 && subN name name2) = false
          rw [Bool.eq_false_iff.mpr fun y => z (safeL_mem.mpr ⟨List.mem_of_getElem? hn2, safeB_iff.mp y⟩)] <;> rfl
        refine ite2 (fun e => ?_) (fun e => ?_)
        · have e' : name2 ∈ safeL B G := of_decide_eq_true e
          have sf2 : safeB B G name2 = true := safeB_iff.mpr (safeL_mem.mp e').2
          refine ⟨_, rfl, _, rfl, p2, dx2, _, rfl, hpi2, rfl, p2, q2, name2, rfl, k1, q2, dq2, _, rfl, hq2, q', q2, A, F', A2, F2, rfl, h2.same (s23.trans m.1), k2, h3, k3, fun H5 c s5 hc => ⟨c, rfl, c, rfl, ?_⟩⟩
          have hc' : c = true ↔ subN name name2 = true := hc.trans ((sub_names h5 k5).trans subN_iff.symm)
          refine ite2 (fun e => ?_) (fun e => (m.mono s5).no hn2 ?_)
          · refine ⟨_, rfl, p2, dx2, _, rfl, s5 _ _ hpi2, p2, q2, name2, rfl, k1.same s5, ?_⟩
            refine (m.mono s5).yes hn2 ?_ hD (by show 12 ≤ sizeLine; decide)
            show (safeB B G name2 && subN name name2) = true
            rw [sf2, hc'.mp e] <;> rfl
          · show (safeB B G name2 && subN name name2) = false
            rw [Bool.eq_false_iff.mpr fun z => e (hc'.mpr z), Bool.and_false]
        · refine iteF ?_
          exact m.no hn2 (hno fun z => e (decide_eq_true z))
      · intro H4 m
        obtain ⟨m1, m2⟩ := m.fin (by rw [List.length_map, hl] <;> rfl)
        have pu2 := (hpu.same s1).same s2
        have hR2 := (hR.same s1).same s2
        obtain ⟨dr, rra, rfa, hr2', _⟩ := id hR2
        obtain ⟨dq, qra, qfa, hq2', _⟩ := id h2
        have hsh2 := s2 _ _ hsh
        have t4 := s23.trans m1
        refine ⟨_, rfl, by show 0 ≤ sizeLine; decide, fun e0 he0 => ?_⟩
        have t5 := t4.trans (same_up1 (o := .lst []) he0)
        have m25 := (same_up1 (o := .lst []) he0) _ _ m2
        have he5 : (upd H4 e0 (.lst [])) e0 = some (.lst []) := upd_same
        generalize upd H4 e0 (.lst []) = H5 at t5 m25 he5
        have hsafe : name ∈ safeL B G ↔ Sub A F' B G := by
          rw [safe_sub h5, safeL_mem]
          exact ⟨fun z => z.2, fun z => ⟨hnm, z⟩⟩
        have hin : names12.filter (fun o => safeB B G o && subN name o) ≠ [] → name ∈ safeL B G := fun z => by
          obtain ⟨o, ho⟩ := List.exists_mem_of_ne_nil _ z
          obtain ⟨_, h7⟩ := List.mem_filter.mp ho
          obtain ⟨h8, h9⟩ := Bool.and_eq_true_iff.mp h7
          exact safeL_mem.mpr ⟨hnm, fun w hw e => safeB_iff.mp h8 w hw (subN_iff.mp h9 w hw e)⟩
        refine ⟨dS (names12.filter fun o => safeB B G o && subN name o), dS [], dpS (SqL.of m25), dpS (SqL.of he5), shS fun x hx => (List.mem_filter.mp hx).1, shS (fun x hx => by cases hx), _, rfl, ?_⟩
        rw [eqvS]
        refine (fun hk => ite2 (fun e => ?_) (fun e => iteF hk)) ?_
        · refine ⟨_, rfl, _, rfl, sh, _, rfl, .inl (SqL.of (t5 _ _ hsh2)), rfl, flatS _, _, rfl, ?_⟩
          rw [if_pos rfl, inV_dec]
          have hs : decide (name ∈ safeL B G) = true := decide_eq_true (hin fun z => by
            rw [decide_eq_true z] at e
            cases e)
          rw [hs]
          exact iteF hk
        refine ⟨_, rfl, _, rfl, sh, _, rfl, .inl (SqL.of (t5 _ _ hsh2)), rfl, flatS _, ?_⟩
        rw [if_neg (by decide), inV_dec]
        refine ⟨_, rfl, _, rfl, r, dr, _, rfl, t5 _ _ hr2', q', r, A, F', B, G, rfl, h2.same t5, hR2.same t5, h3, gB, fun H6 c s6 hc => ⟨c, rfl, ?_⟩⟩
        have ec : decide (name ∈ safeL B G) = c := by
          cases c with
          | true => exact decide_eq_true (hsafe.mpr (hc.mp rfl))
          | false => exact decide_eq_false fun z => absurd (hc.mpr (hsafe.mp z)) (by decide)
        rw [ec]
        refine ⟨.bool c, .bool c, .bl c, .bl c, shBl c, shBl c, _, rfl, ?_⟩
        rw [eqvBl, beq_self_eq_true]
        refine iteF ?_
        have t6 := t5.trans s6
        -- least not in purpose ..
        refine ⟨fun σ' H' => ∃ v6 v7 : Option V, σ' = [some (.ref a), some (.ref r), some (.ref sh), some (.ref p), some (.str name), some (.ref q'), v6, v7] ∧ Same H2 H', ?_, ?_⟩
        · refine ⟨_, rfl, _, rfl, p, dx, _, rfl, t6 _ _ hpi, p, q', q', name, A, F', A, F', rfl, h1.same t6, h2.same t6, h2.same t6, h3, h3, fun H7 c7 s7 hc7 => ⟨c7, rfl, c7, rfl, _, rfl, ?_⟩⟩
          have t7 := t6.trans s7
          rw [hc7.mpr fun w hw e => e]
          refine iteF ?_
          refine ⟨_, rfl, q', dq, _, rfl, t7 _ _ hq2', q', A, F', 100, rfl, h2.same t7, h3, (few_keyM h3.ok).few h3.most, ⟨by decide, fun z => absurd z (by decide)⟩, fun H8 z C D8 s8 hz M => ?_⟩
          have t8 := t7.trans s8
          refine ⟨_, rfl, p, dx, _, rfl, t8 _ _ hpi, p, q', z, name, A, F', C, D8, rfl, h1.same t8, h2.same t8, hz, h3, M.good, fun H9 c9 s9 hc9 => ⟨c9, rfl, _, rfl, ?_⟩⟩
          have t9 := t8.trans s9
          have e9 : c9 = false := Bool.eq_false_iff.mpr fun e => inv_not hnm h5 M (hc9.mp e)
          rw [e9]
          refine iteF ?_
          refine ⟨_, rfl, _, rfl, sh, _, rfl, .inl (SqL.of (t9 _ _ hsh2)), rfl, flatS _, _, rfl, ?_⟩
          rw [if_neg (by decide), inV_dec]
          refine ite2 (fun e => ?_) (fun _ => iteF ⟨_, _, rfl, t9⟩)
          have sf := (safeL_mem.mp (of_decide_eq_true e)).2
          refine ⟨_, rfl, r, dr, _, rfl, t9 _ _ hr2', r, B, G, 100, rfl, hR2.same t9, gB, (few_keyM gB.ok).few gB.most, ⟨by decide, fun z => absurd z (by decide)⟩, fun H10 z2 C2 D2 s10 hz2 M2 => ?_⟩
          have t10 := t9.trans s10
          refine ⟨_, rfl, p, dx, _, rfl, t10 _ _ hpi, p, q', z2, name, A, F', C2, D2, rfl, h1.same t10, h2.same t10, hz2, h3, M2.good, fun H11 c11 s11 hc11 => ⟨c11, rfl, _, rfl, ?_⟩⟩
          have e11 : c11 = false := Bool.eq_false_iff.mpr fun e => inv_not2 hnm h5 asB sf M2 (hc11.mp e)
          rw [e11]
          exact iteF ⟨_, _, rfl, t10.trans s11⟩
        · rintro σ' H7 ⟨v6, v7, rfl, t7⟩
          refine ⟨_, rfl, _, rfl, _, rfl, a, q', A, F', rfl, pu2.same t7, h2.same t7, h3, fun H8 l8 s8 hl8 => ⟨l8, _, rfl, .inl (SqL.of hl8), rfl, flatS _, _, rfl, ?_⟩⟩
          have hs : decide (name ∈ safeL A F') = true := decide_eq_true (safeL_mem.mpr ⟨hnm, fun w hw e => by rw [h5 w hw]; exact e⟩)
          rw [if_pos rfl, inV_dec, hs]
          exact iteF ⟨_, _, _, _, _, rfl, s2.trans (t7.trans s8)⟩
    · rintro σ' H2 ⟨v3, v4, v5, v6, v7, rfl, s2⟩
      refine ⟨_, rfl, rfl, "any", .non, [[0, 0, 0, 0]], flagsW [[0, 0, 0, 0]] [], rfl, .inr ⟨rfl, [], by decide +kernel, rfl⟩, fun H3 z C D s3 hz M => ?_⟩
      refine ⟨a, z, C, D, rfl, (hpu.same s1).same (s2.trans s3), hz, M.good, fun H4 l4 s4 hl4 => ⟨by show 0 ≤ sizeLine; decide, fun e0 he0 => ?_⟩⟩
      refine ⟨dS (safeL C D), dS [], dpS (SqL.of ((same_up1 (o := .lst []) he0) _ _ hl4)), dpS (SqL.of upd_same), shS (fun x hx => (safeL_mem.mp hx).1), shS (fun x hx => by cases hx), ?_⟩
      rw [eqvS]
      have e0 : safeL C D = [] := List.eq_nil_iff_forall_not_mem.mpr fun x hx => by
        obtain ⟨hx1, hx2⟩ := safeL_mem.mp hx
        have e := hx2 [2] W2 (lN_some x hx1)
        rw [M.lang _ W2] at e
        revert e
        decide +kernel
      rw [decide_eq_true e0]
      exact q _ (((s1.trans s2).trans s3).trans (s4.trans (same_up1 he0)))
end
end SR

/-! ### SR41 -/
set_option maxHeartbeats 4000000
namespace SR
open PySem PySem.Spec PyProof.Rows L2 SRR SRN SRZ
theorem op_notIn_seqK {X : Cx} (K : PySem.W.Frag) (hK : X.K = K := by rfl) : OpR X (compareOp .NotIn) (rIn K true) := by
  subst hK
  exact op_notIn_seq
abbrev sPair : Stmt := top 92
theorem scPair : FnScope ["_law_purposes", "_law_one", "_law_other", "_law_safe_here", "_law_others", "_law_both", "_law_told", "_law_name"] ["_law_purposes", "_law_one", "_law_other"] (defScope sPair) := ⟨rfl, rfl, rfl, by decide +kernel, rfl, by decide +kernel, by decide +kernel⟩
def spPair (CP CM : Addr) : Sp := fun vs H Q _ => ∃ (a p q : Addr) (A : List (List Nat)) (F : List Bool) (B : List (List Nat)) (G : List Bool), vs = [.ref a, .ref p, .ref q] ∧ PursAt CP CM H a ∧ RuleAt CM H p A F ∧ RuleAt CM H q B G ∧ Good A F ∧ Good B G ∧ ∀ (H' : Hp), Same H H' → Q (.bl true) H'
theorem safe_of_filter {S T : List Str} (h : ∀ x ∈ S, x ∈ T) : S.filter (fun x => !decide (x ∈ T)) = [] := by
  rw [List.filter_eq_nil_iff]
  intro x hx
  rw [decide_eq_true (h x hx)]
  decide
theorem safeL_len {A : List (List Nat)} {F : List Bool} : (safeL A F).length ≤ 12 := List.length_filter_le _ _
theorem safe_both {A B C : List (List Nat)} {F G D : List Bool} {n : Nat} {κ : List Nat → List Nat} (M : Made C D n (fun w => F.getD (st A w) false && G.getD (st B w) false) κ) : safeL C D = (safeL A F).filter fun x => decide (x ∈ safeL B G) := by
  unfold safeL
  rw [List.filter_filter]
  refine List.filter_congr fun x hx => ?_
  have e : decide (x ∈ names12.filter (safeB B G)) = safeB B G x := by
    cases hb : safeB B G x with
    | true => exact decide_eq_true (List.mem_filter.mpr ⟨hx, hb⟩)
    | false => exact decide_eq_false fun z => by rw [(List.mem_filter.mp z).2] at hb; cases hb
  rw [e]
  have k : safeB C D x = true ↔ (safeB B G x && safeB A F x) = true := by
    rw [Bool.and_eq_true_iff, safeB_iff, safeB_iff, safeB_iff]
    constructor
    · intro s
      constructor
      · intro w hw e
        have := s w hw e
        rw [M.lang w hw] at this
        exact (Bool.and_eq_true_iff.mp this).2
      · intro w hw e
        have := s w hw e
        rw [M.lang w hw] at this
        exact (Bool.and_eq_true_iff.mp this).1
    · intro s w hw e
      show D.getD (st C w) false = true
      rw [M.lang w hw, s.1 w hw e, s.2 w hw e] <;> rfl
  cases h1 : safeB C D x with
  | true => exact (k.mp h1).symm
  | false => exact (Bool.eq_false_iff.mpr fun z => by rw [k.mpr z] at h1; cases h1).symm
theorem safe_turns {A B C : List (List Nat)} {F G D : List Bool} {n : Nat} {κ : List Nat → List Nat} (M : Made C D n (turnsL A F B G) κ) : ∀ x ∈ (safeL A F).filter (fun x => decide (x ∈ safeL B G)), x ∈ safeL C D := fun x hx => by
  obtain ⟨h1, h2⟩ := List.mem_filter.mp hx
  obtain ⟨h0, h1⟩ := safeL_mem.mp h1
  obtain ⟨_, h2⟩ := safeL_mem.mp (of_decide_eq_true h2)
  refine safeL_mem.mpr ⟨h0, fun w hw e => ?_⟩
  rw [M.lang w hw]
  show (if w.length % 2 = 0 then F.getD (st A w) false else G.getD (st B w) false) = true
  rw [h1 w hw e, h2 w hw e]
  split <;> rfl
theorem safe_in {A B : List (List Nat)} {F G : List Bool} (s : Sub A F B G) : ∀ x ∈ safeL A F, x ∈ safeL B G := fun x hx => by
  obtain ⟨h0, h1⟩ := safeL_mem.mp hx
  exact safeL_mem.mpr ⟨h0, fun w hw e => s w hw (h1 w hw e)⟩
theorem safe_then {A B C : List (List Nat)} {F G D : List Bool} {n : Nat} {κ : List Nat → List Nat} (M : Made C D n (thenL A F B G) κ) : ∀ x ∈ safeL A F, x ∈ safeL C D := fun x hx => by
  obtain ⟨h0, h1⟩ := safeL_mem.mp hx
  refine safeL_mem.mpr ⟨h0, fun w hw e => ?_⟩
  rw [M.lang w hw]
  show (F.getD (st A w) false || (!(F.getD (st A (w.map mir)) false) && G.getD (st B w) false)) = true
  rw [h1 w hw e] <;> rfl
section
variable {P : Program} {w : World} {K : PySem.W.Frag} {mg : Str → Option Value} {base : Heap} {CM CT CP : Addr}
theorem ok_pair {f : Addr} {fd : FuncData} (F : Fun K "_law_pair" "_law_pair" sPair f fd) (RM : RuleM P w K mg base CM CT) (SM : StatesM P w K mg base CM) (GS : Fx P w K mg base CX0 5 "_law_safe" ["_law_purposes", "_law_rule"] (spSafe CP CM)) : FnOk P w K mg base CX0 9 f fd ["_law_purposes", "_law_one", "_law_other"] (spPair CP CM) := by
  refine F.ok scPair (fun vs H Q E h => ?_) (fun cdv A₀ outer s H vs Q E hr h => ?_)
  · obtain ⟨a, p, q, A, F, B, G, rfl, _⟩ := h
    rfl
  · obtain ⟨a, p, q, A, F, B, G, rfl, hpu, hA, hB, gA, gB, k⟩ := h
    have nd := scPair.nd
    obtain ⟨ps, fs, fds, hps, FSt, bSt⟩ := SM.ex
    obtain ⟨fA, fdA, mA, FA, bA⟩ := RM.and_
    obtain ⟨fS, fdS, mS, FS, bS⟩ := RM.shift
    obtain ⟨fT, fdT, mT, FT, bT⟩ := RM.turns
    obtain ⟨fL, fdL, mL, FL, bL⟩ := RM.isL
    obtain ⟨fr, fdr, mR, FR, bR⟩ := RM.in_
    have hcl := RM.rf
    have hr2 := hr.mono (by decide : 2 ≤ 8)
    have hr3 := hr.mono (by decide : 3 ≤ 8)
    have hr5 := hr.mono (by decide : 5 ≤ 8)
    have hr6 := hr.mono (by decide : 6 ≤ 8)
    refine ⟨_,
    (pss_cons (ps_asg (pe_tup (pa_cons (pe_fx GS hr5 pass0 (pa_cons (pv 0) (pa_cons (pv 1) (pa_nil)))) (pa_cons (pe_fx GS hr5 pass0 (pa_cons (pv 0) (pa_cons (pv 2) (pa_nil)))) (pa_nil)))) (pg_tup rfl (pgs_cons (pg_name (i := 3) nd rfl (.inl rfl)) (pgs_cons (pg_name (i := 4) nd rfl (.inr rfl)) pgs_nil))))
    (pss_cons (ps_setLc (i := 5) (own := [("_law_name", 7)]) rfl nd rfl rfl (sw_true rfl rfl rfl (by decide +kernel)) (pi_list (pv 3)) (blkOk_by (own := [("_law_name", 7)]) (N := ["_law_purposes", "_law_one", "_law_other", "_law_safe_here", "_law_others", "_law_both", "_law_told", "_law_name"]) (sc := defScope sPair) (by decide +kernel)) (fun _ _ _ _ _ => (pg_name (i := 7) nd rfl (.inl rfl))) (fun _ _ _ _ _ => (pts_one (pt_cmpR (op_in_seqK K) (pv 7) (pv 4) (by rfl)))) (fun _ _ _ _ _ => (pv 7)))
    (C8.pss_cut (ps_if (PW.pt (pw_and (pt_cmpR op_lt (pe_prop (pv 1) hcl.cl hps FSt hr2 bSt .nil pass0 rfl) pe_int (nomark _)) (pw_and1 (pt_cmpR op_lt (pe_prop (pv 2) hcl.cl hps FSt hr2 bSt .nil pass0 rfl) pe_int (nomark _))))) 
      (pss_one (ps_if (pt_cmpR (op_neD hr.units) (pe_fx GS hr5 pass0 (pa_cons (pv 0) (pa_cons (pe_op (op_own2 RM.first mA FA hr bA passL) (pv 1) (pv 2)) (pa_nil)))) (pv 5) (nomark _)) 
        (pss_one (ps_ret pe_bl)) pss_nil)) pss_nil)
    (C8.pss_cut (ps_if (PW.pt (pw_and (pt_cmpR op_lt (pe_prop (pv 1) hcl.cl hps FSt hr2 bSt .nil pass0 rfl) pe_int (nomark _)) (pw_and1 (pt_cmpR op_lt (pe_prop (pv 2) hcl.cl hps FSt hr2 bSt .nil pass0 rfl) pe_int (nomark _))))) 
      (pss_cons (ps_set (i := 6) nd rfl (.inr rfl) (pe_fx GS hr5 pass0 (pa_cons (pv 0) (pa_cons (pe_meth (pv 1) hcl.cl mT FT hr bT .nil passL (pa_cons (pv 2) (pa_nil))) (pa_nil)))))
      (pss_one (ps_if (pt_cmpR (op_neD hr.units) (pe_lc (own := [("_law_name", 7)]) rfl nd (pi_list (pv 5)) (blkOk_by (own := [("_law_name", 7)]) (N := ["_law_purposes", "_law_one", "_law_other", "_law_safe_here", "_law_others", "_law_both", "_law_told", "_law_name"]) (sc := defScope sPair) (by decide +kernel)) (fun _ _ _ _ _ => (pg_name (i := 7) nd rfl (.inl rfl))) (fun _ _ _ _ _ => (pts_one (pt_cmpR (op_notIn_seqK K) (pv 7) (pv 6) (by rfl)))) (fun _ _ _ _ _ => (pv 7))) (pe_lst pa_nil) (nomark _)) 
        (pss_one (ps_ret pe_bl)) pss_nil))) pss_nil)
    (C8.pss_cut (ps_if (PW.pt (pw_and (pt_cmpR (op_ownIn (C := CM) mR FR hr3 bR pass0) (pv 1) (pv 2) (by rfl)) (pw_and1 (pt_cmpR (op_neD hr.units) (pe_lc (own := [("_law_name", 7)]) rfl nd (pi_list (pv 3)) (blkOk_by (own := [("_law_name", 7)]) (N := ["_law_purposes", "_law_one", "_law_other", "_law_safe_here", "_law_others", "_law_both", "_law_told", "_law_name"]) (sc := defScope sPair) (by decide +kernel)) (fun _ _ _ _ _ => (pg_name (i := 7) nd rfl (.inl rfl))) (fun _ _ _ _ _ => (pts_one (pt_cmpR (op_notIn_seqK K) (pv 7) (pv 4) (by rfl)))) (fun _ _ _ _ _ => (pv 7))) (pe_lst pa_nil) (nomark _))))) 
      (pss_one (ps_ret pe_bl)) pss_nil)
    (pss_cons (ps_if (PW.pt (pw_and (pt_cmpR op_lt (pe_prop (pv 1) hcl.cl hps FSt hr2 bSt .nil pass0 rfl) pe_int (nomark _)) (pw_and (pt_cmpR op_lt (pe_prop (pv 2) hcl.cl hps FSt hr2 bSt .nil pass0 rfl) pe_int (nomark _)) (pw_and1 (pt_truth (pe_meth0 (pv 1) hcl.cl mL FL hr6 bL .nil pass0) (by intro _; rfl)))))) 
      (pss_cons (ps_set (i := 6) nd rfl (.inr rfl) (pe_fx GS hr5 pass0 (pa_cons (pv 0) (pa_cons (pe_op (op_own2 RM.first mS FS hr bS passL) (pv 1) (pv 2)) (pa_nil)))))
      (pss_one (ps_ret (pe_cmpR (op_eqD hr.units) (pe_lc (own := [("_law_name", 7)]) rfl nd (pi_list (pv 3)) (blkOk_by (own := [("_law_name", 7)]) (N := ["_law_purposes", "_law_one", "_law_other", "_law_safe_here", "_law_others", "_law_both", "_law_told", "_law_name"]) (sc := defScope sPair) (by decide +kernel)) (fun _ _ _ _ _ => (pg_name (i := 7) nd rfl (.inl rfl))) (fun _ _ _ _ _ => (pts_one (pt_cmpR (op_notIn_seqK K) (pv 7) (pv 6) (by rfl)))) (fun _ _ _ _ _ => (pv 7))) (pe_lst pa_nil) (nomark _))))) pss_nil)
    (pss_one (ps_ret pe_bl)))))))), ?_⟩
    refine ⟨_, rfl, _, rfl, a, p, A, F, rfl, hpu, hA, gA, fun H1 l1 s1 hl1 => ?_⟩
    refine ⟨_, rfl, _, rfl, a, q, B, G, rfl, hpu.same s1, hB.same s1, gB, fun H2 l2 s2 hl2 => ?_⟩
    refine ⟨by show 2 ≤ sizeLine; decide, fun t ht => ⟨t, _, rfl, SqT.of upd_same, rfl, _, _, rfl, _, _, rfl, rfl, ?_⟩⟩
    have t12 := s2.trans (same_up1 (o := .tup [.ref l1, .ref l2]) ht)
    have s3 := s1.trans t12
    have hl1' := t12 _ _ hl1
    have hl2' := (same_up1 (o := .tup [.ref l1, .ref l2]) ht) _ _ hl2
    generalize upd H2 t (.tup [.ref l1, .ref l2]) = H3 at s3 hl1' hl2'
    refine ⟨_, rfl, l1, rfl, ⟨_, SqL.of hl1'⟩, fun D hD => ?_⟩
    refine lc_list (K := K) (a := l1) (xs := (safeL A F).map V.str) (MF H3 D (safeL A F) (fun x => decide (x ∈ safeL B G))) (.start hD) (fun i H2 _ m => SqL.of (m.1 _ _ hl1')) ?_ ?_
    · intro j v H4 hj m
      rw [List.getElem?_map] at hj
      obtain ⟨x, hx, rfl⟩ := Option.map_eq_some_iff.mp hj
      refine ⟨rfl, _, rfl, _, rfl, l2, _, rfl, .inl (SqL.of (m.1 _ _ hl2')), rfl, flatS _, _, rfl, ?_⟩
      rw [if_neg (by decide), inV_dec]
      exact ite2 (fun e => ⟨_, rfl, m.yes hx e hD (Nat.le_trans safeL_len (by decide))⟩) (fun e => m.no hx (Bool.eq_false_iff.mpr e))
    intro H4 m
    obtain ⟨m1, hD4⟩ := m.fin (by rw [List.length_map])
    have s4 := s3.trans m1
    have hl14 := m1 _ _ hl1'
    have hl24 := m1 _ _ hl2'
    have pu := hpu.same s4
    have hA4 := hA.same s4
    have hB4 := hB.same s4
    obtain ⟨dp, pra, pfa, hp4, _⟩ := id hA4
    obtain ⟨dq, qra, qfa, hq4, _⟩ := id hB4
    clear hl1' hl2' hl1 hl2 m
    -- both
    refine ⟨fun σ' H' => ∃ v6 v7 : Option V, σ' = [some (.ref a), some (.ref p), some (.ref q), some (.ref l1), some (.ref l2), some (.ref D), v6, v7] ∧ Same H4 H', ?_, ?_⟩
    · refine ⟨_, rfl, p, dp, _, rfl, hp4, p, A, F, rfl, hA4, _, _, rfl, rfl, _, rfl, ?_⟩
      refine ite2 (fun c1 => ?_) (fun _ => iteF ⟨_, _, rfl, Same.refl _⟩)
      refine ⟨_, rfl, q, dq, _, rfl, hq4, q, B, G, rfl, hB4, _, _, rfl, rfl, _, rfl, ?_⟩
      refine ite2 (fun c2 => ?_) (fun _ => ⟨_, _, rfl, Same.refl _⟩)
      have n1 : A.length ≤ 9 := by
        have h' : (A.length : Int) < 10 := of_decide_eq_true c1
        omega
      have n2 : B.length ≤ 9 := by
        have h' : (B.length : Int) < 10 := of_decide_eq_true c2
        omega
      refine ⟨_, rfl, _, rfl, _, rfl, p, q, dp, _, dq, _, rfl, rfl, hp4, hq4, p, q, A, F, B, G, 81, rfl, hA4, hB4, gA, gB, (few_key2 gA.ok gB.ok).few (Nat.mul_le_mul n1 n2), ⟨by decide, fun z => absurd z (by decide)⟩, fun H5 z C D5 s5 hz M => ⟨⟨z, rfl⟩, ?_⟩⟩
      refine ⟨a, z, C, D5, rfl, pu.same s5, hz, M.good, fun H6 l6 s6 hl6 => ?_⟩
      refine ⟨_, rfl, dS (safeL C D5), dS ((safeL A F).filter fun x => decide (x ∈ safeL B G)), dpS (SqL.of hl6), dpS (SqL.of ((s5.trans s6) _ _ hD4)), shS (fun x hx => (safeL_mem.mp hx).1), shS (fun x hx => (safeL_mem.mp (List.mem_filter.mp hx).1).1), _, rfl, ?_⟩
      rw [eqvS, safe_both M, decide_eq_true rfl]
      exact iteF ⟨_, _, rfl, s5.trans s6⟩
    rintro σ' H5 ⟨v6, v7, rfl, s5⟩
    -- turns
    refine ⟨fun σ' H' => ∃ v6 v7 : Option V, σ' = [some (.ref a), some (.ref p), some (.ref q), some (.ref l1), some (.ref l2), some (.ref D), v6, v7] ∧ Same H4 H', ?_, ?_⟩
    · refine ⟨_, rfl, p, dp, _, rfl, s5 _ _ hp4, p, A, F, rfl, hA4.same s5, _, _, rfl, rfl, _, rfl, ?_⟩
      refine ite2 (fun c1 => ?_) (fun _ => iteF ⟨_, _, rfl, s5⟩)
      refine ⟨_, rfl, q, dq, _, rfl, s5 _ _ hq4, q, B, G, rfl, hB4.same s5, _, _, rfl, rfl, _, rfl, ?_⟩
      refine ite2 (fun c2 => ?_) (fun _ => ⟨_, _, rfl, s5⟩)
      have n1 : A.length ≤ 7 := by
        have h' : (A.length : Int) < 8 := of_decide_eq_true c1
        omega
      have n2 : B.length ≤ 7 := by
        have h' : (B.length : Int) < 8 := of_decide_eq_true c2
        omega
      refine ⟨_, rfl, _, rfl, p, dp, _, rfl, s5 _ _ hp4, rfl, _, rfl, p, q, A, F, B, G, 98, rfl, hA4.same s5, hB4.same s5, gA, gB, (few_keyT gA.ok gB.ok).few (Nat.mul_le_mul (Nat.le_refl 2) (Nat.mul_le_mul n1 n2)), ⟨by decide, fun z => absurd z (by decide)⟩, fun H6 z C D6 s6 hz M => ?_⟩
      have t6 := s5.trans s6
      refine ⟨a, z, C, D6, rfl, pu.same t6, hz, M.good, fun H7 l7 s7 hl7 => ?_⟩
      have t7 := t6.trans s7
      refine ⟨_, rfl, D, rfl, ⟨_, SqL.of (t7 _ _ hD4)⟩, fun E7 hE7 => ?_⟩
      refine lc_list (K := K) (a := D) (xs := ((safeL A F).filter fun x => decide (x ∈ safeL B G)).map V.str) (MF H7 E7 ((safeL A F).filter fun x => decide (x ∈ safeL B G)) (fun x => !decide (x ∈ safeL C D6))) (.start hE7) (fun i H2 _ m => SqL.of (m.1 _ _ (t7 _ _ hD4))) ?_ ?_
      · intro j v H8 hj m
        rw [List.getElem?_map] at hj
        obtain ⟨x, hx, rfl⟩ := Option.map_eq_some_iff.mp hj
        refine ⟨rfl, _, rfl, _, rfl, l7, _, rfl, .inl (SqL.of (m.1 _ _ hl7)), rfl, flatS _, _, rfl, ?_⟩
        rw [if_pos rfl, inV_dec]
        exact ite2 (fun e => ⟨_, rfl, m.yes hx e hE7 (Nat.le_trans (List.length_filter_le _ _) (Nat.le_trans safeL_len (by decide)))⟩) (fun e => m.no hx (Bool.eq_false_iff.mpr e))
      intro H8 m
      obtain ⟨m8, hE8⟩ := m.fin (by rw [List.length_map])
      rw [safe_of_filter (safe_turns M)] at hE8
      refine ⟨by show 0 ≤ sizeLine; decide, fun e0 he0 => ?_⟩
      refine ⟨dS [], dS [], dpS (SqL.of ((same_up1 (o := .lst []) he0) _ _ hE8)), dpS (SqL.of upd_same), shS (fun x hx => by cases hx), shS (fun x hx => by cases hx), _, rfl, ?_⟩
      rw [eqvS, decide_eq_true rfl]
      exact iteF ⟨_, _, rfl, (t7.trans m8).trans (same_up1 he0)⟩
    clear s5 H5
    rintro σ' H5 ⟨v6, v7, rfl, s5⟩
    -- one in other
    refine ⟨fun σ' H' => ∃ v6 v7 : Option V, σ' = [some (.ref a), some (.ref p), some (.ref q), some (.ref l1), some (.ref l2), some (.ref D), v6, v7] ∧ Same H4 H', ?_, ?_⟩
    · refine ⟨_, rfl, _, rfl, q, dq, _, rfl, s5 _ _ hq4, p, q, A, F, B, G, rfl, hA4.same s5, hB4.same s5, gA, gB, fun H6 c s6 hc => ⟨c, rfl, c, rfl, ?_⟩⟩
      have t6 := s5.trans s6
      refine ite2 (fun e => ?_) (fun _ => ⟨_, _, rfl, t6⟩)
      have sub := hc.mp e
      refine ⟨_, rfl, l1, rfl, ⟨_, SqL.of (t6 _ _ hl14)⟩, fun E7 hE7 => ?_⟩
      refine lc_list (K := K) (a := l1) (xs := (safeL A F).map V.str) (MF H6 E7 (safeL A F) (fun x => !decide (x ∈ safeL B G))) (.start hE7) (fun i H2 _ m => SqL.of (m.1 _ _ (t6 _ _ hl14))) ?_ ?_
      · intro j v H8 hj m
        rw [List.getElem?_map] at hj
        obtain ⟨x, hx, rfl⟩ := Option.map_eq_some_iff.mp hj
        refine ⟨rfl, _, rfl, _, rfl, l2, _, rfl, .inl (SqL.of (m.1 _ _ (t6 _ _ hl24))), rfl, flatS _, _, rfl, ?_⟩
        rw [if_pos rfl, inV_dec]
        exact ite2 (fun e => ⟨_, rfl, m.yes hx e hE7 (Nat.le_trans safeL_len (by decide))⟩) (fun e => m.no hx (Bool.eq_false_iff.mpr e))
      intro H8 m
      obtain ⟨m8, hE8⟩ := m.fin (by rw [List.length_map])
      rw [safe_of_filter (safe_in sub)] at hE8
      refine ⟨by show 0 ≤ sizeLine; decide, fun e0 he0 => ?_⟩
      refine ⟨dS [], dS [], dpS (SqL.of ((same_up1 (o := .lst []) he0) _ _ hE8)), dpS (SqL.of upd_same), shS (fun x hx => by cases hx), shS (fun x hx => by cases hx), _, rfl, ?_⟩
      rw [eqvS, decide_eq_true rfl]
      exact ⟨_, _, rfl, (t6.trans m8).trans (same_up1 he0)⟩
    clear s5 H5
    rintro σ' H5 ⟨v6, v7, rfl, s5⟩
    -- one >> other
    have last : ∀ H', Same H4 H' → Q (.bl true) H' := fun H' s' => k H' (s4.trans s')
    refine ⟨_, rfl, p, dp, _, rfl, s5 _ _ hp4, p, A, F, rfl, hA4.same s5, _, _, rfl, rfl, _, rfl, ?_⟩
    refine ite2 (fun c1 => ?_) (fun _ => iteF (last _ s5))
    refine ⟨_, rfl, q, dq, _, rfl, s5 _ _ hq4, q, B, G, rfl, hB4.same s5, _, _, rfl, rfl, _, rfl, ?_⟩
    refine ite2 (fun c2 => ?_) (fun _ => iteF (last _ s5))
    have n1 : A.length ≤ 4 := by
      have h' : (A.length : Int) < 5 := of_decide_eq_true c1
      omega
    have n2 : B.length ≤ 5 := by
      have h' : (B.length : Int) < 6 := of_decide_eq_true c2
      omega
    refine ⟨_, rfl, p, dp, _, rfl, s5 _ _ hp4, rfl, p, A, F, rfl, hA4.same s5, gA, by omega, fun H6 c s6 hc => ⟨c, rfl, ?_⟩⟩
    have t6 := s5.trans s6
    refine ite2 (fun c3 => ?_) (fun _ => last _ t6)
    refine ⟨_, rfl, _, rfl, _, rfl, p, q, dp, _, dq, _, rfl, rfl, t6 _ _ hp4, t6 _ _ hq4, p, q, A, F, B, G, 80, rfl, hA4.same t6, hB4.same t6, gA, gB, hc.mp c3, fun z => absurd z (by omega), fun _ => ⟨(few_key3 gA.ok gB.ok).few (Nat.mul_le_mul n1 (Nat.mul_le_mul n1 n2)), ⟨by decide, fun z => absurd z (by decide)⟩, fun H7 z C D7 s7 hz M => ⟨⟨z, rfl⟩, ?_⟩⟩⟩
    have t7 := t6.trans s7
    refine ⟨a, z, C, D7, rfl, pu.same t7, hz, M.good, fun H8 l8 s8 hl8 => ?_⟩
    have t8 := t7.trans s8
    refine ⟨_, rfl, l1, rfl, ⟨_, SqL.of (t8 _ _ hl14)⟩, fun E7 hE7 => ?_⟩
    refine lc_list (K := K) (a := l1) (xs := (safeL A F).map V.str) (MF H8 E7 (safeL A F) (fun x => !decide (x ∈ safeL C D7))) (.start hE7) (fun i H2 _ m => SqL.of (m.1 _ _ (t8 _ _ hl14))) ?_ ?_
    · intro j v H9 hj m
      rw [List.getElem?_map] at hj
      obtain ⟨x, hx, rfl⟩ := Option.map_eq_some_iff.mp hj
      refine ⟨rfl, _, rfl, _, rfl, l8, _, rfl, .inl (SqL.of (m.1 _ _ hl8)), rfl, flatS _, _, rfl, ?_⟩
      rw [if_pos rfl, inV_dec]
      exact ite2 (fun e => ⟨_, rfl, m.yes hx e hE7 (Nat.le_trans safeL_len (by decide))⟩) (fun e => m.no hx (Bool.eq_false_iff.mpr e))
    intro H9 m
    obtain ⟨m8, hE8⟩ := m.fin (by rw [List.length_map])
    rw [safe_of_filter (safe_then M)] at hE8
    refine ⟨by show 0 ≤ sizeLine; decide, fun e0 he0 => ?_⟩
    refine ⟨dS [], dS [], dpS (SqL.of ((same_up1 (o := .lst []) he0) _ _ hE8)), dpS (SqL.of upd_same), shS (fun x hx => by cases hx), shS (fun x hx => by cases hx), ?_⟩
    rw [eqvS, decide_eq_true rfl]
    exact last _ ((t8.trans m8).trans (same_up1 he0))
end
end SR

/-! ### SR42 -/
set_option maxHeartbeats 4000000
namespace SR
open PySem PySem.Spec PyProof.Rows L2 SRR SRN SRZ
def dI (xs : List Int) : PyData := .list (xs.map PyData.int)
theorem dpAllI {K : PySem.W.Frag} {H : Hp} : ∀ xs : List Int, DpAll K H (xs.map V.int) (xs.map PyData.int)
  | [] => .nil
  | b :: bs => .cons (.int b) (dpAllI bs)
theorem dpI {K : PySem.W.Frag} {H : Hp} {a : Addr} {xs : List Int} (h : SqL K H a (xs.map V.int)) : Dp K H (.ref a) (dI xs) := .lst h (dpAllI xs)
theorem eqvAllI : ∀ xs : List Int, PyData.eqvAll (xs.map PyData.int) (xs.map PyData.int) = true
  | [] => by simp [PyData.eqvAll]
  | x :: xs => by
    have ih := eqvAllI xs
    show (PyData.eqv (.int x) (.int x) && PyData.eqvAll (xs.map PyData.int) (xs.map PyData.int)) = true
    rw [ih]
    show ((x == x) && true) = true
    simp
theorem canAllI : ∀ xs : List Int, PyData.canLayAll0 (xs.map PyData.int) = true
  | [] => by simp [PyData.canLayAll0]
  | x :: xs => by
    have ih := canAllI xs
    show PyData.canLayAll0 (.int x :: xs.map PyData.int) = true
    unfold PyData.canLayAll0
    rw [ih]
    simp [PyData.canLay0]
theorem depAllI : ∀ xs : List Int, PyData.depthAll (xs.map PyData.int) = 0
  | [] => by simp [PyData.depthAll]
  | x :: xs => by
    have ih := depAllI xs
    show PyData.depthAll (.int x :: xs.map PyData.int) = 0
    unfold PyData.depthAll
    rw [ih]
    simp [PyData.depth]
theorem shI (xs : List Int) : SeqAt.shaped (dI xs) = true := by
  unfold SeqAt.shaped dI
  have h1 := canAllI xs
  have h2 := depAllI xs
  rw [Bool.and_eq_true_iff]
  constructor
  · show PyData.canLay0 (.list _) = true
    unfold PyData.canLay0
    exact h1
  · show decide (PyData.depth (.list _) ≤ 64) = true
    unfold PyData.depth
    rw [h2]
    decide
noncomputable def bitN (A : List (List Nat)) (F : List Bool) (x : Str) : Int := if decide (x ∈ safeL A F) = true then 1 else 0
theorem bit_le {A : List (List Nat)} {F : List Bool} {a b : Str} (ha : a ∈ names12) (hb : b ∈ names12) (h : linkOk a b = true) : bitN A F a ≤ bitN A F b := by
  unfold bitN
  by_cases z : a ∈ safeL A F
  · have z2 : b ∈ safeL A F := safeL_mem.mpr ⟨hb, fun w hw e => (safeL_mem.mp z).2 w hw (link_in h w hw e)⟩
    rw [decide_eq_true z, decide_eq_true z2]
    exact Int.le_refl _
  · rw [decide_eq_false z, if_neg (by decide)]
    split <;> decide
theorem bits_sorted {A : List (List Nat)} {F : List Bool} : ∀ r ∈ chainRows, (r.map (bitN A F)).Pairwise (· ≤ ·) := fun r hr => by
  obtain ⟨h1, h2, h3⟩ := chain_ok r hr
  match r, h1, h2, h3 with
  | [], _, _, _ => exact .nil
  | [a], _, _, _ => exact List.pairwise_singleton _ _
  | [a, b], h1, _, h3 =>
    have e : bitN A F a ≤ bitN A F b := bit_le (h3 a (by simp)) (h3 b (by simp)) (h1 0 (by show 1 < 2; decide))
    exact .cons (fun y hy => by rw [List.mem_singleton.mp hy]; exact e) (List.pairwise_singleton _ _)
  | [a, b, c], h1, _, h3 =>
    have e : bitN A F a ≤ bitN A F b := bit_le (h3 a (by simp)) (h3 b (by simp)) (h1 0 (by show 1 < 3; decide))
    have e' : bitN A F b ≤ bitN A F c := bit_le (h3 b (by simp)) (h3 c (by simp)) (h1 1 (by show 2 < 3; decide))
    refine .cons (fun y hy => ?_) (.cons (fun y hy => by rw [List.mem_singleton.mp hy]; exact e') (List.pairwise_singleton _ _))
    have hy : y ∈ [bitN A F b, bitN A F c] := hy
    rcases List.mem_cons.mp hy with z | z
    · rw [z]; exact e
    · rw [List.mem_singleton.mp z]; exact Int.le_trans e e'
  | _ :: _ :: _ :: _ :: _, _, h2, _ => exact absurd h2 (by simp)
abbrev sChains : Stmt := top 93
theorem scChains : FnScope ["_law_safe_here", "_law_rows", "_law_row", "_law_told", "_law_name"] ["_law_safe_here"] (defScope sChains) := ⟨rfl, rfl, rfl, by decide +kernel, rfl, by decide +kernel, by decide +kernel⟩
def spChains : Sp := fun vs H Q _ => ∃ (l : Addr) (A : List (List Nat)) (F : List Bool), vs = [.ref l] ∧ H l = some (.lst ((safeL A F).map V.str)) ∧ ∀ (H' : Hp), Same H H' → Q (.bl true) H'
def RowsL (H : Hp) : List Addr → List (List Str) → Prop
  | [], [] => True
  | b :: bs, r :: rs => H b = some (.lst (r.map V.str)) ∧ RowsL H bs rs
  | [], _ :: _ => False
  | _ :: _, [] => False
theorem RowsL.same {H H' : Hp} (s : Same H H') : ∀ {bs : List Addr} {rs : List (List Str)}, RowsL H bs rs → RowsL H' bs rs
  | [], [], _ => trivial
  | _ :: _, _ :: _, h => ⟨s _ _ h.1, RowsL.same s h.2⟩
  | [], _ :: _, h => h.elim
  | _ :: _, [], h => h.elim
theorem RowsL.app {H : Hp} : ∀ {bs cs : List Addr} {rs qs : List (List Str)}, RowsL H bs rs → RowsL H cs qs → RowsL H (bs ++ cs) (rs ++ qs)
  | [], _, [], _, _, h => h
  | _ :: _, _, _ :: _, _, h, h' => ⟨h.1, RowsL.app h.2 h'⟩
  | [], _, _ :: _, _, h, _ => h.elim
  | _ :: _, _, [], _, h, _ => h.elim
theorem RowsL.at_ {H : Hp} : ∀ {bs : List Addr} {rs : List (List Str)} {i : Nat} {b : Addr}, RowsL H bs rs → bs[i]? = some b → ∃ r, r ∈ rs ∧ H b = some (.lst (r.map V.str))
  | b :: _, r :: _, 0, _, h, e => ⟨r, List.mem_cons_self .., (Option.some.inj e) ▸ h.1⟩
  | _ :: bs, _ :: rs, i + 1, b, h, e => let ⟨r, h1, h2⟩ := RowsL.at_ (bs := bs) (rs := rs) (i := i) h.2 e; ⟨r, List.mem_cons_of_mem _ h1, h2⟩
  | [], [], i, b, _, e => by cases i <;> cases e
  | [], _ :: _, _, _, h, _ => h.elim
  | _ :: _, [], _, _, h, _ => h.elim
def r0 : List Str := ["near first on connected graphs", "growing on connected graphs", "together on graphs"]
def r1 : List Str := ["near first on connected graphs", "near first on trees", "growing on trees"]
def r2 : List Str := ["deep first on connected graphs", "deep first on trees", "together on forests"]
def r3 : List Str := ["perfect on chordal graphs", "together on cliques"]
def r4 : List Str := ["together on graphs", "together on forests"]
def r5 : List Str := ["perfect ending on chordal graphs", "perfect on chordal graphs", "ending on connected graphs"]
section
variable {P : Program} {w : World} {K : PySem.W.Frag} {mg : Str → Option Value} {base : Heap}
theorem ok_chains {f : Addr} {fd : FuncData} (F : Fun K "_law_chains" "_law_chains" sChains f fd) (T : Tx K mg) : FnOk P w K mg base CX0 1 f fd ["_law_safe_here"] spChains := by
  refine F.ok scChains (fun vs H Q E h => ?_) (fun cdv A₀ outer s H vs Q E hr h => ?_)
  · obtain ⟨l, A, F, rfl, _⟩ := h
    rfl
  · obtain ⟨l, A, F, rfl, hl, k⟩ := h
    have nd := scChains.nd
    refine ⟨_,
    (C8.pss_cut (ps_set (i := 1) nd rfl (.inl rfl) (pe_lst (pa_cons (pe_lst (pa_cons pe_str (pa_cons pe_str (pa_cons pe_str (pa_nil))))) (pa_nil))))
    (C8.pss_cut (ps_set (i := 1) nd rfl (.inl rfl) (pe_op op_cat (pv 1) (pe_lst (pa_cons (pe_lst (pa_cons pe_str (pa_cons pe_str (pa_cons pe_str (pa_nil))))) (pa_nil)))))
    (C8.pss_cut (ps_set (i := 1) nd rfl (.inl rfl) (pe_op op_cat (pv 1) (pe_lst (pa_cons (pe_lst (pa_cons pe_str (pa_cons pe_str (pa_cons pe_str (pa_nil))))) (pa_nil)))))
    (C8.pss_cut (ps_set (i := 1) nd rfl (.inl rfl) (pe_op op_cat (pv 1) (pe_lst (pa_cons (pe_lst (pa_cons pe_str (pa_cons pe_str (pa_nil)))) (pa_cons (pe_lst (pa_cons pe_str (pa_cons pe_str (pa_nil)))) (pa_nil))))))
    (C8.pss_cut (ps_set (i := 1) nd rfl (.inl rfl) (pe_op op_cat (pv 1) (pe_lst (pa_cons (pe_lst (pa_cons pe_str (pa_cons pe_str (pa_cons pe_str (pa_nil))))) (pa_nil)))))
    (pss_cons (ps_for PassesOwn.never rfl (pi_list (pv 1)) (pg_name (i := 2) nd rfl (.inl rfl)) 
      (pss_cons (ps_setLc (i := 3) (own := [("_law_name", 4)]) rfl nd rfl rfl (sw_true rfl rfl rfl (by decide +kernel)) (pi_list (pv 2)) (blkOk_by (own := [("_law_name", 4)]) (N := ["_law_safe_here", "_law_rows", "_law_row", "_law_told", "_law_name"]) (sc := defScope sChains) (by decide +kernel)) (fun _ _ _ _ _ => (pg_name (i := 4) nd rfl (.inl rfl))) (fun _ _ _ _ _ => pts_nil) (fun _ _ _ _ _ => (pe_callTy call_int1 (by rfl) T.int (by decide +kernel) (pa_cons (pe_cmpR (op_in_seqK K) (pv 4) (pv 0) (by rfl)) (pa_nil)))))
      (pss_one (ps_if (pt_cmpR (op_neD hr.units) (pv 3) (pe_callB cr_sorted (by rfl) T.sorted (by decide +kernel) (pa_cons (pv 3) (pa_nil))) (nomark _)) 
        (pss_one (ps_ret pe_bl)) pss_nil))))
    (pss_one (ps_ret pe_bl)))))))), ?_⟩
    refine ⟨fun σ' H' => ∃ (c : Addr) (bs : List Addr), σ' = [some (.ref l), some (.ref c), none, none, none] ∧ Same H H' ∧ H' c = some (.lst (bs.map V.ref)) ∧ bs.length = 1 ∧ RowsL H' bs [r0], ?_, ?_⟩
    · refine ⟨by show 3 ≤ sizeLine; decide, fun b0 n0 => ⟨by show 1 ≤ sizeLine; decide, fun c0 m0 => ?_⟩⟩
      have t := same_up1 (o := .lst [.ref b0]) m0
      exact ⟨c0, [b0], rfl, (same_up1 (o := .lst (r0.map V.str)) n0).trans t, upd_same, rfl, t b0 (.lst (r0.map V.str)) upd_same, trivial⟩
    rintro σ' H0 ⟨c0, bs0, rfl, s0, x0, y0, z0⟩
    refine ⟨fun σ' H' => ∃ (c : Addr) (bs : List Addr), σ' = [some (.ref l), some (.ref c), none, none, none] ∧ Same H H' ∧ H' c = some (.lst (bs.map V.ref)) ∧ bs.length = 2 ∧ RowsL H' bs ([r0] ++ [r1]), ?_, ?_⟩
    · refine ⟨_, rfl, by show 3 ≤ sizeLine; decide, fun b n => ⟨by show 1 ≤ sizeLine; decide, fun a m => ?_⟩⟩
      have t := same_up1 (o := .lst [.ref b]) m
      have u := (same_up1 (o := .lst (r1.map V.str)) n).trans t
      refine ⟨c0, a, bs0.map V.ref, [.ref b], rfl, rfl, u _ _ x0, upd_same, by rw [List.length_map, y0]; show 2 ≤ sizeLine; decide, fun c p => ?_⟩
      have v := same_up1 (o := .lst (bs0.map V.ref ++ [.ref b])) p
      refine ⟨c, bs0 ++ [b], rfl, (s0.trans u).trans v, ?_, by rw [List.length_append, y0] <;> rfl, (z0.same (u.trans v)).app (qs := [r1]) ⟨v _ _ (t b (.lst (r1.map V.str)) upd_same), trivial⟩⟩
      rw [List.map_append]
      exact upd_same
    rintro σ' H1 ⟨c1, bs1, rfl, s1, x1, y1, z1⟩
    refine ⟨fun σ' H' => ∃ (c : Addr) (bs : List Addr), σ' = [some (.ref l), some (.ref c), none, none, none] ∧ Same H H' ∧ H' c = some (.lst (bs.map V.ref)) ∧ bs.length = 3 ∧ RowsL H' bs ([r0] ++ [r1] ++ [r2]), ?_, ?_⟩
    · refine ⟨_, rfl, by show 3 ≤ sizeLine; decide, fun b n => ⟨by show 1 ≤ sizeLine; decide, fun a m => ?_⟩⟩
      have t := same_up1 (o := .lst [.ref b]) m
      have u := (same_up1 (o := .lst (r2.map V.str)) n).trans t
      refine ⟨c1, a, bs1.map V.ref, [.ref b], rfl, rfl, u _ _ x1, upd_same, by rw [List.length_map, y1]; show 3 ≤ sizeLine; decide, fun c p => ?_⟩
      have v := same_up1 (o := .lst (bs1.map V.ref ++ [.ref b])) p
      refine ⟨c, bs1 ++ [b], rfl, (s1.trans u).trans v, ?_, by rw [List.length_append, y1] <;> rfl, (z1.same (u.trans v)).app (qs := [r2]) ⟨v _ _ (t b (.lst (r2.map V.str)) upd_same), trivial⟩⟩
      rw [List.map_append]
      exact upd_same
    rintro σ' H2 ⟨c2, bs2, rfl, s2, x2, y2, z2⟩
    refine ⟨fun σ' H' => ∃ (c : Addr) (bs : List Addr), σ' = [some (.ref l), some (.ref c), none, none, none] ∧ Same H H' ∧ H' c = some (.lst (bs.map V.ref)) ∧ bs.length = 5 ∧ RowsL H' bs ([r0] ++ [r1] ++ [r2] ++ [r3, r4]), ?_, ?_⟩
    · refine ⟨_, rfl, by show 2 ≤ sizeLine; decide, fun b n => ⟨by show 2 ≤ sizeLine; decide, fun d o => ⟨by show 2 ≤ sizeLine; decide, fun a m => ?_⟩⟩⟩
      have t := same_up1 (o := .lst [.ref b, .ref d]) m
      have t2 := (same_up1 (o := .lst (r4.map V.str)) o).trans t
      have u := (same_up1 (o := .lst (r3.map V.str)) n).trans t2
      refine ⟨c2, a, bs2.map V.ref, [.ref b, .ref d], rfl, rfl, u _ _ x2, upd_same, by rw [List.length_map, y2]; show 5 ≤ sizeLine; decide, fun c p => ?_⟩
      have v := same_up1 (o := .lst (bs2.map V.ref ++ [.ref b, .ref d])) p
      refine ⟨c, bs2 ++ [b, d], rfl, (s2.trans u).trans v, ?_, by rw [List.length_append, y2] <;> rfl, (z2.same (u.trans v)).app (qs := [r3, r4]) ⟨v _ _ (t2 b (.lst (r3.map V.str)) upd_same), v _ _ (t d (.lst (r4.map V.str)) upd_same), trivial⟩⟩
      rw [List.map_append]
      exact upd_same
    rintro σ' H4 ⟨c4, bs4, rfl, s4, x4, y4, z4⟩
    refine ⟨fun σ' H' => ∃ (c : Addr) (bs : List Addr), σ' = [some (.ref l), some (.ref c), none, none, none] ∧ Same H H' ∧ H' c = some (.lst (bs.map V.ref)) ∧ bs.length = 6 ∧ RowsL H' bs ([r0] ++ [r1] ++ [r2] ++ [r3, r4] ++ [r5]), ?_, ?_⟩
    · refine ⟨_, rfl, by show 3 ≤ sizeLine; decide, fun b n => ⟨by show 1 ≤ sizeLine; decide, fun a m => ?_⟩⟩
      have t := same_up1 (o := .lst [.ref b]) m
      have u := (same_up1 (o := .lst (r5.map V.str)) n).trans t
      refine ⟨c4, a, bs4.map V.ref, [.ref b], rfl, rfl, u _ _ x4, upd_same, by rw [List.length_map, y4]; show 6 ≤ sizeLine; decide, fun c p => ?_⟩
      have v := same_up1 (o := .lst (bs4.map V.ref ++ [.ref b])) p
      refine ⟨c, bs4 ++ [b], rfl, (s4.trans u).trans v, ?_, by rw [List.length_append, y4] <;> rfl, (z4.same (u.trans v)).app (qs := [r5]) ⟨v _ _ (t b (.lst (r5.map V.str)) upd_same), trivial⟩⟩
      rw [List.map_append]
      exact upd_same
    rintro σ' H5 ⟨c5, bs5, rfl, s5, x5, y5, z5⟩
    have hl5 := s5 _ _ hl
    refine ⟨_, rfl, c5, rfl, ⟨_, SqL.of x5⟩, for_list (K := K) (a := c5) (xs := bs5.map V.ref) (fun i σ' H' => ∃ v2 v3 v4 : Option V, σ' = [some (.ref l), some (.ref c5), v2, v3, v4] ∧ Same H5 H') ⟨_, _, _, rfl, Same.refl _⟩ (fun i σ' H' _ h => by obtain ⟨_, _, _, _, s'⟩ := h; exact SqL.of (s' _ _ x5)) ?_ ?_⟩
    · rintro i v σ' H6 hi ⟨v2, v3, v4, rfl, s6⟩
      rw [List.getElem?_map] at hi
      obtain ⟨b, hbi, rfl⟩ := Option.map_eq_some_iff.mp hi
      obtain ⟨row, hrc, hb⟩ := z5.at_ hbi
      have hrc : row ∈ chainRows := hrc
      refine ⟨_, rfl, b, rfl, ⟨_, SqL.of (s6 _ _ hb)⟩, fun D hD => ?_⟩
      refine lc_list (K := K) (a := b) (xs := row.map V.str) (MI H6 D ((row.map (bitN A F)).map V.int)) (.start hD) (fun i H2 _ m => SqL.of (m.1 _ _ (s6 _ _ hb))) ?_ ?_
      · intro j v H7 hj m
        rw [List.getElem?_map] at hj
        obtain ⟨x, hx, rfl⟩ := Option.map_eq_some_iff.mp hj
        refine ⟨rfl, tyesT ⟨_, rfl, _, rfl, l, _, rfl, .inl (SqL.of ((s6.trans m.1) _ _ hl5)), rfl, flatS _, ?_⟩⟩
        rw [if_neg (by decide), inV_dec]
        refine .inr ⟨_, rfl, m.step (map_at (map_at (f := bitN A F) hx)) hD ?_⟩
        rw [List.length_map, List.length_map]
        exact Nat.le_trans (chain_ok row hrc).2.1 (by decide)
      · intro H7 m
        obtain ⟨m1, m2⟩ := m.fin (by rw [List.length_map, List.length_map, List.length_map])
        refine ⟨_, rfl, _, rfl, D, row.map (bitN A F), rfl, SqL.of m2, ?_, fun ns p hperm hsort hp => ?_⟩
        · rw [List.length_map]
          have := (chain_ok row hrc).2.1
          omega
        have e : ns = row.map (bitN A F) := List.Perm.eq_of_pairwise (le := (· ≤ ·)) (fun _ _ _ _ => Int.le_antisymm) hsort (bits_sorted row hrc) hperm
        rw [e]
        refine ⟨dI _, dI _, dpI (SqL.of ((same_up1 hp) _ _ m2)), dpI (SqL.of upd_same), shI _, shI _, _, rfl, ?_⟩
        rw [show PyData.eqv (dI (row.map (bitN A F))) (dI (row.map (bitN A F))) = true from eqvAllI _]
        exact iteF ⟨_, _, _, rfl, (s6.trans m1).trans (same_up1 hp)⟩
    · rintro σ' H6 ⟨v2, v3, v4, rfl, s6⟩
      exact k _ (s5.trans s6)
end
end SR

/-! ### SR43 -/
set_option maxHeartbeats 4000000
namespace SR
open PySem PySem.Spec PyProof.Rows L2 SRR SRN SRZ
theorem Pl.fresh {p : Addr} {H0 H1 H2 : Hp} (s : Same H0 H1) (n : H0 p = none) (a : Pl p H1 H2) : Same H0 H2 := fun b o e => a.keep b o (fun z => by rw [z, n] at e; cases e) (s b o e)
def PursUp (CP CM : Addr) (H1 : Hp) (D : Addr) (i : Nat) (H : Hp) : Prop := ∃ ps : List Addr, ps.length = i ∧ Same H1 H ∧ H D = some (.lst (ps.map V.ref)) ∧ ∀ (j : Nat) (p : Addr), ps[j]? = some p → ∃ name : Str, names12[j]? = some name ∧ Pur1 CP CM H p name
theorem purs_snoc {CP CM : Addr} {H : Hp} {ps : List Addr} {x : Addr} {name : Str} (h : ∀ (j : Nat) (p : Addr), ps[j]? = some p → ∃ name : Str, names12[j]? = some name ∧ Pur1 CP CM H p name) (hn : names12[ps.length]? = some name) (hx : Pur1 CP CM H x name) :
    ∀ (j : Nat) (p : Addr), (ps ++ [x])[j]? = some p → ∃ name : Str, names12[j]? = some name ∧ Pur1 CP CM H p name := fun j p e => by
  rcases Nat.lt_or_ge j ps.length with l | l
  · rw [List.getElem?_append_left l] at e
    exact h j p e
  · rw [List.getElem?_append_right l] at e
    have hj : j - ps.length = 0 := by
      have := (List.getElem?_eq_some_iff.mp e).1
      simp at this
      omega
    rw [hj] at e
    cases Option.some.inj e
    have : j = ps.length := by omega
    subst this
    exact ⟨name, hn, hx⟩
theorem rule_upd {CM D q : Addr} {H : Hp} {A : List (List Nat)} {F : List Bool} {ps : List Addr} {o : HO} (hD : H D = some (.lst (ps.map V.ref))) (hi : ∀ (j : Nat) (p : Addr), ps[j]? = some p → ∃ C dx fs, H p = some (.ins C dx fs)) (g : Good A F) (h : RuleAt CM H q A F) : RuleAt CM (upd H D o) q A F := by
  obtain ⟨dx, ra, fa, h1, ⟨ts, h2, h3, h4⟩, h5⟩ := h
  have hpos := g.ok.pos
  have hq : q ≠ D := fun z => by rw [z, hD] at h1; cases h1
  have htt : ∀ (t : Addr) (xs : List V), H t = some (.tup xs) → t ≠ D := fun t xs e z => by rw [z, hD] at e; cases e
  have hfa : fa ≠ D := fun z => by
    rw [z, hD] at h5
    injection h5 with h5
    injection h5 with h5
    match ps, F, g.len with
    | [], [], h => simp at h; omega
    | [], _ :: _, _ => cases h5
    | _ :: _, [], h => simp at h; omega
    | _ :: _, _ :: _, _ => cases h5
  have hra : ra ≠ D := fun z => by
    rw [z, hD] at h2
    injection h2 with h2
    injection h2 with h2
    match ps, ts, A, h3, h2, hi, h4 with
    | [], [], A, h3, _, _, _ => simp at h3; omega
    | [], _ :: _, _, _, h2, _, _ => cases h2
    | _ :: _, [], _, _, h2, _, _ => cases h2
    | p :: _, t :: _, [], h3, _, _, _ => simp at h3
    | p :: _, t :: _, r :: _, _, h2, hi, h4 =>
      injection h2 with h2
      injection h2 with h2
      obtain ⟨C, dy, fs, e⟩ := hi 0 p rfl
      have e' := h4 0 t r rfl rfl
      rw [← h2, e] at e'
      cases e'
  refine ⟨dx, ra, fa, by rw [upd_ne hq]; exact h1, ⟨ts, by rw [upd_ne hra]; exact h2, h3, fun i t r x y => ?_⟩, by rw [upd_ne hfa]; exact h5⟩
  have e := h4 i t r x y
  show (upd H D o) t = _
  rw [upd_ne (htt _ _ e)]
  exact e
theorem pur_upd {CP CM D p : Addr} {H : Hp} {name : Str} {ps : List Addr} {o : HO} (hD : H D = some (.lst (ps.map V.ref))) (hi : ∀ (j : Nat) (p : Addr), ps[j]? = some p → ∃ C dx fs, H p = some (.ins C dx fs)) (h : Pur1 CP CM H p name) : Pur1 CP CM (upd H D o) p name := by
  obtain ⟨q, A, F, ⟨dx, k, g, h1⟩, h2, h3, h4⟩ := h
  exact ⟨q, A, F, ⟨dx, k, g, by rw [upd_ne (fun z => by rw [z, hD] at h1; cases h1)]; exact h1⟩, rule_upd hD hi h3 h2, h3, h4⟩
abbrev sLaw : Stmt := top 94
theorem scLaw : FnScope ["_law_script", "_law_purposes", "_law_k", "_law_pile_here", "_law_told", "_law_one", "_law_more", "_law_other", "_law_name"] ["_law_script"] (defScope sLaw) := ⟨rfl, rfl, rfl, by decide +kernel, rfl, by decide +kernel, by decide +kernel⟩
def spLaw (K : PySem.W.Frag) : Sp := fun vs H Q _ => ∃ (a : Addr) (ns : List Int), vs = [.ref a] ∧ SqL K H a (ns.map V.int) ∧ ∀ H', Q (.bl true) H'
theorem pur_of {name least : Str} {R : List (List Nat)} {wo : List Nat} {A : List (List Nat)} {F : List Bool} {CP CM : Addr} {H : Hp} {x q : Addr} (h1 : (name, least) ∈ purTab) (h2 : (least, R, wo) ∈ rawTab ++ aloneTab) (hp : PurAt CP H x name q) (hr : RuleAt CM H q A F) (M : Made A F R.length (fun w => (flagsW R wo).getD (st R w) false) (key1 R)) : Pur1 CP CM H x name :=
  ⟨q, A, F, hp, hr, M.good, Nat.le_trans M.few (raw_ok _ h2).2, fun w hw => (M.lang w hw).trans (lN_eq h1 h2 w)⟩
section
variable {P : Program} {w : World} {K : PySem.W.Frag} {mg : Str → Option Value} {base : Heap} {CM CT CP : Addr}
theorem ok_law {f : Addr} {fd : FuncData} (F : Fun K "law" "law" sLaw f fd) (T : Tx K mg) (PM : PurM P w K mg base CP CM) (GN : Fx P w K mg base CX0 1 "_law_names" [] spNames) (GP : Fx P w K mg base CX0 1 "_law_pile" ["_law_script", "_law_k"] (spPile K)) (GR : Fx P w K mg base CX0 15 "_law_safer" ["_law_pile_here"] (spSafer CM))
    (GA : Fx P w K mg base CX0 9 "_law_alone" ["_law_purposes", "_law_rule"] (spAlone CP CM)) (GB : Fx P w K mg base CX0 9 "_law_pair" ["_law_purposes", "_law_one", "_law_other"] (spPair CP CM)) (GC : Fx P w K mg base CX0 1 "_law_chains" ["_law_safe_here"] spChains) (GS : Fx P w K mg base CX0 5 "_law_safe" ["_law_purposes", "_law_rule"] (spSafe CP CM)) :
    FnOk P w K mg base CX0 16 f fd ["_law_script"] (spLaw K) := by
  refine F.ok scLaw (fun vs H Q E h => ?_) (fun cdv A₀ outer s H vs Q E hr h => ?_)
  · obtain ⟨a, ns, rfl, _⟩ := h
    rfl
  · obtain ⟨a, ns, rfl, hS, k⟩ := h
    have nd := scLaw.nd
    obtain ⟨fN, fdN, hmN, hkN, hbN, FN⟩ := GN.ex
    obtain ⟨fP, fdP, MP, FP, hmP, bP⟩ := PM.ex
    have hr1 := hr.mono (by decide : 1 ≤ 15)
    have hr5 := hr.mono (by decide : 5 ≤ 15)
    have hr9 := hr.mono (by decide : 9 ≤ 15)
    have hr11 := hr.mono (by decide : 11 ≤ 15)
    refine ⟨_,
    (pss_cons (ps_setLc (i := 1) (own := [("_law_name", 8)]) rfl nd rfl rfl (sw_true rfl rfl rfl (by decide +kernel)) (pi_list (pe_call0 FN hr1 rfl hmN hkN hbN .nil pass0)) (blkOk_by (own := [("_law_name", 8)]) (N := ["_law_script", "_law_purposes", "_law_k", "_law_pile_here", "_law_told", "_law_one", "_law_more", "_law_other", "_law_name"]) (sc := defScope sLaw) (by decide +kernel)) (fun _ _ _ _ _ => (pg_name (i := 8) nd rfl (.inl rfl))) (fun _ _ _ _ _ => pts_nil) (fun _ _ _ _ _ => (pe_make MP FP hr11 rfl hmP bP .nil pass0 (pa_cons (pv 8) (pa_nil)))))
    (pss_cons (ps_for PassesOwn.never rfl (pi_range1 rfl T.range (pa_cons pe_int (pa_nil))) (pg_name (i := 2) nd rfl (.inl rfl)) 
      (pss_cons (ps_set (i := 3) nd rfl (.inl rfl) (pe_fx GP hr1 pass0 (pa_cons (pv 0) (pa_cons (pv 2) (pa_nil)))))
      (pss_cons (ps_asg (pe_fx GR hr pass0 (pa_cons (pv 3) (pa_nil))) (pg_tup rfl (pgs_cons (pg_name (i := 4) nd rfl (.inl rfl)) (pgs_cons (pg_name (i := 5) nd rfl (.inl rfl)) pgs_nil))))
      (pss_cons (ps_asg (pe_fx GR hr pass0 (pa_cons (pv 3) (pa_nil))) (pg_tup rfl (pgs_cons (pg_name (i := 6) nd rfl (.inl rfl)) (pgs_cons (pg_name (i := 7) nd rfl (.inl rfl)) pgs_nil))))
      (pss_cons (ps_if (PW.pt (pw_or (pt_not (pt_truth (pe_fx GA hr9 pass0 (pa_cons (pv 1) (pa_cons (pv 5) (pa_nil)))) (by intro _; rfl))) (pw_or1 (pt_not (pt_truth (pe_fx GB hr9 pass0 (pa_cons (pv 1) (pa_cons (pv 5) (pa_cons (pv 7) (pa_nil))))) (by intro _; rfl)))))) 
        (pss_one (ps_ret pe_bl)) pss_nil)
      (pss_cons (ps_if (PW.pt (pw_or (pt_not (pt_truth (pe_fx GB hr9 pass0 (pa_cons (pv 1) (pa_cons (pv 7) (pa_cons (pv 5) (pa_nil))))) (by intro _; rfl))) (pw_or1 (pt_not (pt_truth (pe_fx GC hr1 pass0 (pa_cons (pe_fx GS hr5 pass0 (pa_cons (pv 1) (pa_cons (pv 5) (pa_nil)))) (pa_nil))) (by intro _; rfl)))))) 
        (pss_one (ps_ret pe_bl)) pss_nil)
      (pss_one (ps_if (pt_not (pt_truth (pe_fx GC hr1 pass0 (pa_cons (pe_fx GS hr5 pass0 (pa_cons (pv 1) (pa_cons (pv 7) (pa_nil)))) (pa_nil))) (by intro _; rfl))) 
        (pss_one (ps_ret pe_bl)) pss_nil))))))))
    (pss_one (ps_ret pe_bl)))), ?_⟩
    refine ⟨rfl, fun H1 ln s1 hln => ⟨ln, rfl, ⟨_, SqL.of hln⟩, fun D hD => ?_⟩⟩
    refine lc_list (K := K) (a := ln) (xs := names12.map V.str) (PursUp CP CM H1 D) ⟨[], rfl, same_up1 hD, upd_same, fun j p e => by cases e⟩ (fun i H2 _ m => by obtain ⟨_, _, s2, _⟩ := m; exact SqL.of (s2 _ _ hln)) ?_ ?_
    · rintro i v H2 hi ⟨ps, hl, s2, hD2, hps⟩
      rw [List.getElem?_map] at hi
      obtain ⟨name, hn, rfl⟩ := Option.map_eq_some_iff.mp hi
      obtain ⟨e, he, rfl⟩ := List.mem_map.mp (List.mem_of_getElem? hn)
      obtain ⟨rr, hrr, er⟩ := inRaw e he
      obtain ⟨nm, least⟩ := e
      obtain ⟨rn, R, wo⟩ := rr
      have er : rn = least := er
      subst er
      refine ⟨rfl, tyesT ⟨_, rfl, fun x dx hx hdx ne => ?_⟩⟩
      refine ⟨H2, x, dx, nm, rn, R, wo, rfl, same_new (same_up1 hdx) (by rw [upd_ne ne.symm]; exact hx), hx, upd_same, he, hrr, fun H3 q A F' s3 h1 h2 M => ⟨rfl, ps.map V.ref, s3 _ _ hD2, ?_, ps ++ [x], by rw [List.length_append, hl] <;> rfl, same_upd (s2.trans s3) hD, ?_, ?_⟩⟩
      · have : i < 12 := (List.getElem?_eq_some_iff.mp hn).1
        rw [List.length_map, hl]
        exact Nat.lt_of_lt_of_le this (by show 12 ≤ sizeLine; decide)
      · rw [List.map_append]
        exact upd_same
      · have hp3 := pur_of he hrr h1 h2 M
        have hps3 : ∀ (j : Nat) (p : Addr), ps[j]? = some p → ∃ name : Str, names12[j]? = some name ∧ Pur1 CP CM H3 p name := fun j p e => let ⟨n, a1, a2⟩ := hps j p e; ⟨n, a1, a2.same s3⟩
        have hi3 : ∀ (j : Nat) (p : Addr), ps[j]? = some p → ∃ C dx fs, H3 p = some (.ins C dx fs) := fun j p e => by
          obtain ⟨n, _, q', _, _, ⟨dy, kk, gg, z⟩, _⟩ := hps3 j p e
          exact ⟨_, _, _, z⟩
        refine purs_snoc (fun j p e => let ⟨n, a1, a2⟩ := hps3 j p e; ⟨n, a1, pur_upd (s3 _ _ hD2) hi3 a2⟩) (by rw [hl]; exact hn) (pur_upd (s3 _ _ hD2) hi3 hp3)
    · rintro H2 ⟨ps, hl, s2, hD2, hps⟩
      have hpu : PursAt CP CM H2 D := ⟨ps, hD2, hl, hps⟩
      have hS2 : SqL K H2 a (ns.map V.int) := (s1.trans s2).seq hS
      refine ⟨8, rfl, by decide, by decide, for_range (lo := 0) (n := 8) (fun i σ' H' => ∃ v2 v3 v4 v5 v6 v7 v8 : Option V, σ' = [some (.ref a), some (.ref D), v2, v3, v4, v5, v6, v7, v8] ∧ Same H2 H') ⟨_, _, _, _, _, _, _, rfl, Same.refl _⟩ ?_ ?_⟩
      · rintro i σ' H3 hi ⟨v2, v3, v4, v5, v6, v7, v8, rfl, s3⟩
        refine ⟨_, rfl, _, rfl, a, ns, i, by rw [Int.zero_add] <;> rfl, s3.seq hS2, fun H4 p s4 hp0 hpile => ?_⟩
        have t4 := s3.trans s4
        refine ⟨_, rfl, p, rfl, hpile, fun H5 t x v A F' pl5 ht hrx gA aA => ?_⟩
        refine ⟨t, _, rfl, SqT.of ht, rfl, _, _, rfl, _, _, rfl, rfl, ?_⟩
        refine ⟨_, rfl, p, rfl, pl5.pile, fun H6 t' y v' B G pl6 ht' hry gB aB => ?_⟩
        refine ⟨t', _, rfl, SqT.of ht', rfl, _, _, rfl, _, _, rfl, rfl, ?_⟩
        have t6 : Same H2 H6 := s3.trans (Pl.fresh s4 hp0 (pl5.trans pl6))
        have hrx6 := hrx.pl pl5.pile pl6 gA
        have pu6 := hpu.same t6
        refine ⟨_, rfl, _, rfl, D, x, A, F', rfl, pu6, hrx6, gA, aA, fun H7 s7 => ⟨true, rfl, iteF ?_⟩⟩
        refine ⟨_, rfl, _, rfl, _, rfl, D, x, y, A, F', B, G, rfl, pu6.same s7, hrx6.same s7, hry.same s7, gA, gB, fun H8 s8 => ⟨true, rfl, iteF ?_⟩⟩
        have u8 := s7.trans s8
        refine ⟨_, rfl, _, rfl, _, rfl, D, y, x, B, G, A, F', rfl, pu6.same u8, hry.same u8, hrx6.same u8, gB, gA, fun H9 s9 => ⟨true, rfl, iteF ?_⟩⟩
        have u9 := u8.trans s9
        refine ⟨_, rfl, _, rfl, D, x, A, F', rfl, pu6.same u9, hrx6.same u9, gA, fun H10 l10 s10 hl10 => ?_⟩
        refine ⟨l10, A, F', rfl, hl10, fun H11 s11 => ⟨true, rfl, iteF ?_⟩⟩
        have u11 := (u9.trans s10).trans s11
        refine ⟨_, rfl, _, rfl, D, y, B, G, rfl, pu6.same u11, hry.same u11, gB, fun H12 l12 s12 hl12 => ?_⟩
        refine ⟨l12, B, G, rfl, hl12, fun H13 s13 => ⟨true, rfl, iteF ?_⟩⟩
        exact ⟨_, _, _, _, _, _, _, rfl, t6.trans ((u11.trans s12).trans s13)⟩
      · rintro σ' H3 ⟨v2, v3, v4, v5, v6, v7, v8, rfl, s3⟩
        exact k _
end
end SR

/-! ### HookY -/
set_option maxHeartbeats 2000000
namespace HY
open PySem PySem.Spec PyProof.Rows L2
/-- an object's outer parts, looked at once -/
def frcO {α : Sort _} (o : Obj) (k : Obj → α) : α := match o with
  | ⟨c, d, dt, sl⟩ => (match dt with
    | .dict es n => k ⟨c, d, .dict es n, sl⟩
    | .seq es n => k ⟨c, d, .seq es n, sl⟩
    | dt => k ⟨c, d, dt, sl⟩)
theorem frcO_eq {α : Sort _} (o : Obj) (k : Obj → α) : frcO o k = k o := by
  obtain ⟨c, d, dt, sl⟩ := o
  cases dt <;> rfl
/-- the objects at so many addresses, one after the other -/
def frcK {α : Type} (g : Addr → Option Obj) : List Addr → PySem.W.Frag → (PySem.W.Frag → α) → α
  | [], K, k => k K
  | a :: r, K, k => match g a with
    | some o => frcO o fun o => frcK g r ((a, o) :: K) k
    | none => frcK g r K k
def lstK (g : Addr → Option Obj) : List Addr → PySem.W.Frag → PySem.W.Frag
  | [], K => K
  | a :: r, K => match g a with
    | some o => lstK g r ((a, o) :: K)
    | none => lstK g r K
theorem frcK_eq {α : Type} (g : Addr → Option Obj) (k : PySem.W.Frag → α) : ∀ (as : List Addr) (K : PySem.W.Frag), frcK g as K k = k (lstK g as K)
  | [], K => rfl
  | a :: r, K => by
    unfold frcK lstK
    cases g a with
    | none => exact frcK_eq g k r K
    | some o =>
      show (frcO o fun o => frcK g r ((a, o) :: K) k) = _
      rw [frcO_eq]
      exact frcK_eq g k r ((a, o) :: K)
theorem lstK_in {h : Heap} : ∀ (as : List Addr) (K : PySem.W.Frag), K.In h → (lstK h.get? as K).In h
  | [], K, i => i
  | a :: r, K, i => by
    unfold lstK
    cases e : h.get? a with
    | none => exact lstK_in r K i
    | some o =>
      refine lstK_in r _ fun b u z => ?_
      have z2 : (match b == a with | true => some o | false => K.lookup b) = some u := z
      cases q : (b == a) with
      | true =>
        rw [q] at z2
        rw [beq_iff_eq.mp q, e, Option.some.inj z2]
      | false =>
        rw [q] at z2
        exact i b u z2
abbrev AlY : Type := He.AlT × Bool
def obsY (as : List Addr) (fa : List He.Fa) (fn : List He.DefD) (ts : List He.Tab) (ex : PySem.W.Frag → Bool) (g : Addr → Option Obj) : AlY := frcK g as [] fun K => (He.obsT fa fn ts K, ex K)
def valY (fn : List He.DefD) (ts : List He.Tab) (w : World) : AlY := (He.valT fn ts w, true)
structure SaysY (fa : List He.Fa) (fn : List He.DefD) (ts : List He.Tab) (ex : PySem.W.Frag → Bool) (w : World) (K : PySem.W.Frag) : Prop where
  t : He.SaysT fa fn ts w K
  more : ex K = true
def hookY (as : List Addr) (fa : List He.Fa) (fn : List He.DefD) (ts : List He.Tab) (ex : PySem.W.Frag → Bool) : PySem.W.Hook where
  α := AlY
  obs := fun s => obsY as fa fn ts ex s.heap.get?
  val := fun w => valY fn ts w
  says := fun w h => ∃ K : PySem.W.Frag, K.In h ∧ SaysY fa fn ts ex w K
  of := fun w s e => by
    have e1 : (He.obsT fa fn ts (lstK s.heap.get? as []), ex (lstK s.heap.get? as [])) = valY fn ts w := (frcK_eq s.heap.get? (fun K => (He.obsT fa fn ts K, ex K)) as []).symm.trans e
    exact ⟨_, lstK_in as [] (fun _ _ z => nomatch z), congrArg (fun z : AlY => z.1) e1, congrArg (fun z : AlY => z.2) e1⟩
  keeps := fun _ _ _ ⟨K, hK, c⟩ k => ⟨K, PySem.W.Frag.In.keeps hK k, c⟩
theorem obsY_eq {as : List Addr} {fa : List He.Fa} {fn : List He.DefD} {ts : List He.Tab} {ex : PySem.W.Frag → Bool} {g : Addr → Option Obj} {s : Shared} (h : ∀ a, g a = s.heap.get? a) : obsY as fa fn ts ex g = (hookY as fa fn ts ex).obs s := by
  have e : g = s.heap.get? := funext h
  rw [e] <;> rfl
end HY

/-! ### HZ -/
set_option maxHeartbeats 2000000
namespace HZ
open PySem PySem.Spec PyProof.Rows L2
/-! ## defs found by paths of one's own -/
structure DX where
  ad : PySem.W.Frag → Addr
  name : Str
  qual : Str
  params : Arguments
  body : List Stmt
  scope : Scope
  kwd : List (Str × V) := []
def fnA (K : PySem.W.Frag) (a : Addr) : He.FnW := match K.lookup a with
  | some ⟨_, _, .func fd, _⟩ => some (fd.name, fd.qualname, fd.params, fd.body, fd.scope, fd.globals, fd.closure, fd.builtins)
  | _ => none
def DX.val (d : DX) : He.FnW := some (d.name, d.qual, d.params, .stmts d.body, d.scope, mainGlobals, [], builtinsNs)
def DX.ok (K : PySem.W.Frag) (d : DX) : Bool := PySem.W.keepIn K (.ref (d.ad K)) && (match K.lookup (d.ad K) with
  | some ⟨_, _, .func fd, _⟩ => PySem.W.codeIn K fd.code d.qual && (He.dflB K fd.defaults [] && He.kwdB K fd.kwdefaults d.kwd)
  | _ => false)
theorem DX.funD {K : PySem.W.Frag} {d : DX} (e : fnA K (d.ad K) = d.val) (c : d.ok K = true) : ∃ fd, FunD K d.name d.qual d.params d.body d.scope [] d.kwd (d.ad K) fd := by
  obtain ⟨kp, c2⟩ := He.ba c
  unfold fnA at e
  cases q : K.lookup (d.ad K) with
  | none =>
    rw [q] at c2
    cases c2
  | some o =>
    obtain ⟨oc, od, dt, osl⟩ := o
    rw [q] at c2 e
    cases dt with
    | func fd =>
      obtain ⟨n1, n2, n3, n4, n5, n6, n7, n8, n9, n10, n11, n12, n13, n14, n15⟩ := fd
      have e2 : (some (n1, n2, n3, n4, n5, n6, n7, n15) : He.FnW) = some (d.name, d.qual, d.params, .stmts d.body, d.scope, mainGlobals, [], builtinsNs) := e
      simp only [Option.some.injEq, Prod.mk.injEq] at e2
      obtain ⟨h1, h2, h3, h4, h5, h6, h7, h8⟩ := e2
      subst h1 h2 h3 h4 h5 h6 h7 h8
      obtain ⟨k1, k2⟩ := He.ba (show (PySem.W.codeIn K n13 d.qual && (He.dflB K n8 [] && He.kwdB K n9 d.kwd)) = true from c2)
      obtain ⟨k3, k4⟩ := He.ba k2
      exact ⟨_, ⟨oc, od, n8, n9, n10, n11, n12, n13, n14, osl, rfl, q, k1, He.dflB_ok k3, He.kwdB_ok k4⟩, kp⟩
    | _ => cases c2
/-! ## the hook -/
abbrev Al : Type := List He.FnW × List (Option (List (Option (Str × Int)))) × Bool
def obsK (dx : List DX) (ts : List He.Tab) (ex : PySem.W.Frag → List Bool) (K : PySem.W.Frag) : Al := (dx.map fun d => fnA K (d.ad K), ts.map fun t => He.dicW K (t.1 K), (dx.all fun d => d.ok K) && (ex K).all id)
def obsZ (as : List Addr) (dx : List DX) (ts : List He.Tab) (ex : PySem.W.Frag → List Bool) (g : Addr → Option Obj) : Al := HY.frcK g as [] fun K => obsK dx ts ex K
def valZ (dx : List DX) (ts : List He.Tab) (w : World) : Al := (dx.map DX.val, ts.map fun t => some (He.keysIn w.params t.2), true)
def Says (dx : List DX) (ts : List He.Tab) (ex : PySem.W.Frag → List Bool) (w : World) (K : PySem.W.Frag) : Prop := obsK dx ts ex K = valZ dx ts w
def hookZ (as : List Addr) (dx : List DX) (ts : List He.Tab) (ex : PySem.W.Frag → List Bool) : PySem.W.Hook where
  α := Al
  obs := fun s => obsZ as dx ts ex s.heap.get?
  val := fun w => valZ dx ts w
  says := fun w h => ∃ K : PySem.W.Frag, K.In h ∧ Says dx ts ex w K
  of := fun w s e => ⟨_, HY.lstK_in as [] (fun _ _ z => nomatch z), (HY.frcK_eq s.heap.get? (fun K => obsK dx ts ex K) as []).symm.trans e⟩
  keeps := fun _ _ _ ⟨K, hK, c⟩ k => ⟨K, PySem.W.Frag.In.keeps hK k, c⟩
theorem obsZ_eq {as : List Addr} {dx : List DX} {ts : List He.Tab} {ex : PySem.W.Frag → List Bool} {g : Addr → Option Obj} {s : Shared} (h : ∀ a, g a = s.heap.get? a) : obsZ as dx ts ex g = (hookZ as dx ts ex).obs s := by
  have e : g = s.heap.get? := funext h
  rw [e] <;> rfl
section
variable {dx : List DX} {ts : List He.Tab} {ex : PySem.W.Frag → List Bool} {w : World} {K : PySem.W.Frag}
theorem Says.bools (c : Says dx ts ex w K) : (dx.all fun d => d.ok K) = true ∧ (ex K).all id = true := He.ba (congrArg (fun z : Al => z.2.2) c)
theorem Says.def_ (c : Says dx ts ex w K) (i : Nat) {d : DX} (h : dx[i]? = some d := by rfl) : ∃ fd, FunD K d.name d.qual d.params d.body d.scope [] d.kwd (d.ad K) fd := by
  have e : dx.map (fun d => fnA K (d.ad K)) = dx.map DX.val := congrArg (fun z : Al => z.1) c
  have e2 : (dx.map fun d => fnA K (d.ad K))[i]? = (dx.map DX.val)[i]? := by rw [e]
  rw [List.getElem?_map, List.getElem?_map, h] at e2
  exact DX.funD (Option.some.inj e2) (List.all_eq_true.mp c.bools.1 d (List.mem_of_getElem? h))
theorem Says.tab (c : Says dx ts ex w K) (i : Nat) {t : He.Tab} (h : ts[i]? = some t := by rfl) : ∃ es n, KDict K w (t.1 K) es n := by
  have e : ts.map (fun t => He.dicW K (t.1 K)) = ts.map fun t => some (He.keysIn w.params t.2) := congrArg (fun z : Al => z.2.1) c
  have e2 : (ts.map fun t => He.dicW K (t.1 K))[i]? = (ts.map fun t => some (He.keysIn w.params t.2))[i]? := by rw [e]
  rw [List.getElem?_map, List.getElem?_map, h] at e2
  exact He.dicW_ok (Option.some.inj e2)
theorem Says.fact (c : Says dx ts ex w K) (i : Nat) {b : Bool} (h : (ex K)[i]? = some b := by rfl) : b = true := List.all_eq_true.mp c.bools.2 b (List.mem_of_getElem? h)
end
/-! ## facts by Bools -/
/-- what a record at a names first -/
def recA (K : PySem.W.Frag) (p : Addr) (T : String) : Addr := match PySem.W.recIn K p T with
  | some (.ref g :: _) => g
  | _ => 0
def recB (K : PySem.W.Frag) (p : Addr) (T : String) : Bool := match PySem.W.recIn K p T with
  | some (.ref _ :: _) => true
  | _ => false
theorem recB_ok {K : PySem.W.Frag} {p : Addr} {T : String} (h : recB K p T = true) : ∃ rest, PySem.W.recIn K p T = some (.ref (recA K p T) :: rest) := by
  unfold recB at h
  unfold recA
  cases e : PySem.W.recIn K p T with
  | none => rw [e] at h; cases h
  | some vs =>
    rw [e] at h
    match vs, h with
    | .ref g :: r, _ => exact ⟨r, rfl⟩
def tupA (K : PySem.W.Frag) (a : Addr) (vs : List V) : Bool := match K.lookup a with
  | some ⟨.type c, _, .seq its _, _⟩ => decide (c = "tuple") && (decide (its.size ≤ sizeLine) && He.relAll vs its.toList)
  | _ => false
theorem tupA_ok {K : PySem.W.Frag} {a : Addr} {vs : List V} (h : tupA K a vs = true) (H : Hp) : SqT K H a vs := by
  unfold tupA at h
  cases q : K.lookup a with
  | none =>
    rw [q] at h
    cases h
  | some o =>
    obtain ⟨oc, od, dt, osl⟩ := o
    rw [q] at h
    cases oc with
    | type c =>
      cases dt with
      | seq its n =>
        obtain ⟨h1, h2⟩ := He.ba (show (decide (c = "tuple") && (decide (its.size ≤ sizeLine) && He.relAll vs its.toList)) = true from h)
        obtain ⟨h3, h4⟩ := He.ba h2
        exact .inr ⟨_, its, n, q, congrArg Value.type (of_decide_eq_true h1), rfl, of_decide_eq_true h3, He.relAll_ok h4⟩
      | _ => cases h
    | _ => cases dt <;> cases h
/-- the objects that a tuple at a names -/
def refsA (K : PySem.W.Frag) (a : Addr) : List Addr := match K.lookup a with
  | some ⟨_, _, .seq its _, _⟩ => its.toList.map fun v => match v with
    | .ref b => b
    | _ => 0
  | _ => []
/-- a table's value, an object -/
def nsA (K : PySem.W.Frag) (d : Addr) (x : Str) : Addr := match PySem.W.nsIn K d x with
  | some (some (.ref a)) => a
  | _ => 0
/-- the class is an exception of ValueError's -/
def oexB (K : PySem.W.Frag) (C : Addr) : Bool := match K.lookup C with
  | some ⟨.type "type", _, .cls cd, sl⟩ => (match cd.mro, sl.toList with
    | .ref C' :: bm, [_, _, _, _, some (.builtin n), _] => C' == C && (n == "ValueError.__new__" && (!cd.hasDel && (cd.hasDict && PySem.HandSPX.refsVE bm)))
    | _, _ => false)
  | _ => false
theorem oexB_ok {K : PySem.W.Frag} {C : Addr} (q : oexB K C = true) : ∃ nm q N bs bm sn sub ab col dd k0 k1 k2 k3 k5, K.lookup C = some (excClassObj nm q C N bs bm true sn sub ab col dd k0 k1 k2 k3 k5 "ValueError.__new__") ∧ PySem.HandSPX.refsVE bm = true := by
  unfold oexB at q
  split at q
  · rename_i dd cd sl ho
    split at q
    · rename_i C' bm k0 k1 k2 k3 n k5 hm hs
      obtain ⟨q1, q⟩ := He.ba q
      obtain ⟨q2, q⟩ := He.ba q
      obtain ⟨q3, q⟩ := He.ba q
      obtain ⟨q4, q5⟩ := He.ba q
      obtain ⟨nm, bs, mro, ns, qn, hd, sn, sub, ab, col, del⟩ := cd
      dsimp only at hm q3 q4
      subst hm q4
      cases beq_iff_eq.mp q1
      cases beq_iff_eq.mp q2
      have hdel : del = false := by
        cases del with
        | false => rfl
        | true => cases q3
      subst hdel
      have hsl : sl = #[k0, k1, k2, k3, some (.builtin "ValueError.__new__"), k5] := by
        obtain ⟨l⟩ := sl
        simp only at hs
        rw [hs]
      subst hsl
      exact ⟨nm, qn, ns, bs, bm, sn, sub, ab, col, dd, k0, k1, k2, k3, k5, ho, q5⟩
    · cases q
  · cases q
/-- what C.m gives of a class -/
def clsB (K : PySem.W.Frag) (C : Addr) (m : Str) (kind : String) : Bool := match PySem.W.findCls K (.ref C) (.type "type") m with
  | some (.get (.builtin g) (.ref p) .none (.ref C')) => decide (g = kind) && (decide (p = He.ma K C m) && decide (C' = C))
  | _ => false
theorem clsB_ok {K : PySem.W.Frag} {C : Addr} {m : Str} {kind : String} (h : clsB K C m kind = true) : PySem.W.findCls K (.ref C) (.type "type") m = some (.get (.builtin kind) (.ref (He.ma K C m)) .none (.ref C)) := by
  unfold clsB at h
  split at h
  · rename_i g p C' e
    obtain ⟨h1, h2⟩ := He.ba h
    obtain ⟨h3, h4⟩ := He.ba h2
    rw [e, of_decide_eq_true h1, of_decide_eq_true h3, of_decide_eq_true h4]
  · cases h
def clvB (K : PySem.W.Frag) (C : Addr) (m : Str) (b : String) : Bool := match PySem.W.findCls K (.ref C) (.type "type") m with
  | some (.val (.builtin g)) => decide (g = b)
  | _ => false
theorem clvB_ok {K : PySem.W.Frag} {C : Addr} {m : Str} {b : String} (h : clvB K C m b = true) : PySem.W.findCls K (.ref C) (.type "type") m = some (.val (.builtin b)) := by
  unfold clvB at h
  split at h
  · rename_i g e
    rw [e, of_decide_eq_true h]
  · cases h
/-- a tuple of so many objects, none else -/
def pairA (K : PySem.W.Frag) (a : Addr) (n : Nat) : Bool := match K.lookup a with
  | some ⟨.type c, none, .seq its _, _⟩ => decide (c = "tuple") && decide (its.toList = (refsA K a).map Value.ref) && decide ((refsA K a).length = n)
  | _ => false
end HZ

/-! ### SR44 -/
set_option maxHeartbeats 4000000
namespace SR
open PySem PySem.Spec PyProof.Rows L2 SRR SRN SRZ
abbrev Cga (K : PySem.W.Frag) (x : Str) : Addr := He.ga K x
def xGl (x : Str) (st : Stmt) : HZ.DX := ⟨fun K => He.ga K x, x, x, defArgs st, defBody st, defScope st, []⟩
def xMt (C m qual : Str) (st : Stmt) : HZ.DX := ⟨fun K => He.ma K (He.ga K C) m, m, qual, defArgs st, defBody st, defScope st, []⟩
def xRc (C m qual : Str) (kind : String) (st : Stmt) (kwd : List (Str × V)) : HZ.DX := ⟨fun K => HZ.recA K (He.ma K (He.ga K C) m) kind, m, qual, defArgs st, defBody st, defScope st, kwd⟩
def dxs : List HZ.DX := [
  xGl "reached" sReached,
  xGl "classes_of" sClassesOf,
  xGl "least_machine" sLeast,
  xGl "mirrored" sMirrored,
  xGl "letter_of" sLetterOf,
  xGl "three_behind" sThreeBehind,
  xGl "three_sets" sThreeSets,
  xGl "sets_of" sSetsOf,
  xGl "unlayered" sUnlayered,
  xGl "both_read" sBothRead,
  xGl "kept_until" sKeptUntil,
  xGl "kept_every" sKeptEvery,
  xGl "by_turns" sByTurns,
  xGl "tied_then" sTiedThen,
  xGl "is_whole" sIsWhole,
  xGl "checked_between" sChecked,
  xGl "counting" sCounting,
  xGl "contained" sContained,
  xGl "shown_unlayered" sShown,
  xGl "least_rule" sLeastRule,
  xGl "_law_mixed" sMixed,
  xGl "_law_pile" sPile,
  xGl "_law_take" sTake,
  xGl "_law_plain" sPlain,
  xGl "_law_expr" sExpr,
  xGl "_law_built" sBuilt,
  xGl "_law_made" sMade,
  xGl "_law_drawn" sDrawn,
  xGl "_law_safer" sSafer,
  xGl "_law_names" sNames,
  xGl "_law_safe" sSafe,
  xGl "_law_alone" sAlone,
  xGl "_law_pair" sPair,
  xGl "_law_chains" sChains,
  xGl "law" sLaw,
  xMt "TooMany" "__init__" "TooMany.__init__" sTmI,
  xMt "MadeRule" "__init__" "MadeRule.__init__" sMkI,
  xMt "MadeRule" "__contains__" "Rule.__contains__" sContains,
  xMt "MadeRule" "__and__" "Rule.__and__" sAnd,
  xMt "MadeRule" "__rshift__" "Rule.__rshift__" sShift,
  xMt "MadeRule" "__invert__" "Rule.__invert__" sInv,
  xMt "MadeRule" "is_layered" "Rule.is_layered" sIsL,
  xMt "MadeRule" "until" "Rule.until" sUntil,
  xMt "MadeRule" "every" "Rule.every" sEvery,
  xMt "MadeRule" "turns" "Rule.turns" sTurns,
  xMt "Purpose" "__init__" "Purpose.__init__" sPInit,
  xMt "Purpose" "least" "Purpose.least" sPLeast,
  xMt "Purpose" "__contains__" "Purpose.__contains__" sPIn,
  xRc "MadeRule" "states" "Rule.states" "property" sStates [],
  xRc "Rule" "named" "Rule.named" "staticmethod" sNamed [(("bound" : Str), V.non)],
  xRc "Purpose" "called" "Purpose.called" "property" sCalled [],
  xRc "Purpose" "names" "Purpose.names" "classmethod" sPNames []]
def glo1 : List Str := ["reached", "classes_of", "least_machine", "mirrored", "letter_of", "three_behind", "three_sets", "sets_of", "unlayered", "both_read", "kept_until", "kept_every", "by_turns", "tied_then", "is_whole", "checked_between", "counting", "contained", "shown_unlayered", "least_rule"]
def glo2 : List Str := ["_law_mixed", "_law_pile", "_law_take", "_law_plain", "_law_expr", "_law_built", "_law_made", "_law_drawn", "_law_safer", "_law_names", "_law_safe", "_law_alone", "_law_pair", "_law_chains", "law", "TooMany", "SearchError", "Rule", "MadeRule", "Purpose", "MIRRORED", "NAMED", "NAMES", "PURPOSES", "ALONE"]
def gloL : List Str := glo1 ++ glo2
def freeL : List Str := ["len", "range", "tuple", "int", "bool", "list", "set", "zip", "enumerate", "min", "abs", "any", "sorted", "isinstance", "str", "dict"]
def rowsB (K : PySem.W.Frag) (a : Addr) (rows : List (List Nat)) : Bool := HZ.tupA K a ((HZ.refsA K a).map V.ref) && (decide ((HZ.refsA K a).length = rows.length) && (((HZ.refsA K a).zip rows).all fun q => HZ.tupA K q.1 (q.2.map nv)))
theorem rowsB_ok {K : PySem.W.Frag} {a : Addr} {rows : List (List Nat)} (h : rowsB K a rows = true) (H : Hp) : RowsAt K H a rows := by
  obtain ⟨h1, h2⟩ := He.ba h
  obtain ⟨h3, h4⟩ := He.ba h2
  refine ⟨HZ.refsA K a, .inr (HZ.tupA_ok h1 H), of_decide_eq_true h3, fun i t r ht hr => HZ.tupA_ok (List.all_eq_true.mp h4 (t, r) ?_) H⟩
  exact List.mem_of_getElem? (i := i) (by rw [List.getElem?_zip_eq_some]; exact ⟨ht, hr⟩)
def entB (K : PySem.W.Frag) (d : Addr) (e : RawE) : Bool := He.eqO (PySem.W.nsIn K d e.1) (some (some (.ref (HZ.nsA K d e.1)))) && (HZ.tupA K (HZ.nsA K d e.1) [.ref ((HZ.refsA K (HZ.nsA K d e.1)).getD 0 0), .ref ((HZ.refsA K (HZ.nsA K d e.1)).getD 1 0)] &&
  (rowsB K ((HZ.refsA K (HZ.nsA K d e.1)).getD 0 0) e.2.1 && HZ.tupA K ((HZ.refsA K (HZ.nsA K d e.1)).getD 1 0) (e.2.2.map nv)))
theorem entB_ok {K : PySem.W.Frag} {d : Addr} {e : RawE} (h : entB K d e = true) : ∃ t tr tw : Addr, PySem.W.nsIn K d e.1 = some (some (.ref t)) ∧ (∀ H, SqT K H t [.ref tr, .ref tw]) ∧ (∀ H, RowsAt K H tr e.2.1) ∧ ∀ H, SqT K H tw (e.2.2.map nv) := by
  obtain ⟨h1, h⟩ := He.ba h
  obtain ⟨h2, h⟩ := He.ba h
  obtain ⟨h3, h4⟩ := He.ba h
  exact ⟨_, _, _, He.eqO_ok h1, HZ.tupA_ok h2, rowsB_ok h3, HZ.tupA_ok h4⟩
def prsB (K : PySem.W.Frag) : List Addr → List (Key × V) → Bool
  | [], [] => true
  | p :: ps, kv :: kvs => HZ.tupA K p [kV kv.1, kv.2] && prsB K ps kvs
  | _, _ => false
theorem prsB_ok {K : PySem.W.Frag} (H : Hp) : ∀ {ps : List Addr} {kvs : List (Key × V)}, prsB K ps kvs = true → Paired (fun p (kv : Key × V) => SqT K H p [kV kv.1, kv.2]) ps kvs
  | [], [], _ => .nil
  | p :: ps, kv :: kvs, h => by
    obtain ⟨h1, h2⟩ := He.ba (show (HZ.tupA K p [kV kv.1, kv.2] && prsB K ps kvs) = true from h)
    exact .cons (HZ.tupA_ok h1 H) (prsB_ok H h2)
  | [], _ :: _, h => by cases h
  | _ :: _, [], h => by cases h
theorem pairA_ok {K : PySem.W.Frag} {a : Addr} {n : Nat} (h : HZ.pairA K a n = true) : ∃ (o : Obj) (m : Nat), K.lookup a = some o ∧ o.cls = .type "tuple" ∧ o.dict = none ∧ o.data = .seq ((HZ.refsA K a).map Value.ref).toArray m ∧ (HZ.refsA K a).length = n := by
  unfold HZ.pairA at h
  split at h
  · rename_i c its m sl q
    obtain ⟨h1, h2⟩ := He.ba h
    obtain ⟨h3, h4⟩ := He.ba h1
    exact ⟨_, m, q, congrArg Value.type (of_decide_eq_true h3), rfl, by rw [← of_decide_eq_true h4], of_decide_eq_true h2⟩
  · cases h
def creadB (K : PySem.W.Frag) (C : Addr) : Bool := PySem.W.readsIn K C (.type "type") && He.eqO (PySem.W.specialIn K (.ref C) "__getattribute__") (some (some (.builtin "type.__getattribute__")))
theorem creadB_ok {K : PySem.W.Frag} {C : Addr} (h : creadB K C = true) : ClX.CRead K C (.type "type") := ⟨(He.ba h).1, He.eqO_ok (He.ba h).2⟩
def propB (K : PySem.W.Frag) (C : Addr) (m : Str) : Bool := He.eqO (PySem.W.findIn K (.ref C) m) (some (some (.ref (He.ma K C m)))) && (He.eqO (PySem.W.specialIn K (.ref (He.ma K C m)) "__get__") (some (some (.builtin "property.__get__"))) &&
  (decide (PySem.W.takesIn K (.ref (He.ma K C m)) = some true) && HZ.recB K (He.ma K C m) "property"))
theorem propB_ok {K : PySem.W.Frag} {C : Addr} {m : Str} (h : propB K C m = true) : PropOf K C m (He.ma K C m) (HZ.recA K (He.ma K C m) "property") := by
  obtain ⟨h1, h⟩ := He.ba h
  obtain ⟨h2, h⟩ := He.ba h
  obtain ⟨h3, h4⟩ := He.ba h
  exact ⟨He.eqO_ok h1, He.eqO_ok h2, of_decide_eq_true h3, HZ.recB_ok h4⟩
def opmB (K : PySem.W.Frag) (C : Addr) (m : Str) : Bool := He.eqO (PySem.W.findIn K (.ref C) m) (some (some (.ref (He.ma K C m)))) && PySem.W.isFn K (.ref (He.ma K C m))
theorem opmB_ok {K : PySem.W.Frag} {C : Addr} {m : Str} (h : opmB K C m = true) : OpM K C m (He.ma K C m) := ⟨He.eqO_ok (He.ba h).1, (He.ba h).2⟩
def exB (K : PySem.W.Frag) : List Bool := [
  gloL.all fun x => (He.Fa.glo x).ok K,
  freeL.all fun x => (He.Fa.free x).ok K,
  (He.Fa.int "MOST_STATES" 100).ok K,
  (He.Fa.int "MOST_LAYERED" 16).ok K,
  (He.Fa.int "MOST_UNTIL" 30).ok K,
  (He.Fa.int "MOST_DIVISOR" 6).ok K,
  (He.Fa.int "MOST_BOUND" 3).ok K,
  HZ.tupA K (He.ga K "MIRRORED") [nv 0, nv 2, nv 1, nv 3],
  creadB K (He.ga K "SearchError"),
  HZ.clvB K (He.ga K "SearchError") "__init__" "ValueError.__init__",
  HZ.oexB K (He.ga K "TooMany"),
  He.eqO (PySem.W.findIn K (.ref (He.ga K "TooMany")) "__setattr__") (some (some (.builtin "object.__setattr__"))),
  decide (PySem.W.subIn K (.ref (He.ga K "TooMany")) (.type "BaseException") = some true),
  decide (PySem.W.typeIn K (.ref (He.ga K "TooMany")) = some (.type "type")),
  PySem.W.keepIn K (.ref (He.ga K "TooMany")),
  He.eqO (PySem.W.findIn K (.ref (He.ga K "TooMany")) "limit") (some none),
  He.eqO (PySem.W.findIn K (.ref (He.ga K "TooMany")) "__init__") (some (some (.ref (He.ma K (He.ga K "TooMany") "__init__")))),
  decide (PySem.W.typeIn K (.ref (He.ma K (He.ga K "TooMany") "__init__")) = some (.type "function")),
  (He.Fa.exm "TooMany" "TooMany" true).ok K,
  (He.Fa.cls "MadeRule").ok K,
  (He.Fa.noat "MadeRule" "row_list").ok K,
  (He.Fa.noat "MadeRule" "flags").ok K,
  decide (PySem.W.kitOne K (.ref (He.ga K "MadeRule")) (.ref (He.ga K "Rule")) = some true),
  He.eqO (PySem.W.findIn K (.ref (He.ga K "MadeRule")) "__class__") (some (some (.builtin "object.__class__"))),
  He.eqO (PySem.W.specialIn K (.builtin "object.__class__") "__get__") (some (some (.builtin "getset_descriptor.__get__"))),
  decide (PySem.W.takesIn K (.builtin "object.__class__") = some true),
  decide (PySem.W.mroIn K (He.ga K "MadeRule") (.type "object") = some true),
  (He.Fa.cls "Purpose").ok K,
  (He.Fa.noat "Purpose" "written").ok K,
  (He.Fa.noat "Purpose" "kind").ok K,
  (He.Fa.noat "Purpose" "graphs").ok K,
  (He.Fa.noat "Purpose" "least_kept").ok K,
  rawTab.all (entB K (He.ga K "NAMED")),
  rawTab.all fun e => He.eqO (PySem.W.nsIn K (He.ga K "ALONE") e.1) (some none),
  aloneTab.all (entB K (He.ga K "ALONE")),
  HZ.tupA K (He.ga K "NAMES") (namesL.map V.str),
  HZ.pairA K (He.ga K "PURPOSES") 12,
  HZ.tupA K (He.ga K "PURPOSES") ((HZ.refsA K (He.ga K "PURPOSES")).map V.ref),
  prsB K (HZ.refsA K (He.ga K "PURPOSES")) purKv,
  (He.Fa.mkr "MadeRule").ok K,
  (He.Fa.mkr "Purpose").ok K,
  PySem.W.selfFirst K (He.ga K "MadeRule"),
  opmB K (He.ga K "MadeRule") "__and__",
  opmB K (He.ga K "MadeRule") "__rshift__",
  opmB K (He.ga K "MadeRule") "__invert__",
  opmB K (He.ga K "MadeRule") "__contains__",
  (He.Fa.meth "MadeRule" "turns").ok K,
  (He.Fa.meth "MadeRule" "until").ok K,
  (He.Fa.meth "MadeRule" "every").ok K,
  (He.Fa.meth "MadeRule" "is_layered").ok K,
  creadB K (He.ga K "Rule"),
  HZ.clsB K (He.ga K "Rule") "named" "staticmethod.__get__",
  HZ.recB K (He.ma K (He.ga K "Rule") "named") "staticmethod",
  PySem.W.keepIn K (.ref (HZ.recA K (He.ma K (He.ga K "Rule") "named") "staticmethod")),
  propB K (He.ga K "MadeRule") "states",
  creadB K (He.ga K "Purpose"),
  HZ.clsB K (He.ga K "Purpose") "names" "classmethod.__get__",
  HZ.recB K (He.ma K (He.ga K "Purpose") "names") "classmethod",
  PySem.W.fnIn K (HZ.recA K (He.ma K (He.ga K "Purpose") "names") "classmethod"),
  propB K (He.ga K "Purpose") "called",
  (He.Fa.meth "Purpose" "least").ok K,
  opmB K (He.ga K "Purpose") "__contains__"]
def tbs : List He.Tab := [(fun K => He.ga K "NAMED", rawTab.map (·.1)), (fun K => He.ga K "ALONE", aloneTab.map (·.1))]
section
variable {P : Program} {w : World} {K : PySem.W.Frag} {h : Heap} {mg : Str → Option Value}
theorem gx (X : K.In h) (G : h.Ns mainGlobals mg) (c : HZ.Says dxs tbs exB w K) (x : Str) (hx : x ∈ gloL := by decide) : mg x = some (.ref (He.ga K x)) :=
  He.glo_ok X G (List.all_eq_true.mp (c.fact 0 (b := gloL.all fun x => (He.Fa.glo x).ok K)) x hx)
theorem fx_ (X : K.In h) (G : h.Ns mainGlobals mg) (c : HZ.Says dxs tbs exB w K) (x : Str) (hx : x ∈ freeL := by decide) : mg x = none :=
  He.free_ok X G (List.all_eq_true.mp (c.fact 1 (b := freeL.all fun x => (He.Fa.free x).ok K)) x hx)
theorem fun_of {x qual : Str} {st : Stmt} {f : Addr} {fd : FuncData} (F : FunD K x qual (defArgs st) (defBody st) (defScope st) [] [] f fd) : Fun K x qual st f fd := by
  obtain ⟨oc, od, dV, kV, doc, pm, an, cdv, ct, osl, rfl, lk, hcd, hD, hK⟩ := F.ex
  rcases hD with ⟨_, rfl⟩ | ⟨e, _⟩
  · exact ⟨⟨oc, od, kV, doc, pm, an, cdv, ct, osl, rfl, lk, hcd⟩, F.kp⟩
  · exact absurd rfl e
theorem fn_false {base : Heap} {CX : CXT} {k : Nat} {f : Addr} {fd : FuncData} {ps : List Str} : FnOk P w K mg base CX k f fd ps (fun _ _ _ _ => False) := ⟨fun _ _ _ _ z => z.elim, fun _ _ _ _ _ _ _ _ _ _ _ _ _ z => z.elim⟩
theorem i_ok {mg : Str → Option Value} {x : Str} {i : Int} (h : ∃ t, mg x = some (.int i t)) : ∃ u, mg x = some u ∧ RelV (.int i) u := let ⟨t, e⟩ := h; ⟨_, e, t, rfl⟩
theorem facts (X : K.In h) (G : h.Ns mainGlobals mg) (c : HZ.Says dxs tbs exB w K) :
    ∃ fd : FuncData, (∀ (s : Shared) (v : Value), BindsTo s fd ⟨[v], []⟩ [("_law_script", v)]) ∧ ∀ base : Heap, K.In base → base.Ns mainGlobals mg → FnOk P w K mg base CX0 16 (He.ga K "law") fd ["_law_script"] (spLaw K) := by
  obtain ⟨fdsReached, DsReached⟩ : ∃ fd, FunD K "reached" "reached" (defArgs sReached) (defBody sReached) (defScope sReached) [] [] (He.ga K "reached") fd := c.def_ 0 (d := xGl "reached" sReached)
  have FsReached : Fun K "reached" "reached" sReached (He.ga K "reached") fdsReached := fun_of DsReached
  obtain ⟨fdsClassesOf, DsClassesOf⟩ : ∃ fd, FunD K "classes_of" "classes_of" (defArgs sClassesOf) (defBody sClassesOf) (defScope sClassesOf) [] [] (He.ga K "classes_of") fd := c.def_ 1 (d := xGl "classes_of" sClassesOf)
  have FsClassesOf : Fun K "classes_of" "classes_of" sClassesOf (He.ga K "classes_of") fdsClassesOf := fun_of DsClassesOf
  obtain ⟨fdsLeast, DsLeast⟩ : ∃ fd, FunD K "least_machine" "least_machine" (defArgs sLeast) (defBody sLeast) (defScope sLeast) [] [] (He.ga K "least_machine") fd := c.def_ 2 (d := xGl "least_machine" sLeast)
  have FsLeast : Fun K "least_machine" "least_machine" sLeast (He.ga K "least_machine") fdsLeast := fun_of DsLeast
  obtain ⟨fdsMirrored, DsMirrored⟩ : ∃ fd, FunD K "mirrored" "mirrored" (defArgs sMirrored) (defBody sMirrored) (defScope sMirrored) [] [] (He.ga K "mirrored") fd := c.def_ 3 (d := xGl "mirrored" sMirrored)
  have FsMirrored : Fun K "mirrored" "mirrored" sMirrored (He.ga K "mirrored") fdsMirrored := fun_of DsMirrored
  obtain ⟨fdsLetterOf, DsLetterOf⟩ : ∃ fd, FunD K "letter_of" "letter_of" (defArgs sLetterOf) (defBody sLetterOf) (defScope sLetterOf) [] [] (He.ga K "letter_of") fd := c.def_ 4 (d := xGl "letter_of" sLetterOf)
  have FsLetterOf : Fun K "letter_of" "letter_of" sLetterOf (He.ga K "letter_of") fdsLetterOf := fun_of DsLetterOf
  obtain ⟨fdsThreeBehind, DsThreeBehind⟩ : ∃ fd, FunD K "three_behind" "three_behind" (defArgs sThreeBehind) (defBody sThreeBehind) (defScope sThreeBehind) [] [] (He.ga K "three_behind") fd := c.def_ 5 (d := xGl "three_behind" sThreeBehind)
  have FsThreeBehind : Fun K "three_behind" "three_behind" sThreeBehind (He.ga K "three_behind") fdsThreeBehind := fun_of DsThreeBehind
  obtain ⟨fdsThreeSets, DsThreeSets⟩ : ∃ fd, FunD K "three_sets" "three_sets" (defArgs sThreeSets) (defBody sThreeSets) (defScope sThreeSets) [] [] (He.ga K "three_sets") fd := c.def_ 6 (d := xGl "three_sets" sThreeSets)
  have FsThreeSets : Fun K "three_sets" "three_sets" sThreeSets (He.ga K "three_sets") fdsThreeSets := fun_of DsThreeSets
  obtain ⟨fdsSetsOf, DsSetsOf⟩ : ∃ fd, FunD K "sets_of" "sets_of" (defArgs sSetsOf) (defBody sSetsOf) (defScope sSetsOf) [] [] (He.ga K "sets_of") fd := c.def_ 7 (d := xGl "sets_of" sSetsOf)
  have FsSetsOf : Fun K "sets_of" "sets_of" sSetsOf (He.ga K "sets_of") fdsSetsOf := fun_of DsSetsOf
  obtain ⟨fdsUnlayered, DsUnlayered⟩ : ∃ fd, FunD K "unlayered" "unlayered" (defArgs sUnlayered) (defBody sUnlayered) (defScope sUnlayered) [] [] (He.ga K "unlayered") fd := c.def_ 8 (d := xGl "unlayered" sUnlayered)
  have FsUnlayered : Fun K "unlayered" "unlayered" sUnlayered (He.ga K "unlayered") fdsUnlayered := fun_of DsUnlayered
  obtain ⟨fdsBothRead, DsBothRead⟩ : ∃ fd, FunD K "both_read" "both_read" (defArgs sBothRead) (defBody sBothRead) (defScope sBothRead) [] [] (He.ga K "both_read") fd := c.def_ 9 (d := xGl "both_read" sBothRead)
  have FsBothRead : Fun K "both_read" "both_read" sBothRead (He.ga K "both_read") fdsBothRead := fun_of DsBothRead
  obtain ⟨fdsKeptUntil, DsKeptUntil⟩ : ∃ fd, FunD K "kept_until" "kept_until" (defArgs sKeptUntil) (defBody sKeptUntil) (defScope sKeptUntil) [] [] (He.ga K "kept_until") fd := c.def_ 10 (d := xGl "kept_until" sKeptUntil)
  have FsKeptUntil : Fun K "kept_until" "kept_until" sKeptUntil (He.ga K "kept_until") fdsKeptUntil := fun_of DsKeptUntil
  obtain ⟨fdsKeptEvery, DsKeptEvery⟩ : ∃ fd, FunD K "kept_every" "kept_every" (defArgs sKeptEvery) (defBody sKeptEvery) (defScope sKeptEvery) [] [] (He.ga K "kept_every") fd := c.def_ 11 (d := xGl "kept_every" sKeptEvery)
  have FsKeptEvery : Fun K "kept_every" "kept_every" sKeptEvery (He.ga K "kept_every") fdsKeptEvery := fun_of DsKeptEvery
  obtain ⟨fdsByTurns, DsByTurns⟩ : ∃ fd, FunD K "by_turns" "by_turns" (defArgs sByTurns) (defBody sByTurns) (defScope sByTurns) [] [] (He.ga K "by_turns") fd := c.def_ 12 (d := xGl "by_turns" sByTurns)
  have FsByTurns : Fun K "by_turns" "by_turns" sByTurns (He.ga K "by_turns") fdsByTurns := fun_of DsByTurns
  obtain ⟨fdsTiedThen, DsTiedThen⟩ : ∃ fd, FunD K "tied_then" "tied_then" (defArgs sTiedThen) (defBody sTiedThen) (defScope sTiedThen) [] [] (He.ga K "tied_then") fd := c.def_ 13 (d := xGl "tied_then" sTiedThen)
  have FsTiedThen : Fun K "tied_then" "tied_then" sTiedThen (He.ga K "tied_then") fdsTiedThen := fun_of DsTiedThen
  obtain ⟨fdsIsWhole, DsIsWhole⟩ : ∃ fd, FunD K "is_whole" "is_whole" (defArgs sIsWhole) (defBody sIsWhole) (defScope sIsWhole) [] [] (He.ga K "is_whole") fd := c.def_ 14 (d := xGl "is_whole" sIsWhole)
  have FsIsWhole : Fun K "is_whole" "is_whole" sIsWhole (He.ga K "is_whole") fdsIsWhole := fun_of DsIsWhole
  obtain ⟨fdsChecked, DsChecked⟩ : ∃ fd, FunD K "checked_between" "checked_between" (defArgs sChecked) (defBody sChecked) (defScope sChecked) [] [] (He.ga K "checked_between") fd := c.def_ 15 (d := xGl "checked_between" sChecked)
  have FsChecked : Fun K "checked_between" "checked_between" sChecked (He.ga K "checked_between") fdsChecked := fun_of DsChecked
  obtain ⟨fdsCounting, DsCounting⟩ : ∃ fd, FunD K "counting" "counting" (defArgs sCounting) (defBody sCounting) (defScope sCounting) [] [] (He.ga K "counting") fd := c.def_ 16 (d := xGl "counting" sCounting)
  have FsCounting : Fun K "counting" "counting" sCounting (He.ga K "counting") fdsCounting := fun_of DsCounting
  obtain ⟨fdsContained, DsContained⟩ : ∃ fd, FunD K "contained" "contained" (defArgs sContained) (defBody sContained) (defScope sContained) [] [] (He.ga K "contained") fd := c.def_ 17 (d := xGl "contained" sContained)
  have FsContained : Fun K "contained" "contained" sContained (He.ga K "contained") fdsContained := fun_of DsContained
  obtain ⟨fdsShown, DsShown⟩ : ∃ fd, FunD K "shown_unlayered" "shown_unlayered" (defArgs sShown) (defBody sShown) (defScope sShown) [] [] (He.ga K "shown_unlayered") fd := c.def_ 18 (d := xGl "shown_unlayered" sShown)
  have FsShown : Fun K "shown_unlayered" "shown_unlayered" sShown (He.ga K "shown_unlayered") fdsShown := fun_of DsShown
  obtain ⟨fdsLeastRule, DsLeastRule⟩ : ∃ fd, FunD K "least_rule" "least_rule" (defArgs sLeastRule) (defBody sLeastRule) (defScope sLeastRule) [] [] (He.ga K "least_rule") fd := c.def_ 19 (d := xGl "least_rule" sLeastRule)
  have FsLeastRule : Fun K "least_rule" "least_rule" sLeastRule (He.ga K "least_rule") fdsLeastRule := fun_of DsLeastRule
  obtain ⟨fdsMixed, DsMixed⟩ : ∃ fd, FunD K "_law_mixed" "_law_mixed" (defArgs sMixed) (defBody sMixed) (defScope sMixed) [] [] (He.ga K "_law_mixed") fd := c.def_ 20 (d := xGl "_law_mixed" sMixed)
  have FsMixed : Fun K "_law_mixed" "_law_mixed" sMixed (He.ga K "_law_mixed") fdsMixed := fun_of DsMixed
  obtain ⟨fdsPile, DsPile⟩ : ∃ fd, FunD K "_law_pile" "_law_pile" (defArgs sPile) (defBody sPile) (defScope sPile) [] [] (He.ga K "_law_pile") fd := c.def_ 21 (d := xGl "_law_pile" sPile)
  have FsPile : Fun K "_law_pile" "_law_pile" sPile (He.ga K "_law_pile") fdsPile := fun_of DsPile
  obtain ⟨fdsTake, DsTake⟩ : ∃ fd, FunD K "_law_take" "_law_take" (defArgs sTake) (defBody sTake) (defScope sTake) [] [] (He.ga K "_law_take") fd := c.def_ 22 (d := xGl "_law_take" sTake)
  have FsTake : Fun K "_law_take" "_law_take" sTake (He.ga K "_law_take") fdsTake := fun_of DsTake
  obtain ⟨fdsPlain, DsPlain⟩ : ∃ fd, FunD K "_law_plain" "_law_plain" (defArgs sPlain) (defBody sPlain) (defScope sPlain) [] [] (He.ga K "_law_plain") fd := c.def_ 23 (d := xGl "_law_plain" sPlain)
  have FsPlain : Fun K "_law_plain" "_law_plain" sPlain (He.ga K "_law_plain") fdsPlain := fun_of DsPlain
  obtain ⟨fdsExpr, DsExpr⟩ : ∃ fd, FunD K "_law_expr" "_law_expr" (defArgs sExpr) (defBody sExpr) (defScope sExpr) [] [] (He.ga K "_law_expr") fd := c.def_ 24 (d := xGl "_law_expr" sExpr)
  have FsExpr : Fun K "_law_expr" "_law_expr" sExpr (He.ga K "_law_expr") fdsExpr := fun_of DsExpr
  obtain ⟨fdsBuilt, DsBuilt⟩ : ∃ fd, FunD K "_law_built" "_law_built" (defArgs sBuilt) (defBody sBuilt) (defScope sBuilt) [] [] (He.ga K "_law_built") fd := c.def_ 25 (d := xGl "_law_built" sBuilt)
  have FsBuilt : Fun K "_law_built" "_law_built" sBuilt (He.ga K "_law_built") fdsBuilt := fun_of DsBuilt
  obtain ⟨fdsMade, DsMade⟩ : ∃ fd, FunD K "_law_made" "_law_made" (defArgs sMade) (defBody sMade) (defScope sMade) [] [] (He.ga K "_law_made") fd := c.def_ 26 (d := xGl "_law_made" sMade)
  have FsMade : Fun K "_law_made" "_law_made" sMade (He.ga K "_law_made") fdsMade := fun_of DsMade
  obtain ⟨fdsDrawn, DsDrawn⟩ : ∃ fd, FunD K "_law_drawn" "_law_drawn" (defArgs sDrawn) (defBody sDrawn) (defScope sDrawn) [] [] (He.ga K "_law_drawn") fd := c.def_ 27 (d := xGl "_law_drawn" sDrawn)
  have FsDrawn : Fun K "_law_drawn" "_law_drawn" sDrawn (He.ga K "_law_drawn") fdsDrawn := fun_of DsDrawn
  obtain ⟨fdsSafer, DsSafer⟩ : ∃ fd, FunD K "_law_safer" "_law_safer" (defArgs sSafer) (defBody sSafer) (defScope sSafer) [] [] (He.ga K "_law_safer") fd := c.def_ 28 (d := xGl "_law_safer" sSafer)
  have FsSafer : Fun K "_law_safer" "_law_safer" sSafer (He.ga K "_law_safer") fdsSafer := fun_of DsSafer
  obtain ⟨fdsNames, DsNames⟩ : ∃ fd, FunD K "_law_names" "_law_names" (defArgs sNames) (defBody sNames) (defScope sNames) [] [] (He.ga K "_law_names") fd := c.def_ 29 (d := xGl "_law_names" sNames)
  have FsNames : Fun K "_law_names" "_law_names" sNames (He.ga K "_law_names") fdsNames := fun_of DsNames
  obtain ⟨fdsSafe, DsSafe⟩ : ∃ fd, FunD K "_law_safe" "_law_safe" (defArgs sSafe) (defBody sSafe) (defScope sSafe) [] [] (He.ga K "_law_safe") fd := c.def_ 30 (d := xGl "_law_safe" sSafe)
  have FsSafe : Fun K "_law_safe" "_law_safe" sSafe (He.ga K "_law_safe") fdsSafe := fun_of DsSafe
  obtain ⟨fdsAlone, DsAlone⟩ : ∃ fd, FunD K "_law_alone" "_law_alone" (defArgs sAlone) (defBody sAlone) (defScope sAlone) [] [] (He.ga K "_law_alone") fd := c.def_ 31 (d := xGl "_law_alone" sAlone)
  have FsAlone : Fun K "_law_alone" "_law_alone" sAlone (He.ga K "_law_alone") fdsAlone := fun_of DsAlone
  obtain ⟨fdsPair, DsPair⟩ : ∃ fd, FunD K "_law_pair" "_law_pair" (defArgs sPair) (defBody sPair) (defScope sPair) [] [] (He.ga K "_law_pair") fd := c.def_ 32 (d := xGl "_law_pair" sPair)
  have FsPair : Fun K "_law_pair" "_law_pair" sPair (He.ga K "_law_pair") fdsPair := fun_of DsPair
  obtain ⟨fdsChains, DsChains⟩ : ∃ fd, FunD K "_law_chains" "_law_chains" (defArgs sChains) (defBody sChains) (defScope sChains) [] [] (He.ga K "_law_chains") fd := c.def_ 33 (d := xGl "_law_chains" sChains)
  have FsChains : Fun K "_law_chains" "_law_chains" sChains (He.ga K "_law_chains") fdsChains := fun_of DsChains
  obtain ⟨fdsLaw, DsLaw⟩ : ∃ fd, FunD K "law" "law" (defArgs sLaw) (defBody sLaw) (defScope sLaw) [] [] (He.ga K "law") fd := c.def_ 34 (d := xGl "law" sLaw)
  have FsLaw : Fun K "law" "law" sLaw (He.ga K "law") fdsLaw := fun_of DsLaw
  obtain ⟨fdsTmI, DsTmI⟩ : ∃ fd, FunD K "__init__" "TooMany.__init__" (defArgs sTmI) (defBody sTmI) (defScope sTmI) [] [] (He.ma K (He.ga K "TooMany") "__init__") fd := c.def_ 35 (d := xMt "TooMany" "__init__" "TooMany.__init__" sTmI)
  have FsTmI : Fun K "__init__" "TooMany.__init__" sTmI (He.ma K (He.ga K "TooMany") "__init__") fdsTmI := fun_of DsTmI
  obtain ⟨fdsMkI, DsMkI⟩ : ∃ fd, FunD K "__init__" "MadeRule.__init__" (defArgs sMkI) (defBody sMkI) (defScope sMkI) [] [] (He.ma K (He.ga K "MadeRule") "__init__") fd := c.def_ 36 (d := xMt "MadeRule" "__init__" "MadeRule.__init__" sMkI)
  have FsMkI : Fun K "__init__" "MadeRule.__init__" sMkI (He.ma K (He.ga K "MadeRule") "__init__") fdsMkI := fun_of DsMkI
  obtain ⟨fdsContains, DsContains⟩ : ∃ fd, FunD K "__contains__" "Rule.__contains__" (defArgs sContains) (defBody sContains) (defScope sContains) [] [] (He.ma K (He.ga K "MadeRule") "__contains__") fd := c.def_ 37 (d := xMt "MadeRule" "__contains__" "Rule.__contains__" sContains)
  have FsContains : Fun K "__contains__" "Rule.__contains__" sContains (He.ma K (He.ga K "MadeRule") "__contains__") fdsContains := fun_of DsContains
  obtain ⟨fdsAnd, DsAnd⟩ : ∃ fd, FunD K "__and__" "Rule.__and__" (defArgs sAnd) (defBody sAnd) (defScope sAnd) [] [] (He.ma K (He.ga K "MadeRule") "__and__") fd := c.def_ 38 (d := xMt "MadeRule" "__and__" "Rule.__and__" sAnd)
  have FsAnd : Fun K "__and__" "Rule.__and__" sAnd (He.ma K (He.ga K "MadeRule") "__and__") fdsAnd := fun_of DsAnd
  obtain ⟨fdsShift, DsShift⟩ : ∃ fd, FunD K "__rshift__" "Rule.__rshift__" (defArgs sShift) (defBody sShift) (defScope sShift) [] [] (He.ma K (He.ga K "MadeRule") "__rshift__") fd := c.def_ 39 (d := xMt "MadeRule" "__rshift__" "Rule.__rshift__" sShift)
  have FsShift : Fun K "__rshift__" "Rule.__rshift__" sShift (He.ma K (He.ga K "MadeRule") "__rshift__") fdsShift := fun_of DsShift
  obtain ⟨fdsInv, DsInv⟩ : ∃ fd, FunD K "__invert__" "Rule.__invert__" (defArgs sInv) (defBody sInv) (defScope sInv) [] [] (He.ma K (He.ga K "MadeRule") "__invert__") fd := c.def_ 40 (d := xMt "MadeRule" "__invert__" "Rule.__invert__" sInv)
  have FsInv : Fun K "__invert__" "Rule.__invert__" sInv (He.ma K (He.ga K "MadeRule") "__invert__") fdsInv := fun_of DsInv
  obtain ⟨fdsIsL, DsIsL⟩ : ∃ fd, FunD K "is_layered" "Rule.is_layered" (defArgs sIsL) (defBody sIsL) (defScope sIsL) [] [] (He.ma K (He.ga K "MadeRule") "is_layered") fd := c.def_ 41 (d := xMt "MadeRule" "is_layered" "Rule.is_layered" sIsL)
  have FsIsL : Fun K "is_layered" "Rule.is_layered" sIsL (He.ma K (He.ga K "MadeRule") "is_layered") fdsIsL := fun_of DsIsL
  obtain ⟨fdsUntil, DsUntil⟩ : ∃ fd, FunD K "until" "Rule.until" (defArgs sUntil) (defBody sUntil) (defScope sUntil) [] [] (He.ma K (He.ga K "MadeRule") "until") fd := c.def_ 42 (d := xMt "MadeRule" "until" "Rule.until" sUntil)
  have FsUntil : Fun K "until" "Rule.until" sUntil (He.ma K (He.ga K "MadeRule") "until") fdsUntil := fun_of DsUntil
  obtain ⟨fdsEvery, DsEvery⟩ : ∃ fd, FunD K "every" "Rule.every" (defArgs sEvery) (defBody sEvery) (defScope sEvery) [] [] (He.ma K (He.ga K "MadeRule") "every") fd := c.def_ 43 (d := xMt "MadeRule" "every" "Rule.every" sEvery)
  have FsEvery : Fun K "every" "Rule.every" sEvery (He.ma K (He.ga K "MadeRule") "every") fdsEvery := fun_of DsEvery
  obtain ⟨fdsTurns, DsTurns⟩ : ∃ fd, FunD K "turns" "Rule.turns" (defArgs sTurns) (defBody sTurns) (defScope sTurns) [] [] (He.ma K (He.ga K "MadeRule") "turns") fd := c.def_ 44 (d := xMt "MadeRule" "turns" "Rule.turns" sTurns)
  have FsTurns : Fun K "turns" "Rule.turns" sTurns (He.ma K (He.ga K "MadeRule") "turns") fdsTurns := fun_of DsTurns
  obtain ⟨fdsPInit, DsPInit⟩ : ∃ fd, FunD K "__init__" "Purpose.__init__" (defArgs sPInit) (defBody sPInit) (defScope sPInit) [] [] (He.ma K (He.ga K "Purpose") "__init__") fd := c.def_ 45 (d := xMt "Purpose" "__init__" "Purpose.__init__" sPInit)
  have FsPInit : Fun K "__init__" "Purpose.__init__" sPInit (He.ma K (He.ga K "Purpose") "__init__") fdsPInit := fun_of DsPInit
  obtain ⟨fdsPLeast, DsPLeast⟩ : ∃ fd, FunD K "least" "Purpose.least" (defArgs sPLeast) (defBody sPLeast) (defScope sPLeast) [] [] (He.ma K (He.ga K "Purpose") "least") fd := c.def_ 46 (d := xMt "Purpose" "least" "Purpose.least" sPLeast)
  have FsPLeast : Fun K "least" "Purpose.least" sPLeast (He.ma K (He.ga K "Purpose") "least") fdsPLeast := fun_of DsPLeast
  obtain ⟨fdsPIn, DsPIn⟩ : ∃ fd, FunD K "__contains__" "Purpose.__contains__" (defArgs sPIn) (defBody sPIn) (defScope sPIn) [] [] (He.ma K (He.ga K "Purpose") "__contains__") fd := c.def_ 47 (d := xMt "Purpose" "__contains__" "Purpose.__contains__" sPIn)
  have FsPIn : Fun K "__contains__" "Purpose.__contains__" sPIn (He.ma K (He.ga K "Purpose") "__contains__") fdsPIn := fun_of DsPIn
  obtain ⟨fdsStates, DsStates⟩ : ∃ fd, FunD K "states" "Rule.states" (defArgs sStates) (defBody sStates) (defScope sStates) [] [] (HZ.recA K (He.ma K (He.ga K "MadeRule") "states") "property") fd := c.def_ 48 (d := xRc "MadeRule" "states" "Rule.states" "property" sStates [])
  have FsStates : Fun K "states" "Rule.states" sStates (HZ.recA K (He.ma K (He.ga K "MadeRule") "states") "property") fdsStates := fun_of DsStates
  obtain ⟨fdsNamed, FsNamed⟩ : ∃ fd, FunD K "named" "Rule.named" (defArgs sNamed) (defBody sNamed) (defScope sNamed) [] [(("bound" : Str), .non)] (HZ.recA K (He.ma K (He.ga K "Rule") "named") "staticmethod") fd := c.def_ 49 (d := xRc "Rule" "named" "Rule.named" "staticmethod" sNamed [(("bound" : Str), V.non)])
  obtain ⟨fdsCalled, DsCalled⟩ : ∃ fd, FunD K "called" "Purpose.called" (defArgs sCalled) (defBody sCalled) (defScope sCalled) [] [] (HZ.recA K (He.ma K (He.ga K "Purpose") "called") "property") fd := c.def_ 50 (d := xRc "Purpose" "called" "Purpose.called" "property" sCalled [])
  have FsCalled : Fun K "called" "Purpose.called" sCalled (HZ.recA K (He.ma K (He.ga K "Purpose") "called") "property") fdsCalled := fun_of DsCalled
  obtain ⟨fdsPNames, DsPNames⟩ : ∃ fd, FunD K "names" "Purpose.names" (defArgs sPNames) (defBody sPNames) (defScope sPNames) [] [] (HZ.recA K (He.ma K (He.ga K "Purpose") "names") "classmethod") fd := c.def_ 51 (d := xRc "Purpose" "names" "Purpose.names" "classmethod" sPNames [])
  have FsPNames : Fun K "names" "Purpose.names" sPNames (HZ.recA K (He.ma K (He.ga K "Purpose") "names") "classmethod") fdsPNames := fun_of DsPNames
  have bsReached : Binds K fdsReached ["rows"] [] := DsReached.bindsN (ps := ["rows"]) fun _ _ _ _ _ _ us hl => match us, hl with | [_], _ => rfl
  have bsClassesOf : Binds K fdsClassesOf ["rows", "flags", "states"] [] := DsClassesOf.bindsN (ps := ["rows", "flags", "states"]) fun _ _ _ _ _ _ us hl => match us, hl with | [_, _, _], _ => rfl
  have bsLeast : Binds K fdsLeast ["rows", "flags"] [] := DsLeast.bindsN (ps := ["rows", "flags"]) fun _ _ _ _ _ _ us hl => match us, hl with | [_, _], _ => rfl
  have bsMirrored : Binds K fdsMirrored ["row"] [] := DsMirrored.bindsN (ps := ["row"]) fun _ _ _ _ _ _ us hl => match us, hl with | [_], _ => rfl
  have bsLetterOf : Binds K fdsLetterOf ["one", "other"] [] := DsLetterOf.bindsN (ps := ["one", "other"]) fun _ _ _ _ _ _ us hl => match us, hl with | [_, _], _ => rfl
  have bsThreeBehind : Binds K fdsThreeBehind ["rows", "pairs", "state", "letter"] [] := DsThreeBehind.bindsN (ps := ["rows", "pairs", "state", "letter"]) fun _ _ _ _ _ _ us hl => match us, hl with | [_, _, _, _], _ => rfl
  have bsThreeSets : Binds K fdsThreeSets ["rows", "pairs", "flags", "due"] [] := DsThreeSets.bindsN (ps := ["rows", "pairs", "flags", "due"]) fun _ _ _ _ _ _ us hl => match us, hl with | [_, _, _, _], _ => rfl
  have bsSetsOf : Binds K fdsSetsOf ["letters", "many"] [] := DsSetsOf.bindsN (ps := ["letters", "many"]) fun _ _ _ _ _ _ us hl => match us, hl with | [_, _], _ => rfl
  have bsUnlayered : Binds K fdsUnlayered ["rows", "flags"] [] := DsUnlayered.bindsN (ps := ["rows", "flags"]) fun _ _ _ _ _ _ us hl => match us, hl with | [_, _], _ => rfl
  have bsBothRead : Binds K fdsBothRead ["rows", "others"] [] := DsBothRead.bindsN (ps := ["rows", "others"]) fun _ _ _ _ _ _ us hl => match us, hl with | [_, _], _ => rfl
  have bsKeptUntil : Binds K fdsKeptUntil ["rows", "flags", "number"] [] := DsKeptUntil.bindsN (ps := ["rows", "flags", "number"]) fun _ _ _ _ _ _ us hl => match us, hl with | [_, _, _], _ => rfl
  have bsKeptEvery : Binds K fdsKeptEvery ["rows", "flags", "divisor", "rest"] [] := DsKeptEvery.bindsN (ps := ["rows", "flags", "divisor", "rest"]) fun _ _ _ _ _ _ us hl => match us, hl with | [_, _, _, _], _ => rfl
  have bsByTurns : Binds K fdsByTurns ["rows", "flags", "others", "marks"] [] := DsByTurns.bindsN (ps := ["rows", "flags", "others", "marks"]) fun _ _ _ _ _ _ us hl => match us, hl with | [_, _, _, _], _ => rfl
  have bsTiedThen : Binds K fdsTiedThen ["rows", "flags", "others", "marks"] [] := DsTiedThen.bindsN (ps := ["rows", "flags", "others", "marks"]) fun _ _ _ _ _ _ us hl => match us, hl with | [_, _, _, _], _ => rfl
  have bsIsWhole : Binds K fdsIsWhole ["thing"] [] := DsIsWhole.bindsN (ps := ["thing"]) fun _ _ _ _ _ _ us hl => match us, hl with | [_], _ => rfl
  have bsChecked : Binds K fdsChecked ["number", "least", "most"] [] := DsChecked.bindsN (ps := ["number", "least", "most"]) fun _ _ _ _ _ _ us hl => match us, hl with | [_, _, _], _ => rfl
  have bsCounting : Binds K fdsCounting ["bound"] [] := DsCounting.bindsN (ps := ["bound"]) fun _ _ _ _ _ _ us hl => match us, hl with | [_], _ => rfl
  have bsContained : Binds K fdsContained ["one", "other"] [] := DsContained.bindsN (ps := ["one", "other"]) fun _ _ _ _ _ _ us hl => match us, hl with | [_, _], _ => rfl
  have bsShown : Binds K fdsShown ["rule"] [] := DsShown.bindsN (ps := ["rule"]) fun _ _ _ _ _ _ us hl => match us, hl with | [_], _ => rfl
  have bsLeastRule : Binds K fdsLeastRule ["name"] [] := DsLeastRule.bindsN (ps := ["name"]) fun _ _ _ _ _ _ us hl => match us, hl with | [_], _ => rfl
  have bsMixed : Binds K fdsMixed ["_law_cell", "_law_k"] [] := DsMixed.bindsN (ps := ["_law_cell", "_law_k"]) fun _ _ _ _ _ _ us hl => match us, hl with | [_, _], _ => rfl
  have bsPile : Binds K fdsPile ["_law_script", "_law_k"] [] := DsPile.bindsN (ps := ["_law_script", "_law_k"]) fun _ _ _ _ _ _ us hl => match us, hl with | [_, _], _ => rfl
  have bsTake : Binds K fdsTake ["_law_pile_here", "_law_many"] [] := DsTake.bindsN (ps := ["_law_pile_here", "_law_many"]) fun _ _ _ _ _ _ us hl => match us, hl with | [_, _], _ => rfl
  have bsPlain : Binds K fdsPlain ["_law_pile_here", "_law_layered"] [] := DsPlain.bindsN (ps := ["_law_pile_here", "_law_layered"]) fun _ _ _ _ _ _ us hl => match us, hl with | [_, _], _ => rfl
  have bsExpr : Binds K fdsExpr ["_law_pile_here", "_law_deep", "_law_layered"] [] := DsExpr.bindsN (ps := ["_law_pile_here", "_law_deep", "_law_layered"]) fun _ _ _ _ _ _ us hl => match us, hl with | [_, _, _], _ => rfl
  have bsBuilt : Binds K fdsBuilt ["_law_told"] [] := DsBuilt.bindsN (ps := ["_law_told"]) fun _ _ _ _ _ _ us hl => match us, hl with | [_], _ => rfl
  have bsMade : Binds K fdsMade ["_law_told"] [] := DsMade.bindsN (ps := ["_law_told"]) fun _ _ _ _ _ _ us hl => match us, hl with | [_], _ => rfl
  have bsDrawn : Binds K fdsDrawn ["_law_pile_here", "_law_deep"] [] := DsDrawn.bindsN (ps := ["_law_pile_here", "_law_deep"]) fun _ _ _ _ _ _ us hl => match us, hl with | [_, _], _ => rfl
  have bsSafer : Binds K fdsSafer ["_law_pile_here"] [] := DsSafer.bindsN (ps := ["_law_pile_here"]) fun _ _ _ _ _ _ us hl => match us, hl with | [_], _ => rfl
  have bsNames : Binds K fdsNames [] [] := DsNames.bindsN (ps := []) fun _ _ _ _ _ _ us hl => match us, hl with | [], _ => rfl
  have bsSafe : Binds K fdsSafe ["_law_purposes", "_law_rule"] [] := DsSafe.bindsN (ps := ["_law_purposes", "_law_rule"]) fun _ _ _ _ _ _ us hl => match us, hl with | [_, _], _ => rfl
  have bsAlone : Binds K fdsAlone ["_law_purposes", "_law_rule"] [] := DsAlone.bindsN (ps := ["_law_purposes", "_law_rule"]) fun _ _ _ _ _ _ us hl => match us, hl with | [_, _], _ => rfl
  have bsPair : Binds K fdsPair ["_law_purposes", "_law_one", "_law_other"] [] := DsPair.bindsN (ps := ["_law_purposes", "_law_one", "_law_other"]) fun _ _ _ _ _ _ us hl => match us, hl with | [_, _, _], _ => rfl
  have bsChains : Binds K fdsChains ["_law_safe_here"] [] := DsChains.bindsN (ps := ["_law_safe_here"]) fun _ _ _ _ _ _ us hl => match us, hl with | [_], _ => rfl
  have bsTmI : Binds K fdsTmI ["self", "limit"] [] := DsTmI.bindsN (ps := ["self", "limit"]) fun _ _ _ _ _ _ us hl => match us, hl with | [_, _], _ => rfl
  have bsMkI : Binds K fdsMkI ["self", "rows", "flags"] [] := DsMkI.bindsN (ps := ["self", "rows", "flags"]) fun _ _ _ _ _ _ us hl => match us, hl with | [_, _, _], _ => rfl
  have bsContains : Binds K fdsContains ["self", "x"] [] := DsContains.bindsN (ps := ["self", "x"]) fun _ _ _ _ _ _ us hl => match us, hl with | [_, _], _ => rfl
  have bsAnd : Binds K fdsAnd ["self", "other"] [] := DsAnd.bindsN (ps := ["self", "other"]) fun _ _ _ _ _ _ us hl => match us, hl with | [_, _], _ => rfl
  have bsShift : Binds K fdsShift ["self", "other"] [] := DsShift.bindsN (ps := ["self", "other"]) fun _ _ _ _ _ _ us hl => match us, hl with | [_, _], _ => rfl
  have bsInv : Binds K fdsInv ["self"] [] := DsInv.bindsN (ps := ["self"]) fun _ _ _ _ _ _ us hl => match us, hl with | [_], _ => rfl
  have bsIsL : Binds K fdsIsL ["self"] [] := DsIsL.bindsN (ps := ["self"]) fun _ _ _ _ _ _ us hl => match us, hl with | [_], _ => rfl
  have bsUntil : Binds K fdsUntil ["self", "number"] [] := DsUntil.bindsN (ps := ["self", "number"]) fun _ _ _ _ _ _ us hl => match us, hl with | [_, _], _ => rfl
  have bsEvery : Binds K fdsEvery ["self", "divisor", "rest"] [] := DsEvery.bindsN (ps := ["self", "divisor", "rest"]) fun _ _ _ _ _ _ us hl => match us, hl with | [_, _, _], _ => rfl
  have bsTurns : Binds K fdsTurns ["self", "other"] [] := DsTurns.bindsN (ps := ["self", "other"]) fun _ _ _ _ _ _ us hl => match us, hl with | [_, _], _ => rfl
  have bsPInit : Binds K fdsPInit ["self", "name"] [] := DsPInit.bindsN (ps := ["self", "name"]) fun _ _ _ _ _ _ us hl => match us, hl with | [_, _], _ => rfl
  have bsPLeast : Binds K fdsPLeast ["self"] [] := DsPLeast.bindsN (ps := ["self"]) fun _ _ _ _ _ _ us hl => match us, hl with | [_], _ => rfl
  have bsPIn : Binds K fdsPIn ["self", "x"] [] := DsPIn.bindsN (ps := ["self", "x"]) fun _ _ _ _ _ _ us hl => match us, hl with | [_, _], _ => rfl
  have bsStates : Binds K fdsStates ["self"] [] := DsStates.bindsN (ps := ["self"]) fun _ _ _ _ _ _ us hl => match us, hl with | [_], _ => rfl
  have bsCalled : Binds K fdsCalled ["self"] [] := DsCalled.bindsN (ps := ["self"]) fun _ _ _ _ _ _ us hl => match us, hl with | [_], _ => rfl
  have bsPNames : Binds K fdsPNames ["cls"] [] := DsPNames.bindsN (ps := ["cls"]) fun _ _ _ _ _ _ us hl => match us, hl with | [_], _ => rfl
  have bA := FunD.bindsA (ps := ["_law_script"]) DsLaw fun _ _ _ _ _ _ us hl => match us, hl with | [_], _ => rfl
  refine ⟨fdsLaw, fun s v => bA s [v] rfl, fun base _ _ => ?_⟩
  have T : Tx K mg := ⟨fx_ X G c "len", fx_ X G c "range", fx_ X G c "tuple", fx_ X G c "int", fx_ X G c "bool", fx_ X G c "list", fx_ X G c "set", fx_ X G c "zip", fx_ X G c "enumerate", fx_ X G c "min", fx_ X G c "abs", fx_ X G c "any", fx_ X G c "sorted", fx_ X G c "isinstance", fx_ X G c "str", fx_ X G c "dict", ⟨_, gx X G c "MIRRORED", HZ.tupA_ok (c.fact 7)⟩⟩
  have TN : Tn mg := ⟨i_ok (He.int_ok X G (c.fact 2)), i_ok (He.int_ok X G (c.fact 3)), i_ok (He.int_ok X G (c.fact 4)), i_ok (He.int_ok X G (c.fact 5)), i_ok (He.int_ok X G (c.fact 6))⟩
  have OX : OexC K (He.ga K "TooMany") := ⟨HZ.oexB_ok (c.fact 10), He.eqO_ok (c.fact 11), of_decide_eq_true (c.fact 12), of_decide_eq_true (c.fact 13), c.fact 14⟩
  have TM : Tm K mg (He.ga K "TooMany") := ⟨⟨_, _, gx X G c "SearchError", creadB_ok (c.fact 8), HZ.clvB_ok (c.fact 9)⟩, gx X G c "TooMany", OX, He.eqO_ok (c.fact 15), ⟨_, _, He.eqO_ok (c.fact 16), of_decide_eq_true (c.fact 17), FsTmI, bsTmI⟩⟩
  have R : Rf K (He.ga K "MadeRule") := ⟨He.cls_ok (c.fact 19), He.noat_ok (c.fact 20), He.noat_ok (c.fact 21)⟩
  have RI : Ri K mg (He.ga K "MadeRule") := ⟨⟨_, gx X G c "Rule", of_decide_eq_true (c.fact 22)⟩, He.eqO_ok (c.fact 23), He.eqO_ok (c.fact 24), of_decide_eq_true (c.fact 25), of_decide_eq_true (c.fact 26)⟩
  have RP : Pf K (He.ga K "Purpose") := ⟨He.cls_ok (c.fact 27), He.noat_ok (c.fact 28), He.noat_ok (c.fact 29), He.noat_ok (c.fact 30), He.noat_ok (c.fact 31)⟩
  have TF : TabF K w mg "NAMED" rawTab := by
    obtain ⟨es, n, D⟩ := c.tab 0 (t := (fun K => He.ga K "NAMED", rawTab.map (·.1)))
    exact ⟨_, es, n, gx X G c "NAMED", D, fun e he => entB_ok (List.all_eq_true.mp (c.fact 32 (b := rawTab.all (entB K (He.ga K "NAMED")))) e he)⟩
  have AF : AloneF K w mg := by
    obtain ⟨es, n, D⟩ := c.tab 1 (t := (fun K => He.ga K "ALONE", aloneTab.map (·.1)))
    exact ⟨_, es, n, gx X G c "ALONE", D, fun e he => He.eqO_ok (List.all_eq_true.mp (c.fact 33 (b := rawTab.all fun e => He.eqO (PySem.W.nsIn K (He.ga K "ALONE") e.1) (some none))) e he), fun e he => entB_ok (List.all_eq_true.mp (c.fact 34 (b := aloneTab.all (entB K (He.ga K "ALONE")))) e he)⟩
  have NF : NamF K mg := ⟨_, gx X G c "NAMES", HZ.tupA_ok (c.fact 35)⟩
  have PF : PurF K mg := by
    obtain ⟨o, n, h1, h2, h3, h4, h5⟩ := pairA_ok (c.fact 36)
    exact ⟨_, o, n, _, gx X G c "PURPOSES", h1, h2, h3, h4, h5, fun H => ⟨HZ.tupA_ok (c.fact 37) H, prsB_ok H (c.fact 38)⟩⟩
  have Greached : Fx P w K mg base CX0 1 "reached" ["rows"] (spReached K) := ⟨_, _, gx X G c "reached", DsReached.kp, bsReached, ok_reached FsReached T⟩
  have Gclasses : Fx P w K mg base (L2.CX P w) 4 "classes_of" ["rows", "flags", "states"] (spClassesOf K (He.ga K "TooMany")) := ⟨_, _, gx X G c "classes_of", DsClassesOf.kp, bsClassesOf, ok_classesOf FsClassesOf T TN TM⟩
  have Gleast : Fx P w K mg base (L2.CX P w) 5 "least_machine" ["rows", "flags"] (spLeast K (He.ga K "TooMany")) := ⟨_, _, gx X G c "least_machine", DsLeast.kp, bsLeast, ok_least FsLeast T Greached Gclasses⟩
  have Gmirrored : Fx P w K mg base CX0 1 "mirrored" ["row"] (spMirrored K) := ⟨_, _, gx X G c "mirrored", DsMirrored.kp, bsMirrored, ok_mirrored FsMirrored T⟩
  have Gletter : Fx P w K mg base CX0 1 "letter_of" ["one", "other"] (spLetterOf) := ⟨_, _, gx X G c "letter_of", DsLetterOf.kp, bsLetterOf, ok_letterOf FsLetterOf T⟩
  have Gthreeb : Fx P w K mg base CX0 2 "three_behind" ["rows", "pairs", "state", "letter"] (spThreeBehind K) := ⟨_, _, gx X G c "three_behind", DsThreeBehind.kp, bsThreeBehind, ok_threeBehind FsThreeBehind T Gletter⟩
  have Gthrees : Fx P w K mg base CX0 3 "three_sets" ["rows", "pairs", "flags", "due"] (spThreeSets K) := ⟨_, _, gx X G c "three_sets", DsThreeSets.kp, bsThreeSets, ok_threeSets FsThreeSets T Gthreeb⟩
  have Gsets : Fx P w K mg base CX0 1 "sets_of" ["letters", "many"] (spSetsOf K) := ⟨_, _, gx X G c "sets_of", DsSetsOf.kp, bsSetsOf, ok_setsOf FsSetsOf T⟩
  have Gunlay : Fx P w K mg base CX0 4 "unlayered" ["rows", "flags"] (spUnlayered K) := ⟨_, _, gx X G c "unlayered", DsUnlayered.kp, bsUnlayered, ok_unlayered FsUnlayered T Gthrees Gsets⟩
  have Gboth : Fx P w K mg base CX0 1 "both_read" ["rows", "others"] (spBothRead K) := ⟨_, _, gx X G c "both_read", DsBothRead.kp, bsBothRead, ok_bothRead FsBothRead T⟩
  have Gku : Fx P w K mg base CX0 1 "kept_until" ["rows", "flags", "number"] (spKeptUntil K) := ⟨_, _, gx X G c "kept_until", DsKeptUntil.kp, bsKeptUntil, ok_keptUntil FsKeptUntil T⟩
  have Gke : Fx P w K mg base CX0 1 "kept_every" ["rows", "flags", "divisor", "rest"] (spKeptEvery K) := ⟨_, _, gx X G c "kept_every", DsKeptEvery.kp, bsKeptEvery, ok_keptEvery FsKeptEvery T⟩
  have Gby : Fx P w K mg base CX0 2 "by_turns" ["rows", "flags", "others", "marks"] (spByTurns K) := ⟨_, _, gx X G c "by_turns", DsByTurns.kp, bsByTurns, ok_byTurns FsByTurns T Gboth⟩
  have Gtied : Fx P w K mg base CX0 1 "tied_then" ["rows", "flags", "others", "marks"] (spTiedThen K) := ⟨_, _, gx X G c "tied_then", DsTiedThen.kp, bsTiedThen, ok_tiedThen FsTiedThen T⟩
  have Gwhole : Fx P w K mg base CX0 1 "is_whole" ["thing"] (spIsWhole) := ⟨_, _, gx X G c "is_whole", DsIsWhole.kp, bsIsWhole, ok_isWhole FsIsWhole T⟩
  have Gchk : Fx P w K mg base CX0 2 "checked_between" ["number", "least", "most"] (spChecked) := ⟨_, _, gx X G c "checked_between", DsChecked.kp, bsChecked, ok_checked FsChecked T Gwhole⟩
  have Gcount : Fx P w K mg base CX0 1 "counting" ["bound"] (spCounting) := ⟨_, _, gx X G c "counting", DsCounting.kp, bsCounting, ok_counting FsCounting T⟩
  have Gcont : Fx P w K mg base CX0 2 "contained" ["one", "other"] (spContained (He.ga K "MadeRule")) := ⟨_, _, gx X G c "contained", DsContained.kp, bsContained, ok_contained FsContained T R Gboth⟩
  have Gshown : Fx P w K mg base (L2.CX P w) 5 "shown_unlayered" ["rule"] (spShown (He.ga K "MadeRule") (He.ga K "TooMany")) := ⟨_, _, gx X G c "shown_unlayered", DsShown.kp, bsShown, ok_shown FsShown T TN TM R Gunlay⟩
  have M : MkR P w K mg base (He.ga K "MadeRule") (He.ga K "TooMany") := ⟨_, _, He.mkr_ok (c.fact 39), ok_mk FsMkI R Gleast, gx X G c "MadeRule", bsMkI⟩
  have NM : NamedM P w K mg base (He.ga K "MadeRule") := by
    obtain ⟨ds, hds, bds⟩ := FunD.binds0 (ps := ["name", "bound"]) FsNamed 1 (by decide) rfl fun D doc pm an cdv ct us ks l1 l2 => match us, ks, l1, l2 with | [_], [_], _, _ => ⟨_, _, _, _, _, _, rfl, rfl, rfl⟩
    obtain ⟨mv, kb⟩ := FunD.kbinds0 (ps := ["name", "bound"]) FsNamed 1 ["bound"] [] (fun us _ ws => us ++ ws) (by decide) (fun q hq => by cases hq) (fun r _ r2 => r.append r2) fun D doc pm an cdv ct us mv ws l1 l2 l3 => match us, mv, ws, l1, l2, l3 with | [_], [], [_], _, _, _ => rfl
    exact ⟨_, _, _, _, _, ds, _, gx X G c "Rule", creadB_ok (c.fact 50), ⟨HZ.clsB_ok (c.fact 51), HZ.recB_ok (c.fact 52), c.fact 53⟩, ok_named FsNamed T TN NF TF Gchk Gcount M, bds, hds, kb⟩
  have RM : RuleM P w K mg base (He.ga K "MadeRule") (He.ga K "TooMany") := by
    refine ⟨R, c.fact 41, ⟨_, _, opmB_ok (c.fact 42), ok_and FsAnd R Gboth M, bsAnd⟩, ⟨_, _, opmB_ok (c.fact 43), ok_shift FsShift R Gshown Gtied M, bsShift⟩, ⟨_, _, opmB_ok (c.fact 44), ok_inv FsInv R Gmirrored M, bsInv⟩, ⟨_, _, opmB_ok (c.fact 45), ok_contains FsContains T R RI Gcont, bsContains⟩,
      ⟨_, _, He.meth_ok (c.fact 46), ok_turns FsTurns R Gby M, bsTurns⟩, ⟨_, _, He.meth_ok (c.fact 47), ok_until FsUntil TN R Gchk Gku M, bsUntil⟩, ⟨_, _, He.meth_ok (c.fact 48), ok_every FsEvery TN R Gchk Gke M, bsEvery⟩, ⟨_, _, He.meth_ok (c.fact 49), ok_isL FsIsL Gshown, bsIsL⟩, NM⟩
  have SM : StatesM P w K mg base (He.ga K "MadeRule") := ⟨_, _, _, propB_ok (c.fact 54), ok_states FsStates T R, bsStates⟩
  have Glr : Fx P w K mg base CX0 9 "least_rule" ["name"] (spLeastRule (He.ga K "MadeRule")) := ⟨_, _, gx X G c "least_rule", DsLeastRule.kp, bsLeastRule, ok_leastRule FsLeastRule T AF NM M⟩
  have PN : PNamesM P w K mg base (He.ga K "Purpose") := ⟨_, _, _, _, gx X G c "Purpose", creadB_ok (c.fact 55), ⟨HZ.clsB_ok (c.fact 56), HZ.recB_ok (c.fact 57), c.fact 58⟩, ok_pNames FsPNames PF, bsPNames⟩
  have PM : PurM P w K mg base (He.ga K "Purpose") (He.ga K "MadeRule") := ⟨_, _, He.mkr_ok (c.fact 40), ok_pInit FsPInit T RP PF PN Glr, gx X G c "Purpose", bsPInit⟩
  have PU : PurU P w K mg base (He.ga K "Purpose") (He.ga K "MadeRule") := ⟨RP.cl, ⟨_, _, _, propB_ok (c.fact 59), ok_called FsCalled RP, bsCalled⟩, ⟨_, _, He.meth_ok (c.fact 60), ok_pLeast FsPLeast RP, bsPLeast⟩, ⟨_, _, opmB_ok (c.fact 61), ok_pIn FsPIn T RP R RI (opmB_ok (c.fact 45)) (ok_contains FsContains T R RI Gcont) bsContains, bsPIn⟩⟩
  have Gmixed : Fx P w K mg base CX0 1 "_law_mixed" ["_law_cell", "_law_k"] (spMixed) := ⟨_, _, gx X G c "_law_mixed", DsMixed.kp, bsMixed, ok_mixed FsMixed T⟩
  have Gpile : Fx P w K mg base CX0 1 "_law_pile" ["_law_script", "_law_k"] (spPile K) := ⟨_, _, gx X G c "_law_pile", DsPile.kp, bsPile, ok_pile FsPile T⟩
  have Gtake : Fx P w K mg base CX0 2 "_law_take" ["_law_pile_here", "_law_many"] (spTake) := ⟨_, _, gx X G c "_law_take", DsTake.kp, bsTake, ok_take FsTake T Gmixed⟩
  have Gplain : Fx P w K mg base CX0 3 "_law_plain" ["_law_pile_here", "_law_layered"] (spPlain) := ⟨_, _, gx X G c "_law_plain", DsPlain.kp, bsPlain, ok_plain FsPlain T Gtake⟩
  have Ge0 : Fx P w K mg base CX0 3 "_law_expr" ["_law_pile_here", "_law_deep", "_law_layered"] (spPrev 0) := ⟨_, _, gx X G c "_law_expr", DsExpr.kp, bsExpr, fn_false⟩
  have Ge1 : Fx P w K mg base CX0 4 "_law_expr" ["_law_pile_here", "_law_deep", "_law_layered"] (spPrev 1) := ⟨_, _, gx X G c "_law_expr", DsExpr.kp, bsExpr, ok_expr 0 3 (by decide) FsExpr T Gtake Gplain Ge0⟩
  have Ge2 : Fx P w K mg base CX0 5 "_law_expr" ["_law_pile_here", "_law_deep", "_law_layered"] (spPrev 2) := ⟨_, _, gx X G c "_law_expr", DsExpr.kp, bsExpr, ok_expr 1 4 (by decide) FsExpr T Gtake Gplain Ge1⟩
  have Ge3 : Fx P w K mg base CX0 6 "_law_expr" ["_law_pile_here", "_law_deep", "_law_layered"] (spExpr 2) := ⟨_, _, gx X G c "_law_expr", DsExpr.kp, bsExpr, ok_expr 2 5 (by decide) FsExpr T Gtake Gplain Ge2⟩
  have Gb0 : Fx P w K mg base (L2.CX P w) 9 "_law_built" ["_law_told"] (spBuiltP (He.ga K "MadeRule") (He.ga K "TooMany") 0) := ⟨_, _, gx X G c "_law_built", DsBuilt.kp, bsBuilt, fn_false⟩
  have Gb1 : Fx P w K mg base (L2.CX P w) 10 "_law_built" ["_law_told"] (spBuilt (He.ga K "MadeRule") (He.ga K "TooMany") 0) := ⟨_, _, gx X G c "_law_built", DsBuilt.kp, bsBuilt, ok_built 0 9 (by decide) (by decide) FsBuilt RM Gb0⟩
  have Gb2 : Fx P w K mg base (L2.CX P w) 11 "_law_built" ["_law_told"] (spBuilt (He.ga K "MadeRule") (He.ga K "TooMany") 1) := ⟨_, _, gx X G c "_law_built", DsBuilt.kp, bsBuilt, ok_built 1 10 (by decide) (by decide) FsBuilt RM Gb1⟩
  have Gb3 : Fx P w K mg base (L2.CX P w) 12 "_law_built" ["_law_told"] (spBuilt (He.ga K "MadeRule") (He.ga K "TooMany") 2) := ⟨_, _, gx X G c "_law_built", DsBuilt.kp, bsBuilt, ok_built 2 11 (by decide) (by decide) FsBuilt RM Gb2⟩
  have Gmade : Fx P w K mg base CX0 13 "_law_made" ["_law_told"] (spMadeE (He.ga K "MadeRule")) := ⟨_, _, gx X G c "_law_made", DsMade.kp, bsMade, ok_made FsMade (gx X G c "TooMany") (He.exm_ok (c.fact 18)) Gb3⟩
  have Gdrawn : Fx P w K mg base CX0 14 "_law_drawn" ["_law_pile_here", "_law_deep"] (spDrawn (He.ga K "MadeRule")) := ⟨_, _, gx X G c "_law_drawn", DsDrawn.kp, bsDrawn, ok_drawn FsDrawn NM Ge3 Gmade⟩
  have Gsafer : Fx P w K mg base CX0 15 "_law_safer" ["_law_pile_here"] (spSafer (He.ga K "MadeRule")) := ⟨_, _, gx X G c "_law_safer", DsSafer.kp, bsSafer, ok_safer FsSafer RM SM Gdrawn Gtake Gb1⟩
  have Gnames : Fx P w K mg base CX0 1 "_law_names" [] (spNames) := ⟨_, _, gx X G c "_law_names", DsNames.kp, bsNames, ok_names FsNames⟩
  have Gsafe : Fx P w K mg base CX0 5 "_law_safe" ["_law_purposes", "_law_rule"] (spSafe (He.ga K "Purpose") (He.ga K "MadeRule")) := ⟨_, _, gx X G c "_law_safe", DsSafe.kp, bsSafe, ok_safe FsSafe PU⟩
  have Galone : Fx P w K mg base CX0 9 "_law_alone" ["_law_purposes", "_law_rule"] (spAlone (He.ga K "Purpose") (He.ga K "MadeRule")) := ⟨_, _, gx X G c "_law_alone", DsAlone.kp, bsAlone, ok_alone FsAlone RM PU NM Gsafe⟩
  have Gpair : Fx P w K mg base CX0 9 "_law_pair" ["_law_purposes", "_law_one", "_law_other"] (spPair (He.ga K "Purpose") (He.ga K "MadeRule")) := ⟨_, _, gx X G c "_law_pair", DsPair.kp, bsPair, ok_pair FsPair RM SM Gsafe⟩
  have Gchains : Fx P w K mg base CX0 1 "_law_chains" ["_law_safe_here"] (spChains) := ⟨_, _, gx X G c "_law_chains", DsChains.kp, bsChains, ok_chains FsChains T⟩
  exact ok_law FsLaw T PM Gnames Gpile Gsafer Galone Gpair Gchains Gsafe
end
end SR

/-! ### FinP -/
set_option maxHeartbeats 0
namespace HR
open PySem PySem.Spec PyProof.Rows L2
abbrev R : PySem.W.OpenRow := PySem.W.OpenLaw.row PySem.Challenge.rw_searchrules_k31_whole_purposes_together
def asL : List Nat := List.range 868
abbrev hk : PySem.W.Hook := HZ.hookZ asL SR.dxs SR.tbs SR.exB
def ob (s : PySem.W.SharedT) : HZ.Al := HZ.obsZ asL SR.dxs SR.tbs SR.exB (HandSHeadRun.getT s)
theorem ob_eq (s : PySem.W.SharedT) : ob s = hk.obs s.abs := HZ.obsZ_eq (HandSHeadRun.getT_eq s)
def n1 : List PySem.Str := ["_wall", "SearchError", "InvalidOrder", "InvalidMachine", "NotARule", "NotLayered", "InvalidSet", "InvalidNumber", "UnknownName", "NotInClass", "TooMany", "is_whole", "is_node", "begun_order", "checked_order", "linked", "tied_together", "MIRRORED", "MOST_STATES", "reached"]
def n2 : List PySem.Str := ["classes_of", "least_machine", "mirrored", "letter_of", "state_behind", "sets_of", "alike_worse", "three_behind", "three_sets", "broken", "unlayered", "both_read", "kept_until", "kept_every", "by_turns", "tied_then", "MOST_PASSED", "MOST_LAYERED", "MOST_MOMENT", "MOST_UNTIL"]
def n3 : List PySem.Str := ["MOST_DIVISOR", "MOST_BOUND", "NAMED", "NAMES", "is_row", "are_states", "check_machine", "is_set", "checked_between", "counting", "contained", "Rule", "MadeRule", "shown_unlayered", "PURPOSES", "DEAD", "ALONE", "least_rule", "labels_of", "is_together"]
def n4 : List PySem.Str := ["is_growing", "is_ending", "steps_tied", "is_perfect", "is_perfect_ending", "is_near_first", "latest", "is_deep_first", "in_class", "has_property", "Purpose", "_law_mixed", "_law_pile", "_law_take", "_law_plain", "_law_expr", "_law_apart", "_law_base", "_law_worse", "_law_built"]
def n5 : List PySem.Str := ["_law_made", "_law_drawn", "_law_safer", "_law_names", "_law_safe", "_law_alone", "_law_pair", "_law_chains"]
def names : List PySem.Str := n1 ++ n2 ++ n3 ++ n4 ++ n5

open PySem PySem.W PySem.Calls PyProof.Rows HandSHeadRun
abbrev q : Program := view R.prog [94]
abbrev d : DefRec := topDef R.prog 94
theorem p1 : opening R.prog = plainProg R.prog.main.scope.names := by kernel_rfl
theorem p2 : ∀ s, fenceModules? R.prog s = some s := fun s => by kernel_rfl
theorem p3 : defOf q R.name = some (d, []) := by kernel_rfl
theorem p4 : R.prog.theDef R.name = some (d.params, d.body, d.scope) := by kernel_rfl
theorem p5 : kwWritten? d.params.kwonlyargs d.params.kw_defaults = some [] := by kernel_rfl
theorem p6 : (!R.writes || R.records.isEmpty) = true := by rfl
theorem p7 : R.wellSaid = true := by decide +kernel
theorem p8 : (chainsOk q && opensWell R.prog && (frees R.toRowW && R.within.isEmpty)) = true := by decide +kernel
theorem p9 : R.prog.bare := ⟨rfl, rfl, rfl, rfl, rfl, by decide +kernel⟩
theorem p10 : R.toRowW.promised := by w_witness2
theorem p11 : d.params.defaults = [] := by kernel_rfl
theorem p12 : d.name = ("law" : PySem.Str) := by kernel_rfl
end HR

/-! ### FinQ -/
set_option maxHeartbeats 0
namespace HR
open PySem PySem.Spec PySem.W PySem.Calls PyProof.Rows HandSHeadRun
theorem walkF (w : World) (mg : Str → Option Value) (fa : Addr) (h : Heap) (Y : ∃ K : PySem.W.Frag, K.In h ∧ HZ.Says SR.dxs SR.tbs SR.exB w K) (G : h.Ns mainGlobals mg) (hmg0 : mg d.name = some (.ref fa)) :
    ∃ (K : PySem.W.Frag) (fd : FuncData) (sp : L2.Sp), K.In h ∧ (∀ (s : Shared) (u : Value), BindsTo s fd ⟨[u], []⟩ [(("_law_script" : Str), u)]) ∧
      (∀ (H : L2.Hp) (a : Addr) (ns : List Int), ns.length ≤ 63 → L2.Only H → L2.SqL K H a (ns.map L2.V.int) → sp [.ref a] H (fun v _ => v = .bl true) fun _ _ _ => False) ∧
      ∀ base : Heap, K.In base → base.Ns mainGlobals mg → L2.FnOk PySem.Challenge.rw_searchrules_k31_whole_purposes_together.prog w K mg base L2.CX0 16 fa fd ["_law_script"] sp := by
  obtain ⟨K, KX, c⟩ := Y
  have hmg : mg ("law" : PySem.Str) = some (.ref fa) := by
    rw [← p12]
    exact hmg0
  obtain ⟨fd, hb, hF⟩ := SR.facts (P := (PySem.Challenge.rw_searchrules_k31_whole_purposes_together).prog) (w := w) KX G c
  have ef : fa = He.ga K "law" := by
    have e1 := hmg.symm.trans (SR.gx KX G c "law")
    injection e1 with e1
    injection e1
  subst ef
  exact ⟨K, fd, SR.spLaw K, KX, hb, fun H a ns hl _ hS => ⟨a, ns, rfl, hS, fun _ => rfl⟩, hF⟩
theorem walk : WalkO q names (XL q []) hk.says R.toRowW d [] (fun f vs => PySem.call f vs) :=
  L2.walk_ofE (l := PySem.Challenge.rw_searchrules_k31_whole_purposes_together) (n := 63) (k := 16) (d := d) (x := "_law_script") (YP := hk.says) (CX := L2.CX0) rfl (by decide) p11 ⟨rfl, by decide, by decide⟩ walkF (fun _ _ _ _ z => z)
end HR

/-! ### FinRun -/
set_option maxHeartbeats 0
namespace HR
open PySem PySem.Spec PyProof.Rows L2
theorem runF (w : World) : HandSHeadRun.RunEq R q hk ob 7000 names (w.withFollow "special-get-raises" false) := by
  intro os
  kernel_rfl
theorem runT (w : World) : HandSHeadRun.RunEq R q hk ob 7000 names (w.withFollow "special-get-raises" true) := by
  intro os
  kernel_rfl
theorem run (w : World) : HandSHeadRun.RunEq R q hk ob 7000 names w :=
  PySem.W.byRow2 "special-get-raises" runF runT w
end HR

open PySem PySem.W PySem.Calls PyProof.Rows
theorem PySem.Challenge.cw_searchrules_k31_whole_purposes_together_holds : PySem.Challenge.rw_searchrules_k31_whole_purposes_together.Holds := by
  w_on
  o_law
  exact HandSHeadRun.head_any (r := HR.R) (q := HR.q) (H := HR.hk) (ob := HR.ob) (M := 7000) (loose := HR.names) (d := HR.d) (kwd := []) HR.ob_eq HR.p1 HR.p2 HR.run HR.p3 HR.p4 HR.p5 HR.p6 HR.p7 HR.p8 HR.p9 HR.p10 HR.walk
