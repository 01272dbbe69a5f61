import PyProof.Rows.All
import PySem.Challenge.RW_ordernest_k60_texts
import Wide.All
import OpenK.AllK
import Wide.FinOn
import HandS.ForMost
import HandS.ForExc
import HandS.Conv
import HandS.TupSets
import HandS.TupAny
import HandS.Deep
import HandS.Evl
import HandS.ExcIs
import HandS.ExcValue
import HandS.Strs
import HandS.Small
import HandS.IsInst
import HandS.Style
import HandS.SetFor
import HandS.Sort
import HandS.SortInts
import KE.DatumOrd
import KE.DatumIndex
import KE.DatumMore
import KE.DatumMoreOrd
import KE.SortData
import KE.KDictKeyed
import HandS.TupMul
import PyProof.Rows.SeqMore
set_option Elab.async false
set_option linter.all false
set_option maxRecDepth 100000
set_option maxHeartbeats 4000000
/-! OA: data with a Lean type over the hand layer -/
namespace OA
open PySem PySem.Spec PyProof.Rows L2 Evl
open PySem.W (Datum Tup T3 DatumOrd)

/-! ### 1. what a value stands for -/
/-- a tuple without a dict of its own (what the program makes are such), or one of the written part -/
def PlT (K : PySem.W.Frag) (H : Hp) (a : Addr) (xs : List V) : Prop :=
  (∃ o, H a = some (.frz o (.tup xs)) ∧ o.dict = none) ∨
    ∃ (o : Obj) (its : Array Value) (n : Nat), K.lookup a = some o ∧ o.cls = .type "tuple" ∧ o.dict = none ∧ o.data = .seq its n ∧ its.size ≤ sizeLine ∧ Vals xs its.toList
theorem PlT.t {K : PySem.W.Frag} {H : Hp} {a : Addr} {xs : List V} (h : PlT K H a xs) : SqT K H a xs := by
  rcases h with ⟨o, h, _⟩ | ⟨o, its, n, h1, h2, _, h4, h5, h6⟩
  · exact .inl (.inr ⟨o, h⟩)
  · exact .inr ⟨o, its, n, h1, h2, h4, h5, h6⟩
theorem pl_of {K : PySem.W.Frag} {H : Hp} {a : Addr} {xs : List V} {o : Obj} (h : H a = some (.frz o (.tup xs))) (d : o.dict = none) : PlT K H a xs := .inl ⟨o, h, d⟩
theorem ex_p {K : PySem.W.Frag} {H H' : Hp} {a : Addr} {xs : List V} (e : Ex H H') (h : PlT K H a xs) : PlT K H' a xs := by
  rcases h with ⟨o, h, d⟩ | h
  · exact .inl ⟨o, e a _ h, d⟩
  · exact .inr h
mutual
inductive Dq (K : PySem.W.Frag) (H : Hp) : V → PyData → Prop
  | non : Dq K H .non .none
  | bl (b : Bool) : Dq K H (.bl b) (.bool b)
  | int (i : Int) : Dq K H (.int i) (.int i)
  | str (x : Str) : Dq K H (.str x) (.str x)
  | lst {a : Addr} {xs : List V} {ds : List PyData} : SqL K H a xs → DqAll K H xs ds → Dq K H (.ref a) (.list ds)
  | tup {a : Addr} {xs : List V} {ds : List PyData} : PlT K H a xs → DqAll K H xs ds → Dq K H (.ref a) (.tuple ds)
inductive DqAll (K : PySem.W.Frag) (H : Hp) : List V → List PyData → Prop
  | nil : DqAll K H [] []
  | cons {v : V} {vs : List V} {d : PyData} {ds : List PyData} : Dq K H v d → DqAll K H vs ds → DqAll K H (v :: vs) (d :: ds)
end
mutual
theorem Dq.dp {K : PySem.W.Frag} {H : Hp} : ∀ {v : V} {d : PyData}, Dq K H v d → Dp K H v d
  | _, _, .non => .non
  | _, _, .bl b => .bl b
  | _, _, .int i => .int i
  | _, _, .str x => .str x
  | _, _, .lst h a => .lst h (DqAll.dp a)
  | _, _, .tup h a => .tup h.t (DqAll.dp a)
theorem DqAll.dp {K : PySem.W.Frag} {H : Hp} : ∀ {vs : List V} {ds : List PyData}, DqAll K H vs ds → DpAll K H vs ds
  | _, _, .nil => .nil
  | _, _, .cons h t => .cons (Dq.dp h) (DqAll.dp t)
end
mutual
theorem dp_ex {K : PySem.W.Frag} {H H' : Hp} (e : Ex H H') : ∀ {v : V} {d : PyData}, Dq K H v d → Dq K H' v d
  | _, _, .non => .non
  | _, _, .bl b => .bl b
  | _, _, .int i => .int i
  | _, _, .str x => .str x
  | _, _, .lst h a => .lst (ex_l e h) (dps_ex e a)
  | _, _, .tup h a => .tup (ex_p e h) (dps_ex e a)
theorem dps_ex {K : PySem.W.Frag} {H H' : Hp} (e : Ex H H') : ∀ {vs : List V} {ds : List PyData}, DqAll K H vs ds → DqAll K H' vs ds
  | _, _, .nil => .nil
  | _, _, .cons h t => .cons (dp_ex e h) (dps_ex e t)
end
/-- tuples (tracked, locked) stand; all that HandS does keeps them -/
def Tx (H H' : Hp) : Prop := ∀ a, (∀ xs, H a = some (.tup xs) → H' a = some (.tup xs)) ∧ (∀ o u, H a = some (.frz o u) → H' a = some (.frz o u))
theorem Tx.refl (H : Hp) : Tx H H := fun _ => ⟨fun _ h => h, fun _ _ h => h⟩
theorem Tx.trans {H H1 H2 : Hp} (a : Tx H H1) (b : Tx H1 H2) : Tx H H2 := fun x => ⟨fun xs h => (b x).1 xs ((a x).1 xs h), fun o u h => (b x).2 o u ((a x).2 o u h)⟩
theorem Tx.ex {H H' : Hp} (e : Ex H H') : Tx H H' := fun a => ⟨fun _ h => e a _ h, fun _ _ h => e a _ h⟩
theorem Tx.new {H : Hp} {p : Addr} {o : HO} (h : H p = none) : Tx H (upd H p o) := .ex (.new h)
theorem Tx.mut {H : Hp} {p : Addr} {o : HO} (h : Mut (H p)) : Tx H (upd H p o) := fun a => by
  have n : ∀ u, H a = some u → ¬ Mut (some u) → a ≠ p := fun u e m z => by
    subst z
    rw [e] at h
    exact m h
  exact ⟨fun xs e => by rw [upd_ne (n _ e (fun z => z))]; exact e, fun o u e => by rw [upd_ne (n _ e (fun z => z))]; exact e⟩
theorem tx_t {K : PySem.W.Frag} {H H' : Hp} {a : Addr} {xs : List V} (e : Tx H H') (h : SqT K H a xs) : SqT K H' a xs := by
  rcases h with (h | ⟨o, h⟩) | h
  · exact .inl (.inl ((e a).1 _ h))
  · exact .inl (.inr ⟨o, (e a).2 _ _ h⟩)
  · exact .inr h
theorem tx_p {K : PySem.W.Frag} {H H' : Hp} {a : Addr} {xs : List V} (e : Tx H H') (h : PlT K H a xs) : PlT K H' a xs := by
  rcases h with ⟨o, h, d⟩ | h
  · exact .inl ⟨o, (e a).2 _ _ h, d⟩
  · exact .inr h
/-! no list, no dict within -/
mutual
def pu : PyData → Bool
  | .list _ => false
  | .dict _ => false
  | .tuple ds => puAll ds
  | _ => true
def puAll : List PyData → Bool
  | [] => true
  | d :: ds => pu d && puAll ds
end
mutual
theorem dp_tx {K : PySem.W.Frag} {H H' : Hp} (e : Tx H H') : ∀ {v : V} {d : PyData}, pu d = true → Dq K H v d → Dq K H' v d
  | _, _, _, .non => .non
  | _, _, _, .bl b => .bl b
  | _, _, _, .int i => .int i
  | _, _, _, .str x => .str x
  | _, _, p, .lst _ _ => by simp [pu] at p
  | _, _, p, .tup h a => .tup (tx_p e h) (dps_tx e (by simpa [pu] using p) a)
theorem dps_tx {K : PySem.W.Frag} {H H' : Hp} (e : Tx H H') : ∀ {vs : List V} {ds : List PyData}, puAll ds = true → DqAll K H vs ds → DqAll K H' vs ds
  | _, _, _, .nil => .nil
  | _, _, p, .cons h t => by
    rw [puAll, Bool.and_eq_true] at p
    exact .cons (dp_tx e p.1 h) (dps_tx e p.2 t)
end

section typed
variable {α β γ : Type} [DecidableEq α] [Datum α] [DecidableEq β] [Datum β] [DecidableEq γ] [Datum γ] {K : PySem.W.Frag} {H H' : Hp} {v : V} {vs : List V}
/-- v stands for x -/
abbrev Hd (K : PySem.W.Frag) (H : Hp) (v : V) (x : α) : Prop := Dq K H v (Datum.toD x)
abbrev Hds (K : PySem.W.Frag) (H : Hp) (vs : List V) (xs : List α) : Prop := DqAll K H vs (xs.map Datum.toD)

theorem hd_int {n : Int} (h : Hd K H v n) : v = .int n := by
  cases h
  rfl
theorem hd_bool {b : Bool} (h : Hd K H v b) : v = .bl b := by
  cases h
  rfl
theorem hd_str {x : Str} (h : Hd K H v x) : v = .str x := by
  cases h
  rfl
theorem hd_unit {u : Unit} (h : Hd K H v u) : v = .non := by
  cases h
  rfl
theorem of_int (n : Int) : Hd K H (.int n) n := .int n
theorem of_bool (b : Bool) : Hd K H (.bl b) b := .bl b
theorem of_str (x : Str) : Hd K H (.str x) x := .str x
theorem hd_tup {xs : List α} (h : Hd K H v (Tup.mk xs)) : ∃ a vs, v = .ref a ∧ PlT K H a vs ∧ Hds K H vs xs := by
  cases h with
  | tup hs ha => exact ⟨_, _, rfl, hs, ha⟩
theorem hd_list {xs : List α} (h : Hd K H v xs) : ∃ a vs, v = .ref a ∧ SqL K H a vs ∧ Hds K H vs xs := by
  cases h with
  | lst hs ha => exact ⟨_, _, rfl, hs, ha⟩
theorem hd_pair {x : α} {y : β} (h : Hd K H v (x, y)) : ∃ a v1 v2, v = .ref a ∧ PlT K H a [v1, v2] ∧ Hd K H v1 x ∧ Hd K H v2 y := by
  cases h with
  | tup hs ha =>
    cases ha with
    | cons h1 t =>
      cases t with
      | cons h2 t =>
        cases t
        exact ⟨_, _, _, rfl, hs, h1, h2⟩
theorem hd_t3 {x : α} {y : β} {z : γ} (h : Hd K H v (T3.mk x y z)) : ∃ a v1 v2 v3, v = .ref a ∧ PlT K H a [v1, v2, v3] ∧ Hd K H v1 x ∧ Hd K H v2 y ∧ Hd K H v3 z := by
  cases h with
  | tup hs ha =>
    cases ha with
    | cons h1 t =>
      cases t with
      | cons h2 t =>
        cases t with
        | cons h3 t =>
          cases t
          exact ⟨_, _, _, _, rfl, hs, h1, h2, h3⟩
theorem of_tup {a : Addr} {xs : List α} (h : PlT K H a vs) (hs : Hds K H vs xs) : Hd K H (.ref a) (Tup.mk xs) := .tup h hs
theorem of_list {a : Addr} {xs : List α} (h : SqL K H a vs) (hs : Hds K H vs xs) : Hd K H (.ref a) xs := .lst h hs
theorem of_pair {a : Addr} {v1 v2 : V} {x : α} {y : β} (h : PlT K H a [v1, v2]) (h1 : Hd K H v1 x) (h2 : Hd K H v2 y) : Hd K H (.ref a) (x, y) := .tup h (.cons h1 (.cons h2 .nil))
theorem of_t3 {a : Addr} {v1 v2 v3 : V} {x : α} {y : β} {z : γ} (h : PlT K H a [v1, v2, v3]) (h1 : Hd K H v1 x) (h2 : Hd K H v2 y) (h3 : Hd K H v3 z) : Hd K H (.ref a) (T3.mk x y z) := .tup h (.cons h1 (.cons h2 (.cons h3 .nil)))
/-- a tuple of two is a tuple of any length, too -/
theorem pair_tup {x y : α} (h : Hd K H v (x, y)) : Hd K H v (Tup.mk [x, y]) := h
theorem tup_pair {x y : α} (h : Hd K H v (Tup.mk [x, y])) : Hd K H v (x, y) := h

/-! ### item by item -/
theorem hds_nil : Hds K H [] ([] : List α) := .nil
theorem hds_cons {x : α} {xs : List α} (h : Hd K H v x) (t : Hds K H vs xs) : Hds K H (v :: vs) (x :: xs) := .cons h t
theorem hds_one {x : α} (h : Hd K H v x) : Hds K H [v] [x] := .cons h .nil
theorem hds_inv {xs : List α} {x : α} (h : Hds K H vs (x :: xs)) : ∃ v r, vs = v :: r ∧ Hd K H v x ∧ Hds K H r xs := by
  cases h with
  | cons h t => exact ⟨_, _, rfl, h, t⟩
theorem hds_inv0 (h : Hds K H vs ([] : List α)) : vs = [] := by
  cases h
  rfl
theorem hds_len : ∀ {xs : List α} {vs : List V}, Hds K H vs xs → vs.length = xs.length
  | [], _, h => by rw [hds_inv0 h]; rfl
  | x :: xs, _, h => by
    obtain ⟨v, r, rfl, _, t⟩ := hds_inv h
    rw [List.length_cons, List.length_cons, hds_len t]
theorem hds_app : ∀ {xs ys : List α} {vs ws : List V}, Hds K H vs xs → Hds K H ws ys → Hds K H (vs ++ ws) (xs ++ ys)
  | [], _, _, _, h, t => by
    rw [hds_inv0 h]
    exact t
  | x :: xs, _, _, _, h, t => by
    obtain ⟨v, r, rfl, h1, h2⟩ := hds_inv h
    exact .cons h1 (hds_app h2 t)
theorem hds_take : ∀ (n : Nat) {xs : List α} {vs : List V}, Hds K H vs xs → Hds K H (vs.take n) (xs.take n)
  | 0, _, _, _ => .nil
  | n + 1, [], _, h => by
    rw [hds_inv0 h]
    exact .nil
  | n + 1, x :: xs, _, h => by
    obtain ⟨v, r, rfl, h1, h2⟩ := hds_inv h
    exact .cons h1 (hds_take n h2)
theorem hds_drop : ∀ (n : Nat) {xs : List α} {vs : List V}, Hds K H vs xs → Hds K H (vs.drop n) (xs.drop n)
  | 0, _, _, h => h
  | n + 1, [], _, h => by
    rw [hds_inv0 h]
    exact .nil
  | n + 1, x :: xs, _, h => by
    obtain ⟨v, r, rfl, h1, h2⟩ := hds_inv h
    exact hds_drop n h2
theorem hds_get : ∀ {xs : List α} {vs : List V} {i : Nat} {x : α}, Hds K H vs xs → xs[i]? = some x → ∃ v, vs[i]? = some v ∧ Hd K H v x
  | [], _, _, _, _, e => by simp at e
  | y :: xs, _, 0, x, h, e => by
    obtain ⟨v, r, rfl, h1, h2⟩ := hds_inv h
    have e' : y = x := by simpa using e
    subst e'
    exact ⟨v, rfl, h1⟩
  | y :: xs, _, i + 1, x, h, e => by
    obtain ⟨v, r, rfl, h1, h2⟩ := hds_inv h
    exact hds_get (i := i) h2 (by simpa using e)
theorem hds_getV : ∀ {xs : List α} {vs : List V} {i : Nat} {v : V}, Hds K H vs xs → vs[i]? = some v → ∃ x, xs[i]? = some x ∧ Hd K H v x
  | [], _, _, _, h, e => by
    rw [hds_inv0 h] at e
    simp at e
  | y :: xs, _, 0, w, h, e => by
    obtain ⟨v, r, rfl, h1, h2⟩ := hds_inv h
    have e' : v = w := by simpa using e
    subst e'
    exact ⟨y, rfl, h1⟩
  | y :: xs, _, i + 1, w, h, e => by
    obtain ⟨v, r, rfl, h1, h2⟩ := hds_inv h
    exact hds_getV (i := i) h2 (by simpa using e)
theorem hds_rev : ∀ {xs : List α} {vs : List V}, Hds K H vs xs → Hds K H vs.reverse xs.reverse
  | [], _, h => by
    rw [hds_inv0 h]
    exact .nil
  | x :: xs, _, h => by
    obtain ⟨v, r, rfl, h1, h2⟩ := hds_inv h
    rw [List.reverse_cons, List.reverse_cons]
    exact hds_app (hds_rev h2) (hds_one h1)
theorem hds_erase : ∀ (i : Nat) {xs : List α} {vs : List V}, Hds K H vs xs → Hds K H (vs.eraseIdx i) (xs.eraseIdx i)
  | _, [], _, h => by
    rw [hds_inv0 h]
    exact .nil
  | 0, x :: xs, _, h => by
    obtain ⟨v, r, rfl, h1, h2⟩ := hds_inv h
    exact h2
  | i + 1, x :: xs, _, h => by
    obtain ⟨v, r, rfl, h1, h2⟩ := hds_inv h
    exact .cons h1 (hds_erase i h2)
theorem hds_dropLast : ∀ {xs : List α} {vs : List V}, Hds K H vs xs → Hds K H vs.dropLast xs.dropLast := fun {xs vs} h => by
  rw [List.dropLast_eq_take, List.dropLast_eq_take, hds_len h]
  exact hds_take _ h
theorem hds_ints : ∀ {ns : List Int} {vs : List V}, Hds K H vs ns → vs = ns.map V.int
  | [], _, h => hds_inv0 h
  | n :: ns, _, h => by
    obtain ⟨v, r, rfl, h1, h2⟩ := hds_inv h
    rw [hd_int h1, hds_ints h2]
    rfl
theorem ints_hds : ∀ (ns : List Int), Hds K H (ns.map V.int) ns
  | [] => .nil
  | n :: ns => .cons (.int n) (ints_hds ns)
theorem hds_bools : ∀ {ns : List Bool} {vs : List V}, Hds K H vs ns → vs = ns.map V.bl
  | [], _, h => hds_inv0 h
  | n :: ns, _, h => by
    obtain ⟨v, r, rfl, h1, h2⟩ := hds_inv h
    rw [hd_bool h1, hds_bools h2]
    rfl
theorem bools_hds : ∀ (ns : List Bool), Hds K H (ns.map V.bl) ns
  | [] => .nil
  | n :: ns => .cons (.bl n) (bools_hds ns)
theorem hds_strs : ∀ {ns : List Str} {vs : List V}, Hds K H vs ns → vs = ns.map V.str
  | [], _, h => hds_inv0 h
  | n :: ns, _, h => by
    obtain ⟨v, r, rfl, h1, h2⟩ := hds_inv h
    rw [hd_str h1, hds_strs h2]
    rfl
theorem strs_hds : ∀ (ns : List Str), Hds K H (ns.map V.str) ns
  | [] => .nil
  | n :: ns => .cons (.str n) (strs_hds ns)
theorem hds_mem : ∀ {xs : List α} {vs : List V} {v : V}, Hds K H vs xs → v ∈ vs → ∃ x ∈ xs, Hd K H v x := fun {xs vs v} h hm => by
  obtain ⟨i, hi⟩ := List.getElem?_of_mem hm
  obtain ⟨x, e, hx⟩ := hds_getV h hi
  exact ⟨x, List.mem_of_getElem? e, hx⟩
theorem tup_ints {a : Addr} {ns : List Int} (h : Hd K H (.ref a) (Tup.mk ns)) : PlT K H a (ns.map V.int) := by
  obtain ⟨b, vs, e, hs, hv⟩ := hd_tup h
  cases e
  rw [← hds_ints hv]
  exact hs

/-- pure data: kept by all that keeps tuples -/
class PureD (α : Type) [DecidableEq α] [Datum α] : Prop where
  pu : ∀ x : α, OA.pu (Datum.toD x) = true
instance : PureD Int := ⟨fun _ => by show OA.pu (.int _) = true; simp [OA.pu]⟩
instance : PureD Bool := ⟨fun _ => by show OA.pu (.bool _) = true; simp [OA.pu]⟩
instance : PureD Str := ⟨fun _ => by show OA.pu (.str _) = true; simp [OA.pu]⟩
instance : PureD Unit := ⟨fun _ => by show OA.pu .none = true; simp [OA.pu]⟩
theorem puAll_map [PureD α] : ∀ xs : List α, puAll (xs.map Datum.toD) = true
  | [] => by simp [puAll]
  | x :: xs => by rw [List.map_cons, puAll, PureD.pu x, puAll_map xs]; rfl
instance [PureD α] : PureD (Tup α) := ⟨fun t => by show OA.pu (.tuple (t.items.map Datum.toD)) = true; rw [OA.pu]; exact puAll_map t.items⟩
instance [PureD α] [PureD β] : PureD (α × β) := ⟨fun p => by show OA.pu (.tuple [Datum.toD p.1, Datum.toD p.2]) = true; simp [OA.pu, puAll, PureD.pu]⟩
theorem hd_tx [PureD α] {x : α} (e : Tx H H') (h : Hd K H v x) : Hd K H' v x := dp_tx e (PureD.pu x) h
theorem hds_tx [PureD α] {xs : List α} (e : Tx H H') (h : Hds K H vs xs) : Hds K H' vs xs := dps_tx e (puAll_map xs) h
theorem hd_ex {x : α} (e : Ex H H') (h : Hd K H v x) : Hd K H' v x := dp_ex e h
theorem hds_ex {xs : List α} (e : Ex H H') (h : Hds K H vs xs) : Hds K H' vs xs := dps_ex e h
end typed

/-! ### 2. steps that change some objects -/
/-- all but the objects of S stand as they stood, the tuples too -/
structure Go (S : Addr → Prop) (H H' : Hp) : Prop where
  keep : ∀ a o, ¬ S a → H a = some o → H' a = some o
  tx : Tx H H'
section
variable {S S' : Addr → Prop} {H H0 H1 H2 H' : Hp} {p : Addr} {o : HO}
theorem Go.refl (H : Hp) : Go S H H := ⟨fun _ _ _ h => h, .refl H⟩
theorem Go.trans (a : Go S H H1) (b : Go S H1 H2) : Go S H H2 := ⟨fun x o n h => b.keep x o n (a.keep x o n h), a.tx.trans b.tx⟩
theorem Go.ex (e : Ex H H') : Go S H H' := ⟨fun a o _ h => e a o h, .ex e⟩
theorem Go.mono (g : Go S H H') (h : ∀ a, S a → S' a) : Go S' H H' := ⟨fun a o n q => g.keep a o (fun z => n (h a z)) q, g.tx⟩
theorem Go.toEx (g : Go (fun _ => False) H H') : Ex H H' := fun a o h => g.keep a o (fun z => z) h
theorem Go.new (h : H p = none) : Go S H (upd H p o) := .ex (.new h)
theorem Go.mut (h : Mut (H p)) (hs : S p) : Go S H (upd H p o) := ⟨fun a u n q => by
  have ne : a ≠ p := fun z => n (by rw [z]; exact hs)
  rw [upd_ne ne]
  exact q, .mut h⟩
/-- what the base does not know may change -/
theorem Go.under (e : Ex H0 H) (n : ∀ a, S a → H0 a = none) (g : Go S H H') : Ex H0 H' := fun a o q => g.keep a o (fun z => by rw [n a z] at q; cases q) (e a o q)
/-- the same, the base's own changes told by S' -/
theorem Go.under2 (e : Go S' H0 H) (n : ∀ a, S a → S' a ∨ H0 a = none) (g : Go S H H') : Go S' H0 H' := ⟨fun a o q r => g.keep a o (fun z => by
    rcases n a z with h | h
    · exact q h
    · rw [h] at r; cases r) (e.keep a o q r), e.tx.trans g.tx⟩
theorem Go.free (g : Go S H H') {l : Addr} (n : ¬ S l) (h : H' l = none) : H l = none := by
  cases q : H l with
  | none => rfl
  | some o =>
    rw [g.keep l o n q] at h
    cases h
end

/-! ### 3. from values to the heap's own values -/
section
variable {X : Cx} {pins : List (Addr × Obj)} {σ : L2.St} {H : Hp} {s : Shared} {α : Type} [DecidableEq α] [Datum α]
theorem hd_holds (I : Inv X pins σ H s) {v : V} {u : Value} {x : α} (h : Hd X.K H v x) (r : RelV v u) : PySem.W.Holds s.heap u x := Dp.reads I _ _ _ h.dp r
theorem hds_holds (I : Inv X pins σ H s) {vs : List V} {us : List Value} {xs : List α} (h : Hds X.K H vs xs) (r : Vals vs us) : PySem.W.HoldAll s.heap us xs := Dp.readsAll I _ _ _ (DqAll.dp h) r
end
end OA

/-! OB: rules over data -/
namespace OA
open PySem PySem.Spec PyProof.Rows L2 Evl
open PySem.W (Datum Tup T3 DatumOrd)

/-! ### 4. operators by data -/
def rEqP (K : PySem.W.Frag) : R2 := fun x y H Q => ∃ d e, Dq K H x d ∧ Dq K H y e ∧ d.plain = true ∧ e.plain = true ∧ d.depth ≤ 32 ∧ Q (.bl (PyData.eqv d e)) H
def rNeP (K : PySem.W.Frag) : R2 := fun x y H Q => ∃ d e, Dq K H x d ∧ Dq K H y e ∧ d.plain = true ∧ e.plain = true ∧ d.depth ≤ 32 ∧ Q (.bl (!PyData.eqv d e)) H
/-- in, not in a list or a tuple -/
def rInP (K : PySem.W.Frag) (neg : Bool) : R2 := fun x y H Q => ∃ d ds, Dq K H x d ∧ (Dq K H y (.list ds) ∨ Dq K H y (.tuple ds)) ∧ d.plain = true ∧ PyData.plainAll ds = true ∧ d.depth ≤ 32 ∧
  Q (.bl (if neg = true then !(ds.any fun z => PyData.eqv z d) else ds.any fun z => PyData.eqv z d)) H
section
variable {X : Cx}
theorem op_eqP (hu : X.A.units + 64 < cLine) : OpR X (compareOp .Eq) (rEqP X.K) := by
  intro pins s σ H x y v u Q I rx ry h
  obtain ⟨d, e, hd, he, pd, pe, hz, q⟩ := h
  obtain ⟨as, r1⟩ := Dp.reads I d x v hd.dp rx
  obtain ⟨bs, r2⟩ := Dp.reads I e y u he.dp ry
  exact PySem.SeqAt.eq_plain r1 r2 pd pe (by have := Nat.min_le_left d.depth e.depth; omega) ⟨.bl _, H, I, rfl, q⟩
theorem op_neP (hu : X.A.units + 64 < cLine) : OpR X (compareOp .NotEq) (rNeP X.K) := by
  intro pins s σ H x y v u Q I rx ry h
  obtain ⟨d, e, hd, he, pd, pe, hz, q⟩ := h
  obtain ⟨as, r1⟩ := Dp.reads I d x v hd.dp rx
  obtain ⟨bs, r2⟩ := Dp.reads I e y u he.dp ry
  exact PySem.SeqAt.ne_plain r1 r2 pd pe (by have := Nat.min_le_left d.depth e.depth; omega) ⟨.bl _, H, I, rfl, q⟩
theorem op_inP (hu : X.A.units + 64 < cLine) : OpR X (compareOp .In) (rInP X.K false) := by
  intro pins s σ H x y v u Q I rx ry h
  obtain ⟨d, ds, hd, he, pd, pe, hz, q⟩ := h
  obtain ⟨as, r1⟩ := Dp.reads I d x v hd.dp rx
  have hm : X.A.units + 1 + min (PyData.depthAll ds) d.depth < cLine := by have := Nat.min_le_right (PyData.depthAll ds) d.depth; omega
  rcases he with he | he
  · obtain ⟨bs, r2⟩ := Dp.reads I _ y u he.dp ry
    exact PySem.SeqAt.in_list_data r2 r1 pe pd hm ⟨.bl _, H, I, rfl, q⟩
  · obtain ⟨bs, r2⟩ := Dp.reads I _ y u he.dp ry
    exact PySem.SeqAt.in_tuple_data r2 r1 pe pd hm ⟨.bl _, H, I, rfl, q⟩
theorem op_niP (hu : X.A.units + 64 < cLine) : OpR X (compareOp .NotIn) (rInP X.K true) := by
  intro pins s σ H x y v u Q I rx ry h
  obtain ⟨d, ds, hd, he, pd, pe, hz, q⟩ := h
  obtain ⟨as, r1⟩ := Dp.reads I d x v hd.dp rx
  have hm : X.A.units + 1 + min (PyData.depthAll ds) d.depth < cLine := by have := Nat.min_le_right (PyData.depthAll ds) d.depth; omega
  rcases he with he | he
  · obtain ⟨bs, r2⟩ := Dp.reads I _ y u he.dp ry
    exact PySem.SeqAt.notIn_list_data r2 r1 pe pd hm ⟨.bl _, H, I, rfl, q⟩
  · obtain ⟨bs, r2⟩ := Dp.reads I _ y u he.dp ry
    exact PySem.SeqAt.notIn_tuple_data r2 r1 pe pd hm ⟨.bl _, H, I, rfl, q⟩
end

/-! ### tuples made by the program: without a dict -/
def tTupP (t : TA) : TE := fun σ H Q => t σ H fun xs H1 => xs.length ≤ sizeLine ∧ ∀ (p : Addr) (o : Obj), H1 p = none → o.dict = none → Q (.ref p) (upd H1 p (.frz o (.tup xs)))
def kTupP (K : PySem.W.Frag) (x : V) (H : Hp) (Q : VK) : Prop :=
  (∃ p xs, x = .ref p ∧ SqL K H p xs ∧ ∀ (q : Addr) (o : Obj), H q = none → o.dict = none → Q (.ref q) (upd H q (.frz o (.tup xs)))) ∨ (∃ p xs, x = .ref p ∧ SqT K H p xs ∧ Q (.ref p) H)
def rCatP (K : PySem.W.Frag) : R2 := fun x y H Q => ∃ a b xs ys, x = .ref a ∧ y = .ref b ∧ SqT K H a xs ∧ SqT K H b ys ∧ xs.length + ys.length ≤ sizeLine ∧
  (xs = [] → Q (.ref b) H) ∧ (xs ≠ [] → ys = [] → Q (.ref a) H) ∧ (xs ≠ [] → ys ≠ [] → ∀ (p : Addr) (o : Obj), H p = none → o.dict = none → Q (.ref p) (upd H p (.frz o (.tup (xs ++ ys)))))
def rSlP (K : PySem.W.Frag) : V → Option Int → Option Int → Hp → VK → Prop := fun x lo hi H Q => ∃ a xs, x = .ref a ∧ SqT K H a xs ∧
  (HT.sIx xs.length 0 lo = 0 ∧ HT.sIx xs.length xs.length hi = xs.length → Q (.ref a) H) ∧ (¬ (HT.sIx xs.length 0 lo = 0 ∧ HT.sIx xs.length xs.length hi = xs.length) → ∀ (p : Addr) (o : Obj), H p = none → o.dict = none → Q (.ref p) (upd H p (.frz o (.tup (cutV xs lo hi)))))
def tTupRgP (te : L2.St → Hp → (Int → Int → Hp → Prop) → Prop) : TE := fun σ H Q => te σ H fun a b H1 => RgOk a b ∧ ∀ (q : Addr) (o : Obj), H1 q = none → o.dict = none → Q (.ref q) (upd H1 q (.frz o (.tup (rgV a b))))
/-- a method of a plain tuple -/
def tBMP (K : PySem.W.Frag) (r : V → List V → Hp → VK → Prop) (to : TE) (t : TA) : TE := fun σ H Q => to σ H fun x H1 => (∃ a xs, x = .ref a ∧ PlT K H1 a xs) ∧ t σ H1 fun xs H2 => r x xs H2 Q
section
variable {X : Cx} {es : List Expr} {e o : Expr} {pos p apos cpos : Pos} {t : TA} {a : Expr} {ta to : TE}
theorem pe_tupP {x1} (h : PA X es t) : PE X (.Tuple es x1 pos) (tTupP t) := by
  refine ⟨fun pins s σ H Q I hq => ?_⟩
  refine wpAny_Tuple_spliced (thn (h.run pos pins s σ H _ I hq) fun us s1 ⟨xs, H1, I1, r, z, q⟩ => ⟨by rw [← r.length]; exact z, ?_⟩)
  have hf : H1 s1.heap.objs.size = none := I1.hok.fresh (Nat.le_refl _)
  refine ⟨.ref s1.heap.objs.size, upd H1 s1.heap.objs.size (.frz { cls := .type "tuple", data := .seq us.toArray } (.tup xs)), I1.laid (t' := s1.toks) (fun b u e => Heap.get?_push_of_some _ e) (Nat.le_refl _) ?_, rfl, q _ _ hf rfl⟩
  exact ⟨Heap.get?_push_size _ rfl, z, us, r, ⟨_, Heap.get?_push_size _ rfl, rfl, _, rfl⟩⟩
theorem rl_tupleP (pins : List (Addr × Obj)) (s : Shared) (σ : L2.St) (H : Hp) (x : V) (v : Value) (Q : VK) (I : Inv X pins σ H s) (r : RelV x v) (h : kTupP X.K x H Q) :
    wpAny (model X.prog X.w) X.A (call (.type "tuple") [v]) (EP X pins σ Q) X.xe s := by
  rcases h with ⟨p, xs, rfl, hs, q⟩ | ⟨p, xs, rfl, hs, q⟩
  · obtain rfl : v = .ref p := r
    obtain ⟨its, rv, pl, hz⟩ := I.list hs
    refine call_tuple_list pl.isList (fun h' hk => ?_) (by rw [List.size_toArray, ← rv.length]; exact hz)
    have I1 : Inv X pins σ H { s with heap := h' } := I.kept (t' := s.toks) hk
    have I2 : Inv X pins σ (upd H h'.objs.size (.frz { cls := .type "tuple", data := .seq its.toArray } (.tup xs))) { s with heap := h'.push { cls := .type "tuple", data := .seq its.toArray } } :=
      I1.laid (t' := s.toks) (fun b o e => Heap.get?_push_of_some _ e) (Nat.le_refl _) (show ObjOk X.prog X.w _ _ _ (.frz _ (.tup xs)) from ⟨Heap.get?_push_size _ rfl, hz, its, rv, IsTup.new _ _⟩)
    exact ⟨.ref h'.objs.size, _, I2, rfl, q _ _ (I1.hok.fresh (Nat.le_refl _)) rfl⟩
  · obtain rfl : v = .ref p := r
    obtain ⟨its, rv, pl, hz⟩ := I.tuple hs
    exact call_tuple_tup pl ⟨.ref p, H, I, rfl, q⟩
theorem pe_tupleOfP (hg : Gl X "tuple") (hm : X.mg "tuple" = none) (ha : PE X a ta) (na : starEach [a] X.env = (false, eval a X.env) :: starEach [] X.env := by rfl) :
    PE X (.Call (.Name "tuple" p) [a] [] pos) (tThen ta (kTupP X.K)) := by
  refine ⟨fun pins s σ H Q I h => ?_⟩
  exact Call_ (ld_blt I hg hm boot_tuple (PyProof.Rows.callWith_type1 (one_arg ha I h (fun v s2 x H2 I2 r q => rl_tupleP pins s2 σ H2 x v Q I2 r q) na) na))
theorem pe_tupRgP {te : L2.St → Hp → (Int → Int → Hp → Prop) → Prop} (hc : X.calm = true) (hg : Gl X "tuple") (hm : X.mg "tuple" = none) (he : PRg X e te) (na : starEach [e] X.env = (false, eval e X.env) :: starEach [] X.env := by rfl) : PE X (.Call (.Name "tuple" p) [e] [] pos) (tTupRgP te) := by
  refine ⟨fun pins s σ H Q I h => ?_⟩
  refine Call_ (ld_blt I hg hm boot_tuple (PyProof.Rows.callWith_type1 (args_cons (thn (he pins s σ H _ I h) fun x s1 ⟨r, a, b, t, u, v, H1, ex, hr, I1, ok, q⟩ => args_nil ?_) na) na))
  subst ex
  obtain ⟨b1, b2, b3, b4, b5⟩ := ok
  refine call_tuple_range (n := (b - a).toNat) (I1.ok.hd hc) hr (small_one b1 b2 b3 b4) (rangeSize_nat a b) b5 fun h' tk acc hk hi => ?_
  have I2 : Inv X pins σ H1 { s1 with heap := h', toks := tk } := I1.kept hk
  refine ⟨.ref h'.objs.size, upd H1 h'.objs.size (.frz { cls := .type "tuple", data := .seq acc } (.tup (rgV a b))), I2.laid (t' := tk) (fun c o e => Heap.get?_push_of_some _ e) (Nat.le_refl _) (show ObjOk X.prog X.w _ _ _ (.frz _ (.tup (rgV a b))) from ⟨Heap.get?_push_size _ rfl, ?_, acc.toList, vals_rg hi, ?_⟩), rfl, q _ _ (I2.hok.fresh (Nat.le_refl _)) rfl⟩
  · rw [rgV_length, sizeLine_eq]; omega
  · rw [Array.toArray_toList]; exact IsTup.new _ _
theorem op_catP : OpR X (binaryOp .Add) (rCatP X.K) := by
  intro pins s σ H x y v u Q I rx ry h
  obtain ⟨a, b, xs, ys, rfl, rfl, ha, hb, hz, q0, q1, q2⟩ := h
  cases rx
  cases ry
  obtain ⟨its, r1, p1, _⟩ := I.tuple ha
  obtain ⟨its2, r2, p2, _⟩ := I.tuple hb
  by_cases hx : xs = []
  · subst hx
    cases r1
    exact cat_tup0 p1 p2 ⟨.ref b, H, I, rfl, q0 rfl⟩
  · refine HT.cat_tup p1 p2 (fun z => hx (r1.nil_iff.mp z)) (fun z => ⟨.ref a, H, I, rfl, q1 hx (r2.nil_iff.mp z)⟩) (fun z => ?_) (by rw [← r1.length, ← r2.length]; exact hz)
    refine ⟨.ref s.heap.objs.size, _, I.laid (t' := s.toks) (o := .frz { cls := .type "tuple", data := .seq (its ++ its2).toArray } (.tup (xs ++ ys))) (fun b ob q => Heap.get?_push_of_some _ q) (Nat.le_refl _) ?_, rfl, q2 hx (fun w => z (r2.nil_iff.mpr w)) _ _ (I.hok.fresh (Nat.le_refl _)) rfl⟩
    exact ⟨Heap.get?_push_size _ rfl, by rw [List.length_append]; exact hz, _, r1.append r2, IsTup.new _ _⟩
theorem sl_tupP : SlR X (rSlP X.K) := by
  intro pins s σ H x v vl vu lo hi sl Q I rx hs pl pu h
  obtain ⟨a, xs, rfl, hx, q1, q2⟩ := h
  cases rx
  obtain ⟨its, r, ht, hz⟩ := I.tuple hx
  have hlen : its.toArray.size = xs.length := by rw [List.size_toArray]; exact r.length.symm
  refine ⟨"tuple", _, PyProof.Rows.slot_tuple_getitem.lookup, ht.typeIs, ?_⟩
  by_cases hw : HT.sIx xs.length 0 lo = 0 ∧ HT.sIx xs.length xs.length hi = xs.length
  · exact getItem_tuple_whole ht hs pl pu (by rw [hlen]; exact hw) ⟨.ref a, H, I, rfl, q1 hw⟩
  · refine HT.getItem_tuple_cut ht hs pl pu (by rw [hlen]; exact hw) ?_ (by rw [hlen]; exact hz)
    rw [hlen]
    refine ⟨.ref s.heap.objs.size, _, I.laid (t' := s.toks) (o := .frz { cls := .type "tuple", data := .seq ((its.drop (HT.sIx xs.length 0 lo)).take (HT.sIx xs.length xs.length hi - HT.sIx xs.length 0 lo)).toArray } (.tup (cutV xs lo hi))) (fun b ob q => Heap.get?_push_of_some _ q) (Nat.le_refl _) ?_, rfl, q2 hw _ _ (I.hok.fresh (Nat.le_refl _)) rfl⟩
    exact ⟨Heap.get?_push_size _ rfl, Nat.le_trans (cutV_length xs lo hi) hz, _, (r.drop (HT.sIx xs.length 0 lo)).take (HT.sIx xs.length xs.length hi - HT.sIx xs.length 0 lo), IsTup.new _ _⟩
theorem pe_bmP {name : Str} {id : String} {r : V → List V → Hp → VK → Prop} (pa : PlainAttrs "tuple") (slot : Slot "tuple" name id) (hty : typeOf (.builtin id) = pure (.type "method_descriptor")) (hm : MtR X id r) (ho : PE X o to) (ha : PA X (e :: es) t)
    (hbase : attributeBase o name X.env (eval o X.env) = eval o X.env := by rfl)
    (hfew : ((backTo cpos (starEach (e :: es) X.env)).all (fun x => !x.1) && (backToKw cpos (keywordEach [] X.env)).all (fun x => x.1.isSome)
      && decide ((e :: es).length + ([] : List Keyword).length + (if ([] : List Keyword).isEmpty then 0 else 1) < 30)) = true := by rfl)
    (hline : (apos.endLine == cpos.line) = true := by rfl) (hs : starEach (e :: es) X.env = (false, eval e X.env) :: starEach es X.env := by rfl) (hplain : (backTo cpos (starEach es X.env)).any (·.1) = false := by rfl) :
    PE X (.Call (.Attribute o name apos) (e :: es) [] cpos) (tBMP X.K r to t) := by
  refine ⟨fun pins s σ H Q I h => ?_⟩
  refine wpAny_Call_method_late hbase hfew hline rfl (thn (ho.run pins s σ H _ I h) fun v s1 ⟨x, H1, I1, r1, ty, q1⟩ => ?_)
  have z : s1.TypeIs v "tuple" ∧ ∀ a, v = .ref a → ∃ ob, s1.heap.get? a = some ob ∧ ob.dict = none := by
    obtain ⟨a, xs, rfl, pl⟩ := ty
    cases r1
    obtain ⟨its, _, p1, _⟩ := I1.tuple pl.t
    refine ⟨p1.typeIs, fun b e => ?_⟩
    cases e
    rcases pl with ⟨o, h, d⟩ | ⟨o, _, _, h1, _, d, _⟩
    · exact ⟨o, (I1.hok _ _ h).1, d⟩
    · exact ⟨o, I1.kIn _ o h1, d⟩
  obtain ⟨h1, h2⟩ := z
  refine ⟨"tuple", id, pa, slot, hty, h1, h2, ?_⟩
  have hA := ha.run cpos pins s1 σ H1 _ I1 q1
  rw [hs] at hA ⊢
  refine Calls.callWith_builtin (by show (false || (backTo cpos (starEach es X.env)).any (·.1)) = false; rw [hplain] <;> rfl) (Calls.evalArgs_plain ?_)
  exact thn hA fun us s2 ⟨vs, H2, I2, r2, q2⟩ => hm pins s2 σ H2 x vs v us Q I2 r1 r2 q2
end

/-! ### sorted of a list or a tuple of ints -/
section
variable {prog : Program} {w : World} {A : Around} {E : Value → Shared → Prop} {s : Shared}
theorem collect_tupQ {l : Addr} {vs : List Value} {Q : List Value → Shared → Prop} (hl : IsTup s.heap l vs.toArray)
    (h : Q vs { s with heap := (s.heap.push (seqObj "list" #[] 0)).update s.heap.objs.size (Obj.mapSeq (· ++ vs.toArray)) }) (hsz : vs.length ≤ sizeLine) :
    wpAny (model prog w) A (collect (.ref l)) Q E s := by
  obtain ⟨o, ho, hc, n, hd⟩ := id hl
  unfold collect
  refine wpAny_bind (wpAny_runValue (codeAny_builtin entry_proto_collect' ?_))
  show wpAny _ _ (do again (.builtin "list.__iadd__" ⟨[← newList [], .ref l], []⟩)) _ _ s
  refine wpAny_bind (wpAny_newList (wpAny_pure ⟨Code.quiet_builtin _ (by decide +kernel), codeAny_builtin entry_list_iadd' ?_⟩))
  show wpAny _ _ (Builtin.List.listExtendWith (.ref s.heap.objs.size) (.ref l) (.ref s.heap.objs.size)) _ _ { s with heap := s.heap.push (seqObj "list" #[] 0) }
  unfold Builtin.List.listExtendWith
  have ho' : (s.heap.push (seqObj "list" #[] 0)).get? l = some o := Heap.get?_push_of_some _ ho
  refine wpAny_bind (wpAny_typeOf (T := "tuple") ⟨o, ho', hc⟩ ?_)
  have ht : (Value.type "tuple" == Value.type "tuple") = true := by rfl
  rw [if_pos (by rw [ht]; simp)]
  refine wpAny_bind (listItems_at ho' hd ?_)
  refine wpAny_bind (listItems_at (xs := #[]) (n := 0) (Heap.get?_push_size _ rfl) rfl ?_)
  rw [if_neg (by simp)]
  refine wpAny_bind (listUpdate_at (xs := #[]) (n := 0) (Heap.get?_push_size _ rfl) rfl ?_ (Nat.zero_le _) (by show (#[] ++ vs.toArray).size ≤ sizeLine + 1; simp only [Array.size_append, List.size_toArray, List.length_nil]; omega))
  refine wpAny_pure ?_
  show wpAny (model prog w) A (do
      let o ← load s.heap.objs.size
      match o.data with
      | .seq xs _ => pure xs.toList
      | _ => unsupported "internal:collect") Q E { s with heap := (s.heap.push (seqObj "list" #[] 0)).update s.heap.objs.size (Obj.mapSeq (· ++ vs.toArray)) }
  refine wpAny_bind (wpAny_load (get?_update_seq (Heap.get?_push_size _ rfl) _) ?_)
  show wpAny _ _ (pure ((#[] : Array Value) ++ vs.toArray).toList) Q E _
  rw [show ((#[] : Array Value) ++ vs.toArray).toList = vs by simp]
  exact wpAny_pure h
theorem sorted_intsTup {l : Addr} {vs : List Value} {ns : List Int} {Q : Value → Shared → Prop} (hl : IsTup s.heap l vs.toArray) (hI : IntsAre vs ns) (hL : vs.length ≤ sizeLine)
    (h : ∀ (out : Array Value) (ns' : List Int), IntsAre out.toList ns' → ns'.Perm ns → ns'.Pairwise (· ≤ ·) → Q (.ref (s.heap.objs.size + 1)) { s with heap := sortedAll s.heap vs out }) :
    wpAny (model prog w) A (call (.builtin "sorted") [.ref l]) Q E s := by
  refine Calls.call_function_entry kind_sorted plain_sorted entry_sorted (args_sorted1 _) ?_
  unfold Builtin.«sorted»
  refine wpAny_bind (m := checkCount "sorted" 1 1 _) (wpAny_pure ?_)
  refine wpAny_bind (collect_tupQ hl ?_ hL)
  refine wpAny_bind (wpAny_newList ?_)
  have hsz : ((s.heap.push (seqObj "list" #[] 0)).update s.heap.objs.size (Obj.mapSeq (· ++ vs.toArray))).objs.size = s.heap.objs.size + 1 := by
    rw [Heap.size_update, size_push']
  have hoL : (((s.heap.push (seqObj "list" #[] 0)).update s.heap.objs.size (Obj.mapSeq (· ++ vs.toArray))).push (seqObj "list" vs.toArray 0)).get? (s.heap.objs.size + 1) = some (seqObj "list" vs.toArray 0) := by
    rw [← hsz]; exact Heap.get?_push_size _ rfl
  show wpAny _ _ _ _ _ { s with heap := ((s.heap.push (seqObj "list" #[] 0)).update s.heap.objs.size (Obj.mapSeq (· ++ vs.toArray))).push (seqObj "list" vs.toArray 0) }
  rw [hsz]
  refine wpAny_bind (wpAny_holding (wpAny_call_entry slot_list_sort ⟨_, hoL, rfl⟩ entry_list_sort (list_sort_treeAny hoL hI hL fun out ns' a1 a2 a3 => ⟨_, rfl, ?_⟩) (args_list_sort _)))
  exact wpAny_pure ⟨_, rfl, h out ns' a1 a2 a3⟩
end
def rSortedQ (K : PySem.W.Frag) : List V → Hp → VK → Prop := fun vs H Q => ∃ (a : Addr) (ns : List Int), vs = [V.ref a] ∧ (SqL K H a (ns.map V.int) ∨ SqT K H a (ns.map V.int)) ∧
  ∀ (ns' : List Int) (p : Addr), ns'.Perm ns → ns'.Pairwise (· ≤ ·) → H p = none → Q (.ref p) (upd H p (.lst (ns'.map V.int)))
section
variable {X : Cx}
theorem cr_sortedQ : CallR X (.builtin "sorted") (rSortedQ X.K) := by
  intro pins s σ H vs us Q I r h
  obtain ⟨a, ns, rfl, hs, q⟩ := h
  have fin : ∀ {its : List Value}, ns.length ≤ sizeLine → ∀ (out : Array Value) (ns' : List Int), IntsAre out.toList ns' → ns'.Perm ns → ns'.Pairwise (· ≤ ·) → EP X pins σ Q (.ref (s.heap.objs.size + 1)) { s with heap := sortedAll s.heap its out } := fun {its} hz out ns' k1 k2 k3 => by
    obtain ⟨ep, he'⟩ := PyProof.Rows.sortedAll_at s.heap its out
    have hlen : (ns'.map V.int).length ≤ sizeLine := by
      rw [List.length_map, k2.length_eq]
      exact hz
    exact ⟨.ref _, upd H (s.heap.objs.size + 1) (.lst (ns'.map V.int)), I.laid (t' := s.toks) (fun _ _ => PyProof.Rows.sortedAll_old) (Nat.le_succ _) ⟨hlen, out.toList, ep, vals_of_ints k1, by simpa using he'⟩, rfl, q _ _ k2 k3 (I.hok.fresh (Nat.le_succ _))⟩
  rw [Vals.ref1 r]
  rcases hs with hs | hs
  · obtain ⟨its, rv, hl, hz⟩ := I.list hs
    rw [List.length_map] at hz
    exact PyProof.Rows.sorted_intsAny hl.isList rv.ints (by rw [← rv.length, List.length_map]; exact hz) (fin hz)
  · obtain ⟨its, rv, hl, hz⟩ := I.tuple hs
    rw [List.length_map] at hz
    exact sorted_intsTup hl rv.ints (by rw [← rv.length, List.length_map]; exact hz) (fin hz)

/-! ### index, count -/
def rTIdxI (K : PySem.W.Frag) : V → List V → Hp → VK → Prop := fun x xs H Q => ∃ (a : Addr) (ns : List Int) (n : Int), x = .ref a ∧ xs = [.int n] ∧ SqT K H a (ns.map V.int) ∧ n ∈ ns ∧ Q (.int (ns.idxOf n : Nat)) H
theorem mt_tidx (hu : X.A.units + 64 < cLine) : MtR X "tuple.index" (rTIdxI X.K) := by
  intro pins s σ H x xs v us Q I rx rs h
  obtain ⟨a, ns, n, rfl, rfl, hs, hm, q⟩ := h
  cases rx
  obtain ⟨its, rv, hl, hz⟩ := I.tuple hs
  obtain ⟨u, rfl, ru⟩ := vals1 rs
  obtain ⟨o, ho, hc, m, hd⟩ := hl
  refine PySem.W.index_tuple_datum (α := Int) (x := n) (xs := ns) (vs := its) ⟨o, ho, hc, m, hd⟩ (hds_holds I (ints_hds ns) rv) (hd_holds I (of_int n) ru) (by show X.A.units + 1 + 0 < cLine; omega) hm ?_
  exact ⟨.int _, H, I.tok _, ⟨_, rfl⟩, q⟩
end

/-! ### 5. what evaluates to what data -/
section ev
variable {α β γ : Type} [DecidableEq α] [Datum α] [DecidableEq β] [Datum β] [DecidableEq γ] [Datum γ] {K : PySem.W.Frag} {σ : L2.St} {H H' : Hp} {ta tb te tx : TE} {t u : TT} {v : V}
def EvD (K : PySem.W.Frag) (te : TE) (σ : L2.St) (H : Hp) (x : α) : Prop := ∀ H1, Ex H H1 → ∀ Q : VK, (∀ v H2, Ex H1 H2 → Hd K H2 v x → Q v H2) → te σ H1 Q
/-- a new list of such data -/
def EvN (K : PySem.W.Frag) (te : TE) (σ : L2.St) (H : Hp) (xs : List α) : Prop := ∀ H1, Ex H H1 → ∀ Q : VK, (∀ p vs H2, H1 p = none → Ex H1 H2 → H2 p = some (.lst vs) → Hds K H2 vs xs → Q (.ref p) H2) → te σ H1 Q
theorem EvD.mono {x : α} (e : Ex H H') (h : EvD K te σ H x) : EvD K te σ H' x := fun H1 a Q q => h H1 (e.trans a) Q q
theorem EvN.mono {xs : List α} (e : Ex H H') (h : EvN K te σ H xs) : EvN K te σ H' xs := fun H1 a Q q => h H1 (e.trans a) Q q
theorem EvN.d {xs : List α} (h : EvN K te σ H xs) : EvD K te σ H xs := fun H1 e Q q => h H1 e Q fun p vs H2 _ e2 hp hv => q _ H2 e2 (of_list (sq_of hp) hv)
theorem EvD.is {x y : α} (h : EvD K te σ H x) (e : x = y) : EvD K te σ H y := e ▸ h
theorem EvN.is {x y : List α} (h : EvN K te σ H x) (e : x = y) : EvN K te σ H y := e ▸ h
theorem ed_var {i : Nat} {x : α} (h : σ[i]? = some (some v)) (hx : Hd K H v x) : EvD K (tVar i) σ H x := fun H1 e _ q => ⟨v, h, q v H1 (Ex.refl H1) (hd_ex e hx)⟩
theorem EvD.int {n : Int} (h : EvD K te σ H n) : Ev te σ H (.int n) := fun H1 e Q q => h H1 e Q fun v H2 e2 hv => by rw [hd_int hv]; exact q H2 e2
theorem ed_int {n : Int} (h : Ev te σ H (.int n)) : EvD K te σ H n := fun H1 e Q q => h H1 e Q fun H2 e2 => q _ H2 e2 (of_int n)
theorem EvD.bool {b : Bool} (h : EvD K te σ H b) : Ev te σ H (.bl b) := fun H1 e Q q => h H1 e Q fun H2 e2 e3 hv => by rw [hd_bool hv]; exact q e2 e3
theorem ed_bool {b : Bool} (h : Ev te σ H (.bl b)) : EvD K te σ H b := fun H1 e Q q => h H1 e Q fun H2 e2 => q _ H2 e2 (of_bool b)
theorem ed_str {b : Str} (h : Ev te σ H (.str b)) : EvD K te σ H b := fun H1 e Q q => h H1 e Q fun H2 e2 => q _ H2 e2 (of_str b)
theorem ed_unit (h : Ev te σ H .non) : EvD K te σ H () := fun H1 e Q q => h H1 e Q fun H2 e2 => q _ H2 e2 .non
theorem ed_ref {a : Addr} {x : α} (h : Ev te σ H (.ref a)) (hx : Hd K H (.ref a) x) : EvD K te σ H x := fun H1 e Q q => h H1 e Q fun H2 e2 => q _ H2 e2 (hd_ex (e.trans e2) hx)
theorem ed_v {x : α} (h : Ev te σ H v) (hx : Hd K H v x) : EvD K te σ H x := fun H1 e Q q => h H1 e Q fun H2 e2 => q _ H2 e2 (hd_ex (e.trans e2) hx)

/-- two operands by their data -/
theorem ev_op2 {r : R2} {x : α} {y : β} {z : V} (ha : EvD K ta σ H x) (hb : EvD K tb σ H y) (hr : ∀ vx vy H1, Ex H H1 → Hd K H1 vx x → Hd K H1 vy y → ∀ Q : VK, Q z H1 → r vx vy H1 Q) : Ev (tOp r ta tb) σ H z := fun H1 e Q q =>
  ha H1 e _ fun vx H2 e2 hx => hb H2 (e.trans e2) _ fun vy H3 e3 hy => hr vx vy H3 ((e.trans e2).trans e3) (hd_ex e3 hx) hy Q (q H3 (e2.trans e3))
theorem depth_le (x : α) (h : Datum.depth α ≤ 32) : (Datum.toD x).depth ≤ 32 := Nat.le_trans (Datum.depth_le x) h
theorem ev_eqD {x y : α} (ha : EvD K ta σ H x) (hb : EvD K tb σ H y) (hz : Datum.depth α ≤ 32 := by decide) : Ev (tOp (rEqP K) ta tb) σ H (.bl (decide (x = y))) :=
  ev_op2 ha hb fun vx vy H1 _ hx hy Q q => ⟨_, _, hx, hy, Datum.plain x, Datum.plain y, depth_le x hz, by rw [Datum.eqv]; exact q⟩
theorem ev_neD {x y : α} (ha : EvD K ta σ H x) (hb : EvD K tb σ H y) (hz : Datum.depth α ≤ 32 := by decide) : Ev (tOp (rNeP K) ta tb) σ H (.bl (!decide (x = y))) :=
  ev_op2 ha hb fun vx vy H1 _ hx hy Q q => ⟨_, _, hx, hy, Datum.plain x, Datum.plain y, depth_le x hz, by rw [Datum.eqv]; exact q⟩
/-- of two types, told by eqv -/
theorem ev_eqD2 {x : α} {y : β} {b : Bool} (ha : EvD K ta σ H x) (hb : EvD K tb σ H y) (hz : Datum.depth α ≤ 32) (he : PyData.eqv (Datum.toD x) (Datum.toD y) = b) : Ev (tOp (rEqP K) ta tb) σ H (.bl b) :=
  ev_op2 ha hb fun vx vy H1 _ hx hy Q q => ⟨_, _, hx, hy, Datum.plain x, Datum.plain y, depth_le x hz, by rw [he]; exact q⟩
theorem ev_neD2 {x : α} {y : β} {b : Bool} (ha : EvD K ta σ H x) (hb : EvD K tb σ H y) (hz : Datum.depth α ≤ 32) (he : PyData.eqv (Datum.toD x) (Datum.toD y) = b) : Ev (tOp (rNeP K) ta tb) σ H (.bl (!b)) :=
  ev_op2 ha hb fun vx vy H1 _ hx hy Q q => ⟨_, _, hx, hy, Datum.plain x, Datum.plain y, depth_le x hz, by rw [he]; exact q⟩
theorem ev_inL {x : α} {xs : List α} (ha : EvD K ta σ H x) (hb : EvD K tb σ H xs) (hz : Datum.depth α ≤ 32 := by decide) : Ev (tOp (rInP K false) ta tb) σ H (.bl (decide (x ∈ xs))) :=
  ev_op2 ha hb fun vx vy H1 _ hx hy Q q => ⟨_, _, hx, .inl hy, Datum.plain x, PySem.W.plainAll_map xs, depth_le x hz, by rw [if_neg Bool.false_ne_true, PySem.W.any_datum]; exact q⟩
theorem ev_niL {x : α} {xs : List α} (ha : EvD K ta σ H x) (hb : EvD K tb σ H xs) (hz : Datum.depth α ≤ 32 := by decide) : Ev (tOp (rInP K true) ta tb) σ H (.bl (!decide (x ∈ xs))) :=
  ev_op2 ha hb fun vx vy H1 _ hx hy Q q => ⟨_, _, hx, .inl hy, Datum.plain x, PySem.W.plainAll_map xs, depth_le x hz, by rw [if_pos rfl, PySem.W.any_datum]; exact q⟩
theorem ev_inT {x : α} {xs : List α} (ha : EvD K ta σ H x) (hb : EvD K tb σ H (Tup.mk xs)) (hz : Datum.depth α ≤ 32 := by decide) : Ev (tOp (rInP K false) ta tb) σ H (.bl (decide (x ∈ xs))) :=
  ev_op2 ha hb fun vx vy H1 _ hx hy Q q => ⟨_, _, hx, .inr hy, Datum.plain x, PySem.W.plainAll_map xs, depth_le x hz, by rw [if_neg Bool.false_ne_true, PySem.W.any_datum]; exact q⟩
theorem ev_niT {x : α} {xs : List α} (ha : EvD K ta σ H x) (hb : EvD K tb σ H (Tup.mk xs)) (hz : Datum.depth α ≤ 32 := by decide) : Ev (tOp (rInP K true) ta tb) σ H (.bl (!decide (x ∈ xs))) :=
  ev_op2 ha hb fun vx vy H1 _ hx hy Q q => ⟨_, _, hx, .inr hy, Datum.plain x, PySem.W.plainAll_map xs, depth_le x hz, by rw [if_pos rfl, PySem.W.any_datum]; exact q⟩
/-! items -/
theorem hds_atI {vs : List V} {xs : List α} {i : Int} {x : α} (h : Hds K H vs xs) (hx : atI xs i = some x) : ∃ v, atI vs i = some v ∧ Hd K H v x := by
  unfold atI at hx ⊢
  rw [hds_len h]
  cases e : ixN xs.length i with
  | none =>
    rw [e] at hx
    cases hx
  | some j =>
    rw [e] at hx
    exact hds_get h hx
theorem ed_ixT {xs : List α} {i : Int} {x : α} (ha : EvD K ta σ H (Tup.mk xs)) (hb : Ev tb σ H (.int i)) (hx : atI xs i = some x) : EvD K (tOp (rIx K) ta tb) σ H x := fun H1 e Q q =>
  ha H1 e _ fun vx H2 e2 hv => hb H2 (e.trans e2) _ fun H3 e3 => by
    obtain ⟨a, vs, rfl, hs, hd⟩ := hd_tup (hd_ex e3 hv)
    obtain ⟨w, hw, dw⟩ := hds_atI hd hx
    exact .inr (.inl ⟨a, vs, i, w, rfl, rfl, hs.t, hw, q w H3 (e2.trans e3) dw⟩)
theorem ed_ixL {xs : List α} {i : Int} {x : α} (ha : EvD K ta σ H xs) (hb : Ev tb σ H (.int i)) (hx : atI xs i = some x) : EvD K (tOp (rIx K) ta tb) σ H x := fun H1 e Q q =>
  ha H1 e _ fun vx H2 e2 hv => hb H2 (e.trans e2) _ fun H3 e3 => by
    obtain ⟨a, vs, rfl, hs, hd⟩ := hd_list (hd_ex e3 hv)
    obtain ⟨w, hw, dw⟩ := hds_atI hd hx
    exact .inl ⟨a, vs, i, w, rfl, rfl, hs, hw, q w H3 (e2.trans e3) dw⟩
theorem ed_fst {x : α} {y : β} (ha : EvD K ta σ H (x, y)) (hb : Ev tb σ H (.int 0)) : EvD K (tOp (rIx K) ta tb) σ H x := fun H1 e Q q =>
  ha H1 e _ fun vx H2 e2 hv => hb H2 (e.trans e2) _ fun H3 e3 => by
    obtain ⟨a, v1, v2, rfl, hs, h1, h2⟩ := hd_pair (hd_ex e3 hv)
    exact .inr (.inl ⟨a, _, 0, v1, rfl, rfl, hs.t, rfl, q v1 H3 (e2.trans e3) h1⟩)
theorem ed_snd {x : α} {y : β} (ha : EvD K ta σ H (x, y)) (hb : Ev tb σ H (.int 1)) : EvD K (tOp (rIx K) ta tb) σ H y := fun H1 e Q q =>
  ha H1 e _ fun vx H2 e2 hv => hb H2 (e.trans e2) _ fun H3 e3 => by
    obtain ⟨a, v1, v2, rfl, hs, h1, h2⟩ := hd_pair (hd_ex e3 hv)
    exact .inr (.inl ⟨a, _, 1, v2, rfl, rfl, hs.t, rfl, q v2 H3 (e2.trans e3) h2⟩)
theorem ed_t3a {x : α} {y : β} {z : γ} (ha : EvD K ta σ H (T3.mk x y z)) (hb : Ev tb σ H (.int 0)) : EvD K (tOp (rIx K) ta tb) σ H x := fun H1 e Q q =>
  ha H1 e _ fun vx H2 e2 hv => hb H2 (e.trans e2) _ fun H3 e3 => by
    obtain ⟨a, v1, v2, v3, rfl, hs, h1, h2, h3⟩ := hd_t3 (hd_ex e3 hv)
    exact .inr (.inl ⟨a, _, 0, v1, rfl, rfl, hs.t, rfl, q v1 H3 (e2.trans e3) h1⟩)
theorem ed_t3b {x : α} {y : β} {z : γ} (ha : EvD K ta σ H (T3.mk x y z)) (hb : Ev tb σ H (.int 1)) : EvD K (tOp (rIx K) ta tb) σ H y := fun H1 e Q q =>
  ha H1 e _ fun vx H2 e2 hv => hb H2 (e.trans e2) _ fun H3 e3 => by
    obtain ⟨a, v1, v2, v3, rfl, hs, h1, h2, h3⟩ := hd_t3 (hd_ex e3 hv)
    exact .inr (.inl ⟨a, _, 1, v2, rfl, rfl, hs.t, rfl, q v2 H3 (e2.trans e3) h2⟩)
theorem ed_t3c {x : α} {y : β} {z : γ} (ha : EvD K ta σ H (T3.mk x y z)) (hb : Ev tb σ H (.int 2)) : EvD K (tOp (rIx K) ta tb) σ H z := fun H1 e Q q =>
  ha H1 e _ fun vx H2 e2 hv => hb H2 (e.trans e2) _ fun H3 e3 => by
    obtain ⟨a, v1, v2, v3, rfl, hs, h1, h2, h3⟩ := hd_t3 (hd_ex e3 hv)
    exact .inr (.inl ⟨a, _, 2, v3, rfl, rfl, hs.t, rfl, q v3 H3 (e2.trans e3) h3⟩)
/-! len, sorted, tuple, list -/
theorem ev_lenT {xs : List α} (ha : EvD K ta σ H (Tup.mk xs)) : Ev (tCB (rLenS K) (tCons ta tNil)) σ H (.int (xs.length : Int)) := fun H1 e Q q =>
  ha H1 e _ fun vx H2 e2 hv => by
    obtain ⟨a, vs, rfl, hs, hd⟩ := hd_tup hv
    exact ⟨a, vs, rfl, .inr hs.t, by rw [hds_len hd]; exact q H2 e2⟩
theorem ev_lenL {xs : List α} (ha : EvD K ta σ H xs) : Ev (tCB (rLenS K) (tCons ta tNil)) σ H (.int (xs.length : Int)) := fun H1 e Q q =>
  ha H1 e _ fun vx H2 e2 hv => by
    obtain ⟨a, vs, rfl, hs, hd⟩ := hd_list hv
    exact ⟨a, vs, rfl, .inl hs, by rw [hds_len hd]; exact q H2 e2⟩
/-- the one sorted list of some ints -/
theorem sort_one {ns ms : List Int} (p : ns.Perm ms) (h1 : ns.Pairwise (· ≤ ·)) (h2 : ms.Pairwise (· ≤ ·)) : ns = ms := List.Perm.eq_of_pairwise (fun a b _ _ h h' => Int.le_antisymm h h') h1 h2 p
def sortI (ns : List Int) : List Int := ns.mergeSort (fun a b => decide (a ≤ b))
theorem sortI_perm (ns : List Int) : (sortI ns).Perm ns := List.mergeSort_perm ns _
theorem sortI_up (ns : List Int) : (sortI ns).Pairwise (· ≤ ·) := by
  have h := List.pairwise_mergeSort (le := fun a b : Int => decide (a ≤ b)) (fun a b c h1 h2 => decide_eq_true (Int.le_trans (of_decide_eq_true h1) (of_decide_eq_true h2))) (fun a b => by
    rcases Int.le_total a b with h | h
    · simp [h]
    · simp [h]) ns
  exact h.imp fun h => of_decide_eq_true h
theorem en_sortT {ns : List Int} (ha : EvD K ta σ H (Tup.mk ns)) : EvN K (tCB (rSortedQ K) (tCons ta tNil)) σ H (sortI ns) := fun H1 e Q q =>
  ha H1 e _ fun vx H2 e2 hv => by
    obtain ⟨a, vs, rfl, hs, hd⟩ := hd_tup hv
    rw [hds_ints hd] at hs
    refine ⟨a, ns, rfl, .inr hs.t, fun ns' p k2 k3 hp => ?_⟩
    rw [sort_one (k2.trans (sortI_perm ns).symm) k3 (sortI_up ns)]
    exact q p _ _ (fresh_back e2 hp) (e2.trans (Ex.new hp)) upd_same (ints_hds _)
theorem en_sortL {ns : List Int} (ha : EvD K ta σ H ns) : EvN K (tCB (rSortedQ K) (tCons ta tNil)) σ H (sortI ns) := fun H1 e Q q =>
  ha H1 e _ fun vx H2 e2 hv => by
    obtain ⟨a, vs, rfl, hs, hd⟩ := hd_list hv
    rw [hds_ints hd] at hs
    refine ⟨a, ns, rfl, .inl hs, fun ns' p k2 k3 hp => ?_⟩
    rw [sort_one (k2.trans (sortI_perm ns).symm) k3 (sortI_up ns)]
    exact q p _ _ (fresh_back e2 hp) (e2.trans (Ex.new hp)) upd_same (ints_hds _)
/-- 0, 1, .. below n -/
def upTo (n : Nat) : List Int := (List.range n).map fun i : Nat => (i : Int)
theorem rgV_up (n : Int) : rgV 0 n = (upTo n.toNat).map V.int := by
  unfold rgV upTo
  rw [List.map_map, Int.sub_zero]
  exact List.map_congr_left fun i _ => by show V.int (0 + (i : Int)) = V.int (i : Int); rw [Int.zero_add]
theorem en_listRg {n : Int} (ha : Ev ta σ H (.int n)) (hn : -1000 ≤ n ∧ n ≤ 1000) : EvN K (tLstRg (tRg1 ta)) σ H (upTo n.toNat) := fun H1 e Q q =>
  ha H1 e _ fun H2 e2 => ⟨n, rfl, ⟨by omega, by omega, by omega, by omega, by omega⟩, fun p hp => by
    rw [rgV_up]
    exact q p _ _ (fresh_back e2 hp) (e2.trans (Ex.new hp)) upd_same (ints_hds _)⟩
theorem ed_tupRg {n : Int} (ha : Ev ta σ H (.int n)) (hn : -1000 ≤ n ∧ n ≤ 1000) : EvD K (tTupRgP (tRg1 ta)) σ H (Tup.mk (upTo n.toNat)) := fun H1 e Q q =>
  ha H1 e _ fun H2 e2 => ⟨n, rfl, ⟨by omega, by omega, by omega, by omega, by omega⟩, fun p ob hp ho => by
    rw [rgV_up]
    exact q _ _ (e2.trans (Ex.new hp)) (of_tup (pl_of upd_same ho) (ints_hds _))⟩
/-- tuple(a list) -/
theorem ed_tupOfL {xs : List α} (ha : EvD K ta σ H xs) : EvD K (tThen ta (kTupP K)) σ H (Tup.mk xs) := fun H1 e Q q =>
  ha H1 e _ fun vx H2 e2 hv => by
    obtain ⟨a, vs, rfl, hs, hd⟩ := hd_list hv
    exact .inl ⟨a, vs, rfl, hs, fun p ob hp ho => q _ _ (e2.trans (Ex.new hp)) (of_tup (pl_of upd_same ho) (hds_ex (Ex.new hp) hd))⟩
theorem ed_tupOfT {xs : List α} (ha : EvD K ta σ H (Tup.mk xs)) : EvD K (tThen ta (kTupP K)) σ H (Tup.mk xs) := fun H1 e Q q =>
  ha H1 e _ fun vx H2 e2 hv => by
    obtain ⟨a, vs, rfl, hs, hd⟩ := hd_tup hv
    exact .inr ⟨a, vs, rfl, hs.t, q _ _ e2 (of_tup hs hd)⟩
theorem en_listOf {xs : List α} (ha : EvD K ta σ H xs) : EvN K (tCB (rListS K) (tCons ta tNil)) σ H xs := fun H1 e Q q =>
  ha H1 e _ fun vx H2 e2 hv => by
    obtain ⟨a, vs, rfl, hs, hd⟩ := hd_list hv
    exact ⟨a, vs, rfl, .inl hs, fun p hp => q p _ _ (fresh_back e2 hp) (e2.trans (Ex.new hp)) upd_same (hds_ex (Ex.new hp) hd)⟩
theorem en_listOfT {xs : List α} (ha : EvD K ta σ H (Tup.mk xs)) : EvN K (tCB (rListS K) (tCons ta tNil)) σ H xs := fun H1 e Q q =>
  ha H1 e _ fun vx H2 e2 hv => by
    obtain ⟨a, vs, rfl, hs, hd⟩ := hd_tup hv
    exact ⟨a, vs, rfl, .inr hs.t, fun p hp => q p _ _ (fresh_back e2 hp) (e2.trans (Ex.new hp)) upd_same (hds_ex (Ex.new hp) hd)⟩
/-! displays -/
def EvAs (K : PySem.W.Frag) (ta : TA) (σ : L2.St) (H : Hp) (xs : List α) : Prop := ∀ H1, Ex H H1 → ∀ Q : List V → Hp → Prop, (∀ vs H2, Ex H1 H2 → Hds K H2 vs xs → Q vs H2) → ta σ H1 Q
theorem eas_nil : EvAs K tNil σ H ([] : List α) := fun H1 _ _ q => q _ H1 (Ex.refl H1) .nil
theorem eas_cons {tr : TA} {x : α} {xs : List α} (h : EvD K te σ H x) (hr : EvAs K tr σ H xs) : EvAs K (tCons te tr) σ H (x :: xs) := fun H1 e _ q =>
  h H1 e _ fun v H2 e2 hv => hr H2 (e.trans e2) _ fun vs H3 e3 hvs => q _ H3 (e2.trans e3) (.cons (hd_ex e3 hv) hvs)
theorem ed_tupA {ta : TA} {xs : List α} (h : EvAs K ta σ H xs) (hl : xs.length ≤ 100000) : EvD K (tTupP ta) σ H (Tup.mk xs) := fun H1 e _ q =>
  h H1 e _ fun vs H2 e2 hv => ⟨sz_of (by rw [hds_len hv]; exact hl), fun p ob hp ho => q _ _ (e2.trans (Ex.new hp)) (of_tup (pl_of upd_same ho) (hds_ex (Ex.new hp) hv))⟩
theorem en_lstA {ta : TA} {xs : List α} (h : EvAs K ta σ H xs) (hl : xs.length ≤ 100000) : EvN K (tLst ta) σ H xs := fun H1 e _ q =>
  h H1 e _ fun vs H2 e2 hv => ⟨sz_of (by rw [hds_len hv]; exact hl), fun p hp => q p _ _ (fresh_back e2 hp) (e2.trans (Ex.new hp)) upd_same (hds_ex (Ex.new hp) hv)⟩
theorem ed_pairA {x : α} {y : β} (h1 : EvD K ta σ H x) (h2 : EvD K tb σ H y) : EvD K (tTupP (tCons ta (tCons tb tNil))) σ H (x, y) := fun H1 e _ q =>
  h1 H1 e _ fun v1 H2 e2 d1 => h2 H2 (e.trans e2) _ fun v2 H3 e3 d2 => ⟨by show 2 ≤ sizeLine; decide, fun p ob hp ho => q _ _ ((e2.trans e3).trans (Ex.new hp)) (of_pair (pl_of upd_same ho) (hd_ex (e3.trans (Ex.new hp)) d1) (hd_ex (Ex.new hp) d2))⟩
theorem ed_t3A {x : α} {y : β} {z : γ} (h1 : EvD K ta σ H x) (h2 : EvD K tb σ H y) (h3 : EvD K tx σ H z) : EvD K (tTupP (tCons ta (tCons tb (tCons tx tNil)))) σ H (T3.mk x y z) := fun H1 e _ q =>
  h1 H1 e _ fun v1 H2 e2 d1 => h2 H2 (e.trans e2) _ fun v2 H3 e3 d2 => h3 H3 ((e.trans e2).trans e3) _ fun v3 H4 e4 d3 => ⟨by show 3 ≤ sizeLine; decide, fun p ob hp ho => q _ _ (((e2.trans e3).trans e4).trans (Ex.new hp))
    (of_t3 (pl_of upd_same ho) (hd_ex ((e3.trans e4).trans (Ex.new hp)) d1) (hd_ex (e4.trans (Ex.new hp)) d2) (hd_ex (Ex.new hp) d3))⟩
/-! slices, tuple + tuple -/
def cutA {α : Type} (xs : List α) (lo hi : Option Int) : List α := (xs.drop (HT.sIx xs.length 0 lo)).take (HT.sIx xs.length xs.length hi - HT.sIx xs.length 0 lo)
theorem cutV_A (xs : List V) (lo hi : Option Int) : cutV xs lo hi = cutA xs lo hi := rfl
theorem hds_cut {vs : List V} {xs : List α} (lo hi : Option Int) (h : Hds K H vs xs) : Hds K H (cutV vs lo hi) (cutA xs lo hi) := by
  rw [cutV_A]
  unfold cutA
  rw [hds_len h]
  exact hds_take _ (hds_drop _ h)
theorem cutA_all {α : Type} (xs : List α) {lo hi : Option Int} (h : HT.sIx xs.length 0 lo = 0 ∧ HT.sIx xs.length xs.length hi = xs.length) : cutA xs lo hi = xs := by
  unfold cutA
  rw [h.1, h.2, List.drop_zero, Nat.sub_zero, List.take_length]
theorem ed_slT {tl th : TO} {xs : List α} {lo hi : Option Int} (h : EvD K te σ H (Tup.mk xs)) (h1 : EvO tl σ H lo) (h2 : EvO th σ H hi) : EvD K (tSl (rSlP K) te tl th) σ H (Tup.mk (cutA xs lo hi)) := fun H1 e _ q =>
  h H1 e _ fun v H2 e2 hv => h1 H2 (e.trans e2) _ fun H3 e3 => h2 H3 ((e.trans e2).trans e3) _ fun H4 e4 => by
    obtain ⟨a, vs, rfl, hs, hd⟩ := hd_tup (hd_ex (e3.trans e4) hv)
    refine ⟨a, vs, rfl, hs.t, fun hw => ?_, fun hw p ob hp ho => q _ _ (((e2.trans e3).trans e4).trans (Ex.new hp)) (of_tup (pl_of upd_same ho) (hds_cut lo hi (hds_ex (Ex.new hp) hd)))⟩
    rw [hds_len hd] at hw
    rw [cutA_all xs hw] at q
    exact q _ _ ((e2.trans e3).trans e4) (of_tup hs hd)
theorem en_slL {tl th : TO} {xs : List α} {lo hi : Option Int} (h : EvD K te σ H xs) (h1 : EvO tl σ H lo) (h2 : EvO th σ H hi) : EvN K (tSl (rSlL K) te tl th) σ H (cutA xs lo hi) := fun H1 e _ q =>
  h H1 e _ fun v H2 e2 hv => h1 H2 (e.trans e2) _ fun H3 e3 => h2 H3 ((e.trans e2).trans e3) _ fun H4 e4 => by
    obtain ⟨a, vs, rfl, hs, hd⟩ := hd_list (hd_ex (e3.trans e4) hv)
    exact ⟨a, vs, rfl, hs, fun p hp => q p _ _ (fresh_back ((e2.trans e3).trans e4) hp) (((e2.trans e3).trans e4).trans (Ex.new hp)) upd_same (hds_cut lo hi (hds_ex (Ex.new hp) hd))⟩
theorem ed_catT {xs ys : List α} (ha : EvD K ta σ H (Tup.mk xs)) (hb : EvD K tb σ H (Tup.mk ys)) (hz : xs.length + ys.length ≤ 100000) : EvD K (tOp (rCatP K) ta tb) σ H (Tup.mk (xs ++ ys)) := fun H1 e Q q =>
  ha H1 e _ fun vx H2 e2 hv => hb H2 (e.trans e2) _ fun vy H3 e3 hw => by
    obtain ⟨a, vs, rfl, hs, hd⟩ := hd_tup (hd_ex e3 hv)
    obtain ⟨b, ws, rfl, hs', hd'⟩ := hd_tup hw
    refine ⟨a, b, vs, ws, rfl, rfl, hs.t, hs'.t, sz_of (by rw [hds_len hd, hds_len hd']; exact hz), fun z => ?_, fun _ z => ?_, fun _ _ p ob hp ho => q _ _ ((e2.trans e3).trans (Ex.new hp)) (of_tup (pl_of upd_same ho) (hds_app (hds_ex (Ex.new hp) hd) (hds_ex (Ex.new hp) hd')))⟩
    · have l := hds_len hd
      rw [z] at l
      have l0 : xs = [] := List.length_eq_zero_iff.mp l.symm
      rw [l0, List.nil_append] at q
      exact q _ _ (e2.trans e3) hw
    · have l := hds_len hd'
      rw [z] at l
      have l0 : ys = [] := List.length_eq_zero_iff.mp l.symm
      rw [l0, List.append_nil] at q
      exact q _ _ (e2.trans e3) (of_tup hs hd)
/-! conditional, known tests -/
theorem ed_if {b : Bool} {x : α} (h : EvT t σ H b) (h1 : b = true → EvD K ta σ H x) (h2 : b = false → EvD K tb σ H x) : EvD K (tIf t ta tb) σ H x := fun H1 e Q q => h H1 e _ fun H2 e2 => by
  cases b with
  | true =>
    show ta σ H2 Q
    exact h1 rfl H2 (e.trans e2) Q fun v H3 e3 => q v H3 (e2.trans e3)
  | false =>
    show tb σ H2 Q
    exact h2 rfl H2 (e.trans e2) Q fun v H3 e3 => q v H3 (e2.trans e3)
/-! comprehensions over a list, a tuple, a range: the items' data, those that the test lets pass -/
def Cd {α β : Type} [DecidableEq α] [Datum α] [DecidableEq β] [Datum β] (K : PySem.W.Frag) (H : Hp) (f : α → Bool) (g : α → β) (xs : List α) (Dl : Addr) (i : Nat) (H' : Hp) : Prop :=
  H Dl = none ∧ Ex H H' ∧ ∃ acc, H' Dl = some (.lst acc) ∧ Hds K H' acc (((xs.take i).filter f).map g) ∧ acc.length ≤ i
theorem cd_turn {f : α → Bool} {g : α → β} {xs : List α} {Dl : Addr} {i : Nat} {x : α} {σ2 : L2.St} [PureD β] (p : Cd K H f g xs Dl i H') (hx : xs[i]? = some x) (hi : i < 50000) (ht : EvT t σ2 H' (f x)) (he : f x = true → EvD K te σ2 H' (g x)) :
  t σ2 H' fun b H3 => if b = true then te σ2 H3 fun y H4 => ∃ acc, H4 Dl = some (.lst acc) ∧ acc.length < sizeLine ∧ Cd K H f g xs Dl (i + 1) (upd H4 Dl (.lst (acc ++ [y]))) else Cd K H f g xs Dl (i + 1) H3 := by
  obtain ⟨p1, p2, acc, p3, p4, p5⟩ := p
  have st : xs.take (i + 1) = xs.take i ++ [x] := by rw [List.take_add_one, hx]; rfl
  refine ht H' (Ex.refl _) _ fun H3 e3 => ?_
  cases hf : f x with
  | true =>
    show te σ2 H3 fun y H4 => ∃ acc, H4 Dl = some (.lst acc) ∧ acc.length < sizeLine ∧ Cd K H f g xs Dl (i + 1) (upd H4 Dl (.lst (acc ++ [y])))
    refine he hf H3 e3 _ fun y H4 e4 hy => ⟨acc, e4 Dl _ (e3 Dl _ p3), sz_lt (by omega), p1, Ex.mut ((p2.trans e3).trans e4) p1, acc ++ [y], upd_same, ?_, ?_⟩
    · have tx : Tx H4 (upd H4 Dl (.lst (acc ++ [y]))) := .mut (by rw [e4 Dl _ (e3 Dl _ p3)]; trivial)
      rw [st, List.filter_append, List.map_append, List.filter_cons, if_pos hf]
      exact hds_app (hds_tx tx (hds_ex (e3.trans e4) p4)) (hds_one (hd_tx tx hy))
    · rw [List.length_append, List.length_singleton]
      omega
  | false =>
    show Cd K H f g xs Dl (i + 1) H3
    refine ⟨p1, p2.trans e3, acc, e3 Dl _ p3, ?_, by omega⟩
    rw [st, List.filter_append, List.map_append, List.filter_cons, if_neg (by rw [hf]; decide)]
    rw [List.filter_nil, List.map_nil, List.append_nil]
    exact hds_ex e3 p4
theorem cd_end {f : α → Bool} {g : α → β} {xs : List α} {Dl : Addr} {H0 H1 : Hp} {Q : VK} (e1 : Ex H0 H1) (q : ∀ p vs H2, H0 p = none → Ex H0 H2 → H2 p = some (.lst vs) → Hds K H2 vs ((xs.filter f).map g) → Q (.ref p) H2)
    {n : Nat} (hn : n = xs.length) {H2 : Hp} (p : Cd K H1 f g xs Dl n H2) : Q (.ref Dl) H2 := by
  obtain ⟨p1, p2, acc, p3, p4, _⟩ := p
  rw [hn, List.take_length] at p4
  exact q Dl acc H2 (fresh_back e1 p1) (e1.trans p2) p3 p4
/-- [te for j in xs if t]: tg tells the slots behind the target's store -/
theorem en_lcL {xs : List α} {tl : TE} {g1 : TG} {vs : List Nat} (f : α → Bool) (g : α → β) [PureD β] (h : EvD K tl σ H xs) (hz : xs.length ≤ 40000)
    (tg : ∀ (v : V) (x : α) H1 (R : L2.St → Hp → Prop), x ∈ xs → Ex H H1 → Hd K H1 v x → (∀ σ2 H2, Ex H1 H2 → wipe σ2 vs = wipe σ vs → EvT t σ2 H2 (f x) → (f x = true → EvD K te σ2 H2 (g x)) → R σ2 H2) → g1 v (wipe σ vs) H1 R) :
    EvN K (tLc (iList K tl) g1 t te vs) σ H ((xs.filter f).map g) := fun H0 e Q q => h H0 e _ fun v H1 e1 hv => by
  obtain ⟨a, ws, rfl, hs, hd⟩ := hd_list hv
  refine ⟨a, rfl, ⟨ws, hs⟩, fun Dl hD => lc_list (xs := ws) (Cd K H1 f g xs Dl) ⟨hD, Ex.new hD, [], upd_same, by rw [List.take_zero]; exact .nil, Nat.le_refl _⟩ (fun i H' _ p => ex_l p.2.1 hs) (fun i y H' hi p => ?_) (fun H' p => cd_end e1 q (hds_len hd) p)⟩
  obtain ⟨x, hx, dx⟩ := hds_getV hd hi
  have hl := (List.getElem?_eq_some_iff.mp hx).1
  refine tg y x H' _ (List.mem_of_getElem? hx) ((e.trans e1).trans p.2.1) (hd_ex p.2.1 dx) fun σ2 H2 e2 w ht he => ⟨w, ?_⟩
  have p' : Cd K H1 f g xs Dl i H2 := by
    obtain ⟨p1, p2, acc, p3, p4, p5⟩ := p
    exact ⟨p1, p2.trans e2, acc, e2 _ _ p3, hds_ex e2 p4, p5⟩
  exact cd_turn p' hx (by omega) ht he
theorem en_lcT {xs : List α} {tl : TE} {g1 : TG} {vs : List Nat} (f : α → Bool) (g : α → β) [PureD β] (h : EvD K tl σ H (Tup.mk xs)) (hz : xs.length ≤ 40000)
    (tg : ∀ (v : V) (x : α) H1 (R : L2.St → Hp → Prop), x ∈ xs → Ex H H1 → Hd K H1 v x → (∀ σ2 H2, Ex H1 H2 → wipe σ2 vs = wipe σ vs → EvT t σ2 H2 (f x) → (f x = true → EvD K te σ2 H2 (g x)) → R σ2 H2) → g1 v (wipe σ vs) H1 R) :
    EvN K (tLc (iTup K tl) g1 t te vs) σ H ((xs.filter f).map g) := fun H0 e Q q => h H0 e _ fun v H1 e1 hv => by
  obtain ⟨a, ws, rfl, hs, hd⟩ := hd_tup hv
  refine ⟨a, rfl, ⟨ws, hs.t⟩, fun Dl hD => lc_tup (xs := ws) (Cd K H1 f g xs Dl) ⟨hD, Ex.new hD, [], upd_same, by rw [List.take_zero]; exact .nil, Nat.le_refl _⟩ (fun i H' _ p => ex_t p.2.1 hs.t) (fun i y H' hi p => ?_) (fun H' p => cd_end e1 q (hds_len hd) p)⟩
  obtain ⟨x, hx, dx⟩ := hds_getV hd hi
  have hl := (List.getElem?_eq_some_iff.mp hx).1
  refine tg y x H' _ (List.mem_of_getElem? hx) ((e.trans e1).trans p.2.1) (hd_ex p.2.1 dx) fun σ2 H2 e2 w ht he => ⟨w, ?_⟩
  have p' : Cd K H1 f g xs Dl i H2 := by
    obtain ⟨p1, p2, acc, p3, p4, p5⟩ := p
    exact ⟨p1, p2.trans e2, acc, e2 _ _ p3, hds_ex e2 p4, p5⟩
  exact cd_turn p' hx (by omega) ht he
/-- over range(n) -/
theorem en_lcR {ta : TA} {g1 : TG} {vs : List Nat} {n : Int} (f : Int → Bool) (g : Int → β) [PureD β] (h : EvA ta σ H [.int n]) (hn : -1000 ≤ n ∧ n ≤ 1000)
    (tg : ∀ (x : Int) H1 (R : L2.St → Hp → Prop), 0 ≤ x → x < n → Ex H H1 → (∀ σ2 H2, Ex H1 H2 → wipe σ2 vs = wipe σ vs → EvT t σ2 H2 (f x) → (f x = true → EvD K te σ2 H2 (g x)) → R σ2 H2) → g1 (.int x) (wipe σ vs) H1 R) :
    EvN K (tLc (iRng1 ta) g1 t te vs) σ H (((upTo n.toNat).filter f).map g) := fun H0 e Q q => h H0 e _ fun H1 e1 => ⟨n, rfl, by omega, by omega, fun Dl hD => by
  have len : (upTo n.toNat).length = n.toNat := by unfold upTo; rw [List.length_map, List.length_range]
  refine lc_range (lo := 0) (n := n.toNat) (Cd K H1 f g (upTo n.toNat) Dl) ⟨hD, Ex.new hD, [], upd_same, by rw [List.take_zero]; exact .nil, Nat.le_refl _⟩ (fun i H' hi p => ?_) (fun H' p => cd_end e1 q len.symm p)
  have hx : (upTo n.toNat)[i]? = some (i : Int) := by
    unfold upTo
    rw [List.getElem?_map, List.getElem?_range hi]
    rfl
  rw [Int.zero_add]
  refine tg (i : Int) H' _ (by omega) (by omega) ((e.trans e1).trans p.2.1) fun σ2 H2 e2 w ht he => ⟨w, ?_⟩
  have p' : Cd K H1 f g (upTo n.toNat) Dl i H2 := by
    obtain ⟨p1, p2, acc, p3, p4, p5⟩ := p
    exact ⟨p1, p2.trans e2, acc, e2 _ _ p3, hds_ex e2 p4, p5⟩
  exact cd_turn p' hx (by omega) ht he⟩
end ev
end OA

/-! OC: calls as packages, own exceptions, a try that keeps its error -/
namespace OA
open PySem PySem.Spec PyProof.Rows L2 Evl
open PySem.W (Datum Tup T3 DatumOrd)

/-! ### 6. calls -/
/-- the module's def x keeps the promise sp, at level k -/
structure Cl (P : Program) (w : World) (K : PySem.W.Frag) (mg : Str → Option Value) (base : Heap) (k : Nat) (x : Str) (sp : Sp) : Prop where
  ex : ∃ (f : Addr) (fd : FuncData) (ps : List Str), FnOk P w K mg base (L2.CX P w) k f fd ps sp ∧ mg x = some (.ref f) ∧ PySem.W.keepIn K (.ref f) = true ∧ Binds K fd ps []
theorem Cl.mono {P : Program} {w : World} {K : PySem.W.Frag} {mg : Str → Option Value} {base : Heap} {j k : Nat} {x : Str} {sp : Sp} (c : Cl P w K mg base j x sp) (h : j ≤ k) : Cl P w K mg base k x sp := by
  obtain ⟨f, fd, ps, F, r⟩ := c.ex
  exact ⟨f, fd, ps, F.mono h, r⟩
/-- where the def x stands -/
structure Df (K : PySem.W.Frag) (mg : Str → Option Value) (x : Str) (st : Stmt) (ps : List Str) (f : Addr) (fd : FuncData) : Prop where
  F : Fun K x x st f fd
  g : mg x = some (.ref f)
  b : Binds K fd ps []
theorem Df.cl {P : Program} {w : World} {K : PySem.W.Frag} {mg : Str → Option Value} {base : Heap} {k : Nat} {x : Str} {st : Stmt} {ps : List Str} {f : Addr} {fd : FuncData} {sp : Sp} (d : Df K mg x st ps f fd) (F : FnOk P w K mg base (L2.CX P w) k f fd ps sp) : Cl P w K mg base k x sp :=
  ⟨f, fd, ps, F, d.g, d.F.kp, d.b⟩
/-- the method m of the class at C -/
structure Mt (P : Program) (w : World) (K : PySem.W.Frag) (mg : Str → Option Value) (base : Heap) (k : Nat) (C : Addr) (m : Str) (sp : Sp) : Prop where
  ex : ∃ (f : Addr) (fd : FuncData) (ps : List Str), FnOk P w K mg base (L2.CX P w) k f fd ps sp ∧ Meth K C m f ∧ Binds K fd ps []
  cl : Cls K C
theorem Mt.mono {P : Program} {w : World} {K : PySem.W.Frag} {mg : Str → Option Value} {base : Heap} {j k : Nat} {C : Addr} {x : Str} {sp : Sp} (c : Mt P w K mg base j C x sp) (h : j ≤ k) : Mt P w K mg base k C x sp := by
  obtain ⟨f, fd, ps, F, r⟩ := c.ex
  exact ⟨⟨f, fd, ps, F.mono h, r⟩, c.cl⟩
structure Dm (K : PySem.W.Frag) (C : Addr) (m qual : Str) (st : Stmt) (ps : List Str) (f : Addr) (fd : FuncData) : Prop where
  F : Fun K m qual st f fd
  m : Meth K C m f
  b : Binds K fd ps []
theorem Dm.mt {P : Program} {w : World} {K : PySem.W.Frag} {mg : Str → Option Value} {base : Heap} {k : Nat} {C : Addr} {m qual : Str} {st : Stmt} {ps : List Str} {f : Addr} {fd : FuncData} {sp : Sp} (d : Dm K C m qual st ps f fd) (c : Cls K C) (F : FnOk P w K mg base (L2.CX P w) k f fd ps sp) : Mt P w K mg base k C m sp :=
  ⟨⟨f, fd, ps, F, d.m, d.b⟩, c⟩
/-- the class x at C is made by its __init__ -/
structure Mkr (P : Program) (w : World) (K : PySem.W.Frag) (mg : Str → Option Value) (base : Heap) (k : Nat) (x : Str) (C : Addr) (sp : Sp) : Prop where
  ex : ∃ (f : Addr) (fd : FuncData) (ps : List Str), FnOk P w K mg base (L2.CX P w) k f fd ps sp ∧ Mk K C f ∧ Binds K fd ps []
  g : mg x = some (.ref C)
structure Di (K : PySem.W.Frag) (mg : Str → Option Value) (x qual : Str) (C : Addr) (st : Stmt) (ps : List Str) (f : Addr) (fd : FuncData) : Prop where
  F : Fun K "__init__" qual st f fd
  m : Mk K C f
  b : Binds K fd ps []
  g : mg x = some (.ref C)
theorem Di.mkr {P : Program} {w : World} {K : PySem.W.Frag} {mg : Str → Option Value} {base : Heap} {k : Nat} {C : Addr} {x qual : Str} {st : Stmt} {ps : List Str} {f : Addr} {fd : FuncData} {sp : Sp} (d : Di K mg x qual C st ps f fd) (F : FnOk P w K mg base (L2.CX P w) k f fd ps sp) : Mkr P w K mg base k x C sp :=
  ⟨⟨f, fd, ps, F, d.m, d.b⟩, d.g⟩
section
variable {X : Cx} {k j : Nat} {x m : Str} {C : Addr} {sp : Sp} {W : WX} {e o : Expr} {es : List Expr} {ta : TE} {t : TA} {p pos apos : Pos}
theorem pe_cl (c : Cl X.prog X.w X.K X.mg X.base k x sp) (hr : Room j X.A) (hk : k ≤ j) (tk : Takes X W) (ha : PA X (e :: es) t) (hg : Gl X x := by rfl) (hdb : (x == ("__debug__" : Str)) = false := by decide)
    (he : starEach (e :: es) X.env = (false, eval e X.env) :: starEach es X.env := by rfl) (hpl : (backTo pos (starEach es X.env)).any (·.1) = false := by rfl) : PE X (.Call (.Name x p) (e :: es) [] pos) (tCallS sp (WE W) t) := by
  obtain ⟨f, fd, ps, F, g, kp, b⟩ := c.ex
  exact pe_callS F (hr.mono hk) hg g kp b (fun σ => passAt tk σ) ha hdb he hpl
theorem pe_mt {pl : Sem Bool} (c : Mt X.prog X.w X.K X.mg X.base k C m sp) (hr : Room j X.A) (hk : k ≤ j) (ho : PE X o ta) (ha : PA X (e :: es) t) (he : starEach (e :: es) X.env = (false, eval e X.env) :: starEach es X.env := by rfl) (hpl : (backTo pos (starEach es X.env)).any (·.1) = false := by rfl)
    (ht : eval (.Call (.Attribute o m apos) (e :: es) [] pos) X.env = (do
      let ov ← eval o X.env
      standAt apos.atName
      let (f, first) ← holding [ov] (getMethod ov m pl)
      callWith pos f first (backTo pos (starEach (e :: es) X.env)) (backToKw pos (keywordEach [] X.env))) := by rfl) :
    PE X (.Call (.Attribute o m apos) (e :: es) [] pos) (tMeth C m sp [] E0 ta t) := by
  obtain ⟨f, fd, ps, F, hm, b⟩ := c.ex
  exact pe_meth ho c.cl hm F (hr.mono hk) b .nil passL ha he hpl ht
theorem pe_mt0 {pl : Sem Bool} (c : Mt X.prog X.w X.K X.mg X.base k C m sp) (hr : Room j X.A) (hk : k ≤ j) (ho : PE X o ta)
    (ht : eval (.Call (.Attribute o m apos) [] [] pos) X.env = (do
      let ov ← eval o X.env
      standAt apos.atName
      let (f, first) ← holding [ov] (getMethod ov m pl)
      callWith pos f first (backTo pos (starEach [] X.env)) (backToKw pos (keywordEach [] X.env))) := by rfl) :
    PE X (.Call (.Attribute o m apos) [] [] pos) (tMeth C m sp [] E0 ta tNil) := by
  obtain ⟨f, fd, ps, F, hm, b⟩ := c.ex
  exact pe_meth0 ho c.cl hm F (hr.mono hk) b .nil passL ht
theorem pe_mk0 (c : Mkr X.prog X.w X.K X.mg X.base k x C sp) (hr : Room j X.A) (hk : k + 1 ≤ j) (hg : Gl X x := by rfl) (hdb : (x == ("__debug__" : Str)) = false := by decide) : PE X (.Call (.Name x p) [] [] pos) (tMake C sp [] E0 tNil) := by
  obtain ⟨f, fd, ps, F, hm, b⟩ := c.ex
  exact pe_make0 hm F (hr.mono hk) hg c.g b .nil passL hdb
theorem pe_mk (c : Mkr X.prog X.w X.K X.mg X.base k x C sp) (hr : Room j X.A) (hk : k + 1 ≤ j) (ha : PA X (e :: es) t) (hg : Gl X x := by rfl) (hdb : (x == ("__debug__" : Str)) = false := by decide) (he : starEach (e :: es) X.env = (false, eval e X.env) :: starEach es X.env := by rfl) (hpl : (backTo pos (starEach es X.env)).any (·.1) = false := by rfl) :
    PE X (.Call (.Name x p) (e :: es) [] pos) (tMake C sp [] E0 t) := by
  obtain ⟨f, fd, ps, F, hm, b⟩ := c.ex
  exact pe_make hm F (hr.mono hk) hg c.g b .nil passL ha hdb he hpl
end

/-! ### 7. own exceptions -/
structure ExcT (K : PySem.W.Frag) (mg : Str → Option Value) (x : Str) (C : Addr) : Prop where
  g : mg x = some (.ref C)
  k : PySem.W.keepIn K (.ref C) = true
  xc : PySem.W.excIn K C [.type "ValueError", .type "Exception", .type "BaseException", .type "object"] "ValueError.__new__" = true
  b : PySem.W.subIn K (.ref C) (.type "BaseException") = some true
  t : PySem.W.typeIn K (.ref C) = some (.type "type")
theorem ps_rs {X : Cx} {x m : Str} {C : Addr} {j : Nat} {p p2 pos pos' : Pos} {W : WX} (T : ExcT X.K X.mg x C) (hc : X.calm = true) (tk : Takes X W) (hg : Gl X x := by rfl) (hdb : (x == ("__debug__" : Str)) = false := by decide) :
    PS X (.Raise (some (.Call (.Name x p) [.Constant (.str m) j p2] [] pos)) none pos') (fun _ σ H => W (.ref C) none σ H) :=
  ps_raise hc tk (pmk_own PySem.F.excBase_ValueError T.xc T.g T.k (raises_own T.b T.t) hg hdb)

/-- an error that a name holds -/
def ExK (cls : Value) (a : Addr) : HO := .ext fun h => ∃ (oe : Obj) (vs : Array Value), h.get? a = some oe ∧ Zc cls none oe ∧ oe.data = .fields vs
section
variable {X : Cx} {pins : List (Addr × Obj)} {σ : L2.St} {H : Hp} {s : Shared} {a : Addr} {oe : Obj} {cls : Value}
theorem exK_ok {P : Program} {w : World} {h : Heap} {vs : Array Value} (e : h.get? a = some oe) (z : Zc cls none oe) (d : oe.data = .fields vs) : ObjOk P w H h a (ExK cls a) :=
  ⟨⟨oe, vs, e, z, d⟩, ⟨oe, e⟩, fun _ _ ⟨o, v, q, r⟩ k => ⟨o, v, k o q, r⟩⟩
theorem inv_track (I : Inv X pins σ H s) {vs : Array Value} (ha : s.heap.get? a = some oe) (hz : Zc cls none oe) (hd : oe.data = .fields vs) (na : H a = none) (nL : a ≠ X.env.locals) (n0 : X.s_0.heap.get? a = none) (nP : ∀ p ∈ X.pn ++ pins, p.1 ≠ a) :
    Inv X pins σ (upd H a (ExK cls a)) s := by
  have ne0 : ∀ b o, X.s_0.heap.get? b = some o → b ≠ a := fun b o e z => by
    rw [z, n0] at e
    cases e
  have neS : ∀ b u, H b = some u → b ≠ a := fun b u e => ne_of_none e na
  refine ⟨I.ok, I.os, I.bare, ⟨I.base.keep, I.base.slot, fun b o e n hx => ?_, I.base.there, fun b xs e => ?_, fun b o u e => ?_, fun b ps e => ?_⟩, I.loc, I.cell, ?_, fun x c e => ?_, fun p hp => ?_, fun b u e => ?_, I.len⟩
  · rw [upd_ne (ne0 b o e)]
    exact I.base.free b o e n hx
  · have q := I.base.tups b xs e
    rw [upd_ne (neS _ _ q)]
    exact q
  · have q := I.base.frzs b o u e
    rw [upd_ne (neS _ _ q)]
    exact q
  · obtain ⟨m, q⟩ := I.base.tbls b ps e
    exact ⟨m, by rw [upd_ne (neS _ _ q)]; exact q⟩
  · rw [upd_ne (Ne.symm nL)]
    exact I.free
  · have ne : c ≠ a := fun z => by
      obtain ⟨v, o, ho, hc⟩ := I.cell x c e
      rw [z, ha] at ho
      cases ho
      rw [hd] at hc
      cases hc
    rw [upd_ne ne]
    exact I.freeC x c e
  · obtain ⟨e, n, ne, nf, d⟩ := I.pin p hp
    exact ⟨e, by rw [upd_ne (nP p hp)]; exact n, ne, nf, d⟩
  · by_cases hb : b = a
    · subst hb
      rw [upd_same] at e
      cases e
      exact exK_ok ha hz hd
    · rw [upd_ne hb] at e
      exact (I.hok b u e).stay (fun c v _ q => q) (fun c q => by rw [upd_ne (neS _ _ q)]; exact q) fun c xs q => by rw [upd_ne (neS _ _ q)]; exact q
end

/-- what a try of the form «body / except x as n: y = n» wishes of an error of its body: slot i is n's, slot k is y's -/
def wKeep (K : PySem.W.Frag) (c : Value) (i k : Nat) (D : Ends) : WX := fun cls d σ H =>
  PySem.W.exmOne K cls c = some true ∧ d = none ∧ ∀ a, H a = none → D.nx (((σ.set i (some (.ref a))).set k (some (.ref a))).set i none) (upd H a (ExK cls a))
section
variable {X : Cx} {x n y : Str} {c : Value} {i k : Nat} {body : List Stmt} {np pos pos' p1 p2 p3 : Pos} {tb : WX → TS}
theorem ps_try_keep (hs : X.stack = X.env :: X.outer) (hf : X.env.frame = some X.env.locals) (hex : X.ex = []) (hN : X.N.Nodup) (hi : X.N[i]? = some n) (hln : X.env.kindOf n = some .local) (hk : X.N[k]? = some y) (hlk : X.env.scope.names.lookup y = some .local)
    (hdn : (n == ("__debug__" : Str)) = false) (hcn : (n == ("__classdict__" : Str)) = false)
    (hc : Names X x c)
    (hb : ∀ (W : WX) (pn : List (Addr × Obj)) (xe : Value → Shared → Prop), Takes (X.tr pn xe) W → PassesOwn (model X.prog X.w) X.A X.env xe → PSs (X.tr pn xe) body (tb W))
    (hsw : ∀ Y : Cx, Y.env = X.env → swapsWith (.Name n p2) (some (.Name y p1)) p3.line Y.env = pure false) :
    PS X (.Try body [.ExceptHandler (some (.Name x np)) (some n) [.Assign [.Name y p1] (.Name n p2) p3] pos'] [] [] pos) (fun D σ H => tb (wKeep X.K c i k D) D σ H) := by
  refine ⟨fun pins s σ H D I h => ?_⟩
  have ok := I.ok
  have hfr : X.A.frames = some (X.env :: X.outer) := by rw [ok.frames, hs]
  have hloc : Loc X.env.scope n := .inl hln
  refine wpAny_Try_except ?_
  refine wpAny_mono ((hb (wKeep X.K c i k D) (X.pn ++ pins) (fun e s₁ => wpAny (model X.prog X.w) X.A (noteFrame e X.env) (fun _ s₂ => wpAny (model X.prog X.w) X.A (setFlight e none) (fun _ s₃ =>
    wpAny (model X.prog X.w) X.A (handleBy e X.env [.ExceptHandler (some (.Name x np)) (some n) [.Assign [.Name y p1] (.Name n p2) p3] pos']) (SP X pins D) X.xe s₃) X.xe s₂) X.xe s₁) (fun u s' xx => ?_) PassesOwn.looking).run [] s σ H D (I.toTry _) h) (fun f s1 hsp => ?_) (fun e s1 he => he)
  · -- the catch
    obtain ⟨a, B, sI, pins', σ', H', cls, d, rfl, J', nb, up, sky, na, os, ag, hb1, hd0, hyes⟩ := xx
    subst hd0
    have J : Inv X pins σ' H' sI := J'.ofTry ok
    have sky' : Sky B (X.env :: X.outer) a (Zc cls none) X.env.locals s'.heap := by rw [← hs]; exact sky
    show wpAny (model X.prog X.w) X.A (noteFrame (.ref a) X.env) _ _ _
    refine Sky.land Zc.steady hfr hf sky' fun h3 fl3 up3 => ?_
    have J3 : Inv X pins σ' H' { s' with heap := h3 } := J.landed nb fl3.1 (up.trans up3) os ag
    obtain ⟨oe3, vs3, he3, hz3, hd3⟩ := fl3.there
    have notFr : ∀ {h : Heap} {o : Obj} {vs : Array Value}, h.FunFrames B (X.env :: X.outer) → h.get? a = some o → o.data = .fields vs → a ∉ frs (X.env :: X.outer) := fun {h o vs} ff e dd hm => by
      obtain ⟨_, o', e', hnf⟩ := ff.mem hm
      rw [e] at e'; cases e'
      exact hnf _ dd
    have nfr := notFr fl3.2.2.1 he3 hd3
    have nL : a ≠ X.env.locals := fun z => nfr (List.mem_filterMap.mpr ⟨X.env, List.mem_cons_self, by rw [hf, z]⟩)
    have nF : a ∉ X.fs := fun hm => by
      obtain ⟨e, he, q⟩ := List.mem_filterMap.mp hm
      exact nfr (List.mem_filterMap.mpr ⟨e, List.mem_cons_of_mem _ he, q⟩)
    -- the error was not there before
    have nI : sI.heap.get? a = none := by
      cases q : sI.heap.get? a with
      | none => rfl
      | some o =>
        have z := nb a o q (by rw [hs]; exact nfr)
        rw [fl3.2.1] at z
        cases z
    have n0 : X.s_0.heap.get? a = none := by
      cases q : X.s_0.heap.get? a with
      | none => rfl
      | some o =>
        obtain ⟨o', z⟩ := J.base.there a o q (by rw [hex]; exact fun z => nomatch z)
        rw [nI] at z
        cases z
    have nP : ∀ p ∈ X.pn ++ pins, p.1 ≠ a := fun p hp z => by
      obtain ⟨e, _⟩ := J.pin p hp
      rw [z, nI] at e
      cases e
    have S3 := J3.suite he3 hd3 na nL nF
    refine wpAny_handleBy_cons (codeAny_handlers_test ?_) (by intro q; cases q)
    have LT : PySem.W.Looks (model X.prog X.w) h3 (typeOf (.ref a)) cls := fun A Q E s k q => wpAny_typeOf_ref (k _ _ he3) (by rw [hz3.1]; exact q)
    have LM := PySem.W.exm_one (M := model X.prog X.w) (J3.kIn) LT hb1
    have test : ∀ {Q : Value → Shared → Prop} {E : Value → Shared → Prop}, Q c { s' with heap := h3 } → wpAny (model X.prog X.w) (X.A.mark (some (.ref a))) (eval (.Name x np) X.env) Q E { s' with heap := h3 } := fun {Q E} q => by
      obtain ⟨hg, hdbg, hm | ⟨hm, hv, hnn⟩⟩ := hc
      · exact ld_glob (X := X.suite a ((a, oe3) :: (X.pn ++ pins))) S3 hg hm q hdbg
      · exact ld_blt (X := X.suite a ((a, oe3) :: (X.pn ++ pins))) S3 hg hm hv q hnn hdbg
    refine test (LM.here ?_)
    refine codeAny_handlers_suite_as ?_
    refine HandSPX.lands_againZ fl3 fun h4 fl4 up4 => ?_
    have J4 : Inv X pins σ' H' { s' with heap := h4 } := J.landed nb fl4.1 ((up.trans up3).trans up4) os ag
    obtain ⟨oe4, vs4, he4, hz4, hd4⟩ := fl4.there
    have S4 := J4.suite he4 hd4 na nL nF
    refine store_ok (X := X.suite a ((a, oe4) :: (X.pn ++ pins))) (v := .ref a) S4 hN hi hloc rfl (fun s5 S5 => ?_) (.inr hln)
    have iσ : i < σ'.length := by
      rw [J.len]
      exact (List.getElem?_eq_some_iff.mp hi).1
    have su : PSs (X.suite a ((a, oe4) :: (X.pn ++ pins))) [.Assign [.Name y p1] (.Name n p2) p3] (tAsg (tVar i) (gName k)) :=
      pss_one (ps_set (X := X.suite a ((a, oe4) :: (X.pn ++ pins))) hN hk (.inl hlk) (pe_var (X := X.suite a ((a, oe4) :: (X.pn ++ pins))) hi (.inl hln) hdn hcn) (hsw _ rfl) (.inr hlk))
    refine wpAny_mono (su.run [] s5 _ H' { nx := fun σ6 H6 => σ6 = (σ'.set i (some (.ref a))).set k (some (.ref a)) ∧ H6 = H', rt := fun _ _ => False } S5 ⟨.ref a, by rw [List.getElem?_set_self iσ], rfl, rfl⟩) (fun f s6 hsp => ?_) (fun _ _ z => False.elim z)
    cases f with
    | next =>
      obtain ⟨σ6, H6, S6, e1, e2⟩ := hsp
      subst e1
      subst e2
      refine gone_ok (X := X.suite a ((a, oe4) :: (X.pn ++ pins))) S6 hN hi hln fun s7 S7 => ?_
      obtain ⟨g7, _⟩ := S7.pin (a, oe4) List.mem_cons_self
      exact ⟨_, _, inv_track (S7.unsuite ok) g7 hz4 hd4 na nL n0 nP, hyes a na⟩
    | brk =>
      obtain ⟨σ6, H6, S6, q6⟩ := hsp
      exact q6.elim
    | cont =>
      obtain ⟨σ6, H6, S6, q6⟩ := hsp
      exact q6.elim
    | ret u =>
      obtain ⟨v6, σ6, H6, S6, r6, q6⟩ := hsp
      exact q6.elim
  · cases f with
    | next =>
      obtain ⟨σ', H', J', q⟩ := hsp
      exact wpAny_execs_nil ⟨σ', H', J'.ofTry ok, q⟩
    | brk =>
      obtain ⟨σ', H', J', q⟩ := hsp
      exact ⟨σ', H', J'.ofTry ok, q⟩
    | cont =>
      obtain ⟨σ', H', J', q⟩ := hsp
      exact ⟨σ', H', J'.ofTry ok, q⟩
    | ret u =>
      obtain ⟨v, σ', H', J', r, q⟩ := hsp
      exact ⟨v, σ', H', J'.ofTry ok, r, q⟩
end

/-! isinstance of a kept error -/
def rIsK (K : PySem.W.Frag) : List V → Hp → VK → Prop := fun xs H Q => ∃ (a D : Addr) (c : V) (cv : Value) (b : Bool), xs = [.ref a, c] ∧ H a = some (ExK (.ref D) a) ∧ ExcC K D ∧ (∀ u, RelV c u → u = cv) ∧ PySem.W.kitOne K (.ref D) cv = some b ∧ Q (.bl b) H
theorem call_isK {X : Cx} : CallR X (.builtin "isinstance") (rIsK X.K) := by
  intro pins s σ H xs us Q I r h
  obtain ⟨a, D, c, cv, b, rfl, ha, C, hcv, e, q⟩ := h
  cases r with
  | cons rx rr =>
    cases rr with
    | cons rt rr =>
      cases rr
      cases rx
      have ec := hcv _ rt
      subst ec
      obtain ⟨⟨oe, vs, hget, hz, hv⟩, _, _⟩ := I.hok a _ ha
      have J : PySem.W.InstAt s.heap a oe D none := by
        obtain ⟨oc, od, oda, osl⟩ := oe
        obtain ⟨h1, h2⟩ := hz
        dsimp only at h1 h2 hv
        subst h1 h2 hv
        exact ⟨hget, rfl, rfl, trivial⟩
      exact PySem.W.kia_one (PySem.W.handS_kitx_exc C.hg C.hk C.hs C.hd C.ha C.hn C.ht C.hm) I.kIn J e (fun z => nomatch z) fun tk => ⟨.bl b, H, I.kept (t' := tk) fun _ _ z => z, rfl, q⟩
end OA

/-! OD: names of readings, statements by data -/
namespace OA
open PySem PySem.Spec PyProof.Rows L2 Evl
open PySem.W (Datum Tup T3 DatumOrd)

/-- where the classes and tables of the program stand -/
structure Ads where
  NestError : Addr := 0
  BadOrder : Addr := 0
  BadBook : Addr := 0
  Unlike : Addr := 0
  BadRule : Addr := 0
  BadNumber : Addr := 0
  BadWeights : Addr := 0
  BadText : Addr := 0
  Rooms : Addr := 0
  Joiner : Addr := 0
  Ruler : Addr := 0
  Scale : Addr := 0
  WORDS : Addr := 0
  SIZES : Addr := 0
  hash : NestedKey → Int := fun _ => 0
  kh : Str → Int := fun _ => 0

abbrev rAddI : R2 := rI0 fun i j => .int (i + j)
abbrev rSubI : R2 := rI0 fun i j => .int (i - j)
abbrev rMulI : R2 := rI CMul fun i j => .int (i * j)
abbrev rDivI : R2 := rI CDiv fun i j => .int (i / j)
abbrev rModI : R2 := rI (fun _ j => 0 < j) fun i j => .int (i % j)
abbrev rLtI : R2 := rI0 fun i j => .bl (decide (i < j))
abbrev rLeI : R2 := rI0 fun i j => .bl (decide (i ≤ j))
abbrev rGtI : R2 := rI0 fun i j => .bl (decide (j < i))
abbrev rGeI : R2 := rI0 fun i j => .bl (decide (j ≤ i))
def rIsNn : R2 := fun x y H Q => y = .non ∧ Q (.bl (decide (x = .non))) H
def rIsNotNn : R2 := fun x y H Q => y = .non ∧ Q (.bl (!decide (x = .non))) H
theorem op_isNn {X : Cx} : OpR X (compareOp .Is) rIsNn := op_isN
theorem op_isNotNn {X : Cx} : OpR X (compareOp .IsNot) rIsNotNn := op_notN
def rAddS : R2 := fun x y H Q => ∃ i j, x = .str i ∧ y = .str j ∧ i.length + j.length ≤ sizeLine ∧ Q (.str (i ++ j)) H
theorem op_addS {X : Cx} : OpR X (binaryOp .Add) rAddS := op_add_str
def rInRg : R2 := fun x y H Q => ∃ i a lo hi, x = V.int i ∧ y = V.ref a ∧ H a = some (.rng lo hi) ∧ Q (.bl (decide (lo ≤ i ∧ i < hi))) H
theorem op_inRg {X : Cx} : OpR X (compareOp .In) rInRg := op_in_rng
def rRange2 : List V → Hp → VK → Prop := fun vs H Q => ∃ i j, vs = [V.int i, V.int j] ∧ ∀ p, H p = none → Q (.ref p) (upd H p (.rng i j))
def tTruQ (K : PySem.W.Frag) (ta : TE) : TT := fun σ H Q => ta σ H fun x H' => ∃ k, TruV K x H' k ∧ Q k H'
def tRs (W : WX) (C : Addr) : TS := fun _ σ H => W (.ref C) none σ H
abbrev W0 : WX := fun _ _ _ _ => False
theorem pe_globI {X : Cx} {x : Str} {n : Int} {pos : Pos} (hm : ∃ t, X.mg x = some (.int n t)) (hg : Gl X x := by rfl) (hd : (x == ("__debug__" : Str)) = false := by decide) : PE X (.Name x pos) (tC (.int n)) := by
  obtain ⟨t, h⟩ := hm
  exact pe_glob hg h ⟨t, rfl⟩ hd
/-- a promise of n arguments -/
def Spn (n : Nat) (b : Sp) : Sp := fun vs H Q E => vs.length = n ∧ b vs H Q E

/-! isinstance: of a kept error, or of a plain value -/
def rIsA (K : PySem.W.Frag) : List V → Hp → VK → Prop := fun vs H Q => rIsK K vs H Q ∨ rIsi K vs H Q
theorem call_isA {X : Cx} : CallR X (.builtin "isinstance") (rIsA X.K) := call_isK.or call_isi
theorem tyx_t {K : PySem.W.Frag} {H : Hp} {a : Addr} {xs : List V} (h : SqT K H a xs) : TyX K H (.ref a) (.type "tuple") := by
  rcases h with (h | ⟨o, h⟩) | ⟨o, _, _, h, hc, _⟩
  · exact .base (.tup h)
  · exact .fTuple h
  · exact .kTuple h hc
theorem tyx_l {K : PySem.W.Frag} {H : Hp} {a : Addr} {xs : List V} (h : SqL K H a xs) : TyX K H (.ref a) (.type "list") := by
  rcases h with (h | ⟨o, h⟩) | ⟨o, _, _, h, hc, _⟩
  · exact .base (.lst h)
  · exact .base (.frz h)
  · exact .kList h hc
/-- what is known of an error class D whose place among the law's seven is j -/
structure KeptT (K : PySem.W.Frag) (A : Ads) (D : Addr) (j : Nat) : Prop where
  ec : ExcC K D
  em : PySem.W.exmOne K (.ref D) (.ref A.NestError) = some true
  k0 : PySem.W.kitOne K (.ref D) (.ref A.BadBook) = some (decide (j = 0))
  k1 : PySem.W.kitOne K (.ref D) (.ref A.BadNumber) = some (decide (j = 1))
  k2 : PySem.W.kitOne K (.ref D) (.ref A.BadOrder) = some (decide (j = 2))
  k3 : PySem.W.kitOne K (.ref D) (.ref A.BadRule) = some (decide (j = 3))
  k4 : PySem.W.kitOne K (.ref D) (.ref A.BadText) = some (decide (j = 4))
  k5 : PySem.W.kitOne K (.ref D) (.ref A.BadWeights) = some (decide (j = 5))
  k6 : PySem.W.kitOne K (.ref D) (.ref A.Unlike) = some (decide (j = 6))
  kv : PySem.W.kitOne K (.ref D) (.type "ValueError") = some true

/-! list.index, list.count of data -/
def rIndexP (K : PySem.W.Frag) : V → List V → Hp → VK → Prop := fun v vs H Q => ∃ (α : Type) (_ : DecidableEq α) (_ : Datum α) (a : Addr) (w : V) (xs : List α) (x : α),
  v = .ref a ∧ vs = [w] ∧ Hd K H (.ref a) xs ∧ Hd K H w x ∧ x ∈ xs ∧ Datum.depth α ≤ 32 ∧ Q (.int (xs.idxOf x : Nat)) H
theorem mt_indexP {X : Cx} (hu : X.A.units + 64 < cLine) : MtR X "list.index" (rIndexP X.K) := by
  intro pins s σ H x xs v us Q I rx rs h
  obtain ⟨α, i1, i2, a, w, ys, y, rfl, rfl, hl, hw, hm, hz, q⟩ := h
  cases rx
  obtain ⟨u, rfl, ru⟩ := vals1 rs
  obtain ⟨b, ws, e, hs, hd⟩ := hd_list hl
  cases e
  obtain ⟨its, rv, pl, hz2⟩ := I.list hs
  refine PySem.W.index_list_datum (α := α) (x := y) (xs := ys) (vs := its) pl.isList (hds_holds I hd rv) (hd_holds I hw ru) (by omega) (by rw [← hds_len hd]; exact hz2) hm ?_
  exact ⟨.int _, H, I.tok _, ⟨_, rfl⟩, q⟩
def rCountP (K : PySem.W.Frag) : V → List V → Hp → VK → Prop := fun v vs H Q => ∃ (α : Type) (_ : DecidableEq α) (_ : Datum α) (a : Addr) (w : V) (xs : List α) (x : α),
  v = .ref a ∧ vs = [w] ∧ Hd K H (.ref a) xs ∧ Hd K H w x ∧ Datum.depth α ≤ 32 ∧ Q (.int ((xs.countP fun y => decide (y = x) : Nat) : Int)) H
theorem mt_countP {X : Cx} (hu : X.A.units + 64 < cLine) : MtR X "list.count" (rCountP X.K) := by
  intro pins s σ H x xs v us Q I rx rs h
  obtain ⟨α, i1, i2, a, w, ys, y, rfl, rfl, hl, hw, hz, q⟩ := h
  cases rx
  obtain ⟨u, rfl, ru⟩ := vals1 rs
  obtain ⟨b, ws, e, hs, hd⟩ := hd_list hl
  cases e
  obtain ⟨its, rv, pl, hz2⟩ := I.list hs
  refine PySem.W.count_list_datum (α := α) (x := y) (xs := ys) (vs := its.toArray) pl.isList (by rw [List.toList_toArray]; exact hds_holds I hd rv) (hd_holds I hw ru) (by omega) ?_
  exact ⟨.int _, H, I.tok _, ⟨_, rfl⟩, q⟩

section st
variable {α β γ δ ε ζ : Type} [DecidableEq α] [Datum α] [DecidableEq β] [Datum β] [DecidableEq γ] [Datum γ] [DecidableEq δ] [Datum δ] [DecidableEq ε] [Datum ε] [DecidableEq ζ] [Datum ζ]
  {K : PySem.W.Frag} {σ : L2.St} {H H' : Hp} {ta tb te tx ty tz' : TE} {t u : TT} {v : V} {D : Ends} {tz tu tw : TS} {sp : Sp} {E : L2.St → XK}
/-! ### statements by data; q_: something behind -/
theorem sd_asg {i : Nat} {x : α} (h : EvD K te σ H x) (k : ∀ v H1, Ex H H1 → Hd K H1 v x → D.nx (σ.set i (some v)) H1) : tAsg te (gName i) D σ H := h H (Ex.refl H) _ k
theorem qd_asg {i : Nat} {x : α} (h : EvD K te σ H x) (k : ∀ v H1, Ex H H1 → Hd K H1 v x → tz D (σ.set i (some v)) H1) : tSeq (tAsg te (gName i)) tz D σ H := h H (Ex.refl H) _ k
theorem sn_asg {i : Nat} {xs : List α} (h : EvN K te σ H xs) (k : ∀ p vs H1, H p = none → Ex H H1 → H1 p = some (.lst vs) → Hds K H1 vs xs → D.nx (σ.set i (some (.ref p))) H1) : tAsg te (gName i) D σ H := h H (Ex.refl H) _ k
theorem qn_asg {i : Nat} {xs : List α} (h : EvN K te σ H xs) (k : ∀ p vs H1, H p = none → Ex H H1 → H1 p = some (.lst vs) → Hds K H1 vs xs → tz D (σ.set i (some (.ref p))) H1) : tSeq (tAsg te (gName i)) tz D σ H := h H (Ex.refl H) _ k
theorem sd_ret {x : α} (h : EvD K te σ H x) (k : ∀ v H1, Ex H H1 → Hd K H1 v x → D.rt v H1) : tRet te D σ H := h H (Ex.refl H) _ k
theorem sn_ret {xs : List α} (h : EvN K te σ H xs) (k : ∀ p vs H1, H p = none → Ex H H1 → H1 p = some (.lst vs) → Hds K H1 vs xs → D.rt (.ref p) H1) : tRet te D σ H := h H (Ex.refl H) _ k
theorem s_rets {v : V} (h : Ev te σ H v) (k : ∀ H1, Ex H H1 → D.rt v H1) : tRet te D σ H := h H (Ex.refl H) _ k
/-! calls -/
theorem cl1 {x : α} {R : VK} (h : EvD K ta σ H x) (k : ∀ v H1, Ex H H1 → Hd K H1 v x → sp [v] H1 R (E σ)) : tCallS sp E (tCons ta tNil) σ H R := h H (Ex.refl H) _ k
theorem cl2 {x : α} {y : β} {R : VK} (h : EvD K ta σ H x) (h2 : EvD K tb σ H y) (k : ∀ v v2 H1, Ex H H1 → Hd K H1 v x → Hd K H1 v2 y → sp [v, v2] H1 R (E σ)) : tCallS sp E (tCons ta (tCons tb tNil)) σ H R :=
  h H (Ex.refl H) _ fun v H1 e1 d1 => h2 H1 e1 _ fun v2 H2 e2 d2 => k v v2 H2 (e1.trans e2) (hd_ex e2 d1) d2
theorem cl3 {x : α} {y : β} {z : γ} {R : VK} (h : EvD K ta σ H x) (h2 : EvD K tb σ H y) (h3 : EvD K tx σ H z) (k : ∀ v v2 v3 H1, Ex H H1 → Hd K H1 v x → Hd K H1 v2 y → Hd K H1 v3 z → sp [v, v2, v3] H1 R (E σ)) : tCallS sp E (tCons ta (tCons tb (tCons tx tNil))) σ H R :=
  h H (Ex.refl H) _ fun v H1 e1 d1 => h2 H1 e1 _ fun v2 H2 e2 d2 => h3 H2 (e1.trans e2) _ fun v3 H3 e3 d3 => k v v2 v3 H3 ((e1.trans e2).trans e3) (hd_ex (e2.trans e3) d1) (hd_ex e3 d2) d3
theorem cl4 {x : α} {y : β} {z : γ} {a : δ} {R : VK} (h : EvD K ta σ H x) (h2 : EvD K tb σ H y) (h3 : EvD K tx σ H z) (h4 : EvD K ty σ H a) (k : ∀ v v2 v3 v4 H1, Ex H H1 → Hd K H1 v x → Hd K H1 v2 y → Hd K H1 v3 z → Hd K H1 v4 a → sp [v, v2, v3, v4] H1 R (E σ)) :
    tCallS sp E (tCons ta (tCons tb (tCons tx (tCons ty tNil)))) σ H R :=
  h H (Ex.refl H) _ fun v H1 e1 d1 => h2 H1 e1 _ fun v2 H2 e2 d2 => h3 H2 (e1.trans e2) _ fun v3 H3 e3 d3 => h4 H3 ((e1.trans e2).trans e3) _ fun v4 H4 e4 d4 => k v v2 v3 v4 H4 (((e1.trans e2).trans e3).trans e4) (hd_ex ((e2.trans e3).trans e4) d1) (hd_ex (e3.trans e4) d2) (hd_ex e4 d3) d4
/-- a call as data -/
theorem ed_cl1 {x : α} {z : ζ} (h : EvD K ta σ H x) (k : ∀ v H1, Ex H H1 → Hd K H1 v x → ∀ (Q : VK) (E : XK), (∀ v H2, Ex H1 H2 → Hd K H2 v z → Q v H2) → sp [v] H1 Q E) : EvD K (tCallS sp E (tCons ta tNil)) σ H z := fun H1 e Q q =>
  h H1 e _ fun v H2 e2 d => k v H2 (e.trans e2) d Q _ fun w H3 e3 d3 => q w H3 (e2.trans e3) d3
theorem ed_cl2 {x : α} {y : β} {z : ζ} (h : EvD K ta σ H x) (h2 : EvD K tb σ H y) (k : ∀ v v2 H1, Ex H H1 → Hd K H1 v x → Hd K H1 v2 y → ∀ (Q : VK) (E : XK), (∀ v H2, Ex H1 H2 → Hd K H2 v z → Q v H2) → sp [v, v2] H1 Q E) : EvD K (tCallS sp E (tCons ta (tCons tb tNil))) σ H z := fun H1 e Q q =>
  h H1 e _ fun v H2 e2 d => h2 H2 (e.trans e2) _ fun v2 H3 e3 d2 => k v v2 H3 ((e.trans e2).trans e3) (hd_ex e3 d) d2 Q _ fun w H4 e4 d4 => q w H4 ((e2.trans e3).trans e4) d4
theorem ed_cl3 {x : α} {y : β} {a : γ} {z : ζ} (h : EvD K ta σ H x) (h2 : EvD K tb σ H y) (h3 : EvD K tx σ H a) (k : ∀ v v2 v3 H1, Ex H H1 → Hd K H1 v x → Hd K H1 v2 y → Hd K H1 v3 a → ∀ (Q : VK) (E : XK), (∀ v H2, Ex H1 H2 → Hd K H2 v z → Q v H2) → sp [v, v2, v3] H1 Q E) :
    EvD K (tCallS sp E (tCons ta (tCons tb (tCons tx tNil)))) σ H z := fun H1 e Q q =>
  h H1 e _ fun v H2 e2 d => h2 H2 (e.trans e2) _ fun v2 H3 e3 d2 => h3 H3 ((e.trans e2).trans e3) _ fun v3 H4 e4 d3 => k v v2 v3 H4 (((e.trans e2).trans e3).trans e4) (hd_ex (e3.trans e4) d) (hd_ex e4 d2) d3 Q _ fun w H5 e5 d5 => q w H5 (((e2.trans e3).trans e4).trans e5) d5
theorem ed_cl4 {x : α} {y : β} {a : γ} {b : δ} {z : ζ} (h : EvD K ta σ H x) (h2 : EvD K tb σ H y) (h3 : EvD K tx σ H a) (h4 : EvD K ty σ H b) (k : ∀ v v2 v3 v4 H1, Ex H H1 → Hd K H1 v x → Hd K H1 v2 y → Hd K H1 v3 a → Hd K H1 v4 b → ∀ (Q : VK) (E : XK), (∀ v H2, Ex H1 H2 → Hd K H2 v z → Q v H2) → sp [v, v2, v3, v4] H1 Q E) :
    EvD K (tCallS sp E (tCons ta (tCons tb (tCons tx (tCons ty tNil))))) σ H z := fun H1 e Q q =>
  h H1 e _ fun v H2 e2 d => h2 H2 (e.trans e2) _ fun v2 H3 e3 d2 => h3 H3 ((e.trans e2).trans e3) _ fun v3 H4 e4 d3 => h4 H4 (((e.trans e2).trans e3).trans e4) _ fun v4 H5 e5 d4 =>
    k v v2 v3 v4 H5 ((((e.trans e2).trans e3).trans e4).trans e5) (hd_ex ((e3.trans e4).trans e5) d) (hd_ex (e4.trans e5) d2) (hd_ex e5 d3) d4 Q _ fun w H6 e6 d6 => q w H6 ((((e2.trans e3).trans e4).trans e5).trans e6) d6
/-- .. as a new list -/
theorem en_cl1 {x : α} {zs : List ζ} (h : EvD K ta σ H x) (k : ∀ v H1, Ex H H1 → Hd K H1 v x → ∀ (Q : VK) (E : XK), (∀ p vs H2, H1 p = none → Ex H1 H2 → H2 p = some (.lst vs) → Hds K H2 vs zs → Q (.ref p) H2) → sp [v] H1 Q E) : EvN K (tCallS sp E (tCons ta tNil)) σ H zs := fun H1 e Q q =>
  h H1 e _ fun v H2 e2 d => k v H2 (e.trans e2) d Q _ fun p vs H3 hp e3 h3 d3 => q p vs H3 (fresh_back e2 hp) (e2.trans e3) h3 d3
theorem en_cl2 {x : α} {y : β} {zs : List ζ} (h : EvD K ta σ H x) (h2 : EvD K tb σ H y) (k : ∀ v v2 H1, Ex H H1 → Hd K H1 v x → Hd K H1 v2 y → ∀ (Q : VK) (E : XK), (∀ p vs H2, H1 p = none → Ex H1 H2 → H2 p = some (.lst vs) → Hds K H2 vs zs → Q (.ref p) H2) → sp [v, v2] H1 Q E) : EvN K (tCallS sp E (tCons ta (tCons tb tNil))) σ H zs := fun H1 e Q q =>
  h H1 e _ fun v H2 e2 d => h2 H2 (e.trans e2) _ fun v2 H3 e3 d2 => k v v2 H3 ((e.trans e2).trans e3) (hd_ex e3 d) d2 Q _ fun p vs H4 hp e4 h4 d4 => q p vs H4 (fresh_back (e2.trans e3) hp) ((e2.trans e3).trans e4) h4 d4
theorem en_cl3 {x : α} {y : β} {a : γ} {zs : List ζ} (h : EvD K ta σ H x) (h2 : EvD K tb σ H y) (h3 : EvD K tx σ H a) (k : ∀ v v2 v3 H1, Ex H H1 → Hd K H1 v x → Hd K H1 v2 y → Hd K H1 v3 a → ∀ (Q : VK) (E : XK), (∀ p vs H2, H1 p = none → Ex H1 H2 → H2 p = some (.lst vs) → Hds K H2 vs zs → Q (.ref p) H2) → sp [v, v2, v3] H1 Q E) :
    EvN K (tCallS sp E (tCons ta (tCons tb (tCons tx tNil)))) σ H zs := fun H1 e Q q =>
  h H1 e _ fun v H2 e2 d => h2 H2 (e.trans e2) _ fun v2 H3 e3 d2 => h3 H3 ((e.trans e2).trans e3) _ fun v3 H4 e4 d3 => k v v2 v3 H4 (((e.trans e2).trans e3).trans e4) (hd_ex (e3.trans e4) d) (hd_ex e4 d2) d3 Q _ fun p vs H5 hp e5 h5 d5 => q p vs H5 (fresh_back ((e2.trans e3).trans e4) hp) (((e2.trans e3).trans e4).trans e5) h5 d5
/-! ints -/
theorem ei_add {i j : Int} (ha : Ev ta σ H (.int i)) (hb : Ev tb σ H (.int j)) : Ev (tOp rAddI ta tb) σ H (.int (i + j)) := ev_op ha hb rv_I0
theorem ei_sub {i j : Int} (ha : Ev ta σ H (.int i)) (hb : Ev tb σ H (.int j)) : Ev (tOp rSubI ta tb) σ H (.int (i - j)) := ev_op ha hb rv_I0
theorem ei_mul {i j : Int} (ha : Ev ta σ H (.int i)) (hb : Ev tb σ H (.int j)) (hc : CMul i j) : Ev (tOp rMulI ta tb) σ H (.int (i * j)) := ev_op ha hb (rv_I hc)
theorem ei_div {i j : Int} (ha : Ev ta σ H (.int i)) (hb : Ev tb σ H (.int j)) (hc : CDiv i j) : Ev (tOp rDivI ta tb) σ H (.int (i / j)) := ev_op ha hb (rv_I hc)
theorem ei_mod {i j : Int} (ha : Ev ta σ H (.int i)) (hb : Ev tb σ H (.int j)) (hc : 0 < j) : Ev (tOp rModI ta tb) σ H (.int (i % j)) := ev_op ha hb (rv_I (C := fun _ j => 0 < j) hc)
theorem ei_lt {i j : Int} (ha : Ev ta σ H (.int i)) (hb : Ev tb σ H (.int j)) : Ev (tOp rLtI ta tb) σ H (.bl (decide (i < j))) := ev_op ha hb rv_I0
theorem ei_le {i j : Int} (ha : Ev ta σ H (.int i)) (hb : Ev tb σ H (.int j)) : Ev (tOp rLeI ta tb) σ H (.bl (decide (i ≤ j))) := ev_op ha hb rv_I0
theorem ei_gt {i j : Int} (ha : Ev ta σ H (.int i)) (hb : Ev tb σ H (.int j)) : Ev (tOp rGtI ta tb) σ H (.bl (decide (j < i))) := ev_op ha hb rv_I0
theorem ei_ge {i j : Int} (ha : Ev ta σ H (.int i)) (hb : Ev tb σ H (.int j)) : Ev (tOp rGeI ta tb) σ H (.bl (decide (j ≤ i))) := ev_op ha hb rv_I0
theorem ei_neg {i : Int} (ha : Ev ta σ H (.int i)) : Ev (tUn (rU fun i => .int (-i)) ta) σ H (.int (-i)) := ev_un ha ru_neg
theorem et_t {b : Bool} (h : Ev te σ H (.bl b)) : EvT (tTest te) σ H b := et_test h
/-- a < b < c of ints -/
theorem ev_chain {r r' : R2} {a b c : Int} {p q : Bool} (ha : Ev ta σ H (.int a)) (hb : Ev tb σ H (.int b)) (hc : Ev tx σ H (.int c)) (h1 : RV r (.int a) (.int b) H (.bl p)) (h2 : RV r' (.int b) (.int c) H (.bl q)) : Ev (tChain r r' ta tb tx) σ H (.bl (p && q)) := fun H1 e Q k =>
  ha H1 e _ fun H2 e2 => hb H2 (e.trans e2) _ fun H3 e3 => h1 H3 ((e.trans e2).trans e3) _ fun H4 e4 => ⟨p, rfl, by
    cases p with
    | true =>
      show tx σ H4 fun w' H5 => r' (.int b) w' H5 Q
      exact hc H4 (((e.trans e2).trans e3).trans e4) _ fun H5 e5 => h2 H5 ((((e.trans e2).trans e3).trans e4).trans e5) Q fun H6 e6 => k H6 ((((e2.trans e3).trans e4).trans e5).trans e6)
    | false =>
      show Q (.bl false) H4
      exact k H4 ((e2.trans e3).trans e4)⟩
theorem ec_lele {a b c : Int} (ha : Ev ta σ H (.int a)) (hb : Ev tb σ H (.int b)) (hc : Ev tx σ H (.int c)) : Ev (tChain rLeI rLeI ta tb tx) σ H (.bl (decide (a ≤ b) && decide (b ≤ c))) := ev_chain ha hb hc rv_I0 rv_I0
theorem ec_lelt {a b c : Int} (ha : Ev ta σ H (.int a)) (hb : Ev tb σ H (.int b)) (hc : Ev tx σ H (.int c)) : Ev (tChain rLeI rLtI ta tb tx) σ H (.bl (decide (a ≤ b) && decide (b < c))) := ev_chain ha hb hc rv_I0 rv_I0
/-- truth of a list, a tuple -/
theorem et_truL {xs : List α} (h : EvD K te σ H xs) : EvT (tTruQ K te) σ H (!xs.isEmpty) := fun H1 e Q q => h H1 e _ fun v H2 e2 hv => by
  obtain ⟨a, vs, rfl, hs, hd⟩ := hd_list hv
  have l := hds_len hd
  refine ⟨!xs.isEmpty, .inl ⟨vs, hs, ?_⟩, q H2 e2⟩
  cases xs with
  | nil => rw [hds_inv0 hd]; rfl
  | cons x xs =>
    obtain ⟨v, r, rfl, _⟩ := hds_inv hd
    rfl
/-- x is None -/
theorem ev_isN {x : V} (h : Ev te σ H x) : Ev (tOp rIsNn te (tC .non)) σ H (.bl (decide (x = .non))) := ev_op h ev_c fun H1 _ Q q => ⟨rfl, q H1 (Ex.refl H1)⟩
theorem ev_isNotN {x : V} (h : Ev te σ H x) : Ev (tOp rIsNotNn te (tC .non)) σ H (.bl (!decide (x = .non))) := ev_op h ev_c fun H1 _ Q q => ⟨rfl, q H1 (Ex.refl H1)⟩
/-- list + list -/
theorem en_cat {xs ys : List α} (ha : EvN K ta σ H xs) (hb : EvN K tb σ H ys) (hz : xs.length + ys.length ≤ 100000) : EvN K (tOp rCat ta tb) σ H (xs ++ ys) := fun H1 e Q q =>
  ha H1 e _ fun p vs H2 hp e2 h2 d2 => hb H2 (e.trans e2) _ fun p' ws H3 hp' e3 h3 d3 => ⟨p, p', vs, ws, rfl, rfl, e3 p _ h2, h3, sz_of (by rw [hds_len d2, hds_len d3]; exact hz), fun r hr =>
    q r _ _ (fresh_back (e2.trans e3) hr) ((e2.trans e3).trans (Ex.new hr)) upd_same (hds_app (hds_ex (e3.trans (Ex.new hr)) d2) (hds_ex (Ex.new hr) d3))⟩
/-- the left one a name that holds a list of ours -/
theorem en_cat1 {xs ys : List α} {p : Addr} {vs : List V} (ha : Ev ta σ H (.ref p)) (hp : H p = some (.lst vs)) (hd : Hds K H vs xs) (hb : EvN K tb σ H ys) (hz : xs.length + ys.length ≤ 100000) : EvN K (tOp rCat ta tb) σ H (xs ++ ys) := fun H1 e Q q =>
  ha H1 e _ fun H2 e2 => hb H2 (e.trans e2) _ fun p' ws H3 hp' e3 h3 d3 => ⟨p, p', vs, ws, rfl, rfl, e3 p _ (e2 p _ (e p _ hp)), h3, sz_of (by rw [hds_len hd, hds_len d3]; exact hz), fun r hr =>
    q r _ _ (fresh_back (e2.trans e3) hr) ((e2.trans e3).trans (Ex.new hr)) upd_same (hds_app (hds_ex (((e.trans e2).trans e3).trans (Ex.new hr)) hd) (hds_ex (Ex.new hr) d3))⟩
theorem en_cat2 {xs ys : List α} {p p' : Addr} {vs ws : List V} (ha : Ev ta σ H (.ref p)) (hp : H p = some (.lst vs)) (hd : Hds K H vs xs) (hb : Ev tb σ H (.ref p')) (hp' : H p' = some (.lst ws)) (hd' : Hds K H ws ys) (hz : xs.length + ys.length ≤ 100000) : EvN K (tOp rCat ta tb) σ H (xs ++ ys) := fun H1 e Q q =>
  ha H1 e _ fun H2 e2 => hb H2 (e.trans e2) _ fun H3 e3 => ⟨p, p', vs, ws, rfl, rfl, e3 p _ (e2 p _ (e p _ hp)), e3 p' _ (e2 p' _ (e p' _ hp')), sz_of (by rw [hds_len hd, hds_len hd']; exact hz), fun r hr =>
    q r _ _ (fresh_back (e2.trans e3) hr) ((e2.trans e3).trans (Ex.new hr)) upd_same (hds_app (hds_ex (((e.trans e2).trans e3).trans (Ex.new hr)) hd) (hds_ex (((e.trans e2).trans e3).trans (Ex.new hr)) hd'))⟩
/-- isinstance of plain data -/
theorem ev_isi {x : α} {T S : String} {b : Bool} (h : EvD K te σ H x) (ht : ∀ v H1, Hd K H1 v x → TyX K H1 v (.type T)) (hb : kitB T S = some b) : Ev (tCB (rIsA K) (tCons te (tCons (tC (.ty S)) tNil))) σ H (.bl b) := fun H1 e Q q =>
  h H1 e _ fun v H2 e2 hv => .inr ⟨v, .ty S, .type T, .type S, b, rfl, .ty S, ht v H2 hv, kit_ty hb, q H2 e2⟩
theorem ty_int {n : Int} {v : V} {H1 : Hp} (h : Hd K H1 v n) : TyX K H1 v (.type "int") := by rw [hd_int h]; exact .base (.int n)
theorem ty_bool {n : Bool} {v : V} {H1 : Hp} (h : Hd K H1 v n) : TyX K H1 v (.type "bool") := by rw [hd_bool h]; exact .base (.bl n)
theorem ty_tup {xs : List α} {v : V} {H1 : Hp} (h : Hd K H1 v (Tup.mk xs)) : TyX K H1 v (.type "tuple") := by
  obtain ⟨a, vs, rfl, hs, _⟩ := hd_tup h
  exact tyx_t hs.t
theorem ty_list {xs : List α} {v : V} {H1 : Hp} (h : Hd K H1 v xs) : TyX K H1 v (.type "list") := by
  obtain ⟨a, vs, rfl, hs, _⟩ := hd_list h
  exact tyx_l hs
theorem ty_t3 {x : α} {y : β} {z : γ} {v : V} {H1 : Hp} (h : Hd K H1 v (T3.mk x y z)) : TyX K H1 v (.type "tuple") := by
  obtain ⟨a, _, _, _, rfl, hs, _⟩ := hd_t3 h
  exact tyx_t hs.t
/-- isinstance of a kept error -/
theorem ev_isk {a D C : Addr} {b : Bool} (h : Ev te σ H (.ref a)) (ha : H a = some (ExK (.ref D) a)) (ec : ExcC K D) (hb : PySem.W.kitOne K (.ref D) (.ref C) = some b) : Ev (tCB (rIsA K) (tCons te (tCons (tC (.ref C)) tNil))) σ H (.bl b) := fun H1 e Q q =>
  h H1 e _ fun H2 e2 => .inl ⟨a, D, .ref C, .ref C, b, rfl, e2 a _ (e a _ ha), ec, fun _ r => r, hb, q H2 e2⟩
theorem ev_iskT {a D : Addr} {T : String} {b : Bool} (h : Ev te σ H (.ref a)) (ha : H a = some (ExK (.ref D) a)) (ec : ExcC K D) (hb : PySem.W.kitOne K (.ref D) (.type T) = some b) : Ev (tCB (rIsA K) (tCons te (tCons (tC (.ty T)) tNil))) σ H (.bl b) := fun H1 e Q q =>
  h H1 e _ fun H2 e2 => .inl ⟨a, D, .ty T, .type T, b, rfl, e2 a _ (e a _ ha), ec, fun _ r => r, hb, q H2 e2⟩
/-- x.index(y), y in the list; x.count(y) -/
theorem ev_index {xs : List α} {x : α} {l : Addr} {vs : List V} (ha : Ev ta σ H (.ref l)) (hl : H l = some (.lst vs)) (hd : Hds K H vs xs) (h : EvD K te σ H x) (hm : x ∈ xs) (hz : Datum.depth α ≤ 32 := by decide) : Ev (tBM K "list" (rIndexP K) ta (tCons te tNil)) σ H (.int (xs.idxOf x : Nat)) := fun H1 e Q q =>
  ha H1 e _ fun H2 e2 => ⟨.inl ⟨rfl, vs, sq_of (e2 l _ (e l _ hl))⟩, h H2 (e.trans e2) _ fun v H3 e3 hv => ⟨α, _, _, l, v, xs, x, rfl, rfl, of_list (sq_of (e3 l _ (e2 l _ (e l _ hl)))) (hds_ex ((e.trans e2).trans e3) hd), hv, hm, hz, q H3 (e2.trans e3)⟩⟩
theorem ev_count {xs : List α} {x : α} {l : Addr} {vs : List V} (ha : Ev ta σ H (.ref l)) (hl : H l = some (.lst vs)) (hd : Hds K H vs xs) (h : EvD K te σ H x) (hz : Datum.depth α ≤ 32 := by decide) : Ev (tBM K "list" (rCountP K) ta (tCons te tNil)) σ H (.int ((xs.countP fun y => decide (y = x) : Nat) : Int)) := fun H1 e Q q =>
  ha H1 e _ fun H2 e2 => ⟨.inl ⟨rfl, vs, sq_of (e2 l _ (e l _ hl))⟩, h H2 (e.trans e2) _ fun v H3 e3 hv => ⟨α, _, _, l, v, xs, x, rfl, rfl, of_list (sq_of (e3 l _ (e2 l _ (e l _ hl)))) (hds_ex ((e.trans e2).trans e3) hd), hv, hz, q H3 (e2.trans e3)⟩⟩
/-- t.index(n) -/
theorem ev_tidx {ns : List Int} {n : Int} (ha : EvD K ta σ H (Tup.mk ns)) (h : Ev te σ H (.int n)) (hm : n ∈ ns) : Ev (tBMP K (rTIdxI K) ta (tCons te tNil)) σ H (.int (ns.idxOf n : Nat)) := fun H1 e Q q =>
  ha H1 e _ fun v H2 e2 hv => by
    obtain ⟨a, vs, rfl, hs, hd⟩ := hd_tup hv
    exact ⟨⟨a, vs, rfl, hs⟩, h H2 (e.trans e2) _ fun H3 e3 => ⟨a, ns, n, rfl, rfl, by rw [← hds_ints hd]; exact ex_t e3 hs.t, hm, q H3 (e2.trans e3)⟩⟩
/-- all of bools -/
theorem ev_all {bs : List Bool} (h : EvD K te σ H bs) : Ev (tCB (rAll K) (tCons te tNil)) σ H (.bl (bs.all id)) := fun H1 e Q q => h H1 e _ fun v H2 e2 hv => by
  obtain ⟨a, vs, rfl, hs, hd⟩ := hd_list hv
  exact ⟨a, bs, rfl, by rw [← hds_bools hd]; exact hs, q H2 e2⟩
theorem ev_sum {ns : List Int} (h : EvD K te σ H ns) : Ev (tCB (rSum K) (tCons te tNil)) σ H (.int ns.sum) := fun H1 e Q q => h H1 e _ fun v H2 e2 hv => by
  obtain ⟨a, vs, rfl, hs, hd⟩ := hd_list hv
  exact ⟨a, ns, rfl, by rw [← hds_ints hd]; exact hs, q H2 e2⟩
/-- x in range(a, b) -/
theorem ev_inRg {i a b : Int} (h : Ev te σ H (.int i)) (ha : Ev ta σ H (.int a)) (hb : Ev tb σ H (.int b)) : Ev (tOp rInRg te (tCB rRange2 (tCons ta (tCons tb tNil)))) σ H (.bl (decide (a ≤ i ∧ i < b))) := fun H1 e Q q =>
  h H1 e _ fun H2 e2 => ha H2 (e.trans e2) _ fun H3 e3 => hb H3 ((e.trans e2).trans e3) _ fun H4 e4 => ⟨a, b, rfl, fun p hp => ⟨i, p, a, b, rfl, rfl, upd_same, q _ (((e2.trans e3).trans e4).trans (Ex.new hp))⟩⟩
/-- xs[::-1] -/
theorem en_rev {xs : List α} (h : EvD K te σ H xs) : EvN K (tRevL K te) σ H xs.reverse := fun H1 e Q q => h H1 e _ fun v H2 e2 hv => by
  obtain ⟨a, vs, rfl, hs, hd⟩ := hd_list hv
  exact ⟨a, vs, rfl, hs, fun p hp => q p _ _ (fresh_back e2 hp) (e2.trans (Ex.new hp)) upd_same (hds_ex (Ex.new hp) (hds_rev hd))⟩
end st
end OA

/-! OG: tuple * int; loops at the end of a suite; t < u -/
namespace OA
open PySem PySem.Spec PyProof.Rows L2 Evl
open PySem.W (Datum Tup T3 DatumOrd)
theorem tuple_mul1 (l : Addr) (items : Array Value) (n : Nat) (dd : Option Addr) (sl : Array (Option Value)) (u : Tok) (hne : items.isEmpty = false) :
    Meets (Builtin.«tuple.__mul__» ⟨[.ref l, .int 1 u], []⟩) (fun _ R s => s.heap.get? l = some { cls := .type "tuple", dict := dd, data := .seq items n, slots := sl } ∧ R (.ok (.ret (Value.ref l))) s) :=
  .of_wp fun prog w A R s h => by
    obtain ⟨hp, g, d, tk, os⟩ := s
    obtain ⟨hl, h⟩ := h
    have f1 := AutoSeq1.idx_int
    have c0 : (decide ((1 : Int) < -(2 ^ 63)) || decide ((1 : Int) ≥ 2 ^ 63)) = false := by decide
    have c1 : (items.isEmpty || (1 : Int) == 1) = true := by rw [hne]; rfl
    wp_walk using wpAny_loadPart' hl
    repeat (first
      | (refine wpAny_ite_false (decide_eq_false (by rw [c0]; exact Bool.false_ne_true)) ?_; wp_walk using wpAny_loadPart' hl)
      | (refine wpAny_ite_true (decide_eq_true c1) ?_; wp_walk using wpAny_loadPart' hl))
    exact ⟨_, rfl, h⟩
/-- t * k, k at least 1 -/
def rRepQ (K : PySem.W.Frag) : R2 := fun x y H Q => ∃ l k xs, x = .ref l ∧ y = .int k ∧ SqT K H l xs ∧ xs ≠ [] ∧ 1 ≤ k ∧ k ≤ 1000 ∧ xs.length ≤ 1000 ∧ (k = 1 → Q (.ref l) H) ∧ (2 ≤ k → ∀ (p : Addr) (o : Obj), H p = none → o.dict = none → Q (.ref p) (upd H p (.frz o (.tup (List.replicate k.toNat xs).flatten))))
section
variable {X : Cx}
theorem op_repQ : OpR X (binaryOp .Mult) (rRepQ X.K) := by
  intro pins s σ H x y v u Q I rx ry h
  obtain ⟨l, k, xs, rfl, rfl, hT, hne, h1, h2, hz, q1, q⟩ := h
  cases rx
  obtain ⟨t, rfl⟩ := ry
  obtain ⟨its, r, ⟨⟨cls, dd, data, sl⟩, ho, hc, n, hd⟩, hs⟩ := I.tuple hT
  simp only at hc hd
  subst hc hd
  have hle : its.length = xs.length := r.length.symm
  have hn : its ≠ [] := fun e => hne (by
    rw [e] at hle
    exact List.eq_nil_of_length_eq_zero hle.symm)
  have hi : its.toArray.isEmpty = false := by
    cases its with
    | nil => exact absurd rfl hn
    | cons a b => rfl
  by_cases hk : k = 1
  · subst hk
    refine wpAny_binaryOp_repeat_ref (T := "tuple") (U := "int") (by decide) ⟨_, ho, rfl⟩ (fun s' => typeIs_int s' 1 t) noFill_tuple_mul F.fills_int_mul F.slot_int_rmul repeat_tuple F.slot_int_index.lookup
      (call_meets F.slot_int_rmul (typeIs_int s 1 t) F.entry_int_rmul (F.args_int_rmul_2 _ _) (int_rmul_tuple 1 t l its.toArray n dd sl)
        ⟨ho, rfl, ⟨_, ho, rfl⟩, call_meets F.slot_tuple_mul ⟨_, ho, rfl⟩ F.entry_tuple_mul (F.args_tuple_mul_2 _ _) (tuple_mul1 l its.toArray n dd sl t hi) ⟨ho, ?_⟩⟩)
    exact ⟨.ref l, H, I, rfl, q1 rfl⟩
  have hk2 : 2 ≤ k := by omega
  have hsz0 : its.toArray.size = xs.length := by rw [List.size_toArray, hle]
  have hm : ((its.toArray.size : Nat) : Int) * k ≤ 1000000 := by
    rw [hsz0]
    have a1 : ((xs.length : Nat) : Int) * k ≤ 1000 * k := Int.mul_le_mul_of_nonneg_right (by omega) (by omega)
    omega
  have flen : (List.replicate k.toNat its).flatten.length ≤ sizeLine := by
    rw [PyProof.Rows.lm_len_rep_flat, hle, sizeLine_eq]
    have a1 : k.toNat * xs.length ≤ 1000 * 1000 := Nat.mul_le_mul (by omega) hz
    omega
  have c0 : (decide (k < -(2 ^ 63)) || decide (k ≥ 2 ^ 63)) = false := by
    rw [decide_eq_false (by omega), decide_eq_false (by omega)] <;> rfl
  have c1 : (its.toArray.isEmpty || k == 1) = false := by
    rw [hi, Bool.false_or]
    exact beq_eq_false_iff_ne.mpr (by omega)
  have c2 : (decide (k ≤ 0) || its.toArray.isEmpty) = false := by
    rw [hi, Bool.or_false]
    exact decide_eq_false (by omega)
  have c4 : Builtin.Tuple.tupleTooMany (((its.toArray.size : Nat) : Int) * k) = false := by
    unfold Builtin.Tuple.tupleTooMany
    rw [sizeLine_eq]
    exact decide_eq_false (by omega)
  refine wpAny_binaryOp_repeat_ref (T := "tuple") (U := "int") (by decide) ⟨_, ho, rfl⟩ (fun s' => typeIs_int s' k t) noFill_tuple_mul F.fills_int_mul F.slot_int_rmul repeat_tuple F.slot_int_index.lookup
    (call_meets F.slot_int_rmul (typeIs_int s k t) F.entry_int_rmul (F.args_int_rmul_2 _ _) (int_rmul_tuple k t l its.toArray n dd sl)
      ⟨ho, rfl, ⟨_, ho, rfl⟩, call_meets F.slot_tuple_mul ⟨_, ho, rfl⟩ F.entry_tuple_mul (F.args_tuple_mul_2 _ _) (tuple_mulW l its.toArray n dd sl k t c0 c1 c2 (by omega) c4 (by rw [size_rep, List.size_toArray]; exact flen)) ⟨ho, ?_⟩⟩)
  rw [size_rep]
  refine ⟨.ref s.heap.objs.size, _, I.laid (t' := s.toks) (o := .frz { cls := .type "tuple", data := .seq (List.replicate k.toNat its).flatten.toArray } (.tup (List.replicate k.toNat xs).flatten)) (fun b ob q => Heap.get?_push_of_some _ q) (Nat.le_refl _) ?_, rfl, q hk2 _ _ (I.hok.fresh (Nat.le_refl _)) rfl⟩
  exact ⟨Heap.get?_push_size _ rfl, by rw [PyProof.Rows.lm_len_rep_flat, sizeLine_eq]; have a1 : k.toNat * xs.length ≤ 1000 * 1000 := Nat.mul_le_mul (by omega) hz; omega, _, r.rep k.toNat, IsTup.new _ _⟩
end
section gen
variable {α β : Type} [DecidableEq α] [Datum α] [DecidableEq β] [Datum β] {K : PySem.W.Frag} {σ : L2.St} {H H' : Hp} {tl ta tb : TE} {g : TG} {tu tz : TS} {D : Ends}
theorem hds_flat {vs : List V} {xs : List α} (h : Hds K H vs xs) : ∀ n, Hds K H (List.replicate n vs).flatten (List.replicate n xs).flatten
  | 0 => hds_nil
  | n + 1 => by
    rw [List.replicate_succ, List.replicate_succ, List.flatten_cons, List.flatten_cons]
    exact hds_app h (hds_flat h n)
theorem en_repL {xs : List α} {n : Int} (h : EvN K ta σ H xs) (hb : Ev tb σ H (.int n)) (hn : 0 ≤ n ∧ n ≤ 1000) (hz : xs.length * n.toNat ≤ 100000) : EvN K (tOp rRep ta tb) σ H (List.replicate n.toNat xs).flatten := fun H1 e Q q =>
  h H1 e _ fun p ws H2 hp e2 h2 d2 => hb H2 (e.trans e2) _ fun H3 e3 => ⟨p, n, ws, rfl, rfl, e3 _ _ h2, by omega, by omega, sz_of (by rw [hds_len d2]; exact hz), fun r hr =>
    q r _ _ (fresh_back (e2.trans e3) hr) ((e2.trans e3).trans (Ex.new hr)) upd_same (hds_flat (hds_ex (e3.trans (Ex.new hr)) d2) _)⟩
theorem ed_repT {xs : List α} {k : Int} (h : EvD K ta σ H (Tup.mk xs)) (hb : Ev tb σ H (.int k)) (hk : 1 ≤ k ∧ k ≤ 1000) (hn : xs ≠ []) (hz : xs.length ≤ 1000) : EvD K (tOp (rRepQ K) ta tb) σ H (Tup.mk (List.replicate k.toNat xs).flatten) := fun H1 e Q q =>
  h H1 e _ fun v H2 e2 hv => hb H2 (e.trans e2) _ fun H3 e3 => by
    obtain ⟨a, vs, rfl, hs, hd⟩ := hd_tup (hd_ex e3 hv)
    refine ⟨a, k, vs, rfl, rfl, hs.t, fun z => ?_, hk.1, hk.2, by rw [hds_len hd]; exact hz, fun z => ?_, fun z p o hp ho => q _ _ ((e2.trans e3).trans (Ex.new hp)) (of_tup (pl_of upd_same ho) (hds_flat (hds_ex (Ex.new hp) hd) _))⟩
    · have l := hds_len hd
      rw [z] at l
      exact hn (List.length_eq_zero_iff.mp l.symm)
    · rw [z] at q
      refine q _ _ (e2.trans e3) ?_
      have : (List.replicate (1 : Int).toNat xs).flatten = xs := by simp
      rw [this]
      exact of_tup hs hd
theorem s_forTD [PureD α] {xs : List α} (h : EvD K tl σ H (Tup.mk xs)) (Pv : Hp → Nat → L2.St → Hp → Prop) (h0 : ∀ H1, Ex H H1 → Pv H1 0 σ H1) (ht : ∀ H1 i σ' H', Pv H1 i σ' H' → Tx H1 H')
    (hs : ∀ H1 i v x σ' H', Ex H H1 → xs[i]? = some x → Hd K H' v x → Pv H1 i σ' H' → g v σ' H' fun σ2 H2 => tu { D with nx := Pv H1 (i + 1), ct := Pv H1 (i + 1), bk := D.nx } σ2 H2)
    (hd : ∀ H1 σ' H', Ex H H1 → Pv H1 xs.length σ' H' → D.nx σ' H') : tFor (iTup K tl) g tu D σ H :=
  h H (Ex.refl H) _ fun v H1 e hv => by
    obtain ⟨a, vs, rfl, hp, hds⟩ := hd_tup hv
    have l := hds_len hds
    refine ⟨a, rfl, ⟨vs, hp.t⟩, for_tup (D := D) (Pv H1) (h0 H1 e) (fun i σ' H' _ p => (tx_p (ht _ _ _ _ p) hp).t) (fun i v σ' H' hi p => ?_) (fun σ' H' p => hd H1 σ' H' e (by rw [← l]; exact p))⟩
    obtain ⟨x, hx, hvx⟩ := hds_getV hds hi
    exact hs H1 i v x σ' H' e hx (hd_tx (ht _ _ _ _ p) hvx) p
theorem s_forLD2 [PureD α] {xs : List α} (h : EvD K tl σ H xs) (Pv : Hp → Nat → L2.St → Hp → Prop) (h0 : ∀ H1, Ex H H1 → Pv H1 0 σ H1) (ht : ∀ H1 i σ' H', Pv H1 i σ' H' → Tx H1 H') (hl : ∀ H1 i σ' H' a vs, Ex H H1 → SqL K H1 a vs → Hds K H1 vs xs → Pv H1 i σ' H' → SqL K H' a vs)
    (hs : ∀ H1 i v x σ' H', Ex H H1 → xs[i]? = some x → Hd K H' v x → Pv H1 i σ' H' → g v σ' H' fun σ2 H2 => tu { D with nx := Pv H1 (i + 1), ct := Pv H1 (i + 1), bk := D.nx } σ2 H2)
    (hd : ∀ H1 σ' H', Ex H H1 → Pv H1 xs.length σ' H' → D.nx σ' H') : tFor (iList K tl) g tu D σ H :=
  h H (Ex.refl H) _ fun v H1 e hv => by
    obtain ⟨a, vs, rfl, hp, hds⟩ := hd_list hv
    have l := hds_len hds
    refine ⟨a, rfl, ⟨vs, hp⟩, for_list (D := D) (Pv H1) (h0 H1 e) (fun i σ' H' _ p => hl H1 i σ' H' a vs e hp hds p) (fun i v σ' H' hi p => ?_) (fun σ' H' p => hd H1 σ' H' e (by rw [← l]; exact p))⟩
    obtain ⟨x, hx, hvx⟩ := hds_getV hds hi
    exact hs H1 i v x σ' H' e hx (hd_tx (ht _ _ _ _ p) hvx) p
/-- over a new list -/
theorem q_forND [PureD α] {xs : List α} (h : EvN K tl σ H xs) (Pv : Hp → Nat → L2.St → Hp → Prop) (h0 : ∀ H1, Ex H H1 → Pv H1 0 σ H1) (ht : ∀ H1 i σ' H', Pv H1 i σ' H' → Tx H1 H') (hl : ∀ p ws H1 i σ' H', H p = none → Ex H H1 → H1 p = some (.lst ws) → Pv H1 i σ' H' → H' p = some (.lst ws))
    (hs : ∀ H1 i v x σ' H', Ex H H1 → xs[i]? = some x → Hd K H' v x → Pv H1 i σ' H' → g v σ' H' fun σ2 H2 => tu { D with nx := Pv H1 (i + 1), ct := Pv H1 (i + 1), bk := tz D } σ2 H2)
    (hd : ∀ H1 σ' H', Ex H H1 → Pv H1 xs.length σ' H' → tz D σ' H') : tSeq (tFor (iList K tl) g tu) tz D σ H :=
  h H (Ex.refl H) _ fun p ws H1 hp e h1 hds => by
    have l := hds_len hds
    refine ⟨p, rfl, ⟨ws, sq_of h1⟩, for_list (D := { D with nx := tz D }) (Pv H1) (h0 H1 e) (fun i σ' H' _ pv => sq_of (hl p ws H1 i σ' H' hp e h1 pv)) (fun i v σ' H' hi pv => ?_) (fun σ' H' pv => hd H1 σ' H' e (by rw [← l]; exact pv))⟩
    obtain ⟨x, hx, hvx⟩ := hds_getV hds hi
    exact hs H1 i v x σ' H' e hx (hd_tx (ht _ _ _ _ pv) hvx) pv
/-- over range(lo, n), of ints on either side of 0 -/
theorem q_forR3 {ta : TA} {j : Nat} {lo n : Int} (h : EvA ta σ H [.int lo, .int n]) (hn : -100000 ≤ lo ∧ lo ≤ 100000 ∧ -100000 ≤ n ∧ n ≤ 100000) (Pv : Nat → L2.St → Hp → Prop) (h0 : ∀ H1, Ex H H1 → Pv 0 σ H1)
    (hs : ∀ (i : Nat) σ' H', lo + (i : Int) < n → Pv i σ' H' → tu { D with nx := Pv (i + 1), ct := Pv (i + 1), bk := tz D } (σ'.set j (some (.int (lo + (i : Int))))) H') (hd : ∀ σ' H', Pv (n - lo).toNat σ' H' → tz D σ' H') : tSeq (tFor (iRng2 ta) (gName j) tu) tz D σ H :=
  h H (Ex.refl H) _ fun H1 e => ⟨lo, n, rfl, ⟨by omega, by omega, by omega, by omega⟩, for_range (D := { D with nx := tz D }) (lo := lo) (n := (n - lo).toNat) Pv (h0 H1 e) (fun i σ' H' hi p => hs i σ' H' (by omega) p) hd⟩
/-- t < u of tuples of ints -/
theorem ev_ltT {ns ms : List Int} (ha : EvD K ta σ H (Tup.mk ns)) (hb : EvD K tb σ H (Tup.mk ms)) : Ev (tOp (rLtT K) ta tb) σ H (.bl (HT.lexLt ns ms)) := fun H1 e Q q =>
  ha H1 e _ fun vx H2 e2 hv => hb H2 (e.trans e2) _ fun vy H3 e3 hw => by
    obtain ⟨a, vs, rfl, hs, hd⟩ := hd_tup (hd_ex e3 hv)
    obtain ⟨b, ws, rfl, hs', hd'⟩ := hd_tup hw
    rw [hds_ints hd] at hs
    rw [hds_ints hd'] at hs'
    exact ⟨a, b, ns, ms, rfl, rfl, hs.t, hs'.t, q H3 (e2.trans e3)⟩
/-- an item of a tuple, as the value that stands there -/
theorem ev_ixP {t : Addr} {us : List V} {i : Int} {u : V} (h : Ev ta σ H (.ref t)) (hp : PlT K H t us) (hi : Ev tb σ H (.int i)) (hu : atI us i = some u) : Ev (tOp (rIx K) ta tb) σ H u := fun H1 e Q q =>
  h H1 e _ fun H2 e2 => hi H2 (e.trans e2) _ fun H3 e3 => .inr (.inl ⟨t, us, i, u, rfl, rfl, (ex_p ((e.trans e2).trans e3) hp).t, hu, q H3 (e2.trans e3)⟩)
theorem qc_asg2 {te : TE} {g : TG} (h : te σ H fun v H1 => g v σ H1 fun σ2 H2 => tz D σ2 H2) : tSeq (tAsg te g) tz D σ H := h
theorem g_pairD {v : V} {x : α} {y : β} {i j : Nat} {Q : L2.St → Hp → Prop} (h : Hd K H v (x, y)) (q : ∀ u w, Hd K H u x → Hd K H w y → Q ((σ.set i (some u)).set j (some w)) H) : gTup K 2 (gCons (gName i) (gCons (gName j) gNil)) v σ H Q := by
  obtain ⟨a, v1, v2, rfl, hp, h1, h2⟩ := hd_pair h
  exact ⟨a, _, rfl, hp.t, rfl, _, _, rfl, _, _, rfl, rfl, q v1 v2 h1 h2⟩
theorem nodup_map {α β : Type} {f : α → β} {l : List α} (nd : l.Nodup) (h : ∀ a ∈ l, ∀ b ∈ l, f a = f b → a = b) : (l.map f).Nodup := by
  unfold List.Nodup
  rw [List.pairwise_map]
  exact List.Pairwise.imp_of_mem (fun {a b} ha hb n e => n (h a ha b hb e)) nd
/-- a, b = t -/
theorem q_unpack2 {te : TE} {x : α} {y : β} {i j : Nat} (h : EvD K te σ H (x, y)) (q : ∀ u v H1, Ex H H1 → Hd K H1 u x → Hd K H1 v y → tz D ((σ.set i (some u)).set j (some v)) H1) : tSeq (tAsg te (gTup K 2 (gCons (gName i) (gCons (gName j) gNil)))) tz D σ H :=
  h H (Ex.refl H) _ fun v H1 e hv => by
    obtain ⟨a, v1, v2, rfl, hp, h1, h2⟩ := hd_pair hv
    exact ⟨a, _, rfl, hp.t, rfl, _, _, rfl, _, _, rfl, rfl, q v1 v2 H1 e h1 h2⟩
end gen
end OA

/-! OH: dicts whose keys are nested tuples -/
namespace OA
open PySem PySem.Spec PyProof.Rows L2 Evl
open PySem.W (Datum Tup T3 DatumOrd)

mutual
/-- a key as a value of the heap -/
theorem nest_is {X : Cx} {pins : List (Addr × Obj)} {σ : L2.St} {H : Hp} {s : Shared} (I : Inv X pins σ H s) : ∀ (k : NestedKey) {v : V} {u : Value}, Dq X.K H v k.data → RelV v u → NestedIs s.heap k u
  | .none, v, u, h, r => by
    rw [NestedKey.data] at h
    cases h
    cases (show u = Value.none from r)
    exact .none
  | .num i, v, u, h, r => by
    rw [NestedKey.data] at h
    cases h
    obtain ⟨t, rfl⟩ := (show ∃ t, u = Value.int i t from r)
    exact .int i t
  | .text x, v, u, h, r => by
    rw [NestedKey.data] at h
    cases h
    obtain ⟨t, rfl⟩ := (show ∃ t, u = Value.str x t from r)
    exact .text x t
  | .tup ks, v, u, h, r => by
    rw [NestedKey.data] at h
    cases h with
    | @tup a xs ds hp hd =>
      cases (show u = Value.ref a from r)
      rcases hp with ⟨o, e, _⟩ | ⟨o, its, n, h1, h2, _, h4, _, h6⟩
      · obtain ⟨e1, _, its, rv, o', e2, hc, n, hd'⟩ := (show ObjOk X.prog X.w H s.heap a (.frz o (.tup xs)) from I.hok a _ e)
        exact .tup (vs := its.toArray) e2 hc hd' (nests_are I ks hd (by simpa using rv))
      · exact .tup (vs := its) (I.kIn _ _ h1) h2 h4 (nests_are I ks hd h6)
theorem nests_are {X : Cx} {pins : List (Addr × Obj)} {σ : L2.St} {H : Hp} {s : Shared} (I : Inv X pins σ H s) : ∀ (ks : List NestedKey) {vs : List V} {us : List Value}, DqAll X.K H vs (NestedKey.datas ks) → Vals vs us → NestedAll s.heap ks us
  | [], vs, us, h, r => by
    rw [NestedKey.datas] at h
    cases h
    cases r
    exact .nil
  | k :: ks, vs, us, h, r => by
    rw [NestedKey.datas] at h
    cases h with
    | cons a b =>
      cases r with
      | cons c d => exact .cons (nest_is I k a c) (nests_are I ks b d)
end
abbrev NE := NestedKey × Addr × V
def entN (hf : NestedKey → Int) (y : NestedKey × Addr × Value) : DictEntry := ⟨hf y.1, .ref y.2.1, y.2.2⟩
abbrev PN : List NE → List (NestedKey × Addr × Value) → Prop := Paired fun x y => x.1 = y.1 ∧ x.2.1 = y.2.1 ∧ RelV x.2.2 y.2.2
def DkN (hf : NestedKey → Int) (xs : List NE) (a : Addr) : HO := .ext fun h => ∃ o es ep ys, h.get? a = some o ∧ o.ExactDict ∧ o.data = .dict es ep ∧ es.toList = ys.map (entN hf) ∧ PN xs ys
/-- at a stands a dict with the entries xs -/
structure IsN (K : PySem.W.Frag) (hf : NestedKey → Int) (H : Hp) (a : Addr) (xs : List NE) : Prop where
  at_ : H a = some (DkN hf xs a)
  key : ∀ x ∈ xs, Dq K H (.ref x.2.1) x.1.data ∧ x.1.depth ≤ 8
  nd : (xs.map (·.1)).Nodup
  sz : xs.length ≤ 100000
  sm : (a == sysModules) = false
def atN (xs : List NE) (k : NestedKey) : Option V := (xs.find? fun x => decide (x.1 = k)).map (·.2.2)
theorem PN.len {xs : List NE} {ys : List (NestedKey × Addr × Value)} (h : PN xs ys) : xs.length = ys.length := Paired.length h
theorem PN.keys {xs : List NE} {ys : List (NestedKey × Addr × Value)} (h : PN xs ys) : xs.map (·.1) = ys.map (·.1) := by
  induction h with
  | nil => rfl
  | cons a b ih => rw [List.map_cons, List.map_cons, ih, a.1]
theorem PN.atk {xs : List NE} {ys : List (NestedKey × Addr × Value)} (h : PN xs ys) (k : NestedKey) : RelO (atN xs k) ((atKey ys k).map (·.2)) := by
  induction h with
  | nil => exact True.intro
  | @cons p q ps qs a b ih =>
    unfold atN atKey
    rw [List.find?_cons, List.find?_cons, ← a.1]
    by_cases e : p.1 = k
    · rw [show decide (p.1 = k) = true from decide_eq_true e]
      exact a.2.2
    · rw [show decide (p.1 = k) = false from decide_eq_false e]
      exact ih
theorem PN.mem {xs : List NE} {ys : List (NestedKey × Addr × Value)} (h : PN xs ys) : ∀ y ∈ ys, ∃ x ∈ xs, x.1 = y.1 ∧ x.2.1 = y.2.1 := by
  induction h with
  | nil => intro y hy; exact nomatch hy
  | @cons p q ps qs a b ih =>
    intro y hy
    rcases List.mem_cons.mp hy with e | hy
    · exact ⟨p, List.mem_cons_self, by rw [e]; exact ⟨a.1, a.2.1⟩⟩
    · obtain ⟨x, hx, r⟩ := ih y hy
      exact ⟨x, List.mem_cons_of_mem _ hx, r⟩
/-- the value of a key anew, the key as it stands -/
def putN (k : NestedKey) (v : V) (x : NE) : NE := if x.1 = k then (x.1, x.2.1, v) else x
theorem PN.put {xs : List NE} {ys : List (NestedKey × Addr × Value)} (h : PN xs ys) (k : NestedKey) {v : V} {u : Value} (r : RelV v u) : PN (xs.map (putN k v)) (ys.map (putAt k u)) := by
  induction h with
  | nil => exact .nil
  | @cons p q ps qs a b ih =>
    refine .cons ?_ ih
    unfold putN putAt
    by_cases e : p.1 = k
    · rw [if_pos e, if_pos (a.1.symm.trans e)]
      exact ⟨a.1, a.2.1, r⟩
    · rw [if_neg e, if_neg fun z => e (a.1.trans z)]
      exact a
theorem PN.snoc {xs : List NE} {ys : List (NestedKey × Addr × Value)} (h : PN xs ys) {k : NestedKey} {b : Addr} {v : V} {u : Value} (r : RelV v u) : PN (xs ++ [(k, b, v)]) (ys ++ [(k, b, u)]) := by
  induction h with
  | nil => exact .cons ⟨rfl, rfl, r⟩ .nil
  | cons a b ih => exact .cons a ih
section
variable {X : Cx} {pins : List (Addr × Obj)} {σ : L2.St} {H : Hp} {s : Shared} {a b : Addr} {xs : List NE} {k : NestedKey} {hf : NestedKey → Int} {A : Around} {E : Value → Shared → Prop}
theorem isN_dict (hw : hf = fun k => k.hash X.w) (I : Inv X pins σ H s) (h : IsN X.K hf H a xs) : ∃ ys, s.heap.DictOfH (nestedKind X.prog X.w) a ys ∧ PN xs ys := by
  obtain ⟨⟨o, es, ep, ys, h1, h2, h3, h4, h5⟩, _, _⟩ := (show ObjOk X.prog X.w H s.heap a (DkN hf xs a) from I.hok a _ h.at_)
  refine ⟨ys, ⟨o, es, ep, h1, h2, h3, ?_, fun y hy => ?_, ?_⟩, h5⟩
  · rw [h4, hw]
    rfl
  · obtain ⟨x, hx, e1, e2⟩ := h5.mem y hy
    obtain ⟨g1, g2⟩ := h.key x hx
    rw [e1, e2] at g1
    rw [e1] at g2
    exact ⟨nest_is I _ g1 rfl, g2⟩
  · rw [← h5.keys]
    exact h.nd
theorem dkN_ok {P : Program} {w : World} {h : Heap} {ys : List (NestedKey × Addr × Value)} (hw : hf = fun k => k.hash w) (d : h.DictOfH (nestedKind P w) a ys) (p : PN xs ys) : ObjOk P w H h a (DkN hf xs a) := by
  obtain ⟨o, es, ep, h1, h2, h3, h4, _, _⟩ := d
  refine ⟨⟨o, es, ep, ys, h1, h2, h3, ?_, p⟩, ⟨o, h1⟩, ?_⟩
  · rw [h4, hw]
    rfl
  · rintro h1 h2 ⟨o, es, ep, ys, e1, r⟩ k
    exact ⟨o, es, ep, ys, k o e1, r⟩
theorem room_n (hu : A.units + 64 < cLine) : (nestedKind X.prog X.w).room A.in1 := by
  show A.in1.units + 8 < cLine
  rw [Around.in1_units]
  omega
theorem kn_is (I : Inv X pins σ H s) (hk : Dq X.K H (.ref b) k.data) (hd : k.depth ≤ 8) : (nestedKind X.prog X.w).is s.heap k b := ⟨nest_is I k hk rfl, hd⟩

def rInN (K : PySem.W.Frag) (hf : NestedKey → Int) (neg : Bool) : R2 := fun x y H Q => ∃ a b xs k, y = .ref a ∧ x = .ref b ∧ IsN K hf H a xs ∧ Dq K H x k.data ∧ k.depth ≤ 8 ∧ Q (.bl (if neg = true then !(atN xs k).isSome else (atN xs k).isSome)) H
theorem op_inN {X : Cx} (hw : hf = fun k => k.hash X.w) (hu : X.A.units + 64 < cLine) : OpR X (compareOp .In) (rInN X.K hf false) := by
  intro pins s σ H x y v u Q I rx ry h
  obtain ⟨a, b, xs, k, rfl, rfl, hn, hk, hd, q⟩ := h
  cases (show u = Value.ref a from ry)
  cases (show v = Value.ref b from rx)
  obtain ⟨ys, dd, p⟩ := isN_dict hw I hn
  refine wpAny_in_heap (room_n hu) (kn_is I hk hd) hn.sm dd ?_
  have e := (p.atk k).isSome_eq
  rw [Option.isSome_map] at e
  rw [← e]
  exact ⟨.bl (atN xs k).isSome, H, I.tok _, rfl, q⟩
theorem op_niN {X : Cx} (hw : hf = fun k => k.hash X.w) (hu : X.A.units + 64 < cLine) : OpR X (compareOp .NotIn) (rInN X.K hf true) := by
  intro pins s σ H x y v u Q I rx ry h
  obtain ⟨a, b, xs, k, rfl, rfl, hn, hk, hd, q⟩ := h
  cases (show u = Value.ref a from ry)
  cases (show v = Value.ref b from rx)
  obtain ⟨ys, dd, p⟩ := isN_dict hw I hn
  refine wpAny_notIn_heap (room_n hu) (kn_is I hk hd) hn.sm dd ?_
  have e := (p.atk k).isSome_eq
  rw [Option.isSome_map] at e
  rw [← e]
  exact ⟨.bl (!(atN xs k).isSome), H, I.tok _, rfl, q⟩
def tNGet (K : PySem.W.Frag) (hf : NestedKey → Int) (td ty : TE) : TE := fun σ H Q => td σ H fun x H1 => ty σ H1 fun y H2 => ∃ a b xs k v, x = .ref a ∧ y = .ref b ∧ IsN K hf H2 a xs ∧ Dq K H2 y k.data ∧ k.depth ≤ 8 ∧ atN xs k = some v ∧ Q v H2
def sNPut (K : PySem.W.Frag) (hf : NestedKey → Int) (td ty tv : TE) : TS := fun D σ H => tv σ H fun v H1 => td σ H1 fun x H2 => ty σ H2 fun y H3 => ∃ a b xs k, x = .ref a ∧ y = .ref b ∧ IsN K hf H3 a xs ∧ Dq K H3 y k.data ∧ k.depth ≤ 8 ∧ ((atN xs k = none ∧ D.nx σ (upd H3 a (DkN hf (xs ++ [(k, b, v)]) a))) ∨ (∃ u, atN xs k = some u ∧ D.nx σ (upd H3 a (DkN hf (xs.map (putN k v)) a))))
def tNNew (hf : NestedKey → Int) : TE := fun _ H Q => ∀ p, H p = none → (p == sysModules) = false → Q (.ref p) (upd H p (DkN hf [] p))
end
section
variable {X : Cx} {o i e value : Expr} {pos pos' tpos : Pos} {td ty tv : TE} {hf : NestedKey → Int}
theorem pe_ndget (hw : hf = fun k => k.hash X.w) (hu : X.A.units + 64 < cLine) (ho : PE X o td) (hi : PE X i ty) (hs : NoSl i := by exact fun _ _ => rfl) : PE X (.Subscript o i pos) (tNGet X.K hf td ty) := by
  refine ⟨fun pins s σ H Q I h => ?_⟩
  refine subD_of PySem.F.slot_dict_getitem.lookup hs (thn (ho.run pins s σ H _ I h) fun u s1 ⟨x, H1, I1, rx, q1⟩ => thn (hi.run pins s1 σ H1 _ I1 q1) fun iv s2 ⟨y, H2, I2, ry, a, b, xs, k, v, ex, ey, hn, hk, hd, hv, q2⟩ => ?_)
  subst ex ey
  obtain rfl : u = Value.ref a := rx
  obtain rfl : iv = Value.ref b := ry
  obtain ⟨ys, dd, p⟩ := isN_dict hw I2 hn
  refine ⟨dd.typeIs, ?_⟩
  obtain ⟨w', hw', rw'⟩ := RelO.some_of (v := v) (o := (atKey ys k).map (·.2)) (by rw [← hv]; exact p.atk k)
  obtain ⟨z, hz, hz2⟩ := Option.map_eq_some_iff.mp hw'
  refine wpAny_getItem_heap (room_n hu) (kn_is I2 hk hd) dd hz ?_
  rw [hz2]
  exact ⟨v, H2, I2.tok _, rw', q2⟩
theorem ps_ndput (hw : hf = fun k => k.hash X.w) (hu : X.A.units + 64 < cLine) (ho : PE X o td) (hi : PE X i ty) (hv : PE X value tv) (hs : swapsWith value (some (.Subscript o i pos')) pos.line X.env = pure false) :
    PS X (.Assign [.Subscript o i pos'] value pos) (sNPut X.K hf td ty tv) := by
  refine ⟨fun pins s σ H D I h => ?_⟩
  refine wpAny_Assign_Subscript (thn (hv.run pins s σ H _ I h) fun r s1 ⟨v, H1, I1, rv, q1⟩ => thn (ho.run pins s1 σ H1 _ I1 q1) fun u s2 ⟨x, H2, I2, rx, q2⟩ => thn (hi.run pins s2 σ H2 _ I2 q2) fun iv s3 ⟨y, H3, I3, ry, a, b, xs, k, ex, ey, hn, hk, hd, h0⟩ => ?_) hs
  subst ex ey
  obtain rfl : u = Value.ref a := rx
  obtain rfl : iv = Value.ref b := ry
  obtain ⟨ys, dd, p⟩ := isN_dict hw I3 hn
  refine wpAny_setItem_heap (hsz := by rw [← p.len]; exact sz_of hn.sz) (room_n hu) (kn_is I3 hk hd) dd fun h' dd' hs' => ?_
  rcases h0 with ⟨h0, q3⟩ | ⟨v0, h0, q3⟩
  · have n0 : atKey ys k = none := by
      have r := p.atk k
      rw [h0] at r
      cases z : atKey ys k with
      | none => rfl
      | some y => rw [z] at r; exact r.elim
    rw [storedH_new n0] at dd'
    refine ⟨σ, _, d_write I3 (by rw [hn.at_]; exact True.intro) hs' ?_ (dkN_ok hw dd' (p.snoc rv)), q3⟩
    obtain ⟨o, _, _, e, _⟩ := dd'
    exact ⟨o, e⟩
  · obtain ⟨w0, hw0, _⟩ := RelO.some_of (v := v0) (o := (atKey ys k).map (·.2)) (by rw [← h0]; exact p.atk k)
    obtain ⟨z, hz, _⟩ := Option.map_eq_some_iff.mp hw0
    rw [storedH_old hz] at dd'
    refine ⟨σ, _, d_write I3 (by rw [hn.at_]; exact True.intro) hs' ?_ (dkN_ok hw dd' (p.put k rv)), q3⟩
    obtain ⟨o, _, _, e, _⟩ := dd'
    exact ⟨o, e⟩
theorem pe_ndnew (hw : hf = fun k => k.hash X.w) : PE X (.Dict [] [] pos) (tNNew hf) := ⟨fun pins s σ H Q I h =>
  wpAny_Dict_empty ⟨.ref s.heap.objs.size, _, I.laid (a := s.heap.objs.size) (o := DkN hf [] s.heap.objs.size) (t' := s.toks) (fun _ _ q => Heap.get?_push_of_some _ q) (Nat.le_refl _) (dkN_ok hw (Heap.DictOfH.new s.heap) .nil), rfl,
    h _ (I.hok.fresh (Nat.le_refl _)) (beq_eq_false_iff_ne.mpr (Ne.symm (Nat.ne_of_lt I.big)))⟩⟩
end

/-! list(d) of such a dict: its keys in their order -/
def rListDN (K : PySem.W.Frag) (hf : NestedKey → Int) : List V → Hp → VK → Prop := fun vs H Q => ∃ a xs, vs = [.ref a] ∧ IsN K hf H a xs ∧ ∀ p, H p = none → Q (.ref p) (upd H p (.lst (xs.map fun x => V.ref x.2.1)))
theorem pn_refs {xs : List NE} {ys : List (NestedKey × Addr × Value)} (h : PN xs ys) : Vals (xs.map fun x => V.ref x.2.1) (ys.map fun y => Value.ref y.2.1) := by
  induction h with
  | nil => exact .nil
  | cons a b ih => exact .cons (by show L2.RelV (V.ref _) (Value.ref _); rw [a.2.1]; rfl) ih
theorem call_list_dN {X : Cx} {hf : NestedKey → Int} (hw : hf = fun k => k.hash X.w) (hc : X.calm = true) : CallR X (.type "list") (rListDN X.K hf) := by
  intro pins s σ H vs us Q I r ⟨a, xs, ea, hn, q⟩
  subst ea
  obtain ⟨u, rfl, ru⟩ := r.one
  cases ru
  obtain ⟨ys, ⟨o, es, ep, e1, e2, e3, e4, _, _⟩, pn⟩ := isN_dict hw I hn
  have len1 : es.size = ys.length := by
    have z := congrArg List.length e4
    rwa [Array.length_toList, List.length_map] at z
  have len2 := pn.len
  have few := hn.sz
  refine PySem.W.kdl_call (kdl_raw hn.sm e2 e3) (I.ok.hd hc) e1 (sz_of (by omega)) fun h' tk out c keep fin it => ?_
  have outs : out.toList = ys.map fun y => Value.ref y.2.1 := by
    refine List.ext_getElem? fun j => ?_
    by_cases hj : j < es.size
    · obtain ⟨v, hv⟩ : ∃ v, out[j]? = some v := ⟨_, Array.getElem?_eq_getElem (by rw [it.1]; exact hj)⟩
      obtain ⟨en, g1, g2⟩ := it.2 j v hv
      rw [← Array.getElem?_toList, e4, List.getElem?_map] at g1
      obtain ⟨y, hy, ey⟩ := Option.map_eq_some_iff.mp g1
      rw [Array.getElem?_toList, hv, List.getElem?_map, hy, g2, ← ey]
      rfl
    · rw [List.getElem?_eq_none (by rw [Array.length_toList, it.1]; omega), List.getElem?_eq_none (by rw [List.length_map]; omega)]
  refine ⟨.ref s.heap.objs.size, _, I.laid (t' := tk) (o := .lst (xs.map fun x => V.ref x.2.1)) keep (Nat.le_refl _) ?_, rfl, q _ (I.hok.fresh (Nat.le_refl _))⟩
  refine ⟨by rw [List.length_map]; exact sz_of few, out.toList, c, ?_, by rw [Array.toArray_toList]; exact fin⟩
  rw [outs]
  exact pn_refs pn

/-! ### keys by data -/
class NKey (α : Type) [DecidableEq α] [Datum α] where
  nk : α → NestedKey
  data : ∀ x, (nk x).data = Datum.toD x
  dn : Nat
  dep : ∀ x, (nk x).depth ≤ dn
  inj : ∀ x y, nk x = nk y → x = y
section
variable {α β : Type} [DecidableEq α] [Datum α] [DecidableEq β] [Datum β]
theorem datas_map : ∀ ks : List NestedKey, NestedKey.datas ks = ks.map NestedKey.data
  | [] => by rw [NestedKey.datas]; rfl
  | k :: ks => by rw [NestedKey.datas, datas_map ks]; rfl
theorem depthAll_le {n : Nat} : ∀ {ks : List NestedKey}, (∀ k ∈ ks, k.depth ≤ n) → NestedKey.depthAll ks ≤ n
  | [], _ => by rw [NestedKey.depthAll]; exact Nat.zero_le _
  | k :: ks, h => by
    rw [NestedKey.depthAll]
    exact Nat.max_le.mpr ⟨h k List.mem_cons_self, depthAll_le fun j hj => h j (List.mem_cons_of_mem _ hj)⟩
theorem map_inj {f : α → NestedKey} (h : ∀ x y, f x = f y → x = y) : ∀ {xs ys : List α}, xs.map f = ys.map f → xs = ys
  | [], [], _ => rfl
  | [], _ :: _, e => by simp at e
  | _ :: _, [], e => by simp at e
  | x :: xs, y :: ys, e => by
    rw [List.map_cons, List.map_cons, List.cons.injEq] at e
    rw [h _ _ e.1, map_inj h e.2]
instance : NKey Int where
  nk := .num
  data := fun x => by rw [NestedKey.data]; rfl
  dn := 0
  dep := fun x => by rw [NestedKey.depth]; exact Nat.le_refl _
  inj := fun x y e => by injection e
instance [NKey α] : NKey (Tup α) where
  nk := fun t => .tup (t.items.map NKey.nk)
  data := fun t => by
    rw [NestedKey.data, datas_map, List.map_map]
    show PyData.tuple _ = PyData.tuple (t.items.map Datum.toD)
    congr 1
    exact List.map_congr_left fun x _ => NKey.data x
  dn := NKey.dn α + 1
  dep := fun t => by
    rw [NestedKey.depth]
    refine Nat.succ_le_succ (depthAll_le fun k hk => ?_)
    obtain ⟨x, _, rfl⟩ := List.mem_map.mp hk
    exact NKey.dep x
  inj := fun x y e => by
    injection e with e
    cases x; cases y
    congr 1
    exact map_inj NKey.inj e
instance [NKey α] [NKey β] : NKey (α × β) where
  nk := fun p => .tup [NKey.nk p.1, NKey.nk p.2]
  data := fun p => by
    rw [NestedKey.data, datas_map, List.map_cons, List.map_cons, List.map_nil, NKey.data, NKey.data]
    rfl
  dn := max (NKey.dn α) (NKey.dn β) + 1
  dep := fun p => by
    rw [NestedKey.depth]
    refine Nat.succ_le_succ (depthAll_le fun k hk => ?_)
    rcases List.mem_cons.mp hk with rfl | hk
    · exact Nat.le_trans (NKey.dep p.1) (Nat.le_max_left _ _)
    · rcases List.mem_cons.mp hk with rfl | hk
      · exact Nat.le_trans (NKey.dep p.2) (Nat.le_max_right _ _)
      · exact nomatch hk
  inj := fun x y e => by
    injection e with e
    rw [List.cons.injEq, List.cons.injEq] at e
    cases x; cases y
    congr 1
    · exact NKey.inj _ _ e.1
    · exact NKey.inj _ _ e.2.1
theorem hd_key [NKey α] {K : PySem.W.Frag} {H : Hp} {v : V} {x : α} (h : Hd K H v x) : Dq K H v (NKey.nk x).data := by
  rw [NKey.data]
  exact h
end
end OA

/-! OI0: set(xs) of a list of ints -/
namespace OA
open PySem PySem.Spec PyProof.Rows L2 Evl
open PySem.W (Datum Tup T3 DatumOrd)
/-- an empty set's object -/
abbrev ob0 (w : World) : Obj := { cls := .type "set", dict := none, data := .set #[] 0 (.fresh 0 0 (!w.params.followText "set-order")) }
section
variable {P : Program} {w : World} {A : Around} {E : Value → Shared → Prop} {s : Shared}
set_option maxHeartbeats 6400000 in
/-- set(xs), xs a list of ints -/
theorem set_of_ints {lx : Addr} {its : Array Value} (ns : List Int) {Q : Value → Shared → Prop} (noH : A.handled = none) (isL : s.heap.IsList lx its) (areI : IntsAre its.toList ns) (bound : ns.length + 1 < scanBound)
    (fin : ∀ (g : Heap) (tk c : Nat), SetR w g s.heap.objs.size (fun j => decide (j ∈ ns)) c → c ≤ ns.length → (∀ b o, s.heap.get? b = some o → g.get? b = some o) → Q (.ref s.heap.objs.size) { s with heap := g, toks := tk }) :
    wpAny (model P w) A (call (.type "set") [.ref lx]) Q E s := by
  have size_eq : its.size = ns.length := by
    have z := IntsAre.length areI
    rwa [Array.length_toList] at z
  have m1 := F.called_set.made
  have m2 := F.called_set.sub
  have m3 := F.called_set.notType
  have m4 := F.called_set.canCreate
  have m5 := F.typeCall_set_1 (.ref lx)
  obtain ⟨k1, k2, m6⟩ := F.called_set.mro
  apply wpAny_call
  apply codeAny_of_tree
  show wpAny _ _ (callAny (.type "set") _) _ _ _
  apply wpAny_pure
  refine ⟨Code.quiet_builtin _ (by decide +kernel), ?_⟩
  apply codeAny_builtin F.entry_type_call
  rw [Around.under_plain (weight_type_call_type "set" [.ref lx] []) rfl]
  repeat (any_goals (first | assumption | wp_step))
  refine codeAny_mono (code_set_led1 (.ref lx) (E := E) (Q₁ := fun y s1 => y = .ref s.heap.objs.size ∧ s1 = { s with heap := s.heap.push (ob0 w) }) ⟨rfl, rfl⟩) ?_
  intro r s1 hr
  cases r with | error z => exact hr | ok fl => ?_
  cases fl with | next => exact hr.elim | brk => exact hr.elim | cont => exact hr.elim | ret y => ?_
  · obtain ⟨rfl, rfl⟩ := hr
    have there : (s.heap.push (ob0 w)).get? s.heap.objs.size = some (ob0 w) := Heap.get?_push_size _ rfl
    have isSet : Shared.TypeIs { s with heap := s.heap.push (ob0 w) } (.ref s.heap.objs.size) "set" := ⟨_, there, rfl⟩
    have i1 := F.called_set.init.lookup
    have i2 := F.called_set.init.bind (.ref s.heap.objs.size)
    repeat (any_goals (first | assumption | wp_step))
    refine codeAny_mono (codeAny_call_builtin (R := wants (fun y s2 => y = .none ∧ ∃ g tk c, s2 = { s with heap := g, toks := tk } ∧ SetR w g s.heap.objs.size (fun j => decide (j ∈ ns)) c ∧ c ≤ ns.length ∧ (∀ b o, s.heap.get? b = some o → g.get? b = some o)) E)
      F.called_set.init.plain F.entry_set_init (check_set_init_1 isSet ?_)) ?_
    · have isL1 : (s.heap.push (ob0 w)).IsList lx its := isL.push _
      have below : lx < s.heap.objs.size := by
        obtain ⟨o, ho, _⟩ := isL
        exact Heap.lt_size ho
      obtain ⟨⟨c0, d0, dat0, sl0⟩, e0, ec, n0, ed⟩ := isL1
      simp only at ec ed
      subst ec ed
      have isL1 : (s.heap.push (ob0 w)).IsList lx its := isL.push _
      have t1 := F.sub_list_set
      have t2 := F.sub_list_frozenset
      have t3 : (Value.type "list" == Value.type "dict") = false := by decide
      unfold Builtin.«set.__init__» noKeywords Builtin.Frozenset.updateFrom
      generalize hIt : pyIter = theIter
      wp_walk
      subst hIt
      apply wpAny_pyIter_list isL1
      apply wpAny_bind
      apply wpAny_runValue
      have noH3 : A.in1.in1.in1.handled = none := by simp [noH]
      have psz : (s.heap.push (ob0 w)).objs.size = s.heap.objs.size + 1 := Heap.size_push ..
      have apart : lx ≠ (s.heap.push (ob0 w)).objs.size := by rw [psz]; exact Nat.ne_of_lt (Nat.lt_succ_of_lt below)
      have vals : ∀ (i : Nat) (v : Value), its[i]? = some v → ∃ k t, ns[i]? = some k ∧ v = .int k t := by
        intro i v hv
        have hi : i < ns.length := size_eq ▸ (Array.getElem?_eq_some_iff.mp hv).1
        obtain ⟨t, e⟩ := PyProof.Rows.IntsAre.int_at areI i v (by rwa [Array.getElem?_toList])
        exact ⟨ns[i], t, List.getElem?_eq_getElem hi, by rw [e, List.getD_eq_getElem?_getD, List.getElem?_eq_getElem hi]; rfl⟩
      refine set_update_ints ((Walks.list noH3 _ lx apart its).toS) s.heap.objs.size (by rw [psz]; simp; exact Nat.ne_of_gt below) ns size_eq bound vals (its.size - 0) 0 _ (by omega) (Nat.zero_le _) ⟨⟨_, Heap.get?_push_size _ rfl, rfl, rfl⟩, isL1.push _⟩ ⟨0, Nat.le_refl 0, setR_new_at (Heap.get?_push_of_some _ there)⟩ ?_
      rintro ⟨g, gs, dr, tk, os⟩ c mv hc R
      have y1 : gs = s.gens := mv.gens
      have y2 : dr = s.drawn := mv.drawn
      have y3 : os = s.os := mv.os
      subst y1 y2 y3
      show wpAny _ _ _ _ _ _
      apply wpAny_pure
      show wpAny _ _ (ret Value.none) _ _ _
      apply wpAny_pure
      refine ⟨rfl, g, tk, c, rfl, R, by omega, ?_⟩
      intro b o e
      have lt : b < s.heap.objs.size := Heap.lt_size e
      refine mv.heap b o ?_ (Heap.get?_push_of_some _ (Heap.get?_push_of_some _ e))
      rw [psz]
      simp
      exact ⟨Nat.ne_of_lt lt, Nat.ne_of_lt (Nat.lt_succ_of_lt lt)⟩
    · intro r2 s2 hr2
      cases r2 with | error z => exact hr2 | ok fl2 => ?_
      cases fl2 with | next => exact hr2.elim | brk => exact hr2.elim | cont => exact hr2.elim | ret y2 => ?_
      · obtain ⟨rfl, g, tk, c, rfl, R, hc, keep⟩ := hr2
        repeat (any_goals (first | assumption | wp_step))
        exact fin _ _ _ R hc keep
end

end OA

/-! OI1: set(xs) of a list of tuples of ints, many of them alike -/
namespace OA
open PySem PySem.Spec PyProof.Rows L2 Evl
open PySem.W (Datum Tup T3 DatumOrd)
theorem nodup_sub {α : Type} [DecidableEq α] : ∀ (m l : List α), l.Nodup → (∀ x ∈ l, x ∈ m) → l.length ≤ m.length
  | [], l, _, h => by
    cases l with
    | nil => exact Nat.le_refl _
    | cons x l => exact nomatch h x List.mem_cons_self
  | a :: m, l, nd, h => by
    have h2 := nodup_sub m (l.erase a) (nd.erase _) fun x hx => by
      have h3 := (nd.mem_erase_iff).mp hx
      rcases List.mem_cons.mp (h x h3.2) with z | z
      · exact (h3.1 z).elim
      · exact z
    rw [List.length_erase] at h2
    rw [List.length_cons]
    split at h2 <;> omega
/-- the tuples of ks are among few -/
def Few (ks : List (Addr × List Int)) : Prop := ∃ D : List (List Int), D.length < 63 ∧ ∀ p ∈ ks, p.2 ∈ D
section
variable {P : Program} {w : World} {A : Around} {E : Value → Shared → Prop} {s : Shared}
/-- the loop that fills the set -/
theorem fill_tups {it : Addr} {foot wr : List Addr} {G : Array GenState → Array GenState → Prop} {n : Nat} {Pv : Nat → Value → Prop} {St : Nat → Shared → Prop}
    (Wk : WalksS P w A.in1 it foot wr G n Pv St) (a : Addr) (na : a ∉ foot) (ks : List (Addr × List Int)) (en : n = ks.length) (few : Few ks) (val : ∀ i v, Pv i v → ∃ p, ks[i]? = some p ∧ v = .ref p.1)
    (g0 : Heap) (tup : ∀ p ∈ ks, IsT P w g0 p.2 p.1) (new : ∀ b, b = a ∨ b ∈ wr → g0.get? b = none) (unit : A.in1.units < cLine) (R : Result → Shared → Prop) :
    ∀ (m i : Nat) (s : Shared), i + m = n → St i s → (∀ b o, g0.get? b = some o → s.heap.get? b = some o) → (∃ L es ep t, SetTR P w s.heap a L es ep t ∧ Got ks i L) →
      (∀ s2 L es ep t, Moved (a :: wr) G s s2 → SetTR P w s2.heap a L es ep t → Got ks n L → (∀ b o, g0.get? b = some o → s2.heap.get? b = some o) → R (.ok (.ret .none)) s2) →
      codeAny (model P w) A (.builtin "set.update.loop" ⟨[.ref a, .ref it], []⟩) R s := by
  obtain ⟨D, hD, inD⟩ := few
  have nw : a ∉ wr := fun z => na (Wk.sub _ z)
  have up : ∀ b ∈ wr, b ∈ a :: wr := fun b z => List.mem_cons_of_mem _ z
  have stay : ∀ {u v : Shared}, Moved wr G u v → (∀ b o, g0.get? b = some o → u.heap.get? b = some o) → ∀ b o, g0.get? b = some o → v.heap.get? b = some o := by
    intro u v mv k b o e
    refine mv.heap b o (fun z => ?_) (k b o e)
    rw [new b (.inr z)] at e
    cases e
  have move : ∀ {u v : Shared} {L : List (Addr × List Int)} {es ep t} {i : Nat}, Moved wr G u v → (∀ b o, g0.get? b = some o → u.heap.get? b = some o) → Got ks i L → SetTR P w u.heap a L es ep t → SetTR P w v.heap a L es ep t := by
    intro u v L es ep t i mv k g r
    exact r.keep (fun o e => mv.heap a o nw e) fun p hp => isT_keep (tup p (List.mem_of_mem_take (g.sub p hp))) (stay mv k)
  intro m
  induction m with
  | zero =>
    intro i s hi st k ⟨L, es, ep, t, r, g⟩ fin
    obtain rfl : i = n := hi
    apply codeAny_builtin F.entry_set_update_loop
    rw [Around.under_plainId F.plain_set_update_loop]
    show wpAny _ A.in1 (pyNext (.ref it) >>= _) _ _ s
    apply wpAny_bind
    refine Wk.done s _ _ st fun s2 mv => ?_
    show wpAny _ A.in1 (ret Value.none) _ _ s2
    exact wpAny_pure (fin s2 L es ep t (mv.mono up) (move mv k g r) g (stay mv k))
  | succ m ih =>
    intro i s hi st k ⟨L, es, ep, t, r, g⟩ fin
    have lt : i < n := by omega
    apply codeAny_builtin F.entry_set_update_loop
    rw [Around.under_plainId F.plain_set_update_loop]
    show wpAny _ A.in1 (pyNext (.ref it) >>= _) _ _ s
    apply wpAny_bind
    refine Wk.item i s _ _ lt st fun v s2 pv st2 mv => ?_
    obtain ⟨p, hp, rfl⟩ := val i v pv
    have k2 := stay mv k
    have mem : p ∈ ks := List.mem_of_getElem? hp
    have isp : IsT P w s2.heap p.2 p.1 := isT_keep (tup p mem) k2
    have r1 : SetTR P w s2.heap a L es ep t := move mv k g r
    -- the set has room
    have room : L.length + 1 < 64 := by
      have := nodup_sub D (L.map (·.2)) r.nd fun x hx => by
        obtain ⟨q, hq, rfl⟩ := List.mem_map.mp hx
        exact inD q (List.mem_of_mem_take (g.sub q hq))
      rw [List.length_map] at this
      omega
    show wpAny _ A.in1 (holding [Value.ref p.1] (setAdd a (.ref p.1)) >>= _) _ _ s2
    apply wpAny_bind
    apply wpAny_holding
    unfold setAdd
    apply wpAny_holding
    apply wpAny_bind
    apply wpAny_pyHash_tuple unit isp
    refine add_at (s := { s2 with toks := s2.toks + (p.2.length + 1) }) r1 isp unit room fun b g2 L2 es2 ep2 t2 same r2 c1 c2 => ?_
    have g3 : Got ks (i + 1) L2 := by
      by_cases c : p.2 ∈ L.map (·.2)
      · rw [c1 c]
        exact g.same hp c
      · exact g.more hp (c2 c)
    have k3 : ∀ b o, g0.get? b = some o → g2.get? b = some o := by
      intro b o e
      have nb : b ≠ a := fun z => by
        rw [new b (.inl z)] at e
        cases e
      exact (same.2 b nb).trans (k2 b o e)
    apply wpAny_pure
    refine ⟨plainId_quiet F.plain_set_update_loop _, ih (i + 1) _ (by omega) ?_ k3 ⟨L2, es2, ep2, t2, r2, g3⟩ fun s3 L3 es3 ep3 t3 mv3 r3 g4 k4 => ?_⟩
    · refine Wk.frame _ s2 _ _ st2 (Nat.le_add_right _ _) fun b hb o e => ?_
      rw [same.2 b fun z : b = a => na (z ▸ hb)]
      exact e
    · refine fin s3 L3 es3 ep3 t3 (Moved.trans Wk.gtrans ((mv.mono up).then_heap (Nat.le_add_right _ _) fun b o hb e => ?_) mv3) r3 g4 k4
      rw [same.2 b fun z : b = a => hb (z ▸ List.mem_cons_self)]
      exact e
set_option maxHeartbeats 6400000 in
/-- set(xs), xs a list of tuples of ints -/
theorem set_of_tups {lx : Addr} {its : Array Value} (ks : List (Addr × List Int)) {Q : Value → Shared → Prop} (noH : A.handled = none) (isL : s.heap.IsList lx its) (are : its.toList = ks.map fun p => Value.ref p.1) (tup : ∀ p ∈ ks, IsT P w s.heap p.2 p.1) (few : Few ks) (unit : A.units + 3 < cLine)
    (fin : ∀ (g : Heap) (tk : Nat) L es ep t, SetTR P w g s.heap.objs.size L es ep t → Got ks ks.length L → (∀ b o, s.heap.get? b = some o → g.get? b = some o) → Q (.ref s.heap.objs.size) { s with heap := g, toks := tk }) :
    wpAny (model P w) A (call (.type "set") [.ref lx]) Q E s := by
  have size_eq : its.size = ks.length := by
    have z := congrArg List.length are
    rwa [Array.length_toList, List.length_map] at z
  have m1 := F.called_set.made
  have m2 := F.called_set.sub
  have m3 := F.called_set.notType
  have m4 := F.called_set.canCreate
  have m5 := F.typeCall_set_1 (.ref lx)
  obtain ⟨k1, k2, m6⟩ := F.called_set.mro
  apply wpAny_call
  apply codeAny_of_tree
  show wpAny _ _ (callAny (.type "set") _) _ _ _
  apply wpAny_pure
  refine ⟨Code.quiet_builtin _ (by decide +kernel), ?_⟩
  apply codeAny_builtin F.entry_type_call
  rw [Around.under_plain (weight_type_call_type "set" [.ref lx] []) rfl]
  repeat (any_goals (first | assumption | wp_step))
  refine codeAny_mono (code_set_led1 (.ref lx) (E := E) (Q₁ := fun y s1 => y = .ref s.heap.objs.size ∧ s1 = { s with heap := s.heap.push (ob0 w) }) ⟨rfl, rfl⟩) ?_
  intro r s1 hr
  cases r with | error z => exact hr | ok fl => ?_
  cases fl with | next => exact hr.elim | brk => exact hr.elim | cont => exact hr.elim | ret y => ?_
  · obtain ⟨rfl, rfl⟩ := hr
    have there : (s.heap.push (ob0 w)).get? s.heap.objs.size = some (ob0 w) := Heap.get?_push_size _ rfl
    have isSet : Shared.TypeIs { s with heap := s.heap.push (ob0 w) } (.ref s.heap.objs.size) "set" := ⟨_, there, rfl⟩
    have i1 := F.called_set.init.lookup
    have i2 := F.called_set.init.bind (.ref s.heap.objs.size)
    repeat (any_goals (first | assumption | wp_step))
    refine codeAny_mono (codeAny_call_builtin (R := wants (fun y s2 => y = .none ∧ ∃ g tk L es ep t, s2 = { s with heap := g, toks := tk } ∧ SetTR P w g s.heap.objs.size L es ep t ∧ Got ks ks.length L ∧ (∀ b o, s.heap.get? b = some o → g.get? b = some o)) E)
      F.called_set.init.plain F.entry_set_init (check_set_init_1 isSet ?_)) ?_
    · have isL1 : (s.heap.push (ob0 w)).IsList lx its := isL.push _
      have below : lx < s.heap.objs.size := by
        obtain ⟨o, ho, _⟩ := isL
        exact Heap.lt_size ho
      obtain ⟨⟨c0, d0, dat0, sl0⟩, e0, ec, n0, ed⟩ := isL1
      simp only at ec ed
      subst ec ed
      have isL1 : (s.heap.push (ob0 w)).IsList lx its := isL.push _
      have t1 := F.sub_list_set
      have t2 := F.sub_list_frozenset
      have t3 : (Value.type "list" == Value.type "dict") = false := by decide
      unfold Builtin.«set.__init__» noKeywords Builtin.Frozenset.updateFrom
      generalize hIt : pyIter = theIter
      wp_walk
      subst hIt
      apply wpAny_pyIter_list isL1
      apply wpAny_bind
      apply wpAny_runValue
      have noH3 : A.in1.in1.in1.handled = none := by simp [noH]
      have psz : (s.heap.push (ob0 w)).objs.size = s.heap.objs.size + 1 := Heap.size_push ..
      have apart : lx ≠ (s.heap.push (ob0 w)).objs.size := by rw [psz]; exact Nat.ne_of_lt (Nat.lt_succ_of_lt below)
      have vals : ∀ (i : Nat) (v : Value), its[i]? = some v → ∃ p, ks[i]? = some p ∧ v = .ref p.1 := by
        intro i v hv
        rw [← Array.getElem?_toList, are, List.getElem?_map] at hv
        obtain ⟨p, hp, e⟩ := Option.map_eq_some_iff.mp hv
        exact ⟨p, hp, e.symm⟩
      have free : ∀ b, s.heap.objs.size ≤ b → s.heap.get? b = none := by
        intro b hb
        cases q : s.heap.get? b with
        | none => rfl
        | some o => exact absurd (Heap.lt_size q) (Nat.not_lt.mpr hb)
      refine fill_tups ((Walks.list noH3 _ lx apart its).toS) s.heap.objs.size (by rw [psz]; simp; exact Nat.ne_of_gt below) ks size_eq few vals s.heap tup ?_ unit _ its.size 0 _ (Nat.zero_add _) ⟨⟨_, Heap.get?_push_size _ rfl, rfl, rfl⟩, isL1.push _⟩ (fun b o e => Heap.get?_push_of_some _ (Heap.get?_push_of_some _ e)) ⟨[], #[], 0, _, setTR_fresh (Heap.get?_push_of_some _ there), Got.zero ks⟩ ?_
      · intro b hb
        rcases hb with rfl | hb
        · exact free _ (Nat.le_refl _)
        · rw [List.mem_singleton.mp hb, psz]
          exact free _ (Nat.le_succ _)
      · rintro ⟨g, gs, dr, tk, os⟩ L es ep t mv r got keep
        have y1 : gs = s.gens := mv.gens
        have y2 : dr = s.drawn := mv.drawn
        have y3 : os = s.os := mv.os
        subst y1 y2 y3
        show wpAny _ _ _ _ _ _
        apply wpAny_pure
        show wpAny _ _ (ret Value.none) _ _ _
        apply wpAny_pure
        rw [size_eq] at got
        exact ⟨rfl, g, tk, L, es, ep, t, rfl, r, got, keep⟩
    · intro r2 s2 hr2
      cases r2 with | error z => exact hr2 | ok fl2 => ?_
      cases fl2 with | next => exact hr2.elim | brk => exact hr2.elim | cont => exact hr2.elim | ret y2 => ?_
      · obtain ⟨rfl, g, tk, L, es, ep, t, rfl, r, got, keep⟩ := hr2
        repeat (any_goals (first | assumption | wp_step))
        exact fin _ _ _ _ _ _ r got keep
end
end OA

/-! OI: sets that are sorted at once, dict of a tuple of pairs -/
namespace OA
open PySem PySem.Spec PyProof.Rows L2 Evl
open PySem.W (Datum Tup T3 DatumOrd)
/-! ### sorted(set(xs)) -/
/-- a reading made monotone -/
def tUp (t : TE) : TE := fun σ H Q => ∃ Q0 : VK, t σ H Q0 ∧ ∀ x H1, Q0 x H1 → Q x H1
theorem PE.up {X : Cx} {e : Expr} {t : TE} (h : PE X e t) : PE X e (tUp t) := ⟨fun pins s σ H Q I ⟨Q0, h0, i⟩ => thn (h.run pins s σ H Q0 I h0) fun v s1 ⟨x, H1, I1, r, q⟩ => ⟨x, H1, I1, r, i _ _ q⟩⟩
theorem PE.imp {X : Cx} {e : Expr} {t u : TE} (h : PE X e t) (i : ∀ σ H Q, u σ H Q → t σ H Q) : PE X e u := ⟨fun pins s σ H Q I q => h.run pins s σ H Q I (i σ H Q q)⟩
/-- the ints of xs, each once, rising -/
def tSortSetI (K : PySem.W.Frag) (te : TE) : TE := fun σ H Q => te σ H fun x H1 => ∃ ns : List Int, Hd K H1 x ns ∧ ns.length < 64 ∧
  ∀ (ms : List Int) p vs H2, ms.Pairwise (· < ·) → (∀ k, k ∈ ms ↔ k ∈ ns) → H1 p = none → Ex H1 H2 → H2 p = some (.lst vs) → Hds K H2 vs ms → Q (.ref p) H2
/-- orders as tuples of d ints in [0, 8) -/
def TOk (ts : List (List Int)) : Prop := ∃ d : Nat, 1 ≤ d ∧ ∀ t ∈ ts, t.length = d ∧ TS.Bd 8 t
abbrev tl (ts : List (List Int)) : List (Tup Int) := ts.map Tup.mk
def tSortSetT (K : PySem.W.Frag) (te : TE) : TE := fun σ H Q => te σ H fun x H1 => ∃ ts D : List (List Int), Hd K H1 x (tl ts) ∧ (D.length < 63 ∧ ∀ t ∈ ts, t ∈ D) ∧ TOk ts ∧
  ∀ (us : List (List Int)) p vs H2, us.Nodup → us.Pairwise (fun a b => TS.code 8 a ≤ TS.code 8 b) → (∀ t, t ∈ us ↔ t ∈ ts) → H1 p = none → Ex H1 H2 → H2 p = some (.lst vs) → Hds K H2 vs (tl us) → Q (.ref p) H2
def rSortedT2 (K : PySem.W.Frag) : List V → Hp → VK → Prop := fun vs H Q => ∃ (a : Addr) (ts : List (List Int)), vs = [.ref a] ∧ Hd K H (.ref a) (tl ts) ∧ ts.length < 64 ∧ TOk ts ∧
  ∀ (us : List (List Int)) ws p, us.Perm ts → us.Pairwise (fun a b => TS.code 8 a ≤ TS.code 8 b) → H p = none → Hds K (upd H p (.lst ws)) ws (tl us) → Q (.ref p) (upd H p (.lst ws))
theorem perm_map {α β : Type} {f : α → β} {ys zs : List β} (h : ys.Perm zs) : ∀ ks : List α, zs = ks.map f → ∃ ks' : List α, ys = ks'.map f ∧ ks'.Perm ks := by
  induction h with
  | nil =>
    intro ks e
    cases ks with
    | nil => exact ⟨[], rfl, .nil⟩
    | cons k ks => simp at e
  | cons x p ih =>
    intro ks e
    cases ks with
    | nil => simp at e
    | cons k ks =>
      rw [List.map_cons, List.cons.injEq] at e
      obtain ⟨ks', e', p'⟩ := ih ks e.2
      exact ⟨k :: ks', by rw [List.map_cons, e', e.1], p'.cons k⟩
  | swap x y l =>
    intro ks e
    match ks, e with
    | k :: j :: ks, e =>
      rw [List.map_cons, List.map_cons, List.cons.injEq, List.cons.injEq] at e
      exact ⟨j :: k :: ks, by rw [List.map_cons, List.map_cons, e.1, e.2.1, e.2.2], .swap k j ks⟩
    | [_], e => simp at e
    | [], e => simp at e
  | trans p1 p2 i1 i2 =>
    intro ks e
    obtain ⟨k2, e2, q2⟩ := i2 ks e
    obtain ⟨k1, e1, q1⟩ := i1 k2 e2
    exact ⟨k1, e1, q1.trans q2⟩
/-- the tuples of a list, with their addresses -/
theorem hds_tups {K : PySem.W.Frag} {H : Hp} : ∀ {ts : List (List Int)} {vs : List V}, Hds K H vs (tl ts) → ∃ ks : List (Addr × List Int), vs = ks.map (fun p => V.ref p.1) ∧ ks.map (·.2) = ts ∧ ∀ p ∈ ks, PlT K H p.1 (p.2.map V.int)
  | [], vs, h => ⟨[], hds_inv0 h, rfl, fun _ z => nomatch z⟩
  | t :: ts, vs, h => by
    obtain ⟨v, r, rfl, h1, h2⟩ := hds_inv (α := Tup Int) h
    obtain ⟨a, ws, rfl, hp, hw⟩ := hd_tup h1
    obtain ⟨ks, rfl, e2, hk⟩ := hds_tups h2
    rw [hds_ints hw] at hp
    refine ⟨(a, t) :: ks, rfl, by rw [List.map_cons, e2], fun p hp' => ?_⟩
    rcases List.mem_cons.mp hp' with rfl | z
    · exact hp
    · exact hk p z
theorem tups_hds {K : PySem.W.Frag} {H : Hp} : ∀ {ks : List (Addr × List Int)}, (∀ p ∈ ks, PlT K H p.1 (p.2.map V.int)) → Hds K H (ks.map fun p => V.ref p.1) (tl (ks.map (·.2)))
  | [], _ => hds_nil
  | p :: ks, h => hds_cons (α := Tup Int) (of_tup (h p List.mem_cons_self) (ints_hds _)) (tups_hds fun q hq => h q (List.mem_cons_of_mem _ hq))
section
variable {X : Cx}
/-- set(xs) of a list of ints -/
def rSetOfI (K : PySem.W.Frag) (w : World) : List V → Hp → VK → Prop := fun xs H Q => ∃ (l : Addr) (ns : List Int), xs = [V.ref l] ∧ SqL K H l (ns.map V.int) ∧ ns.length < 64 ∧
  ∀ a c, c ≤ ns.length → H a = none → Q (.ref a) (upd H a (SetO w a (fun j => decide (j ∈ ns)) c))
theorem cr_setOfI (hc : X.calm = true) : CallR X (.type "set") (rSetOfI X.K X.w) := by
  intro pins s σ H xs us Q I r h
  obtain ⟨l, ns, rfl, hl, hf, q⟩ := h
  rw [Vals.ref1 r]
  obtain ⟨its, rv, pl, hz⟩ := I.list hl
  have hn : H s.heap.objs.size = none := I.hok.fresh (Nat.le_refl _)
  have big : 64 < scanBound := by decide
  refine set_of_ints (P := X.prog) (w := X.w) ns (I.ok.hd hc) pl.isList (by simpa using rv.ints) (by omega) fun g tk c R hc2 k => ?_
  exact ⟨.ref s.heap.objs.size, upd H s.heap.objs.size (SetO X.w s.heap.objs.size (fun j => decide (j ∈ ns)) c), I.laid (t' := tk) k (Nat.le_refl _) (setO_new R), rfl, q _ c hc2 hn⟩
variable {e : Expr} {te : TE} {p p2 pos pos2 : Pos}
theorem pe_sortsetI (hc : X.calm = true) (hu : X.A.units + 64 < cLine) (hg : Gl X "sorted") (hm : X.mg "sorted" = none) (hg2 : Gl X "set") (hm2 : X.mg "set" = none) (he : PE X e te)
    (na : starEach [Expr.Call (.Name "set" p2) [e] [] pos2] X.env = (false, eval (Expr.Call (.Name "set" p2) [e] [] pos2) X.env) :: starEach [] X.env := by rfl) (na2 : starEach [e] X.env = (false, eval e X.env) :: starEach [] X.env := by rfl) :
    PE X (.Call (.Name "sorted" p) [.Call (.Name "set" p2) [e] [] pos2] [] pos) (tSortSetI X.K te) := by
  refine PE.imp (pe_callB (cr_sortedSet hc) hg hm (by decide +kernel) (pa_cons (pe_callTy (cr_setOfI hc) hg2 hm2 (by decide +kernel) (pa_cons (PE.up he) pa_nil na2) (he := na2)) pa_nil na) (he := na)) fun σ H Q h => ?_
  refine ⟨_, h, ?_⟩
  rintro x H1 ⟨ns, hx, h64, q⟩
  obtain ⟨a, vs, rfl, hs, hd⟩ := hd_list hx
  rw [hds_ints hd] at hs
  refine ⟨a, ns, rfl, hs, h64, fun b c hcl hb => ⟨b, _, c, rfl, upd_same, by omega, fun ms l hms hmem hlen hl => ?_⟩⟩
  refine q ms l _ _ hms (fun k => by rw [hmem, decide_eq_true_iff]) ?_ ((Ex.new hb).trans (Ex.new hl)) upd_same (ints_hds ms)
  exact fresh_back (Ex.new hb) hl
/-- set(xs) of a list of tuples, few of them apart -/
def rSetOfM (K : PySem.W.Frag) (P : Program) (w : World) : List V → Hp → VK → Prop := fun xs H Q => ∃ (l : Addr) (ks : List (Addr × List Int)), xs = [V.ref l] ∧ SqL K H l (ks.map fun p => V.ref p.1) ∧ (∀ p ∈ ks, SqT K H p.1 (p.2.map V.int)) ∧ Few ks ∧
  ∀ a L, H a = none → (∀ p ∈ L, p ∈ ks) → (∀ p ∈ ks, p.2 ∈ L.map (·.2)) → Q (.ref a) (upd H a (SetTO P w a L))
theorem cr_setOfM (hc : X.calm = true) (hu : X.A.units + 64 < cLine) : CallR X (.type "set") (rSetOfM X.K X.prog X.w) := by
  intro pins s σ H xs us Q I r ⟨l, ks, exs, hl, hk, few, q⟩
  subst exs
  rw [Vals.ref1 r]
  obtain ⟨its, rv, pl, _⟩ := I.list hl
  have new : H s.heap.objs.size = none := I.hok.fresh (Nat.le_refl _)
  refine set_of_tups ks (I.ok.hd hc) pl.isList (by simpa using refs_of_vals rv) (fun p hp => I.isT (hk p hp)) few (by omega) fun g tk L es ep t T got keep => ⟨.ref s.heap.objs.size, _, I.laid (t' := tk) keep (Nat.le_refl _) (setTO_new T.t0), rfl, q _ L new (fun p hp => List.mem_of_mem_take (got.sub p hp)) fun p hp => got.all p ?_⟩
  rw [List.take_length]
  exact hp
theorem pe_sortsetT (hc : X.calm = true) (hu : X.A.units + 64 < cLine) (hg : Gl X "sorted") (hm : X.mg "sorted" = none) (hg2 : Gl X "set") (hm2 : X.mg "set" = none) (he : PE X e te)
    (na : starEach [Expr.Call (.Name "set" p2) [e] [] pos2] X.env = (false, eval (Expr.Call (.Name "set" p2) [e] [] pos2) X.env) :: starEach [] X.env := by rfl) (na2 : starEach [e] X.env = (false, eval e X.env) :: starEach [] X.env := by rfl) :
    PE X (.Call (.Name "sorted" p) [.Call (.Name "set" p2) [e] [] pos2] [] pos) (tSortSetT X.K te) := by
  refine PE.imp (pe_callB (cr_sortedT hc) hg hm (by decide +kernel) (pa_cons (pe_callTy (cr_setOfM hc hu) hg2 hm2 (by decide +kernel) (pa_cons (PE.up he) pa_nil na2) (he := na2)) pa_nil na) (he := na)) fun σ H Q h => ?_
  refine ⟨_, h, ?_⟩
  rintro x H1 ⟨ts, D, hx, ⟨hD, inD⟩, ⟨d, hd1, hok⟩, q⟩
  obtain ⟨a, vs, rfl, hs, hd⟩ := hd_list (α := Tup Int) hx
  obtain ⟨ks, rfl, e2, hk⟩ := hds_tups hd
  refine ⟨a, ks, rfl, hs, fun p hp => (hk p hp).t, ⟨D, hD, fun p hp => inD _ (by rw [← e2]; exact List.mem_map.mpr ⟨p, hp, rfl⟩)⟩, fun b L hb hsub hall => ⟨b, L, d, 8, rfl, upd_same, fun p hp => ex_t (Ex.new hb) (hk p (hsub p hp)).t, hd1, fun p hp => hok _ (by rw [← e2]; exact List.mem_map.mpr ⟨p, hsub p hp, rfl⟩), fun L' l pm nd _ pw hl => ?_⟩⟩
  have e := (Ex.new (o := SetTO X.prog X.w b L) hb).trans (Ex.new (o := .lst (L'.map fun q => V.ref q.1)) hl)
  refine q (L'.map (·.2)) l _ _ nd (List.pairwise_map.mpr pw) (fun t => ?_) (fresh_back (Ex.new hb) hl) e upd_same (hds_ex e (tups_hds fun p hp => hk p (hsub p (pm.mem_iff.mp hp))))
  constructor
  · intro ht
    obtain ⟨p, hp, rfl⟩ := List.mem_map.mp ht
    rw [← e2]
    exact List.mem_map.mpr ⟨p, hsub p (pm.mem_iff.mp hp), rfl⟩
  · intro ht
    rw [← e2] at ht
    obtain ⟨p, hp, rfl⟩ := List.mem_map.mp ht
    exact ((pm.map (·.2)).mem_iff).mpr (hall p hp)
theorem cr_sortedT2 (hc : X.calm = true) : CallR X (.builtin "sorted") (rSortedT2 X.K) := by
  intro pins s σ H vs us Q I r h
  obtain ⟨a, ts, rfl, hx, h64, ⟨d, hd1, hok⟩, q⟩ := h
  obtain ⟨b, ws, e, hs, hd⟩ := hd_list (α := Tup Int) hx
  cases e
  obtain ⟨ks, rfl, e2, hk⟩ := hds_tups hd
  refine cr_sortT (d := d) (B := 8) hd1 pins s σ H _ us Q I r ⟨a, _, rfl, hs, by rw [List.length_map, ← List.length_map (as := ks) (f := (·.2)), e2]; exact h64, fun x hx => ?_, fun ys l pm pw hl => ?_⟩
  · obtain ⟨p, hp, rfl⟩ := List.mem_map.mp hx
    exact ⟨p.2, ⟨p.1, rfl, (hk p hp).t⟩, hok _ (by rw [← e2]; exact List.mem_map.mpr ⟨p, hp, rfl⟩)⟩
  · obtain ⟨ks', rfl, pm'⟩ : ∃ ks' : List (Addr × List Int), ys = ks'.map (fun p => V.ref p.1) ∧ ks'.Perm ks := perm_map pm ks rfl
    have hk' : ∀ p ∈ ks', PlT X.K H p.1 (p.2.map V.int) := fun p hp => hk p (pm'.mem_iff.mp hp)
    refine q (ks'.map (·.2)) _ l ?_ ?_ hl (hds_ex (Ex.new hl) (tups_hds hk'))
    · rw [← e2]
      exact pm'.map _
    · rw [List.pairwise_map] at pw ⊢
      exact List.Pairwise.imp_of_mem (fun {p r} hp hr z => z _ _ ⟨p.1, rfl, (hk' p hp).t⟩ ⟨r.1, rfl, (hk' r hr).t⟩) pw
end

/-! ### dict(t) of a tuple of pairs of ints -/
def kvI (ps : List (Int × Int)) : List (Key × V) := ps.map fun p => (Sum.inl p.1, V.int p.2)
def rDictT (K : PySem.W.Frag) : List V → Hp → VK → Prop := fun vs H Q => ∃ (a : Addr) (ps : List (Int × Int)), vs = [.ref a] ∧ Hd K H (.ref a) (Tup.mk ps) ∧ ps.length ≤ 1000 ∧ ∀ l, H l = none → Q (.ref l) (upd H l (.dK (mergeK [] (kvI ps))))
section
variable {X : Cx} {pins : List (Addr × Obj)} {σ : L2.St} {H : Hp} {s : Shared}
theorem plain_seq (I : Inv X pins σ H s) {a : Addr} {vs : List V} (h : PlT X.K H a vs) : ∃ its : Array Value, PlainSeq "tuple" s.heap a its ∧ Vals vs its.toList := by
  rcases h with ⟨o, e, d⟩ | ⟨o, its, n, h1, h2, h3, h4, _, h6⟩
  · obtain ⟨e1, _, its, rv, o', e2, hc, n, hd'⟩ := (show ObjOk X.prog X.w H s.heap a (.frz o (.tup vs)) from I.hok a _ e)
    rw [e1] at e2
    cases e2
    exact ⟨its.toArray, ⟨o, n, e1, hc, d, hd'⟩, by simpa using rv⟩
  · exact ⟨its, ⟨o, n, I.kIn _ _ h1, h2, h3, h4⟩, h6⟩
theorem prs_of (I : Inv X pins σ H s) : ∀ {ps : List (Int × Int)} {vs : List V}, Hds X.K H vs ps → ∃ (bs : List Addr) (prs : List (Value × Value)) (kvs : List (Key × Value)), vs = bs.map V.ref ∧ prs.length = bs.length ∧ prs.length = ps.length ∧ KV (kvI ps) kvs ∧ kvs.length = prs.length ∧
    ∀ (j : Nat) k v, prs[j]? = some (k, v) → PairAt s.heap (bs.getD j 0) k v ∧ bs[j]? = some (bs.getD j 0) ∧ ∃ kk, kvs[j]? = some (kk, v) ∧ keyIs kk k = true
  | [], vs, h => ⟨[], [], [], hds_inv0 h, rfl, rfl, .nil, rfl, fun j k v z => by simp at z⟩
  | p :: ps, vs, h => by
    obtain ⟨v, r, rfl, h1, h2⟩ := hds_inv (α := Int × Int) h
    obtain ⟨b, v1, v2, rfl, hp, e1, e2⟩ := hd_pair (x := p.1) (y := p.2) h1
    obtain ⟨bs, prs, kvs, rfl, l1, l2, kv, l3, all⟩ := prs_of I h2
    obtain ⟨its, rv, ht, _⟩ := I.tuple hp.t
    obtain ⟨u1, u2, rfl, r1, r2⟩ := vals2 rv
    rw [hd_int e1] at r1
    rw [hd_int e2] at r2
    refine ⟨b :: bs, (u1, u2) :: prs, (Sum.inl p.1, u2) :: kvs, rfl, by rw [List.length_cons, List.length_cons, l1], by rw [List.length_cons, List.length_cons, l2], .cons ⟨rfl, r2⟩ kv, by rw [List.length_cons, List.length_cons, l3], fun j k w z => ?_⟩
    cases j with
    | zero =>
      have z' : (u1, u2) = (k, w) := Option.some.inj z
      cases z'
      obtain ⟨o, ho, hc, n, hd⟩ := ht
      exact ⟨.inl ⟨o, ho, hc, n, hd⟩, rfl, _, rfl, kV_is (P := X.prog) (w := X.w) (k := Sum.inl p.1) r1⟩
    | succ j => exact all j k w z
theorem call_dictT (hc : X.calm = true) : CallR X (.type "dict") (rDictT X.K) := by
  intro pins s σ H xs us Q I r h
  obtain ⟨a, ps, rfl, hx, hz, q⟩ := h
  rw [Vals.ref1 r]
  obtain ⟨b, vs, e, hp, hd⟩ := hd_tup (α := Int × Int) hx
  cases e
  obtain ⟨its, pl, rv⟩ := plain_seq I hp
  obtain ⟨bs, prs, kvs, rfl, l1, l2, kv, l3, all⟩ := prs_of I hd
  have refs := refs_at rv
  have items : PairItems s.heap its (fun j => bs.getD j 0) prs := by
    refine ⟨?_, fun j k v z => ?_⟩
    · rw [← Array.length_toList, refs, List.length_map, l1]
    · obtain ⟨y1, y2, _⟩ := all j k v z
      refine ⟨?_, y1⟩
      rw [← Array.getElem?_toList, refs, List.getElem?_map, y2]
      rfl
  have l4 : prs.length ≤ sizeLine := by rw [l2]; exact sz_of (by omega)
  refine PySem.call_dict_pairs (knd := mixKind X.prog X.w) (kvs := kvs) (PairArg.tuple _ its _ prs) (I.ok.hd hc) ⟨pl, items⟩ ⟨l3, fun i key v z => ?_⟩ l4 fun g tk hd' k => ?_
  · obtain ⟨_, _, kk, y3, y4⟩ := all i key v z
    exact ⟨kk, y3, y4⟩
  · have hm : (s.heap.objs.size == sysModules) = false := beq_eq_false_iff_ne.mpr (Ne.symm (Nat.ne_of_lt I.big))
    have hl : (mergeK [] (kvI ps)).length ≤ sizeLine := by
      refine Nat.le_trans (length_mergeK _ _) ?_
      rw [kv.length, l3]
      exact Nat.le_trans (by simp) l4
    exact ⟨.ref s.heap.objs.size, upd H s.heap.objs.size (.dK (mergeK [] (kvI ps))), I.laid (t' := tk) (fun b o e => k b o (fun z => nomatch z) e) (Nat.le_refl _) (show ObjOk X.prog X.w _ _ _ (.dK (mergeK [] (kvI ps))) from ⟨hl, hm, merged [] kvs, KV.merge kv .nil, hd'⟩), rfl, q _ (I.hok.fresh (Nat.le_refl _))⟩
end
/-! the entries, where no key stands twice -/
theorem merge_new : ∀ (kvs acc : List (Key × V)), ((acc ++ kvs).map (·.1)).Nodup → mergeK acc kvs = acc ++ kvs
  | [], acc, _ => (List.append_nil acc).symm
  | kv :: kvs, acc, h => by
    have n0 : valV acc kv.1 = none := by
      rw [List.map_append, List.map_cons, List.nodup_append] at h
      unfold valV
      rw [Option.map_eq_none_iff, List.find?_eq_none]
      intro y hy z
      exact h.2.2 y.1 (List.mem_map.mpr ⟨y, hy, rfl⟩) kv.1 List.mem_cons_self (of_decide_eq_true z)
    show mergeK (putK acc kv.1 kv.2) kvs = _
    rw [putK_new _ n0, merge_new kvs _ (by rw [List.append_assoc]; exact h), List.append_assoc]
    rfl
/-- what the door of a thing leads to, 0 if none -/
def toD (ds : List (Int × Int)) (t : Int) : Int := ((ds.find? fun d => decide (d.1 = t)).map (·.2)).getD 0
theorem val_doors (ps : List (Int × Int)) (t : Int) (h : (ps.map (·.1)).Nodup) : (valV (mergeK [] (kvI ps)) (Sum.inl t)).getD (.int 0) = .int (toD ps t) := by
  rw [merge_new _ _ (by
    rw [List.nil_append]
    unfold kvI
    rw [List.map_map]
    have z := List.Pairwise.map (S := fun a b : Key => a ≠ b) Sum.inl (fun a b n z => n (by injection z)) h
    rw [List.map_map] at z
    exact z), List.nil_append]
  unfold toD
  clear h
  induction ps with
  | nil => rfl
  | cons p ps ih =>
    unfold kvI at ih ⊢
    rw [List.map_cons, List.find?_cons]
    by_cases e : p.1 = t
    · rw [valV_pos (by show (Sum.inl p.1 : Key) = _; rw [e]), decide_eq_true e]
      rfl
    · rw [valV_neg (by intro z; injection z with z; exact e z), decide_eq_false e]
      exact ih
/-- x is False -/
def rIsFl : R2 := fun x y H Q => y = .bl false ∧ (x = .non ∨ (∃ a, x = .ref a) ∨ ∃ b, x = .bl b) ∧ Q (.bl (decide (x = .bl false))) H
theorem op_isFl {X : Cx} : OpR X (compareOp .Is) rIsFl := by
  intro pins s σ H x y v u Q I rx ry h
  obtain ⟨rfl, hx, q⟩ := h
  cases (show u = Value.bool false from ry)
  rcases hx with rfl | ⟨a, rfl⟩ | ⟨b, rfl⟩
  · cases (show v = Value.none from rx)
    exact wpAny_is_other rfl (fun z => nomatch z) ⟨.bl false, H, I, rfl, by simpa using q⟩
  · cases (show v = Value.ref a from rx)
    exact wpAny_is_other rfl (fun z => nomatch z) ⟨.bl false, H, I, rfl, by simpa using q⟩
  · cases (show v = Value.bool b from rx)
    cases b
    · exact wpAny_is_self rfl ⟨.bl true, H, I, rfl, by simpa using q⟩
    · exact wpAny_is_other rfl (fun z => nomatch z) ⟨.bl false, H, I, rfl, by simpa using q⟩
end OA

/-! OM: rooms tables and their words, in plain Lean -/
namespace OA
open PySem PySem.Spec PyProof.Rows L2 Evl
open PySem.W (Datum Tup T3 DatumOrd)
abbrev Rm := List (Int × Int)
/-- the doors of a number -/
def dr (rs : List Rm) (n : Int) : Rm := rs.getD (n - 2).toNat []
/-- the words of a number, of length at most d -/
def W (rs : List Rm) : Nat → Int → List (List Int)
  | 0, n => if n = 1 then [[]] else []
  | d + 1, n => if n = 1 then [[]] else if n < 2 then [] else (dr rs n).flatMap fun p => (W rs d p.2).map (p.1 :: ·)
/-- left without t -/
def wo (left : List Int) (t : Int) : List Int := left.filter fun x => !decide (x = t)
/-- the number n stands for words of all things of left, d of them -/
def Fit (rs : List Rm) : Nat → List Int → Int → Prop
  | 0, left, n => n = 1 ∧ left = []
  | d + 1, left, n => 2 ≤ n ∧ n < rs.length + 2 ∧ dr rs n ≠ [] ∧ ((dr rs n).map (·.1)).Sublist left ∧ ∀ p ∈ dr rs n, 1 ≤ p.2 ∧ p.2 < n ∧ Fit rs d (wo left p.1) p.2
theorem Fit.pos {rs : List Rm} {d : Nat} {left : List Int} {n : Int} (h : Fit rs d left n) : 1 ≤ n ∧ n < rs.length + 2 := by
  cases d with
  | zero => obtain ⟨rfl, _⟩ := h; omega
  | succ d => exact ⟨by have := h.1; omega, h.2.1⟩
theorem dr_app {rs more : List Rm} {n : Int} (h2 : 2 ≤ n) (h : n < rs.length + 2) : dr (rs ++ more) n = dr rs n := by
  unfold dr
  rw [List.getD_eq_getElem?_getD, List.getD_eq_getElem?_getD, List.getElem?_append_left (by omega)]
theorem Fit.app {rs : List Rm} (more : List Rm) : ∀ {d : Nat} {left : List Int} {n : Int}, n < rs.length + 2 → (Fit (rs ++ more) d left n ↔ Fit rs d left n)
  | 0, left, n, _ => Iff.rfl
  | d + 1, left, n, hn => by
    constructor
    · rintro ⟨h1, h2, h3, h4, h5⟩
      rw [dr_app h1 hn] at h3 h4 h5
      exact ⟨h1, hn, h3, h4, fun p hp => ⟨(h5 p hp).1, (h5 p hp).2.1, (Fit.app more (by have := (h5 p hp).2.1; omega)).mp (h5 p hp).2.2⟩⟩
    · rintro ⟨h1, h2, h3, h4, h5⟩
      refine ⟨h1, by rw [List.length_append]; omega, ?_⟩
      rw [dr_app h1 hn]
      exact ⟨h3, h4, fun p hp => ⟨(h5 p hp).1, (h5 p hp).2.1, (Fit.app more (by have := (h5 p hp).2.1; omega)).mpr (h5 p hp).2.2⟩⟩
theorem W_app {rs : List Rm} (more : List Rm) : ∀ {d : Nat} {left : List Int} {n : Int}, Fit rs d left n → W (rs ++ more) d n = W rs d n
  | 0, _, n, _ => rfl
  | d + 1, left, n, h => by
    obtain ⟨h1, h2, h3, h4, h5⟩ := h
    unfold W
    rw [if_neg (by omega), if_neg (by omega), if_neg (by omega), if_neg (by omega), dr_app h1 h2]
    rw [List.flatMap_def, List.flatMap_def]
    congr 1
    refine List.map_congr_left fun p hp => ?_
    rw [W_app more (h5 p hp).2.2]
theorem W_succ {rs : List Rm} {d : Nat} {left : List Int} {n : Int} (h : Fit rs (d + 1) left n) : W rs (d + 1) n = (dr rs n).flatMap fun p => (W rs d p.2).map (p.1 :: ·) := by
  have := h.1
  show (if n = 1 then [[]] else if n < 2 then [] else _) = _
  rw [if_neg (by omega), if_neg (by omega)]
theorem W_zero {rs : List Rm} {left : List Int} {n : Int} (h : Fit rs 0 left n) : W rs 0 n = [[]] := by
  rw [h.1]
  rfl
theorem W_ne {rs : List Rm} : ∀ {d : Nat} {left : List Int} {n : Int}, Fit rs d left n → W rs d n ≠ []
  | 0, left, n, h => by rw [W_zero h]; simp
  | d + 1, left, n, h => by
    rw [W_succ h]
    obtain ⟨h1, h2, h3, h4, h5⟩ := h
    obtain ⟨p, ps, e⟩ := List.exists_cons_of_ne_nil h3
    have hp : p ∈ dr rs n := by rw [e]; exact List.mem_cons_self
    have := W_ne (h5 p hp).2.2
    rw [e, List.flatMap_cons]
    intro z
    rw [List.append_eq_nil_iff, List.map_eq_nil_iff] at z
    exact this z.1
/-- the rests behind t -/
def rests (S : List (List Int)) (t : Int) : List (List Int) := (S.filter fun w => decide (w.head? = some t)).map List.tail
theorem rests_map (t s : Int) (S : List (List Int)) : rests (S.map (s :: ·)) t = if s = t then S else [] := by
  unfold rests
  by_cases h : s = t
  · rw [if_pos h, List.filter_map, List.map_map]
    have : (S.filter ((fun w : List Int => decide (w.head? = some t)) ∘ fun x => s :: x)) = S := List.filter_eq_self.mpr fun w _ => by simp [h]
    rw [this]
    exact List.map_id _
  · rw [if_neg h, List.filter_map, List.map_map]
    have : (S.filter ((fun w : List Int => decide (w.head? = some t)) ∘ fun x => s :: x)) = [] := List.filter_eq_nil_iff.mpr fun w _ => by simp [h]
    rw [this]
    rfl
theorem rests_app (A B : List (List Int)) (t : Int) : rests (A ++ B) t = rests A t ++ rests B t := by
  unfold rests
  rw [List.filter_append, List.map_append]
/-- the target of t among the doors ds: its words -/
def tgt (f : Int → List (List Int)) (ds : Rm) (t : Int) : List (List Int) := (ds.find? fun p => decide (p.1 = t)).elim [] fun p => f p.2
theorem rests_flat (f : Int → List (List Int)) (t : Int) : ∀ ds : Rm, (ds.map (·.1)).Nodup → rests (ds.flatMap fun p => (f p.2).map (p.1 :: ·)) t = tgt f ds t
  | [], _ => rfl
  | p :: ds, h => by
    rw [List.map_cons, List.nodup_cons] at h
    rw [List.flatMap_cons, rests_app, rests_map, rests_flat f t ds h.2]
    unfold tgt
    rw [List.find?_cons]
    by_cases e : p.1 = t
    · rw [if_pos e, decide_eq_true e]
      have : ds.find? (fun p => decide (p.1 = t)) = none := List.find?_eq_none.mpr fun q hq z => h.1 (by rw [e, ← of_decide_eq_true z]; exact List.mem_map.mpr ⟨q, hq, rfl⟩)
      rw [this]
      exact List.append_nil _
    · rw [if_neg e, decide_eq_false e]
      rfl

/-! ### the law's way to lay a table -/
def fin (F : List Rm) (ds : Rm) : List Rm × Int := if ds ∈ F then (F, (F.idxOf ds : Nat) + 2) else (F ++ [ds], (F.length : Nat) + 2)
def layF : Nat → List Int → List (List Int) → List Rm → List Rm × Int
  | 0, _, _, F => (F, 1)
  | d + 1, left, S, F =>
    let r := left.foldl (fun (st : List Rm × Rm) t => if rests S t = [] then st else
      ((layF d (wo left t) (rests S t) st.1).1, st.2 ++ [(t, (layF d (wo left t) (rests S t) st.1).2)])) (F, [])
    fin r.1 r.2
/-- the law's step -/
def stepF (d : Nat) (left : List Int) (S : List (List Int)) (st : List Rm × Rm) (t : Int) : List Rm × Rm := if rests S t = [] then st else
  ((layF d (wo left t) (rests S t) st.1).1, st.2 ++ [(t, (layF d (wo left t) (rests S t) st.1).2)])
theorem layF_succ (d : Nat) (left : List Int) (S : List (List Int)) (F : List Rm) : layF (d + 1) left S F = fin (left.foldl (stepF d left S) (F, [])).1 (left.foldl (stepF d left S) (F, [])).2 := rfl
/-- the fold over left is a fold over the doors -/
theorem fold_doors {d : Nat} {left : List Int} {f : Int → List (List Int)} {S : List (List Int)} : ∀ {ts : List Int} {ds : Rm}, (ds.map (·.1)).Sublist ts → ts.Nodup → (∀ t ∈ ts, rests S t = tgt f ds t) → (∀ p ∈ ds, f p.2 ≠ []) →
    ∀ st, ts.foldl (stepF d left S) st = ds.foldl (fun st p => ((layF d (wo left p.1) (f p.2) st.1).1, st.2 ++ [(p.1, (layF d (wo left p.1) (f p.2) st.1).2)])) st
  | [], ds, hs, _, _, _, st => by
    have : ds = [] := List.map_eq_nil_iff.mp (List.eq_nil_of_sublist_nil hs)
    rw [this]
    rfl
  | t :: ts, ds, hs, hn, hr, hne, st => by
    rw [List.nodup_cons] at hn
    rw [List.foldl_cons]
    cases ds with
    | nil =>
      have e : stepF d left S st t = st := by
        unfold stepF
        rw [if_pos (by rw [hr t List.mem_cons_self]; rfl)]
      rw [e]
      exact fold_doors (ds := []) (List.nil_sublist _) hn.2 (fun s hs => hr s (List.mem_cons_of_mem _ hs)) hne st
    | cons p ps =>
      rw [List.map_cons] at hs
      by_cases e : p.1 = t
      · have hs' : (ps.map (·.1)).Sublist ts := by
          rw [e] at hs
          exact List.cons_sublist_cons.mp hs
        have hrt : rests S t = f p.2 := by
          rw [hr t List.mem_cons_self]
          unfold tgt
          rw [List.find?_cons, decide_eq_true e]
          rfl
        have e2 : stepF d left S st t = ((layF d (wo left p.1) (f p.2) st.1).1, st.2 ++ [(p.1, (layF d (wo left p.1) (f p.2) st.1).2)]) := by
          unfold stepF
          rw [if_neg (by rw [hrt]; exact hne p List.mem_cons_self), hrt, e]
        rw [e2, List.foldl_cons]
        refine fold_doors hs' hn.2 (fun s hs2 => ?_) (fun q hq => hne q (List.mem_cons_of_mem _ hq)) _
        rw [hr s (List.mem_cons_of_mem _ hs2)]
        unfold tgt
        rw [List.find?_cons, decide_eq_false (show ¬ p.1 = s from fun z => hn.1 (by rw [← e, z]; exact hs2))]
      · have hs' : ((p :: ps).map (·.1)).Sublist ts := by
          rw [List.map_cons]
          cases hs with
          | cons _ h => exact h
          | cons_cons _ h => exact (e rfl).elim
        have e2 : stepF d left S st t = st := by
          unfold stepF
          rw [if_pos ?_]
          rw [hr t List.mem_cons_self]
          unfold tgt
          rw [List.find?_eq_none.mpr]
          · rfl
          · intro q hq z
            exact hn.1 (hs'.subset (by rw [← of_decide_eq_true z]; exact List.mem_map.mpr ⟨q, hq, rfl⟩))
        rw [e2]
        exact fold_doors hs' hn.2 (fun s hs => hr s (List.mem_cons_of_mem _ hs)) hne st
theorem layF_fit {rs : List Rm} {d : Nat} {left : List Int} {n : Int} (h : Fit rs (d + 1) left n) (hn : left.Nodup) (F : List Rm) :
    left.foldl (stepF d left (W rs (d + 1) n)) (F, []) = (dr rs n).foldl (fun st p => ((layF d (wo left p.1) (W rs d p.2) st.1).1, st.2 ++ [(p.1, (layF d (wo left p.1) (W rs d p.2) st.1).2)])) (F, []) := by
  have hs := h.2.2.2.1
  refine fold_doors (f := W rs d) hs hn (fun t ht => ?_) (fun p hp => W_ne (h.2.2.2.2 p hp).2.2) _
  rw [W_succ h]
  exact rests_flat _ t _ (hs.nodup hn)
theorem wo_nodup {left : List Int} (h : left.Nodup) (t : Int) : (wo left t).Nodup := h.filter _
theorem get_dr {F : List Rm} {n : Int} (h2 : 2 ≤ n) (h : n < F.length + 2) : F[(n - 2).toNat]? = some (dr F n) := by
  unfold dr
  rw [List.getD_eq_getElem?_getD, List.getElem?_eq_getElem (by omega)]
  rfl
/-- what the table holds already is found again -/
theorem layF_again {F : List Rm} (nd : F.Nodup) : ∀ {d : Nat} {left : List Int} {m : Int}, Fit F d left m → left.Nodup → layF d left (W F d m) F = (F, m)
  | 0, left, m, h, _ => by
    rw [h.1]
    rfl
  | d + 1, left, m, h, hn => by
    rw [layF_succ, layF_fit h hn F]
    have key : ∀ (ds acc : Rm), (∀ p ∈ ds, p ∈ dr F m) → ds.foldl (fun st p => ((layF d (wo left p.1) (W F d p.2) st.1).1, st.2 ++ [(p.1, (layF d (wo left p.1) (W F d p.2) st.1).2)])) (F, acc) = (F, acc ++ ds) := by
      intro ds
      induction ds with
      | nil => intro acc _; rw [List.append_nil]; rfl
      | cons p ds ih =>
        intro acc hm
        have hp := h.2.2.2.2 p (hm p List.mem_cons_self)
        rw [List.foldl_cons, layF_again nd hp.2.2 (wo_nodup hn _), ih _ fun q hq => hm q (List.mem_cons_of_mem _ hq), List.append_assoc]
        rfl
    rw [key _ _ fun p hp => hp, List.nil_append]
    have g := get_dr h.1 h.2.1
    have hm : dr F m ∈ F := List.mem_of_getElem? g
    unfold fin
    rw [if_pos hm]
    obtain ⟨hi, e⟩ := List.getElem?_eq_some_iff.mp g
    have : F.idxOf (dr F m) = (m - 2).toNat := by
      rw [← e]
      exact nd.idxOf_getElem _ hi
    rw [this]
    have := h.1
    congr 1
    omega
/-- equal words, equal numbers -/
theorem W_inj {rs : List Rm} (nd : rs.Nodup) : ∀ {d : Nat} {left : List Int} {a b : Int}, Fit rs d left a → Fit rs d left b → left.Nodup → W rs d a = W rs d b → a = b
  | 0, left, a, b, ha, hb, _, _ => ha.1.trans hb.1.symm
  | d + 1, left, a, b, ha, hb, hn, e => by
    -- lay both anew in the table itself
    have h1 := layF_again nd ha hn
    have h2 := layF_again nd hb hn
    rw [e, h2] at h1
    injection h1 with _ h1
    exact h1.symm

/-! ### the program's way: number by number -/
def keys (nm : List (Int × Int)) : List Int := nm.map (·.1)
def dfsF (rs : List Rm) : Nat → Int → List (Int × Int) × List Rm → List (Int × Int) × List Rm
  | 0, _, st => st
  | d + 1, n, st => if n ∈ keys st.1 then st else
    let s := (dr rs n).foldl (fun s p => dfsF rs d p.2 s) st
    (s.1 ++ [(n, (s.2.length : Int) + 2)], s.2 ++ [(dr rs n).map fun p => (p.1, toD s.1 p.2)])
theorem toD_mem {nm : List (Int × Int)} (nd : (keys nm).Nodup) {k m : Int} (h : (k, m) ∈ nm) : toD nm k = m := by
  unfold toD
  induction nm with
  | nil => exact nomatch h
  | cons x nm ih =>
    unfold keys at nd ih
    rw [List.map_cons, List.nodup_cons] at nd
    rw [List.find?_cons]
    rcases List.mem_cons.mp h with e | h
    · rw [← e]
      simp
    · have : x.1 ≠ k := fun z => nd.1 (by rw [z]; exact List.mem_map.mpr ⟨_, h, rfl⟩)
      rw [decide_eq_false this]
      exact ih nd.2 h
theorem mem_toD {nm : List (Int × Int)} {k : Int} (h : k ∈ keys nm) : (k, toD nm k) ∈ nm := by
  unfold toD
  induction nm with
  | nil => exact nomatch h
  | cons x nm ih =>
    rw [List.find?_cons]
    by_cases e : x.1 = k
    · rw [decide_eq_true e]
      show (k, x.2) ∈ _
      rw [← e]
      exact List.mem_cons_self
    · rw [decide_eq_false e]
      refine List.mem_cons_of_mem _ (ih ?_)
      unfold keys at h
      rw [List.map_cons] at h
      rcases List.mem_cons.mp h with z | z
      · exact (e z.symm).elim
      · exact z
theorem toD_app {nm more : List (Int × Int)} {k : Int} (h : k ∈ keys nm) : toD (nm ++ more) k = toD nm k := by
  unfold toD
  rw [List.find?_append]
  have := mem_toD h
  cases e : nm.find? fun d => decide (d.1 = k) with
  | some y => rfl
  | none => exact absurd (decide_eq_true (p := k = k) rfl) (List.find?_eq_none.mp e _ this)
theorem toD_new {nm : List (Int × Int)} {k v : Int} (h : k ∉ keys nm) : toD (nm ++ [(k, v)]) k = v := by
  unfold toD
  rw [List.find?_append, List.find?_eq_none.mpr fun q hq z => h (by rw [← of_decide_eq_true z]; exact List.mem_map.mpr ⟨q, hq, rfl⟩)]
  simp
structure Iv (rs : List Rm) (nm : List (Int × Int)) (F : List Rm) : Prop where
  nd : (keys nm).Nodup
  zero : (0, 0) ∈ nm
  one : (1, 1) ∈ nm
  fit : ∀ k m : Int, (k, m) ∈ nm → ∀ d left, Fit rs d left k ↔ Fit F d left m
  wrd : ∀ k m : Int, (k, m) ∈ nm → ∀ d left, Fit rs d left k → W rs d k = W F d m
  sur : ∀ m : Int, 2 ≤ m → m < F.length + 2 → ∃ k : Int, (k, m) ∈ nm
  fnd : F.Nodup
  lo : ∀ k m : Int, (k, m) ∈ nm → m < F.length + 2
  fw : ∀ m : Int, 2 ≤ m → m < F.length + 2 → ∀ q ∈ dr F m, q.2 < m
  rng : ∀ k ∈ keys nm, 0 ≤ k ∧ k < (rs.length : Int) + 2
  len : nm.length = F.length + 2
theorem fit_zero {rs : List Rm} {d : Nat} {left : List Int} : ¬ Fit rs d left 0 := fun h => by have := h.pos.1; omega
theorem fit_one {rs : List Rm} {d : Nat} {left : List Int} : Fit rs d left 1 ↔ d = 0 ∧ left = [] := by
  cases d with
  | zero => exact ⟨fun h => ⟨rfl, h.2⟩, fun h => ⟨rfl, h.2⟩⟩
  | succ d => exact ⟨fun h => absurd h.1 (by decide), fun h => absurd h.1 (by omega)⟩
theorem Iv.start (rs : List Rm) : Iv rs [(0, 0), (1, 1)] [] where
  nd := by decide
  zero := List.mem_cons_self
  one := List.mem_cons_of_mem _ List.mem_cons_self
  fit := fun k m h d left => by
    rcases List.mem_cons.mp h with e | h
    · cases e
      exact ⟨fun z => (fit_zero z).elim, fun z => (fit_zero z).elim⟩
    · rcases List.mem_cons.mp h with e | h
      · cases e
        rw [fit_one, fit_one]
      · exact nomatch h
  wrd := fun k m h d left hf => by
    rcases List.mem_cons.mp h with e | h
    · cases e
      exact (fit_zero hf).elim
    · rcases List.mem_cons.mp h with e | h
      · cases e
        rw [(fit_one.mp hf).1]
        rfl
      · exact nomatch h
  sur := fun m h1 h2 => by
    rw [List.length_nil] at h2
    omega
  fnd := .nil
  lo := fun k m h => by
    rcases List.mem_cons.mp h with e | h
    · cases e; decide
    · rcases List.mem_cons.mp h with e | h
      · cases e; decide
      · exact nomatch h
  fw := fun m h1 h2 => by
    rw [List.length_nil] at h2
    omega
  rng := fun k h => by
    rcases List.mem_cons.mp h with e | h
    · have e' : k = 0 := e
      exact ⟨by omega, by omega⟩
    · rcases List.mem_cons.mp h with e | h
      · have e' : k = 1 := e
        exact ⟨by omega, by omega⟩
      · exact nomatch h
  len := rfl
theorem dr_new (F : List Rm) (ds : Rm) : dr (F ++ [ds]) ((F.length : Int) + 2) = ds := by
  unfold dr
  rw [List.getD_eq_getElem?_getD, show ((F.length : Int) + 2 - 2).toNat = F.length by omega, List.getElem?_append_right (Nat.le_refl _), Nat.sub_self]
  rfl
/-- a new number of the table's own -/
theorem Iv.add {rs : List Rm} {nm : List (Int × Int)} {F : List Rm} (I : Iv rs nm F) {d : Nat} {left : List Int} {n : Int} (h : Fit rs (d + 1) left n) (hin : ∀ p ∈ dr rs n, p.2 ∈ keys nm) (hno : n ∉ keys nm)
    (hF : (dr rs n).map (fun p => (p.1, toD nm p.2)) ∉ F) : Iv rs (nm ++ [(n, (F.length : Int) + 2)]) (F ++ [(dr rs n).map fun p => (p.1, toD nm p.2)]) := by
  have hd := dr_new F ((dr rs n).map fun p => (p.1, toD nm p.2))
  have len : (F ++ [(dr rs n).map fun p => (p.1, toD nm p.2)]).length = F.length + 1 := by rw [List.length_append]; rfl
  have tm : ∀ p ∈ dr rs n, (p.2, toD nm p.2) ∈ nm := fun p hp => mem_toD (hin p hp)
  have things : ((dr rs n).map fun p => (p.1, toD nm p.2)).map (·.1) = (dr rs n).map (·.1) := by rw [List.map_map]; rfl
  have FT : ∀ e left', Fit rs e left' n ↔ Fit (F ++ [(dr rs n).map fun p => (p.1, toD nm p.2)]) e left' ((F.length : Int) + 2) := by
    intro e left'
    cases e with
    | zero => exact ⟨fun z => by have := z.1; have := h.1; omega, fun z => by have := z.1; omega⟩
    | succ e =>
      constructor
      · rintro ⟨h1, h2, h3, h4, h5⟩
        refine ⟨by omega, by rw [len]; omega, ?_⟩
        rw [hd]
        refine ⟨fun z => h3 (List.map_eq_nil_iff.mp z), by rw [things]; exact h4, fun q hq => ?_⟩
        obtain ⟨p, hp, rfl⟩ := List.mem_map.mp hq
        have f := (I.fit _ _ (tm p hp) _ _).mp (h5 p hp).2.2
        exact ⟨f.pos.1, f.pos.2, (Fit.app _ f.pos.2).mpr f⟩
      · rintro ⟨h1, h2, h3, h4, h5⟩
        rw [hd] at h3 h4 h5
        refine ⟨h.1, h.2.1, h.2.2.1, by rw [things] at h4; exact h4, fun p hp => ?_⟩
        obtain ⟨g1, g2, _⟩ := h.2.2.2.2 p hp
        obtain ⟨_, q2, q3⟩ := h5 _ (List.mem_map.mpr ⟨p, hp, rfl⟩)
        exact ⟨g1, g2, (I.fit _ _ (tm p hp) _ _).mpr ((Fit.app _ q2).mp q3)⟩
  have WT : ∀ e left', Fit rs e left' n → W rs e n = W (F ++ [(dr rs n).map fun p => (p.1, toD nm p.2)]) e ((F.length : Int) + 2) := by
    intro e left' hf
    cases e with
    | zero => have := hf.1; have := h.1; omega
    | succ e =>
      rw [W_succ hf, W_succ ((FT _ _).mp hf), hd, List.flatMap_map, List.flatMap_def, List.flatMap_def]
      congr 1
      refine List.map_congr_left fun p hp => ?_
      have hp' := (hf.2.2.2.2 p hp).2.2
      have f := (I.fit _ _ (tm p hp) _ _).mp hp'
      show (W rs e p.2).map _ = (W _ e (toD nm p.2)).map _
      rw [I.wrd _ _ (tm p hp) _ _ hp', W_app _ f]
  refine ⟨?_, List.mem_append_left _ I.zero, List.mem_append_left _ I.one, fun k m hm e left' => ?_, fun k m hm e left' hf => ?_, fun m h1 h2 => ?_, ?_, fun k m hm => ?_, fun m h1 h2 => ?_, fun k hk => ?_, by rw [List.length_append, len, I.len]; rfl⟩
  · unfold keys
    rw [List.map_append, List.nodup_append]
    exact ⟨I.nd, List.nodup_cons.mpr ⟨List.not_mem_nil, .nil⟩, fun a ha b hb z => hno (by rw [List.map_cons, List.map_nil, List.mem_singleton] at hb; rw [hb] at z; rw [z] at ha; exact ha)⟩
  · rcases List.mem_append.mp hm with hm | hm
    · rw [I.fit k m hm e left', Fit.app _ (I.lo k m hm)]
    · cases List.mem_singleton.mp hm
      exact FT e left'
  · rcases List.mem_append.mp hm with hm | hm
    · rw [I.wrd k m hm e left' hf, W_app _ ((I.fit k m hm e left').mp hf)]
    · cases List.mem_singleton.mp hm
      exact WT e left' hf
  · rw [len] at h2
    by_cases e : m < F.length + 2
    · obtain ⟨k, hk⟩ := I.sur m h1 e
      exact ⟨k, List.mem_append_left _ hk⟩
    · refine ⟨n, List.mem_append_right _ (List.mem_singleton.mpr ?_)⟩
      congr 1
      omega
  · rw [List.nodup_append]
    exact ⟨I.fnd, List.nodup_cons.mpr ⟨List.not_mem_nil, .nil⟩, fun a ha b hb z => hF (by rw [List.mem_singleton] at hb; rw [← hb, ← z]; exact ha)⟩
  · rw [len]
    rcases List.mem_append.mp hm with hm | hm
    · have := I.lo k m hm
      omega
    · cases List.mem_singleton.mp hm
      omega
  · rw [len] at h2
    by_cases e : m < F.length + 2
    · rw [dr_app h1 e]
      exact I.fw m h1 e
    · rw [show m = (F.length : Int) + 2 by omega, hd]
      intro q hq
      obtain ⟨p, hp, rfl⟩ := List.mem_map.mp hq
      exact I.lo _ _ (tm p hp)
  · unfold keys at hk
    rw [List.map_append] at hk
    rcases List.mem_append.mp hk with hk | hk
    · exact I.rng k hk
    · have e : k = n := List.mem_singleton.mp hk
      rw [e]
      exact ⟨by have := h.1; omega, h.2.1⟩
/-- the program lays as the law does -/
theorem dfs_lay {rs : List Rm} (rnd : rs.Nodup) : ∀ {d : Nat} {left : List Int} {n : Int} {nm : List (Int × Int)} {F : List Rm}, Fit rs d left n → left.Nodup → Iv rs nm F →
    Iv rs (dfsF rs d n (nm, F)).1 (dfsF rs d n (nm, F)).2 ∧ layF d left (W rs d n) F = ((dfsF rs d n (nm, F)).2, toD (dfsF rs d n (nm, F)).1 n) ∧ (∃ more, (dfsF rs d n (nm, F)).1 = nm ++ more ∧ ∀ x ∈ more, x.1 ≤ n) ∧ n ∈ keys (dfsF rs d n (nm, F)).1
  | 0, left, n, nm, F, h, _, I => by
    have hn := h.1
    subst hn
    refine ⟨I, ?_, ⟨[], (List.append_nil _).symm, fun _ z => nomatch z⟩, List.mem_map.mpr ⟨_, I.one, rfl⟩⟩
    show (F, (1 : Int)) = (F, toD nm 1)
    rw [toD_mem I.nd I.one]
  | d + 1, left, n, nm, F, h, hn, I => by
    by_cases hk : n ∈ keys nm
    · have e : dfsF rs (d + 1) n (nm, F) = (nm, F) := by
        show (if n ∈ keys nm then _ else _) = _
        rw [if_pos hk]
      rw [e]
      have hm := mem_toD hk
      refine ⟨I, ?_, ⟨[], (List.append_nil _).symm, fun _ z => nomatch z⟩, hk⟩
      rw [I.wrd _ _ hm _ _ h]
      exact layF_again I.fnd ((I.fit _ _ hm _ _).mp h) hn
    · have key : ∀ (ds acc : Rm) (nm1 : List (Int × Int)) (F1 : List Rm), (∀ p ∈ ds, p ∈ dr rs n) → Iv rs nm1 F1 →
          Iv rs (ds.foldl (fun s p => dfsF rs d p.2 s) (nm1, F1)).1 (ds.foldl (fun s p => dfsF rs d p.2 s) (nm1, F1)).2 ∧
          ds.foldl (fun st p => ((layF d (wo left p.1) (W rs d p.2) st.1).1, st.2 ++ [(p.1, (layF d (wo left p.1) (W rs d p.2) st.1).2)])) (F1, acc) =
            ((ds.foldl (fun s p => dfsF rs d p.2 s) (nm1, F1)).2, acc ++ ds.map fun p => (p.1, toD (ds.foldl (fun s p => dfsF rs d p.2 s) (nm1, F1)).1 p.2)) ∧
          (∃ more, (ds.foldl (fun s p => dfsF rs d p.2 s) (nm1, F1)).1 = nm1 ++ more ∧ ∀ x ∈ more, x.1 < n) ∧ ∀ p ∈ ds, p.2 ∈ keys (ds.foldl (fun s p => dfsF rs d p.2 s) (nm1, F1)).1 := by
        intro ds
        induction ds with
        | nil => exact fun acc nm1 F1 _ J => ⟨J, by rw [List.map_nil, List.append_nil]; rfl, ⟨[], (List.append_nil _).symm, fun _ z => nomatch z⟩, fun _ z => nomatch z⟩
        | cons p ds ih =>
          intro acc nm1 F1 hm J
          obtain ⟨p1, p2, p3⟩ := h.2.2.2.2 p (hm p List.mem_cons_self)
          obtain ⟨J1, l1, ⟨m1, e1, k1⟩, i1⟩ := dfs_lay rnd p3 (wo_nodup hn p.1) J
          obtain ⟨J2, l2, ⟨m2, e2, k2⟩, i2⟩ := ih (acc ++ [(p.1, (layF d (wo left p.1) (W rs d p.2) F1).2)]) (dfsF rs d p.2 (nm1, F1)).1 (dfsF rs d p.2 (nm1, F1)).2 (fun q hq => hm q (List.mem_cons_of_mem _ hq)) J1
          rw [List.foldl_cons, List.foldl_cons]
          have es : ((dfsF rs d p.2 (nm1, F1)).1, (dfsF rs d p.2 (nm1, F1)).2) = dfsF rs d p.2 (nm1, F1) := rfl
          rw [es] at J2 l2 e2 i2
          refine ⟨J2, ?_, ⟨m1 ++ m2, by rw [e2, e1, List.append_assoc], fun x hx => ?_⟩, fun q hq => ?_⟩
          · show ds.foldl _ ((layF d (wo left p.1) (W rs d p.2) F1).1, acc ++ [(p.1, (layF d (wo left p.1) (W rs d p.2) F1).2)]) = _
            rw [l1] at l2 ⊢
            rw [l2, List.map_cons, List.append_assoc]
            congr 2
            show [(p.1, _)] ++ _ = (p.1, _) :: _
            rw [List.singleton_append]
            congr 2
            rw [e2]
            exact (toD_app i1).symm
          · rcases List.mem_append.mp hx with hx | hx
            · have := k1 x hx
              omega
            · exact k2 x hx
          · rcases List.mem_cons.mp hq with rfl | hq
            · rw [e2]
              unfold keys at i1 ⊢
              rw [List.map_append]
              exact List.mem_append_left _ i1
            · exact i2 q hq
      obtain ⟨J, l, ⟨more, e, k⟩, i⟩ := key (dr rs n) [] nm F (fun p hp => hp) I
      have ed : dfsF rs (d + 1) n (nm, F) = (((dr rs n).foldl (fun s p => dfsF rs d p.2 s) (nm, F)).1 ++ [(n, (((dr rs n).foldl (fun s p => dfsF rs d p.2 s) (nm, F)).2.length : Int) + 2)],
          ((dr rs n).foldl (fun s p => dfsF rs d p.2 s) (nm, F)).2 ++ [(dr rs n).map fun p => (p.1, toD ((dr rs n).foldl (fun s p => dfsF rs d p.2 s) (nm, F)).1 p.2)]) := by
        show (if n ∈ keys nm then _ else _) = _
        rw [if_neg hk]
      rw [ed]
      generalize (dr rs n).foldl (fun s p => dfsF rs d p.2 s) (nm, F) = st at J l e i
      obtain ⟨nm', F'⟩ := st
      simp only at J l e i ⊢
      have hno : n ∉ keys nm' := fun z => by
        rw [e] at z
        unfold keys at z
        rw [List.map_append] at z
        rcases List.mem_append.mp z with z | z
        · exact hk z
        · obtain ⟨x, hx, hx2⟩ := List.mem_map.mp z
          have := k x hx
          omega
      have tm : ∀ p ∈ dr rs n, (p.2, toD nm' p.2) ∈ nm' := fun p hp => mem_toD (i p hp)
      have hF : (dr rs n).map (fun p => (p.1, toD nm' p.2)) ∉ F' := fun z => by
        obtain ⟨j, hj, ej⟩ := List.mem_iff_getElem.mp z
        have hdj : dr F' ((j : Int) + 2) = (dr rs n).map fun p => (p.1, toD nm' p.2) := by
          unfold dr
          rw [List.getD_eq_getElem?_getD, show ((j : Int) + 2 - 2).toNat = j by omega, List.getElem?_eq_getElem hj, ej]
          rfl
        obtain ⟨m, hm⟩ := J.sur ((j : Int) + 2) (by omega) (by omega)
        have ft : Fit F' (d + 1) left ((j : Int) + 2) := by
          refine ⟨by omega, by omega, ?_⟩
          have fwj := J.fw ((j : Int) + 2) (by omega) (by omega)
          rw [hdj] at fwj ⊢
          refine ⟨fun y => h.2.2.1 (List.map_eq_nil_iff.mp y), by rw [List.map_map]; exact h.2.2.2.1, fun q hq => ?_⟩
          have hq2 := fwj q hq
          obtain ⟨p, hp, rfl⟩ := List.mem_map.mp hq
          have f := (J.fit _ _ (tm p hp) _ _).mp (h.2.2.2.2 p hp).2.2
          exact ⟨f.pos.1, hq2, f⟩
        have fm := (J.fit _ _ hm _ _).mpr ft
        have we : W rs (d + 1) m = W rs (d + 1) n := by
          rw [J.wrd _ _ hm _ _ fm, W_succ ft, hdj, W_succ h, List.flatMap_map, List.flatMap_def, List.flatMap_def]
          congr 1
          refine List.map_congr_left fun p hp => ?_
          show (W F' d (toD nm' p.2)).map _ = (W rs d p.2).map _
          rw [J.wrd _ _ (tm p hp) _ _ (h.2.2.2.2 p hp).2.2]
        rw [W_inj rnd fm h hn we] at hm
        exact hno (List.mem_map.mpr ⟨_, hm, rfl⟩)
      refine ⟨J.add h i hno hF, ?_, ⟨more ++ [(n, (F'.length : Int) + 2)], by rw [e, List.append_assoc], fun x hx => ?_⟩, ?_⟩
      · rw [layF_succ, layF_fit h hn F, l, List.nil_append]
        show fin F' _ = _
        unfold fin
        rw [if_neg hF, toD_new hno]
      · rcases List.mem_append.mp hx with hx | hx
        · have := k x hx
          omega
        · cases List.mem_singleton.mp hx
          omega
      · unfold keys
        rw [List.map_append]
        exact List.mem_append_right _ List.mem_cons_self
theorem nodup_len : ∀ (N : Nat) (l : List Int), l.Nodup → (∀ x ∈ l, 0 ≤ x ∧ x < (N : Int)) → l.length ≤ N
  | 0, l, _, h => by
    cases l with
    | nil => exact Nat.le_refl _
    | cons x l => have := h x List.mem_cons_self; omega
  | N + 1, l, nd, h => by
    have h2 := nodup_len N (l.erase (N : Int)) (nd.erase _) fun x hx => by
      have h3 := (nd.mem_erase_iff).mp hx
      have h4 := h x h3.2
      have h5 := h3.1
      omega
    rw [List.length_erase] at h2
    split at h2 <;> omega
theorem Iv.size {rs : List Rm} {nm : List (Int × Int)} {F : List Rm} (I : Iv rs nm F) : nm.length ≤ rs.length + 2 ∧ F.length ≤ rs.length := by
  have := nodup_len (rs.length + 2) (keys nm) I.nd fun k hk => by have := I.rng k hk; omega
  unfold keys at this
  rw [List.length_map] at this
  have := I.len
  omega
/-- the doors of a number, one behind the other -/
theorem dfs_fold {rs : List Rm} (rnd : rs.Nodup) {d : Nat} {left : List Int} {n : Int} (h : Fit rs (d + 1) left n) (hn : left.Nodup) : ∀ (ds : Rm) {nm : List (Int × Int)} {F : List Rm}, (∀ p ∈ ds, p ∈ dr rs n) → Iv rs nm F →
    Iv rs (ds.foldl (fun s p => dfsF rs d p.2 s) (nm, F)).1 (ds.foldl (fun s p => dfsF rs d p.2 s) (nm, F)).2 ∧ (∃ more, (ds.foldl (fun s p => dfsF rs d p.2 s) (nm, F)).1 = nm ++ more ∧ ∀ x ∈ more, x.1 < n) ∧ ∀ p ∈ ds, p.2 ∈ keys (ds.foldl (fun s p => dfsF rs d p.2 s) (nm, F)).1
  | [], nm, F, _, I => ⟨I, ⟨[], (List.append_nil _).symm, (fun _ z => nomatch z)⟩, fun _ z => nomatch z⟩
  | p :: ds, nm, F, hm, I => by
    obtain ⟨p1, p2, p3⟩ := h.2.2.2.2 p (hm p List.mem_cons_self)
    obtain ⟨J1, _, ⟨m1, e1, k1⟩, i1⟩ := dfs_lay rnd p3 (wo_nodup hn p.1) I
    obtain ⟨J2, ⟨m2, e2, k2⟩, i2⟩ := dfs_fold rnd h hn ds (fun q hq => hm q (List.mem_cons_of_mem _ hq)) J1
    rw [List.foldl_cons]
    refine ⟨J2, ⟨m1 ++ m2, by rw [← List.append_assoc, ← e1]; exact e2, fun x hx => ?_⟩, fun q hq => ?_⟩
    · rcases List.mem_append.mp hx with hx | hx
      · have := k1 x hx
        omega
      · exact k2 x hx
    · rcases List.mem_cons.mp hq with rfl | hq
      · have : (ds.foldl (fun s p => dfsF rs d p.2 s) (dfsF rs d q.2 (nm, F))).1 = (dfsF rs d q.2 (nm, F)).1 ++ m2 := e2
        rw [this]
        unfold keys at i1 ⊢
        rw [List.map_append]
        exact List.mem_append_left _ i1
      · exact i2 q hq
theorem dfs_in {rs : List Rm} {d : Nat} {n : Int} {st : List (Int × Int) × List Rm} (h : n ∈ keys st.1) : dfsF rs d n st = st := by
  cases d with
  | zero => rfl
  | succ d =>
    show (if n ∈ keys st.1 then _ else _) = _
    rw [if_pos h]
theorem dfs_out {rs : List Rm} {d : Nat} {n : Int} {st : List (Int × Int) × List Rm} (h : n ∉ keys st.1) : dfsF rs (d + 1) n st = (((dr rs n).foldl (fun s p => dfsF rs d p.2 s) st).1 ++ [(n, (((dr rs n).foldl (fun s p => dfsF rs d p.2 s) st).2.length : Int) + 2)],
    ((dr rs n).foldl (fun s p => dfsF rs d p.2 s) st).2 ++ [(dr rs n).map fun p => (p.1, toD ((dr rs n).foldl (fun s p => dfsF rs d p.2 s) st).1 p.2)]) := by
  show (if n ∈ keys st.1 then _ else _) = _
  rw [if_neg h]
end OA

/-! OMB: tables laid by the law, sets of orders -/
namespace OA
open PySem PySem.Spec PyProof.Rows L2 Evl
open PySem.W (Datum Tup T3 DatumOrd)
/-! ### sets of orders, in their order -/
def Srt : Nat → List Int → List (List Int) → Prop
  | 0, _, S => S = [[]]
  | d + 1, left, S => S ≠ [] ∧ S = left.flatMap (fun t => (rests S t).map (t :: ·)) ∧ ∀ t ∈ left, rests S t ≠ [] → Srt d (wo left t) (rests S t)
theorem wo_len {left : List Int} {t : Int} {d : Nat} (h : left.Nodup) (ht : t ∈ left) (hl : left.length = d + 1) : (wo left t).length = d := by
  have e : wo left t = left.erase t := by
    rw [h.erase_eq_filter]
    unfold wo
    refine List.filter_congr fun x _ => ?_
    by_cases z : x = t <;> simp [z]
  rw [e, List.length_erase_of_mem ht]
  omega
theorem wo_sub (left : List Int) (t : Int) : (wo left t).Sublist left := List.filter_sublist
/-- a table as the law and the program build them -/
structure TGd (F : List Rm) (top : List Int) : Prop where
  nd : F.Nodup
  fw : ∀ m : Int, 2 ≤ m → m < F.length + 2 → ∀ p ∈ dr F m, 1 ≤ p.2 ∧ p.2 < m
  fit : ∀ m : Int, 2 ≤ m → m < F.length + 2 → ∃ d left, Fit F d left m ∧ left.Sublist top
theorem TGd.nil (top : List Int) : TGd [] top := ⟨.nil, fun m h1 h2 => by rw [List.length_nil] at h2; omega, fun m h1 h2 => by rw [List.length_nil] at h2; omega⟩
theorem TGd.add {F : List Rm} {top left : List Int} {d : Nat} {ds : Rm} (T : TGd F top) (hl : left.Sublist top) (hne : ds ≠ []) (hs : (ds.map (·.1)).Sublist left) (hf : ∀ p ∈ ds, Fit F d (wo left p.1) p.2) :
    TGd (fin F ds).1 top ∧ (∃ more, (fin F ds).1 = F ++ more) ∧ Fit (fin F ds).1 (d + 1) left (fin F ds).2 ∧ dr (fin F ds).1 (fin F ds).2 = ds := by
  unfold fin
  by_cases h : ds ∈ F
  · rw [if_pos h]
    have hi : F.idxOf ds < F.length := List.idxOf_lt_length_iff.mpr h
    have hd : dr F (((F.idxOf ds : Nat) : Int) + 2) = ds := by
      unfold dr
      rw [List.getD_eq_getElem?_getD, show (((F.idxOf ds : Nat) : Int) + 2 - 2).toNat = F.idxOf ds by omega, List.getElem?_eq_getElem hi, List.getElem_idxOf]
      rfl
    refine ⟨T, ⟨[], (List.append_nil _).symm⟩, ⟨by show (2 : Int) ≤ _ + 2; omega, by show ((F.idxOf ds : Nat) : Int) + 2 < ((F.length : Nat) : Int) + 2; omega, ?_⟩, hd⟩
    have fw := T.fw (((F.idxOf ds : Nat) : Int) + 2) (by omega) (by omega)
    show dr F (((F.idxOf ds : Nat) : Int) + 2) ≠ [] ∧ ((dr F (((F.idxOf ds : Nat) : Int) + 2)).map (·.1)).Sublist left ∧ _
    rw [hd] at fw ⊢
    exact ⟨hne, hs, fun p hp => ⟨(fw p hp).1, (fw p hp).2, hf p hp⟩⟩
  · rw [if_neg h]
    have hd := dr_new F ds
    have len : (F ++ [ds]).length = F.length + 1 := by rw [List.length_append]; rfl
    have ft : Fit (F ++ [ds]) (d + 1) left ((F.length : Nat) + 2) := by
      refine ⟨by omega, by rw [len]; omega, ?_⟩
      rw [hd]
      exact ⟨hne, hs, fun p hp => ⟨(hf p hp).pos.1, (hf p hp).pos.2, (Fit.app _ (hf p hp).pos.2).mpr (hf p hp)⟩⟩
    refine ⟨⟨?_, fun m h1 h2 => ?_, fun m h1 h2 => ?_⟩, ⟨[ds], rfl⟩, ft, hd⟩
    · rw [List.nodup_append]
      exact ⟨T.nd, List.nodup_cons.mpr ⟨List.not_mem_nil, .nil⟩, fun a ha b hb z => h (by rw [List.mem_singleton] at hb; rw [hb] at z; rw [z] at ha; exact ha)⟩
    · rw [len] at h2
      by_cases e : m < F.length + 2
      · rw [dr_app h1 e]
        exact T.fw m h1 e
      · rw [show m = (F.length : Int) + 2 by omega, hd]
        exact fun p hp => ⟨(hf p hp).pos.1, (hf p hp).pos.2⟩
    · rw [len] at h2
      by_cases e : m < F.length + 2
      · obtain ⟨d', left', f, s⟩ := T.fit m h1 e
        exact ⟨d', left', (Fit.app _ e).mpr f, s⟩
      · rw [show m = (F.length : Int) + 2 by omega]
        exact ⟨d + 1, left, ft, hl⟩
theorem layF_ok {top : List Int} : ∀ {d : Nat} {left : List Int} {S : List (List Int)} {F : List Rm}, Srt d left S → left.length = d → left.Nodup → left.Sublist top → TGd F top →
    TGd (layF d left S F).1 top ∧ (∃ more, (layF d left S F).1 = F ++ more) ∧ Fit (layF d left S F).1 d left (layF d left S F).2 ∧ W (layF d left S F).1 d (layF d left S F).2 = S
  | 0, left, S, F, h, hl, hn, hs, T => ⟨T, ⟨[], (List.append_nil _).symm⟩, ⟨rfl, List.length_eq_zero_iff.mp hl⟩, by rw [show S = [[]] from h]; rfl⟩
  | d + 1, left, S, F, h, hl, hn, hs, T => by
    obtain ⟨h1, h2, h3⟩ := h
    have key : ∀ (ts : List Int) (F1 : List Rm) (acc : Rm), (∀ t ∈ ts, t ∈ left) → TGd F1 top → ∃ more ds, ts.foldl (stepF d left S) (F1, acc) = (F1 ++ more, acc ++ ds) ∧ TGd (F1 ++ more) top ∧ (ds.map (·.1)).Sublist ts ∧
        (∀ p ∈ ds, Fit (F1 ++ more) d (wo left p.1) p.2) ∧ ts.flatMap (fun t => (rests S t).map (t :: ·)) = ds.flatMap fun p => (W (F1 ++ more) d p.2).map (p.1 :: ·) := by
      intro ts
      induction ts with
      | nil => exact fun F1 acc _ J => ⟨[], [], by rw [List.append_nil, List.append_nil]; rfl, by rw [List.append_nil]; exact J, List.nil_sublist _, (fun _ z => nomatch z), rfl⟩
      | cons t ts ih =>
        intro F1 acc hm J
        rw [List.foldl_cons]
        by_cases e : rests S t = []
        · have es : stepF d left S (F1, acc) t = (F1, acc) := by
            unfold stepF
            rw [if_pos e]
          rw [es]
          obtain ⟨more, ds, g1, g2, g3, g4, g5⟩ := ih F1 acc (fun s hs => hm s (List.mem_cons_of_mem _ hs)) J
          refine ⟨more, ds, g1, g2, g3.cons _, g4, ?_⟩
          rw [List.flatMap_cons, e, g5]
          rfl
        · have ht := hm t List.mem_cons_self
          obtain ⟨T1, ⟨m1, e1⟩, f1, w1⟩ := layF_ok (F := F1) (h3 t ht e) (wo_len hn ht hl) (wo_nodup hn t) ((wo_sub left t).trans hs) J
          have es : stepF d left S (F1, acc) t = (F1 ++ m1, acc ++ [(t, (layF d (wo left t) (rests S t) F1).2)]) := by
            unfold stepF
            rw [if_neg e, ← e1]
          rw [es]
          rw [e1] at T1 f1 w1
          obtain ⟨more, ds, g1, g2, g3, g4, g5⟩ := ih (F1 ++ m1) (acc ++ [(t, (layF d (wo left t) (rests S t) F1).2)]) (fun s hs => hm s (List.mem_cons_of_mem _ hs)) T1
          have f2 := (Fit.app more f1.pos.2).mpr f1
          refine ⟨m1 ++ more, (t, (layF d (wo left t) (rests S t) F1).2) :: ds, ?_, ?_, ?_, ?_, ?_⟩
          · rw [g1, List.append_assoc, List.append_assoc]
            rfl
          · rw [← List.append_assoc]
            exact g2
          · rw [List.map_cons]
            exact List.cons_sublist_cons.mpr g3
          · rw [← List.append_assoc]
            intro p hp
            rcases List.mem_cons.mp hp with rfl | hp
            · exact f2
            · exact g4 p hp
          · rw [← List.append_assoc, List.flatMap_cons, List.flatMap_cons, g5]
            show _ = (W (F1 ++ m1 ++ more) d (layF d (wo left t) (rests S t) F1).2).map _ ++ _
            rw [W_app more f1, w1]
    obtain ⟨more, ds, g1, g2, g3, g4, g5⟩ := key left F [] (fun _ z => z) T
    have hne : ds ≠ [] := fun z => h1 (by rw [h2, g5, z]; rfl)
    rw [layF_succ, g1, List.nil_append]
    obtain ⟨k1, ⟨m2, k2⟩, k3, k4⟩ := TGd.add (d := d) g2 hs hne g3 g4
    refine ⟨k1, ⟨more ++ m2, by show (fin (F ++ more) ds).1 = _; rw [k2, List.append_assoc]⟩, k3, ?_⟩
    show W (fin (F ++ more) ds).1 (d + 1) (fin (F ++ more) ds).2 = S
    rw [W_succ k3, k4, h2, g5, List.flatMap_def, List.flatMap_def]
    congr 1
    refine List.map_congr_left fun p hp => ?_
    rw [k2, W_app m2 (g4 p hp)]
/-! ### all orders -/
def allP : Nat → List Int → List (List Int)
  | 0, _ => [[]]
  | d + 1, left => left.flatMap fun t => (allP d (wo left t)).map (t :: ·)
theorem rests_filter (p : List Int → Bool) (S : List (List Int)) (t : Int) : rests (S.filter p) t = (rests S t).filter fun w => p (t :: w) := by
  unfold rests
  rw [List.filter_map, List.filter_filter, List.filter_filter]
  congr 1
  refine List.filter_congr fun w _ => ?_
  cases w with
  | nil => simp
  | cons x w =>
    by_cases e : x = t
    · subst e
      simp
    · simp [e]
theorem rests_all (d : Nat) (left : List Int) (hn : left.Nodup) (t : Int) : rests (allP (d + 1) left) t = if t ∈ left then allP d (wo left t) else [] := by
  have key : ∀ ts : List Int, ts.Nodup → rests (ts.flatMap fun t => (allP d (wo left t)).map (t :: ·)) t = if t ∈ ts then allP d (wo left t) else [] := by
    intro ts
    induction ts with
    | nil => exact fun _ => rfl
    | cons s ts ih =>
      intro h
      rw [List.nodup_cons] at h
      rw [List.flatMap_cons, rests_app, rests_map, ih h.2]
      by_cases e : s = t
      · subst e
        rw [if_pos rfl, if_neg h.1, if_pos List.mem_cons_self, List.append_nil]
      · rw [if_neg e, List.nil_append]
        by_cases e2 : t ∈ ts
        · rw [if_pos e2, if_pos (List.mem_cons_of_mem _ e2)]
        · rw [if_neg e2, if_neg fun z => (List.mem_cons.mp z).elim (fun y => e y.symm) e2]
  exact key left hn
theorem srt_filter : ∀ {d : Nat} {left : List Int} (p : List Int → Bool), left.length = d → left.Nodup → (allP d left).filter p ≠ [] → Srt d left ((allP d left).filter p)
  | 0, left, p, _, _, h => by
    show ([[]] : List (List Int)).filter p = [[]]
    have h' : ([[]] : List (List Int)).filter p ≠ [] := h
    rw [List.filter_cons] at h' ⊢
    by_cases e : p [] = true
    · rw [if_pos e]; rfl
    · rw [if_neg e] at h'
      exact (h' rfl).elim
  | d + 1, left, p, hl, hn, h => by
    have hr : ∀ t ∈ left, rests ((allP (d + 1) left).filter p) t = (allP d (wo left t)).filter fun w => p (t :: w) := fun t ht => by
      rw [rests_filter, rests_all d left hn, if_pos ht]
    refine ⟨h, ?_, fun t ht hne => ?_⟩
    · have e : ∀ ts : List Int, (∀ t ∈ ts, t ∈ left) → (ts.flatMap fun t => (allP d (wo left t)).map (t :: ·)).filter p = ts.flatMap fun t => (rests ((allP (d + 1) left).filter p) t).map (t :: ·) := by
        intro ts
        induction ts with
        | nil => exact fun _ => rfl
        | cons t ts ih =>
          intro hm
          rw [List.flatMap_cons, List.filter_append, ih fun s hs => hm s (List.mem_cons_of_mem _ hs), List.flatMap_cons, hr t (hm t List.mem_cons_self), List.filter_map]
          rfl
      exact e left fun _ z => z
    · rw [hr t ht] at hne ⊢
      exact srt_filter _ (wo_len hn ht hl) (wo_nodup hn t) hne
theorem wo_perm {left : List Int} {t : Int} (hn : left.Nodup) (ht : t ∈ left) : (t :: wo left t).Perm left := by
  have e : wo left t = left.erase t := by
    rw [hn.erase_eq_filter]
    unfold wo
    refine List.filter_congr fun x _ => ?_
    by_cases z : x = t <;> simp [z]
  rw [e]
  exact (List.perm_cons_erase ht).symm
theorem mem_allP : ∀ {d : Nat} {left w : List Int}, left.length = d → left.Nodup → (w ∈ allP d left ↔ w.Perm left)
  | 0, left, w, hl, _ => by
    rw [List.length_eq_zero_iff.mp hl]
    show w ∈ [[]] ↔ _
    rw [List.mem_singleton]
    exact ⟨fun e => by rw [e], fun p => p.eq_nil⟩
  | d + 1, left, w, hl, hn => by
    show w ∈ left.flatMap (fun t => (allP d (wo left t)).map (t :: ·)) ↔ _
    rw [List.mem_flatMap]
    constructor
    · rintro ⟨t, ht, hw⟩
      obtain ⟨v, hv, rfl⟩ := List.mem_map.mp hw
      exact ((mem_allP (wo_len hn ht hl) (wo_nodup hn t)).mp hv |>.cons t).trans (wo_perm hn ht)
    · intro p
      cases w with
      | nil =>
        have := p.length_eq
        rw [hl] at this
        simp at this
      | cons t w =>
        have ht : t ∈ left := p.mem_iff.mp List.mem_cons_self
        exact ⟨t, ht, List.mem_map.mpr ⟨w, (mem_allP (wo_len hn ht hl) (wo_nodup hn t)).mpr (p.trans (wo_perm hn ht).symm).cons_inv, rfl⟩⟩
/-! codes -/
theorem code_bd : ∀ {w : List Int}, TS.Bd 8 w → 0 ≤ TS.code 8 w ∧ TS.code 8 w < 8 ^ w.length
  | [], _ => by decide
  | t :: w, h => by
    obtain ⟨h1, h2⟩ := code_bd h.tail
    obtain ⟨h3, h4⟩ := h.head
    show 0 ≤ t * 8 ^ w.length + TS.code 8 w ∧ t * 8 ^ w.length + TS.code 8 w < 8 ^ (w.length + 1)
    have hp : (0 : Int) < 8 ^ w.length := Int.pow_pos (by decide)
    have e : (8 : Int) ^ (w.length + 1) = 8 ^ w.length * 8 := Int.pow_succ ..
    rw [e]
    generalize (8 : Int) ^ w.length = b at *
    constructor
    · have := Int.mul_nonneg h3 (Int.le_of_lt hp)
      omega
    · have := Int.mul_le_mul_of_nonneg_right (show t ≤ 7 by omega) (Int.le_of_lt hp)
      omega
theorem code_all : ∀ {d : Nat} {left : List Int}, left.length = d → left.Pairwise (· < ·) → TS.Bd 8 left → (allP d left).Pairwise fun a b => TS.code 8 a < TS.code 8 b
  | 0, _, _, _, _ => List.pairwise_singleton _ _
  | d + 1, left, hl, hp, hb => by
    have hn : left.Nodup := hp.imp fun h => Int.ne_of_lt h
    show (left.flatMap fun t => (allP d (wo left t)).map (t :: ·)).Pairwise _
    rw [List.pairwise_flatMap]
    have bd : ∀ t ∈ left, ∀ w ∈ allP d (wo left t), w.length = d ∧ TS.Bd 8 w := fun t ht w hw => by
      have p := (mem_allP (wo_len hn ht hl) (wo_nodup hn t)).mp hw
      refine ⟨by rw [p.length_eq, wo_len hn ht hl], fun x hx => hb x ((wo_sub left t).subset (p.mem_iff.mp hx))⟩
    refine ⟨fun t ht => ?_, ?_⟩
    · rw [List.pairwise_map]
      refine List.Pairwise.imp_of_mem (fun {a b} ha hb' h => ?_) (code_all (wo_len hn ht hl) (hp.sublist (wo_sub left t)) fun x hx => hb x ((wo_sub left t).subset hx))
      show t * 8 ^ a.length + TS.code 8 a < t * 8 ^ b.length + TS.code 8 b
      rw [(bd t ht a ha).1, (bd t ht b hb').1]
      omega
    · refine List.Pairwise.imp_of_mem (fun {s t} hs ht h a ha b hb' => ?_) hp
      obtain ⟨v, hv, rfl⟩ := List.mem_map.mp ha
      obtain ⟨u, hu, rfl⟩ := List.mem_map.mp hb'
      show s * 8 ^ v.length + TS.code 8 v < t * 8 ^ u.length + TS.code 8 u
      obtain ⟨v1, v2⟩ := bd s hs v hv
      obtain ⟨u1, u2⟩ := bd t ht u hu
      have c1 := (code_bd v2).2
      have c2 := (code_bd u2).1
      rw [v1] at c1 ⊢
      rw [u1]
      have hq : (0 : Int) < 8 ^ d := Int.pow_pos (by decide)
      have := Int.mul_le_mul_of_nonneg_right (show s + 1 ≤ t by omega) (Int.le_of_lt hq)
      rw [Int.add_mul, Int.one_mul] at this
      omega
/-- a sorted list is known by its members -/
theorem sort_unique {S us : List (List Int)} (hS : S.Pairwise fun a b => TS.code 8 a < TS.code 8 b) (nd : us.Nodup) (hu : us.Pairwise fun a b => TS.code 8 a ≤ TS.code 8 b) (hm : ∀ w, w ∈ us ↔ w ∈ S) : us = S := by
  have nS : S.Nodup := hS.imp fun {a b} h e => by rw [e] at h; omega
  have inj : ∀ a ∈ S, ∀ b ∈ S, TS.code 8 a = TS.code 8 b → a = b := by
    clear hu hm nd nS
    induction S with
    | nil => exact fun a ha => nomatch ha
    | cons x S ih =>
      rw [List.pairwise_cons] at hS
      intro a ha b hb e
      rcases List.mem_cons.mp ha with ea | ha2
      · rcases List.mem_cons.mp hb with eb | hb2
        · rw [ea, eb]
        · have := hS.1 b hb2
          rw [ea] at e
          omega
      · rcases List.mem_cons.mp hb with eb | hb2
        · have := hS.1 a ha2
          rw [eb] at e
          omega
        · exact ih hS.2 a ha2 b hb2 e
  exact List.Perm.eq_of_pairwise (fun a b ha hb h1 h2 => inj a ((hm a).mp ha) b hb (by omega)) hu (hS.imp fun h => Int.le_of_lt h) ((List.perm_ext_iff_of_nodup nd nS).mpr hm)
end OA

/-! OMC: made of orders, sizes -/
namespace OA
open PySem PySem.Spec PyProof.Rows L2 Evl
open PySem.W (Datum Tup T3 DatumOrd)
theorem layF_pos (d : Nat) (left : List Int) (S : List (List Int)) (F : List Rm) : 1 ≤ (layF d left S F).2 := by
  cases d with
  | zero => exact Int.le_refl 1
  | succ d =>
    rw [layF_succ]
    unfold fin
    split
    · show (1 : Int) ≤ _ + 2
      omega
    · show (1 : Int) ≤ _ + 2
      omega
theorem fin_len (F : List Rm) (ds : Rm) : (fin F ds).1.length ≤ F.length + 1 := by
  unfold fin
  split
  · exact Nat.le_succ _
  · show (F ++ [ds]).length ≤ _
    rw [List.length_append]
    exact Nat.le_refl _
/-- how many words begin with a thing of ts -/
def cnt (S : List (List Int)) : List Int → Nat
  | [] => 0
  | t :: ts => (rests S t).length + cnt S ts
theorem len_split {α : Type} (p : α → Bool) : ∀ l : List α, (l.filter p).length + (l.filter fun x => !p x).length = l.length
  | [] => rfl
  | x :: l => by
    have := len_split p l
    rw [List.filter_cons, List.filter_cons]
    cases p x <;> simp <;> omega
theorem cnt_le : ∀ (ts : List Int) (S : List (List Int)), ts.Nodup → cnt S ts ≤ S.length
  | [], S, _ => Nat.zero_le _
  | t :: ts, S, h => by
    rw [List.nodup_cons] at h
    -- the words that do not begin with t
    have h2 := cnt_le ts (S.filter fun w => !decide (w.head? = some t)) h.2
    have e : ∀ us : List Int, t ∉ us → cnt (S.filter fun w => !decide (w.head? = some t)) us = cnt S us := by
      intro us
      induction us with
      | nil => exact fun _ => rfl
      | cons u us ih =>
        intro hu
        have hne : u ≠ t := fun z => hu (by rw [z]; exact List.mem_cons_self)
        show (rests _ u).length + cnt _ us = (rests S u).length + cnt S us
        rw [ih fun z => hu (List.mem_cons_of_mem _ z)]
        congr 1
        unfold rests
        rw [List.length_map, List.length_map, List.filter_filter]
        congr 1
        refine List.filter_congr fun w _ => ?_
        by_cases z : w.head? = some u
        · rw [z]
          simp [hne]
        · simp [z]
    rw [e ts h.1] at h2
    have h3 : (rests S t).length + (S.filter fun w => !decide (w.head? = some t)).length = S.length := by
      unfold rests
      rw [List.length_map]
      exact len_split _ S
    show (rests S t).length + cnt S ts ≤ S.length
    omega
theorem layF_len : ∀ {d : Nat} {left : List Int} {S : List (List Int)} {F : List Rm}, left.Nodup → S ≠ [] → (layF d left S F).1.length ≤ F.length + S.length * d
  | 0, _, _, F, _, _ => Nat.le_add_right _ _
  | d + 1, left, S, F, hn, hS => by
    have key : ∀ (ts : List Int) (F1 : List Rm) (acc : Rm), (ts.foldl (stepF d left S) (F1, acc)).1.length ≤ F1.length + cnt S ts * d := by
      intro ts
      induction ts with
      | nil => exact fun F1 acc => Nat.le_add_right _ _
      | cons t ts ih =>
        intro F1 acc
        rw [List.foldl_cons]
        by_cases e : rests S t = []
        · have es : stepF d left S (F1, acc) t = (F1, acc) := by
            unfold stepF
            rw [if_pos e]
          rw [es]
          have := ih F1 acc
          show _ ≤ F1.length + ((rests S t).length + cnt S ts) * d
          rw [e]
          simpa using this
        · have es : stepF d left S (F1, acc) t = ((layF d (wo left t) (rests S t) F1).1, acc ++ [(t, (layF d (wo left t) (rests S t) F1).2)]) := by
            unfold stepF
            rw [if_neg e]
          rw [es]
          have h1 := ih (layF d (wo left t) (rests S t) F1).1 (acc ++ [(t, (layF d (wo left t) (rests S t) F1).2)])
          have h2 := layF_len (d := d) (left := wo left t) (F := F1) (wo_nodup hn t) e
          show _ ≤ F1.length + ((rests S t).length + cnt S ts) * d
          rw [Nat.add_mul]
          omega
    have h1 := key left F []
    have h2 := cnt_le left S hn
    have h3 := Nat.mul_le_mul_right d h2
    have h4 : 1 ≤ S.length := List.length_pos_iff.mpr hS
    rw [layF_succ]
    have h5 := fin_len (left.foldl (stepF d left S) (F, [])).1 (left.foldl (stepF d left S) (F, [])).2
    rw [Nat.mul_succ]
    omega
theorem fold_acc {d : Nat} {left : List Int} {S : List (List Int)} : ∀ (ts : List Int) (F : List Rm) (acc : Rm), ∃ ds, (ts.foldl (stepF d left S) (F, acc)).2 = acc ++ ds ∧ ∀ t ∈ ts, rests S t ≠ [] → ds ≠ []
  | [], F, acc => ⟨[], (List.append_nil _).symm, fun t ht => nomatch ht⟩
  | s :: ts, F, acc => by
    rw [List.foldl_cons]
    by_cases e : rests S s = []
    · have es : stepF d left S (F, acc) s = (F, acc) := by
        unfold stepF
        rw [if_pos e]
      rw [es]
      obtain ⟨ds, h1, h2⟩ := fold_acc ts F acc
      refine ⟨ds, h1, fun t ht hr => ?_⟩
      rcases List.mem_cons.mp ht with rfl | ht
      · exact (hr e).elim
      · exact h2 t ht hr
    · have es : stepF d left S (F, acc) s = ((layF d (wo left s) (rests S s) F).1, acc ++ [(s, (layF d (wo left s) (rests S s) F).2)]) := by
        unfold stepF
        rw [if_neg e]
      rw [es]
      obtain ⟨ds, h1, h2⟩ := fold_acc ts (layF d (wo left s) (rests S s) F).1 (acc ++ [(s, (layF d (wo left s) (rests S s) F).2)])
      exact ⟨_, by rw [h1, List.append_assoc], fun t ht hr z => by simp at z⟩
/-! ### made of orders -/
def nz (ds : Rm) : Rm := ds.filter fun p => !decide (p.2 = 0)
def roomF (rs : List Rm) (ds : Rm) : List Rm × Int := if nz ds = [] then (rs, 0) else OA.fin rs (nz ds)
def pick (os : List (List Int)) (at_ : Nat) (t : Int) : List (List Int) := os.filter fun o => decide (o.getD at_ 0 = t)
def madeF (rs : List Rm) (left : List Int) (os : List (List Int)) (at_ : Nat) : List Rm × Int := if os = [] then (rs, 0) else layF left.length left (os.map (List.drop at_)) rs
def stepM (left : List Int) (os : List (List Int)) (at_ : Nat) (st : List Rm × Rm) (t : Int) : List Rm × Rm := ((madeF st.1 (wo left t) (pick os at_ t) (at_ + 1)).1, st.2 ++ [(t, (madeF st.1 (wo left t) (pick os at_ t) (at_ + 1)).2)])
theorem pick_rests {os : List (List Int)} {at_ : Nat} (h : ∀ o ∈ os, at_ < o.length) (t : Int) : rests (os.map (List.drop at_)) t = (pick os at_ t).map (List.drop (at_ + 1)) := by
  unfold rests pick
  rw [List.filter_map, List.map_map]
  have e : os.filter ((fun w : List Int => decide (w.head? = some t)) ∘ List.drop at_) = os.filter fun o => decide (o.getD at_ 0 = t) := by
    refine List.filter_congr fun o ho => ?_
    have := h o ho
    show decide ((o.drop at_).head? = some t) = _
    rw [List.head?_drop, List.getElem?_eq_getElem this, List.getD_eq_getElem?_getD, List.getElem?_eq_getElem this]
    simp
  rw [e]
  refine List.map_congr_left fun o _ => ?_
  show (o.drop at_).tail = _
  rw [List.tail_drop]
theorem nz_app (a b : Rm) : nz (a ++ b) = nz a ++ nz b := List.filter_append ..
theorem made_fold {d : Nat} {left : List Int} {os : List (List Int)} {at_ : Nat} (hn : left.Nodup) (hl : left.length = d + 1) (h : ∀ o ∈ os, at_ < o.length) : ∀ (ts : List Int) (F : List Rm) (acc : Rm), (∀ t ∈ ts, t ∈ left) →
    (ts.foldl (stepM left os at_) (F, acc)).1 = (ts.foldl (stepF d left (os.map (List.drop at_))) (F, nz acc)).1 ∧ nz (ts.foldl (stepM left os at_) (F, acc)).2 = (ts.foldl (stepF d left (os.map (List.drop at_))) (F, nz acc)).2
  | [], F, acc, _ => ⟨rfl, rfl⟩
  | t :: ts, F, acc, hm => by
    rw [List.foldl_cons, List.foldl_cons]
    have hr := pick_rests h t
    have hlt := wo_len hn (hm t List.mem_cons_self) hl
    by_cases e : pick os at_ t = []
    · have e1 : stepM left os at_ (F, acc) t = (F, acc ++ [(t, 0)]) := by
        unfold stepM madeF
        rw [if_pos e]
      have e2 : stepF d left (os.map (List.drop at_)) (F, nz acc) t = (F, nz acc) := by
        unfold stepF
        rw [if_pos (by rw [hr, e]; rfl)]
      rw [e1, e2]
      have := made_fold hn hl h ts F (acc ++ [(t, 0)]) fun s hs => hm s (List.mem_cons_of_mem _ hs)
      rw [nz_app] at this
      simpa [nz] using this
    · have e1 : stepM left os at_ (F, acc) t = ((layF d (wo left t) (rests (os.map (List.drop at_)) t) F).1, acc ++ [(t, (layF d (wo left t) (rests (os.map (List.drop at_)) t) F).2)]) := by
        unfold stepM madeF
        rw [if_neg e, hlt, hr]
      have e2 : stepF d left (os.map (List.drop at_)) (F, nz acc) t = ((layF d (wo left t) (rests (os.map (List.drop at_)) t) F).1, nz acc ++ [(t, (layF d (wo left t) (rests (os.map (List.drop at_)) t) F).2)]) := by
        unfold stepF
        rw [if_neg (by rw [hr]; intro z; exact e (List.map_eq_nil_iff.mp z))]
      rw [e1, e2]
      have := made_fold hn hl h ts (layF d (wo left t) (rests (os.map (List.drop at_)) t) F).1 (acc ++ [(t, (layF d (wo left t) (rests (os.map (List.drop at_)) t) F).2)]) fun s hs => hm s (List.mem_cons_of_mem _ hs)
      have hp := layF_pos d (wo left t) (rests (os.map (List.drop at_)) t) F
      have nzs : nz [(t, (layF d (wo left t) (rests (os.map (List.drop at_)) t) F).2)] = [(t, (layF d (wo left t) (rests (os.map (List.drop at_)) t) F).2)] := by
        unfold nz
        rw [List.filter_cons, if_pos (by
          have : (layF d (wo left t) (rests (os.map (List.drop at_)) t) F).2 ≠ 0 := by omega
          simp [this])]
        rfl
      rw [nz_app, nzs] at this
      exact this
/-- the room behind the fold -/
theorem made_room {left : List Int} {os : List (List Int)} {at_ : Nat} {F : List Rm} (hn : left.Nodup) (hne : left ≠ []) (ho : os ≠ []) (h : ∀ o ∈ os, (o.drop at_).Perm left) :
    roomF (left.foldl (stepM left os at_) (F, [])).1 (left.foldl (stepM left os at_) (F, [])).2 = madeF F left os at_ := by
  obtain ⟨d, hl⟩ : ∃ d, left.length = d + 1 := ⟨left.length - 1, by have := List.length_pos_iff.mpr hne; omega⟩
  have hlen : ∀ o ∈ os, at_ < o.length := fun o hm => by
    have := (h o hm).length_eq
    rw [List.length_drop] at this
    omega
  obtain ⟨e1, e2⟩ := made_fold hn hl hlen left F [] fun t ht => ht
  have e3 : nz ([] : Rm) = [] := rfl
  rw [e3] at e1 e2
  have ne : nz (left.foldl (stepM left os at_) (F, [])).2 ≠ [] := by
    rw [e2]
    obtain ⟨ds, g1, g2⟩ := fold_acc (d := d) (left := left) (S := os.map (List.drop at_)) left F []
    rw [g1, List.nil_append]
    obtain ⟨o, os', eo⟩ := List.exists_cons_of_ne_nil ho
    have hm : o ∈ os := by rw [eo]; exact List.mem_cons_self
    have hlt := hlen o hm
    have hin : o.getD at_ 0 ∈ left := by
      refine (h o hm).mem_iff.mp ?_
      rw [List.getD_eq_getElem?_getD, List.getElem?_eq_getElem hlt]
      exact List.mem_drop_iff_getElem.mpr ⟨0, by omega, by simp⟩
    refine g2 _ hin ?_
    rw [pick_rests hlen]
    intro z
    have z2 := List.map_eq_nil_iff.mp z
    unfold pick at z2
    have := List.filter_eq_nil_iff.mp z2 o hm
    simp at this
  unfold roomF madeF
  rw [if_neg ne, if_neg ho, e1, e2, hl, layF_succ]
theorem madeF_len {left : List Int} {os : List (List Int)} {at_ : Nat} {F : List Rm} (hn : left.Nodup) : (madeF F left os at_).1.length ≤ F.length + os.length * left.length := by
  unfold madeF
  by_cases h : os = []
  · rw [if_pos h]
    exact Nat.le_add_right _ _
  · rw [if_neg h]
    have := layF_len (d := left.length) (left := left) (S := os.map (List.drop at_)) (F := F) hn (fun z => h (List.map_eq_nil_iff.mp z))
    rw [List.length_map] at this
    exact this
/-- sizes in the midst of the fold -/
theorem stepM_len {left : List Int} {os : List (List Int)} {at_ d : Nat} (hn : left.Nodup) (hl : left.length = d + 1) (h : ∀ o ∈ os, at_ < o.length) : ∀ (ts : List Int) (F : List Rm) (acc : Rm), (∀ t ∈ ts, t ∈ left) →
    (ts.foldl (stepM left os at_) (F, acc)).1.length ≤ F.length + cnt (os.map (List.drop at_)) ts * d
  | [], F, acc, _ => Nat.le_add_right _ _
  | t :: ts, F, acc, hm => by
    rw [List.foldl_cons]
    have h1 := stepM_len hn hl h ts (stepM left os at_ (F, acc) t).1 (stepM left os at_ (F, acc) t).2 fun s hs => hm s (List.mem_cons_of_mem _ hs)
    have h2 : (stepM left os at_ (F, acc) t).1.length ≤ F.length + (pick os at_ t).length * d := by
      have := madeF_len (left := wo left t) (os := pick os at_ t) (at_ := at_ + 1) (F := F) (wo_nodup hn t)
      rw [wo_len hn (hm t List.mem_cons_self) hl] at this
      exact this
    have e : (rests (os.map (List.drop at_)) t).length = (pick os at_ t).length := by rw [pick_rests h, List.length_map]
    show _ ≤ F.length + ((rests (os.map (List.drop at_)) t).length + cnt (os.map (List.drop at_)) ts) * d
    rw [e, Nat.add_mul]
    have h3 : ((stepM left os at_ (F, acc) t).1, (stepM left os at_ (F, acc) t).2) = stepM left os at_ (F, acc) t := rfl
    rw [h3] at h1
    omega
theorem cnt_app (S : List (List Int)) : ∀ (a b : List Int), cnt S (a ++ b) = cnt S a + cnt S b
  | [], b => by rw [List.nil_append]; show _ = 0 + _; omega
  | t :: a, b => by
    show (rests S t).length + cnt S (a ++ b) = (rests S t).length + cnt S a + cnt S b
    rw [cnt_app S a b]
    omega
end OA

/-! OE: orders -/
namespace OA
open PySem PySem.Spec PyProof.Rows L2 Evl
open PySem.W (Datum Tup T3 DatumOrd)

/-! ### mathematics -/
theorem upTo_len (n : Nat) : (upTo n).length = n := by unfold upTo; rw [List.length_map, List.length_range]
theorem upTo_get {n i : Nat} (h : i < n) : (upTo n)[i]? = some (i : Int) := by
  unfold upTo
  rw [List.getElem?_map, List.getElem?_range h]
  rfl
theorem mem_upTo {n : Nat} {x : Int} : x ∈ upTo n ↔ 0 ≤ x ∧ x < n := by
  unfold upTo
  rw [List.mem_map]
  constructor
  · rintro ⟨i, hi, rfl⟩
    have := List.mem_range.mp hi
    omega
  · intro h
    exact ⟨x.toNat, List.mem_range.mpr (by omega), by omega⟩
theorem upTo_nodup (n : Nat) : (upTo n).Nodup := by
  unfold upTo
  exact List.Pairwise.map _ (fun a b h e => h (by omega)) List.nodup_range
/-- an order of n things -/
def IsOrd (n : Int) (ns : List Int) : Prop := 1 ≤ n ∧ n ≤ 8 ∧ sortI ns = upTo n.toNat
instance (n : Int) (ns : List Int) : Decidable (IsOrd n ns) := by unfold IsOrd; infer_instance
theorem IsOrd.perm {n : Int} {ns : List Int} (h : IsOrd n ns) : ns.Perm (upTo n.toNat) := by
  rw [← h.2.2]
  exact (sortI_perm ns).symm
theorem IsOrd.len {n : Int} {ns : List Int} (h : IsOrd n ns) : (ns.length : Int) = n := by
  have := h.perm.length_eq
  rw [upTo_len] at this
  have := h.1
  omega
theorem IsOrd.mem {n : Int} {ns : List Int} (h : IsOrd n ns) {x : Int} : x ∈ ns ↔ 0 ≤ x ∧ x < n := by
  rw [h.perm.mem_iff, mem_upTo]
  have := h.1
  omega
theorem IsOrd.nodup {n : Int} {ns : List Int} (h : IsOrd n ns) : ns.Nodup := h.perm.nodup_iff.mpr (upTo_nodup _)
theorem IsOrd.of_perm {n : Int} {ns : List Int} (h1 : 1 ≤ n) (h8 : n ≤ 8) (p : ns.Perm (upTo n.toNat)) : IsOrd n ns := by
  refine ⟨h1, h8, sort_one ((sortI_perm ns).trans p) (sortI_up ns) ?_⟩
  unfold upTo
  exact List.Pairwise.map _ (fun a b (h : a < b) => by show (a : Int) ≤ (b : Int); omega) List.pairwise_lt_range
def turnL (ns : List Int) : List Int := (upTo ns.length).map fun x => ((ns.idxOf x : Nat) : Int)
def behL (ns ms : List Int) : List Int := ns.map fun p => ms.getD p.toNat 0
def crossAt (ns : List Int) (k : Nat) : Int := (((ns.drop (k + 1)).filter fun t => decide (t < ns.getD k 0)).length : Nat)
def crossN (ns : List Int) (k : Nat) : Int := ((List.range k).map (crossAt ns)).sum
def crossL (ns : List Int) : Int := crossN ns ns.length
theorem crossN_succ (ns : List Int) (k : Nat) : crossN ns (k + 1) = crossN ns k + crossAt ns k := by
  unfold crossN
  rw [List.range_succ, List.map_append, List.sum_append, List.map_cons, List.map_nil, List.sum_cons, List.sum_nil, Int.add_zero]
theorem getD_get {ns : List Int} {i : Nat} (h : i < ns.length) : ns[i]? = some (ns.getD i 0) := by
  rw [List.getD_eq_getElem?_getD, List.getElem?_eq_getElem h]
  rfl
theorem sIx_from {n k : Nat} (h : k ≤ n) : HT.sIx n 0 (some (k : Int)) = k := by rw [HT.sIx_nat]; omega
theorem sIx_to {n k : Nat} (h : k ≤ n) : HT.sIx n n (some (k : Int)) = k := by rw [HT.sIx_nat]; omega
theorem cutA_from {α : Type} {xs : List α} {k : Nat} (h : k ≤ xs.length) : cutA xs (some (k : Int)) none = xs.drop k := by
  unfold cutA
  rw [sIx_from h, HT.sIx_none, List.take_of_length_le (by rw [List.length_drop]; exact Nat.le_refl _)]
theorem cutA_from1 {α : Type} {xs : List α} {k : Nat} (h : k < xs.length) : cutA xs (some ((k : Int) + 1)) none = xs.drop (k + 1) := cutA_from (xs := xs) (k := k + 1) h
theorem filt_true {α : Type} (xs : List α) : (xs.filter fun _ => true) = xs := List.filter_eq_self.mpr fun _ _ => rfl
theorem cutA_to {α : Type} {xs : List α} {k : Nat} (h : k ≤ xs.length) : cutA xs none (some (k : Int)) = xs.take k := by
  unfold cutA
  rw [sIx_to h, HT.sIx_none, List.drop_zero, Nat.sub_zero]

/-! ### promises -/
section
variable {K : PySem.W.Frag} {A : Ads} {vs : List V} {H : Hp} {Q : VK} {E : XK}
abbrev WXE (E : XK) : WX := fun cls d _ H' => E cls d H'
abbrev DQ (Q : VK) : Ends := { nx := fun _ H' => Q .non H', rt := Q }
theorem q_do {te : TE} {tz : TS} {D : Ends} {σ : L2.St} (h : te σ H fun _ H1 => tz D σ H1) : tSeq (tDrop te) tz D σ H := h
theorem s_do {te : TE} {D : Ends} {σ : L2.St} (h : te σ H fun _ H1 => D.nx σ H1) : tDrop te D σ H := h

def sp_look_many (K : PySem.W.Frag) (A : Ads) : Sp := Spn 1 fun vs H Q E => ∃ n : Int, vs = [.int n] ∧ (1 ≤ n ∧ n ≤ 8 → ∀ H', Ex H H' → Q .non H') ∧ (¬ (1 ≤ n ∧ n ≤ 8) → ∀ H', Ex H H' → E (.ref A.BadOrder) none H')
def t_look_many (K : PySem.W.Frag) (A : Ads) (W : WX) : TS :=
  (tIfS (tNot (tTest (tChain rLeI rLeI (tC (.int 1)) (tVar 0) (tC (.int 8))))) (tRs W A.BadOrder) tNext)
theorem pu_look_many (h : sp_look_many K A vs H Q E) : t_look_many K A (WXE E) (DQ Q) (start ["many"] vs) H := by
  obtain ⟨_, n, rfl, k1, k2⟩ := h
  refine s_if (et_not (et_test (ec_lele ev_c (ev_var rfl) ev_c))) (fun hb H1 e1 => ?_) (fun hb H1 e1 => ?_)
  · exact k2 (fun z => by simp [z.1, z.2] at hb) H1 e1
  · exact k1 (by simpa using hb) H1 e1

def sp_look_order (K : PySem.W.Frag) (A : Ads) : Sp := Spn 2 fun vs H Q E => ∃ (n : Int) (v : V) (ns : List Int), vs = [.int n, v] ∧ Hd K H v (Tup.mk ns) ∧ (IsOrd n ns → ∀ H', Ex H H' → Q .non H') ∧ (¬ IsOrd n ns → ∀ H', Ex H H' → E (.ref A.BadOrder) none H')
def t_look_order (K : PySem.W.Frag) (A : Ads) (W : WX) : TS :=
  (tSeq (tDrop (tCallS (sp_look_many K A) (WE W) (tCons (tVar 0) tNil)))
    (tIfS (tTest (tOp (rNeP K) (tCB (rSortedQ K) (tCons (tVar 1) tNil)) (tLstRg (tRg1 (tVar 0))))) (tRs W A.BadOrder) tNext))
theorem pu_look_order (h : sp_look_order K A vs H Q E) : t_look_order K A (WXE E) (DQ Q) (start ["many", "order"] vs) H := by
  obtain ⟨_, n, v, ns, rfl, hv, k1, k2⟩ := h
  refine q_do (cl1 (K := K) (ed_var rfl (of_int n)) fun w H1 e1 hw => ?_)
  rw [hd_int hw]
  refine ⟨rfl, n, rfl, fun hn H2 e2 => ?_, fun hn H2 e2 => k2 (fun z => hn ⟨z.1, z.2.1⟩) H2 (e1.trans e2)⟩
  refine s_if (et_test (ev_neD (EvN.d (en_sortT (ed_var rfl (hd_ex (e1.trans e2) hv)))) (EvN.d (en_listRg (ev_var rfl) (by omega))))) (fun hb H3 e3 => ?_) (fun hb H3 e3 => ?_)
  · exact k2 (fun z => by simp [z.2.2] at hb) H3 ((e1.trans e2).trans e3)
  · exact k1 ⟨hn.1, hn.2, by simpa using hb⟩ H3 ((e1.trans e2).trans e3)

end
end OA

/-! OF: helpers of the laws -/
namespace OA
open PySem PySem.Spec PyProof.Rows L2 Evl
open PySem.W (Datum Tup T3 DatumOrd)
section
variable {K : PySem.W.Frag} {A : Ads} {vs : List V} {H : Hp} {Q : VK} {E : XK}
/-! ### draws -/
def cellF (ns : List Int) (k : Int) : Int := if ns.isEmpty = true then 0 else ns.getD (k % (ns.length : Int)).toNat 0
def mixA (ns : List Int) (k : Int) : Int := (cellF ns k + 104729 * (k + 1)) % 4294967291
def mixB (ns : List Int) (k : Int) : Int := mixA ns k * 48271 % 4294967279
def mixF (ns : List Int) (k : Int) : Int := (mixB ns k / 64 * 69621 + mixB ns k) % 4294967231
theorem mixF_nn (ns : List Int) (k : Int) : 0 ≤ mixF ns k := Int.emod_nonneg _ (by decide)
theorem mixF_lt (ns : List Int) (k : Int) : mixF ns k < 4294967231 := Int.emod_lt_of_pos _ (by decide)

def sp_law_cell (K : PySem.W.Frag) (A : Ads) : Sp := Spn 2 fun vs H Q E => ∃ (v : V) (ns : List Int) (k : Int), vs = [v, .int k] ∧ Hd K H v ns ∧ ∀ H', Ex H H' → Q (.int (cellF ns k)) H'
def t_law_cell (K : PySem.W.Frag) (A : Ads) (W : WX) : TS :=
  (tSeq (tIfS (tTruQ K (tVar 0)) (tRet (tOp (rIx K) (tVar 0) (tOp rModI (tVar 1) (tCB (rLenS K) (tCons (tVar 0) tNil))))) tNext)
    (tRet (tC (.int 0))))
theorem pu_law_cell (h : sp_law_cell K A vs H Q E) : t_law_cell K A (WXE E) (DQ Q) (start ["_law_script", "_law_k"] vs) H := by
  obtain ⟨_, v, ns, k, rfl, hv, q⟩ := h
  refine q_when (et_truL (ed_var rfl hv)) (fun hb H1 e1 => ?_) (fun hb H1 e1 => ?_)
  · have hne : ns.isEmpty = false := by simpa using hb
    have hl : 0 < ns.length := List.length_pos_iff.mpr (by intro z; rw [z] at hne; cases hne)
    have hm : 0 ≤ k % (ns.length : Int) := Int.emod_nonneg _ (by omega)
    have hm2 : k % (ns.length : Int) < ns.length := Int.emod_lt_of_pos _ (by omega)
    have hc : k % (ns.length : Int) = (((k % (ns.length : Int)).toNat : Nat) : Int) := by omega
    refine s_rets (EvD.int (ed_ixL (xs := ns) (i := k % (ns.length : Int)) (ed_var rfl (hd_ex e1 hv)) (ei_mod (ev_var rfl) (ev_lenL (ed_var rfl (hd_ex e1 hv))) (by omega)) ?_)) fun H2 e2 => q H2 (e1.trans e2)
    rw [hc, atI_nat (getD_get (by omega))]
    unfold cellF
    rw [if_neg (by rw [hne]; decide)]
  · have hne : ns.isEmpty = true := by simpa using hb
    refine s_rets ev_c fun H2 e2 => ?_
    have := q H2 (e1.trans e2)
    unfold cellF at this
    rw [if_pos hne] at this
    exact this

def sp_law_mix (K : PySem.W.Frag) (A : Ads) : Sp := Spn 2 fun vs H Q E => ∃ (v : V) (ns : List Int) (k : Int), vs = [v, .int k] ∧ Hd K H v ns ∧ ∀ H', Ex H H' → Q (.int (mixF ns k)) H'
def t_law_mix (K : PySem.W.Frag) (A : Ads) (W : WX) : TS :=
  (tSeq (tAsg (tOp rModI (tOp rAddI (tCallS (sp_law_cell K A) (WE W) (tCons (tVar 0) (tCons (tVar 1) tNil))) (tOp rMulI (tC (.int 104729)) (tOp rAddI (tVar 1) (tC (.int 1))))) (tC (.int 4294967291))) (gName 2))
    (tSeq (tAsg (tOp rModI (tOp rMulI (tVar 2) (tC (.int 48271))) (tC (.int 4294967279))) (gName 2))
    (tRet (tOp rModI (tOp rAddI (tOp rMulI (tOp rDivI (tVar 2) (tC (.int 64))) (tC (.int 69621))) (tVar 2)) (tC (.int 4294967231))))))
theorem pu_law_mix (h : sp_law_mix K A vs H Q E) : t_law_mix K A (WXE E) (DQ Q) (start ["_law_script", "_law_k", "_law_number"] vs) H := by
  obtain ⟨_, v, ns, k, rfl, hv, q⟩ := h
  have hb0 : 0 ≤ mixB ns k := Int.emod_nonneg _ (by decide)
  have hb1 : mixB ns k < 4294967279 := Int.emod_lt_of_pos _ (by decide)
  refine q_asg (v := .int (mixA ns k)) (ei_mod (ei_add (EvD.int (z1 hv rfl)) (ei_mul ev_c (ei_add (ev_var rfl) ev_c) (.inl (by decide)))) ev_c (by decide)) fun H1 e1 => ?_
  refine q_asg (v := .int (mixB ns k)) (ei_mod (ei_mul (ev_var rfl) ev_c (.inr (by decide))) ev_c (by decide)) fun H2 e2 => ?_
  refine s_rets (v := .int (mixF ns k)) (ei_mod (ei_add (ei_mul (ei_div (ev_var rfl) ev_c ⟨by decide, by decide⟩) ev_c (.inr (by decide))) (ev_var rfl)) ev_c (by decide)) fun H3 e3 => q H3 ((e1.trans e2).trans e3)
where
  z1 {K : PySem.W.Frag} {A : Ads} {H : Hp} {v : V} {ns : List Int} {k : Int} {σ : L2.St} {EX : L2.St → XK} (hv : Hd K H v ns) (h0 : σ = [some v, some (.int k), none]) : EvD K (tCallS (sp_law_cell K A) EX (tCons (tVar 0) (tCons (tVar 1) tNil))) σ H (cellF ns k) := by
    subst h0
    exact ed_cl2 (ed_var rfl hv) (ed_var rfl (of_int k)) fun w w2 H1 e1 hw hw2 Q E q => ⟨rfl, w, ns, k, by rw [hd_int hw2], hw, fun H2 e2 => q _ H2 e2 (of_int _)⟩
/-- a draw, as an expression -/
theorem ed_mix {σ : L2.St} {ta tb : TE} {ns : List Int} {k : Int} {EX : L2.St → XK} (ha : EvD K ta σ H ns) (hb : Ev tb σ H (.int k)) : Ev (tCallS (sp_law_mix K A) EX (tCons ta (tCons tb tNil))) σ H (.int (mixF ns k)) :=
  EvD.int (ed_cl2 ha (ed_int hb) fun w w2 H1 e1 hw hw2 Q E q => ⟨rfl, w, ns, k, by rw [hd_int hw2], hw, fun H2 e2 => q _ H2 e2 (of_int _)⟩)

end
end OA

/-! OF2: what is whole, which error -/
namespace OA
open PySem PySem.Spec PyProof.Rows L2 Evl
open PySem.W (Datum Tup T3 DatumOrd)
section
variable {K : PySem.W.Frag} {A : Ads} {vs : List V} {H : Hp} {Q : VK} {E : XK}
/-! ### which error -/
def words : List Str := ["book", "number", "order", "rule", "text", "weights", "unlike"]
def bits (j : Nat) : List Bool := [decide (j = 0), decide (j = 1), decide (j = 2), decide (j = 3), decide (j = 4), decide (j = 5), decide (j = 6)]
theorem bits_one : ∀ j, j < 7 → ((bits j).countP fun y => decide (y = true)) = 1 ∧ (bits j).idxOf true = j ∧ true ∈ bits j := by decide
def sp_law_refusal (K : PySem.W.Frag) (A : Ads) : Sp := Spn 1 fun vs H Q E => (vs = [.non] ∧ ∀ H', Ex H H' → Q (.str "ok") H') ∨
  ∃ (a D : Addr) (j : Nat), vs = [.ref a] ∧ H a = some (ExK (.ref D) a) ∧ KeptT K A D j ∧ j < 7 ∧ ∀ H', Ex H H' → Q (.str (words.getD j "")) H'
def t_law_refusal (K : PySem.W.Frag) (A : Ads) (W : WX) : TS :=
  (tSeq (tIfS (tTest (tOp rIsNn (tVar 0) (tC .non))) (tRet (tC (.str "ok"))) tNext)
    (tSeq (tAsg (tLst (tCons (tCB (rIsA K) (tCons (tVar 0) (tCons (tC (.ref A.BadBook)) tNil))) (tCons (tCB (rIsA K) (tCons (tVar 0) (tCons (tC (.ref A.BadNumber)) tNil))) (tCons (tCB (rIsA K) (tCons (tVar 0) (tCons (tC (.ref A.BadOrder)) tNil))) tNil)))) (gName 1))
    (tSeq (tAsg (tOp rCat (tVar 1) (tLst (tCons (tCB (rIsA K) (tCons (tVar 0) (tCons (tC (.ref A.BadRule)) tNil))) (tCons (tCB (rIsA K) (tCons (tVar 0) (tCons (tC (.ref A.BadText)) tNil))) (tCons (tCB (rIsA K) (tCons (tVar 0) (tCons (tC (.ref A.BadWeights)) tNil))) tNil))))) (gName 1))
    (tSeq (tDrop (tBM K "list" rAppend (tVar 1) (tCons (tCB (rIsA K) (tCons (tVar 0) (tCons (tC (.ref A.Unlike)) tNil))) tNil)))
    (tSeq (tIfS (tOr (tTest (tOp (rNeP K) (tBM K "list" (rCountP K) (tVar 1) (tCons (tC (.bl true)) tNil)) (tC (.int 1)))) (tNot (tB (tCB (rIsA K) (tCons (tVar 0) (tCons (tC (.ty "ValueError")) tNil)))))) (tRet (tC (.str "wrong"))) tNext)
    (tRet (tOp (rIx K) (tLst (tCons (tC (.str "book")) (tCons (tC (.str "number")) (tCons (tC (.str "order")) (tCons (tC (.str "rule")) (tCons (tC (.str "text")) (tCons (tC (.str "weights")) (tCons (tC (.str "unlike")) tNil)))))))) (tBM K "list" (rIndexP K) (tVar 1) (tCons (tC (.bl true)) tNil)))))))))
theorem pu_law_refusal (h : sp_law_refusal K A vs H Q E) : t_law_refusal K A (WXE E) (DQ Q) (start ["_law_kept", "_law_kinds"] vs) H := by
  rcases h with ⟨_, ⟨rfl, q⟩ | ⟨a, D, j, rfl, ha, T, hj, q⟩⟩
  · refine q_when (et_test (ev_isN (ev_var rfl))) (fun _ H1 e1 => s_rets ev_c fun H2 e2 => q H2 (e1.trans e2)) (fun hb => ?_)
    simp at hb
  · refine q_when (et_test (ev_isN (ev_var rfl))) (fun hb => ?_) (fun _ H1 e1 => ?_)
    · simp at hb
    have k1 := e1 a _ ha
    refine qn_asg (en_lstA (K := K) (xs := [decide (j = 0), decide (j = 1), decide (j = 2)]) (eas_cons (ed_bool (ev_isk (ev_var rfl) k1 T.ec T.k0)) (eas_cons (ed_bool (ev_isk (ev_var rfl) k1 T.ec T.k1)) (eas_cons (ed_bool (ev_isk (ev_var rfl) k1 T.ec T.k2)) eas_nil))) (by show 3 ≤ 100000; decide)) fun p vs H2 hp e2 h2 d2 => ?_
    have k2 := e2 a _ k1
    refine qn_asg (en_cat1 (K := K) (ys := [decide (j = 3), decide (j = 4), decide (j = 5)]) (ev_var rfl) h2 d2 (en_lstA (eas_cons (ed_bool (ev_isk (ev_var rfl) k2 T.ec T.k3)) (eas_cons (ed_bool (ev_isk (ev_var rfl) k2 T.ec T.k4)) (eas_cons (ed_bool (ev_isk (ev_var rfl) k2 T.ec T.k5)) eas_nil))) (by show 3 ≤ 100000; decide)) (by simp)) fun p' vs' H3 hp' e3 h3 d3 => ?_
    have k3 := e3 a _ k2
    refine q_app (K := K) h3 (ev_var rfl) (ev_isk (ev_var rfl) k3 T.ec T.k6) (by rw [hds_len d3]; simp) fun H4 e4 => ?_
    have dn : Hds K (upd H4 p' (.lst (vs' ++ [.bl (decide (j = 6))]))) (vs' ++ [.bl (decide (j = 6))]) (bits j) := by
      have tx : Tx H4 (upd H4 p' (.lst (vs' ++ [.bl (decide (j = 6))]))) := .mut (by rw [e4 p' _ h3]; trivial)
      exact hds_app (hds_tx tx (hds_ex e4 d3)) (hds_one (of_bool _))
    have ex0 : Ex H1 (upd H4 p' (.lst (vs' ++ [.bl (decide (j = 6))]))) := Ex.mut ((e2.trans e3).trans e4) (fresh_back e2 hp')
    have k4 := ex0 a _ k1
    obtain ⟨b1, b2, b3⟩ := bits_one j hj
    refine q_when (b := false) (et_is (et_or (et_test (ev_neD (K := K) (ed_int (ev_count (K := K) (xs := bits j) (x := true) (ev_var rfl) upd_same dn (ed_bool ev_c))) (ed_int ev_c))) fun _ => et_not (et_B (ev_iskT (ev_var rfl) k4 T.ec T.kv))) (by rw [b1]; decide)) (fun hb => by cases hb) (fun _ H5 e5 => ?_)
    have h5 := e5 _ _ (upd_same (H := H4) (a := p') (o := .lst (vs' ++ [.bl (decide (j = 6))])))
    refine sd_ret (K := K) (x := words.getD j "") (ed_ixL (xs := words) (i := (j : Int)) (EvN.d (en_lstA (eas_cons (ed_str ev_c) (eas_cons (ed_str ev_c) (eas_cons (ed_str ev_c) (eas_cons (ed_str ev_c) (eas_cons (ed_str ev_c) (eas_cons (ed_str ev_c) (eas_cons (ed_str ev_c) eas_nil))))))) (by decide))) (ev_is (ev_index (K := K) (xs := bits j) (x := true) (ev_var rfl) h5 (hds_ex e5 dn) (ed_bool ev_c) b3) (by rw [b2])) (atI_nat ?_)) fun w H6 e6 hw => ?_
    · rw [List.getElem?_eq_getElem (show j < words.length from hj), List.getD_eq_getElem?_getD, List.getElem?_eq_getElem (show j < words.length from hj)]
      rfl
    · rw [hd_str hw]
      exact q H6 (((e1.trans ex0).trans e5).trans e6)
end
end OA

/-! OMD: what look_book asks -/
namespace OA
open PySem PySem.Spec PyProof.Rows L2 Evl
open PySem.W (Datum Tup T3 DatumOrd)
/-- doors lead to earlier numbers -/
def Fwd (F : List Rm) : Prop := ∀ m : Int, 2 ≤ m → m < F.length + 2 → ∀ p ∈ dr F m, 1 ≤ p.2 ∧ p.2 < m
theorem fin_fwd {F : List Rm} {ds : Rm} (nd : F.Nodup) (fw : Fwd F) (h : ∀ p ∈ ds, 1 ≤ p.2 ∧ p.2 < F.length + 2) :
    (fin F ds).1.Nodup ∧ Fwd (fin F ds).1 ∧ (∃ more, (fin F ds).1 = F ++ more) ∧ dr (fin F ds).1 (fin F ds).2 = ds ∧ 2 ≤ (fin F ds).2 ∧ (fin F ds).2 < (fin F ds).1.length + 2 := by
  unfold fin
  by_cases hm : ds ∈ F
  · rw [if_pos hm]
    have hi : F.idxOf ds < F.length := List.idxOf_lt_length_iff.mpr hm
    refine ⟨nd, fw, ⟨[], (List.append_nil _).symm⟩, ?_, by show (2 : Int) ≤ _ + 2; omega, by show ((F.idxOf ds : Nat) : Int) + 2 < ((F.length : Nat) : Int) + 2; omega⟩
    show dr F (((F.idxOf ds : Nat) : Int) + 2) = ds
    unfold dr
    rw [List.getD_eq_getElem?_getD, show (((F.idxOf ds : Nat) : Int) + 2 - 2).toNat = F.idxOf ds by omega, List.getElem?_eq_getElem hi, List.getElem_idxOf]
    rfl
  · rw [if_neg hm]
    have len : (F ++ [ds]).length = F.length + 1 := by rw [List.length_append]; rfl
    refine ⟨?_, fun m h1 h2 => ?_, ⟨[ds], rfl⟩, dr_new F ds, by show (2 : Int) ≤ _ + 2; omega, by show ((F.length : Nat) : Int) + 2 < ((F ++ [ds]).length : Int) + 2; rw [len]; omega⟩
    · rw [List.nodup_append]
      exact ⟨nd, List.nodup_cons.mpr ⟨List.not_mem_nil, .nil⟩, fun a ha b hb z => hm (by rw [List.mem_singleton] at hb; rw [hb] at z; rw [z] at ha; exact ha)⟩
    · show ∀ p ∈ dr (F ++ [ds]) m, 1 ≤ p.2 ∧ p.2 < m
      have h2' : m < ((F ++ [ds]).length : Int) + 2 := h2
      rw [len] at h2'
      by_cases e : m < F.length + 2
      · rw [dr_app h1 e]
        exact fw m h1 e
      · rw [show m = (F.length : Int) + 2 by omega, dr_new F ds]
        exact h
/-! ### rooms as a book must hold them -/
def RoomOk (k : Nat) (r : Rm) : Prop := r ≠ [] ∧ (r.map (·.1)).Pairwise (· < ·) ∧ (∀ p ∈ r, 0 ≤ p.1 ∧ p.1 < 8) ∧ ∀ p ∈ r, 1 ≤ p.2 ∧ p.2 < (k : Int) + 2
def RoomsOk (F : List Rm) : Prop := ∀ k r, F[k]? = some r → RoomOk k r
theorem RoomsOk.fwd {F : List Rm} (h : RoomsOk F) : Fwd F := fun m h1 h2 p hp => by
  have := (h _ _ (get_dr h1 h2)).2.2.2 p hp
  omega
/-! ### a book's rooms taken in -/
def tkStep (st : List Rm × List Int) (r : Rm) : List Rm × List Int :=
  ((roomF st.1 (r.map fun p => (p.1, st.2.getD p.2.toNat 0))).1, st.2 ++ [(roomF st.1 (r.map fun p => (p.1, st.2.getD p.2.toNat 0))).2])
structure Tk (F rs0 : List Rm) (rs : List Rm) (nums : List Int) : Prop where
  nd : rs.Nodup
  fw : Fwd rs
  z : nums[0]? = some 0
  rng : ∀ k : Nat, 1 ≤ k → k < nums.length → 1 ≤ nums.getD k 0 ∧ nums.getD k 0 < rs.length + 2
  fit : ∀ k : Nat, 1 ≤ k → k < nums.length → ∀ d left, Fit F d left k → Fit rs d left (nums.getD k 0) ∧ W F d k = W rs d (nums.getD k 0)
  len : rs.length + 2 ≤ nums.length + rs0.length
  ex : ∃ more, rs = rs0 ++ more
theorem Tk.start (F : List Rm) {rs0 : List Rm} (nd : rs0.Nodup) (fw : Fwd rs0) : Tk F rs0 rs0 [0, 1] where
  nd := nd
  fw := fw
  z := rfl
  rng := fun k h1 h2 => by
    have : k = 1 := by have h3 : k < 2 := h2; omega
    subst this
    exact ⟨by decide, by show (1 : Int) < _; omega⟩
  fit := fun k h1 h2 d left hf => by
    have : k = 1 := by have h3 : k < 2 := h2; omega
    subst this
    have := fit_one.mp hf
    refine ⟨fit_one.mpr this, ?_⟩
    rw [this.1]
    rfl
  len := by show rs0.length + 2 ≤ 2 + rs0.length; omega
  ex := ⟨[], (List.append_nil _).symm⟩
theorem Fwd.nil : Fwd [] := fun m h1 h2 => by rw [List.length_nil] at h2; omega
theorem getD_app {xs : List Int} {k : Nat} (h : k < xs.length) (ys : List Int) : (xs ++ ys).getD k 0 = xs.getD k 0 := by
  rw [List.getD_eq_getElem?_getD, List.getD_eq_getElem?_getD, List.getElem?_append_left h]
theorem getD_new (xs : List Int) (y : Int) : (xs ++ [y]).getD xs.length 0 = y := by
  rw [List.getD_eq_getElem?_getD, List.getElem?_append_right (Nat.le_refl _), Nat.sub_self]
  rfl
theorem Tk.step {F rs0 : List Rm} (hF : RoomsOk F) {rs : List Rm} {nums : List Int} (T : Tk F rs0 rs nums) {i : Nat} {r : Rm} (hr : F[i]? = some r) (hl : nums.length = i + 2) : Tk F rs0 (tkStep (rs, nums) r).1 (tkStep (rs, nums) r).2 := by
  have ok := hF i r hr
  have tg : ∀ p ∈ r, 1 ≤ p.2.toNat ∧ p.2.toNat < nums.length ∧ p.2 = (p.2.toNat : Nat) := fun p hp => by
    have := ok.2.2.2 p hp
    omega
  have nzr : nz (r.map fun p => (p.1, nums.getD p.2.toNat 0)) = r.map fun p => (p.1, nums.getD p.2.toNat 0) := by
    unfold nz
    refine List.filter_eq_self.mpr fun q hq => ?_
    obtain ⟨p, hp, rfl⟩ := List.mem_map.mp hq
    have := (T.rng _ (tg p hp).1 (tg p hp).2.1).1
    have n0 : nums.getD p.2.toNat 0 ≠ 0 := by omega
    show (!decide (nums.getD p.2.toNat 0 = 0)) = true
    rw [decide_eq_false n0]
    rfl
  have ne : nz (r.map fun p => (p.1, nums.getD p.2.toNat 0)) ≠ [] := by
    rw [nzr]
    exact fun z => ok.1 (List.map_eq_nil_iff.mp z)
  have rf : roomF rs (r.map fun p => (p.1, nums.getD p.2.toNat 0)) = fin rs (r.map fun p => (p.1, nums.getD p.2.toNat 0)) := by
    unfold roomF
    rw [if_neg ne, nzr]
  unfold tkStep
  rw [rf]
  obtain ⟨f1, f2, ⟨more, f3⟩, f4, f5, f6⟩ := fin_fwd (ds := r.map fun p => (p.1, nums.getD p.2.toNat 0)) T.nd T.fw fun q hq => by
    obtain ⟨p, hp, rfl⟩ := List.mem_map.mp hq
    exact T.rng _ (tg p hp).1 (tg p hp).2.1
  have fl := fin_len rs (r.map fun p => (p.1, nums.getD p.2.toNat 0))
  show Tk F rs0 (fin rs _).1 (nums ++ [(fin rs _).2])
  generalize fin rs (r.map fun p => (p.1, nums.getD p.2.toNat 0)) = y at f1 f2 f3 f4 f5 f6 fl
  obtain ⟨rs', m⟩ := y
  simp only at f1 f2 f3 f4 f5 f6 fl ⊢
  have hle : rs.length ≤ rs'.length := by rw [f3, List.length_append]; omega
  refine ⟨f1, f2, ?_, fun k h1 h2 => ?_, fun k h1 h2 d left hf => ?_, by rw [List.length_append]; have := T.len; show _ ≤ nums.length + 1 + rs0.length; omega, by obtain ⟨m0, e0⟩ := T.ex; exact ⟨m0 ++ more, by rw [f3, e0, List.append_assoc]⟩⟩
  · rw [List.getElem?_append_left (by omega)]
    exact T.z
  · rw [List.length_append] at h2
    have h2' : k < nums.length + 1 := h2
    by_cases e : k < nums.length
    · rw [getD_app e]
      have := T.rng k h1 e
      omega
    · have : k = nums.length := by omega
      subst this
      rw [getD_new]
      omega
  · rw [List.length_append] at h2
    have h2' : k < nums.length + 1 := h2
    by_cases e : k < nums.length
    · rw [getD_app e]
      obtain ⟨g1, g2⟩ := T.fit k h1 e d left hf
      rw [f3]
      exact ⟨(Fit.app _ g1.pos.2).mpr g1, by rw [W_app _ g1]; exact g2⟩
    · have hk : k = nums.length := by omega
      subst hk
      rw [getD_new]
      cases d with
      | zero => have := hf.1; omega
      | succ d =>
        have hdr : dr F (nums.length : Int) = r := by
          unfold dr
          rw [List.getD_eq_getElem?_getD, show ((nums.length : Int) - 2).toNat = i by omega, hr]
          rfl
        have hf' := hf
        obtain ⟨_, _, h3, h4, h5⟩ := hf
        rw [hdr] at h3 h4 h5
        have tfit : ∀ p ∈ r, Fit rs d (wo left p.1) (nums.getD p.2.toNat 0) ∧ W F d p.2 = W rs d (nums.getD p.2.toNat 0) := fun p hp => by
          have h6 := (h5 p hp).2.2
          rw [(tg p hp).2.2] at h6
          have := T.fit _ (tg p hp).1 (tg p hp).2.1 d _ h6
          rw [← (tg p hp).2.2] at this
          exact this
        have ft : Fit rs' (d + 1) left m := by
          refine ⟨f5, f6, ?_⟩
          have fwm := f2 m f5 f6
          rw [f4] at fwm ⊢
          refine ⟨fun z => h3 (List.map_eq_nil_iff.mp z), by rw [List.map_map]; exact h4, fun q hq => ?_⟩
          have := fwm q hq
          obtain ⟨p, hp, rfl⟩ := List.mem_map.mp hq
          have g := (tfit p hp).1
          refine ⟨this.1, this.2, ?_⟩
          rw [f3]
          exact (Fit.app _ g.pos.2).mpr g
        refine ⟨ft, ?_⟩
        rw [W_succ hf', W_succ ft, f4, hdr, List.flatMap_map, List.flatMap_def, List.flatMap_def]
        congr 1
        refine List.map_congr_left fun p hp => ?_
        obtain ⟨g1, g2⟩ := tfit p hp
        show (W F d p.2).map _ = (W rs' d (nums.getD p.2.toNat 0)).map _
        rw [f3, W_app _ g1, g2]
theorem tk_len : ∀ (rs0 : List Rm) (st : List Rm × List Int), (rs0.foldl tkStep st).2.length = st.2.length + rs0.length
  | [], st => rfl
  | r :: rs0, st => by
    rw [List.foldl_cons, tk_len rs0]
    show (st.2 ++ [_]).length + _ = _
    rw [List.length_append, List.length_cons, List.length_cons, List.length_nil]
    omega
theorem Tk.all {F rs0 : List Rm} (hF : RoomsOk F) (nd : rs0.Nodup) (fw : Fwd rs0) : ∀ i, i ≤ F.length → Tk F rs0 ((F.take i).foldl tkStep (rs0, [0, 1])).1 ((F.take i).foldl tkStep (rs0, [0, 1])).2
  | 0, _ => by rw [List.take_zero]; exact Tk.start F nd fw
  | i + 1, h => by
    have ih := Tk.all hF nd fw i (by omega)
    obtain ⟨r, hr⟩ : ∃ r, F[i]? = some r := ⟨F[i], List.getElem?_eq_getElem (by omega)⟩
    have e : F.take (i + 1) = F.take i ++ [r] := by
      rw [List.take_add_one, hr]
      rfl
    rw [e, List.foldl_append]
    exact ih.step hF hr (by rw [tk_len, List.length_take]; show 2 + _ = _; omega)
/-! ### the things of a room -/
def goodDoor (Ts : List (List Int)) (p : Int × Int) (T : List Int) : Prop := p.1 ∉ Ts.getD (p.2 - 1).toNat [] ∧ sortI (Ts.getD (p.2 - 1).toNat [] ++ [p.1]) = T
instance (Ts : List (List Int)) (p : Int × Int) (T : List Int) : Decidable (goodDoor Ts p T) := by unfold goodDoor; infer_instance
/-- the tables of things: Ts.getD (k - 1) those of the number k -/
def DepOk (F : List Rm) (Ts : List (List Int)) : Prop := Ts.length = F.length + 1 ∧ Ts[0]? = some [] ∧ ∀ k r, F[k]? = some r → ∀ p ∈ r, goodDoor (Ts.take (k + 1)) p (Ts.getD (k + 1) [])
theorem sort_wo {T M : List Int} {t : Int} (hM : M.Pairwise (· < ·)) (ht : t ∉ M) (h : sortI (M ++ [t]) = T) : T.Pairwise (· < ·) ∧ M = wo T t ∧ t ∈ T ∧ T.length = M.length + 1 := by
  have pm := sortI_perm (M ++ [t])
  rw [h] at pm
  have up := sortI_up (M ++ [t])
  rw [h] at up
  have nM : M.Nodup := hM.imp fun h => Int.ne_of_lt h
  have nd : T.Nodup := pm.nodup_iff.mpr (List.nodup_append.mpr ⟨nM, List.nodup_cons.mpr ⟨List.not_mem_nil, .nil⟩, fun a ha b hb z => ht (by rw [List.mem_singleton] at hb; rw [hb] at z; rw [z] at ha; exact ha)⟩)
  have hT : T.Pairwise (· < ·) := (up.and nd).imp fun h => by have := h.1; have := h.2; omega
  have hmem : t ∈ T := pm.mem_iff.mpr (List.mem_append_right _ List.mem_cons_self)
  refine ⟨hT, ?_, hmem, by rw [pm.length_eq, List.length_append]; rfl⟩
  have e : wo (M ++ [t]) t = M := by
    unfold wo
    rw [List.filter_append]
    have : M.filter (fun x => !decide (x = t)) = M := List.filter_eq_self.mpr fun x hx => by
      have : x ≠ t := fun z => ht (by rw [← z]; exact hx)
      simp [this]
    rw [this]
    simp
  refine sort_one ?_ (hM.imp fun h => Int.le_of_lt h) ((hT.sublist (wo_sub T t)).imp fun h => Int.le_of_lt h)
  have := pm.filter fun x => !decide (x = t)
  have e2 : (M ++ [t]).filter (fun x => !decide (x = t)) = M := e
  rw [e2] at this
  exact this.symm
/-- rising sublists -/
theorem rise_sub : ∀ {a b : List Int}, a.Pairwise (· < ·) → b.Pairwise (· < ·) → (∀ x ∈ a, x ∈ b) → a.Sublist b
  | [], b, _, _, _ => List.nil_sublist _
  | x :: a, [], _, _, h => nomatch h x List.mem_cons_self
  | x :: a, y :: b, ha, hb, h => by
    rw [List.pairwise_cons] at ha hb
    by_cases e : x = y
    · subst e
      refine List.cons_sublist_cons.mpr (rise_sub ha.2 hb.2 fun z hz => ?_)
      rcases List.mem_cons.mp (h z (List.mem_cons_of_mem _ hz)) with e | hm
      · have := ha.1 z hz
        omega
      · exact hm
    · have hx : x ∈ b := by
        rcases List.mem_cons.mp (h x List.mem_cons_self) with z | z
        · exact (e z).elim
        · exact z
      refine (rise_sub (a := x :: a) (List.pairwise_cons.mpr ha) hb.2 fun z hz => ?_).cons y
      rcases List.mem_cons.mp (h z hz) with e2 | hm
      · rcases List.mem_cons.mp hz with e3 | hz
        · exact (e (e3.symm.trans e2)).elim
        · have h1 := ha.1 z hz
          have h2 := hb.1 x hx
          omega
      · exact hm
theorem dep_fit {F : List Rm} {Ts : List (List Int)} (hF : RoomsOk F) (hD : DepOk F Ts) : ∀ (n k : Nat), k ≤ n → 1 ≤ k → k < F.length + 2 → (Ts.getD (k - 1) []).Pairwise (· < ·) ∧ (∀ x ∈ Ts.getD (k - 1) [], 0 ≤ x ∧ x < 8) ∧ Fit F (Ts.getD (k - 1) []).length (Ts.getD (k - 1) []) k
  | 0, k, h1, h2, _ => by omega
  | n + 1, k, h1, h2, h3 => by
    by_cases e : k = 1
    · subst e
      have : Ts.getD (1 - 1) [] = [] := by
        rw [List.getD_eq_getElem?_getD]
        rw [hD.2.1]
        rfl
      rw [this]
      exact ⟨.nil, (fun x hx => nomatch hx), rfl, rfl⟩
    · obtain ⟨i, rfl⟩ : ∃ i, k = i + 2 := ⟨k - 2, by omega⟩
      obtain ⟨r, hr⟩ : ∃ r, F[i]? = some r := ⟨F[i], List.getElem?_eq_getElem (by omega)⟩
      have ok := hF i r hr
      have gd := hD.2.2 i r hr
      have e1 : i + 2 - 1 = i + 1 := by omega
      rw [e1]
      have hdr : dr F ((i + 2 : Nat) : Int) = r := by
        unfold dr
        rw [List.getD_eq_getElem?_getD, show (((i + 2 : Nat) : Int) - 2).toNat = i by omega, hr]
        rfl
      -- each door
      have door : ∀ p ∈ r, (Ts.getD (i + 1) []).Pairwise (· < ·) ∧ Ts.getD (p.2.toNat - 1) [] = wo (Ts.getD (i + 1) []) p.1 ∧ p.1 ∈ Ts.getD (i + 1) [] ∧ (Ts.getD (i + 1) []).length = (Ts.getD (p.2.toNat - 1) []).length + 1 ∧ (∀ x ∈ Ts.getD (i + 1) [], 0 ≤ x ∧ x < 8) ∧ Fit F (Ts.getD (p.2.toNat - 1) []).length (Ts.getD (p.2.toNat - 1) []) p.2 := fun p hp => by
        obtain ⟨o1, o2⟩ := ok.2.2.2 p hp
        obtain ⟨g1, g2⟩ := gd p hp
        have et : (Ts.take (i + 1)).getD (p.2 - 1).toNat [] = Ts.getD (p.2.toNat - 1) [] := by
          rw [List.getD_eq_getElem?_getD, List.getD_eq_getElem?_getD, show (p.2 - 1).toNat = p.2.toNat - 1 by omega, List.getElem?_take_of_lt (by omega)]
        rw [et] at g1 g2
        obtain ⟨i1, i2, i3⟩ := dep_fit hF hD n p.2.toNat (by omega) (by omega) (by omega)
        obtain ⟨s1, s2, s3, s4⟩ := sort_wo i1 g1 g2
        refine ⟨s1, s2, s3, s4, fun x hx => ?_, by rw [show ((p.2.toNat : Nat) : Int) = p.2 by omega] at i3; exact i3⟩
        by_cases z : x = p.1
        · rw [z]
          exact ok.2.2.1 p hp
        · refine i2 x ?_
          rw [s2]
          exact List.mem_filter.mpr ⟨hx, by simp [z]⟩
      obtain ⟨p0, ps, ep⟩ := List.exists_cons_of_ne_nil ok.1
      have h0 := door p0 (by rw [ep]; exact List.mem_cons_self)
      refine ⟨h0.1, h0.2.2.2.2.1, ?_⟩
      rw [h0.2.2.2.1]
      refine ⟨by omega, by omega, ?_⟩
      rw [hdr]
      refine ⟨ok.1, rise_sub ok.2.1 h0.1 fun x hx => ?_, fun p hp => ?_⟩
      · obtain ⟨p, hp, rfl⟩ := List.mem_map.mp hx
        exact (door p hp).2.2.1
      · have dp := door p hp
        have := ok.2.2.2 p hp
        have l : (Ts.getD (p0.2.toNat - 1) []).length = (Ts.getD (p.2.toNat - 1) []).length := by
          have := h0.2.2.2.1
          have := dp.2.2.2.1
          omega
        refine ⟨this.1, by omega, ?_⟩
        rw [l, ← dp.2.1]
        exact dp.2.2.2.2.2
/-- what look_book asks of a book -/
def BkOk (many : Int) (F : List Rm) (m : Int) : Prop := (1 ≤ many ∧ many ≤ 8) ∧ (0 ≤ m ∧ m < F.length + 2 ∧ m ≠ 1) ∧ RoomsOk F ∧ ∃ Ts, DepOk F Ts ∧ (0 < m → Ts.getD (m.toNat - 1) [] = upTo many.toNat) ∧
  (if m = 0 then (F = []) else layF many.toNat (upTo many.toNat) (W F many.toNat m) [] = (F, m))
end OA

/-! OK: rooms objects -/
namespace OA
open PySem PySem.Spec PyProof.Rows L2 Evl
open PySem.W (Datum Tup T3 DatumOrd)
abbrev tlD (rs : List Rm) : List (Tup (Int × Int)) := rs.map Tup.mk
/-- the class of rooms tables -/
structure RmC (K : PySem.W.Frag) (A : Ads) : Prop where
  c : Cls K A.Rooms
  r : NoAttr K A.Rooms "rooms"
  k : NoAttr K A.Rooms "known"
def entK : Nat → List Rm → List Addr → List NE
  | i, r :: rs, a :: as => (NKey.nk (Tup.mk r), a, .int ((i : Int) + 2)) :: entK (i + 1) rs as
  | _, [], _ => []
  | _, _ :: _, [] => []
theorem nk_inj {r s : Rm} (h : NKey.nk (Tup.mk r) = NKey.nk (Tup.mk s)) : r = s := by
  have := NKey.inj _ _ h
  injection this
theorem entK_app (ds : Rm) (b : Addr) : ∀ (i : Nat) (rs : List Rm) (as : List Addr), as.length = rs.length → entK i (rs ++ [ds]) (as ++ [b]) = entK i rs as ++ [(NKey.nk (Tup.mk ds), b, .int (((i + rs.length : Nat) : Int) + 2))]
  | i, [], [], _ => rfl
  | i, [], _ :: _, h => by simp at h
  | i, _ :: _, [], h => by simp at h
  | i, r :: rs, a :: as, h => by
    show _ :: entK (i + 1) (rs ++ [ds]) (as ++ [b]) = _
    rw [entK_app ds b (i + 1) rs as (by simpa using h), show i + 1 + rs.length = i + (r :: rs).length by rw [List.length_cons]; omega]
    rfl
theorem entK_keys : ∀ (i : Nat) (rs : List Rm) (as : List Addr), as.length = rs.length → (entK i rs as).map (·.1) = rs.map fun r => NKey.nk (Tup.mk r)
  | i, [], [], _ => rfl
  | i, [], _ :: _, h => by simp at h
  | i, _ :: _, [], h => by simp at h
  | i, r :: rs, a :: as, h => by
    show _ :: (entK (i + 1) rs as).map (·.1) = _
    rw [entK_keys (i + 1) rs as (by simpa using h)]
    rfl
theorem entK_len {i : Nat} {rs : List Rm} {as : List Addr} (h : as.length = rs.length) : (entK i rs as).length = rs.length := by
  have := congrArg List.length (entK_keys i rs as h)
  rw [List.length_map, List.length_map] at this
  exact this
theorem entK_at (ds : Rm) : ∀ (i : Nat) (rs : List Rm) (as : List Addr), as.length = rs.length → atN (entK i rs as) (NKey.nk (Tup.mk ds)) = if ds ∈ rs then some (.int (((i + rs.idxOf ds : Nat) : Int) + 2)) else none
  | i, [], [], _ => rfl
  | i, [], _ :: _, h => by simp at h
  | i, _ :: _, [], h => by simp at h
  | i, r :: rs, a :: as, h => by
    have ih := entK_at ds (i + 1) rs as (by simpa using h)
    show atN (_ :: entK (i + 1) rs as) _ = _
    unfold atN at ih ⊢
    rw [List.find?_cons]
    by_cases e : r = ds
    · subst e
      rw [show decide ((NKey.nk (Tup.mk r), a, V.int ((i : Int) + 2)).1 = NKey.nk (Tup.mk r)) = true from decide_eq_true rfl, if_pos List.mem_cons_self]
      simp
    · rw [show decide ((NKey.nk (Tup.mk r), a, V.int ((i : Int) + 2)).1 = NKey.nk (Tup.mk ds)) = false from decide_eq_false fun z => e (nk_inj z)]
      show Option.map _ (List.find? _ _) = _
      rw [ih, List.idxOf_cons]
      have e2 : (r == ds) = false := by simpa using e
      rw [e2]
      by_cases hm : ds ∈ rs
      · rw [if_pos hm, if_pos (List.mem_cons_of_mem _ hm)]
        show some (V.int _) = some (V.int _)
        congr 2
        show (((i + 1 + rs.idxOf ds : Nat) : Int) + 2) = (((i + (rs.idxOf ds + 1) : Nat) : Int) + 2)
        omega
      · rw [if_neg hm, if_neg fun z => (List.mem_cons.mp z).elim (fun y => e y.symm) hm]
/-- a rooms object: at a, its list l, its dict d, the rooms rs -/
structure Rms (K : PySem.W.Frag) (A : Ads) (H : Hp) (a l d : Addr) (rs : List Rm) : Prop where
  ob : ∃ dx, H a = some (.ins A.Rooms dx [("rooms", .ref l), ("known", .ref d)])
  as : ∃ as : List Addr, H l = some (.lst (as.map V.ref)) ∧ Hds K H (as.map V.ref) (tlD rs) ∧ H d = some (DkN A.hash (entK 0 rs as) d)
  nd : rs.Nodup
  sm : (d == sysModules) = false
  sz : rs.length ≤ 10000
section
variable {K : PySem.W.Frag} {A : Ads} {H H' : Hp} {a l d : Addr} {rs : List Rm} {S : Addr → Prop}
theorem Rms.ex (h : Rms K A H a l d rs) (e : Ex H H') : Rms K A H' a l d rs := by
  obtain ⟨dx, ob⟩ := h.ob
  obtain ⟨as, h1, h2, h3⟩ := h.as
  exact ⟨⟨dx, e _ _ ob⟩, ⟨as, e _ _ h1, hds_ex e h2, e _ _ h3⟩, h.nd, h.sm, h.sz⟩
theorem Rms.go (h : Rms K A H a l d rs) (g : Go S H H') (na : ¬ S a) (nl : ¬ S l) (nd : ¬ S d) : Rms K A H' a l d rs := by
  obtain ⟨dx, ob⟩ := h.ob
  obtain ⟨as, h1, h2, h3⟩ := h.as
  exact ⟨⟨dx, g.keep _ _ na ob⟩, ⟨as, g.keep _ _ nl h1, hds_tx g.tx h2, g.keep _ _ nd h3⟩, h.nd, h.sm, h.sz⟩
theorem Rms.al (h : Rms K A H a l d rs) : a ≠ l ∧ a ≠ d ∧ l ≠ d := by
  obtain ⟨dx, ob⟩ := h.ob
  obtain ⟨as, h1, _, h3⟩ := h.as
  exact ⟨fun z => (by rw [z, h1] at ob; cases ob), fun z => (by rw [z, h3] at ob; cases ob), fun z => (by rw [z, h3] at h1; cases h1)⟩
theorem hds_key : ∀ {vs : List Addr} {rs : List Rm} {i : Nat}, Hds K H (vs.map V.ref) (tlD rs) → ∀ x ∈ entK i rs vs, Dq K H (.ref x.2.1) x.1.data ∧ x.1.depth ≤ 8
  | [], [], _, _ => fun x hx => nomatch hx
  | [], _ :: _, _, _ => fun x hx => nomatch hx
  | _ :: _, [], _, _ => fun x hx => nomatch hx
  | a :: vs, r :: rs, i, h => by
    obtain ⟨v, w, e, h1, h2⟩ := hds_inv (α := Tup (Int × Int)) h
    rw [List.map_cons, List.cons.injEq] at e
    obtain ⟨rfl, rfl⟩ := e
    intro x hx
    rcases List.mem_cons.mp hx with rfl | hx
    · exact ⟨hd_key (α := Tup (Int × Int)) h1, Nat.le_trans (NKey.dep _) (by decide)⟩
    · exact hds_key h2 x hx
theorem Rms.isN (h : Rms K A H a l d rs) : ∃ as : List Addr, as.length = rs.length ∧ H l = some (.lst (as.map V.ref)) ∧ Hds K H (as.map V.ref) (tlD rs) ∧ IsN K A.hash H d (entK 0 rs as) := by
  obtain ⟨as, h1, h2, h3⟩ := h.as
  have hl : as.length = rs.length := by
    have := hds_len h2
    rw [List.length_map, List.length_map] at this
    exact this
  refine ⟨as, hl, h1, h2, ⟨h3, hds_key h2, ?_, by rw [entK_len hl]; exact Nat.le_trans h.sz (by decide), h.sm⟩⟩
  rw [entK_keys 0 rs as hl]
  exact List.Pairwise.map _ (fun x y n z => n (nk_inj z)) h.nd
end
section
variable {K : PySem.W.Frag} {A : Ads} {vs : List V} {H : Hp} {Q : VK} {E : XK}
theorem ev_fld {ta : TE} {σ : L2.St} {a C dx : Addr} {fs : List (Str × V)} {f : Str} {v : V} (h : Ev ta σ H (.ref a)) (ha : H a = some (.ins C dx fs)) (c : Cls K C) (n : NoAttr K C f) (l : fs.lookup f = some v) : Ev (tFld K ta f) σ H v := fun H1 e Q q =>
  h H1 e _ fun H2 e2 => ⟨a, C, dx, fs, v, rfl, e2 a _ (e a _ ha), c, n, l, q H2 e2⟩
/-! __init__ -/
def sp_Rooms_init (K : PySem.W.Frag) (A : Ads) : Sp := Spn 1 fun vs H Q E => ∃ a dx, vs = [.ref a] ∧ H a = some (.ins A.Rooms dx []) ∧ ∀ H' l d, Go (fun x => x = a) H H' → H l = none → H d = none → Rms K A H' a l d [] → Q .non H'
def t_Rooms_init (K : PySem.W.Frag) (A : Ads) (W : WX) : TS :=
  (tSeq (sFld K (tVar 0) (tLst tNil) "rooms")
    (sFld K (tVar 0) (tNNew A.hash) "known"))
theorem pu_Rooms_init (R : RmC K A) (h : sp_Rooms_init K A vs H Q E) : t_Rooms_init K A (WXE E) (DQ Q) (start ["self"] vs) H := by
  obtain ⟨_, a, dx, rfl, ha, q⟩ := h
  refine ⟨sz_of (by show 0 ≤ 100000; omega), fun l hl => ⟨.ref a, rfl, a, A.Rooms, dx, [], rfl, ?_, R.c, R.r, by decide, ?_⟩⟩
  · rw [upd_ne (ne_of_none ha hl)]
    exact ha
  intro d hd sm
  have n1 : l ≠ a := fun z => by rw [z, ha] at hl; cases hl
  have hd0 : upd (upd H l (.lst [])) a (.ins A.Rooms dx (putF "rooms" (.ref l) [])) d = none := hd
  have n2 : d ≠ a := fun z => by rw [z, upd_same] at hd0; cases hd0
  rw [upd_ne n2] at hd0
  have n3 : d ≠ l := fun z => by rw [z, upd_same] at hd0; cases hd0
  rw [upd_ne n3] at hd0
  refine ⟨.ref a, rfl, a, A.Rooms, dx, putF "rooms" (.ref l) [], rfl, ?_, R.c, R.k, (by show 1 < 1000; omega), ?_⟩
  · rw [upd_ne (Ne.symm n2)]
    exact upd_same
  refine q _ l d ⟨fun x o hx e => ?_, ?_⟩ hl hd0 ⟨⟨dx, upd_same⟩, ⟨[], ?_, hds_nil, ?_⟩, .nil, sm, by decide⟩
  · rw [upd_ne hx, upd_ne (fun z => by rw [z, hd0] at e; cases e), upd_ne hx, upd_ne (fun z => by rw [z, hl] at e; cases e)]
    exact e
  · refine (Tx.new hl).trans ((Tx.mut ?_).trans ((Tx.new hd).trans (Tx.mut ?_)))
    · rw [upd_ne (Ne.symm n1), ha]
      trivial
    · rw [upd_ne (Ne.symm n2), upd_same]
      trivial
  · rw [upd_ne n1, upd_ne (Ne.symm n3), upd_ne n1]
    exact upd_same
  · rw [upd_ne n2]
    exact upd_same
/-! doors -/
def sp_Rooms_doors (K : PySem.W.Frag) (A : Ads) : Sp := Spn 2 fun vs H Q E => ∃ a l d rs n, vs = [.ref a, .int n] ∧ Rms K A H a l d rs ∧ 2 ≤ n ∧ n < (rs.length : Int) + 2 ∧ ∀ w H', Ex H H' → Hd K H' w (Tup.mk (dr rs n)) → Q w H'
def t_Rooms_doors (K : PySem.W.Frag) (A : Ads) (W : WX) : TS :=
  (tRet (tOp (rIx K) (tFld K (tVar 0) "rooms") (tOp rSubI (tVar 1) (tC (.int 2)))))
theorem pu_Rooms_doors (R : RmC K A) (h : sp_Rooms_doors K A vs H Q E) : t_Rooms_doors K A (WXE E) (DQ Q) (start ["self", "number"] vs) H := by
  obtain ⟨_, a, l, d, rs, n, rfl, hR, h2, hn, q⟩ := h
  obtain ⟨dx, ob⟩ := hR.ob
  obtain ⟨as, h1, hd, _⟩ := hR.as
  refine sd_ret (ed_ixL (K := K) (xs := tlD rs) (i := n - 2) (ed_v (ev_fld (ev_var rfl) ob R.c R.r rfl) (of_list (sq_of h1) hd)) (ei_sub (ev_var rfl) ev_c) ?_) q
  rw [show n - 2 = (((n - 2).toNat : Nat) : Int) by omega]
  refine atI_nat ?_
  rw [List.getElem?_map, get_dr h2 hn]
  rfl
/-! room -/
def sp_Rooms_room (K : PySem.W.Frag) (A : Ads) : Sp := Spn 2 fun vs H Q E => ∃ a l d rs v ds, vs = [.ref a, v] ∧ Rms K A H a l d rs ∧ Hd K H v (Tup.mk ds) ∧ rs.length < 5000 ∧ ds.length ≤ 1000 ∧
  ∀ H', Go (fun x => x = l ∨ x = d) H H' → Rms K A H' a l d (roomF rs ds).1 → Q (.int (roomF rs ds).2) H'
def t_Rooms_room (K : PySem.W.Frag) (A : Ads) (W : WX) : TS :=
  (tSeq (tAsg (tThen (tLc (iTup K (tVar 1)) (gName 3) (tTest (tOp (rNeP K) (tOp (rIx K) (tVar 3) (tC (.int 1))) (tC (.int 0)))) (tVar 3) [3]) (kTupP K)) (gName 2))
    (tSeq (tIfS (tTest (tOp (rEqP K) (tVar 2) (tTupP tNil))) (tRet (tC (.int 0))) tNext)
    (tSeq (tIfS (tTest (tOp (rInN K A.hash true) (tVar 2) (tFld K (tVar 0) "known"))) (tSeq (sNPut K A.hash (tFld K (tVar 0) "known") (tVar 2) (tOp rAddI (tCB (rLenS K) (tCons (tFld K (tVar 0) "rooms") tNil)) (tC (.int 2))))
    (tDrop (tBM K "list" rAppend (tFld K (tVar 0) "rooms") (tCons (tVar 2) tNil)))) tNext)
    (tRet (tNGet K A.hash (tFld K (tVar 0) "known") (tVar 2))))))
theorem pu_Rooms_room (R : RmC K A) (h : sp_Rooms_room K A vs H Q E) : t_Rooms_room K A (WXE E) (DQ Q) (start ["self", "doors", "some", "door"] vs) H := by
  obtain ⟨_, a, l, d, rs, v, ds, rfl, hR, hv, hz, hz2, q⟩ := h
  refine qd_asg (K := K) (x := Tup.mk (nz ds)) (ed_tupOfL (EvD.is (EvN.d (en_lcT (fun p : Int × Int => !decide (p.2 = 0)) (fun p => p) (ed_var rfl hv) (by omega) fun y x H1 G hx e1 hy q => ?_)) (by rw [List.map_id']; rfl))) fun w H1 e1 hw => ?_
  · exact q _ H1 (Ex.refl _) rfl (et_test (ev_neD (K := K) (ed_int (EvD.int (ed_snd (x := x.1) (y := x.2) (ed_var rfl hy) ev_c))) (ed_int ev_c))) fun _ => ed_var rfl hy
  obtain ⟨b, ws, rfl, hp, hws⟩ := hd_tup (α := Int × Int) hw
  refine q_when (et_test (ev_eqD (K := K) (ed_var rfl hw) (ed_tupA (xs := ([] : List (Int × Int))) eas_nil (by decide)))) (fun hb H2 e2 => ?_) (fun hb H2 e2 => ?_)
  · have e0 : nz ds = [] := by
      have := of_decide_eq_true hb
      injection this
    refine s_rets (v := .int 0) ev_c fun H3 e3 => ?_
    have e := (e1.trans e2).trans e3
    have := q H3 (.ex e)
    unfold roomF at this
    rw [if_pos e0] at this
    exact this (hR.ex e)
  have e0 : nz ds ≠ [] := fun z => by
    have := of_decide_eq_false hb
    exact this (by rw [z])
  have rf : roomF rs ds = OA.fin rs (nz ds) := by
    unfold roomF
    rw [if_neg e0]
  rw [rf] at q
  have e := e1.trans e2
  have hw2 := hd_ex e2 hw
  have hR2 := hR.ex e
  obtain ⟨dx, ob⟩ := hR2.ob
  obtain ⟨as, hl, h1, h2, hN⟩ := hR2.isN
  have hat := entK_at (nz ds) 0 rs as hl
  have key := hd_key (α := Tup (Int × Int)) hw2
  have dep : (NKey.nk (Tup.mk (nz ds))).depth ≤ 8 := Nat.le_trans (NKey.dep _) (by decide)
  refine ⟨.ref b, rfl, .ref a, rfl, a, _, dx, _, .ref d, rfl, ob, R.c, R.k, rfl, d, b, _, _, rfl, rfl, hN, key, dep, _, rfl, ?_⟩
  by_cases hm : nz ds ∈ rs
  · rw [hat, if_pos hm]
    simp only [Option.isSome_some, if_true, Bool.not_true, Bool.false_eq_true, if_false]
    refine ⟨.ref a, rfl, a, _, dx, _, .ref d, rfl, ob, R.c, R.k, rfl, .ref b, rfl, d, b, _, _, .int (((0 + rs.idxOf (nz ds) : Nat) : Int) + 2), rfl, rfl, hN, key, dep, by rw [hat, if_pos hm], ?_⟩
    have := q H2 (.ex e)
    unfold OA.fin at this
    rw [if_pos hm] at this
    rw [Nat.zero_add]
    exact this hR2
  · rw [hat, if_neg hm]
    simp only [Option.isSome_none, if_true, Bool.not_false]
    have lenE : Ev (tOp rAddI (tCB (rLenS K) (tCons (tFld K (tVar 0) "rooms") tNil)) (tC (.int 2))) [some (.ref a), some v, some (.ref b), none] H2 (.int ((rs.length : Int) + 2)) := ei_add (ev_is (ev_lenL (K := K) (xs := tlD rs) (ed_v (ev_fld (ev_var rfl) ob R.c R.r rfl) (of_list (sq_of h1) h2))) (by rw [List.length_map])) ev_c
    refine lenE H2 (Ex.refl _) _ fun H3 e3 => ?_
    have hN3 : IsN K A.hash H3 d (entK 0 rs as) := ⟨e3 _ _ hN.at_, fun x hx => ⟨dp_ex e3 (hN.key x hx).1, (hN.key x hx).2⟩, hN.nd, hN.sz, hN.sm⟩
    refine ⟨.ref a, rfl, a, _, dx, _, .ref d, rfl, e3 _ _ ob, R.c, R.k, rfl, .ref b, rfl, d, b, _, _, rfl, rfl, hN3, dp_ex e3 key, dep, .inl ⟨by rw [hat, if_neg hm], ?_⟩⟩
    obtain ⟨n1, n2, n3⟩ := hR2.al
    -- the list grows
    refine ⟨.ref a, rfl, a, _, dx, _, .ref l, rfl, by rw [upd_ne n2]; exact e3 _ _ ob, R.c, R.r, rfl, .inl ⟨rfl, as.map V.ref, sq_of (by rw [upd_ne n3]; exact e3 _ _ h1)⟩, .ref b, rfl, l, as.map V.ref, .ref b, rfl, rfl, by rw [upd_ne n3]; exact e3 _ _ h1, sz_lt (by rw [List.length_map, hl]; omega), ?_⟩
    have ap : as.map V.ref ++ [V.ref b] = (as ++ [b]).map V.ref := by rw [List.map_append]; rfl
    rw [ap]
    have mutd : Mut (H3 d) := by rw [hN3.at_]; trivial
    have tx : Tx H3 (upd (upd H3 d (DkN A.hash (entK 0 rs as ++ [(NKey.nk (Tup.mk (nz ds)), b, .int ((rs.length : Int) + 2))]) d)) l (.lst ((as ++ [b]).map V.ref))) := (Tx.mut mutd).trans (Tx.mut (by rw [upd_ne n3, e3 _ _ h1]; trivial))
    have hl2 : (as ++ [b]).length = (rs ++ [nz ds]).length := by rw [List.length_append, List.length_append, hl]; rfl
    have R4 : Rms K A (upd (upd H3 d (DkN A.hash (entK 0 rs as ++ [(NKey.nk (Tup.mk (nz ds)), b, .int ((rs.length : Int) + 2))]) d)) l (.lst ((as ++ [b]).map V.ref))) a l d (rs ++ [nz ds]) := by
      refine ⟨⟨dx, by rw [upd_ne n1, upd_ne n2]; exact e3 _ _ ob⟩, ⟨as ++ [b], upd_same, ?_, ?_⟩, ?_, hN.sm, by rw [List.length_append]; show rs.length + 1 ≤ 10000; omega⟩
      · have z := hds_app (α := Tup (Int × Int)) (hds_tx tx (hds_ex e3 h2)) (hds_one (α := Tup (Int × Int)) (hd_tx tx (hd_ex e3 hw2)))
        rw [show tlD (rs ++ [nz ds]) = tlD rs ++ [Tup.mk (nz ds)] from List.map_append]
        rw [ap] at z
        exact z
      · rw [upd_ne (Ne.symm n3), upd_same, entK_app _ _ 0 rs as hl, Nat.zero_add]
      · rw [List.nodup_append]
        exact ⟨hR.nd, List.nodup_cons.mpr ⟨List.not_mem_nil, .nil⟩, fun x hx y hy z => hm (by rw [List.mem_singleton] at hy; rw [hy] at z; rw [z] at hx; exact hx)⟩
    obtain ⟨as4, hl4, h14, h24, hN4⟩ := R4.isN
    have hat4 := entK_at (nz ds) 0 (rs ++ [nz ds]) as4 hl4
    rw [if_pos (List.mem_append_right _ List.mem_cons_self)] at hat4
    obtain ⟨dx4, ob4⟩ := R4.ob
    refine ⟨.ref a, rfl, a, _, dx4, _, .ref d, rfl, ob4, R.c, R.k, rfl, .ref b, rfl, d, b, _, _, _, rfl, rfl, hN4, hd_key (α := Tup (Int × Int)) (hd_tx tx (hd_ex e3 hw2)), dep, hat4, ?_⟩
    have ix : (rs ++ [nz ds]).idxOf (nz ds) = rs.length := by
      rw [List.idxOf_append, if_neg hm]
      simp
    rw [ix, Nat.zero_add]
    have go : Go (fun x => x = l ∨ x = d) H (upd (upd H3 d (DkN A.hash (entK 0 rs as ++ [(NKey.nk (Tup.mk (nz ds)), b, .int ((rs.length : Int) + 2))]) d)) l (.lst ((as ++ [b]).map V.ref))) :=
      (Go.ex (e.trans e3)).trans ((Go.mut mutd (.inr rfl)).trans (Go.mut (by rw [upd_ne n3, e3 _ _ h1]; trivial) (.inl rfl)))
    have := q _ go
    unfold OA.fin at this
    rw [if_neg hm] at this
    exact this R4
end
end OA

/-! OL: rooms laid, books -/
namespace OA
open PySem PySem.Spec PyProof.Rows L2 Evl
open PySem.W (Datum Tup T3 DatumOrd)
section gen
variable {α : Type} [DecidableEq α] [Datum α] {K : PySem.W.Frag} {σ : L2.St} {H H' : Hp} {tl : TE} {g : TG} {tu tz : TS} {D : Ends}
/-- a loop over a tuple of data; the tuples stay -/
theorem q_forTD [PureD α] {xs : List α} (h : EvD K tl σ H (Tup.mk xs)) (Pv : Hp → Nat → L2.St → Hp → Prop) (h0 : ∀ H1, Ex H H1 → Pv H1 0 σ H1) (ht : ∀ H1 i σ' H', Pv H1 i σ' H' → Tx H1 H')
    (hs : ∀ H1 i v x σ' H', Ex H H1 → xs[i]? = some x → Hd K H' v x → Pv H1 i σ' H' → g v σ' H' fun σ2 H2 => tu { D with nx := Pv H1 (i + 1), ct := Pv H1 (i + 1), bk := tz D } σ2 H2)
    (hd : ∀ H1 σ' H', Ex H H1 → Pv H1 xs.length σ' H' → tz D σ' H') : tSeq (tFor (iTup K tl) g tu) tz D σ H :=
  h H (Ex.refl H) _ fun v H1 e hv => by
    obtain ⟨a, vs, rfl, hp, hds⟩ := hd_tup hv
    have l := hds_len hds
    refine ⟨a, rfl, ⟨vs, hp.t⟩, for_tup (D := { D with nx := tz D }) (Pv H1) (h0 H1 e) (fun i σ' H' _ p => (tx_p (ht _ _ _ _ p) hp).t) (fun i v σ' H' hi p => ?_) (fun σ' H' p => hd H1 σ' H' e (by rw [← l]; exact p))⟩
    obtain ⟨x, hx, hvx⟩ := hds_getV hds hi
    exact hs H1 i v x σ' H' e hx (hd_tx (ht _ _ _ _ p) hvx) p
/-- a loop over a list of data that stays -/
theorem q_forLD [PureD α] {xs : List α} (h : EvD K tl σ H xs) (Pv : Hp → Nat → L2.St → Hp → Prop) (h0 : ∀ H1, Ex H H1 → Pv H1 0 σ H1) (ht : ∀ H1 i σ' H', Pv H1 i σ' H' → Tx H1 H') (hl : ∀ H1 i σ' H' a vs, Ex H H1 → SqL K H1 a vs → Hds K H1 vs xs → Pv H1 i σ' H' → SqL K H' a vs)
    (hs : ∀ H1 i v x σ' H', Ex H H1 → xs[i]? = some x → Hd K H' v x → Pv H1 i σ' H' → g v σ' H' fun σ2 H2 => tu { D with nx := Pv H1 (i + 1), ct := Pv H1 (i + 1), bk := tz D } σ2 H2)
    (hd : ∀ H1 σ' H', Ex H H1 → Pv H1 xs.length σ' H' → tz D σ' H') : tSeq (tFor (iList K tl) g tu) tz D σ H :=
  h H (Ex.refl H) _ fun v H1 e hv => by
    obtain ⟨a, vs, rfl, hp, hds⟩ := hd_list hv
    have l := hds_len hds
    refine ⟨a, rfl, ⟨vs, hp⟩, for_list (D := { D with nx := tz D }) (Pv H1) (h0 H1 e) (fun i σ' H' _ p => hl H1 i σ' H' a vs e hp hds p) (fun i v σ' H' hi p => ?_) (fun σ' H' p => hd H1 σ' H' e (by rw [← l]; exact p))⟩
    obtain ⟨x, hx, hvx⟩ := hds_getV hds hi
    exact hs H1 i v x σ' H' e hx (hd_tx (ht _ _ _ _ p) hvx) p
theorem g_pair {v : V} {x y : Int} {i j : Nat} {Q : L2.St → Hp → Prop} (h : Hd K H v (x, y)) (q : Q ((σ.set i (some (.int x))).set j (some (.int y))) H) : gTup K 2 (gCons (gName i) (gCons (gName j) gNil)) v σ H Q := by
  obtain ⟨a, v1, v2, rfl, hp, h1, h2⟩ := hd_pair h
  rw [hd_int h1, hd_int h2] at hp
  exact ⟨a, _, rfl, hp.t, rfl, _, _, rfl, _, _, rfl, rfl, q⟩
theorem qc_asg {i : Nat} {te : TE} {D : Ends} {σ : L2.St} {tz : TS} (h : te σ H fun v H1 => tz D (σ.set i (some v)) H1) : tSeq (tAsg te (gName i)) tz D σ H := h
/-- dicts of ints by ints -/
theorem val_kv (nm : List (Int × Int)) (n : Int) : valV (kvI nm) (Sum.inl n) = if n ∈ keys nm then some (.int (toD nm n)) else none := by
  induction nm with
  | nil => rfl
  | cons p nm ih =>
    unfold toD at ih ⊢
    rw [List.find?_cons]
    by_cases e : p.1 = n
    · have e1 : valV (kvI (p :: nm)) (Sum.inl n) = some (V.int p.2) := valV_pos (by show (Sum.inl p.1 : Key) = _; rw [e])
      rw [e1, if_pos (by rw [← e]; exact List.mem_cons_self), decide_eq_true e]
      rfl
    · have hk : keys (p :: nm) = p.1 :: keys nm := rfl
      have e1 : valV (kvI (p :: nm)) (Sum.inl n) = valV (kvI nm) (Sum.inl n) := valV_neg (by intro z; injection z with z; exact e z)
      rw [e1, ih, decide_eq_false e, hk]
      by_cases hm : n ∈ keys nm
      · rw [if_pos hm, if_pos (List.mem_cons_of_mem _ hm)]
      · rw [if_neg hm, if_neg fun z => (List.mem_cons.mp z).elim (fun y => e y.symm) hm]
theorem put_kv {nm : List (Int × Int)} {n v : Int} (h : n ∉ keys nm) : putK (kvI nm) (Sum.inl n) (.int v) = kvI (nm ++ [(n, v)]) := by
  rw [putK_new _ (by rw [val_kv, if_neg h])]
  unfold kvI
  rw [List.map_append]
  rfl
theorem ev_dget {ta tb : TE} {nl : Addr} {nm : List (Int × Int)} {n : Int} (h : Ev ta σ H (.ref nl)) (hn : H nl = some (.dK (kvI nm))) (h2 : Ev tb σ H (.int n)) (hm : n ∈ keys nm) : Ev (tDGet ta tb) σ H (.int (toD nm n)) := fun H1 e Q q =>
  h H1 e _ fun H2 e2 => h2 H2 (e.trans e2) _ fun H3 e3 => ⟨nl, .int (toD nm n), rfl, by
    have g := DGet.k (k := Sum.inl n) (e3 _ _ (e2 _ _ (e _ _ hn)))
    rw [val_kv, if_pos hm] at g
    exact g, q H3 (e2.trans e3)⟩
end gen
section
variable {K : PySem.W.Frag} {A : Ads} {vs : List V} {H : Hp} {Q : VK} {E : XK}
theorem ed_doors {ta tb : TE} {σ : L2.St} {a l d : Addr} {rs : List Rm} {n : Int} (hR : Rms K A H a l d rs) (h : Ev ta σ H (.ref a)) (h2 : Ev tb σ H (.int n)) (hn : 2 ≤ n) (hn2 : n < (rs.length : Int) + 2) : EvD K (tMeth A.Rooms "doors" (sp_Rooms_doors K A) [] E0 ta (tCons tb tNil)) σ H (Tup.mk (dr rs n)) := fun H1 e Q q =>
  h H1 e _ fun H2 e2 => by
    obtain ⟨dx, ob⟩ := hR.ob
    refine ⟨a, dx, _, rfl, e2 _ _ (e _ _ ob), rfl, h2 H2 (e.trans e2) _ fun H3 e3 => ⟨rfl, a, l, d, rs, n, rfl, hR.ex ((e.trans e2).trans e3), hn, hn2, fun w H4 e4 hw => q w H4 ((e2.trans e3).trans e4) hw⟩⟩
/-! lay -/
def sp_lay (dd : Nat) (K : PySem.W.Frag) (A : Ads) : Sp := Spn 4 fun vs H Q E => ∃ a l d rs n nl fl nm F vf left e, vs = [.ref a, .int n, .ref nl, .ref fl] ∧ Rms K A H a l d rs ∧ rs.length ≤ 5000 ∧ fl ≠ l ∧ e ≤ dd ∧ (n ∈ keys nm ∨ (Fit rs e left n ∧ left.Nodup ∧ left.length ≤ 1000)) ∧ Iv rs nm F ∧
  H nl = some (.dK (kvI nm)) ∧ H fl = some (.lst vf) ∧ Hds K H vf (tlD F) ∧
  ∀ H' vf', Go (fun x => x = nl ∨ x = fl) H H' → H' nl = some (.dK (kvI (dfsF rs e n (nm, F)).1)) → H' fl = some (.lst vf') → Hds K H' vf' (tlD (dfsF rs e n (nm, F)).2) → Q .non H'
def sp_Rooms_lay (K : PySem.W.Frag) (A : Ads) : Sp := sp_lay 8 K A
def t_Rooms_lay (K : PySem.W.Frag) (A : Ads) (R : Sp) (W : WX) : TS :=
  (tSeq (tIfS (tB (tDIn (tVar 1) (tVar 2))) tRetN tNext)
    (tSeq (tFor (iTup K (tMeth A.Rooms "doors" (sp_Rooms_doors K A) [] E0 (tVar 0) (tCons (tVar 1) tNil))) (gTup K 2 (gCons (gName 4) (gCons (gName 5) gNil))) (tDrop (tMeth A.Rooms "lay" R [] E0 (tVar 0) (tCons (tVar 5) (tCons (tVar 2) (tCons (tVar 3) tNil))))))
    (tSeq (sDPut (tVar 2) (tVar 1) (tOp rAddI (tCB (rLenS K) (tCons (tVar 3) tNil)) (tC (.int 2))))
    (tDrop (tBM K "list" rAppend (tVar 3) (tCons (tThen (tLc (iTup K (tMeth A.Rooms "doors" (sp_Rooms_doors K A) [] E0 (tVar 0) (tCons (tVar 1) tNil))) (gTup K 2 (gCons (gName 4) (gCons (gName 5) gNil))) tYes (tTupP (tCons (tVar 4) (tCons (tDGet (tVar 2) (tVar 5)) tNil))) [4, 5]) (kTupP K)) tNil))))))
theorem pu_lay {dd : Nat} {R : Sp} (hR0 : dd ≠ 0 → R = sp_lay (dd - 1) K A) (h : sp_lay dd K A vs H Q E) : t_Rooms_lay K A R (WXE E) (DQ Q) (start ["self", "number", "numbers", "found", "thing", "other"] vs) H := by
  obtain ⟨_, a, l, d, rs, n, nl, fl, nm, F, vf, left, e, rfl, hR, hsz, hfl, he, hn, I, h1, h2, h3, q⟩ := h
  refine ⟨.int n, rfl, .ref nl, rfl, nl, _, rfl, DGet.k (k := Sum.inl n) h1, _, rfl, ?_⟩
  rw [val_kv]
  by_cases hk : n ∈ keys nm
  · rw [if_pos hk]
    have := q H vf (Go.refl H)
    rw [dfs_in hk] at this
    exact this h1 h2 h3
  rw [if_neg hk]
  rcases hn with hn | ⟨hf, hnd, h1000⟩
  · exact (hk hn).elim
  cases e with
  | zero =>
    rw [hf.1] at hk
    exact (hk (List.mem_map.mpr ⟨_, I.one, rfl⟩)).elim
  | succ e =>
  have hR1 := hR0 (by omega)
  subst hR1
  have n2 := hf.1
  have n3 := hf.2.1
  have sep : a ≠ nl ∧ a ≠ fl ∧ l ≠ nl ∧ d ≠ nl ∧ d ≠ fl ∧ nl ≠ fl := by
    obtain ⟨dx, ob⟩ := hR.ob
    obtain ⟨as, g1, _, g3⟩ := hR.as
    exact ⟨fun z => (by rw [z, h1] at ob; cases ob), fun z => (by rw [z, h2] at ob; cases ob), fun z => (by rw [z, h1] at g1; cases g1), fun z => (by rw [z, h1] at g3; cases g3), fun z => (by rw [z, h2] at g3; cases g3), fun z => (by rw [z, h2] at h1; cases h1)⟩
  obtain ⟨s1, s2, s3, s4, s5, s6⟩ := sep
  have Rgo : ∀ H', Go (fun x => x = nl ∨ x = fl) H H' → Rms K A H' a l d rs := fun H' g => hR.go g (fun z => z.elim s1 s2) (fun z => z.elim s3 (fun y => hfl y.symm)) (fun z => z.elim s4 s5)
  simp only [Option.isSome_none, Bool.false_eq_true, if_false]
  refine q_forTD (ed_doors hR (ev_var rfl) (ev_var rfl) n2 n3) (fun H1 i σ' H' => ∃ x y vf', σ' = [some (.ref a), some (.int n), some (.ref nl), some (.ref fl), x, y] ∧ Go (fun x => x = nl ∨ x = fl) H1 H' ∧ H' nl = some (.dK (kvI (((dr rs n).take i).foldl (fun s p => dfsF rs e p.2 s) (nm, F)).1)) ∧ H' fl = some (.lst vf') ∧
      Hds K H' vf' (tlD (((dr rs n).take i).foldl (fun s p => dfsF rs e p.2 s) (nm, F)).2)) (fun H1 e1 => ⟨none, none, vf, rfl, Go.refl H1, e1 _ _ h1, e1 _ _ h2, hds_ex e1 h3⟩) (fun H1 i σ' H' ⟨_, _, _, _, g, _⟩ => g.tx) ?_ ?_
  · rintro H1 i v x σ' H' e1 hx hv ⟨x1, y1, vf', rfl, g, k1, k2, k3⟩
    refine g_pair (x := x.1) (y := x.2) hv ?_
    obtain ⟨J, ⟨more, em, _⟩, _⟩ := dfs_fold hR.nd hf hnd ((dr rs n).take i) (fun p hp => List.mem_of_mem_take hp) I
    have R' := Rgo H' ((Go.ex e1).trans g)
    obtain ⟨dx, ob⟩ := R'.ob
    have hxm : x ∈ dr rs n := List.mem_of_getElem? hx
    refine ⟨.ref a, rfl, a, dx, _, rfl, ob, rfl, .int x.2, rfl, .ref nl, rfl, .ref fl, rfl, ?_⟩
    refine ⟨rfl, a, l, d, rs, x.2, nl, fl, _, _, vf', wo left x.1, e, rfl, R', hsz, hfl, by omega, .inr ⟨(hf.2.2.2.2 x hxm).2.2, wo_nodup hnd _, Nat.le_trans (wo_sub left x.1).length_le h1000⟩, J, k1, k2, k3, fun H2 vf2 g2 j1 j2 j3 => ?_⟩
    have tk : (dr rs n).take (i + 1) = (dr rs n).take i ++ [x] := by
      rw [List.take_add_one, hx]
      rfl
    refine ⟨some (.int x.1), some (.int x.2), vf2, rfl, g.trans g2, ?_, j2, ?_⟩
    · rw [tk, List.foldl_append]
      exact j1
    · rw [tk, List.foldl_append]
      exact j3
  · rintro H1 σ' H' e1 ⟨x1, y1, vf', rfl, g, k1, k2, k3⟩
    rw [List.take_length] at k1 k3
    obtain ⟨J, ⟨more, em, lo⟩, ins⟩ := dfs_fold hR.nd hf hnd (dr rs n) (fun p hp => hp) I
    rw [dfs_out hk] at q
    generalize (dr rs n).foldl (fun s p => dfsF rs e p.2 s) (nm, F) = st at k1 k3 J em ins q
    obtain ⟨nm', F'⟩ := st
    simp only at k1 k3 J em ins q
    have hno : n ∉ keys nm' := fun z => by
      rw [em] at z
      unfold keys at z
      rw [List.map_append] at z
      rcases List.mem_append.mp z with z | z
      · exact hk z
      · obtain ⟨x, hx, hx2⟩ := List.mem_map.mp z
        have := lo x hx
        omega
    have R' := Rgo H' ((Go.ex e1).trans g)
    have sz := J.size
    have lf := hds_len k3
    rw [List.length_map] at lf
    -- the number is written
    refine (ei_add (ev_lenL (K := K) (xs := tlD F') (ed_var rfl (of_list (sq_of k2) k3))) ev_c : Ev _ _ H' (.int (((tlD F').length : Int) + 2))) H' (Ex.refl H') _ fun H2 e2 => ?_
    refine ⟨.ref nl, rfl, .int n, rfl, nl, _, rfl, DPut.k (k := Sum.inl n) (e2 _ _ k1) (sz_lt (by unfold kvI; rw [List.length_map]; omega)), ?_⟩
    rw [put_kv hno, List.length_map]
    -- the doors by new numbers
    have k2b : (upd H2 nl (.dK (kvI (nm' ++ [(n, (F'.length : Int) + 2)])))) fl = some (.lst vf') := by
      rw [upd_ne (Ne.symm s6)]
      exact e2 _ _ k2
    have k1b : (upd H2 nl (.dK (kvI (nm' ++ [(n, (F'.length : Int) + 2)])))) nl = some (.dK (kvI (nm' ++ [(n, (F'.length : Int) + 2)]))) := upd_same
    have gd : Go (fun x => x = nl ∨ x = fl) H2 (upd H2 nl (.dK (kvI (nm' ++ [(n, (F'.length : Int) + 2)])))) := Go.mut (by rw [e2 _ _ k1]; trivial) (.inl rfl)
    have R3 := Rgo _ (((Go.ex e1).trans g).trans ((Go.ex e2).trans gd))
    have k3b := hds_tx gd.tx (hds_ex e2 k3)
    generalize upd H2 nl (.dK (kvI (nm' ++ [(n, (F'.length : Int) + 2)]))) = H3 at k1b k2b k3b gd R3
    have new : ∀ p ∈ dr rs n, p.2 ∈ keys (nm' ++ [(n, (F'.length : Int) + 2)]) ∧ toD (nm' ++ [(n, (F'.length : Int) + 2)]) p.2 = toD nm' p.2 := fun p hp => by
      refine ⟨?_, toD_app (ins p hp)⟩
      have := ins p hp
      unfold keys at this ⊢
      rw [List.map_append]
      exact List.mem_append_left _ this
    refine ⟨.ref fl, rfl, .inl ⟨rfl, vf', sq_of k2b⟩, ?_⟩
    refine (ed_tupOfL (EvD.is (EvN.d (en_lcT (fun _ => true) (fun p : Int × Int => (p.1, toD nm' p.2)) (ed_doors R3 (ev_var rfl) (ev_var rfl) n2 n3) ?_ fun y x H4 G hx e4 hy qq => ?_)) (by rw [filt_true])) : EvD K _ _ H3 (Tup.mk ((dr rs n).map fun p => (p.1, toD nm' p.2)))) H3 (Ex.refl H3) _ fun v H4 e4 hv => ?_
    · have := (hf.2.2.2.1).length_le
      rw [List.length_map] at this
      omega
    · refine g_pair (x := x.1) (y := x.2) hy (qq _ H4 (Ex.refl _) rfl (fun H1 _ _ q => q H1 (Ex.refl H1)) fun _ => ?_)
      have z := ev_dget (ta := tVar 2) (tb := tVar 5) (σ := [some (V.ref a), some (.int n), some (.ref nl), some (.ref fl), some (.int x.1), some (.int x.2)]) (ev_var rfl) (e4 _ _ k1b) (ev_var rfl) (new x hx).1
      rw [(new x hx).2] at z
      exact ed_pairA (ed_int (ev_var rfl)) (ed_int z)
    · refine ⟨fl, vf', v, rfl, rfl, e4 _ _ k2b, sz_lt (by omega), ?_⟩
      have gf : Go (fun x => x = nl ∨ x = fl) H4 (upd H4 fl (.lst (vf' ++ [v]))) := Go.mut (by rw [e4 _ _ k2b]; trivial) (.inr rfl)
      refine q _ (vf' ++ [v]) (((Go.ex e1).trans g).trans ((Go.ex e2).trans (gd.trans ((Go.ex e4).trans gf)))) ?_ upd_same ?_
      · rw [upd_ne s6]
        exact e4 _ _ k1b
      · unfold tlD
        rw [List.map_append]
        exact hds_app (α := Tup (Int × Int)) (hds_tx gf.tx (hds_ex e4 k3b)) (hds_one (α := Tup (Int × Int)) (hd_tx gf.tx hv))
end
end OA

/-! ON: books of orders -/
namespace OA
open PySem PySem.Spec PyProof.Rows L2 Evl
open PySem.W (Datum Tup T3 DatumOrd)
/-- a list kept -/
theorem sql_go {K : PySem.W.Frag} {S : Addr → Prop} {H H' : Hp} {a : Addr} {xs : List V} (g : Go S H H') (n : Rd H a (.lst xs) → ¬ S a) (h : SqL K H a xs) : SqL K H' a xs := by
  rcases h with h | h
  · have := n h
    rcases h with h | ⟨o, h⟩
    · exact .inl (.inl (g.keep _ _ this h))
    · exact .inl (.inr ⟨o, g.keep _ _ this h⟩)
  · exact .inr h
theorem hd_goL {α : Type} [DecidableEq α] [Datum α] [PureD α] {K : PySem.W.Frag} {S : Addr → Prop} {H H' : Hp} {v : V} {xs : List α} (g : Go S H H') (n : ∀ a ws, v = .ref a → Rd H a (.lst ws) → ¬ S a) (h : Hd K H v xs) : Hd K H' v xs := by
  obtain ⟨a, vs, rfl, hs, hd⟩ := hd_list h
  exact of_list (sql_go g (n a vs rfl) hs) (hds_tx g.tx hd)
theorem rd_some {H : Hp} {a : Addr} {xs : List V} (h : Rd H a (.lst xs)) : H a = some (.lst xs) ∨ ∃ o, H a = some (.frz o (.lst xs)) := h
section
variable {K : PySem.W.Frag} {A : Ads} {vs : List V} {H : Hp} {Q : VK} {E : XK}
/-- a new rooms object -/
theorem mk_rooms {σ : L2.St} (k : ∀ a l d H', Ex H H' → H a = none → H l = none → H d = none → Rms K A H' a l d [] → Q (.ref a) H') : tMake A.Rooms (sp_Rooms_init K A) [] E0 tNil σ H Q := by
  intro x dx hx hdx hne
  have old : ∀ b o, H b = some o → upd (upd H dx (.own x)) x (.ins A.Rooms dx []) b = some o := fun b o e => by
    rw [upd_ne (fun z => by rw [z, hx] at e; cases e), upd_ne (fun z => by rw [z, hdx] at e; cases e)]
    exact e
  have back : ∀ b, upd (upd H dx (.own x)) x (.ins A.Rooms dx []) b = none → H b = none := fun b e => by
    cases z : H b with
    | none => rfl
    | some o => rw [old b o z] at e; cases e
  refine ⟨rfl, x, dx, rfl, upd_same, fun H' l d g hl hd hR => ⟨rfl, k x l d H' (fun b o e => g.keep b o (fun z => by rw [z, hx] at e; cases e) (old b o e)) hx (back l hl) (back d hd) hR⟩⟩
/-- a book: the tuple at t, its rooms' list at q -/
structure BkAt (K : PySem.W.Frag) (H : Hp) (t q : Addr) (many : Int) (F : List Rm) (m : Int) : Prop where
  tp : PlT K H t [.int many, .ref q, .int m]
  ls : ∃ vf, H q = some (.lst vf) ∧ Hds K H vf (tlD F)
theorem BkAt.hd {t q : Addr} {many m : Int} {F : List Rm} (h : BkAt K H t q many F m) : Hd K H (.ref t) (T3.mk many (tlD F) m) := by
  obtain ⟨vf, h1, h2⟩ := h.ls
  exact of_t3 h.tp (of_int many) (of_list (sq_of h1) h2) (of_int m)
def bookF (rs : List Rm) (e : Nat) (left : List Int) (n : Int) : List Rm × Int := if n = 0 then ([], 0) else layF e left (W rs e n) []
def sp_Rooms_book (K : PySem.W.Frag) (A : Ads) : Sp := Spn 3 fun vs H Q E => ∃ a l d rs many n left e, vs = [.ref a, .int many, .int n] ∧ Rms K A H a l d rs ∧ rs.length ≤ 5000 ∧ (n = 0 ∨ (e ≤ 8 ∧ Fit rs e left n ∧ left.Nodup ∧ left.length ≤ 1000)) ∧
  ∀ t q H', Ex H H' → H q = none → BkAt K H' t q many (bookF rs e left n).1 (bookF rs e left n).2 → Q (.ref t) H'
def t_Rooms_book (K : PySem.W.Frag) (A : Ads) (W : WX) : TS :=
  (tSeq (tAsg (tLst tNil) (gName 3))
    (tSeq (tAsg (tDisp (((tC (.int 0)), (tC (.int 0))) :: ((tC (.int 1)), (tC (.int 1))) :: [])) (gName 4))
    (tSeq (tDrop (tMeth A.Rooms "lay" (sp_Rooms_lay K A) [] E0 (tVar 0) (tCons (tVar 2) (tCons (tVar 4) (tCons (tVar 3) tNil)))))
    (tRet (tTupP (tCons (tVar 1) (tCons (tVar 3) (tCons (tDGet (tVar 4) (tVar 2)) tNil))))))))
theorem pu_Rooms_book (h : sp_Rooms_book K A vs H Q E) : t_Rooms_book K A (WXE E) (DQ Q) (start ["self", "many", "first", "found", "numbers"] vs) H := by
  obtain ⟨_, a, l, d, rs, many, n, left, e, rfl, hR, hsz, hn, q⟩ := h
  refine qn_asg (K := K) (xs := ([] : List (Tup (Int × Int)))) (en_lstA eas_nil (by decide)) fun fl vf H1 hfl e1 h1 d1 => ?_
  have d1' := hds_inv0 d1
  subst d1'
  refine qc_asg fun p hp => ⟨upd_same, kvI [(0, 0), (1, 1)], rfl, by decide, ?_⟩
  have em : mergeK [] (kvI [(0, 0), (1, 1)]) = kvI [(0, 0), (1, 1)] := merge_new _ _ (by decide)
  rw [em]
  have hH2 : ∃ H2, H2 = upd (upd H1 p (.dK [])) p (.dK (kvI [(0, 0), (1, 1)])) := ⟨_, rfl⟩
  obtain ⟨H2, eH2⟩ := hH2
  rw [← eH2]
  have p2 : H2 p = some (.dK (kvI [(0, 0), (1, 1)])) := by rw [eH2]; exact upd_same
  have e2 : Ex H1 H2 := by rw [eH2]; exact Ex.mut (Ex.new hp) hp
  clear eH2
  have R2 := hR.ex (e1.trans e2)
  obtain ⟨dx, ob⟩ := R2.ob
  have nfl : fl ≠ l := fun z => by
    obtain ⟨as, g1, _⟩ := hR.as
    rw [z, g1] at hfl
    cases hfl
  have f2 := e2 _ _ h1
  have npf : p ≠ fl := fun z => by rw [z, h1] at hp; cases hp
  have hpH : H p = none := fresh_back e1 hp
  refine ⟨.ref a, rfl, a, dx, _, rfl, ob, rfl, .int n, rfl, .ref p, rfl, .ref fl, rfl, ?_⟩
  -- laid
  have main : ∀ (e' : Nat), e' ≤ 8 → (n ∈ keys [((0 : Int), (0 : Int)), (1, 1)] ∨ (Fit rs e' left n ∧ left.Nodup ∧ left.length ≤ 1000)) → ((dfsF rs e' n ([(0, 0), (1, 1)], [])).2 = (bookF rs e left n).1 ∧ n ∈ keys (dfsF rs e' n ([(0, 0), (1, 1)], [])).1 ∧ toD (dfsF rs e' n ([(0, 0), (1, 1)], [])).1 n = (bookF rs e left n).2) →
      sp_Rooms_lay K A [.ref a, .int n, .ref p, .ref fl] H2 (fun _ H3 => tRet (tTupP (tCons (tVar 1) (tCons (tVar 3) (tCons (tDGet (tVar 4) (tVar 2)) tNil)))) (DQ Q) [some (.ref a), some (.int many), some (.int n), some (.ref fl), some (.ref p)] H3) E0 := by
    intro e' he hn' ⟨r1, r2, r3⟩
    refine ⟨rfl, a, l, d, rs, n, p, fl, [(0, 0), (1, 1)], [], [], left, e', rfl, R2, hsz, nfl, he, hn', Iv.start rs, p2, f2, hds_nil, fun H3 vf' g k1 k2 k3 => ?_⟩
    refine ⟨.int many, rfl, .ref fl, rfl, ?_⟩
    refine ev_dget (ev_var rfl) k1 (ev_var rfl) r2 H3 (Ex.refl _) _ fun H4 e4 => ⟨sz_of (by show 3 ≤ 100000; omega), fun t o ht ho => ?_⟩
    rw [r3]
    have ex3 : Ex H H3 := by
      refine Go.under (e1.trans e2) (fun x hx => ?_) g
      rcases hx with rfl | rfl
      · exact hpH
      · exact hfl
    rw [r1] at k3
    have e5 := e4.trans (Ex.new (o := .frz o (.tup [.int many, .ref fl, .int (bookF rs e left n).2])) ht)
    exact q t fl _ (ex3.trans e5) hfl ⟨pl_of upd_same ho, ⟨vf', e5 _ _ k2, hds_ex e5 k3⟩⟩
  rcases hn with hn | ⟨he, hf, hnd, hl⟩
  · refine main 0 (by decide) (.inl (by rw [hn]; exact List.mem_cons_self)) ?_
    unfold bookF
    rw [if_pos hn, hn]
    exact ⟨rfl, List.mem_cons_self, rfl⟩
  · obtain ⟨_, l1, _, i1⟩ := dfs_lay hR.nd hf hnd (Iv.start rs)
    refine main e he (.inr ⟨hf, hnd, hl⟩) ?_
    unfold bookF
    rw [if_neg (by have := hf.pos.1; omega), l1]
    exact ⟨rfl, i1, rfl⟩
theorem stepM_acc {left : List Int} {os : List (List Int)} {at_ : Nat} : ∀ (ts : List Int) (F : List Rm) (acc : Rm), (ts.foldl (stepM left os at_) (F, acc)).2.length = acc.length + ts.length
  | [], F, acc => rfl
  | t :: ts, F, acc => by
    rw [List.foldl_cons]
    have := stepM_acc (left := left) (os := os) (at_ := at_) ts (stepM left os at_ (F, acc) t).1 (stepM left os at_ (F, acc) t).2
    have e : ((stepM left os at_ (F, acc) t).1, (stepM left os at_ (F, acc) t).2) = stepM left os at_ (F, acc) t := rfl
    rw [e] at this
    rw [this]
    show (acc ++ [_]).length + _ = _
    rw [List.length_append, List.length_cons, List.length_cons, List.length_nil]
    omega
/-! made of orders -/
def sp_mk (dd : Nat) (K : PySem.W.Frag) (A : Ads) : Sp := Spn 4 fun vs H Q E => ∃ (a l d : Addr) (rs : List Rm) (vl vo : V) (left : List Int) (os : List (List Int)) (at_ : Nat), vs = [.ref a, vl, vo, .int (at_ : Int)] ∧ Rms K A H a l d rs ∧ Hd K H vl (Tup.mk left) ∧ Hd K H vo (tl os) ∧ (vo ≠ .ref l) ∧ left.Nodup ∧ left.length ≤ dd ∧
  (∀ o ∈ os, (o.drop at_).Perm left) ∧ os.length ≤ 200 ∧ left.length ≤ 8 ∧ rs.length + os.length * left.length ≤ 4000 ∧ ∀ H', Go (fun x => x = l ∨ x = d) H H' → Rms K A H' a l d (madeF rs left os at_).1 → Q (.int (madeF rs left os at_).2) H'
def sp_made (K : PySem.W.Frag) (A : Ads) : Sp := sp_mk 8 K A
def t_made (K : PySem.W.Frag) (A : Ads) (R : Sp) (W : WX) : TS :=
  (tSeq (tIfS (tNot (tTruQ K (tVar 2))) (tRet (tC (.int 0))) tNext)
    (tSeq (tIfS (tTest (tOp (rEqP K) (tVar 1) (tTupP tNil))) (tRet (tC (.int 1))) tNext)
    (tSeq (tAsg (tLst tNil) (gName 4))
    (tSeq (tFor (iTup K (tVar 1)) (gName 5) (tSeq (tAsg (tLc (iList K (tVar 2)) (gName 7) (tTest (tOp (rEqP K) (tOp (rIx K) (tVar 7) (tVar 3)) (tVar 5))) (tVar 7) [7]) (gName 6))
    (tDrop (tBM K "list" rAppend (tVar 4) (tCons (tTupP (tCons (tVar 5) (tCons (tCallS R (WE W) (tCons (tVar 0) (tCons (tThen (tLc (iTup K (tVar 1)) (gName 8) (tTest (tOp (rNeP K) (tVar 8) (tVar 5))) (tVar 8) [8]) (kTupP K)) (tCons (tVar 6) (tCons (tOp rAddI (tVar 3) (tC (.int 1))) tNil))))) tNil))) tNil)))))
    (tRet (tMeth A.Rooms "room" (sp_Rooms_room K A) [] E0 (tVar 0) (tCons (tThen (tVar 4) (kTupP K)) tNil)))))))
theorem pu_made {dd : Nat} {R : Sp} (hR0 : dd ≠ 0 → R = sp_mk (dd - 1) K A) (h : sp_mk dd K A vs H Q E) : t_made K A R (WXE E) (DQ Q) (start ["rooms", "left", "orders", "at", "doors", "thing", "some", "order", "one"] vs) H := by
  obtain ⟨_, a, l, d, rs, vl, vo, left, os, at_, rfl, hR, hl, ho, hvo, hnd, hdd, hperm, hos, h8, hsz, q⟩ := h
  refine q_when (et_not (et_truL (K := K) (xs := tl os) (ed_var rfl ho))) (fun hb H1 e1 => ?_) (fun hb H1 e1 => ?_)
  · have eo : os = [] := by simpa using hb
    refine s_rets ev_c fun H2 e2 => ?_
    have := q H2 (.ex (e1.trans e2))
    unfold madeF at this
    rw [if_pos eo] at this
    exact this (hR.ex (e1.trans e2))
  have eo : os ≠ [] := by simpa using hb
  have hl1 := hd_ex e1 hl
  have ho1 := hd_ex e1 ho
  have R1 := hR.ex e1
  refine q_when (et_test (ev_eqD (K := K) (ed_var rfl hl1) (ed_tupA (xs := ([] : List Int)) eas_nil (by decide)))) (fun hb2 H2 e2 => ?_) (fun hb2 H2 e2 => ?_)
  · have el : left = [] := by
      have := of_decide_eq_true hb2
      injection this
    refine s_rets ev_c fun H3 e3 => ?_
    have := q H3 (.ex ((e1.trans e2).trans e3))
    unfold madeF at this
    rw [if_neg eo, el] at this
    exact this (R1.ex (e2.trans e3))
  have el : left ≠ [] := fun z => of_decide_eq_false hb2 (by rw [z])
  obtain ⟨k, hk⟩ : ∃ k, left.length = k + 1 := ⟨left.length - 1, by have := List.length_pos_iff.mpr el; omega⟩
  have hR1 := hR0 (by omega)
  subst hR1
  have hlen : ∀ o ∈ os, at_ < o.length := fun o hm => by
    have := (hperm o hm).length_eq
    rw [List.length_drop] at this
    omega
  refine qn_asg (K := K) (xs := ([] : List (Int × Int))) (en_lstA eas_nil (by decide)) fun pd vd H3 hpd e3 h3 d3 => ?_
  have d3' := hds_inv0 d3
  subst d3'
  have e03 := (e1.trans e2).trans e3
  have hpdH : H pd = none := fresh_back (e1.trans e2) hpd
  have npl : pd ≠ l ∧ pd ≠ d ∧ pd ≠ a := by
    obtain ⟨dx, ob⟩ := hR.ob
    obtain ⟨as, g1, _, g3⟩ := hR.as
    exact ⟨fun z => (by rw [z, g1] at hpdH; cases hpdH), fun z => (by rw [z, g3] at hpdH; cases hpdH), fun z => (by rw [z, ob] at hpdH; cases hpdH)⟩
  have nvo : ∀ x ws, vo = .ref x → Rd H x (.lst ws) → ¬ (x = l ∨ x = d) := by
    intro x ws ex hr z
    obtain ⟨as, _, _, g3⟩ := hR.as
    rcases z with rfl | rfl
    · exact hvo ex
    · rcases rd_some hr with hs | ⟨o, hs⟩
      · rw [g3] at hs; cases hs
      · rw [g3] at hs; cases hs
  have under : ∀ {H4 H' : Hp}, Ex H3 H4 → Go (fun x => x = l ∨ x = d ∨ x = pd) H4 H' → Go (fun x => x = l ∨ x = d) H H' := fun {H4 H'} e4 g =>
    Go.under2 (.ex (e03.trans e4)) (fun x hx => by
      rcases hx with z | z | z
      · exact .inl (.inl z)
      · exact .inl (.inr z)
      · exact .inr (by rw [z]; exact hpdH)) g
  refine q_forTD (K := K) (xs := left) (ed_var rfl (hd_ex (e2.trans e3) hl1)) (fun H4 i σ' H' => ∃ x y vf, σ' = [some (.ref a), some vl, some vo, some (.int (at_ : Int)), some (.ref pd), x, y, none, none] ∧ Go (fun x => x = l ∨ x = d ∨ x = pd) H4 H' ∧ Rms K A H' a l d ((left.take i).foldl (stepM left os at_) (rs, [])).1 ∧ H' pd = some (.lst vf) ∧
      Hds K H' vf ((left.take i).foldl (stepM left os at_) (rs, [])).2) (fun H4 e4 => ⟨none, none, [], rfl, Go.refl H4, hR.ex (e03.trans e4), e4 _ _ h3, hds_nil⟩) (fun H1 i σ' H' ⟨_, _, _, _, g, _⟩ => g.tx) ?_ ?_
  · rintro H4 i v t σ' H' e4 hx hv ⟨x0, y0, vf, rfl, g, R', k2, k3⟩
    rw [hd_int hv]
    have htl : t ∈ left := List.mem_of_getElem? hx
    have gu := under e4 g
    have ho' : Hd K H' vo (tl os) := hd_goL gu nvo ho
    have hl' : Hd K H' vl (Tup.mk left) := hd_tx gu.tx hl
    -- the orders that have t there
    refine qn_asg (K := K) (xs := tl (pick os at_ t)) (EvN.is (en_lcL (fun o : Tup Int => decide (o.items.getD at_ 0 = t)) (fun o => o) (ed_var rfl ho') (by rw [List.length_map]; omega) fun w o H5 G ho2 e5 hw qq => ?_) (by
      rw [List.map_id']
      unfold pick tl
      rw [List.filter_map]
      rfl)) fun ps ws H5 hps e5 h5 d5 => ?_
    · obtain ⟨o', ho3, rfl⟩ := List.mem_map.mp ho2
      have hlt := hlen o' ho3
      exact qq _ H5 (Ex.refl _) rfl (et_test (ev_eqD (K := K) (ed_ixT (K := K) (xs := o') (i := (at_ : Int)) (ed_var rfl hw) (ev_var rfl) (atI_nat (getD_get hlt))) (ed_int (ev_var rfl)))) fun _ => ed_var rfl hw
    -- made within, its number kept with the door
    have k2' := e5 _ _ k2
    refine ⟨.ref pd, rfl, .inl ⟨rfl, vf, sq_of k2'⟩, .int t, rfl, .ref a, rfl, ?_⟩
    refine (ed_tupOfL (EvD.is (EvN.d (en_lcT (fun x : Int => !decide (x = t)) (fun x => x) (ed_var rfl (hd_ex e5 hl')) (by omega) fun w x H6 G hx2 e6 hw qq => ?_)) (by rw [List.map_id']; rfl)) : EvD K _ _ H5 (Tup.mk (wo left t))) H5 (Ex.refl H5) _ fun vw H6 e6 hvw => ?_
    · exact qq _ H6 (Ex.refl _) rfl (et_test (ev_neD (K := K) (ed_var rfl hw) (ed_int (ev_var rfl)))) fun _ => ed_var rfl hw
    refine ⟨.ref ps, rfl, ?_⟩
    refine ei_add (ev_var rfl) ev_c H6 (Ex.refl H6) _ fun H7 e7 => ?_
    have e57 := e6.trans e7
    have R7 := R'.ex (e5.trans e57)
    have hwl := wo_len hnd htl hk
    have nps : ps ≠ l := fun z => by
      obtain ⟨as, g1, _⟩ := R'.as
      rw [z, g1] at hps
      cases hps
    have hpick : ∀ o ∈ pick os at_ t, (o.drop (at_ + 1)).Perm (wo left t) := fun o hm => by
      obtain ⟨m1, m2⟩ := List.mem_filter.mp hm
      have p1 := hperm o m1
      have hlt := hlen o m1
      rw [List.drop_eq_getElem_cons hlt] at p1
      have : o[at_] = t := by
        have := of_decide_eq_true m2
        rw [List.getD_eq_getElem?_getD, List.getElem?_eq_getElem hlt] at this
        exact this
      rw [this] at p1
      exact (p1.trans (wo_perm hnd htl).symm).cons_inv
    have lp : (pick os at_ t).length ≤ os.length := List.length_filter_le _ _
    have cs : ((left.take i).foldl (stepM left os at_) (rs, [])).1.length + (pick os at_ t).length * k ≤ 4000 := by
      have s1 := stepM_len hnd hk hlen (left.take i) rs [] fun s hs => List.mem_of_mem_take hs
      have s2 : cnt (os.map (List.drop at_)) (left.take i) + (pick os at_ t).length ≤ os.length := by
        have s3 := cnt_le left (os.map (List.drop at_)) hnd
        rw [List.length_map] at s3
        have s4 : left = left.take i ++ (t :: left.drop (i + 1)) := by
          obtain ⟨hi, he⟩ := List.getElem?_eq_some_iff.mp hx
          rw [← he, ← List.drop_eq_getElem_cons hi, List.take_append_drop]
        rw [s4, cnt_app] at s3
        have s5 : cnt (os.map (List.drop at_)) (t :: left.drop (i + 1)) = (pick os at_ t).length + cnt (os.map (List.drop at_)) (left.drop (i + 1)) := by
          show (rests _ t).length + _ = _
          rw [pick_rests hlen, List.length_map]
        omega
      have s6 := Nat.mul_le_mul_right k s2
      rw [Nat.add_mul] at s6
      have s7 : os.length * k ≤ os.length * left.length := Nat.mul_le_mul_left _ (by omega)
      omega
    refine ⟨rfl, a, l, d, _, vw, .ref ps, wo left t, pick os at_ t, at_ + 1, by simp, R7, hd_ex e7 hvw, hd_ex e57 (of_list (sq_of h5) d5), fun z => nps (by injection z), wo_nodup hnd t, by omega, hpick, by omega, by omega, by rw [hwl]; exact cs, fun H8 g8 R8 => ?_⟩
    refine ⟨sz_of (by show 2 ≤ 100000; omega), fun tp o htp hod => ?_⟩
    have npd8 : H8 pd = some (.lst vf) := g8.keep _ _ (fun z => z.elim npl.1 npl.2.1) (e57 _ _ k2')
    have etp := Ex.new (o := .frz o (.tup [.int t, .int (madeF ((left.take i).foldl (stepM left os at_) (rs, [])).1 (wo left t) (pick os at_ t) (at_ + 1)).2])) htp
    have k9 := etp _ _ npd8
    have tk : left.take (i + 1) = left.take i ++ [t] := by
      rw [List.take_add_one, hx]
      rfl
    have lvf := hds_len k3
    have l8 : vf.length ≤ 1000 := by
      have : ((left.take i).foldl (stepM left os at_) (rs, [])).2.length = (left.take i).length := (stepM_acc _ _ _).trans (Nat.zero_add _)
      rw [lvf, this, List.length_take]
      omega
    refine ⟨pd, vf, .ref tp, rfl, rfl, k9, sz_lt (by omega), ?_⟩
    have gf : Go (fun x => x = l ∨ x = d ∨ x = pd) (upd H8 tp (.frz o (.tup [.int t, .int (madeF ((left.take i).foldl (stepM left os at_) (rs, [])).1 (wo left t) (pick os at_ t) (at_ + 1)).2]))) (upd (upd H8 tp (.frz o (.tup [.int t, .int (madeF ((left.take i).foldl (stepM left os at_) (rs, [])).1 (wo left t) (pick os at_ t) (at_ + 1)).2]))) pd (.lst (vf ++ [.ref tp]))) := Go.mut (by rw [k9]; trivial) (.inr (.inr rfl))
    have g8' : Go (fun x => x = l ∨ x = d ∨ x = pd) H7 H8 := g8.mono fun x z => z.elim .inl fun y => .inr (.inl y)
    have gall := ((Go.ex (e5.trans e57)).trans g8').trans ((Go.ex etp).trans gf)
    refine ⟨some (.int t), some (.ref ps), vf ++ [.ref tp], rfl, g.trans gall, ?_, upd_same, ?_⟩
    · rw [tk, List.foldl_append]
      exact (R8.ex etp).go (S := fun x => x = pd) (Go.mut (by rw [k9]; trivial) rfl) (fun z => npl.2.2 z.symm) (fun z => npl.1 z.symm) fun z => npl.2.1 z.symm
    · rw [tk, List.foldl_append]
      exact hds_app (hds_tx gall.tx k3) (hds_one (hd_tx gf.tx (of_pair (pl_of upd_same hod) (of_int _) (of_int _))))
  · rintro H4 σ' H' e4 ⟨x0, y0, vf, rfl, g, R', k2, k3⟩
    rw [List.take_length] at R' k3
    have gu := under e4 g
    have mr := made_room (F := rs) hnd el eo hperm
    have s1 := stepM_len hnd hk hlen left rs [] fun s hs => hs
    have s3 := Nat.mul_le_mul_right k (cnt_le left (os.map (List.drop at_)) hnd)
    rw [List.length_map] at s3
    have s7 : os.length * k ≤ os.length * left.length := Nat.mul_le_mul_left _ (by omega)
    obtain ⟨dx, ob⟩ := R'.ob
    refine ⟨.ref a, rfl, a, dx, _, rfl, ob, rfl, ?_⟩
    refine (ed_tupOfL (K := K) (ed_var rfl (of_list (sq_of k2) k3))) H' (Ex.refl H') _ fun v H5 e5 hv => ?_
    refine ⟨rfl, a, l, d, _, v, _, rfl, R'.ex e5, hv, by omega, ?_, fun H6 g6 R6 => ?_⟩
    · have : (left.foldl (stepM left os at_) (rs, [])).2.length = left.length := (stepM_acc _ _ _).trans (Nat.zero_add _)
      omega
    · rw [mr] at R6
      have := q H6 (gu.trans ((Go.ex e5).trans g6)) R6
      show Q (.int (roomF _ _).2) H6
      rw [mr]
      exact this
end
end OA

/-! OP: book_of -/
namespace OA
open PySem PySem.Spec PyProof.Rows L2 Evl
open PySem.W (Datum Tup T3 DatumOrd)
/-- sets of orders of n things, rising -/
structure SO (n : Nat) (S : List (List Int)) : Prop where
  so : S.Pairwise fun a b => TS.code 8 a < TS.code 8 b
  sub : ∀ w ∈ S, w.Perm (upTo n)
theorem up_lt (n : Nat) : (upTo n).Pairwise (· < ·) := by
  unfold upTo
  exact List.Pairwise.map _ (fun a b (h : a < b) => by show (a : Int) < (b : Int); omega) List.pairwise_lt_range
theorem up_bd {n : Nat} (h : n ≤ 8) : TS.Bd 8 (upTo n) := fun x hx => by
  have := mem_upTo.mp hx
  omega
theorem SO.nd {n : Nat} {S : List (List Int)} (h : SO n S) : S.Nodup := h.so.imp fun {a b} h e => by rw [e] at h; omega
theorem SO.filt {n : Nat} {S : List (List Int)} (h8 : n ≤ 8) (h : SO n S) : S = (allP n (upTo n)).filter fun w => decide (w ∈ S) := by
  have all := code_all (upTo_len n) (up_lt n) (up_bd h8)
  refine sort_unique (all.filter _) h.nd (h.so.imp fun h => Int.le_of_lt h) fun w => ?_
  rw [List.mem_filter, mem_allP (upTo_len n) (upTo_nodup n)]
  exact ⟨fun hw => ⟨h.sub w hw, decide_eq_true hw⟩, fun hw => of_decide_eq_true hw.2⟩
theorem SO.srt {n : Nat} {S : List (List Int)} (h8 : n ≤ 8) (h : SO n S) (hne : S ≠ []) : Srt n (upTo n) S := by
  have e := h.filt h8
  rw [e]
  exact srt_filter _ (upTo_len n) (upTo_nodup n) (by rw [← e]; exact hne)
theorem SO.tok {n : Nat} {S : List (List Int)} (h1 : 1 ≤ n) (h8 : n ≤ 8) (h : ∀ w ∈ S, w.Perm (upTo n)) : TOk S := ⟨n, h1, fun t ht => ⟨by rw [(h t ht).length_eq, upTo_len], fun x hx => up_bd h8 x ((h t ht).mem_iff.mp hx)⟩⟩
/-- the law's book -/
def lawB (n : Nat) (S : List (List Int)) : List Rm × Int := if S = [] then ([], 0) else layF n (upTo n) S []
theorem lawB_ok {n : Nat} {S : List (List Int)} (h8 : n ≤ 8) (h : SO n S) (hne : S ≠ []) : TGd (lawB n S).1 (upTo n) ∧ Fit (lawB n S).1 n (upTo n) (lawB n S).2 ∧ W (lawB n S).1 n (lawB n S).2 = S := by
  unfold lawB
  rw [if_neg hne]
  obtain ⟨a, _, b, c⟩ := layF_ok (F := []) (h.srt h8 hne) (upTo_len n) (upTo_nodup n) (List.Sublist.refl _) (TGd.nil _)
  exact ⟨a, b, c⟩
section
variable {K : PySem.W.Frag} {A : Ads} {vs : List V} {H : Hp} {Q : VK} {E : XK}
def sp_book_of (K : PySem.W.Frag) (A : Ads) : Sp := Spn 2 fun vs H Q E => ∃ (many : Int) (vo : V) (os S : List (List Int)), vs = [.int many, vo] ∧ Hd K H vo (tl os) ∧ os.length ≤ 1000 ∧ S.length < 63 ∧
  ((1 ≤ many ∧ many ≤ 8 ∧ ∀ o ∈ os, IsOrd many o) → SO many.toNat S ∧ (∀ w, w ∈ S ↔ w ∈ os) ∧ ∀ t q H', Ex H H' → H q = none → BkAt K H' t q many (lawB many.toNat S).1 (lawB many.toNat S).2 → Q (.ref t) H') ∧
  (¬ (1 ≤ many ∧ many ≤ 8 ∧ ∀ o ∈ os, IsOrd many o) → ∀ H', Ex H H' → E (.ref A.BadOrder) none H')
def t_book_of (K : PySem.W.Frag) (A : Ads) (W : WX) : TS :=
  (tSeq (tDrop (tCallS (sp_look_many K A) (WE W) (tCons (tVar 0) tNil)))
    (tSeq (tFor (iList K (tVar 1)) (gName 2) (tDrop (tCallS (sp_look_order K A) (WE W) (tCons (tVar 0) (tCons (tVar 2) tNil)))))
    (tSeq (tAsg (tMake A.Rooms (sp_Rooms_init K A) [] E0 tNil) (gName 3))
    (tRet (tMeth A.Rooms "book" (sp_Rooms_book K A) [] E0 (tVar 3) (tCons (tVar 0) (tCons (tCallS (sp_made K A) (WE W) (tCons (tVar 3) (tCons (tTupRgP (tRg1 (tVar 0))) (tCons (tSortSetT K (tVar 1)) (tCons (tC (.int 0)) tNil))))) tNil)))))))
theorem pu_book_of (h : sp_book_of K A vs H Q E) : t_book_of K A (WXE E) (DQ Q) (start ["many", "orders", "order", "rooms"] vs) H := by
  obtain ⟨_, many, vo, os, S, rfl, ho, h64, h63, good, bad⟩ := h
  have h200 : S.length ≤ 200 := by omega
  refine q_do (cl1 (K := K) (ed_var rfl (of_int many)) fun w H1 e1 hw => ?_)
  rw [hd_int hw]
  refine ⟨rfl, many, rfl, fun hm H2 e2 => ?_, fun hm H2 e2 => bad (fun z => hm ⟨z.1, z.2.1⟩) H2 (e1.trans e2)⟩
  have e12 := e1.trans e2
  refine q_forLD (K := K) (xs := tl os) (ed_var rfl (hd_ex e12 ho)) (fun H3 i σ' H' => ∃ x, σ' = [some (.int many), some vo, x, none] ∧ Ex H3 H' ∧ ∀ j, j < i → ∀ o, os[j]? = some o → IsOrd many o) (fun H3 e3 => ⟨none, rfl, Ex.refl H3, fun j hj => absurd hj (Nat.not_lt_zero _)⟩)
    (fun H3 i σ' H' ⟨_, _, e, _⟩ => .ex e) (fun H3 i σ' H' a vs _ hs _ ⟨_, _, e, _⟩ => ex_l e hs) ?_ ?_
  · rintro H3 i v x σ' H' e3 hx hv ⟨x0, rfl, e, all⟩
    obtain ⟨o, ho2, rfl⟩ : ∃ o, os[i]? = some o ∧ Tup.mk o = x := by
      rw [List.getElem?_map] at hx
      cases z : os[i]? with
      | none => rw [z] at hx; cases hx
      | some o => rw [z] at hx; exact ⟨o, rfl, Option.some.inj hx⟩
    refine s_do (cl2 (K := K) (ed_var rfl (of_int many)) (ed_var rfl hv) fun w w2 H4 e4 hw hw2 => ?_)
    rw [hd_int hw]
    refine ⟨rfl, many, w2, o, rfl, hw2, fun hio H5 e5 => ⟨some v, rfl, (e.trans e4).trans e5, fun j hj o' ho' => ?_⟩, fun hio H5 e5 => ?_⟩
    · by_cases z : j = i
      · rw [z, ho2] at ho'
        rw [← Option.some.inj ho']
        exact hio
      · exact all j (by omega) o' ho'
    · exact bad (fun z => hio (z.2.2 o (List.mem_of_getElem? ho2))) H5 ((e12.trans e3).trans ((e.trans e4).trans e5))
  · rintro H3 σ' H' e3 ⟨x0, rfl, e, all⟩
    rw [List.length_map] at all
    have allO : ∀ o ∈ os, IsOrd many o := fun o ho2 => by
      obtain ⟨j, hj, hje⟩ := List.mem_iff_getElem.mp ho2
      exact all j hj o (by rw [List.getElem?_eq_getElem hj, hje])
    obtain ⟨hSO, hmem, q⟩ := good ⟨hm.1, hm.2, allO⟩
    have n8 : many.toNat ≤ 8 := by omega
    have e0 := e12.trans (e3.trans e)
    refine qc_asg (mk_rooms fun a l d H4 e4 ha hl hd hR => ?_)
    have e04 := e0.trans e4
    obtain ⟨dx, ob⟩ := hR.ob
    refine ⟨.ref a, rfl, a, dx, _, rfl, ob, rfl, .int many, rfl, .ref a, rfl, ?_⟩
    refine (ed_tupRg (K := K) (ev_var rfl) (by omega)) H4 (Ex.refl H4) _ fun vl H5 e5 hvl => ?_
    refine ⟨vo, rfl, os, S, hd_ex (e04.trans e5) ho, ⟨h63, fun w hw => (hmem w).mpr hw⟩, SO.tok (by omega) n8 (fun w hw => (allO w hw).perm), fun us p vs H6 nd up mem hp e6 h6 d6 => ?_⟩
    have eus := sort_unique hSO.so nd up fun w => (mem w).trans (hmem w).symm
    subst eus
    have R6 := hR.ex (e5.trans e6)
    have npl : p ≠ l := fun z => by
      obtain ⟨as, g1, _⟩ := hR.as
      rw [z, e5 _ _ g1] at hp
      cases hp
    have hl8 : (upTo many.toNat).length ≤ 8 := by rw [upTo_len]; exact n8
    refine ⟨rfl, a, l, d, [], vl, .ref p, upTo many.toNat, us, 0, rfl, R6, hd_ex e6 hvl, of_list (sq_of h6) d6, fun z => npl (by injection z), upTo_nodup _, hl8, fun o ho2 => hSO.sub o ho2, h200, hl8, ?_, fun H7 g7 R7 => ?_⟩
    · have := Nat.mul_le_mul h200 hl8
      show 0 + _ ≤ 4000
      omega
    have hlen := madeF_len (left := upTo many.toNat) (os := us) (at_ := 0) (F := []) (upTo_nodup _)
    have h5000 : (madeF [] (upTo many.toNat) us 0).1.length ≤ 5000 := by
      have := Nat.mul_le_mul h200 hl8
      rw [List.length_nil] at hlen
      omega
    have e07 : Ex H H7 := (e04.trans (e5.trans e6)).trans (Ex.refl _) |> fun e => Go.under e (fun x hx => by
      rcases hx with rfl | rfl
      · exact fresh_back e0 hl
      · exact fresh_back e0 hd) g7
    have mapd : us.map (List.drop 0) = us := by
      have : (List.drop 0 : List Int → List Int) = id := by funext x; rfl
      rw [this, List.map_id]
    by_cases hus : us = []
    · have m0 : madeF [] (upTo many.toNat) us 0 = ([], 0) := by
        unfold madeF
        rw [if_pos hus]
      rw [m0] at R7 ⊢
      refine ⟨rfl, a, l, d, [], many, 0, [], 0, rfl, R7, by decide, .inl rfl, fun t q' H8 e8 hq hb => ?_⟩
      refine q t q' H8 (e07.trans e8) (fresh_back e07 hq) ?_
      unfold lawB
      rw [if_pos hus]
      unfold bookF at hb
      rw [if_pos rfl] at hb
      exact hb
    · have m1 : madeF [] (upTo many.toNat) us 0 = lawB many.toNat us := by
        unfold madeF lawB
        rw [if_neg hus, if_neg hus, mapd, upTo_len]
      rw [m1] at R7 h5000 ⊢
      obtain ⟨_, f, w⟩ := lawB_ok n8 hSO hus
      refine ⟨rfl, a, l, d, _, many, (lawB many.toNat us).2, upTo many.toNat, many.toNat, rfl, R7, h5000, .inr ⟨n8, f, upTo_nodup _, by omega⟩, fun t q' H8 e8 hq hb => ?_⟩
      refine q t q' H8 (e07.trans e8) (fresh_back e07 hq) ?_
      have bf : bookF (lawB many.toNat us).1 many.toNat (upTo many.toNat) (lawB many.toNat us).2 = lawB many.toNat us := by
        unfold bookF
        rw [if_neg (by have := f.pos.1; omega), w]
        unfold lawB
        rw [if_neg hus]
      rw [bf] at hb
      exact hb
end
end OA

/-! OME: a law's book is a book -/
namespace OA
open PySem PySem.Spec PyProof.Rows L2 Evl
open PySem.W (Datum Tup T3 DatumOrd)
theorem Fit.len {F : List Rm} : ∀ {d : Nat} {left : List Int} {n : Int}, left.Nodup → Fit F d left n → left.length = d
  | 0, left, n, _, h => by rw [h.2]; rfl
  | d + 1, left, n, hn, h => by
    obtain ⟨p, ps, e⟩ := List.exists_cons_of_ne_nil h.2.2.1
    have hp : p ∈ dr F n := by rw [e]; exact List.mem_cons_self
    have ih := Fit.len (wo_nodup hn p.1) (h.2.2.2.2 p hp).2.2
    have hm : p.1 ∈ left := h.2.2.2.1.subset (List.mem_map.mpr ⟨p, hp, rfl⟩)
    have := (wo_perm hn hm).length_eq
    rw [List.length_cons] at this
    omega
theorem rise_eq {a b : List Int} (ha : a.Pairwise (· < ·)) (hb : b.Pairwise (· < ·)) (h : ∀ x, x ∈ a ↔ x ∈ b) : a = b :=
  (rise_sub ha hb fun x hx => (h x).mp hx).eq_of_length_le (rise_sub hb ha fun x hx => (h x).mpr hx).length_le
theorem Fit.uniq {F : List Rm} : ∀ {d d' : Nat} {left left' : List Int} {n : Int}, left.Pairwise (· < ·) → left'.Pairwise (· < ·) → Fit F d left n → Fit F d' left' n → left = left'
  | 0, d', left, left', n, _, _, h, h' => by
    have e := h.1
    subst e
    rw [h.2, (fit_one.mp h').2]
  | d + 1, 0, left, left', n, _, _, h, h' => by
    have e := h'.1
    subst e
    exact absurd h.1 (by decide)
  | d + 1, d' + 1, left, left', n, hl, hl', h, h' => by
    obtain ⟨p, ps, e⟩ := List.exists_cons_of_ne_nil h.2.2.1
    have hp : p ∈ dr F n := by rw [e]; exact List.mem_cons_self
    have ih := Fit.uniq (hl.sublist (wo_sub _ _)) (hl'.sublist (wo_sub _ _)) (h.2.2.2.2 p hp).2.2 (h'.2.2.2.2 p hp).2.2
    have m1 : p.1 ∈ left := h.2.2.2.1.subset (List.mem_map.mpr ⟨p, hp, rfl⟩)
    have m2 : p.1 ∈ left' := h'.2.2.2.1.subset (List.mem_map.mpr ⟨p, hp, rfl⟩)
    refine rise_eq hl hl' fun x => ?_
    by_cases z : x = p.1
    · rw [z]
      exact ⟨fun _ => m2, fun _ => m1⟩
    · have w1 : x ∈ wo left p.1 ↔ x ∈ left := by unfold wo; rw [List.mem_filter]; simp [z]
      have w2 : x ∈ wo left' p.1 ↔ x ∈ left' := by unfold wo; rw [List.mem_filter]; simp [z]
      rw [← w1, ← w2, ih]
theorem lawB_bk {many : Int} {S : List (List Int)} (h1 : 1 ≤ many) (h8 : many ≤ 8) (h : SO many.toNat S) : BkOk many (lawB many.toNat S).1 (lawB many.toNat S).2 := by
  have n8 : many.toNat ≤ 8 := by omega
  by_cases hS : S = []
  · unfold lawB
    rw [if_pos hS]
    refine ⟨⟨h1, h8⟩, ⟨by decide, by decide, by decide⟩, (fun k r hr => by simp at hr), [[]], ⟨rfl, rfl, fun k r hr => by simp at hr⟩, fun z => absurd z (by decide), ?_⟩
    rw [if_pos rfl]
  obtain ⟨T, f, w⟩ := lawB_ok n8 h hS
  have eq : layF many.toNat (upTo many.toNat) S [] = ((lawB many.toNat S).1, (lawB many.toNat S).2) := by
    unfold lawB
    rw [if_neg hS]
  generalize (lawB many.toNat S).1 = F at T f w eq
  generalize (lawB many.toNat S).2 = m at f w eq
  obtain ⟨n, hn⟩ : ∃ n, many.toNat = n + 1 := ⟨many.toNat - 1, by omega⟩
  have m2 : 2 ≤ m := by
    rw [hn] at f
    exact f.1
  have up : (upTo many.toNat).Pairwise (· < ·) := up_lt _
  have pl : ∀ {left : List Int}, left.Sublist (upTo many.toNat) → left.Pairwise (· < ·) := fun s => up.sublist s
  have rok : RoomsOk F := fun k r hr => by
    have hk : k < F.length := (List.getElem?_eq_some_iff.mp hr).1
    have hdr : dr F ((k : Int) + 2) = r := by
      unfold dr
      rw [List.getD_eq_getElem?_getD, show ((k : Int) + 2 - 2).toNat = k by omega, hr]
      rfl
    obtain ⟨d, left, ft, hs⟩ := T.fit ((k : Int) + 2) (by omega) (by omega)
    have fw := T.fw ((k : Int) + 2) (by omega) (by omega)
    rw [hdr] at fw
    cases d with
    | zero => have := ft.1; omega
    | succ d =>
      obtain ⟨_, _, g3, g4, _⟩ := ft
      rw [hdr] at g3 g4
      refine ⟨g3, (pl hs).sublist g4, fun p hp => ?_, fw⟩
      have := mem_upTo.mp (hs.subset (g4.subset (List.mem_map.mpr ⟨p, hp, rfl⟩)))
      omega
  have ex : ∀ j : Nat, ∃ left : List Int, j < F.length + 1 → (Fit F left.length left ((j : Int) + 1) ∧ left.Sublist (upTo many.toNat)) := fun j => by
    by_cases hj : j = 0
    · exact ⟨[], fun _ => ⟨by subst hj; exact ⟨rfl, rfl⟩, List.nil_sublist _⟩⟩
    · by_cases hj2 : j < F.length + 1
      · obtain ⟨d, left, ft, hs⟩ := T.fit ((j : Int) + 1) (by omega) (by omega)
        refine ⟨left, fun _ => ⟨?_, hs⟩⟩
        rw [Fit.len ((upTo_nodup _).sublist hs) ft]
        exact ft
      · exact ⟨[], fun z => absurd z hj2⟩
  obtain ⟨fn, hfn⟩ := Classical.axiomOfChoice ex
  have get : ∀ j, j < F.length + 1 → ((List.range (F.length + 1)).map fn).getD j [] = fn j := fun j hj => by
    rw [List.getD_eq_getElem?_getD, List.getElem?_map, List.getElem?_range hj]
    rfl
  refine ⟨⟨h1, h8⟩, ⟨by omega, f.pos.2, by omega⟩, rok, (List.range (F.length + 1)).map fn, ⟨by rw [List.length_map, List.length_range], ?_, fun k r hr p hp => ?_⟩, fun _ => ?_, ?_⟩
  · rw [List.getElem?_map, List.getElem?_range (by omega)]
    show some (fn 0) = _
    rw [(fit_one.mp (hfn 0 (by omega)).1).2]
  · have hk : k < F.length := (List.getElem?_eq_some_iff.mp hr).1
    have hdr : dr F (((k + 1 : Nat) : Int) + 1) = r := by
      unfold dr
      rw [List.getD_eq_getElem?_getD, show (((k + 1 : Nat) : Int) + 1 - 2).toNat = k by omega, hr]
      rfl
    obtain ⟨o1, o2⟩ := (rok k r hr).2.2.2 p hp
    have a1 := hfn (k + 1) (by omega)
    have a2 := hfn (p.2 - 1).toNat (by omega)
    have et : (((List.range (F.length + 1)).map fn).take (k + 1)).getD (p.2 - 1).toNat [] = fn (p.2 - 1).toNat := by
      rw [List.getD_eq_getElem?_getD, List.getElem?_take_of_lt (by omega), ← List.getD_eq_getElem?_getD]
      exact get _ (by omega)
    unfold goodDoor
    rw [et, get _ (by omega)]
    generalize hL : fn (k + 1) = L at a1
    have s1 := pl a1.2
    obtain ⟨e, he⟩ : ∃ e, L.length = e + 1 := by
      cases z : L.length with
      | zero =>
        rw [z] at a1
        have := a1.1.1
        omega
      | succ e => exact ⟨e, rfl⟩
    rw [he] at a1
    obtain ⟨_, _, _, g4, g5⟩ := a1.1
    rw [hdr] at g4 g5
    have ft := (g5 p hp).2.2
    have a3 := a2.1
    rw [show (((p.2 - 1).toNat : Nat) : Int) + 1 = p.2 by omega] at a3
    have u := Fit.uniq (pl a2.2) (s1.sublist (wo_sub _ _)) a3 ft
    rw [u]
    have hm : p.1 ∈ L := g4.subset (List.mem_map.mpr ⟨p, hp, rfl⟩)
    refine ⟨fun z => ?_, ?_⟩
    · unfold wo at z
      simp at z
    · refine sort_one ((sortI_perm _).trans ?_) (sortI_up _) (s1.imp fun h => Int.le_of_lt h)
      exact (List.perm_append_comm.trans (List.Perm.refl _)).trans (wo_perm (s1.imp fun h => Int.ne_of_lt h) hm)
  · rw [get _ (by have := f.pos.2; omega)]
    have a := hfn (m.toNat - 1) (by have := f.pos.2; omega)
    rw [show (((m.toNat - 1 : Nat) : Int) + 1) = m by omega] at a
    exact Fit.uniq (pl a.2) up a.1 f
  · rw [if_neg (by omega), w]
    exact eq
end OA

/-! OQ: the law's own books and sets -/
namespace OA
open PySem PySem.Spec PyProof.Rows L2 Evl
open PySem.W (Datum Tup T3 DatumOrd)
section gen
variable {α : Type} [DecidableEq α] [Datum α] {K : PySem.W.Frag} {σ : L2.St} {H H' : Hp} {te : TE} {g : TG} {tu tz : TS} {D : Ends}
/-- a loop over a list that a value names -/
theorem q_forLV [PureD α] {xs : List α} {v : V} {H0 : Hp} (h : Ev te σ H v) (e0 : Ex H0 H) (hv : Hd K H0 v xs) (Pv : Hp → Nat → L2.St → Hp → Prop) (h0 : ∀ H1, Ex H H1 → Pv H1 0 σ H1) (ht : ∀ H1 i σ' H', Pv H1 i σ' H' → Tx H1 H') (hl : ∀ H1 i σ' H', Ex H H1 → Pv H1 i σ' H' → ∀ a ws, v = .ref a → SqL K H0 a ws → SqL K H' a ws)
    (hs : ∀ H1 i u x σ' H', Ex H H1 → xs[i]? = some x → Hd K H' u x → Pv H1 i σ' H' → g u σ' H' fun σ2 H2 => tu { D with nx := Pv H1 (i + 1), ct := Pv H1 (i + 1), bk := tz D } σ2 H2)
    (hd : ∀ H1 σ' H', Ex H H1 → Pv H1 xs.length σ' H' → tz D σ' H') : tSeq (tFor (iList K te) g tu) tz D σ H :=
  h H (Ex.refl H) _ fun H1 e => by
    obtain ⟨a, vs, rfl, hp, hds⟩ := hd_list hv
    have l := hds_len hds
    refine ⟨a, rfl, ⟨vs, ex_l (e0.trans e) hp⟩, for_list (D := { D with nx := tz D }) (Pv H1) (h0 H1 e) (fun i σ' H' _ p => hl H1 i σ' H' e p a vs rfl hp) (fun i v σ' H' hi p => ?_) (fun σ' H' p => hd H1 σ' H' e (by rw [← l]; exact p))⟩
    obtain ⟨x, hx, hvx⟩ := hds_getV hds hi
    exact hs H1 i v x σ' H' e hx (hd_tx ((Tx.ex (e0.trans e)).trans (ht _ _ _ _ p)) hvx) p
theorem s_forLV2 [PureD α] {xs : List α} {v : V} {H0 : Hp} (h : Ev te σ H v) (e0 : Ex H0 H) (hv : Hd K H0 v xs) (Pv : Hp → Nat → L2.St → Hp → Prop) (h0 : ∀ H1, Ex H H1 → Pv H1 0 σ H1) (ht : ∀ H1 i σ' H', Pv H1 i σ' H' → Tx H1 H') (hl : ∀ H1 i σ' H', Ex H H1 → Pv H1 i σ' H' → ∀ a ws, v = .ref a → SqL K H0 a ws → SqL K H' a ws)
    (hs : ∀ H1 i u x σ' H', Ex H H1 → xs[i]? = some x → Hd K H' u x → Pv H1 i σ' H' → g u σ' H' fun σ2 H2 => tu { D with nx := Pv H1 (i + 1), ct := Pv H1 (i + 1), bk := D.nx } σ2 H2)
    (hd : ∀ H1 σ' H', Ex H H1 → Pv H1 xs.length σ' H' → D.nx σ' H') : tFor (iList K te) g tu D σ H :=
  h H (Ex.refl H) _ fun H1 e => by
    obtain ⟨a, vs, rfl, hp, hds⟩ := hd_list hv
    have l := hds_len hds
    refine ⟨a, rfl, ⟨vs, ex_l (e0.trans e) hp⟩, for_list (D := D) (Pv H1) (h0 H1 e) (fun i σ' H' _ p => hl H1 i σ' H' e p a vs rfl hp) (fun i v σ' H' hi p => ?_) (fun σ' H' p => hd H1 σ' H' e (by rw [← l]; exact p))⟩
    obtain ⟨x, hx, hvx⟩ := hds_getV hds hi
    exact hs H1 i v x σ' H' e hx (hd_tx ((Tx.ex (e0.trans e)).trans (ht _ _ _ _ p)) hvx) p
end gen
section
variable {K : PySem.W.Frag} {A : Ads} {vs : List V} {H : Hp} {Q : VK} {E : XK}
theorem ed_tail {te : TE} {σ : L2.St} {w : List Int} (h : EvD K te σ H (Tup.mk w)) (hw : 1 ≤ w.length) : EvD K (tSl (rSlP K) te (tPart (tC (.int 1))) tNoPart) σ H (Tup.mk w.tail) :=
  EvD.is (ed_slT (lo := some 1) (hi := none) h (eo_some ev_c) eo_none) (by
    have := cutA_from (xs := w) (k := 1) hw
    rw [show ((1 : Nat) : Int) = 1 from rfl] at this
    rw [this, List.drop_one])
theorem rests_tl {S : List (List Int)} (h : ∀ w ∈ S, 1 ≤ w.length) (t : Int) : ((tl S).filter fun o : Tup Int => decide (o.items.getD 0 0 = t)).map (fun o => Tup.mk o.items.tail) = tl (rests S t) := by
  unfold rests tl
  rw [List.filter_map, List.map_map, List.map_map]
  have e : S.filter ((fun o : Tup Int => decide (o.items.getD 0 0 = t)) ∘ Tup.mk) = S.filter fun w => decide (w.head? = some t) := by
    refine List.filter_congr fun w hw => ?_
    have := h w hw
    cases w with
    | nil => simp at this
    | cons x w => simp
  rw [e]
  rfl
end
end OA

/-! OR: the law's books, its sets of orders -/
namespace OA
open PySem PySem.Spec PyProof.Rows L2 Evl
open PySem.W (Datum Tup T3 DatumOrd)
/-! all orders, as the law makes them -/
def ext (n : Nat) (o : List Int) : List (List Int) := ((upTo n).filter fun t => !decide (t ∈ o)).map fun t => o ++ [t]
def bfs (n : Nat) : Nat → List (List Int)
  | 0 => [[]]
  | i + 1 => (bfs n i).flatMap (ext n)
theorem bfs_all : ∀ n, n < 6 → bfs n n = allP n (upTo n) := by decide +kernel
theorem bfs_len : ∀ n, n < 6 → ∀ i, i < n + 1 → (bfs n i).length ≤ 120 := by decide +kernel
theorem flat_take {α β : Type} (f : α → List β) (l : List α) (j : Nat) : ((l.take j).flatMap f).length ≤ (l.flatMap f).length := by
  have : l.flatMap f = (l.take j).flatMap f ++ (l.drop j).flatMap f := by rw [← List.flatMap_append, List.take_append_drop]
  rw [this, List.length_append]
  exact Nat.le_add_right _ _
theorem cutA_sub {α : Type} (xs : List α) (lo hi : Option Int) : (cutA xs lo hi).Sublist xs := (List.take_sublist _ _).trans (List.drop_sublist _ _)
theorem SO.all {n : Nat} (h8 : n ≤ 8) : SO n (allP n (upTo n)) := ⟨code_all (upTo_len n) (up_lt n) (up_bd h8), fun w hw => (mem_allP (upTo_len n) (upTo_nodup n)).mp hw⟩
theorem SO.sublist {n : Nat} {S T : List (List Int)} (h : SO n T) (s : S.Sublist T) : SO n S := ⟨h.so.sublist s, fun w hw => h.sub w (s.subset hw)⟩
theorem tl_inj {S T : List (List Int)} (h : tl S = tl T) : S = T := by
  have := congrArg (List.map Tup.items) h
  rw [List.map_map, List.map_map] at this
  have e : (Tup.items ∘ Tup.mk : List Int → List Int) = id := rfl
  rw [e, List.map_id, List.map_id] at this
  exact this
section
variable {K : PySem.W.Frag} {A : Ads} {vs : List V} {H : Hp} {Q : VK} {E : XK}
/-! all orders -/
def sp_law_all (K : PySem.W.Frag) (A : Ads) : Sp := Spn 1 fun vs H Q E => ∃ many : Int, vs = [.int many] ∧ 1 ≤ many ∧ many ≤ 5 ∧ ∀ p ws H', H p = none → Ex H H' → H' p = some (.lst ws) → Hds K H' ws (tl (allP many.toNat (upTo many.toNat))) → Q (.ref p) H'
def t_law_all (K : PySem.W.Frag) (A : Ads) (W : WX) : TS :=
  (tSeq (tAsg (tLst (tCons (tTupP tNil) tNil)) (gName 1))
    (tSeq (tFor (iRng1 (tCons (tVar 0) tNil)) (gName 2) (tSeq (tAsg (tLst tNil) (gName 3))
    (tSeq (tFor (iList K (tVar 1)) (gName 4) (tAsg (tOp rCat (tVar 3) (tLc (iRng1 (tCons (tVar 0) tNil)) (gName 5) (tTest (tOp (rInP K true) (tVar 5) (tVar 4))) (tOp (rCatP K) (tVar 4) (tTupP (tCons (tVar 5) tNil))) [5])) (gName 3)))
    (tAsg (tVar 3) (gName 1)))))
    (tRet (tVar 1))))
theorem pu_law_all (h : sp_law_all K A vs H Q E) : t_law_all K A (WXE E) (DQ Q) (start ["_law_many", "_law_found", "_law_k", "_law_longer", "_law_order", "_law_thing"] vs) H := by
  obtain ⟨_, many, rfl, hm1, hm5, q⟩ := h
  refine qn_asg (K := K) (xs := tl [[]]) (en_lstA (eas_cons (ed_tupA (xs := ([] : List Int)) eas_nil (by decide)) eas_nil) (by show 1 ≤ 100000; decide)) fun p vs H1 hp e1 h1 d1 => ?_
  refine q_forR1 (n := many) (ea_cons (ev_var rfl) ea_nil) (by omega) (fun i σ' H' => ∃ p ws x y z w, σ' = [some (.int many), some (.ref p), x, y, z, w] ∧ H p = none ∧ Ex H H' ∧ H' p = some (.lst ws) ∧ Hds K H' ws (tl (bfs many.toNat i))) (fun H2 e2 => ⟨p, vs, none, none, none, none, rfl, hp, e1.trans e2, e2 _ _ h1, hds_ex e2 d1⟩) ?_ ?_
  · rintro i σ' H2 hi ⟨p, ws, x, y, z, w, rfl, hp, e2, h2, d2⟩
    have hn6 : many.toNat < 6 := by omega
    have len1 := bfs_len many.toNat hn6 (i + 1) (by omega)
    refine qn_asg (K := K) (xs := ([] : List (Tup Int))) (en_lstA eas_nil (by decide)) fun p3 v3 H3 hp3 e3 h3 d3 => ?_
    have d3' := hds_inv0 d3
    subst d3'
    refine q_forLD (K := K) (xs := tl (bfs many.toNat i)) (ed_var rfl (of_list (sq_of (e3 _ _ h2)) (hds_ex e3 d2))) (fun H4 j σ' H' => ∃ p3 v3 z w, σ' = [some (.int many), some (.ref p), some (.int (i : Int)), some (.ref p3), z, w] ∧ H p3 = none ∧ Ex H4 H' ∧ H' p3 = some (.lst v3) ∧ Hds K H' v3 (tl (((bfs many.toNat i).take j).flatMap (ext many.toNat))))
      (fun H4 e4 => ⟨p3, [], z, w, rfl, fresh_back e2 hp3, Ex.refl H4, e4 _ _ h3, hds_nil⟩) (fun H1 i σ' H' ⟨_, _, _, _, _, _, e, _⟩ => .ex e) (fun H1 i σ' H' a vs _ hs _ ⟨_, _, _, _, _, _, e, _⟩ => ex_l e hs) ?_ ?_
    · rintro H4 j v x σ' H' e4 hx hv ⟨p3, v3, z, w, rfl, hp3, e, k3, dd⟩
      obtain ⟨o, ho, rfl⟩ : ∃ o, (bfs many.toNat i)[j]? = some o ∧ Tup.mk o = x := by
        rw [List.getElem?_map] at hx
        cases z : (bfs many.toNat i)[j]? with
        | none => rw [z] at hx; cases hx
        | some o => rw [z] at hx; exact ⟨o, rfl, Option.some.inj hx⟩
      have tk : (bfs many.toNat i).take (j + 1) = (bfs many.toNat i).take j ++ [o] := by
        rw [List.take_add_one, ho]
        rfl
      have szs : (((bfs many.toNat i).take j).flatMap (ext many.toNat)).length + (ext many.toNat o).length ≤ 120 := by
        have := flat_take (ext many.toNat) (bfs many.toNat i) (j + 1)
        rw [tk, List.flatMap_append, List.length_append] at this
        have e2 : ([o].flatMap (ext many.toNat)) = ext many.toNat o := by simp
        rw [e2] at this
        exact Nat.le_trans this len1
      have szo : o.length ≤ 1000 := by
        have : ∀ n i, ∀ o ∈ bfs n i, o.length = i := by
          intro n i
          induction i with
          | zero => intro o ho; rw [List.mem_singleton.mp ho]; rfl
          | succ i ih =>
            intro o ho
            obtain ⟨u, hu, ho⟩ := List.mem_flatMap.mp ho
            obtain ⟨t, _, rfl⟩ := List.mem_map.mp ho
            rw [List.length_append, ih u hu]
            rfl
        rw [this _ _ o (List.mem_of_getElem? ho)]
        omega
      refine sn_asg (en_cat1 (K := K) (xs := tl (((bfs many.toNat i).take j).flatMap (ext many.toNat))) (ys := tl (ext many.toNat o)) (ev_var rfl) k3 dd (EvN.is (en_lcR (fun t => !decide (t ∈ o)) (fun t => Tup.mk (o ++ [t])) (ea_cons (ev_var rfl) ea_nil) (by omega) fun t H5 G t0 t1 e5 qq => ?_) (by
        unfold ext tl
        rw [List.map_map]
        rfl)) (by rw [List.length_map, List.length_map]; omega)) fun p5 v5 H5 hp5 e5 h5 d5 => ?_
      · have hv5 := hd_ex e5 hv
        exact qq _ H5 (Ex.refl _) rfl (et_test (ev_niT (K := K) (ed_int (ev_var rfl)) (ed_var rfl hv5))) fun _ => ed_catT (K := K) (xs := o) (ys := [t]) (ed_var rfl hv5) (ed_tupA (eas_cons (ed_int (ev_var rfl)) eas_nil) (by show 1 ≤ 100000; decide)) (by show o.length + 1 ≤ 100000; omega)
      · refine ⟨p5, v5, some v, w, rfl, fresh_back (((e2.trans e3).trans e4).trans e) hp5, e.trans e5, h5, ?_⟩
        rw [tk, List.flatMap_append]
        have e2 : ([o].flatMap (ext many.toNat)) = ext many.toNat o := by simp
        rw [e2]
        unfold tl at d5 ⊢
        rw [List.map_append]
        exact d5
    · rintro H4 σ' H' e4 ⟨p3, v3, z, w, rfl, hp3, e, k3, dd⟩
      rw [List.length_map, List.take_length] at dd
      refine s_asg (ev_var rfl) fun H5 e5 => ⟨p3, v3, some (.int (i : Int)), some (.ref p3), z, w, rfl, hp3, (((e2.trans e3).trans e4).trans e).trans e5, e5 _ _ k3, hds_ex e5 dd⟩
  · rintro σ' H2 ⟨p, ws, x, y, z, w, rfl, hp, e2, h2, d2⟩
    refine s_rets (ev_var rfl) fun H3 e3 => q p ws H3 hp (e2.trans e3) (e3 _ _ h2) ?_
    rw [bfs_all _ (by omega)] at d2
    exact hds_ex e3 d2
/-- all orders, as an expression -/
theorem en_all {te : TE} {σ : L2.St} {many : Int} {EX : L2.St → XK} (h : Ev te σ H (.int many)) (h1 : 1 ≤ many) (h5 : many ≤ 5) : EvN K (tCallS (sp_law_all K A) EX (tCons te tNil)) σ H (tl (allP many.toNat (upTo many.toNat))) :=
  en_cl1 (K := K) (ed_int h) fun v H1 e1 d1 Q E q => by
    rw [hd_int d1]
    exact ⟨rfl, many, rfl, h1, h5, q⟩
theorem all_len {many : Int} (h1 : 1 ≤ many) (h5 : many ≤ 5) : (allP many.toNat (upTo many.toNat)).length ≤ 120 := by
  rw [← bfs_all _ (by omega)]
  exact bfs_len _ (by omega) _ (by omega)
/-! a set -/
def sp_law_set (K : PySem.W.Frag) (A : Ads) : Sp := Spn 3 fun vs H Q E => ∃ (v : V) (ss : List Int) (k n : Int), vs = [v, .int k, .int n] ∧ Hd K H v ss ∧ 1 ≤ n ∧ n ≤ 5 ∧ ∀ S w H', SO n.toNat S → S.length ≤ 120 → S.Sublist (allP n.toNat (upTo n.toNat)) → Ex H H' → Hd K H' w (tl S) → Q w H'
def t_law_set (K : PySem.W.Frag) (A : Ads) (W : WX) : TS :=
  (tSeq (tAsg (tCallS (sp_law_all K A) (WE W) (tCons (tVar 2) tNil)) (gName 3))
    (tSeq (tAsg (tOp rModI (tCallS (sp_law_mix K A) (WE W) (tCons (tVar 0) (tCons (tVar 1) tNil))) (tC (.int 6))) (gName 4))
    (tSeq (tAsg (tCallS (sp_law_mix K A) (WE W) (tCons (tVar 0) (tCons (tOp rAddI (tVar 1) (tC (.int 1))) tNil))) (gName 5))
    (tSeq (tIfS (tTest (tOp (rEqP K) (tVar 4) (tC (.int 0)))) (tRet (tLc (iList K (tVar 3)) (gName 6) (tTest (tOp (rEqP K) (tOp (rIx K) (tVar 6) (tOp rModI (tVar 5) (tVar 2))) (tOp rModI (tOp rDivI (tVar 5) (tC (.int 8))) (tVar 2)))) (tVar 6) [6])) tNext)
    (tSeq (tIfS (tTest (tOp (rEqP K) (tVar 4) (tC (.int 1)))) (tRet (tOp (rIx K) (tLst (tCons (tLst tNil) (tCons (tVar 3) (tCons (tSl (rSlL K) (tVar 3) tNoPart (tPart (tC (.int 1)))) (tCons (tSl (rSlL K) (tVar 3) (tPart (tUn (rU fun i => .int (-i)) (tC (.int 1)))) tNoPart) tNil))))) (tOp rModI (tVar 5) (tC (.int 4))))) tNext)
    (tSeq (tAsg (tOp (rIx K) (tLst (tCons (tC (.int 0)) (tCons (tC (.int 0)) (tCons (tC (.int 1)) (tCons (tC (.int 3)) (tCons (tC (.int 6)) (tCons (tC (.int 4)) tNil))))))) (tVar 4)) (gName 7))
    (tRet (tLc (iRng1 (tCons (tCB (rLenS K) (tCons (tVar 3) tNil)) tNil)) (gName 8) (tTest (tOp rLtI (tOp rModI (tOp rDivI (tCallS (sp_law_mix K A) (WE W0) (tCons (tVar 0) (tCons (tOp rAddI (tOp rAddI (tVar 1) (tC (.int 2))) (tVar 8)) tNil))) (tC (.int 8))) (tC (.int 8))) (tVar 7))) (tOp (rIx K) (tVar 3) (tVar 8)) [8]))))))))
theorem pu_law_set (h : sp_law_set K A vs H Q E) : t_law_set K A (WXE E) (DQ Q) (start ["_law_script", "_law_k", "_law_many", "_law_some", "_law_way", "_law_number", "_law_order", "_law_share", "_law_j"] vs) H := by
  obtain ⟨_, v, ss, k, n, rfl, hv, h1, h5, q⟩ := h
  have fine : ∀ S w H', S.Sublist (allP n.toNat (upTo n.toNat)) → Ex H H' → Hd K H' w (tl S) → Q w H' := fun S w H' hs e hw => q S w H' ((SO.all (by omega)).sublist hs) (Nat.le_trans hs.length_le (all_len h1 h5)) hs e hw
  refine qn_asg (K := K) (en_all (A := A) (ev_var rfl) h1 h5) fun p ws H1 hp e1 k1 d1 => ?_
  have hall : Hd K H1 (.ref p) (tl (allP n.toNat (upTo n.toNat))) := of_list (sq_of k1) d1
  have l120 := all_len h1 h5
  have ltl : (tl (allP n.toNat (upTo n.toNat))).length = (allP n.toNat (upTo n.toNat)).length := List.length_map _
  refine q_asg (v := .int (mixF ss k % 6)) (ei_mod (ed_mix (K := K) (A := A) (ed_var rfl (hd_ex e1 hv)) (ev_var rfl)) ev_c (by decide)) fun H2 e2 => ?_
  refine q_asg (v := .int (mixF ss (k + 1))) (ed_mix (K := K) (A := A) (ed_var rfl (hd_ex (e1.trans e2) hv)) (ei_add (ev_var rfl) ev_c)) fun H3 e3 => ?_
  have w0 : 0 ≤ mixF ss k % 6 := Int.emod_nonneg _ (by decide)
  have w6 : mixF ss k % 6 < 6 := Int.emod_lt_of_pos _ (by decide)
  generalize mixF ss k % 6 = way at w0 w6
  have nu0 := mixF_nn ss (k + 1)
  generalize mixF ss (k + 1) = nu at nu0
  have e13 := e2.trans e3
  have e03 := e1.trans e13
  have hall3 := hd_ex e13 hall
  have opl : ∀ o ∈ allP n.toNat (upTo n.toNat), (o.length : Int) = n := fun o ho => by
    have := ((mem_allP (upTo_len n.toNat) (upTo_nodup n.toNat)).mp ho).length_eq
    rw [upTo_len] at this
    omega
  refine q_when (et_test (ev_eqD (K := K) (ed_int (ev_var rfl)) (ed_int ev_c))) (fun hb H4 e4 => ?_) (fun hb H4 e4 => ?_)
  · have m0 : 0 ≤ nu % n := Int.emod_nonneg _ (by omega)
    have m1 : nu % n < n := Int.emod_lt_of_pos _ (by omega)
    refine sd_ret (K := K) (x := tl ((allP n.toNat (upTo n.toNat)).filter fun o => decide (o.getD (nu % n).toNat 0 = nu / 8 % n))) (EvN.d (EvN.is (en_lcL (fun o : Tup Int => decide (o.items.getD (nu % n).toNat 0 = nu / 8 % n)) (fun o => o) (ed_var rfl (hd_ex e4 hall3)) (by rw [ltl]; omega) fun w o H5 G ho2 e5 hw' qq => ?_) (by
      rw [List.map_id']
      unfold tl
      rw [List.filter_map]
      rfl))) fun w H5 e5 hw => fine _ w H5 List.filter_sublist ((e03.trans e4).trans e5) hw
    obtain ⟨o', ho3, rfl⟩ := List.mem_map.mp ho2
    have hlt := opl o' ho3
    refine qq _ H5 (Ex.refl _) rfl (et_test (ev_eqD (K := K) (ed_ixT (K := K) (xs := o') (i := nu % n) (ed_var rfl hw') (ei_mod (ev_var rfl) (ev_var rfl) (by omega)) ?_) (ed_int (ei_mod (ei_div (ev_var rfl) ev_c ⟨by decide, by decide⟩) (ev_var rfl) (by omega))))) fun _ => ed_var rfl hw'
    rw [show nu % n = (((nu % n).toNat : Nat) : Int) by omega]
    exact atI_nat (getD_get (by omega))
  have e34 := e03.trans e4
  have hall4 := hd_ex e4 hall3
  refine q_when (et_test (ev_eqD (K := K) (ed_int (ev_var rfl)) (ed_int ev_c))) (fun hb H5 e5 => ?_) (fun hb H5 e5 => ?_)
  · have m0 : 0 ≤ nu % 4 := Int.emod_nonneg _ (by decide)
    have m1 : nu % 4 < 4 := Int.emod_lt_of_pos _ (by decide)
    have hall5 := hd_ex e5 hall4
    obtain ⟨j, hj⟩ : ∃ j : Nat, nu % 4 = j := ⟨_, (Int.toNat_of_nonneg m0).symm⟩
    have hj4 : j < 4 := by omega
    obtain ⟨S, hS, hsub⟩ : ∃ S, [([] : List (Tup Int)), tl (allP n.toNat (upTo n.toNat)), cutA (tl (allP n.toNat (upTo n.toNat))) none (some 1), cutA (tl (allP n.toNat (upTo n.toNat))) (some (-1)) none][j]? = some (tl S) ∧ S.Sublist (allP n.toNat (upTo n.toNat)) := by
      have cut : ∀ lo hi, cutA (tl (allP n.toNat (upTo n.toNat))) lo hi = tl (cutA (allP n.toNat (upTo n.toNat)) lo hi) := fun lo hi => by
        unfold cutA tl
        rw [List.length_map, List.map_take, List.map_drop]
      match j, hj4 with
      | 0, _ => exact ⟨[], rfl, List.nil_sublist _⟩
      | 1, _ => exact ⟨_, rfl, List.Sublist.refl _⟩
      | 2, _ => exact ⟨_, congrArg some (cut _ _), cutA_sub _ _ _⟩
      | 3, _ => exact ⟨_, congrArg some (cut _ _), cutA_sub _ _ _⟩
    refine sd_ret (K := K) (x := tl S) (ed_ixL (K := K) (xs := [([] : List (Tup Int)), tl (allP n.toNat (upTo n.toNat)), cutA (tl (allP n.toNat (upTo n.toNat))) none (some 1), cutA (tl (allP n.toNat (upTo n.toNat))) (some (-1)) none]) (i := nu % 4) (EvN.d (en_lstA (eas_cons (EvN.d (en_lstA eas_nil (by decide))) (eas_cons (ed_var rfl hall5) (eas_cons (EvN.d (en_slL (ed_var rfl hall5) eo_none (eo_some ev_c))) (eas_cons (EvN.d (en_slL (ed_var rfl hall5) (eo_some (ei_neg ev_c)) eo_none)) eas_nil)))) (by show 4 ≤ 100000; decide))) (ei_mod (ev_var rfl) ev_c (by decide)) (by rw [hj]; exact atI_nat hS)) fun w H6 e6 hw => fine S w H6 hsub ((e34.trans e5).trans e6) hw
  have hall5 := hd_ex e5 hall4
  have e35 := e34.trans e5
  obtain ⟨j, hj⟩ : ∃ j : Nat, way = j := ⟨_, (Int.toNat_of_nonneg w0).symm⟩
  refine q_asg (v := .int (([0, 0, 1, 3, 6, 4] : List Int).getD j 0)) (EvD.int (ed_ixL (K := K) (xs := [0, 0, 1, 3, 6, 4]) (i := way) (EvN.d (en_lstA (eas_cons (ed_int ev_c) (eas_cons (ed_int ev_c) (eas_cons (ed_int ev_c) (eas_cons (ed_int ev_c) (eas_cons (ed_int ev_c) (eas_cons (ed_int ev_c) eas_nil)))))) (by show 6 ≤ 100000; decide))) (ev_var rfl) (by rw [hj]; exact atI_nat (getD_get (by show j < 6; omega))))) fun H6 e6 => ?_
  generalize ([0, 0, 1, 3, 6, 4] : List Int).getD j 0 = share
  have hall6 := hd_ex e6 hall5
  have hv6 := hd_ex (e35.trans e6) hv
  refine sd_ret (K := K) (x := tl (((upTo (allP n.toNat (upTo n.toNat)).length).filter fun j => decide (mixF ss (k + 2 + j) / 8 % 8 < share)).map fun j => (allP n.toNat (upTo n.toNat)).getD j.toNat [])) (EvN.d (EvN.is (en_lcR (fun j => decide (mixF ss (k + 2 + j) / 8 % 8 < share)) (fun j => Tup.mk ((allP n.toNat (upTo n.toNat)).getD j.toNat [])) (ea_cons (ev_lenL (K := K) (ed_var rfl hall6)) ea_nil) (by rw [ltl]; omega) fun i H7 G i0 i1 e7 qq => ?_) (by
    rw [ltl]
    unfold tl
    rw [List.map_map]
    rfl))) fun w H7 e7 hw => fine _ w H7 ?_ ((e35.trans e6).trans e7) hw
  · rw [ltl] at i1
    refine qq _ H7 (Ex.refl _) rfl (et_test (ei_lt (ei_mod (ei_div (ed_mix (K := K) (A := A) (ed_var rfl (hd_ex e7 hv6)) (ei_add (ei_add (ev_var rfl) ev_c) (ev_var rfl))) ev_c ⟨by decide, by decide⟩) ev_c (by decide)) (ev_var rfl))) fun _ => ed_ixL (K := K) (xs := tl (allP n.toNat (upTo n.toNat))) (i := i) (ed_var rfl (hd_ex e7 hall6)) (ev_var rfl) ?_
    rw [show i = ((i.toNat : Nat) : Int) by omega]
    refine atI_nat ?_
    rw [List.getElem?_map, List.getD_eq_getElem?_getD, Int.toNat_natCast, List.getElem?_eq_getElem (by omega)]
    rfl
  · have s1 : (((upTo (allP n.toNat (upTo n.toNat)).length).filter fun j => decide (mixF ss (k + 2 + j) / 8 % 8 < share)).map fun j => (allP n.toNat (upTo n.toNat)).getD j.toNat []).Sublist ((upTo (allP n.toNat (upTo n.toNat)).length).map fun j => (allP n.toNat (upTo n.toNat)).getD j.toNat []) := List.filter_sublist.map _
    have s2 : ((upTo (allP n.toNat (upTo n.toNat)).length).map fun j => (allP n.toNat (upTo n.toNat)).getD j.toNat []) = allP n.toNat (upTo n.toNat) := by
      refine List.ext_getElem? fun i => ?_
      rw [List.getElem?_map]
      by_cases hi : i < (allP n.toNat (upTo n.toNat)).length
      · rw [upTo_get hi, List.getElem?_eq_getElem hi]
        show some (List.getD _ (i : Int).toNat []) = _
        rw [List.getD_eq_getElem?_getD, Int.toNat_natCast, List.getElem?_eq_getElem hi]
        rfl
      · rw [List.getElem?_eq_none (by rw [upTo_len]; omega), List.getElem?_eq_none (by omega)]
        rfl
    rw [s2] at s1
    exact s1
end
end OA

/-! OS: look_book -/
namespace OA
open PySem PySem.Spec PyProof.Rows L2 Evl
open PySem.W (Datum Tup T3 DatumOrd)
section gen
variable {α β γ : Type} [DecidableEq α] [Datum α] [DecidableEq β] [Datum β] [DecidableEq γ] [Datum γ] {K : PySem.W.Frag} {σ : L2.St} {H H' : Hp} {te : TE} {D : Ends} {tz : TS}
/-- a, b, c = t -/
theorem q_unpack3 {x : α} {y : β} {z : γ} {i j k : Nat} (h : EvD K te σ H (T3.mk x y z)) (q : ∀ t u v w H1, Ex H H1 → PlT K H1 t [u, v, w] → Hd K H1 u x → Hd K H1 v y → Hd K H1 w z → tz D (((σ.set i (some u)).set j (some v)).set k (some w)) H1) :
    tSeq (tAsg te (gTup K 3 (gCons (gName i) (gCons (gName j) (gCons (gName k) gNil))))) tz D σ H :=
  h H (Ex.refl H) _ fun v H1 e hv => by
    obtain ⟨a, v1, v2, v3, rfl, hp, h1, h2, h3⟩ := hd_t3 hv
    exact ⟨a, _, rfl, hp.t, rfl, _, _, rfl, _, _, rfl, _, _, rfl, rfl, q a v1 v2 v3 H1 e hp h1 h2 h3⟩
/-- sorted(set(ns)) -/
theorem en_sset {ns ms : List Int} (h : EvD K te σ H ns) (h64 : ns.length < 64) (hms : ms.Pairwise (· < ·)) (hm : ∀ k, k ∈ ms ↔ k ∈ ns) : EvN K (tSortSetI K te) σ H ms := fun H1 e Q q =>
  h H1 e _ fun v H2 e2 hv => ⟨ns, hv, h64, fun ms' p vs H3 h1 h2 hp e3 h3 d3 => by
    have : ms' = ms := rise_eq h1 hms fun x => (h2 x).trans (hm x).symm
    subst this
    exact q p vs H3 (fresh_back e2 hp) (e2.trans e3) h3 d3⟩
end gen
def dd : List Int → List Int
  | [] => []
  | x :: xs => if x ∈ xs then dd xs else x :: dd xs
theorem mem_dd : ∀ {xs : List Int} {k : Int}, k ∈ dd xs ↔ k ∈ xs
  | [], k => Iff.rfl
  | x :: xs, k => by
    unfold dd
    by_cases h : x ∈ xs
    · rw [if_pos h, mem_dd, List.mem_cons]
      exact ⟨.inr, fun z => z.elim (fun y => by rw [y]; exact h) id⟩
    · rw [if_neg h, List.mem_cons, List.mem_cons, mem_dd]
theorem dd_nd : ∀ xs : List Int, (dd xs).Nodup
  | [] => .nil
  | x :: xs => by
    unfold dd
    by_cases h : x ∈ xs
    · rw [if_pos h]
      exact dd_nd xs
    · rw [if_neg h]
      exact List.nodup_cons.mpr ⟨fun z => h (mem_dd.mp z), dd_nd xs⟩
theorem sset_ex (ns : List Int) : ∃ ms : List Int, ms.Pairwise (· < ·) ∧ ∀ k, k ∈ ms ↔ k ∈ ns := by
  refine ⟨sortI (dd ns), ?_, fun k => by rw [(sortI_perm _).mem_iff, mem_dd]⟩
  have nd : (sortI (dd ns)).Nodup := (sortI_perm _).nodup_iff.mpr (dd_nd ns)
  exact ((sortI_up _).and nd).imp fun h => by have := h.1; have := h.2; omega
section
variable {K : PySem.W.Frag} {A : Ads} {vs : List V} {H : Hp} {Q : VK} {E : XK}
/-! taken in -/
def sp_taken_in (K : PySem.W.Frag) (A : Ads) : Sp := Spn 2 fun vs H Q E => ∃ (a l d : Addr) (v : V) (many : Int) (F rs0 : List Rm) (m : Int) (H0 : Hp), vs = [.ref a, v] ∧ Rms K A H a l d rs0 ∧ Fwd rs0 ∧ rs0.length ≤ 3000 ∧ Ex H0 H ∧ H0 l = none ∧ H0 d = none ∧ Hd K H0 v (T3.mk many (tlD F) m) ∧ RoomsOk F ∧ F.length ≤ 1000 ∧ (∀ r ∈ F, r.length < 60) ∧
  0 ≤ m ∧ m < (F.length : Int) + 2 ∧ ∀ H', Go (fun x => x = l ∨ x = d) H H' → Rms K A H' a l d (F.foldl tkStep (rs0, [0, 1])).1 → Q (.int ((F.foldl tkStep (rs0, [0, 1])).2.getD m.toNat 0)) H'
def t_taken_in (K : PySem.W.Frag) (A : Ads) (W : WX) : TS :=
  (tSeq (tAsg (tVar 1) (gTup K 3 (gCons (gName 2) (gCons (gName 3) (gCons (gName 4) gNil)))))
    (tSeq (tAsg (tLst (tCons (tC (.int 0)) (tCons (tC (.int 1)) tNil))) (gName 5))
    (tSeq (tFor (iList K (tVar 3)) (gName 6) (tDrop (tBM K "list" rAppend (tVar 5) (tCons (tMeth A.Rooms "room" (sp_Rooms_room K A) [] E0 (tVar 0) (tCons (tThen (tLc (iTup K (tVar 6)) (gTup K 2 (gCons (gName 7) (gCons (gName 8) gNil))) tYes (tTupP (tCons (tVar 7) (tCons (tOp (rIx K) (tVar 5) (tVar 8)) tNil))) [7, 8]) (kTupP K)) tNil)) tNil))))
    (tRet (tOp (rIx K) (tVar 5) (tVar 4))))))
theorem pu_taken_in (h : sp_taken_in K A vs H Q E) : t_taken_in K A (WXE E) (DQ Q) (start ["rooms", "book", "many", "some", "first", "numbers", "doors", "thing", "other"] vs) H := by
  obtain ⟨_, a, l, d, v, many, F, rs0, m, H0, rfl, hR, fw0, l30, e0, hl0, hd0, hv, hok, hF, hr60, m0, m1, q⟩ := h
  obtain ⟨t, u1, u2, u3, rfl, hp0, b1, b2, b3⟩ := hd_t3 hv
  rw [hd_int b1, hd_int b3] at hp0
  have hp1 := ex_p e0 hp0
  -- a, b, c = book
  refine ⟨.ref t, rfl, t, _, rfl, hp1.t, rfl, _, _, rfl, _, _, rfl, _, _, rfl, rfl, ?_⟩
  refine qn_asg (K := K) (xs := ([0, 1] : List Int)) (en_lstA (eas_cons (ed_int ev_c) (eas_cons (ed_int ev_c) eas_nil)) (by show 2 ≤ 100000; decide)) fun pn vn H1 hpn e1 h1 d1 => ?_
  have npl : pn ≠ l ∧ pn ≠ d ∧ pn ≠ a := by
    obtain ⟨dx, ob⟩ := hR.ob
    obtain ⟨as, g1, _, g3⟩ := hR.as
    exact ⟨fun z => (by rw [z, g1] at hpn; cases hpn), fun z => (by rw [z, g3] at hpn; cases hpn), fun z => (by rw [z, ob] at hpn; cases hpn)⟩
  have hpn0 : H0 pn = none := fresh_back e0 hpn
  have e01 := e0.trans e1
  refine q_forLV (K := K) (xs := tlD F) (v := u2) (H0 := H0) (ev_var rfl) e01 b2 (fun H2 i σ' H' => ∃ x y z vn, σ' = [some (.ref a), some (.ref t), some (.int many), some u2, some (.int m), some (.ref pn), x, y, z] ∧ y = none ∧ z = none ∧ Go (fun x => x = l ∨ x = d ∨ x = pn) H2 H' ∧ Rms K A H' a l d ((F.take i).foldl tkStep (rs0, [0, 1])).1 ∧ H' pn = some (.lst vn) ∧ Hds K H' vn ((F.take i).foldl tkStep (rs0, [0, 1])).2)
    (fun H2 e2 => ⟨none, none, none, vn, rfl, rfl, rfl, Go.refl H2, hR.ex (e1.trans e2), e2 _ _ h1, hds_ex e2 d1⟩) (fun H1 i σ' H' ⟨_, _, _, _, _, _, _, g, _⟩ => g.tx) ?_ ?_ ?_
  · rintro H2 i σ' H' e2 ⟨_, _, _, _, _, _, _, g, _⟩ b ws _ hs
    refine ex_l (Go.under (e01.trans e2) (fun x hx => ?_) g) hs
    rcases hx with rfl | rfl | rfl
    · exact hl0
    · exact hd0
    · exact hpn0
  · rintro H2 i w x σ' H' e2 hx hw ⟨x0, y0, z0, vn1, rfl, rfl, rfl, g, R', k1, k2⟩
    obtain ⟨r, hr, rfl⟩ : ∃ r, F[i]? = some r ∧ Tup.mk r = x := by
      rw [List.getElem?_map] at hx
      cases z : F[i]? with
      | none => rw [z] at hx; cases hx
      | some r => rw [z] at hx; exact ⟨r, rfl, Option.some.inj hx⟩
    have hi : i < F.length := (List.getElem?_eq_some_iff.mp hr).1
    have tk : F.take (i + 1) = F.take i ++ [r] := by
      rw [List.take_add_one, hr]
      rfl
    have ln : ((F.take i).foldl tkStep (rs0, [0, 1])).2.length = i + 2 := by
      rw [tk_len, List.length_take]
      show 2 + _ = _
      omega
    have TT := Tk.all hok hR.nd fw0 i (by omega)
    have hr60' := hr60 r (List.mem_of_getElem? hr)
    have okr := hok i r hr
    obtain ⟨dx, ob⟩ := R'.ob
    refine ⟨.ref pn, rfl, .inl ⟨rfl, vn1, sq_of k1⟩, .ref a, rfl, a, dx, _, rfl, ob, rfl, ?_⟩
    refine (ed_tupOfL (EvD.is (EvN.d (en_lcT (fun _ => true) (fun p : Int × Int => (p.1, ((F.take i).foldl tkStep (rs0, [0, 1])).2.getD p.2.toNat 0)) (ed_var rfl hw) (by omega) fun y x H3 G hx3 e3 hy qq => ?_)) (by rw [filt_true])) : EvD K _ _ H' (Tup.mk (r.map fun p => (p.1, ((F.take i).foldl tkStep (rs0, [0, 1])).2.getD p.2.toNat 0)))) H' (Ex.refl H') _ fun vd H3 e3 hvd => ?_
    · refine g_pair (x := x.1) (y := x.2) hy (qq _ H3 (Ex.refl _) rfl (fun H1 _ _ q => q H1 (Ex.refl H1)) fun _ => ?_)
      have o := okr.2.2.2 x hx3
      refine ed_pairA (ed_int (ev_var rfl)) (ed_ixL (K := K) (xs := ((F.take i).foldl tkStep (rs0, [0, 1])).2) (i := x.2) (ed_var rfl (hd_ex e3 (of_list (sq_of k1) k2))) (ev_var rfl) ?_)
      rw [show x.2 = ((x.2.toNat : Nat) : Int) by omega]
      exact atI_nat (getD_get (by omega))
    have rl := TT.len
    refine ⟨rfl, a, l, d, _, vd, _, rfl, R'.ex e3, hvd, by omega, by rw [List.length_map]; omega, fun H4 g4 R4 => ?_⟩
    have k1b : H4 pn = some (.lst vn1) := g4.keep _ _ (fun z => z.elim npl.1 npl.2.1) (e3 _ _ k1)
    have lv := hds_len k2
    refine ⟨pn, vn1, _, rfl, rfl, k1b, sz_lt (by omega), ?_⟩
    have gf : Go (fun x => x = pn) H4 (upd H4 pn (.lst (vn1 ++ [.int (roomF ((F.take i).foldl tkStep (rs0, [0, 1])).1 (r.map fun p => (p.1, ((F.take i).foldl tkStep (rs0, [0, 1])).2.getD p.2.toNat 0))).2]))) := Go.mut (by rw [k1b]; trivial) rfl
    have gall := (Go.ex e3).trans ((g4.mono (S' := fun x => x = l ∨ x = d ∨ x = pn) fun x z => z.elim .inl fun y => .inr (.inl y)).trans (gf.mono fun x z => .inr (.inr z)))
    refine ⟨some w, none, none, vn1 ++ [.int (roomF ((F.take i).foldl tkStep (rs0, [0, 1])).1 (r.map fun p => (p.1, ((F.take i).foldl tkStep (rs0, [0, 1])).2.getD p.2.toNat 0))).2], rfl, rfl, rfl, g.trans gall, ?_, upd_same, ?_⟩
    · rw [tk, List.foldl_append]
      exact R4.go gf (fun z => npl.2.2 z.symm) (fun z => npl.1 z.symm) fun z => npl.2.1 z.symm
    · rw [tk, List.foldl_append]
      exact hds_app (hds_tx gall.tx k2) (hds_one (of_int _))
  · rintro H2 σ' H' e2 ⟨x0, y0, z0, vn1, rfl, rfl, rfl, g, R', k1, k2⟩
    have lF : (tlD F).length = F.length := List.length_map _
    rw [lF, List.take_length] at R' k2
    have ln : (F.foldl tkStep (rs0, [0, 1])).2.length = F.length + 2 := by
      rw [tk_len]
      show 2 + _ = _
      omega
    refine s_rets (EvD.int (ed_ixL (K := K) (xs := (F.foldl tkStep (rs0, [0, 1])).2) (i := m) (x := (F.foldl tkStep (rs0, [0, 1])).2.getD m.toNat 0) (ed_var rfl (of_list (sq_of k1) k2)) (ev_var rfl) ?_)) fun H3 e3 => q H3 ?_ (R'.ex e3)
    · rw [show m = ((m.toNat : Nat) : Int) by omega]
      exact atI_nat (getD_get (by omega))
    · refine Go.trans ?_ (.ex e3)
      exact Go.under2 (.ex (e1.trans e2)) (fun x hx => by
        rcases hx with z | z | z
        · exact .inl (.inl z)
        · exact .inl (.inr z)
        · exact .inr (by rw [z]; exact hpn)) g
/-! rooms looked at -/
def sp_look_rooms (K : PySem.W.Frag) (A : Ads) : Sp := Spn 1 fun vs H Q E => ∃ (v : V) (F : List Rm), vs = [v] ∧ Hd K H v (tlD F) ∧ F.length ≤ 1000 ∧ (∀ r ∈ F, r.length < 60) ∧ (RoomsOk F → ∀ H', Ex H H' → Q .non H') ∧ (¬ RoomsOk F → ∀ H', Ex H H' → E (.ref A.BadBook) none H')
def t_look_rooms (K : PySem.W.Frag) (A : Ads) (W : WX) : TS :=
  (tFor (iRng1 (tCons (tCB (rLenS K) (tCons (tVar 0) tNil)) tNil)) (gName 1) (tSeq (tAsg (tLc (iTup K (tOp (rIx K) (tVar 0) (tVar 1))) (gName 3) tYes (tOp (rIx K) (tVar 3) (tC (.int 0))) [3]) (gName 2))
    (tSeq (tIfS (tOr (tTest (tOp (rEqP K) (tVar 2) (tLst tNil))) (tOr (tTest (tOp (rNeP K) (tVar 2) (tSortSetI K (tVar 2)))) (tNot (tB (tCB (rAll K) (tCons (tLc (iList K (tVar 2)) (gName 4) tYes (tChain rLeI rLtI (tC (.int 0)) (tVar 4) (tC (.int 8))) [4]) tNil)))))) (tRs W A.BadBook) tNext)
    (tIfS (tNot (tB (tCB (rAll K) (tCons (tLc (iTup K (tOp (rIx K) (tVar 0) (tVar 1))) (gName 3) tYes (tAndV (tOp (rEqP K) (tCB (rLenS K) (tCons (tVar 3) tNil)) (tC (.int 2))) (tChain rLeI rLtI (tC (.int 1)) (tOp (rIx K) (tVar 3) (tC (.int 1))) (tOp rAddI (tVar 1) (tC (.int 2))))) [3]) tNil)))) (tRs W A.BadBook) tNext))))
theorem pu_look_rooms (h : sp_look_rooms K A vs H Q E) : t_look_rooms K A (WXE E) (DQ Q) (start ["some", "k", "things", "door", "thing"] vs) H := by
  obtain ⟨_, v, F, rfl, hv, hF, h60, ok, bad⟩ := h
  have lF : (tlD F).length = F.length := List.length_map _
  refine s_forR1 (n := F.length) (ea_cons (ev_is (ev_lenL (K := K) (ed_var rfl hv)) (by rw [lF])) ea_nil) (by omega) (fun i σ' H' => ∃ x y, σ' = [some v, x, y, none, none] ∧ Ex H H' ∧ ∀ k r, k < i → F[k]? = some r → RoomOk k r) (fun H1 e1 => ⟨none, none, rfl, e1, fun k r hk => absurd hk (Nat.not_lt_zero _)⟩) ?_ ?_
  · rintro i σ' H1 hi ⟨x0, y0, rfl, e1, all⟩
    have hi' : i < F.length := by omega
    obtain ⟨r, hr⟩ : ∃ r, F[i]? = some r := ⟨F[i], List.getElem?_eq_getElem hi'⟩
    have r60 := h60 r (List.mem_of_getElem? hr)
    have room : ∀ {σ : L2.St} {H2 : Hp}, σ[0]? = some (some v) → σ[1]? = some (some (.int (i : Int))) → Ex H1 H2 → EvD K (tOp (rIx K) (tVar 0) (tVar 1)) σ H2 (Tup.mk r) := fun {σ H2} h0 h1 e2 => ed_ixL (K := K) (xs := tlD F) (i := (i : Int)) (ed_var h0 (hd_ex (e1.trans e2) hv)) (ev_var h1) (atI_nat (by rw [List.getElem?_map, hr]; rfl))
    refine qn_asg (K := K) (xs := r.map (·.1)) (EvN.is (en_lcT (fun _ => true) (fun p : Int × Int => p.1) (room rfl rfl (Ex.refl _)) (by omega) fun y x H2 G hx e2 hy qq => ?_) (by rw [filt_true])) fun p ws H2 hp e2 h2 d2 => ?_
    · exact qq _ H2 (Ex.refl _) rfl (fun H1 _ _ q => q H1 (Ex.refl H1)) fun _ => ed_fst (x := x.1) (y := x.2) (ed_var rfl hy) ev_c
    have ht : ∀ {H3 : Hp}, Ex H2 H3 → Hd K H3 (.ref p) (r.map (·.1)) := fun e => hd_ex e (of_list (sq_of h2) d2)
    have lr : (r.map (·.1)).length < 64 := by rw [List.length_map]; omega
    obtain ⟨ms, hms, hmem⟩ := sset_ex (r.map (·.1))
    have b1 : (decide (r.map (·.1) = ([] : List Int)) || (!decide (r.map (·.1) = ms) || !(((r.map (·.1)).map fun t => decide (0 ≤ t) && decide (t < 8)).all id))) = !decide (r ≠ [] ∧ (r.map (·.1)).Pairwise (· < ·) ∧ ∀ p ∈ r, 0 ≤ p.1 ∧ p.1 < 8) := by
      have e1 : (r.map (·.1) = ms) ↔ (r.map (·.1)).Pairwise (· < ·) := ⟨fun z => by rw [z]; exact hms, fun z => rise_eq z hms fun x => (hmem x).symm⟩
      have e2 : (((r.map (·.1)).map fun t => decide (0 ≤ t) && decide (t < 8)).all id) = decide (∀ p ∈ r, 0 ≤ p.1 ∧ p.1 < 8) := by
        rw [Bool.eq_iff_iff, List.all_eq_true, decide_eq_true_iff, List.map_map]
        constructor
        · intro z p hp
          have := z _ (List.mem_map.mpr ⟨p, hp, rfl⟩)
          simpa using this
        · intro z x hx
          obtain ⟨p, hp, rfl⟩ := List.mem_map.mp hx
          simpa using z p hp
      rw [e2, Bool.eq_iff_iff]
      simp only [Bool.or_eq_true, decide_eq_true_iff, Bool.not_eq_true', decide_eq_false_iff_not, e1, List.map_eq_nil_iff]
      constructor
      · rintro (z | z | z) ⟨z1, z2, z3⟩
        · exact z1 z
        · exact z z2
        · exact z z3
      · intro z
        by_cases z1 : r = []
        · exact .inl z1
        · by_cases z2 : (r.map (·.1)).Pairwise (· < ·)
          · exact .inr (.inr fun z3 => z ⟨z1, z2, z3⟩)
          · exact .inr (.inl z2)
    have badk : ¬ RoomOk i r → ∀ H', Ex H H' → E (.ref A.BadBook) none H' := fun z => bad fun y => z (y i r hr)
    refine q_when (et_is (et_or (et_test (ev_eqD (K := K) (ed_var rfl (ht (Ex.refl _))) (EvN.d (en_lstA (xs := ([] : List Int)) eas_nil (by decide))))) fun _ => et_or (et_test (ev_neD (K := K) (ed_var rfl (ht (Ex.refl _))) (EvN.d (en_sset (K := K) (ed_var rfl (ht (Ex.refl _))) lr hms hmem)))) fun _ => et_not (et_B (ev_all (K := K) (EvN.d (EvN.is (en_lcL (fun _ => true) (fun t : Int => decide (0 ≤ t) && decide (t < 8)) (ed_var rfl (ht (Ex.refl _))) (by omega) fun y x H3 G hx e3 hy qq => ?_) (by rw [filt_true])))))) b1) (fun hb H3 e3 => ?_) (fun hb H3 e3 => ?_)
    · rw [hd_int hy]
      exact qq _ H3 (Ex.refl _) rfl (fun H1 _ _ q => q H1 (Ex.refl H1)) fun _ => ed_bool (ec_lelt ev_c (ev_var rfl) ev_c)
    · refine badk (fun z => ?_) H3 ((e1.trans e2).trans e3)
      have : ¬ (r ≠ [] ∧ (r.map (·.1)).Pairwise (· < ·) ∧ ∀ p ∈ r, 0 ≤ p.1 ∧ p.1 < 8) := by
        intro y
        rw [decide_eq_true y] at hb
        cases hb
      exact this ⟨z.1, z.2.1, z.2.2.1⟩
    have g1 : r ≠ [] ∧ (r.map (·.1)).Pairwise (· < ·) ∧ ∀ p ∈ r, 0 ≤ p.1 ∧ p.1 < 8 := by
      have := hb
      rw [Bool.not_eq_false'] at this
      exact of_decide_eq_true this
    have b2 : (!((r.map fun p : Int × Int => (decide ((2 : Int) = 2) && (decide (1 ≤ p.2) && decide (p.2 < (i : Int) + 2)))).all id)) = !decide (∀ p ∈ r, 1 ≤ p.2 ∧ p.2 < (i : Int) + 2) := by
      congr 1
      rw [Bool.eq_iff_iff, List.all_eq_true, decide_eq_true_iff]
      constructor
      · intro z p hp
        have := z _ (List.mem_map.mpr ⟨p, hp, rfl⟩)
        simpa using this
      · intro z x hx
        obtain ⟨p, hp, rfl⟩ := List.mem_map.mp hx
        simpa using z p hp
    refine s_if (et_is (et_not (et_B (ev_all (K := K) (EvN.d (EvN.is (en_lcT (fun _ => true) (fun p : Int × Int => (decide ((2 : Int) = 2) && (decide (1 ≤ p.2) && decide (p.2 < (i : Int) + 2)))) (room rfl rfl (e2.trans e3)) (by omega) fun y x H4 G hx e4 hy qq => ?_) (by rw [filt_true])))))) b2) (fun hb2 H4 e4 => ?_) (fun hb2 H4 e4 => ?_)
    · refine qq _ H4 (Ex.refl _) rfl (fun H1 _ _ q => q H1 (Ex.refl H1)) fun _ => ed_bool (ev_andV (ev_eqD (K := K) (ed_int (ev_is (ev_lenT (K := K) (xs := [x.1, x.2]) (ed_var rfl (pair_tup hy))) rfl)) (ed_int ev_c)) fun _ => ec_lelt ev_c (EvD.int (ed_snd (x := x.1) (y := x.2) (ed_var rfl hy) ev_c)) (ei_add (ev_var rfl) ev_c))
    · refine badk (fun z => ?_) H4 (((e1.trans e2).trans e3).trans e4)
      have : ¬ ∀ p ∈ r, 1 ≤ p.2 ∧ p.2 < (i : Int) + 2 := by
        intro y
        rw [decide_eq_true y] at hb2
        cases hb2
      exact this z.2.2.2
    · have g2 : ∀ p ∈ r, 1 ≤ p.2 ∧ p.2 < (i : Int) + 2 := by
        rw [Bool.not_eq_false'] at hb2
        exact of_decide_eq_true hb2
      refine ⟨_, _, rfl, ((e1.trans e2).trans e3).trans e4, fun k r' hk hr' => ?_⟩
      by_cases z : k = i
      · rw [z, hr] at hr'
        cases hr'
        rw [z]
        exact ⟨g1.1, g1.2.1, g1.2.2, g2⟩
      · exact all k r' (by omega) hr'
  · rintro σ' H1 ⟨x0, y0, rfl, e1, all⟩
    exact ok (fun k r hr => all k r (by have := (List.getElem?_eq_some_iff.mp hr).1; omega) hr) H1 e1
end
end OA

/-! OT: depths, look_book, orders_in, has -/
namespace OA
open PySem PySem.Spec PyProof.Rows L2 Evl
open PySem.W (Datum Tup T3 DatumOrd)
/-- the things of the first i rooms -/
def PD (i : Nat) (F : List Rm) (Ts : List (List Int)) : Prop := Ts.length = i + 1 ∧ Ts[0]? = some [] ∧ ∀ k r, k < i → F[k]? = some r → ∀ p ∈ r, goodDoor (Ts.take (k + 1)) p (Ts.getD (k + 1) [])
theorem PD.uniq {F : List Rm} (hF : RoomsOk F) {Us : List (List Int)} (hU : DepOk F Us) : ∀ {i : Nat} {Ts : List (List Int)}, i ≤ F.length → PD i F Ts → Us.take (i + 1) = Ts
  | 0, Ts, _, h => by
    obtain ⟨h1, h2, _⟩ := h
    obtain ⟨u1, u2, _⟩ := hU
    match Ts, h1, h2 with
    | [t], _, h2 =>
      match Us, u1, u2 with
      | u :: us, _, u2 =>
        have e1 : t = [] := Option.some.inj h2
        have e2 : u = [] := Option.some.inj u2
        rw [e1, e2]
        rfl
  | i + 1, Ts, hi, h => by
    obtain ⟨h1, h2, h3⟩ := h
    have lt : i + 1 < Ts.length := by omega
    have lu : i + 1 < Us.length := by have := hU.1; omega
    have p : PD i F (Ts.take (i + 1)) := by
      refine ⟨by rw [List.length_take]; omega, by rw [List.getElem?_take_of_lt (by omega)]; exact h2, fun k r hk hr q hq => ?_⟩
      have := h3 k r (by omega) hr q hq
      rw [List.take_take, Nat.min_eq_left (by omega)]
      rw [List.getD_eq_getElem?_getD, List.getElem?_take_of_lt (by omega), ← List.getD_eq_getElem?_getD]
      exact this
    have ih := PD.uniq hF hU (by omega) p
    obtain ⟨r, hr⟩ : ∃ r, F[i]? = some r := ⟨F[i], List.getElem?_eq_getElem (by omega)⟩
    obtain ⟨q, qs, eq⟩ := List.exists_cons_of_ne_nil (hF i r hr).1
    have hq : q ∈ r := by rw [eq]; exact List.mem_cons_self
    have g1 := (h3 i r (by omega) hr q hq).2
    have g2 := (hU.2.2 i r hr q hq).2
    rw [ih, g1] at g2
    have e1 : Ts = Ts.take (i + 1) ++ [Ts.getD (i + 1) []] := by
      have d1 := List.drop_eq_getElem_cons lt
      have d2 : Ts.drop (i + 1 + 1) = [] := List.drop_of_length_le (by omega)
      rw [d2] at d1
      have e0 := (List.take_append_drop (i + 1) Ts).symm
      rw [d1] at e0
      rw [List.getD_eq_getElem?_getD, List.getElem?_eq_getElem lt]
      exact e0
    rw [e1, List.take_add_one, ih, List.getElem?_eq_getElem lu]
    congr 1
    rw [g2, List.getD_eq_getElem?_getD, List.getElem?_eq_getElem lu]
    rfl
theorem PD.snoc {i : Nat} {F : List Rm} {Ts : List (List Int)} (h : PD i F Ts) {r : Rm} (hr : F[i]? = some r) {T : List Int} (hT : ∀ q ∈ r, goodDoor Ts q T) : PD (i + 1) F (Ts ++ [T]) := by
  obtain ⟨h1, h2, h3⟩ := h
  refine ⟨by rw [List.length_append, h1]; rfl, by rw [List.getElem?_append_left (by omega)]; exact h2, fun k r' hk hr' q hq => ?_⟩
  by_cases e : k = i
  · subst e
    rw [hr] at hr'
    cases hr'
    rw [List.take_append_of_le_length (by omega), List.take_of_length_le (by omega), List.getD_eq_getElem?_getD, List.getElem?_append_right (by omega), h1, Nat.sub_self]
    exact hT q hq
  · have := h3 k r' (by omega) hr' q hq
    rw [List.take_append_of_le_length (by omega), List.getD_eq_getElem?_getD, List.getElem?_append_left (by omega), ← List.getD_eq_getElem?_getD]
    exact this
theorem PD.all {F : List Rm} {Ts : List (List Int)} (h : PD F.length F Ts) : DepOk F Ts := ⟨h.1, h.2.1, fun k r hr => h.2.2 k r (List.getElem?_eq_some_iff.mp hr).1 hr⟩
theorem PD.cut {i : Nat} {F : List Rm} {Ts : List (List Int)} (hi : i ≤ F.length) (h : PD i F Ts) : DepOk (F.take i) Ts := ⟨by rw [List.length_take, h.1]; omega, h.2.1, fun k r hr => by
  have hk : k < i := by
    have := (List.getElem?_eq_some_iff.mp hr).1
    rw [List.length_take] at this
    omega
  rw [List.getElem?_take_of_lt hk] at hr
  exact h.2.2 k r hk hr⟩
theorem RoomsOk.cut {F : List Rm} (h : RoomsOk F) (i : Nat) : RoomsOk (F.take i) := fun k r hr => by
  have hk : k < i := by
    have := (List.getElem?_eq_some_iff.mp hr).1
    rw [List.length_take] at this
    omega
  rw [List.getElem?_take_of_lt hk] at hr
  exact h k r hr
theorem len8 {T : List Int} (h : T.Pairwise (· < ·)) (hb : ∀ x ∈ T, 0 ≤ x ∧ x < 8) : T.length ≤ 8 := nodup_len 8 T (h.imp fun z => Int.ne_of_lt z) hb
theorem PD.len {i : Nat} {F : List Rm} {Ts : List (List Int)} (h : PD i F Ts) (hok : RoomsOk F) (hi : i < F.length) {d : Int × Int} {M : List Int} (o : 1 ≤ d.2 ∧ d.2 < (i : Int) + 2) (hM : Ts.getD (d.2 - 1).toNat [] = M) : M.length ≤ 1000 := by
  have f := dep_fit (hok.cut i) (h.cut (Nat.le_of_lt hi)) d.2.toNat d.2.toNat (Nat.le_refl _) (by omega) (by rw [List.length_take]; omega)
  rw [show d.2.toNat - 1 = (d.2 - 1).toNat by omega, hM] at f
  have := len8 f.1 f.2.1
  omega
/-- x is False -/
theorem ev_isFl {te : TE} {σ : L2.St} {H : Hp} {x : V} (h : Ev te σ H x) (hx : x = .non ∨ (∃ a, x = .ref a) ∨ ∃ b, x = .bl b) : Ev (tOp rIsFl te (tC (.bl false))) σ H (.bl (decide (x = .bl false))) := ev_op h ev_c fun H1 _ Q q => ⟨rfl, hx, q H1 (Ex.refl H1)⟩
section
variable {K : PySem.W.Frag} {A : Ads} {vs : List V} {H : Hp} {Q : VK} {E : XK}
def sp_depths (K : PySem.W.Frag) (A : Ads) : Sp := Spn 1 fun vs H Q E => ∃ (v : V) (F : List Rm), vs = [v] ∧ Hd K H v (tlD F) ∧ F.length ≤ 1000 ∧ (∀ r ∈ F, r.length < 60) ∧ RoomsOk F ∧
  (∀ Ts, DepOk F Ts → ∀ p ws H', H p = none → Ex H H' → H' p = some (.lst (.non :: ws)) → Hds K H' ws (tl Ts) → Q (.ref p) H') ∧ ((¬ ∃ Ts, DepOk F Ts) → ∀ H', Ex H H' → Q .non H')
def t_depths (K : PySem.W.Frag) (A : Ads) (W : WX) : TS :=
  (tSeq (tAsg (tLst (tCons (tC .non) (tCons (tTupP tNil) tNil))) (gName 1))
    (tSeq (tFor (iList K (tVar 0)) (gName 2) (tSeq (tAsg (tC .non) (gName 3))
    (tSeq (tFor (iTup K (tVar 2)) (gTup K 2 (gCons (gName 4) (gCons (gName 5) gNil))) (tSeq (tAsg (tIf (tTest (tOp rGtI (tVar 5) (tC (.int 0)))) (tOp (rIx K) (tVar 1) (tVar 5)) (tC .non)) (gName 6))
    (tSeq (tAsg (tIf (tOr (tTest (tOp rIsNn (tVar 6) (tC .non))) (tTest (tOp (rInP K false) (tVar 4) (tVar 6)))) (tC .non) (tThen (tCB (rSortedQ K) (tCons (tOp (rCatP K) (tVar 6) (tTupP (tCons (tVar 4) tNil))) tNil)) (kTupP K))) (gName 7))
    (tSeq (tAsg (tIf (tOr (tTest (tOp rIsNn (tVar 3) (tC .non))) (tTest (tOp (rEqP K) (tVar 3) (tVar 7)))) (tVar 7) (tC (.bl false))) (gName 3))
    (tIfS (tOr (tTest (tOp rIsNn (tVar 7) (tC .non))) (tTest (tOp rIsFl (tVar 3) (tC (.bl false))))) (tRet (tC .non)) tNext)))))
    (tDrop (tBM K "list" rAppend (tVar 1) (tCons (tVar 3) tNil))))))
    (tRet (tVar 1))))
theorem pu_depths (h : sp_depths K A vs H Q E) : t_depths K A (WXE E) (DQ Q) (start ["some", "found", "doors", "things", "thing", "other", "mine", "whole"] vs) H := by
  obtain ⟨_, v, F, rfl, hv, hF, h60, hok, good, bad⟩ := h
  have lF : (tlD F).length = F.length := List.length_map _
  -- found
  refine qc_asg ?_
  refine ⟨sz_of (by show 0 ≤ 100000; omega), fun tp o htp hod => ⟨sz_of (by show 2 ≤ 100000; omega), fun p hp => ?_⟩⟩
  have ht0 : Hd K (upd H tp (.frz o (.tup []))) (.ref tp) (Tup.mk ([] : List Int)) := of_tup (pl_of upd_same hod) hds_nil
  have e1 := Ex.new (o := .frz o (.tup [])) htp
  have hpH : H p = none := fresh_back e1 hp
  have e2 := Ex.new (o := .lst [.non, .ref tp]) hp
  refine q_forLV (K := K) (xs := tlD F) (v := v) (H0 := H) (ev_var rfl) (e1.trans e2) hv (fun H2 i σ' H' => ∃ x2 x3 x4 x5 x6 x7 ws Ts, σ' = [some v, some (.ref p), x2, x3, x4, x5, x6, x7] ∧ Go (fun x => x = p) H2 H' ∧ H' p = some (.lst (.non :: ws)) ∧ Hds K H' ws (tl Ts) ∧ PD i F Ts)
    (fun H2 e3 => ⟨none, none, none, none, none, none, [.ref tp], [[]], rfl, Go.refl H2, e3 _ _ upd_same, hds_one (hd_ex (e2.trans e3) ht0), rfl, rfl, fun k r hk => absurd hk (Nat.not_lt_zero _)⟩) (fun H1 i σ' H' ⟨_, _, _, _, _, _, _, _, _, g, _⟩ => g.tx) ?_ ?_ ?_
  · rintro H2 i σ' H' e3 ⟨_, _, _, _, _, _, _, _, _, g, _⟩ a ws _ hs
    exact ex_l (Go.under ((e1.trans e2).trans e3) (fun x hx => by rw [hx]; exact hpH) g) hs
  · rintro H2 i w x σ' H' e3 hx hw ⟨x2, x3, x4, x5, x6, x7, ws, Ts, rfl, g, k1, k2, pd⟩
    obtain ⟨r, hr, rfl⟩ : ∃ r, F[i]? = some r ∧ Tup.mk r = x := by
      rw [List.getElem?_map] at hx
      cases z : F[i]? with
      | none => rw [z] at hx; cases hx
      | some r => rw [z] at hx; exact ⟨r, rfl, Option.some.inj hx⟩
    have hi : i < F.length := (List.getElem?_eq_some_iff.mp hr).1
    have okr := hok i r hr
    have exH : Ex H H' := Go.under ((e1.trans e2).trans e3) (fun x hx => by rw [hx]; exact hpH) g
    -- a door that is not good
    have no : ∀ q ∈ r, (q.1 ∈ Ts.getD (q.2 - 1).toNat [] ∨ ∃ q0 ∈ r, ∃ T, goodDoor Ts q0 T ∧ sortI (Ts.getD (q.2 - 1).toNat [] ++ [q.1]) ≠ T) → ¬ ∃ Us, DepOk F Us := by
      rintro q hq hbad ⟨Us, hU⟩
      have e := PD.uniq hok hU (Nat.le_of_lt hi) pd
      have g1 := hU.2.2 i r hr q hq
      rw [e] at g1
      rcases hbad with hb | ⟨q0, hq0, T, gT, hne⟩
      · exact g1.1 hb
      · have g0 := hU.2.2 i r hr q0 hq0
        rw [e] at g0
        exact hne (g1.2.trans (g0.2.symm.trans gT.2))
    refine q_asg ev_c fun H3 e4 => ?_
    refine q_forTD (K := K) (xs := r) (ed_var rfl (hd_ex e4 hw)) (fun H4 j σ' H'' => ∃ th y4 y5 y6 y7, σ' = [some v, some (.ref p), some w, some th, y4, y5, y6, y7] ∧ Ex H4 H'' ∧ ((j = 0 ∧ th = .non) ∨ ∃ T, Hd K H'' th (Tup.mk T) ∧ 0 < j ∧ ∀ q ∈ r.take j, goodDoor Ts q T))
      (fun H4 e5 => ⟨.non, x4, x5, x6, x7, rfl, Ex.refl H4, .inl ⟨rfl, rfl⟩⟩) (fun H1 i σ' H' ⟨_, _, _, _, _, _, e, _⟩ => .ex e) ?_ ?_
    · rintro H4 j u d σ' H5 e5 hd hu ⟨th, y4, y5, y6, y7, rfl, e6, st⟩
      have hdm : d ∈ r := List.mem_of_getElem? hd
      have o := okr.2.2.2 d hdm
      have lT := pd.1
      have k1' := e6 _ _ (e5 _ _ (e4 _ _ k1))
      have k2' := hds_ex ((e4.trans e5).trans e6) k2
      obtain ⟨M, hM⟩ : ∃ M, Ts.getD (d.2 - 1).toNat [] = M := ⟨_, rfl⟩
      have hMg : Ts[(d.2 - 1).toNat]? = some M := by
        rw [← hM, List.getD_eq_getElem?_getD, List.getElem?_eq_getElem (by omega)]
        rfl
      obtain ⟨mv, hmv, hmd⟩ := hds_get (α := Tup Int) k2' (i := (d.2 - 1).toNat) (x := Tup.mk M) (by rw [List.getElem?_map, hMg]; rfl)
      refine g_pair (x := d.1) (y := d.2) hu ?_
      have mine : EvD K (tOp (rIx K) (tVar 1) (tVar 5)) [some v, some (.ref p), some w, some th, some (.int d.1), some (.int d.2), y6, y7] H5 (Tup.mk M) := fun H6 e7 Q q => by
        refine ⟨.ref p, rfl, .int d.2, rfl, .inl ⟨p, .non :: ws, d.2, mv, rfl, rfl, sq_of (e7 _ _ k1'), ?_, q mv H6 (Ex.refl _) (hd_ex e7 hmd)⟩⟩
        rw [show d.2 = (((d.2 - 1).toNat + 1 : Nat) : Int) by omega]
        refine atI_nat ?_
        rw [List.getElem?_cons_succ]
        exact hmv
      refine qd_asg (ed_if (b := true) (et_is (et_test (ei_gt (ev_var rfl) ev_c)) (decide_eq_true (by omega))) (fun _ => mine) (fun z => by cases z)) fun m6 H6 e7 hm6 => ?_
      obtain ⟨am, wm, rfl, _, _⟩ := hd_tup hm6
      by_cases ht : d.1 ∈ M
      · -- the thing is there already
        have fail : ∀ H', Ex H6 H' → Q .non H' := fun H' e8 => bad (no d hdm (.inl (by rw [hM]; exact ht))) H' (exH.trans (e4.trans (e5.trans (e6.trans (e7.trans e8)))))
        refine q_asg (v := .non) (ev_if (b := true) (et_is (et_or (et_test (ev_isN (ev_var rfl))) fun _ => et_test (ev_inT (K := K) (x := d.1) (xs := M) (ed_int (ev_var rfl)) (ed_var rfl hm6))) (by rw [decide_eq_true ht]; simp)) (fun _ => ev_c) (fun z => by cases z)) fun H7 e8 => ?_
        have fin : ∀ th' H8, Ex H7 H8 → (tIfS (tOr (tTest (tOp rIsNn (tVar 7) (tC .non))) (tTest (tOp rIsFl (tVar 3) (tC (.bl false))))) (tRet (tC .non)) tNext) { nx := fun σ' H'' => ∃ th y4 y5 y6 y7, σ' = [some v, some (.ref p), some w, some th, y4, y5, y6, y7] ∧ Ex H4 H'' ∧ ((j + 1 = 0 ∧ th = .non) ∨ ∃ T, Hd K H'' th (Tup.mk T) ∧ 0 < j + 1 ∧ ∀ q ∈ r.take (j + 1), goodDoor Ts q T), rt := Q } [some v, some (.ref p), some w, some th', some (.int d.1), some (.int d.2), some (.ref am), some .non] H8 := fun th' H8 e9 =>
          s_if (b := true) (et_is (et_or (et_test (ev_isN (ev_var rfl))) (b := true) fun z => by cases z) rfl) (fun _ H9 e10 => s_rets ev_c fun H10 e11 => fail H10 (((e8.trans e9).trans e10).trans e11)) (fun z => by cases z)
        rcases st with ⟨_, rfl⟩ | ⟨T, hT, _, _⟩
        · exact q_asg (v := .non) (ev_if (b := true) (et_is (et_or (et_test (ev_isN (ev_var rfl))) (b := true) fun z => by cases z) rfl) (fun _ => ev_var rfl) (fun z => by cases z)) fun H8 e9 => fin _ H8 e9
        · obtain ⟨at', _, rfl, _, _⟩ := hd_tup hT
          exact q_asg (v := .bl false) (ev_if (b := false) (et_is (et_or (et_test (ev_isN (ev_var rfl))) fun _ => et_test (ev_eqD2 (K := K) (x := Tup.mk T) (y := ()) (b := false) (ed_var rfl (hd_ex (e7.trans e8) hT)) (ed_unit (ev_var rfl)) (by decide) rfl)) rfl) (fun z => by cases z) (fun _ => ev_c)) fun H8 e9 => fin _ H8 e9
      · obtain ⟨Wd, hW⟩ : ∃ Wd, sortI (M ++ [d.1]) = Wd := ⟨_, rfl⟩
        have gd : goodDoor Ts d Wd := by
          unfold goodDoor
          rw [hM]
          exact ⟨ht, hW⟩
        refine qd_asg (K := K) (x := Tup.mk Wd) (ed_if (b := false) (et_is (et_or (et_test (ev_isN (ev_var rfl))) fun _ => et_test (ev_inT (K := K) (x := d.1) (xs := M) (ed_int (ev_var rfl)) (ed_var rfl hm6))) (by rw [decide_eq_false ht]; simp)) (fun z => by cases z) (fun _ => ed_tupOfL (EvD.is (EvN.d (en_sortT (ed_catT (ed_var rfl hm6) (ed_tupA (eas_cons (ed_int (ev_var rfl)) eas_nil) (by show 1 ≤ 100000; decide)) ?_))) hW))) fun w7 H7 e8 hw7 => ?_
        · have : M.length ≤ 1000 := pd.len hok hi o hM
          show M.length + 1 ≤ 100000
          omega
        obtain ⟨aw, _, rfl, _, _⟩ := hd_tup hw7
        have e57 := e7.trans e8
        -- the room's things
        have step : ∀ (H8 : Hp) (_ : Ex H7 H8) (th' : V), Hd K H8 th' (Tup.mk Wd) → (∀ q ∈ r.take j, goodDoor Ts q Wd) → (tIfS (tOr (tTest (tOp rIsNn (tVar 7) (tC .non))) (tTest (tOp rIsFl (tVar 3) (tC (.bl false))))) (tRet (tC .non)) tNext) { nx := fun σ' H'' => ∃ th y4 y5 y6 y7, σ' = [some v, some (.ref p), some w, some th, y4, y5, y6, y7] ∧ Ex H4 H'' ∧ ((j + 1 = 0 ∧ th = .non) ∨ ∃ T, Hd K H'' th (Tup.mk T) ∧ 0 < j + 1 ∧ ∀ q ∈ r.take (j + 1), goodDoor Ts q T), rt := Q } [some v, some (.ref p), some w, some th', some (.int d.1), some (.int d.2), some (.ref am), some (.ref aw)] H8 := by
          intro H8 e9 th' hth' allg
          obtain ⟨ah, _, rfl, _, _⟩ := hd_tup hth'
          refine s_if (b := false) (et_is (et_or (et_test (ev_isN (ev_var rfl))) fun _ => et_test (ev_isFl (ev_var rfl) (.inr (.inl ⟨ah, rfl⟩)))) rfl) (fun z => by cases z) (fun _ H9 e10 => ⟨_, _, _, _, _, rfl, (((e6.trans e57).trans e9).trans e10), .inr ⟨Wd, hd_ex e10 hth', by omega, fun q hq => ?_⟩⟩)
          rw [List.take_add_one, hd] at hq
          rcases List.mem_append.mp hq with hq | hq
          · exact allg q hq
          · rw [List.mem_singleton.mp (show q ∈ [d] from hq)]
            exact gd
        rcases st with ⟨hj, rfl⟩ | ⟨T, hT, hj, allg⟩
        · refine qd_asg (K := K) (x := Tup.mk Wd) (ed_if (b := true) (et_is (et_or (et_test (ev_isN (ev_var rfl))) (b := true) fun z => by cases z) rfl) (fun _ => ed_var rfl hw7) (fun z => by cases z)) fun th' H8 e9 hth' => step H8 e9 th' hth' fun q hq => ?_
          rw [hj, List.take_zero] at hq
          exact nomatch hq
        · obtain ⟨at', _, rfl, _, _⟩ := hd_tup hT
          have hT7 := hd_ex e57 hT
          by_cases hTW : T = Wd
          · refine qd_asg (K := K) (x := Tup.mk Wd) (ed_if (b := true) (et_is (et_or (et_test (ev_isN (ev_var rfl))) fun _ => et_test (ev_eqD (K := K) (ed_var rfl hT7) (ed_var rfl hw7))) (by rw [hTW]; simp)) (fun _ => ed_var rfl hw7) (fun z => by cases z)) fun th' H8 e9 hth' => step H8 e9 th' hth' fun q hq => by rw [← hTW]; exact allg q hq
          · refine q_asg (v := .bl false) (ev_if (b := false) (et_is (et_or (et_test (ev_isN (ev_var rfl))) fun _ => et_test (ev_eqD (K := K) (ed_var rfl hT7) (ed_var rfl hw7))) (by
              have : (Tup.mk T = Tup.mk Wd) = False := by
                rw [eq_iff_iff, iff_false]
                intro z
                injection z with z
                exact hTW z
              simp [this])) (fun z => by cases z) (fun _ => ev_c)) fun H8 e9 => ?_
            refine s_if (b := true) (et_is (et_or (et_test (ev_isN (ev_var rfl))) fun _ => et_test (ev_isFl (ev_var rfl) (.inr (.inr ⟨false, rfl⟩)))) rfl) (fun _ H9 e10 => s_rets ev_c fun H10 e11 => ?_) (fun z => by cases z)
            obtain ⟨q0, hq0⟩ : ∃ q0, q0 ∈ r.take j := by
              cases z : r.take j with
              | nil =>
                have := congrArg List.length z
                rw [List.length_take] at this
                have h2 := (List.getElem?_eq_some_iff.mp hd).1
                have h3 : min j r.length = 0 := this
                omega
              | cons a b => exact ⟨a, List.mem_cons_self⟩
            exact bad (no d hdm (.inr ⟨q0, List.mem_of_mem_take hq0, T, allg q0 hq0, by rw [hM, hW]; exact fun z => hTW z.symm⟩)) H10 (exH.trans (e4.trans (e5.trans (e6.trans (e57.trans (e9.trans (e10.trans e11)))))))
    · rintro H4 σ' H5 e5 ⟨th, y4, y5, y6, y7, rfl, e6, st⟩
      rcases st with ⟨hj, _⟩ | ⟨T, hT, _, allg⟩
      · exact absurd (List.length_eq_zero_iff.mp hj) okr.1
      rw [List.take_length] at allg
      have e46 := (e4.trans e5).trans e6
      have k1' := e46 _ _ k1
      refine s_app k1' (ev_var rfl) (ev_var rfl) (by
        have := hds_len k2
        rw [List.length_map] at this
        have := pd.1
        show ws.length + 1 < 100000
        omega) fun H6 e7 => ?_
      have gf : Go (fun x => x = p) H6 (upd H6 p (.lst ((.non :: ws) ++ [th]))) := Go.mut (by rw [e7 _ _ k1']; trivial) rfl
      refine ⟨some w, some th, y4, y5, y6, y7, ws ++ [th], Ts ++ [T], rfl, g.trans ((Go.ex (e46.trans e7)).trans gf), upd_same, ?_, pd.snoc hr allg⟩
      unfold tl
      rw [List.map_append]
      exact hds_app (α := Tup Int) (hds_tx gf.tx (hds_ex (e46.trans e7) k2)) (hds_one (α := Tup Int) (hd_tx gf.tx (hd_ex e7 hT)))
  · rintro H2 σ' H' e3 ⟨x2, x3, x4, x5, x6, x7, ws, Ts, rfl, g, k1, k2, pd⟩
    rw [lF] at pd
    have exH : Ex H H' := Go.under ((e1.trans e2).trans e3) (fun x hx => by rw [hx]; exact hpH) g
    exact s_rets (ev_var rfl) fun H3 e4 => good Ts pd.all p ws H3 hpH (exH.trans e4) (e4 _ _ k1) (hds_ex e4 k2)
end
end OA

/-! OU: look_book -/
namespace OA
open PySem PySem.Spec PyProof.Rows L2 Evl
open PySem.W (Datum Tup T3 DatumOrd)
theorem DepOk.uniq {F : List Rm} (hF : RoomsOk F) {Us Ts : List (List Int)} (hU : DepOk F Us) (hT : DepOk F Ts) : Us = Ts := by
  have := PD.uniq hF hU (i := F.length) (Nat.le_refl _) ⟨hT.1, hT.2.1, fun k r _ hr => hT.2.2 k r hr⟩
  rw [List.take_of_length_le (by have := hU.1; omega)] at this
  exact this
theorem tlD_inj {F G : List Rm} (h : tlD F = tlD G) : F = G := by
  have := congrArg (List.map Tup.items) h
  rw [List.map_map, List.map_map] at this
  have e : (Tup.items ∘ Tup.mk : Rm → Rm) = id := rfl
  rw [e, List.map_id, List.map_id] at this
  exact this
section
variable {K : PySem.W.Frag} {A : Ads} {vs : List V} {H : Hp} {Q : VK} {E : XK}
/-- a book handed over -/
structure BkH (K : PySem.W.Frag) (H : Hp) (v : V) (many : Int) (F : List Rm) (m : Int) : Prop where
  hd : Hd K H v (T3.mk many (tlD F) m)
  len : F.length ≤ 1000
  r60 : ∀ r ∈ F, r.length < 60
theorem BkH.ex {H' : Hp} {v : V} {many m : Int} {F : List Rm} (h : BkH K H v many F m) (e : Ex H H') : BkH K H' v many F m := ⟨hd_ex e h.hd, h.len, h.r60⟩
def sp_look_book (K : PySem.W.Frag) (A : Ads) : Sp := Spn 1 fun vs H Q E => ∃ (v : V) (many : Int) (F : List Rm) (m : Int), vs = [v] ∧ BkH K H v many F m ∧ (BkOk many F m → ∀ H', Ex H H' → Q .non H') ∧ (¬ BkOk many F m → ∀ H', Ex H H' → E (.ref A.BadBook) none H')
def t_look_book (K : PySem.W.Frag) (A : Ads) (W : WX) : TS :=
  (tSeq (tAsg (tVar 0) (gTup K 3 (gCons (gName 1) (gCons (gName 2) (gCons (gName 3) gNil)))))
    (tSeq (tIfS (tOr (tNot (tTest (tChain rLeI rLeI (tC (.int 1)) (tVar 1) (tC (.int 8))))) (tOr (tNot (tTest (tChain rLeI rLtI (tC (.int 0)) (tVar 3) (tOp rAddI (tCB (rLenS K) (tCons (tVar 2) tNil)) (tC (.int 2)))))) (tTest (tOp (rEqP K) (tVar 3) (tC (.int 1)))))) (tRs W A.BadBook) tNext)
    (tSeq (tDrop (tCallS (sp_look_rooms K A) (WE W) (tCons (tVar 2) tNil)))
    (tSeq (tAsg (tCallS (sp_depths K A) (WE W) (tCons (tVar 2) tNil)) (gName 4))
    (tSeq (tIfS (tOr (tTest (tOp rIsNn (tVar 4) (tC .non))) (tAnd (tTest (tOp rGtI (tVar 3) (tC (.int 0)))) (tTest (tOp (rNeP K) (tOp (rIx K) (tVar 4) (tVar 3)) (tTupRgP (tRg1 (tVar 1))))))) (tRs W A.BadBook) tNext)
    (tSeq (tAsg (tMake A.Rooms (sp_Rooms_init K A) [] E0 tNil) (gName 5))
    (tIfS (tTest (tOp (rNeP K) (tMeth A.Rooms "book" (sp_Rooms_book K A) [] E0 (tVar 5) (tCons (tVar 1) (tCons (tCallS (sp_taken_in K A) (WE W) (tCons (tVar 5) (tCons (tVar 0) tNil))) tNil))) (tTupP (tCons (tVar 1) (tCons (tCB (rListS K) (tCons (tVar 2) tNil)) (tCons (tVar 3) tNil)))))) (tRs W A.BadBook) tNext)))))))
theorem pu_look_book (h : sp_look_book K A vs H Q E) : t_look_book K A (WXE E) (DQ Q) (start ["book", "many", "some", "first", "things", "rooms"] vs) H := by
  obtain ⟨_, v, many, F, m, rfl, hb, ok, bad⟩ := h
  obtain ⟨hv, hF, h60⟩ := hb
  have lF : (tlD F).length = F.length := List.length_map _
  refine q_unpack3 (K := K) (x := many) (y := tlD F) (z := m) (ed_var rfl hv) fun t u1 u2 u3 H1 e1 hp b1 b2 b3 => ?_
  rw [hd_int b1, hd_int b3]
  clear b1 b3
  refine q_when (b := !(decide (1 ≤ many ∧ many ≤ 8) && decide (0 ≤ m ∧ m < (F.length : Int) + 2 ∧ m ≠ 1))) (et_is (et_or (et_not (et_test (ec_lele ev_c (ev_var rfl) ev_c))) fun _ => et_or (et_not (et_test (ec_lelt ev_c (ev_var rfl) (ei_add (ev_is (ev_lenL (K := K) (ed_var rfl b2)) (by rw [lF])) ev_c)))) fun _ => et_test (ev_eqD (K := K) (ed_int (ev_var rfl)) (ed_int ev_c))) ?_) (fun hb H2 e2 => ?_) (fun hb H2 e2 => ?_)
  · rw [Bool.eq_iff_iff]
    simp only [Bool.or_eq_true, Bool.not_eq_true', Bool.and_eq_false_iff, decide_eq_false_iff_not, decide_eq_true_iff, not_and, ne_eq]
    omega
  · refine bad (fun z => ?_) H2 (e1.trans e2)
    rw [decide_eq_true z.1, decide_eq_true z.2.1] at hb
    cases hb
  have c1 : 1 ≤ many ∧ many ≤ 8 := by
    by_cases z : 1 ≤ many ∧ many ≤ 8
    · exact z
    · rw [decide_eq_false z] at hb
      cases hb
  have c2 : 0 ≤ m ∧ m < (F.length : Int) + 2 ∧ m ≠ 1 := by
    by_cases z : 0 ≤ m ∧ m < (F.length : Int) + 2 ∧ m ≠ 1
    · exact z
    · rw [decide_eq_true c1, decide_eq_false z] at hb
      cases hb
  have b2' := hd_ex e2 b2
  have e02 := e1.trans e2
  refine q_do (cl1 (K := K) (ed_var rfl b2') fun w H3 e3 hw => ?_)
  refine ⟨rfl, w, F, rfl, hw, hF, h60, fun hok H4 e4 => ?_, fun hok H4 e4 => bad (fun z => hok z.2.2.1) H4 (e02.trans (e3.trans e4))⟩
  have e24 := e3.trans e4
  refine qc_asg (cl1 (K := K) (ed_var rfl (hd_ex e24 b2')) fun w' H5 e5 hw' => ?_)
  refine ⟨rfl, w', F, rfl, hw', hF, h60, hok, fun Ts hT p ws H6 hp6 e6 k6 d6 => ?_, fun hno H6 e6 => ?_⟩
  rotate_left
  · -- no things
    refine q_when (b := true) (et_is (et_or (et_test (ev_isN (ev_var rfl))) (b := true) fun z => by cases z) rfl) (fun _ H7 e7 => ?_) (fun z => by cases z)
    exact bad (fun ⟨_, _, _, Ts, hT, _⟩ => hno ⟨Ts, hT⟩) H7 (e02.trans (e24.trans (e5.trans (e6.trans e7))))
  have e06 := e02.trans (e24.trans (e5.trans e6))
  have things : 0 < m → ∀ {σ : L2.St} {H7 : Hp}, σ[4]? = some (some (.ref p)) → σ[3]? = some (some (.int m)) → Ex H6 H7 → EvD K (tOp (rIx K) (tVar 4) (tVar 3)) σ H7 (Tup.mk (Ts.getD (m.toNat - 1) [])) := fun m0 {σ H7} h4 h3 e7 H8 e8 Q q => by
    have lT := hT.1
    have hg : Ts[m.toNat - 1]? = some (Ts.getD (m.toNat - 1) []) := by
      rw [List.getD_eq_getElem?_getD, List.getElem?_eq_getElem (by omega)]
      rfl
    obtain ⟨mv, hmv, hmd⟩ := hds_get (α := Tup Int) d6 (i := m.toNat - 1) (x := Tup.mk (Ts.getD (m.toNat - 1) [])) (by rw [List.getElem?_map, hg]; rfl)
    refine ⟨.ref p, h4, .int m, h3, .inl ⟨p, .non :: ws, m, mv, rfl, rfl, sq_of (e8 _ _ (e7 _ _ k6)), ?_, q mv H8 (Ex.refl _) (hd_ex (e7.trans e8) hmd)⟩⟩
    rw [show m = ((m.toNat - 1 + 1 : Nat) : Int) by omega]
    refine atI_nat ?_
    rw [List.getElem?_cons_succ]
    exact hmv
  refine q_when (b := decide (0 < m) && !decide (Tup.mk (Ts.getD (m.toNat - 1) []) = Tup.mk (upTo many.toNat))) (et_is (et_or (et_test (ev_isN (ev_var rfl))) fun _ => et_and (et_test (ei_gt (ev_var rfl) ev_c)) fun hm => et_test (ev_neD (K := K) (things (of_decide_eq_true hm) rfl rfl (Ex.refl _)) (ed_tupRg (K := K) (ev_var rfl) (by omega)))) (by simp)) (fun hb2 H7 e7 => ?_) (fun hb2 H7 e7 => ?_)
  · refine bad (fun ⟨_, _, _, Us, hU, hu, _⟩ => ?_) H7 (e06.trans e7)
    rw [Bool.and_eq_true] at hb2
    have := hu (of_decide_eq_true hb2.1)
    rw [DepOk.uniq hok hU hT] at this
    rw [this] at hb2
    simp at hb2
  have c3 : 0 < m → Ts.getD (m.toNat - 1) [] = upTo many.toNat := fun m0 => by
    rw [decide_eq_true m0, Bool.true_and, Bool.not_eq_false'] at hb2
    have := of_decide_eq_true hb2
    injection this
  have e07 := e06.trans e7
  have hv7 := hd_ex e07 hv
  refine qc_asg (mk_rooms fun a l d H8 e8 ha hl hd hR => ?_)
  obtain ⟨dx, ob⟩ := hR.ob
  -- the book anew
  refine ⟨.ref a, rfl, a, dx, _, rfl, ob, rfl, .int many, rfl, .ref a, rfl, v, rfl, ?_⟩
  refine ⟨rfl, a, l, d, v, many, F, [], m, H7, rfl, hR, Fwd.nil, by decide, e8, hl, hd, hv7, hok, hF, h60, c2.1, c2.2.1, fun H9 g9 R9 => ?_⟩
  have TT := Tk.all hok .nil Fwd.nil F.length (Nat.le_refl _)
  rw [List.take_length] at TT
  have ln : (F.foldl tkStep ([], [0, 1])).2.length = F.length + 2 := by
    rw [tk_len]
    show 2 + _ = _
    omega
  generalize F.foldl tkStep ([], [0, 1]) = st at TT ln R9
  obtain ⟨rs, nums⟩ := st
  simp only at TT ln R9 ⊢
  have rl := TT.len
  rw [List.length_nil] at rl
  have ex9 : Ex H7 H9 := Go.under e8 (fun x hx => by
    rcases hx with rfl | rfl
    · exact hl
    · exact hd) g9
  have nm0 : m = 0 → nums.getD m.toNat 0 = 0 := fun z => by
    rw [z, List.getD_eq_getElem?_getD]
    rw [show (0 : Int).toNat = 0 from rfl, TT.z]
    rfl
  have n8 : many.toNat ≤ 8 := by omega
  have pos : m ≠ 0 → Fit rs many.toNat (upTo many.toNat) (nums.getD m.toNat 0) ∧ W F many.toNat m = W rs many.toNat (nums.getD m.toNat 0) ∧ nums.getD m.toNat 0 ≠ 0 := fun z => by
    have f := (dep_fit hok hT m.toNat m.toNat (Nat.le_refl _) (by omega) (by omega)).2.2
    rw [c3 (by omega), upTo_len] at f
    obtain ⟨g1, g2⟩ := TT.fit m.toNat (by omega) (by omega) _ _ f
    rw [show ((m.toNat : Nat) : Int) = m by omega] at g2
    exact ⟨g1, g2, by have := g1.pos.1; omega⟩
  refine ⟨rfl, a, l, d, rs, many, nums.getD m.toNat 0, upTo many.toNat, many.toNat, rfl, R9, by omega, ?_, fun t' q' H10 e10 hq' hbk => ?_⟩
  · by_cases z : m = 0
    · exact .inl (nm0 z)
    · exact .inr ⟨n8, (pos z).1, upTo_nodup _, by rw [upTo_len]; omega⟩
  have bf : bookF rs many.toNat (upTo many.toNat) (nums.getD m.toNat 0) = if m = 0 then ([], 0) else layF many.toNat (upTo many.toNat) (W F many.toNat m) [] := by
    unfold bookF
    by_cases z : m = 0
    · rw [if_pos (nm0 z), if_pos z]
    · rw [if_neg (pos z).2.2, if_neg z, (pos z).2.1]
  rw [bf] at hbk
  have ex10 := ex9.trans e10
  have same : ((if m = 0 then (([] : List Rm), (0 : Int)) else layF many.toNat (upTo many.toNat) (W F many.toNat m) []) = (F, m)) ↔ BkOk many F m := by
    constructor
    · intro z
      refine ⟨c1, c2, hok, Ts, hT, c3, ?_⟩
      by_cases y : m = 0
      · rw [if_pos y] at z ⊢
        injection z with z1 z2
        exact z1.symm
      · rw [if_neg y] at z ⊢
        exact z
    · rintro ⟨_, _, _, _, _, _, z⟩
      by_cases y : m = 0
      · rw [if_pos y] at z ⊢
        rw [z, y]
      · rw [if_neg y] at z ⊢
        exact z
  generalize (if m = 0 then (([] : List Rm), (0 : Int)) else layF many.toNat (upTo many.toNat) (W F many.toNat m) []) = res at hbk same
  have right : EvD K (tTupP (tCons (tVar 1) (tCons (tCB (rListS K) (tCons (tVar 2) tNil)) (tCons (tVar 3) tNil)))) [some v, some (.int many), some u2, some (.int m), some (.ref p), some (.ref a)] H10 (T3.mk many (tlD F) m) := ed_t3A (ed_int (ev_var rfl)) (EvN.d (en_listOf (ed_var rfl (hd_ex (e2.trans (e24.trans (e5.trans (e6.trans (e7.trans ex10))))) b2)))) (ed_int (ev_var rfl))
  refine right H10 (Ex.refl _) _ fun vr H11 e11 hvr => ?_
  have hl11 := hd_ex e11 hbk.hd
  refine ⟨_, _, hl11, hvr, Datum.plain _, Datum.plain _, depth_le _ (by decide), ?_⟩
  rw [Datum.eqv]
  refine ⟨_, rfl, ?_⟩
  have e011 := e07.trans (ex10.trans e11)
  by_cases hbk2 : BkOk many F m
  · have := same.mpr hbk2
    rw [this]
    rw [decide_eq_true rfl]
    exact ok hbk2 H11 e011
  · rw [decide_eq_false fun z => hbk2 (same.mp (by
      injection z with _ z2 z3
      rw [← tlD_inj z2, ← z3]))]
    exact bad hbk2 H11 e011
end
end OA

/-! OV: orders_in, has -/
namespace OA
open PySem PySem.Spec PyProof.Rows L2 Evl
open PySem.W (Datum Tup T3 DatumOrd)
/-! ### the words of each number, by the table -/
def rlNew (st : List (List (List Int))) (r : Rm) : List (List Int) := r.flatMap fun p => (st.getD p.2.toNat []).map (p.1 :: ·)
def rlStep (st : List (List (List Int))) (r : Rm) : List (List (List Int)) := st ++ [rlNew st r]
def rl (F : List Rm) : List (List (List Int)) := F.foldl rlStep [[], [[]]]
theorem rl_len : ∀ (F : List Rm) (st : List (List (List Int))), (F.foldl rlStep st).length = st.length + F.length
  | [], st => rfl
  | r :: F, st => by
    rw [List.foldl_cons, rl_len F]
    show (st ++ [_]).length + _ = _
    rw [List.length_append, List.length_cons, List.length_cons, List.length_nil]
    omega
theorem rl_keep : ∀ (F : List Rm) (st : List (List (List Int))) (k : Nat), k < st.length → (F.foldl rlStep st).getD k [] = st.getD k []
  | [], st, k, _ => rfl
  | r :: F, st, k, h => by
    have h2 : k < (rlStep st r).length := by
      show k < (st ++ [_]).length
      rw [List.length_append]
      omega
    rw [List.foldl_cons, rl_keep F _ k h2]
    show (st ++ [_]).getD k [] = _
    rw [List.getD_eq_getElem?_getD, List.getElem?_append_left h, ← List.getD_eq_getElem?_getD]
theorem rl_at (F : List Rm) {i : Nat} {r : Rm} (hr : F[i]? = some r) : (rl F).getD (i + 2) [] = rlNew ((F.take i).foldl rlStep [[], [[]]]) r := by
  have hi := (List.getElem?_eq_some_iff.mp hr).1
  have e : F = F.take i ++ (r :: F.drop (i + 1)) := by
    obtain ⟨hi, he⟩ := List.getElem?_eq_some_iff.mp hr
    rw [← he, ← List.drop_eq_getElem_cons hi, List.take_append_drop]
  have l : ((F.take i).foldl rlStep [[], [[]]]).length = i + 2 := by
    rw [rl_len, List.length_take]
    show 2 + _ = _
    omega
  unfold rl
  rw [e, List.foldl_append, List.foldl_cons, rl_keep _ _ _ (by
    show _ < (_ ++ [_]).length
    rw [List.length_append, l]
    show i + 2 < i + 2 + 1
    omega)]
  rw [← e]
  show (((F.take i).foldl rlStep [[], [[]]]) ++ [_]).getD (i + 2) [] = _
  rw [List.getD_eq_getElem?_getD, List.getElem?_append_right (by omega), l, Nat.sub_self]
  rfl
theorem rl_W {F : List Rm} : ∀ {d : Nat} {left : List Int} {n : Int}, Fit F d left n → (rl F).getD n.toNat [] = W F d n
  | 0, left, n, h => by
    rw [W_zero h, h.1]
    unfold rl
    exact rl_keep F [[], [[]]] 1 (by decide)
  | d + 1, left, n, h => by
    have h' := h
    obtain ⟨h1, h2, h3, h4, h5⟩ := h
    have hr := get_dr h1 h2
    have e := rl_at F hr
    rw [show (n - 2).toNat + 2 = n.toNat by omega] at e
    rw [e, W_succ h']
    unfold rlNew
    rw [List.flatMap_def, List.flatMap_def]
    congr 1
    refine List.map_congr_left fun p hp => ?_
    obtain ⟨p1, p2, p3⟩ := h5 p hp
    have ih := rl_W p3
    have l : ((F.take (n - 2).toNat).foldl rlStep [[], [[]]]).length = (n - 2).toNat + 2 := by
      rw [rl_len, List.length_take]
      show 2 + _ = _
      omega
    have keep : (rl F).getD p.2.toNat [] = ((F.take (n - 2).toNat).foldl rlStep [[], [[]]]).getD p.2.toNat [] := by
      have e2 : F.foldl rlStep [[], [[]]] = (F.drop (n - 2).toNat).foldl rlStep ((F.take (n - 2).toNat).foldl rlStep [[], [[]]]) := by rw [← List.foldl_append, List.take_append_drop]
      unfold rl
      rw [e2, rl_keep _ _ _ (by omega)]
    rw [← keep, ih]
/-! ### a walk through the rooms -/
def hst (F : List Rm) : Int → List Int → Int
  | h, [] => h
  | h, t :: w => if h = 0 then 0 else hst F (toD (dr F h) t) w
theorem hst0 (F : List Rm) : ∀ w, hst F 0 w = 0
  | [] => rfl
  | t :: w => by
    show (if (0 : Int) = 0 then 0 else _) = (0 : Int)
    rw [if_pos rfl]
theorem toD_room {r : Rm} (nd : (r.map (·.1)).Nodup) {p : Int × Int} (hp : p ∈ r) : toD r p.1 = p.2 := toD_mem nd hp
theorem toD_none {r : Rm} {t : Int} (h : ∀ p ∈ r, p.1 ≠ t) : toD r t = 0 := by
  unfold toD
  rw [List.find?_eq_none.mpr fun p hp z => h p hp (of_decide_eq_true z)]
  rfl
theorem hst_W {F : List Rm} : ∀ {d : Nat} {left : List Int} {n : Int} {w : List Int}, left.Nodup → Fit F d left n → w.length = d → (hst F n w = 1 ↔ w ∈ W F d n)
  | 0, left, n, w, _, h, hw => by
    rw [List.length_eq_zero_iff.mp hw, W_zero h, h.1]
    exact ⟨fun _ => List.mem_cons_self, fun _ => rfl⟩
  | d + 1, left, n, w, hn, h, hw => by
    cases w with
    | nil => simp at hw
    | cons t w =>
      have hw' : w.length = d := by simpa using hw
      have h1 := h.1
      have nd := h.2.2.2.1.nodup hn
      show ((if n = 0 then 0 else hst F (toD (dr F n) t) w) = 1) ↔ _
      rw [if_neg (by omega), W_succ h, List.mem_flatMap]
      by_cases hp : ∃ p ∈ dr F n, p.1 = t
      · obtain ⟨p, hp, rfl⟩ := hp
        rw [toD_room nd hp, hst_W (wo_nodup hn p.1) (h.2.2.2.2 p hp).2.2 hw']
        constructor
        · exact fun hm => ⟨p, hp, List.mem_map.mpr ⟨w, hm, rfl⟩⟩
        · rintro ⟨p', hp', hm⟩
          obtain ⟨u, hu, e⟩ := List.mem_map.mp hm
          rw [List.cons.injEq] at e
          have : p'.2 = p.2 := by rw [← toD_room nd hp', ← toD_room nd hp, e.1]
          rw [← e.2, ← this]
          exact hu
      · rw [toD_none fun p hm z => hp ⟨p, hm, z⟩, hst0]
        refine ⟨fun z => absurd z (by decide), ?_⟩
        rintro ⟨p', hp', hm⟩
        obtain ⟨u, hu, e⟩ := List.mem_map.mp hm
        rw [List.cons.injEq] at e
        exact (hp ⟨p', hp', e.1⟩).elim
theorem W_len {F : List Rm} : ∀ {d : Nat} {left : List Int} {n : Int} {w : List Int}, Fit F d left n → w ∈ W F d n → w.length = d
  | 0, left, n, w, h, hw => by
    rw [W_zero h] at hw
    rw [List.mem_singleton.mp hw]
    rfl
  | d + 1, left, n, w, h, hw => by
    rw [W_succ h] at hw
    obtain ⟨p, hp, hw⟩ := List.mem_flatMap.mp hw
    obtain ⟨u, hu, rfl⟩ := List.mem_map.mp hw
    rw [List.length_cons, W_len (h.2.2.2.2 p hp).2.2 hu]
theorem words_len {many : Int} {F : List Rm} {m : Int} (hok : RoomsOk F) (ok : BkOk many F m) {i : Nat} (hi : i < F.length) {d : Int × Int} {st : List (List (List Int))} {r : Rm} (hnew : (rl F).getD (i + 2) [] = rlNew st r) (hdm : d ∈ r) {u : List Int} (hu : u ∈ st.getD d.2.toNat []) : u.length ≤ 1000 := by
  obtain ⟨_, _, _, Ts, hT, _⟩ := ok
  obtain ⟨f1, f2, f3⟩ := dep_fit hok hT (i + 2) (i + 2) (Nat.le_refl _) (by omega) (by omega)
  have e := rl_W f3
  rw [Int.toNat_natCast, hnew] at e
  have hm : (d.1 :: u) ∈ rlNew st r := List.mem_flatMap.mpr ⟨d, hdm, List.mem_map.mpr ⟨u, hu, rfl⟩⟩
  rw [e] at hm
  have := W_len f3 hm
  have l8 := len8 f1 f2
  rw [List.length_cons] at this
  omega
/-- the words of a book -/
def wordsOf (many : Int) (F : List Rm) (m : Int) : List (List Int) := if m = 0 then [] else W F many.toNat m
section
variable {K : PySem.W.Frag} {A : Ads} {vs : List V} {H : Hp} {Q : VK} {E : XK}
/-- lists of words, each its own new list -/
structure LL (K : PySem.W.Frag) (H0 : Hp) (pr : Addr) (H : Hp) (ws : List V) (ls : List (List (List Int))) : Prop where
  len : ws.length = ls.length
  all : ∀ (i : Nat) (l : List (List Int)), ls[i]? = some l → ∃ (q : Addr) (vq : List V), ws[i]? = some (V.ref q) ∧ H0 q = none ∧ q ≠ pr ∧ H q = some (.lst vq) ∧ Hds K H vq (tl l)
theorem LL.go {H0 H H' : Hp} {pr : Addr} {ws : List V} {ls : List (List (List Int))} (h : LL K H0 pr H ws ls) (g : Go (fun x => x = pr) H H') : LL K H0 pr H' ws ls :=
  ⟨h.len, fun i l hl => by
    obtain ⟨q, vq, a, b, c, d, e⟩ := h.all i l hl
    exact ⟨q, vq, a, b, c, g.keep _ _ c d, hds_tx g.tx e⟩⟩
theorem LL.snoc {H0 H : Hp} {pr q : Addr} {ws vq : List V} {ls : List (List (List Int))} {l : List (List Int)} (h : LL K H0 pr H ws ls) (b : H0 q = none) (c : q ≠ pr) (d : H q = some (.lst vq)) (e : Hds K H vq (tl l)) : LL K H0 pr H (ws ++ [.ref q]) (ls ++ [l]) :=
  ⟨by rw [List.length_append, List.length_append, h.len]; rfl, fun i l' hl => by
    by_cases hi : i < ls.length
    · rw [List.getElem?_append_left hi] at hl
      rw [List.getElem?_append_left (by rw [h.len]; exact hi)]
      exact h.all i l' hl
    · rw [List.getElem?_append_right (by omega)] at hl
      rw [List.getElem?_append_right (by rw [h.len]; omega), h.len]
      cases z : i - ls.length with
      | zero =>
        rw [z] at hl
        cases Option.some.inj hl
        exact ⟨q, vq, rfl, b, c, d, e⟩
      | succ n => rw [z] at hl; simp at hl⟩
theorem words_rl {many : Int} {F : List Rm} {m : Int} (h : BkOk many F m) : (rl F).getD m.toNat [] = wordsOf many F m := by
  obtain ⟨c1, c2, hok, Ts, hT, c3, _⟩ := h
  unfold wordsOf
  by_cases z : m = 0
  · rw [if_pos z, z]
    unfold rl
    exact rl_keep F [[], [[]]] 0 (by decide)
  · rw [if_neg z]
    have f := (dep_fit hok hT m.toNat m.toNat (Nat.le_refl _) (by omega) (by omega)).2.2
    rw [c3 (by omega), upTo_len, show ((m.toNat : Nat) : Int) = m by omega] at f
    exact rl_W f
end
end OA

/-! OW: books of the laws, as expressions -/
namespace OA
open PySem PySem.Spec PyProof.Rows L2 Evl
open PySem.W (Datum Tup T3 DatumOrd)
theorem all24 : ∀ n, n < 5 → (allP n (upTo n)).length ≤ 24 := by decide +kernel
theorem W_bound {F : List Rm} {b : Nat → Nat} (hb0 : 1 ≤ b 0) (hb : ∀ d, (d + 1) * b d ≤ b (d + 1)) : ∀ {d : Nat} {left : List Int} {n : Int}, left.Nodup → left.length = d → Fit F d left n → (W F d n).length ≤ b d
  | 0, left, n, _, _, h => by rw [W_zero h]; exact hb0
  | d + 1, left, n, hn, hl, h => by
    rw [W_succ h]
    have key : ∀ ds : Rm, (∀ p ∈ ds, p ∈ dr F n) → (ds.flatMap fun p => (W F d p.2).map (p.1 :: ·)).length ≤ ds.length * b d := by
      intro ds
      induction ds with
      | nil => exact fun _ => Nat.zero_le _
      | cons p ds ih =>
        intro hm
        have hp := hm p List.mem_cons_self
        have ht : p.1 ∈ left := h.2.2.2.1.subset (List.mem_map.mpr ⟨p, hp, rfl⟩)
        have h1 := W_bound hb0 hb (wo_nodup hn p.1) (wo_len hn ht hl) (h.2.2.2.2 p hp).2.2
        have h2 := ih fun q hq => hm q (List.mem_cons_of_mem _ hq)
        rw [List.flatMap_cons, List.length_append, List.length_map, List.length_cons, Nat.add_mul]
        omega
    have h1 := key _ fun p hp => hp
    have h2 := h.2.2.2.1.length_le
    rw [List.length_map, hl] at h2
    exact Nat.le_trans h1 (Nat.le_trans (Nat.mul_le_mul_right _ h2) (hb d))
def fac : Nat → Nat
  | 0 => 1
  | n + 1 => (n + 1) * fac n
theorem fac_le {d : Nat} (h : d ≤ 5) : fac d ≤ 120 := by
  match d, h with
  | 0, _ => decide
  | 1, _ => decide
  | 2, _ => decide
  | 3, _ => decide
  | 4, _ => decide
  | 5, _ => decide
/-- the words of each number of a law's book are few -/
theorem rl_few {many : Int} {S : List (List Int)} (h1 : 1 ≤ many) (h5 : many ≤ 5) (h : SO many.toNat S) (k : Nat) : ((rl (lawB many.toNat S).1).getD k []).length ≤ 1000 := by
  have n8 : many.toNat ≤ 8 := by omega
  generalize hF : (lawB many.toNat S).1 = F
  by_cases hk0 : k = 0
  · rw [hk0]
    unfold rl
    rw [rl_keep F [[], [[]]] 0 (by decide)]
    exact Nat.zero_le _
  by_cases hk : k < F.length + 2
  · by_cases hk1 : k = 1
    · rw [hk1]
      unfold rl
      rw [rl_keep F [[], [[]]] 1 (by decide)]
      decide
    · by_cases hS : S = []
      · unfold lawB at hF
        rw [if_pos hS] at hF
        rw [← hF] at hk
        have : k < 2 := hk
        omega
      · have T := (lawB_ok n8 h hS).1
        rw [hF] at T
        obtain ⟨d, left, f, s⟩ := T.fit (k : Int) (by omega) (by omega)
        have ln := (upTo_nodup many.toNat).sublist s
        have ll := Fit.len ln f
        have e := rl_W f
        rw [Int.toNat_natCast] at e
        rw [e]
        have := W_bound (b := fac) (by decide) (fun d => Nat.le_refl _) ln ll f
        have l5 := s.length_le
        rw [upTo_len, ll] at l5
        have := fac_le (d := d) (by omega)
        omega
  · rw [List.getD_eq_getElem?_getD, List.getElem?_eq_none (by unfold rl; rw [rl_len]; show 2 + _ ≤ _; omega)]
    exact Nat.zero_le _
theorem words_law {many : Int} {S : List (List Int)} (h1 : 1 ≤ many) (h8 : many ≤ 8) (h : SO many.toNat S) : wordsOf many (lawB many.toNat S).1 (lawB many.toNat S).2 = S := by
  unfold wordsOf
  by_cases hS : S = []
  · unfold lawB
    rw [if_pos hS, if_pos rfl, hS]
  · obtain ⟨_, f, w⟩ := lawB_ok (by omega) h hS
    rw [if_neg (by have := f.pos.1; omega), w]
theorem lawB_inj {many : Int} {S T : List (List Int)} (h1 : 1 ≤ many) (h8 : many ≤ 8) (hS : SO many.toNat S) (hT : SO many.toNat T) (e : lawB many.toNat S = lawB many.toNat T) : S = T := by
  rw [← words_law h1 h8 hS, ← words_law h1 h8 hT, e]
theorem lawB_size {many : Int} {S : List (List Int)} (h1 : 1 ≤ many) (h8 : many ≤ 8) (h : SO many.toNat S) (hl : S.length ≤ 120) : (lawB many.toNat S).1.length ≤ 1000 ∧ ∀ r ∈ (lawB many.toNat S).1, r.length < 60 := by
  by_cases hS : S = []
  · unfold lawB
    rw [if_pos hS]
    exact ⟨Nat.zero_le _, fun r hr => nomatch hr⟩
  · have T := (lawB_ok (by omega) h hS).1
    refine ⟨?_, fun r hr => ?_⟩
    · have := layF_len (d := many.toNat) (left := upTo many.toNat) (S := S) (F := []) (upTo_nodup _) hS
      have h2 := Nat.mul_le_mul hl (show many.toNat ≤ 8 by omega)
      unfold lawB
      rw [if_neg hS]
      rw [List.length_nil] at this
      omega
    · obtain ⟨i, hi, e⟩ := List.mem_iff_getElem.mp hr
      obtain ⟨d, left, f, s⟩ := T.fit ((i : Int) + 2) (by omega) (by omega)
      cases d with
      | zero => have := f.1; omega
      | succ d =>
        have h4 := f.2.2.2.1
        have hdr : dr (lawB many.toNat S).1 ((i : Int) + 2) = r := by
          unfold dr
          rw [List.getD_eq_getElem?_getD, show ((i : Int) + 2 - 2).toNat = i by omega, List.getElem?_eq_getElem hi, e]
          rfl
        rw [hdr] at h4
        have a := h4.length_le
        have b := s.length_le
        rw [List.length_map] at a
        rw [upTo_len] at b
        omega
section
variable {K : PySem.W.Frag} {A : Ads} {vs : List V} {H : Hp} {Q : VK} {E : XK}
theorem isOrd_of {many : Int} {S : List (List Int)} (h1 : 1 ≤ many) (h8 : many ≤ 8) (h : SO many.toNat S) {o : List Int} (ho : o ∈ S) : IsOrd many o := IsOrd.of_perm h1 h8 (h.sub o ho)
/-- book_of, law_book, orders_in of good things, as expressions -/
theorem ed_bookof {ta tb : TE} {σ : L2.St} {many : Int} {os S : List (List Int)} {EX : L2.St → XK} (h : Ev ta σ H (.int many)) (h2 : EvD K tb σ H (tl os)) (h1 : 1 ≤ many) (h8 : many ≤ 8) (hS : SO many.toNat S) (hm : ∀ w, w ∈ S ↔ w ∈ os) (h64 : os.length ≤ 1000) (h200 : S.length < 63) :
    EvD K (tCallS (sp_book_of K A) EX (tCons ta (tCons tb tNil))) σ H (T3.mk many (tlD (lawB many.toNat S).1) (lawB many.toNat S).2) :=
  ed_cl2 (ed_int h) h2 fun v v2 H1 e1 d1 d2 Q E q => by
    rw [hd_int d1]
    exact ⟨rfl, many, v2, os, S, rfl, d2, h64, h200, fun _ => ⟨hS, hm, fun t p H' e _ hb => q _ H' e hb.hd⟩, fun z => (z ⟨h1, h8, fun o ho => isOrd_of h1 h8 hS ((hm o).mpr ho)⟩).elim⟩
theorem bkH_of {v : V} {many : Int} {S : List (List Int)} (h1 : 1 ≤ many) (h8 : many ≤ 8) (hS : SO many.toNat S) (h120 : S.length ≤ 120) (hd : Hd K H v (T3.mk many (tlD (lawB many.toNat S).1) (lawB many.toNat S).2)) : BkH K H v many (lawB many.toNat S).1 (lawB many.toNat S).2 :=
  ⟨hd, (lawB_size h1 h8 hS h120).1, (lawB_size h1 h8 hS h120).2⟩
/-- sorted(set(orders)) -/
theorem en_tsset {te : TE} {σ : L2.St} {n : Nat} {ts : List (List Int)} (h1 : 1 ≤ n) (h8 : n ≤ 8) {D : List (List Int)} (h : EvD K te σ H (tl ts)) (hD : D.length < 63) (inD : ∀ w ∈ ts, w ∈ D) (hp : ∀ w ∈ ts, w.Perm (upTo n)) : EvN K (tSortSetT K te) σ H (tl ((allP n (upTo n)).filter fun w => decide (w ∈ ts))) := fun H1 e Q q =>
  h H1 e _ fun v H2 e2 hv => ⟨ts, D, hv, ⟨hD, inD⟩, SO.tok h1 h8 hp, fun us p vs H3 nd up mem hp2 e3 h3 d3 => by
    have eus : us = (allP n (upTo n)).filter fun w => decide (w ∈ ts) := sort_unique ((SO.all h8).so.filter _) nd up fun w => by
      rw [List.mem_filter, mem_allP (upTo_len n) (upTo_nodup n)]
      exact ⟨fun h => ⟨hp w ((mem w).mp h), decide_eq_true ((mem w).mp h)⟩, fun h => (mem w).mpr (of_decide_eq_true h.2)⟩
    subst eus
    exact q p vs H3 (fresh_back e2 hp2) (e2.trans e3) h3 d3⟩
end
end OA

/-! OMN: min of a list of data; loops over lists that stay; values that may be None -/
namespace OA
open PySem PySem.Spec PyProof.Rows L2 Evl
open PySem.W (Datum Tup T3 DatumOrd SomeDatum)
def rMinD (K : PySem.W.Frag) : List V → Hp → VK → Prop := fun vs H Q => ∃ (α : Type) (_ : DecidableEq α) (_ : DatumOrd α) (a : Addr) (ws : List V) (x : α) (xs : List α), vs = [.ref a] ∧ SqL K H a ws ∧ Hds K H ws (x :: xs) ∧ Datum.depth α ≤ 32 ∧ ∀ v, Hd K H v (PySem.W.minOf x xs) → Q v H
theorem toD_inj {α : Type} [DecidableEq α] [Datum α] {x y : α} (h : Datum.toD x = Datum.toD y) : x = y := by
  have e : PyData.eqv (Datum.toD x) (Datum.toD y) = PyData.eqv (Datum.toD y) (Datum.toD y) := by rw [h]
  rw [Datum.eqv, Datum.eqv, decide_eq_true rfl] at e
  exact of_decide_eq_true e
/-- int(x) of a number, of a truth value -/
def rInt1 : List V → Hp → VK → Prop := fun xs H Q => (∃ i, xs = [.int i] ∧ Q (.int i) H) ∨ ∃ k, xs = [.bl k] ∧ Q (.int (if k then 1 else 0)) H
section
variable {X : Cx}
theorem cr_minD (hc : X.calm = true) (hu : X.A.units + 64 < cLine) : CallR X (.builtin "min") (rMinD X.K) := by
  intro pins s σ H vs us Q I r h
  obtain ⟨α, _, _, a, ws, x, xs, rfl, hs, hd, hz, q⟩ := h
  obtain ⟨its, rv, hl, _⟩ := I.list hs
  rw [Vals.ref1 r]
  have hh : PySem.W.HoldAll s.heap its.toArray.toList (x :: xs) := hds_holds I hd rv
  refine PySem.W.min_list_datum (I.ok.hd hc) hl.isList hh (by omega) fun i v h' tk hi ho hk => ?_
  have hi' : its[i]? = some v := by simpa using hi
  obtain ⟨u, hu', ru⟩ : ∃ u, ws[i]? = some u ∧ RelV u v := by
    have hl := (List.getElem?_eq_some_iff.mp hi').1
    have hlw : i < ws.length := by rw [rv.length]; exact hl
    have hw : ws[i]? = some ws[i] := List.getElem?_eq_getElem hlw
    obtain ⟨u', e1, e2⟩ := rv.get hw
    rw [hi'] at e1
    cases Option.some.inj e1
    exact ⟨_, hw, e2⟩
  obtain ⟨y, hy, dy⟩ := hds_getV hd hu'
  obtain ⟨as, r1⟩ := (hd_holds I dy ru).keeps hk
  obtain ⟨bs, r2⟩ := ho
  have e := toD_inj (Reads.unique r1 _ _ r2).1
  rw [e] at dy
  exact ⟨u, H, I.kept hk, ru, q u dy⟩
end
section
variable {α β : Type} [DecidableEq α] [Datum α] [DecidableEq β] [Datum β] {K : PySem.W.Frag} {σ : L2.St} {H : Hp} {tl te ta tb : TE} {g : TG} {tu tz : TS} {D : Ends}
instance [SomeDatum α] [PureD α] : PureD (Option α) := ⟨fun x => by
  cases x with
  | none => show OA.pu .none = true; simp [OA.pu]
  | some a => exact PureD.pu a⟩
theorem hd_some [SomeDatum α] {v : V} {x : α} : Hd K H v (some x) ↔ Hd K H v x := Iff.rfl
theorem ed_some [SomeDatum α] {x : α} (h : EvD K te σ H x) : EvD K te σ H (some x) := h
theorem ed_of_some [SomeDatum α] {x : α} (h : EvD K te σ H (some x)) : EvD K te σ H x := h
theorem ed_none [SomeDatum α] (h : Ev te σ H .non) : EvD K te σ H (none : Option α) := fun H1 e Q q => h H1 e Q fun H2 e2 => q _ H2 e2 .non
/-- min(xs) -/
theorem ed_min {α : Type} [DecidableEq α] [DatumOrd α] {x : α} {xs : List α} (h : EvD K te σ H (x :: xs)) (hz : Datum.depth α ≤ 32 := by decide) : EvD K (tCB (rMinD K) (tCons te tNil)) σ H (PySem.W.minOf x xs) := fun H1 e Q q =>
  h H1 e _ fun v H2 e2 hv => by
    obtain ⟨a, ws, rfl, hs, hd⟩ := hd_list hv
    exact ⟨α, _, _, a, ws, x, xs, rfl, hs, hd, hz, fun v hv => q v H2 e2 hv⟩
theorem s_appD {l : Addr} {xs : List V} {x : α} (hl : H l = some (.lst xs)) (ha : Ev ta σ H (.ref l)) (h : EvD K te σ H x) (hz : xs.length < 100000) (k : ∀ v H1, Ex H H1 → Hd K H1 v x → D.nx σ (upd H1 l (.lst (xs ++ [v])))) :
    tDrop (tBM K "list" rAppend ta (tCons te tNil)) D σ H := ha H (Ex.refl H) _ fun H1 e1 =>
  ⟨Or.inl ⟨rfl, xs, sq_of (e1 l _ hl)⟩, h H1 e1 _ fun v H2 e2 hv => ⟨l, xs, v, rfl, rfl, e2 l _ (e1 l _ hl), sz_lt hz, k v H2 (e1.trans e2) hv⟩⟩
theorem hd_none [SomeDatum α] {v : V} (h : Hd K H v (none : Option α)) : v = .non := by
  have h' : Dq K H v .none := h
  cases h'
  rfl
theorem ev_int1 {b : Bool} (h : Ev te σ H (.bl b)) : Ev (tCB rInt1 (tCons te tNil)) σ H (.int (if b then 1 else 0)) := fun H1 e Q q => h H1 e _ fun H2 e2 => .inr ⟨b, rfl, q H2 e2⟩
theorem q_fld {a C dx : Addr} {fs : List (Str × V)} {f : Str} {y : V} {tv : TE} (hv : Ev tv σ H y) (h : Ev ta σ H (.ref a)) (ho : H a = some (.ins C dx fs)) (c : Cls K C) (n : NoAttr K C f) (hl : fs.length < 1000) (k : ∀ H1, Ex H H1 → tz D σ (upd H1 a (.ins C dx (putF f y fs)))) : tSeq (sFld K ta tv f) tz D σ H :=
  hv H (Ex.refl _) _ fun H1 e1 => h H1 e1 _ fun H2 e2 => ⟨a, C, dx, fs, rfl, e2 _ _ (e1 _ _ ho), c, n, hl, k H2 (e1.trans e2)⟩
theorem q_fldX {f : Str} {tv : TE} (h : tv σ H fun y H1 => ta σ H1 fun x H2 => ∃ a C dx fs, x = .ref a ∧ H2 a = some (.ins C dx fs) ∧ Cls K C ∧ NoAttr K C f ∧ fs.length < 1000 ∧ tz D σ (upd H2 a (.ins C dx (putF f y fs)))) : tSeq (sFld K ta tv f) tz D σ H := h
theorem ev_ixS {b : Addr} {us : List V} {i : Int} {u : V} (h : Ev ta σ H (.ref b)) (hp : SqL K H b us) (hi : Ev tb σ H (.int i)) (hu : atI us i = some u) : Ev (tOp (rIx K) ta tb) σ H u := fun H1 e Q q =>
  h H1 e _ fun H2 e2 => hi H2 (e.trans e2) _ fun H3 e3 => .inl ⟨b, us, i, u, rfl, rfl, ex_l ((e.trans e2).trans e3) hp, hu, q H3 (e2.trans e3)⟩
theorem ar_cons {ta : TE} {tr : TA} {Q : List V → Hp → Prop} (h : ta σ H fun x H1 => tr σ H1 fun xs H2 => Q (x :: xs) H2) : tCons ta tr σ H Q := h
theorem et_truB {b : Bool} (h : EvD K te σ H b) : EvT (tTruQ K te) σ H b := fun H1 e Q q => h H1 e _ fun v H2 e2 hv => ⟨b, by rw [hd_bool hv]; exact rfl, q H2 e2⟩
/-- loops over a list of data: nothing is changed but what is new -/
theorem s_forLE {xs : List α} (h : EvD K tl σ H xs) (Pv : Hp → Nat → L2.St → Hp → Prop) (h0 : ∀ H1, Ex H H1 → Pv H1 0 σ H1) (ht : ∀ H1 i σ' H', Pv H1 i σ' H' → Ex H1 H')
    (hs : ∀ H1 i v x σ' H', Ex H H1 → xs[i]? = some x → Hd K H' v x → Pv H1 i σ' H' → g v σ' H' fun σ2 H2 => tu { D with nx := Pv H1 (i + 1), ct := Pv H1 (i + 1), bk := D.nx } σ2 H2)
    (hd : ∀ H1 σ' H', Ex H H1 → Pv H1 xs.length σ' H' → D.nx σ' H') : tFor (iList K tl) g tu D σ H :=
  h H (Ex.refl H) _ fun v H1 e hv => by
    obtain ⟨a, vs, rfl, hp, hds⟩ := hd_list hv
    have l := hds_len hds
    refine ⟨a, rfl, ⟨vs, hp⟩, for_list (D := D) (Pv H1) (h0 H1 e) (fun i σ' H' _ p => ex_l (ht _ _ _ _ p) hp) (fun i v σ' H' hi p => ?_) (fun σ' H' p => hd H1 σ' H' e (by rw [← l]; exact p))⟩
    obtain ⟨x, hx, hvx⟩ := hds_getV hds hi
    exact hs H1 i v x σ' H' e hx (hd_ex (ht _ _ _ _ p) hvx) p
theorem q_forLE {xs : List α} (h : EvD K tl σ H xs) (Pv : Hp → Nat → L2.St → Hp → Prop) (h0 : ∀ H1, Ex H H1 → Pv H1 0 σ H1) (ht : ∀ H1 i σ' H', Pv H1 i σ' H' → Ex H1 H')
    (hs : ∀ H1 i v x σ' H', Ex H H1 → xs[i]? = some x → Hd K H' v x → Pv H1 i σ' H' → g v σ' H' fun σ2 H2 => tu { D with nx := Pv H1 (i + 1), ct := Pv H1 (i + 1), bk := tz D } σ2 H2)
    (hd : ∀ H1 σ' H', Ex H H1 → Pv H1 xs.length σ' H' → tz D σ' H') : tSeq (tFor (iList K tl) g tu) tz D σ H := s_forLE (D := { D with nx := tz D }) h Pv h0 ht hs hd
end
end OA

/-! OCL: list + list of any lists; dicts with texts as keys that hold lists -/
namespace OA
open PySem PySem.Spec PyProof.Rows L2 Evl
open PySem.W (Datum Tup T3 DatumOrd)
def rCatL (K : PySem.W.Frag) : R2 := fun x y H Q => ∃ l b xs zs, x = .ref l ∧ y = .ref b ∧ SqL K H l xs ∧ SqL K H b zs ∧ xs.length + zs.length ≤ sizeLine ∧ ∀ p, H p = none → Q (.ref p) (upd H p (.lst (xs ++ zs)))
section
variable {X : Cx}
theorem op_catL : OpR X (binaryOp .Add) (rCatL X.K) := by
  intro pins s σ H x y v u Q I rx ry h
  obtain ⟨l, b, xs, zs, rfl, rfl, hH, hB, hz, q⟩ := h
  cases rx
  cases ry
  obtain ⟨its, r, pl, _⟩ := I.list hH
  obtain ⟨its2, r2, pl2, _⟩ := I.list hB
  obtain ⟨⟨cls, dd, data, sl⟩, n, ho, hc, _, hd⟩ := pl
  obtain ⟨⟨cls2, dd2, data2, sl2⟩, n2, ho2, hc2, _, hd2⟩ := pl2
  simp only at hc hd hc2 hd2
  subst hc hd hc2 hd2
  have hl := r.length
  have hl2 := r2.length
  refine concat_meets ⟨_, ho, rfl⟩ ⟨_, ho2, rfl⟩ noFill_list_add seq_list_add PySem.F.slot_list_add PySem.F.entry_list_add (PySem.F.args_list_add_2 _ _) (list_addW l b its.toArray its2.toArray n n2 dd dd2 sl sl2 (by rw [List.size_toArray, List.size_toArray]; omega)) ⟨ho, ho2, ?_⟩
  have ea : its.toArray ++ its2.toArray = (its ++ its2).toArray := by simp
  rw [ea]
  exact ⟨.ref _, _, I.lnew (t' := s.toks) (r.append r2) (by rw [List.length_append]; omega), rfl, q _ I.fresh⟩
end
section
variable {α : Type} [DecidableEq α] [Datum α] {K : PySem.W.Frag} {σ : L2.St} {H : Hp} {ta tb te : TE} {tz : TS} {D : Ends}
theorem en_catD {xs ys : List α} (ha : EvD K ta σ H xs) (hb : EvD K tb σ H ys) (hz : xs.length + ys.length ≤ 100000) : EvN K (tOp (rCatL K) ta tb) σ H (xs ++ ys) := fun H1 e Q q =>
  ha H1 e _ fun v H2 e2 h2 => hb H2 (e.trans e2) _ fun v' H3 e3 h3 => by
    obtain ⟨p, vs, rfl, s2, d2⟩ := hd_list (hd_ex e3 h2)
    obtain ⟨p', ws, rfl, s3, d3⟩ := hd_list h3
    exact ⟨p, p', vs, ws, rfl, rfl, s2, s3, sz_of (by rw [hds_len d2, hds_len d3]; exact hz), fun r hr =>
      q r _ _ (fresh_back (e2.trans e3) hr) ((e2.trans e3).trans (Ex.new hr)) upd_same (hds_app (hds_ex (Ex.new hr) d2) (hds_ex (Ex.new hr) d3))⟩
/-- {x1: a list named, x2: a new list} -/
theorem q_disp2 [PureD α] {t1 t2 : TE} {x1 x2 : Str} {p1 : Addr} {ys : List α} {i : Nat} (h1 : ∀ H1, Ex H H1 → Ev t1 σ H1 (.ref p1)) (h2 : ∀ H1, Ex H H1 → EvN K t2 σ H1 ys) (ne : x1 ≠ x2)
    (k : ∀ d p2 ws H2, H d = none → H p2 = none → p2 ≠ d → Ex H H2 → H2 d = some (.dK [(Sum.inr x1, .ref p1), (Sum.inr x2, .ref p2)]) → H2 p2 = some (.lst ws) → Hds K H2 ws ys → tz D (σ.set i (some (.ref d))) H2) :
    tSeq (tAsg (tDisp ((tC (.str x1), t1) :: (tC (.str x2), t2) :: [])) (gName i)) tz D σ H := fun d hd => by
  have e1 := Ex.new (o := .dK []) hd
  refine h1 _ e1 _ (Ex.refl _) _ fun H2 e2 => ?_
  refine h2 _ (e1.trans e2) _ (Ex.refl _) _ fun p2 ws H3 hp e3 h3 d3 => ?_
  have h2d := e2 _ _ (upd_same (H := H) (a := d) (o := .dK []))
  have e13 := (e1.trans e2).trans e3
  have npd : p2 ≠ d := fun z => by rw [z, h2d] at hp; cases hp
  refine ⟨e3 _ _ h2d, [(Sum.inr x1, .ref p1), (Sum.inr x2, .ref p2)], rfl, by show 2 ≤ 15; decide, ?_⟩
  have em : mergeK [] [((Sum.inr x1 : Key), V.ref p1), (Sum.inr x2, .ref p2)] = [(Sum.inr x1, .ref p1), (Sum.inr x2, .ref p2)] := by
    show putK (putK [] (Sum.inr x1) (V.ref p1)) (Sum.inr x2) (V.ref p2) = _
    rw [putK_new (kvs := ([] : List (Key × V))) (k := Sum.inr x1) _ rfl]
    exact putK_new _ (by
      unfold valV
      simp [ne])
  rw [em]
  have hmut : Mut (H3 d) := by rw [e3 _ _ h2d]; trivial
  have tx : Tx H3 (upd H3 d (.dK [(Sum.inr x1, .ref p1), (Sum.inr x2, .ref p2)])) := .mut hmut
  exact k d p2 ws _ hd (fresh_back (e1.trans e2) hp) npd (Ex.mut e13 hd) upd_same ((upd_ne npd).trans h3) (hds_tx tx d3)
/-- d[x] = a new list -/
theorem q_putS [PureD α] {tv : TE} {x : Str} {d : Addr} {kvs : List (Key × V)} {ys : List α} {i : Nat} (hv : EvN K tv σ H ys) (hi : σ[i]? = some (some (.ref d))) (hd : H d = some (.dK kvs)) (hl : kvs.length < 100) (nw : valV kvs (Sum.inr x) = none)
    (k : ∀ p ws H2, H p = none → p ≠ d → Go (fun a => a = d) H H2 → H2 d = some (.dK (kvs ++ [(Sum.inr x, .ref p)])) → H2 p = some (.lst ws) → Hds K H2 ws ys → tz D σ H2) : tSeq (sDPut (tVar i) (tC (.str x)) tv) tz D σ H :=
  hv H (Ex.refl _) _ fun p ws H2 hp e2 h2 d2 => by
    have npd : p ≠ d := fun z => by rw [z, hd] at hp; cases hp
    have hmut : Mut (H2 d) := by rw [e2 _ _ hd]; trivial
    refine ⟨.ref d, hi, d, _, rfl, DPut.k (k := Sum.inr x) (e2 _ _ hd) (sz_lt (by omega)), ?_⟩
    rw [putK_new _ nw]
    exact k p ws _ hp npd ((Go.ex e2).trans (Go.mut hmut rfl)) upd_same ((upd_ne npd).trans h2) (hds_tx (Tx.mut hmut) d2)
theorem ev_dgetS {x : Str} {d p : Addr} {kvs : List (Key × V)} (h : Ev ta σ H (.ref d)) (hd : H d = some (.dK kvs)) (hx : Ev tb σ H (.str x)) (hv : valV kvs (Sum.inr x) = some (.ref p)) : Ev (tDGet ta tb) σ H (.ref p) := fun H1 e Q q =>
  h H1 e _ fun H2 e2 => hx H2 (e.trans e2) _ fun H3 e3 => ⟨d, .ref p, rfl, by
    have g := DGet.k (k := Sum.inr x) (e3 _ _ (e2 _ _ (e _ _ hd)))
    rw [hv] at g
    exact g, q H3 (e2.trans e3)⟩
end
end OA

/-! OXC: a comprehension whose step may raise -/
namespace OA
open PySem PySem.Spec PyProof.Rows L2 Evl
/-- what notes a frame asks of the context's names nothing but the frame -/
theorem note_env {ce env : Env} (h : ce.frame = env.frame) (e : Value) : noteFrame e ce = noteFrame e env := by
  unfold noteFrame PySem.frameOf
  rw [h]
section
variable {M : Model} {A : Around} {E : Value → Shared → Prop} {s : Shared} {Z : Obj → Prop} {base : Heap} {env : Env} {outer l : List Env} {L e : Addr}
/-- an exception with a traceback, whatever frame it is in flight from, is noted -/
theorem note_anyZ {fl : Value} {Q : Unit → Shared → Prop} (hZ : HandSPX.Steady Z) (hfr : A.frames = some (env :: outer)) (hf : env.frame = some L) (kb : base.StaysIn s.heap) (en : base.get? e = none) (ff : s.heap.FunFrames base (env :: outer)) (ht : HandSPX.TracedZ s.heap base e Z fl)
    (hQ : ∀ h', HandSPX.HeldZ base (env :: outer) e Z L h' → s.heap.UpToSlots h' → Q () { s with heap := h' }) : wpAny M A (noteFrame (.ref e) env) Q E s := by
  by_cases hfl : fl = rawInt L
  · rw [hfl] at ht
    exact HandSPX.againZ hf ht (hQ s.heap ⟨kb, en, ff, ht⟩ (Heap.UpToSlots.refl _))
  obtain ⟨ob, fs, tb, otb, tf, at_e, zob, dob, f1, tb0, tbe, at_t, dtb, f3⟩ := ht
  have apart : ∀ b o, s.heap.get? b = some o → (∀ vs, o.data ≠ .fields vs) → b ≠ tb := fun b o eb nf z => by
    rw [z, at_t] at eb
    cases eb
    exact nf tf dtb
  have rest : ∀ b, b ≠ tb → (s.heap.update tb (Obj.mapFields fun v => v.setIfInBounds 3 Value.none)).get? b = s.heap.get? b := fun b z => Heap.get?_update_other _ _ fun y => z y.symm
  unfold noteFrame
  simp only [hf]
  refine wpAny_bind (wpAny_field at_e dob f1 ?_)
  rw [if_pos (by simp : (Value.ref tb != Value.none) = true)]
  refine wpAny_bind (wpAny_field at_t dtb f3 ?_)
  rw [if_neg (by simpa using hfl : ¬ (fl == rawInt L) = true)]
  refine wpAny_bind (wpAny_setField at_t dtb (Array.getElem?_eq_some_iff.mp f3).1 ?_)
  refine HandSPX.wpAny_entryZ hZ hfr (ff.of_keeps fun b o eb nf => ⟨o, by rw [rest b (apart b o eb nf)]; exact eb, rfl⟩) hf (by rw [rest e tbe.symm]; exact at_e) (fun b o eb => ?_) en dob (Array.getElem?_eq_some_iff.mp f1).1 zob fun h' hN => ?_
  · rw [rest b fun z => by rw [z, tb0] at eb; cases eb]
    exact kb b o eb
  · obtain ⟨n1, n2, n3, n4⟩ := hN
    exact hQ h' ⟨n1, en, n2, n3⟩ fun b o eb nf => n4 b o (by rw [rest b (apart b o eb nf)]; exact eb) nf
end
theorem ff_less {h h' B B' : Heap} (k : ∀ b, B.get? b = none → h'.get? b = h.get? b) (k' : ∀ b, B.get? b = none → B'.get? b = none) : ∀ {l : List Env}, h.FunFrames B l → h'.FunFrames B' l
  | [], _ => trivial
  | env :: l, ⟨a, ⟨L, o, b, c, d, e⟩, r⟩ => ⟨a, ⟨L, o, b, k' L c, (k L c).trans d, e⟩, ff_less k k' r⟩
/-- the context, with another wish about what it lets out -/
abbrev wx (X : Cx) (xe : Value → Shared → Prop) : Cx := { X with xe := xe }
section
variable {X : Cx} {xe : Value → Shared → Prop} {pins : List (Addr × Obj)} {σ : L2.St} {H : Hp} {s : Shared}
theorem ok_wx (o : X.Ok) : (wx X xe).Ok := ⟨o.mod, o.kind, o.glob, o.blt, o.above, o.inj, o.has, o.cab, o.hd, o.frames, o.stk, o.exf, o.bs, o.bsz, o.noex, o.exfs, o.funs, o.frf⟩
theorem ok_un (o : (wx X xe).Ok) : X.Ok := ⟨o.mod, o.kind, o.glob, o.blt, o.above, o.inj, o.has, o.cab, o.hd, o.frames, o.stk, o.exf, o.bs, o.bsz, o.noex, o.exfs, o.funs, o.frf⟩
theorem inv_wx (I : Inv X pins σ H s) : Inv (wx X xe) pins σ H s := ⟨ok_wx I.ok, I.os, I.bare, I.base, I.loc, I.cell, I.free, I.freeC, I.pin, I.hok, I.len⟩
theorem inv_un (I : Inv (wx X xe) pins σ H s) : Inv X pins σ H s := ⟨ok_un I.ok, I.os, I.bare, I.base, I.loc, I.cell, I.free, I.freeC, I.pin, I.hok, I.len⟩
end
/-- an exception out of a comprehension's block leaves the def -/
theorem comp_err {X : Cx} {W : WX} {E : XK} {E₁ : Value → Shared → Prop} (hs : X.stack = X.env :: X.outer) (hf : X.env.frame = some X.env.locals) (hex : X.ex = [])
    (hx : X.xe = fun e s' => wpAny (model X.prog X.w) X.A (leaving X.env e) (fun _ s'' => L2.CX X.prog X.w X.outer X.H_0 X.s_0 E e s'') E₁ s')
    {s3 : Shared} {H3 : Hp} {scope : Scope} {ce : Env} {fp : List Addr} {pins : List (Addr × Obj)} {σ : L2.St} (I3 : Inv X pins σ H3 s3) (f3 : ∀ b ∈ fp, FpOk X pins H3 b) (hce : ce.frame = X.env.frame) (hC : s3.heap.objs.size ≤ ce.locals)
    (hW : ∀ cls d σ' H', W cls d σ' H' → E cls d H') {u : Value} {s' : Shared} (xx : XE (X.blk s3 H3 scope ce fp) W u s') (Qf : Value → Shared → Prop) (acc : Value) :
    notedBy (model X.prog X.w) X.A ce (fun e s'' => compPost (model X.prog X.w) X.A X.xe none Qf acc ce.locals (.error e) s'') u s' := by
  obtain ⟨a, B, sI, pins', σ', H', cls, d, rfl, I', nb, up, sky, na, os, ag, w⟩ := xx
  have hfr : X.A.frames = some (X.env :: X.outer) := by rw [I3.ok.frames, hs]
  have old : ∀ b, b < s3.heap.objs.size → b ≠ ce.locals := fun b z y => absurd (Nat.lt_of_lt_of_le z (Nat.le_trans hC (Nat.le_of_eq y.symm))) (Nat.lt_irrefl _)
  have frC : ce.locals ∉ frs X.stack := fun z => by
    rcases List.mem_cons.mp (I3.stkSub _ z) with y | y
    · exact absurd (Nat.lt_of_lt_of_le I3.lt (Nat.le_trans hC (Nat.le_of_eq y))) (Nat.lt_irrefl _)
    · exact I3.nofs hC y
  obtain ⟨m, ⟨oC, es, ep, hoC, rC⟩, _⟩ := id I'.loc
  have hoC : sI.heap.get? ce.locals = some oC := hoC
  have BC : B.get? ce.locals = some oC := nb _ _ hoC frC
  have IX : Inv X pins σ H' sI := I3.call' (ch := fp) I'.os I'.base I'.hok I'.bare fun b hb => ⟨(f3 b hb).2.2.2.1, (f3 b hb).2.1, (f3 b hb).2.2.2.2.1, (f3 b hb).2.2.2.2.2⟩
  have nex : ∀ b, b ∉ X.ex := fun b hb => by rw [hex] at hb; cases hb
  have nst : ∀ b o, X.s_0.heap.get? b = some o → b ∉ X.fs → b ∉ frs X.stack ∧ b ≠ ce.locals := fun b o e hb => by
    have h1 := Heap.lt_size e
    refine ⟨fun hm => ?_, old b (Nat.lt_of_lt_of_le h1 I3.sz)⟩
    rcases List.mem_cons.mp (IX.stkSub b hm) with z | z
    · have h2 := IX.ok.above
      exact absurd (Nat.lt_of_le_of_lt h2 (Nat.lt_of_le_of_lt (Nat.le_of_eq z.symm) h1)) (Nat.lt_irrefl _)
    · exact hb z
  have fin : ∀ h1, HandSPX.HeldZ B (X.env :: X.outer) a (Zc cls d) X.env.locals h1 → s'.heap.UpToSlots h1 → compPost (model X.prog X.w) X.A X.xe none Qf acc ce.locals (.error (.ref a)) { s' with heap := h1 } := fun h1 hh up1 => by
    obtain ⟨k1, k2, k3, ob, fs, tb, otb, tf, at_e, zob, dob, f1, tb0, tbe, at_t, dtb, f3'⟩ := hh
    refine ⟨m, ⟨oC, es, ep, k1 _ _ BC, rC⟩, fun h2 sb cenv _ => ?_⟩
    -- the ground without the block's names
    have less : ∀ b, B.get? b = none → b ≠ ce.locals := fun b z y => by rw [y, BC] at z; cases z
    obtain ⟨G, g1, g2⟩ := restrict B fun b => !decide (b = ce.locals)
    have G1 : ∀ b, b ≠ ce.locals → G.get? b = B.get? b := fun b z => g1 b (by simp [z])
    have G2 : G.get? ce.locals = none := g2 _ (by simp)
    have G0 : ∀ b, B.get? b = none → G.get? b = none := fun b z => (G1 b (less b z)).trans z
    have st2 : G.StaysIn h2 := fun b o e => by
      by_cases z : b = ce.locals
      · rw [z, G2] at e
        cases e
      · rw [G1 b z] at e
        exact (sb.2 b z).trans (k1 b o e)
    have ff2 : h2.FunFrames G (X.env :: X.outer) := ff_less (fun b z => sb.2 b (less b z)) G0 k3
    have tr2 : HandSPX.TracedZ h2 G a (Zc cls d) (rawInt X.env.locals) := ⟨ob, fs, tb, otb, tf, (sb.2 a (less a k2)).trans at_e, zob, dob, f1, G0 tb tb0, tbe, (sb.2 tb (less tb tb0)).trans at_t, dtb, f3'⟩
    have nbG : ∀ b o, sI.heap.get? b = some o → b ∉ frs X.stack → b ≠ ce.locals → G.get? b = some o := fun b o e z y => (G1 b y).trans (nb b o e z)
    have hokG : HOk X.prog X.w H' G := fun b o q => (I'.hok b o q).stay (fun c v hc r => by
      have fr : H' c ≠ none := fun z => by
        rcases hc with hc | hc
        · rw [hc, q] at z
          cases z
        · rw [hc] at z
          cases z
      exact nbG c v r (fun hm => fr (IX.stkFree c hm)) fun z => fr (by rw [z]; exact I'.free)) (fun _ r => r) fun _ _ r => r
    -- it goes on
    unfold PySem.passOn
    refine wpAny_bind (wpAny_field (show h2.get? a = some ob from (sb.2 a (less a k2)).trans at_e) dob f1 ?_)
    dsimp only
    rw [if_neg (by simp : ¬ (Value.ref tb == Value.none) = true)]
    refine wpAny_bind (HandSPX.setFlight_anyZ (fr := cenv.frame) st2 ff2 tr2 fun h3 j1 j2 j3 up3 => ?_)
    refine wpAny_throw ?_
    rw [hx]
    show wpAny (model X.prog X.w) X.A (leaving X.env (.ref a)) _ _ _
    unfold leaving
    refine wpAny_bind (note_anyZ Zc.steady hfr hf j1 (G0 a k2) j2 j3 fun h4 hh4 up4 => HandSPX.landsZ hh4 fun h5 fl up5 => ?_)
    obtain ⟨l1, l2, ⟨_, _, l3⟩, l4⟩ := fl
    refine ⟨a, G, H', cls, d, rfl, ⟨l1, l2, l3, l4⟩, hokG, ⟨fun b o e n hb => nbG b o (IX.base.keep b o e n hb (nex b)) (nst b o e hb).1 (nst b o e hb).2, fun b o e hb => ?_, fun b o e n => IX.base.free b o e n (nex b), fun b o e hb => ?_, IX.base.tups, IX.base.frzs, IX.base.tbls⟩, na, os.trans IX.os, ag, hW _ _ _ _ w⟩
    · obtain ⟨_, o0, e0, nf⟩ := IX.ok.funs.mem hb
      rw [e] at e0
      cases e0
      obtain ⟨sl1, p1⟩ := IX.base.slot b o e (IX.ok.frf b hb) hb (nex b)
      obtain ⟨sl2, p2⟩ := up b _ p1 nf
      obtain ⟨sl3, p3⟩ := up1 b _ p2 nf
      have p4 := (sb.2 b (old b (Nat.lt_of_lt_of_le (Heap.lt_size e) I3.sz))).trans p3
      obtain ⟨sl5, p5⟩ := up3 b _ p4 nf
      obtain ⟨sl6, p6⟩ := up4 b _ p5 nf
      obtain ⟨sl7, p7⟩ := up5 b _ p6 nf
      exact ⟨sl7, p7⟩
    · obtain ⟨o', p1⟩ := IX.base.there b o e (nex b)
      exact ⟨o', nbG b o' p1 (nst b o e hb).1 (nst b o e hb).2⟩
  show wpAny (model X.prog X.w) X.A (noteFrame (.ref a) ce) _ _ s'
  rw [note_env hce]
  have sky : Sky B (X.env :: X.outer) a (Zc cls d) ce.locals s'.heap := by rw [← hs]; exact sky
  rcases sky with ⟨hB, hn, hl, oe, vs, he, hz, hd, v1⟩ | fl | hh
  · exact HandSPX.look_newZ Zc.steady hfr hl hf he hB hn hd v1 hz fin
  · exact HandSPX.looks_onZ Zc.steady hfr hf fl fin
  · obtain ⟨q1, q2, q3, q4⟩ := hh
    exact note_anyZ Zc.steady hfr hf q1 q2 q3 q4 fin
/-- [elt for tg in iter if ..], elt may raise what W takes -/
theorem pe_lcX {X : Cx} {W : WX} {E : XK} {E₁ : Value → Shared → Prop} (hs : X.stack = X.env :: X.outer) (hf : X.env.frame = some X.env.locals) (hex : X.ex = [])
    (hx : X.xe = fun e s' => wpAny (model X.prog X.w) X.A (leaving X.env e) (fun _ s'' => L2.CX X.prog X.w X.outer X.H_0 X.s_0 E e s'') E₁ s') (hW : ∀ cls d σ' H', W cls d σ' H' → E cls d H')
    {elt tg iter : Expr} {ifs : List Expr} {scope : Scope} {own : List (Str × Nat)} {pos : Pos} {wi : TI} {g : TG} {tt : TT} {te : TE} (hc : X.calm = true) (hN : X.N.Nodup) (hi : PI X tg iter wi) (ok : BlkOk X.N X.env.scope scope own)
    (hg : ∀ (t : Shared) (G : Hp) (C : Addr) (cl : List (Str × Addr)) (fp : List Addr), PG (X.blk t G scope (compEnvC scope cl C X.env) fp) tg g)
    (ht : ∀ (t : Shared) (G : Hp) (C : Addr) (cl : List (Str × Addr)) (fp : List Addr), PTs (X.blk t G scope (compEnvC scope cl C X.env) fp) ifs tt)
    (he : ∀ (t : Shared) (G : Hp) (C : Addr) (cl : List (Str × Addr)) (fp : List Addr) (xe : Value → Shared → Prop), Takes (wx (X.blk t G scope (compEnvC scope cl C X.env) fp) xe) W → PE (wx (X.blk t G scope (compEnvC scope cl C X.env) fp) xe) elt te)
    (hfold : ∀ x, foldedSetIterable iter X.env x = pure x := by intro _; rfl) : PE X (.ListComp elt [⟨tg, iter, ifs, 0⟩] scope pos) (tLc wi g tt te (own.map (·.2))) := by
  refine ⟨fun pins s σ H Q I h => ?_⟩
  rw [eval_ListComp]
  have hfree : ∀ y ∈ scope.names, y.2 = .free → ∃ c, X.env.cells.lookup y.1 = some c := fun y hy e => (ok.free y hy e).elim (fun k => I.ok.has _ (.inl k)) fun k => I.ok.has _ (.inr k)
  refine wpAny_comprehension_free (use := none) rfl hfold (closure_ok hfree) ok.kind (fun y hy e => (by rw [ok.uniq y hy, e])) (thn (hi.run pins s σ H _ I h) fun v1 t1 q1 => thn q1 fun v2 t2 q2 => ?_)
  obtain ⟨it, fp, tn, J, H2, rfl, I2, T, stn, f2, q⟩ := q2
  refine wpAny_newObj_type (newEnv_comp ?_) (by show 0 ≤ sizeLine; decide)
  have hDn : H2 t2.heap.objs.size = none := I2.hok.fresh (Nat.le_refl _)
  obtain ⟨Wv, ⟨m0, w0⟩, turn⟩ := q _ hDn
  -- the new list
  have I3 : Inv X pins σ (upd H2 t2.heap.objs.size (.lst [])) { t2 with heap := t2.heap.push { cls := .type "list", data := .seq ([] : List Value).toArray } } :=
    I2.laid (t' := t2.toks) (fun b o e => Heap.get?_push_of_some _ e) (Nat.le_refl _) ⟨Nat.zero_le _, [], 0, .nil, Heap.get?_push_size _ rfl⟩
  have grow : ∀ b o, t2.heap.get? b = some o → (t2.heap.push { cls := .type "list", data := .seq ([] : List Value).toArray }).get? b = some o := fun b o e => Heap.get?_push_of_some _ e
  have f3 : ∀ b ∈ fp, FpOk X pins (upd H2 t2.heap.objs.size (.lst [])) b ∧ b < (t2.heap.push { cls := .type "list", data := .seq ([] : List Value).toArray }).objs.size := fun b hb => by
    obtain ⟨o, e, _⟩ := T.obj _ _ stn b hb
    have lt := Heap.lt_size e
    have lt3 := Heap.lt_size (grow b o e)
    refine ⟨⟨?_, (f2 b hb).2⟩, lt3⟩
    rw [upd_ne (Nat.ne_of_lt lt)]
    exact (f2 b hb).1
  have stn3 : tn 0 (t2.heap.push { cls := .type "list", data := .seq ([] : List Value).toArray }) := T.keep _ _ _ stn fun b _ o e => grow b o e
  obtain ⟨s3, hs3⟩ : ∃ s3 : Shared, ({ t2 with heap := t2.heap.push { cls := .type "list", data := .seq ([] : List Value).toArray } } : Shared) = s3 := ⟨_, rfl⟩
  have hp3 : t2.heap.push { cls := .type "list", data := .seq ([] : List Value).toArray } = s3.heap := by rw [← hs3]
  rw [hs3] at I3
  rw [hp3] at f3 stn3
  generalize t2.heap.objs.size = D at I3 f3 hDn turn w0 ⊢
  have blk0 := block_start I3 ok hN f3
  have pgB := fun C cl => hg s3 (upd H2 D (.lst [])) C cl fp
  have ptB := fun C cl => ht s3 (upd H2 D (.lst [])) C cl fp
  have peB := fun C cl => he s3 (upd H2 D (.lst [])) C cl fp
  have n0 : ∀ b ∈ fp, (upd H2 D (.lst [])) b = none := fun b hb => (f3 b hb).1.1
  have stn4 : tn 0 ({ s3 with heap := pushCells (s3.heap.push { cls := .type "dict", data := .dict #[] }) scope.names } : Shared).heap := T.keep _ _ _ stn3 fun b _ o e => pushCells_keeps _ _ _ _ (Heap.get?_push_of_some _ e)
  rw [hs3]
  show codeAny _ _ (.compStart (.ListComp elt [⟨tg, iter, ifs, 0⟩] scope pos) 0 (.ref it) (.ref D) (compEnvC scope (cellsFrom (s3.heap.objs.size + 1) scope.names (cloFrom X.env.cells scope.names [])) s3.heap.objs.size X.env)) (compPost (model X.prog X.w) X.A X.xe none (EP X pins σ Q) (.ref D) s3.heap.objs.size) { s3 with heap := pushCells (s3.heap.push { cls := .type "dict", data := .dict #[] }) scope.names }
  generalize upd H2 D (.lst []) = H3 at I3 f3 blk0 pgB ptB peB n0 w0
  obtain ⟨ce, hce⟩ : ∃ ce, compEnvC scope (cellsFrom (s3.heap.objs.size + 1) scope.names (cloFrom X.env.cells scope.names [])) s3.heap.objs.size X.env = ce := ⟨_, rfl⟩
  have pg := pgB s3.heap.objs.size (cellsFrom (s3.heap.objs.size + 1) scope.names (cloFrom X.env.cells scope.names []))
  have pt := ptB s3.heap.objs.size (cellsFrom (s3.heap.objs.size + 1) scope.names (cloFrom X.env.cells scope.names []))
  have pe := peB s3.heap.objs.size (cellsFrom (s3.heap.objs.size + 1) scope.names (cloFrom X.env.cells scope.names []))
  clear pgB ptB peB
  have ceL : ce.locals = s3.heap.objs.size := by rw [← hce]; rfl
  have ceF : ce.frame = X.env.frame := by rw [← hce]; rfl
  rw [hce] at blk0 pg pt pe ⊢
  generalize ({ s3 with heap := pushCells (s3.heap.push { cls := .type "dict", data := .dict #[] }) scope.names } : Shared) = s4 at blk0 stn4 ⊢
  -- what the iterator leaves alone
  have stat : ∀ {σ' : L2.St} {G : Hp} {t : Shared}, Inv (X.blk s3 H3 scope ce fp) [] σ' G t → (∀ b ∈ fp, G b = none) → ∀ b ∈ fp, FpOk (X.blk s3 H3 scope ce fp) [] G b := fun {σ' G t} J' hn b hb =>
    ⟨hn b hb, (J'.ok.exf b hb).1, J'.ok.exfs b hb, .inl hb, fun x c e => (J'.ok.exf b hb).2 x c e, fun p hp => absurd (show p ∈ ([] : List (Addr × Obj)) ++ [] from hp) (by simp)⟩
  -- what is let out
  have out : ∀ (u : Value) (t : Shared), XE (X.blk s3 H3 scope ce fp) W u t → notedBy (model X.prog X.w) X.A ce (fun e t' => compPost (model X.prog X.w) X.A X.xe none (EP X pins σ Q) (.ref D) s3.heap.objs.size (.error e) t') u t := fun u t xx => by
    have z := comp_err hs hf hex hx I3 (fun b hb => (f3 b hb).1) ceF (Nat.le_of_eq ceL.symm) hW xx (EP X pins σ Q) (.ref D)
    rw [ceL] at z
    exact z
  have pe' := pe (fun u t => XE (X.blk s3 H3 scope ce fp) W u t) fun u t ⟨a, B, sI, pp, σ', G, cls, d, e, J', r⟩ => ⟨a, B, sI, pp, σ', G, cls, d, e, inv_un J', r⟩
  have loop : codeAny (model X.prog X.w) X.A (.compLoop (.ListComp elt [⟨tg, iter, ifs, 0⟩] scope pos) 0 (.ref it) (.ref D) ce) (compPost (model X.prog X.w) X.A X.xe none (EP X pins σ Q) (.ref D) s3.heap.objs.size) s4 := by
    refine compLoop_any (fun n t => ∃ i G, Inv (X.blk s3 H3 scope ce fp) [] (wipe σ (own.map (·.2))) G t ∧ tn i t.heap ∧ (∀ b ∈ fp, G b = none) ∧ Wv i n G) ?_ m0 ⟨0, H3, blk0, stn4, n0, w0⟩
    rintro n s5 ⟨i, H5, I5, stn5, n5, w5⟩
    rcases turn i n H5 w5 with ⟨stop, qq⟩ | ⟨go, Nx, hNx, step⟩
    · refine thnF (T.done (X.blk s3 H3 scope ce fp) rfl rfl rfl hc i [] s5 _ H5 (fun _ _ => False) I5 (stat I5 n5) stn5 stop) fun r s6 ⟨hr, I6⟩ => ?_
      subst hr
      have I7 : Inv X pins σ H5 s6 := I3.call' (ch := fp) I6.os I6.base I6.hok I6.bare fun b hb => ⟨(f3 b hb).1.2.2.2.1, (f3 b hb).1.2.1, (f3 b hb).1.2.2.2.2.1, (f3 b hb).1.2.2.2.2.2⟩
      have nC : H5 s3.heap.objs.size = none := by
        have z : H5 ce.locals = none := I6.free
        rwa [ceL] at z
      obtain ⟨m, hn, _⟩ := I6.loc
      have hn : s6.heap.Ns ce.locals m := hn
      rw [ceL] at hn
      refine ⟨m, hn, fun h'' sb => ?_⟩
      obtain ⟨a0, a1, a2, a3, a4, a5⟩ := I3.fpOk (Nat.le_refl _) nC
      exact ⟨.ref D, H5, I7.turned (t' := s6.toks) (fun b o hb e => (sb.2 b hb).trans e) a0 a1 a3 a4 a5, rfl, qq⟩
    · refine thnF (T.item (X.blk s3 H3 scope ce fp) rfl rfl rfl hc i [] s5 _ H5 (fun _ _ => False) I5 (stat I5 n5) stn5 go) fun r s6 ⟨u, hr, h6⟩ => ?_
      subst hr
      refine thnF h6 fun _ s7 ⟨x, H7, I7, r7, y7, stn7, n7⟩ => ?_
      refine thnF (pg.run _ s7 _ H7 x u _ (I7.pinned (stat I7 n7) (T.obj _ _ stn7)) r7 (step x H7 y7)) fun _ s8 ⟨σ8, H8, I8, hw8, q8⟩ => ?_
      refine thnF (pt.run _ s8 σ8 H8 _ I8 q8) fun b s9 ⟨H9, I9, q9⟩ => ?_
      -- a turn's end
      have fin : ∀ {t : Shared} {G : Hp}, Inv (X.blk s3 H3 scope ce fp) ([] ++ pinsAt fp s7.heap) σ8 G t → Nx G → ∃ m, m < n ∧ ∃ i G, Inv (X.blk s3 H3 scope ce fp) [] (wipe σ (own.map (·.2))) G t ∧ tn i t.heap ∧ (∀ b ∈ fp, G b = none) ∧ Wv i m G := fun {t G} J' nx => by
        obtain ⟨m', hm, w'⟩ := hNx G nx
        have pin' : ∀ b ∈ fp, ∀ o, s7.heap.get? b = some o → t.heap.get? b = some o ∧ G b = none := fun b hb o e => by
          have z := J'.pin (b, o) (List.mem_append_right _ (List.mem_append_right _ (mem_pinsAt hb e)))
          exact ⟨z.1, z.2.1⟩
        have hl : (wipe σ (own.map (·.2))).length = σ8.length := by rw [← hw8, wipe_length]
        refine ⟨m', hm, i + 1, G, (J'.unpinned (pins := [])).weak hl (fun j v e => ?_), T.keep _ _ _ stn7 (fun b hb o e => (pin' b hb o e).1), (fun b hb => ?_), w'⟩
        · rw [← hw8] at e
          exact (wipe_some e).1
        · obtain ⟨o, e, _⟩ := T.obj _ _ stn7 b hb
          exact (pin' b hb o e).2
      cases b with
      | false =>
        rw [if_neg Bool.false_ne_true] at q9 ⊢
        exact fin I9 q9
      | true =>
        rw [if_pos rfl] at q9 ⊢
        refine wpAny_mono (pe'.run _ s9 σ8 H9 _ (inv_wx I9) q9) (fun z s10 hz => ?_) fun e t xx => out e t xx
        obtain ⟨yv, H10, I10, r10, acc, hD10, hz10, nx⟩ := hz
        exact app_ok (X := X.blk s3 H3 scope ce fp) (inv_un I10) hD10 hz10 r10 fun s11 I11 => fin I11 nx
  exact codeAny_compStart_list loop (T.self X.A 0 _ _ _ stn4 loop)
end OA

/-! OTM: texts of books (mathematics) -/
namespace OA
open PySem PySem.Spec PyProof.Rows L2 Evl
open PySem.W (Datum Tup T3 DatumOrd)
/-! ### all or none -/
def mpO {α β : Type} (f : α → Option β) : List α → Option (List β)
  | [] => some []
  | x :: xs => match f x, mpO f xs with
    | some y, some ys => some (y :: ys)
    | _, _ => none
section
variable {α β : Type} {f : α → Option β}
theorem mpO_cons {x : α} {xs : List α} : mpO f (x :: xs) = (f x).bind fun y => (mpO f xs).map (y :: ·) := by
  rw [mpO]
  cases f x <;> cases mpO f xs <;> rfl
theorem mpO_app : ∀ {xs ys : List α}, mpO f (xs ++ ys) = (mpO f xs).bind fun us => (mpO f ys).map (us ++ ·)
  | [], ys => by
    show mpO f ys = (mpO f ys).map fun z => [] ++ z
    cases mpO f ys <;> rfl
  | x :: xs, ys => by
    rw [List.cons_append, mpO_cons, mpO_cons, mpO_app]
    cases f x <;> cases mpO f xs <;> cases mpO f ys <;> rfl
theorem mpO_one {x : α} : mpO f [x] = (f x).map fun y => [y] := by
  rw [mpO_cons]
  cases f x <;> rfl
theorem mpO_len : ∀ {xs : List α} {ys : List β}, mpO f xs = some ys → ys.length = xs.length
  | [], ys, h => by cases h; rfl
  | x :: xs, ys, h => by
    rw [mpO_cons] at h
    cases h1 : f x with
    | none => rw [h1] at h; cases h
    | some y =>
      cases h2 : mpO f xs with
      | none => rw [h1, h2] at h; cases h
      | some zs =>
        rw [h1, h2] at h
        cases h
        rw [List.length_cons, List.length_cons, mpO_len h2]
theorem mpO_get : ∀ {xs : List α} {ys : List β}, mpO f xs = some ys → ∀ (i : Nat) (x : α), xs[i]? = some x → ∃ y, ys[i]? = some y ∧ f x = some y
  | [], ys, h, i, x, hx => by simp at hx
  | x :: xs, ys, h, i, z, hz => by
    rw [mpO_cons] at h
    cases h1 : f x with
    | none => rw [h1] at h; cases h
    | some y =>
      cases h2 : mpO f xs with
      | none => rw [h1, h2] at h; cases h
      | some zs =>
        rw [h1, h2] at h
        cases h
        cases i with
        | zero =>
          cases hz
          exact ⟨y, rfl, h1⟩
        | succ i => exact mpO_get h2 i z hz
theorem mpO_map {γ : Type} {g : γ → α} {k : γ → β} : ∀ {l : List γ}, (∀ x ∈ l, f (g x) = some (k x)) → mpO f (l.map g) = some (l.map k)
  | [], _ => rfl
  | x :: l, h => by
    rw [List.map_cons, mpO_cons, h x List.mem_cons_self, mpO_map fun y hy => h y (List.mem_cons_of_mem _ hy)]
    rfl
theorem mpO_none : ∀ {xs : List α}, mpO f xs = none → ∃ x ∈ xs, f x = none
  | [], h => by cases h
  | x :: xs, h => by
    rw [mpO_cons] at h
    cases h1 : f x with
    | none => exact ⟨x, List.mem_cons_self, h1⟩
    | some y =>
      cases h2 : mpO f xs with
      | none =>
        obtain ⟨z, hz, e⟩ := mpO_none h2
        exact ⟨z, List.mem_cons_of_mem _ hz, e⟩
      | some zs => rw [h1, h2] at h; cases h
theorem mpO_bad {x : α} {xs : List α} (hx : x ∈ xs) (h : f x = none) : mpO f xs = none := by
  cases e : mpO f xs with
  | none => rfl
  | some ys =>
    obtain ⟨i, hi⟩ := List.mem_iff_getElem?.mp hx
    obtain ⟨y, _, z⟩ := mpO_get e i x hi
    rw [h] at z
    cases z
end
/-! ### numbers -/
abbrev sg (x : Str) : List Nat := TL.tl x
def figs : Str := "0123456789"
theorem figs_sg : sg figs = [48, 49, 50, 51, 52, 53, 54, 55, 56, 57] := by decide
def isFig (c : Nat) : Bool := decide (c ∈ sg figs)
theorem isFig_iff {c : Nat} : isFig c = true ↔ 48 ≤ c ∧ c ≤ 57 := by
  unfold isFig
  rw [figs_sg, decide_eq_true_iff]
  simp only [List.mem_cons, List.not_mem_nil, or_false]
  omega
def strI (i : Int) : Str := toString i
theorem sg_strI {n : Int} (h : 0 ≤ n) : sg (strI n) = TL.numL n.toNat := by
  have := TL.tl_num n.toNat
  rw [Int.toNat_of_nonneg h] at this
  exact this
def numOk (w : Str) : Bool := (decide (1 ≤ (w.length : Int)) && decide ((w.length : Int) ≤ 5)) && ((sg w).all isFig && !(decide ((sg w)[0]? = some 48) && !decide (w = "0")))
def numV (w : Str) : Int := ((NumText.digitsVal (sg w) : Nat) : Int)
def numW (w : Str) : Option Int := if numOk w = true then some (numV w) else none
theorem all_digits {w : Str} (h : (sg w).all isFig = true) : NumText.AllDigits (sg w) := fun c hc => isFig_iff.mp (List.all_eq_true.mp h c hc)
theorem int_num {w : Str} (h : (sg w).all isFig = true) (h1 : 1 ≤ w.length) (h5 : w.length ≤ 5) : intText? w = some (numV w) :=
  PySem.intText_digits (all_digits h) (fun e => by
    have : (sg w).length = 0 := by rw [show sg w = [] from e]; rfl
    rw [← TL.len_tl] at this
    omega) (by omega)
theorem numL_head : ∀ n : Nat, 0 < n → (TL.numL n)[0]? ≠ some 48 := fun n => by
  induction n using Nat.strongRecOn with
  | _ n ih =>
    intro hn
    by_cases h : n < 10
    · rw [TL.numL_lt h]
      simp
      omega
    · rw [TL.numL_step (by omega), List.getElem?_append_left (List.length_pos_iff.mpr (TL.numL_ne _))]
      exact ih (n / 10) (by omega) (by omega)
theorem numL_zero : TL.numL 0 = [48] := TL.numL_lt (by decide)
theorem numL_canon {l : List Nat} (hd : NumText.AllDigits l) (hne : l ≠ []) : TL.numL (NumText.digitsVal l) = l ↔ ¬ (l[0]? = some 48 ∧ l ≠ [48]) := by
  constructor
  · rintro e ⟨h0, h1⟩
    by_cases hv : NumText.digitsVal l = 0
    · rw [hv, numL_zero] at e
      exact h1 e.symm
    · exact numL_head _ (Nat.pos_of_ne_zero hv) (by rw [e]; exact h0)
  · intro h
    have hl : l.length = (l.length - 1) + 1 := by have := List.length_pos_iff.mpr hne; omega
    have key := NumText.toDigits_digitsVal (l.length - 1) l hl hd (by
      cases l with
      | nil => exact (hne rfl).elim
      | cons c r =>
        cases r with
        | nil => exact .inl rfl
        | cons c2 r =>
          have hc := hd.head
          refine .inr ⟨c, _, rfl, ?_⟩
          have : c ≠ 48 := fun z => h ⟨by rw [z]; rfl, by simp⟩
          omega)
    unfold TL.numL
    rw [key, List.map_map]
    have : ∀ c ∈ l, (Char.toNat ∘ Char.ofNat) c = c := fun c hc => by
      have := hd c hc
      exact (show ∀ c, c < 58 → (Char.ofNat c).toNat = c by decide) c (by omega)
    rw [List.map_congr_left this, List.map_id']
/-- the law's test of a word -/
theorem law_num {w : Str} : (decide (w = "") || (decide ((w.length : Int) > 5) || (!(sg w).all isFig || !decide (strI (numV w) = w)))) = !numOk w := by
  by_cases h0 : w = ""
  · subst h0
    rfl
  have h1 : 1 ≤ w.length := by
    rw [TL.len_tl]
    refine List.length_pos_iff.mpr fun e => h0 (TL.ext_tl ?_)
    rw [e]
    rfl
  unfold numOk
  by_cases h5 : w.length ≤ 5
  · rw [decide_eq_false h0, decide_eq_false (by omega : ¬ (w.length : Int) > 5), decide_eq_true (by omega : 1 ≤ (w.length : Int)), decide_eq_true (by omega : (w.length : Int) ≤ 5)]
    cases ha : (sg w).all isFig with
    | false => rfl
    | true =>
      have hd := all_digits ha
      have hne : sg w ≠ [] := fun e => by
        rw [TL.len_tl, show TL.tl w = [] from e] at h1
        cases h1
      have e1 : decide (strI (numV w) = w) = decide (TL.numL (NumText.digitsVal (sg w)) = sg w) := by
        refine decide_eq_decide.mpr ⟨fun e => ?_, fun e => TL.ext_tl ?_⟩
        · have := congrArg sg e
          rw [sg_strI (by unfold numV; omega)] at this
          exact this
        · show sg (strI (numV w)) = sg w
          rw [sg_strI (by unfold numV; omega)]
          exact e
      have e2 : decide (w = "0") = decide (sg w = [48]) := decide_eq_decide.mpr ⟨fun e => by rw [e]; decide, fun e => TL.ext_tl (by show sg w = _; rw [e]; decide)⟩
      have e3 : decide (TL.numL (NumText.digitsVal (sg w)) = sg w) = !(decide ((sg w)[0]? = some 48) && !decide (sg w = [48])) := by
        rw [Bool.eq_iff_iff, decide_eq_true_iff, numL_canon hd hne]
        by_cases a : (sg w)[0]? = some 48 <;> by_cases b : sg w = [48] <;> simp [a, b]
      rw [e1, e2, e3]
      cases (decide ((sg w)[0]? = some 48) && !decide (sg w = [48])) <;> rfl
  · rw [decide_eq_false h0, decide_eq_true (by omega : (w.length : Int) > 5), decide_eq_false (by omega : ¬ (w.length : Int) ≤ 5), Bool.and_false, Bool.false_and]
    rfl
theorem numW_strI {n : Int} (h0 : 0 ≤ n) (h1 : n < 100000) : numW (strI n) = some n := by
  have es := sg_strI h0
  have hl : (sg (strI n)).length ≤ 5 := by
    rw [es]
    exact TL.numL_len (by decide) (by omega)
  have hne : sg (strI n) ≠ [] := by rw [es]; exact TL.numL_ne _
  have hp := List.length_pos_iff.mpr hne
  have hd : (sg (strI n)).all isFig = true := by
    rw [es]
    exact List.all_eq_true.mpr fun c hc => isFig_iff.mpr (TL.numL_digits _ c hc)
  have hz : (decide ((sg (strI n))[0]? = some 48) && !decide (strI n = "0")) = false := by
    by_cases z : n = 0
    · subst z
      rfl
    · rw [es, decide_eq_false (numL_head _ (by omega))]
      rfl
  have hlen : (strI n).length = (sg (strI n)).length := TL.len_tl _
  unfold numW numOk
  rw [hlen, hd, hz, decide_eq_true (by omega : 1 ≤ ((sg (strI n)).length : Int)), decide_eq_true (by omega : ((sg (strI n)).length : Int) ≤ 5), if_pos (show (true && true && (true && !false)) = true from rfl)]
  unfold numV
  rw [es, TL.numL_val]
  congr 1
  omega
/-! ### what a text says -/
def pairW (ws : List Str) : Option (Int × Int) := match mpO numW ws with
  | some [a, b] => some (a, b)
  | _ => none
def doorW (w : Str) : Option (Int × Int) := pairW (Txt.split w ":")
def rowW (r : Str) : Option Rm := mpO doorW (Txt.split r " ")
def prs (t : Str) : Option (Int × List Rm × Int) := match Txt.split t "\n" with
  | [] => none
  | h :: rs => (pairW (Txt.split h " ")).bind fun p => (mpO rowW rs).map fun F => (p.1, F, p.2)
def doorT (p : Int × Int) : Str := strI p.1 ++ ":" ++ strI p.2
def rowT (r : Rm) : Str := Txt.join " " (r.map doorT)
def rowsT (n : Int) (F : List Rm) (m : Int) : List Str := (strI n ++ " " ++ strI m) :: F.map rowT
def textF (n : Int) (F : List Rm) (m : Int) : Str := Txt.join "\n" (rowsT n F m)
theorem sg_app (x y : Str) : sg (x ++ y) = sg x ++ sg y := TL.tl_append x y
theorem mem_join {S : List Nat} {c : Nat} : ∀ {ps : List (List Nat)}, c ∈ TL.joinL S ps → c ∈ S ∨ ∃ p ∈ ps, c ∈ p
  | [], h => nomatch h
  | [p], h => .inr ⟨p, List.mem_cons_self, h⟩
  | p :: q :: r, h => by
    have h : c ∈ p ++ (S ++ TL.joinL S (q :: r)) := h
    rcases List.mem_append.mp h with h | h
    · exact .inr ⟨p, List.mem_cons_self, h⟩
    rcases List.mem_append.mp h with h | h
    · exact .inl h
    · rcases mem_join h with h | ⟨z, hz, h⟩
      · exact .inl h
      · exact .inr ⟨z, List.mem_cons_of_mem _ hz, h⟩
theorem sg_join (y : Str) (ps : List Str) : sg (Txt.join y ps) = TL.joinL (sg y) (ps.map sg) := by
  rw [TL.join_eq]
  exact TL.tl_join y ps
theorem join2 (y a b : Str) : Txt.join y [a, b] = a ++ y ++ b := by
  rw [TL.join_eq]
  rfl
theorem sg_nl : sg "\n" = [10] := by decide
theorem sg_sp : sg " " = [32] := by decide
theorem sg_co : sg ":" = [58] := by decide
theorem strI_free {n : Int} (h : 0 ≤ n) {c : Nat} (hc : c < 48 ∨ 57 < c) : c ∉ sg (strI n) := by
  rw [sg_strI h]
  exact TL.numL_free hc
theorem doorT_free {p : Int × Int} (h1 : 0 ≤ p.1) (h2 : 0 ≤ p.2) {c : Nat} (hc : c < 48 ∨ 58 < c) : c ∉ sg (doorT p) := by
  unfold doorT
  rw [sg_app, sg_app, sg_co]
  intro h
  rcases List.mem_append.mp h with h | h
  · rcases List.mem_append.mp h with h | h
    · exact strI_free h1 (by omega) h
    · rw [List.mem_singleton] at h
      omega
  · exact strI_free h2 (by omega) h
/-- doors whose numbers can be written -/
def DoorB (p : Int × Int) : Prop := (0 ≤ p.1 ∧ p.1 < 100000) ∧ 0 ≤ p.2 ∧ p.2 < 100000
theorem doorW_T {p : Int × Int} (h : DoorB p) : doorW (doorT p) = some p := by
  obtain ⟨⟨h1, h2⟩, h3, h4⟩ := h
  have e : Txt.split (doorT p) ":" = [strI p.1, strI p.2] := by
    unfold doorT
    rw [← join2]
    refine TL.split_join (y := ":") (s := 58) (S := []) sg_co (by decide +kernel) (by simp) fun w hw => ?_
    rcases List.mem_cons.mp hw with z | z
    · rw [z]; exact strI_free h1 (by omega)
    · rw [List.mem_singleton.mp z]; exact strI_free h3 (by omega)
  unfold doorW pairW
  rw [e, mpO_cons, mpO_one, numW_strI h1 h2, numW_strI h3 h4]
  rfl
theorem rowW_T {r : Rm} (hne : r ≠ []) (h : ∀ p ∈ r, DoorB p) : rowW (rowT r) = some r := by
  have e : Txt.split (rowT r) " " = r.map doorT := by
    unfold rowT
    refine TL.split_join (y := " ") (s := 32) (S := []) sg_sp (by decide +kernel) (fun z => hne (List.map_eq_nil_iff.mp z)) fun w hw => ?_
    obtain ⟨p, hp, rfl⟩ := List.mem_map.mp hw
    exact doorT_free (h p hp).1.1 (h p hp).2.1 (by omega)
  unfold rowW
  rw [e, mpO_map (k := fun p => p) fun p hp => doorW_T (h p hp), List.map_id']
theorem rowT_free {r : Rm} (h : ∀ p ∈ r, DoorB p) : 10 ∉ sg (rowT r) := by
  unfold rowT
  rw [sg_join, sg_sp]
  intro hm
  rcases mem_join hm with z | ⟨q, hq, z⟩
  · rw [List.mem_singleton] at z
    omega
  · rw [List.map_map] at hq
    obtain ⟨p, hp, rfl⟩ := List.mem_map.mp hq
    exact doorT_free (h p hp).1.1 (h p hp).2.1 (by omega) z
theorem headT_free {n m : Int} (hn : 0 ≤ n) (hm : 0 ≤ m) : 10 ∉ sg (strI n ++ " " ++ strI m) := by
  rw [sg_app, sg_app, sg_sp]
  intro h
  rcases List.mem_append.mp h with h | h
  · rcases List.mem_append.mp h with h | h
    · exact strI_free hn (by omega) h
    · rw [List.mem_singleton] at h
      omega
  · exact strI_free hm (by omega) h
structure BookB (n : Int) (F : List Rm) (m : Int) : Prop where
  n : 0 ≤ n ∧ n < 100000
  m : 0 ≤ m ∧ m < 100000
  F : ∀ r ∈ F, r ≠ [] ∧ ∀ p ∈ r, DoorB p
theorem split_text {n m : Int} {F : List Rm} (h : BookB n F m) : Txt.split (textF n F m) "\n" = rowsT n F m := by
  unfold textF rowsT
  refine TL.split_join (y := "\n") (s := 10) (S := []) sg_nl (by decide +kernel) (by simp) fun w hw => ?_
  rcases List.mem_cons.mp hw with z | z
  · rw [z]; exact headT_free h.n.1 h.m.1
  · obtain ⟨r, hr, rfl⟩ := List.mem_map.mp z
    exact rowT_free (h.F r hr).2
theorem prs_text {n m : Int} {F : List Rm} (h : BookB n F m) : prs (textF n F m) = some (n, F, m) := by
  have e : Txt.split (strI n ++ " " ++ strI m) " " = [strI n, strI m] := by
    rw [← join2]
    refine TL.split_join (y := " ") (s := 32) (S := []) sg_sp (by decide +kernel) (by simp) fun w hw => ?_
    rcases List.mem_cons.mp hw with z | z
    · rw [z]; exact strI_free h.n.1 (by omega)
    · rw [List.mem_singleton.mp z]; exact strI_free h.m.1 (by omega)
  unfold prs
  rw [split_text h]
  unfold rowsT
  simp only
  rw [e, mpO_map (k := fun r => r) fun r hr => rowW_T (h.F r hr).1 (h.F r hr).2, List.map_id']
  unfold pairW
  rw [mpO_cons, mpO_one, numW_strI h.n.1 h.n.2, numW_strI h.m.1 h.m.2]
  rfl
end OA

/-! OTB: how long rows get (mathematics) -/
namespace OA
open PySem PySem.Spec PyProof.Rows L2 Evl
open PySem.W (Datum Tup T3 DatumOrd)
theorem pre1 {c x : Nat} {r : List Nat} : TL.pre [c] (x :: r) = decide (x = c) := by
  unfold TL.pre
  show (([x] : List Nat) == [c]) = _
  rw [Bool.eq_iff_iff, beq_iff_eq, decide_eq_true_iff]
  simp
theorem spl_cons {c x : Nat} {acc r : List Nat} : TL.spl [c] 0 acc (x :: r) = if x = c then acc :: TL.spl [c] 0 [] r else TL.spl [c] 0 (acc ++ [x]) r := by
  show (if TL.pre [c] (x :: r) = true then acc :: TL.spl [c] 0 [] r else TL.spl [c] 0 (acc ++ [x]) r) = _
  rw [pre1]
  by_cases h : x = c
  · rw [if_pos (decide_eq_true h), if_pos h]
  · rw [if_neg (by rw [decide_eq_false h]; exact Bool.false_ne_true), if_neg h]
theorem spl_seg {c : Nat} : ∀ (l acc : List Nat), c ∉ acc → ∀ p ∈ TL.spl [c] 0 acc l, ∃ a b, acc ++ l = a ++ (p ++ b) ∧ c ∉ p
  | [], acc, hc, p, hp => by
    rw [TL.spl_nil, List.mem_singleton] at hp
    exact ⟨[], [], by rw [hp]; rfl, by rw [hp]; exact hc⟩
  | x :: r, acc, hc, p, hp => by
    rw [spl_cons] at hp
    by_cases h : x = c
    · rw [if_pos h] at hp
      rcases List.mem_cons.mp hp with z | z
      · exact ⟨[], x :: r, by rw [z]; rfl, by rw [z]; exact hc⟩
      · obtain ⟨a, b, e, n⟩ := spl_seg r [] List.not_mem_nil p z
        rw [List.nil_append] at e
        exact ⟨acc ++ x :: a, b, by rw [e, List.append_assoc]; rfl, n⟩
    · rw [if_neg h] at hp
      obtain ⟨a, b, e, n⟩ := spl_seg r (acc ++ [x]) (fun z => (List.mem_append.mp z).elim hc fun y => h (List.mem_singleton.mp y).symm) p hp
      exact ⟨a, b, by rw [← e, List.append_assoc]; rfl, n⟩
theorem spl_sum {c : Nat} : ∀ (l acc : List Nat), ((TL.spl [c] 0 acc l).map fun p => p.length + 1).sum = acc.length + l.length + 1
  | [], acc => by rw [TL.spl_nil]; simp
  | x :: r, acc => by
    rw [spl_cons]
    by_cases h : x = c
    · rw [if_pos h, List.map_cons, List.sum_cons, spl_sum r []]
      simp
      omega
    · rw [if_neg h, spl_sum r (acc ++ [x])]
      simp
      omega
theorem spl_cnt {c : Nat} : ∀ (l acc : List Nat), (TL.spl [c] 0 acc l).length = l.count c + 1
  | [], acc => by rw [TL.spl_nil]; rfl
  | x :: r, acc => by
    rw [spl_cons]
    by_cases h : x = c
    · rw [if_pos h, List.length_cons, spl_cnt r [], h, List.count_cons_self]
    · rw [if_neg h, spl_cnt r (acc ++ [x]), List.count_cons_of_ne h]
theorem split_sg {t y : Str} {c : Nat} (hy : sg y = [c]) (hk : y.cps.all (· < 256) = true) : (Txt.split t y).map sg = TL.spl [c] 0 [] (sg t) := by
  have := TL.split_spl t y (by rw [show TL.tl y = [c] from hy]; simp) (TL.kind_ok hk)
  rw [show TL.tl y = [c] from hy] at this
  exact this
theorem split_sum {t y : Str} {c : Nat} (hy : sg y = [c]) (hk : y.cps.all (· < 256) = true) : ((Txt.split t y).map fun w => w.length + 1).sum = t.length + 1 := by
  have := spl_sum (c := c) (sg t) []
  rw [← split_sg hy hk, List.map_map] at this
  rw [TL.len_tl t]
  rw [List.length_nil, Nat.zero_add] at this
  rw [← this]
  rfl
theorem split_cnt {t y : Str} {c : Nat} (hy : sg y = [c]) (hk : y.cps.all (· < 256) = true) : (Txt.split t y).length = (sg t).count c + 1 := by
  rw [← spl_cnt (c := c) (sg t) [], ← split_sg hy hk, List.length_map]
theorem sum_ge {w : Nat} : ∀ {l : List Nat}, (∀ x ∈ l, w ≤ x) → l.length * w ≤ l.sum
  | [], _ => by simp
  | x :: l, h => by
    have := sum_ge fun y hy => h y (List.mem_cons_of_mem _ hy)
    have := h x List.mem_cons_self
    rw [List.length_cons, List.sum_cons, Nat.add_mul]
    omega
theorem k_nl : ("\n" : Str).cps.all (· < 256) = true := by decide +kernel
theorem k_sp : (" " : Str).cps.all (· < 256) = true := by decide +kernel
theorem k_co : (":" : Str).cps.all (· < 256) = true := by decide +kernel
theorem numW_len {w : Str} {n : Int} (h : numW w = some n) : 1 ≤ w.length := by
  unfold numW at h
  by_cases z : numOk w = true
  · unfold numOk at z
    rw [Bool.and_eq_true, Bool.and_eq_true, decide_eq_true_iff] at z
    have := z.1.1
    omega
  · rw [if_neg z] at h
    cases h
theorem pairW_some {ws : List Str} {p : Int × Int} (h : pairW ws = some p) : ∃ x y, ws = [x, y] ∧ numW x = some p.1 ∧ numW y = some p.2 := by
  unfold pairW at h
  cases e : mpO numW ws with
  | none => rw [e] at h; cases h
  | some ns =>
    rw [e] at h
    have l := mpO_len e
    match ns, h with
    | [a, b], h =>
      cases h
      match ws, l with
      | [x, y], _ =>
        obtain ⟨u, hu, eu⟩ := mpO_get e 0 x rfl
        obtain ⟨v, hv, ev⟩ := mpO_get e 1 y rfl
        cases hu
        cases hv
        exact ⟨x, y, rfl, eu, ev⟩
theorem doorW_len {w : Str} {p : Int × Int} (h : doorW w = some p) : 4 ≤ w.length + 1 := by
  obtain ⟨x, y, e, h1, h2⟩ := pairW_some h
  have s := split_sum (t := w) sg_co k_co
  rw [e] at s
  have a := numW_len h1
  have b := numW_len h2
  simp at s
  omega
theorem rowW_len {r : Str} {ds : Rm} (h : rowW r = some ds) : ds.length * 4 ≤ r.length + 1 := by
  rw [mpO_len h, ← split_sum (t := r) sg_sp k_sp]
  have := sum_ge (w := 4) (l := (Txt.split r " ").map fun w => w.length + 1) fun x hx => by
    obtain ⟨w, hw, rfl⟩ := List.mem_map.mp hx
    obtain ⟨i, hi⟩ := List.mem_iff_getElem?.mp hw
    obtain ⟨y, _, hy⟩ := mpO_get h i w hi
    exact doorW_len hy
  rw [List.length_map] at this
  exact this
/-! ### rows of a text -/
/-- no longer a stretch without a line end -/
def RunI (L : Nat) (l : List Nat) : Prop := ∀ i j, j ≤ l.length → (∀ k, i ≤ k → k < j → l[k]? ≠ some 10) → j - i ≤ L
theorem RunI.mono {L L' : Nat} {l : List Nat} (h : RunI L l) (hl : L ≤ L') : RunI L' l := fun i j a b => Nat.le_trans (h i j a b) hl
theorem RunI.seg {L : Nat} {a p b : List Nat} (h : RunI L (a ++ (p ++ b))) (hp : 10 ∉ p) : p.length ≤ L := by
  have := h a.length (a.length + p.length) (by simp) fun k k1 k2 z => ?_
  · omega
  · rw [List.getElem?_append_right k1, List.getElem?_append_left (by omega)] at z
    exact hp (List.mem_of_getElem? z)
theorem row_len {L : Nat} {t w : Str} (h : RunI L (sg t)) (hw : w ∈ Txt.split t "\n") : w.length ≤ L ∧ 10 ∉ sg w := by
  have hm : sg w ∈ TL.spl [10] 0 [] (sg t) := by
    rw [← split_sg (t := t) sg_nl k_nl]
    exact List.mem_map.mpr ⟨w, hw, rfl⟩
  obtain ⟨a, b, e, n⟩ := spl_seg (sg t) [] List.not_mem_nil _ hm
  rw [List.nil_append] at e
  rw [e] at h
  refine ⟨?_, n⟩
  rw [TL.len_tl]
  exact h.seg n
theorem prs_len {L C : Nat} {t : Str} {n m : Int} {F : List Rm} (hr : RunI L (sg t)) (hc : (sg t).count 10 ≤ C) (h : prs t = some (n, F, m)) : F.length ≤ C ∧ ∀ r ∈ F, r.length * 4 ≤ L + 1 := by
  have hcnt := split_cnt (t := t) sg_nl k_nl
  unfold prs at h
  cases e : Txt.split t "\n" with
  | nil => rw [e] at h; cases h
  | cons x rs =>
    rw [e] at h
    simp only at h
    cases e1 : pairW (Txt.split x " ") with
    | none => rw [e1] at h; cases h
    | some p =>
      cases e2 : mpO rowW rs with
      | none => rw [e1, e2] at h; cases h
      | some G =>
        rw [e1, e2] at h
        cases h
        have l := mpO_len e2
        rw [e, List.length_cons] at hcnt
        refine ⟨by omega, fun r hm => ?_⟩
        obtain ⟨i, hi⟩ := List.mem_iff_getElem?.mp hm
        have hlt := (List.getElem?_eq_some_iff.mp hi).1
        have hx : rs[i]? = some rs[i] := List.getElem?_eq_getElem (by omega)
        obtain ⟨y, hy, ey⟩ := mpO_get e2 i _ hx
        rw [hi] at hy
        cases hy
        have a := rowW_len ey
        have b := (row_len hr (w := rs[i]) (by rw [e]; exact List.mem_cons_of_mem _ (List.getElem_mem _))).1
        omega
theorem RunI.edit {L : Nat} {p q m s : List Nat} (h : RunI L (p ++ (q ++ s))) (hm : m.length ≤ 1) : RunI (2 * L + 1) (p ++ (m ++ s)) := fun i j hj hk => by
  rw [List.length_append, List.length_append] at hj
  have a := h i (min j p.length) (by rw [List.length_append]; omega) fun k k1 k2 z => by
    refine hk k k1 (by omega) ?_
    rw [List.getElem?_append_left (by omega)] at z ⊢
    exact z
  have b := h (max i (p.length + m.length) - m.length + q.length) (j - m.length + q.length) (by rw [List.length_append, List.length_append]; omega) fun k k1 k2 z => by
    refine hk (k - q.length + m.length) (by omega) (by omega) ?_
    rw [List.getElem?_append_right (by omega), List.getElem?_append_right (by omega)] at z ⊢
    rw [← z]
    congr 1
    omega
  omega
theorem RunI.row {L : Nat} {p r : List Nat} (h : RunI L p) (h' : RunI L r) : RunI L (p ++ 10 :: r) := fun i j hj hk => by
  rw [List.length_append, List.length_cons] at hj
  by_cases c : j ≤ p.length
  · exact h i j c fun k k1 k2 z => hk k k1 k2 (by rw [List.getElem?_append_left (by omega)]; exact z)
  · by_cases d : i ≤ p.length
    · exact (hk p.length d (by omega) (by rw [List.getElem?_append_right (Nat.le_refl _), Nat.sub_self]; rfl)).elim
    · have := h' (i - p.length - 1) (j - p.length - 1) (by omega) fun k k1 k2 z => by
        refine hk (k + p.length + 1) (by omega) (by omega) ?_
        rw [List.getElem?_append_right (by omega), show k + p.length + 1 - p.length = k + 1 by omega, List.getElem?_cons_succ]
        exact z
      omega
theorem RunI.short {L : Nat} {p : List Nat} (h : p.length ≤ L) : RunI L p := fun i j hj _ => by omega
theorem RunI.join {L : Nat} : ∀ {ps : List (List Nat)}, (∀ p ∈ ps, p.length ≤ L) → RunI L (TL.joinL [10] ps)
  | [], _ => RunI.short (Nat.zero_le _)
  | [p], h => RunI.short (h p List.mem_cons_self)
  | p :: q :: r, h => RunI.row (RunI.short (h p List.mem_cons_self)) (RunI.join fun x hx => h x (List.mem_cons_of_mem _ hx))
theorem cnt_edit {p q m s : List Nat} (hm : m.length ≤ 1) : (p ++ (m ++ s)).count 10 ≤ (p ++ (q ++ s)).count 10 + 1 := by
  simp only [List.count_append]
  have := List.count_le_length (a := 10) (l := m)
  omega
theorem cnt_join : ∀ {ps : List (List Nat)}, (∀ p ∈ ps, 10 ∉ p) → (TL.joinL [10] ps).count 10 ≤ ps.length - 1
  | [], _ => Nat.le_refl _
  | [p], h => by
    show p.count 10 ≤ 0
    rw [List.count_eq_zero.mpr (h p List.mem_cons_self)]
    exact Nat.le_refl _
  | p :: q :: r, h => by
    have := cnt_join (ps := q :: r) fun x hx => h x (List.mem_cons_of_mem _ hx)
    show (p ++ ([10] ++ TL.joinL [10] (q :: r))).count 10 ≤ _
    rw [List.count_append, List.count_append, List.count_eq_zero.mpr (h p List.mem_cons_self)]
    show 0 + (1 + _) ≤ r.length + 1 + 1 - 1
    have e : (q :: r).length - 1 = r.length := rfl
    omega
theorem len_join {c : Nat} {w : Nat} : ∀ {ps : List (List Nat)}, (∀ p ∈ ps, p.length ≤ w) → (TL.joinL [c] ps).length ≤ ps.length * (w + 1)
  | [], _ => Nat.zero_le _
  | [p], h => by
    show p.length ≤ 1 * (w + 1)
    have := h p List.mem_cons_self
    omega
  | p :: q :: r, h => by
    have := len_join (c := c) (ps := q :: r) fun x hx => h x (List.mem_cons_of_mem _ hx)
    have := h p List.mem_cons_self
    show (p ++ ([c] ++ TL.joinL [c] (q :: r))).length ≤ (r.length + 1 + 1) * (w + 1)
    rw [List.length_append, List.length_append, List.length_singleton]
    rw [List.length_cons] at *
    rw [Nat.add_mul (r.length + 1) 1 (w + 1)]
    omega
theorem strI_len {n : Int} {k : Nat} (h0 : 0 ≤ n) (hk : 0 < k) (h : n.toNat < 10 ^ k) : (sg (strI n)).length ≤ k := by
  rw [sg_strI h0]
  exact TL.numL_len hk h
/-- books of few things -/
structure BookS (n : Int) (F : List Rm) (m : Int) : Prop where
  n : 0 ≤ n ∧ n < 10
  m : 0 ≤ m ∧ m < 100
  len : F.length ≤ 96
  F : ∀ r ∈ F, r ≠ [] ∧ r.length ≤ 8 ∧ ∀ p ∈ r, (0 ≤ p.1 ∧ p.1 < 10) ∧ 0 ≤ p.2 ∧ p.2 < 100
theorem BookS.b {n m : Int} {F : List Rm} (h : BookS n F m) : BookB n F m := ⟨⟨h.n.1, by have := h.n.2; omega⟩, ⟨h.m.1, by have := h.m.2; omega⟩, fun r hr => ⟨(h.F r hr).1, fun p hp => by
  have := (h.F r hr).2.2 p hp
  exact ⟨⟨this.1.1, by omega⟩, this.2.1, by omega⟩⟩⟩
theorem text_bounds {n m : Int} {F : List Rm} (h : BookS n F m) : RunI 40 (sg (textF n F m)) ∧ (sg (textF n F m)).count 10 ≤ 96 ∧ (sg (textF n F m)).length ≤ 4000 := by
  have e : sg (textF n F m) = TL.joinL [10] ((rowsT n F m).map sg) := by
    unfold textF
    rw [sg_join, sg_nl]
  have rl : ∀ p ∈ (rowsT n F m).map sg, p.length ≤ 40 := fun p hp => by
    obtain ⟨w, hw, rfl⟩ := List.mem_map.mp hp
    rcases List.mem_cons.mp hw with z | z
    · rw [z, sg_app, sg_app, List.length_append, List.length_append]
      have a := strI_len (k := 1) h.n.1 (by decide) (by have := h.n.2; omega)
      have b := strI_len (k := 2) h.m.1 (by decide) (by have := h.m.2; omega)
      have c : (sg " ").length = 1 := by rw [sg_sp]; rfl
      omega
    · obtain ⟨r, hr, rfl⟩ := List.mem_map.mp z
      have d := len_join (c := 32) (w := 4) (ps := (r.map doorT).map sg) fun q hq => by
        rw [List.map_map] at hq
        obtain ⟨x, hx, rfl⟩ := List.mem_map.mp hq
        obtain ⟨⟨b1, b2⟩, b3, b4⟩ := (h.F r hr).2.2 x hx
        show (sg (doorT x)).length ≤ 4
        unfold doorT
        rw [sg_app, sg_app, List.length_append, List.length_append]
        have a := strI_len (k := 1) b1 (by decide) (by omega)
        have b := strI_len (k := 2) b3 (by decide) (by omega)
        have c : (sg ":").length = 1 := by rw [sg_co]; rfl
        omega
      have l8 := (h.F r hr).2.1
      unfold rowT
      rw [sg_join, sg_sp]
      rw [List.length_map, List.length_map] at d
      omega
  have fr : ∀ p ∈ (rowsT n F m).map sg, 10 ∉ p := fun p hp => by
    obtain ⟨w, hw, rfl⟩ := List.mem_map.mp hp
    rcases List.mem_cons.mp hw with z | z
    · rw [z]; exact headT_free h.n.1 h.m.1
    · obtain ⟨r, hr, rfl⟩ := List.mem_map.mp z
      exact rowT_free (h.b.F r hr).2
  have ll : ((rowsT n F m).map sg).length = F.length + 1 := by
    rw [List.length_map]
    unfold rowsT
    rw [List.length_cons, List.length_map]
  have l96 := h.len
  rw [e]
  refine ⟨RunI.join rl, ?_, ?_⟩
  · have := cnt_join fr
    omega
  · have := len_join (c := 10) rl
    rw [ll] at this
    have := Nat.mul_le_mul_right 41 (show F.length + 1 ≤ 97 by omega)
    omega
end OA

/-! OTX: texts as expressions; comprehensions whose step raises -/
namespace OA
open PySem PySem.Spec PyProof.Rows L2 Evl
open PySem.W (Datum Tup T3 DatumOrd)
/-! ### what calls ask -/
def rSplitQ : V → List V → Hp → VK → Prop := fun x xs H Q => ∃ a b, x = .str a ∧ xs = [.str b] ∧ (b.length == 0) = false ∧ a.length + 2 ≤ sizeLine ∧ rNewStrs (Txt.split a b) H Q
theorem mt_splitQ {X : Cx} : MtR X "str.split" rSplitQ := mt_split
def rJoinQ (K : PySem.W.Frag) : V → List V → Hp → VK → Prop := fun x xs H Q => ∃ a p, ∃ ys : List Str, x = .str a ∧ xs = [.ref p] ∧ (SqL K H p (ys.map V.str) ∨ SqT K H p (ys.map V.str)) ∧ (ys.map (·.length)).sum + ys.length * a.length ≤ 16777216 ∧ Q (.str (Txt.join a ys)) H
theorem mt_joinQ {X : Cx} : MtR X "str.join" (rJoinQ X.K) := mt_join
def rStrInt : List V → Hp → VK → Prop := fun xs H Q => ∃ i : Int, xs = [.int i] ∧ i.natAbs.log2 < 1920 ∧ Q (.str (toString i)) H
def rIntStr : List V → Hp → VK → Prop := fun xs H Q => ∃ a n, xs = [.str a] ∧ PySem.intText? a = some n ∧ a.length ≤ 640 ∧ Q (.int n) H
def rInS : R2 := fun x y H Q => ∃ (c : Nat) (z : Str), x = .str ⟨#[c]⟩ ∧ y = .str z ∧ Q (.bl (decide (c ∈ z.cps.toList))) H
def rLenStr : List V → Hp → VK → Prop := fun xs H Q => ∃ z, xs = [.str z] ∧ z.length ≤ sizeLine ∧ Q (.int z.length) H
theorem pe_globS {X : Cx} {x : Str} {n : Str} {pos : Pos} (hm : ∃ t, X.mg x = some (.str n t)) (hg : Gl X x := by rfl) (hd : (x == ("__debug__" : Str)) = false := by decide) : PE X (.Name x pos) (tC (.str n)) := by
  obtain ⟨t, h⟩ := hm
  exact pe_glob hg h ⟨t, rfl⟩ hd
section
variable {K : PySem.W.Frag} {σ : L2.St} {H : Hp} {ta tb te tl to : TE}
/-! ### expressions -/
theorem en_split {t y : Str} (h : Ev to σ H (.str t)) (hz : t.length + 2 ≤ 100000) (hy : (y.length == 0) = false := by rfl) : EvN K (tBM K "str" rSplitQ to (tCons (tC (.str y)) tNil)) σ H (Txt.split t y) := fun H1 e Q q =>
  h H1 e _ fun H2 e2 => ⟨rfl, t, y, rfl, rfl, hy, sz_of hz, fun p hp => q p _ _ (fresh_back e2 hp) (e2.trans (Ex.new hp)) upd_same (strs_hds _)⟩
theorem ev_join {y : Str} {ys : List Str} (h : EvD K te σ H ys) (hz : (ys.map (·.length)).sum + ys.length * y.length ≤ 16777216) : Ev (tBM K "str" (rJoinQ K) (tC (.str y)) (tCons te tNil)) σ H (.str (Txt.join y ys)) := fun H1 e Q q =>
  ⟨rfl, h H1 e _ fun v H2 e2 hv => by
    obtain ⟨a, ws, rfl, hs, hd⟩ := hd_list hv
    rw [hds_strs hd] at hs
    exact ⟨y, a, ys, rfl, rfl, .inl hs, hz, q H2 e2⟩⟩
theorem ev_strI {i : Int} (h : Ev te σ H (.int i)) (hz : i.natAbs < 1000000) : Ev (tCB rStrInt (tCons te tNil)) σ H (.str (strI i)) := fun H1 e Q q => h H1 e _ fun H2 e2 => ⟨i, rfl, by
  by_cases z : i.natAbs = 0
  · rw [z]; decide
  · exact Nat.lt_of_lt_of_le ((Nat.log2_lt z).mpr (Nat.lt_of_lt_of_le hz (by decide : 1000000 ≤ 2 ^ 20))) (by decide), q H2 e2⟩
theorem ev_intS {w : Str} {n : Int} (h : Ev te σ H (.str w)) (hn : intText? w = some n) (hl : w.length ≤ 640) : Ev (tCB rIntStr (tCons te tNil)) σ H (.int n) := fun H1 e Q q => h H1 e _ fun H2 e2 => ⟨w, n, rfl, hn, hl, q H2 e2⟩
theorem ev_lenS {w : Str} (h : Ev te σ H (.str w)) (hz : w.length ≤ 100000) : Ev (tCB rLenStr (tCons te tNil)) σ H (.int (w.length : Int)) := fun H1 e Q q => h H1 e _ fun H2 e2 => ⟨w, rfl, sz_of (by omega), q H2 e2⟩
theorem ev_addS {x y : Str} (ha : Ev ta σ H (.str x)) (hb : Ev tb σ H (.str y)) (hz : x.length + y.length ≤ 100000) : Ev (tOp rAddS ta tb) σ H (.str (x ++ y)) := fun H1 e Q q => ha H1 e _ fun H2 e2 => hb H2 (e.trans e2) _ fun H3 e3 => ⟨x, y, rfl, rfl, sz_of hz, q H3 (e2.trans e3)⟩
theorem ev_inS {c : Nat} {z : Str} (ha : Ev ta σ H (.str ⟨#[c]⟩)) : Ev (tOp rInS ta (tC (.str z))) σ H (.bl (decide (c ∈ sg z))) := fun H1 e Q q => ha H1 e _ fun H2 e2 => ⟨c, z, rfl, rfl, q H2 e2⟩
theorem ev_ixS2 {z : Str} {i : Int} {c : Nat} (ha : Ev ta σ H (.str z)) (hb : Ev tb σ H (.int i)) (hz : z.length ≤ 100000) (hc : atI (sg z) i = some c) : Ev (tOp (rIx K) ta tb) σ H (.str ⟨#[c]⟩) := fun H1 e Q q => ha H1 e _ fun H2 e2 => hb H2 (e.trans e2) _ fun H3 e3 => .inr (.inr ⟨z, i, c, rfl, rfl, sz_of hz, hc, q H3 (e2.trans e3)⟩)
theorem ev_slS {z : Str} {lo hi : Option Int} {tlo thi : TO} (h : Ev te σ H (.str z)) (h1 : EvO tlo σ H lo) (h2 : EvO thi σ H hi) (hz : z.length ≤ 100000) : Ev (L2.tSl rSlS te tlo thi) σ H (.str (cutS z lo hi)) := fun H1 e Q q =>
  h H1 e _ fun H2 e2 => h1 H2 (e.trans e2) _ fun H3 e3 => h2 H3 ((e.trans e2).trans e3) _ fun H4 e4 => ⟨z, rfl, sz_of hz, q H4 ((e2.trans e3).trans e4)⟩
/-! ### comprehensions over a text, over texts with a step that raises -/
theorem lc_text {x : Str} {g : TG} {tt : TT} {vs : List Nat} {H1 : Hp} {D : Addr} {Qd : Hp → Prop} (Pv : Nat → Hp → Prop) (h0 : Pv 0 (upd H1 D (.lst [])))
    (hs : ∀ i c G, (sg x)[i]? = some c → Pv i G → g (.str ⟨#[c]⟩) (wipe σ vs) G fun σ2 H2 => wipe σ2 vs = wipe σ vs ∧ tt σ2 H2 fun b H3 => if b = true then te σ2 H3 fun y H4 => ∃ acc, H4 D = some (.lst acc) ∧ acc.length < sizeLine ∧ Pv (i + 1) (upd H4 D (.lst (acc ++ [y]))) else Pv (i + 1) H3)
    (hd : ∀ G, Pv (sg x).length G → Qd G) : ∃ Wv : Nat → Nat → Hp → Prop, (∃ m, Wv 0 m (upd H1 D (.lst []))) ∧ ∀ i m G, Wv i m G → ((Its x).stop i G ∧ Qd G) ∨ ((Its x).go i G ∧ ∃ Nx : Hp → Prop, (∀ H', Nx H' → ∃ m', m' < m ∧ Wv (i + 1) m' H') ∧ ∀ u H', (Its x).yld i G u H' → g u (wipe σ vs) H' fun σ2 H2 => wipe σ2 vs = wipe σ vs ∧ tt σ2 H2 fun b H3 =>
        if b = true then te σ2 H3 fun y H4 => ∃ acc, H4 D = some (.lst acc) ∧ acc.length < sizeLine ∧ Nx (upd H4 D (.lst (acc ++ [y]))) else Nx H3) := by
  have lx : (sg x).length = x.cps.size := Array.length_toList
  refine ⟨fun i m G => m = (sg x).length - i ∧ i ≤ (sg x).length ∧ Pv i G, ⟨(sg x).length, by simp, Nat.zero_le _, h0⟩, ?_⟩
  rintro i m G ⟨rfl, hi, pv⟩
  by_cases lt : i < (sg x).length
  · refine .inr ⟨by show i < x.cps.size; omega, Pv (i + 1), fun H' pv' => ⟨(sg x).length - (i + 1), by omega, rfl, lt, pv'⟩, fun u H' hu => ?_⟩
    obtain ⟨eH, c, hc, eu⟩ := hu
    subst eH eu
    exact hs i c _ (by rw [← hc]; exact Array.getElem?_toList) pv
  · obtain rfl : i = (sg x).length := by omega
    exact .inl ⟨by show x.cps.size ≤ (sg x).length; omega, hd G pv⟩
end
section
variable {α β : Type} [DecidableEq α] [Datum α] [DecidableEq β] [Datum β] {K : PySem.W.Frag} {σ : L2.St} {H : Hp} {te tl : TE} {t : TT} {g1 : TG} {vs : List Nat}
/-- [te for j in text] -/
theorem en_lcS [PureD β] {x : Str} (g : Nat → β) (h : Ev tl σ H (.str x)) (hz : x.length ≤ 40000)
    (tg : ∀ c H1 (R : L2.St → Hp → Prop), Ex H H1 → (∀ σ2 H2, Ex H1 H2 → wipe σ2 vs = wipe σ vs → EvT t σ2 H2 true → EvD K te σ2 H2 (g c) → R σ2 H2) → g1 (.str ⟨#[c]⟩) (wipe σ vs) H1 R) : EvN K (tLc (iStr tl) g1 t te vs) σ H ((sg x).map g) := fun H0 e Q q => h H0 e _ fun H1 e1 => by
  have q2 : ∀ p ws H2, H0 p = none → Ex H0 H2 → H2 p = some (.lst ws) → Hds K H2 ws ((((sg x).map g).filter fun _ => true).map fun y => y) → Q (.ref p) H2 := by
    rw [filt_true, List.map_id']
    exact q
  have lx : (sg x).length ≤ 40000 := by rw [← TL.len_tl]; exact hz
  refine ⟨x, rfl, fun Dl hD => lc_text (Cd K H1 (fun _ : β => true) (fun y => y) ((sg x).map g) Dl) ⟨hD, Ex.new hD, [], upd_same, by rw [List.take_zero]; exact .nil, Nat.le_refl _⟩ (fun i c G hc p => ?_) (fun G p => cd_end e1 q2 (List.length_map _).symm p)⟩
  have hi := (List.getElem?_eq_some_iff.mp hc).1
  have hy : ((sg x).map g)[i]? = some (g c) := by rw [List.getElem?_map, hc]; rfl
  refine tg c G _ ((e.trans e1).trans p.2.1) fun σ2 H2 e2 w ht he => ⟨w, ?_⟩
  have p' : Cd K H1 (fun _ : β => true) (fun y => y) ((sg x).map g) Dl i H2 := by
    obtain ⟨p1, p2, acc, p3, p4, p5⟩ := p
    exact ⟨p1, p2.trans e2, acc, e2 _ _ p3, hds_ex e2 p4, p5⟩
  exact cd_turn p' hy (by omega) ht fun _ => he
/-- [te for j in xs], te raising where f says none -/
theorem lc_raise [PureD β] {xs : List α} {f : α → Option β} {Q : VK} {Err : Hp → Prop} (h : EvD K tl σ H xs) (hz : xs.length ≤ 40000)
    (tg : ∀ (v : V) (x : α) H1 (R : L2.St → Hp → Prop), x ∈ xs → Ex H H1 → Hd K H1 v x → (∀ σ2 H2, Ex H1 H2 → wipe σ2 vs = wipe σ vs → EvT t σ2 H2 true → (∀ H3, Ex H2 H3 → ∀ Q' : VK, (∀ y, f x = some y → ∀ u H4, Ex H3 H4 → Hd K H4 u y → Q' u H4) → (f x = none → ∀ H4, Ex H3 H4 → Err H4) → te σ2 H3 Q') → R σ2 H2) → g1 v (wipe σ vs) H1 R)
    (q : ∀ ys, mpO f xs = some ys → ∀ p ws H2, H p = none → Ex H H2 → H2 p = some (.lst ws) → Hds K H2 ws ys → Q (.ref p) H2) (er : mpO f xs = none → ∀ H2, Ex H H2 → Err H2) : tLc (iList K tl) g1 t te vs σ H Q := h H (Ex.refl _) _ fun v H1 e1 hv => by
  obtain ⟨a, ws, rfl, hs, hd⟩ := hd_list hv
  have lw := hds_len hd
  refine ⟨a, rfl, ⟨ws, hs⟩, fun Dl hD => lc_list (xs := ws) (fun i G => Ex H1 G ∧ ∃ acc ys, mpO f (xs.take i) = some ys ∧ G Dl = some (.lst acc) ∧ Hds K G acc ys) ⟨Ex.new hD, [], [], by rw [List.take_zero]; rfl, upd_same, .nil⟩ (fun i G _ p => ex_l p.1 hs) (fun i y G hi p => ?_) (fun G p => ?_)⟩
  · obtain ⟨eG, acc, ys, hm, hDl, hacc⟩ := p
    obtain ⟨x, hx, dx⟩ := hds_getV hd hi
    have hlt := (List.getElem?_eq_some_iff.mp hx).1
    have tk : mpO f (xs.take (i + 1)) = (f x).map fun y => ys ++ [y] := by
      rw [List.take_add_one, hx, mpO_app, hm]
      show (mpO f [x]).map _ = _
      rw [mpO_one]
      cases f x <;> rfl
    refine tg y x G _ (List.mem_of_getElem? hx) (e1.trans eG) (hd_ex eG dx) fun σ2 H2 e2 w ht run => ⟨w, ?_⟩
    refine ht H2 (Ex.refl _) _ fun H3 e3 => ?_
    rw [if_pos rfl]
    have e23 := e2.trans e3
    refine run H3 e3 _ (fun z hz2 u H4 e4 hu => ?_) fun hn H4 e4 => er (mpO_bad (List.mem_of_getElem? hx) hn) H4 ((e1.trans eG).trans (e23.trans e4))
    have h4 := e4 _ _ (e23 _ _ hDl)
    have la := hds_len hacc
    have ly := mpO_len hm
    rw [List.length_take] at ly
    have tx : Tx H4 (upd H4 Dl (.lst (acc ++ [u]))) := .mut (by rw [h4]; trivial)
    refine ⟨acc, h4, sz_lt (by omega), Ex.mut (eG.trans (e23.trans e4)) hD, acc ++ [u], ys ++ [z], by rw [tk, hz2]; rfl, upd_same, hds_app (hds_tx tx (hds_ex (e23.trans e4) hacc)) (hds_one (hd_tx tx hu))⟩
  · obtain ⟨eG, acc, ys, hm, hDl, hacc⟩ := p
    rw [lw, List.take_length] at hm
    exact q ys hm Dl acc G (fresh_back e1 hD) (e1.trans eG) hDl hacc
end
end OA

/-! OTW: texts written and read -/
namespace OA
open PySem PySem.Spec PyProof.Rows L2 Evl
open PySem.W (Datum Tup T3 DatumOrd)
theorem sg_one (c : Nat) : sg ⟨#[c]⟩ = [c] := rfl
theorem eq_nought {c : Nat} : decide ((⟨#[c]⟩ : Str) = "0") = decide (c = 48) := decide_eq_decide.mpr ⟨fun e => by
  have := congrArg sg e
  rw [sg_one, show sg ("0" : Str) = [48] by decide] at this
  injection this, fun e => by rw [e]; exact TL.ext_tl (by decide)⟩
theorem split_len {t y : Str} {c : Nat} (hy : sg y = [c]) (hk : y.cps.all (· < 256) = true) : (Txt.split t y).length ≤ t.length + 1 ∧ ∀ w ∈ Txt.split t y, w.length ≤ t.length := by
  have s := split_sum (t := t) hy hk
  refine ⟨?_, fun w hw => ?_⟩
  · have := sum_ge (w := 1) (l := (Txt.split t y).map fun w => w.length + 1) fun x hx => by
      obtain ⟨u, _, rfl⟩ := List.mem_map.mp hx
      omega
    rw [List.length_map] at this
    omega
  · have : ∀ (l : List Nat), ∀ x ∈ l, x ≤ l.sum := fun l => by
      induction l with
      | nil => intro x hx; exact nomatch hx
      | cons a l ih =>
        intro x hx
        rw [List.sum_cons]
        rcases List.mem_cons.mp hx with z | z
        · omega
        · have := ih x z
          omega
    have := this ((Txt.split t y).map fun w => w.length + 1) (w.length + 1) (List.mem_map.mpr ⟨w, hw, rfl⟩)
    omega
theorem split_cons {t : Str} : ∃ x rs, Txt.split t "\n" = x :: rs := by
  have := split_cnt (t := t) sg_nl k_nl
  cases e : Txt.split t "\n" with
  | nil => rw [e] at this; cases this
  | cons x rs => exact ⟨x, rs, rfl⟩
section
variable {K : PySem.W.Frag} {A : Ads} {vs : List V} {H : Hp} {Q : VK} {E : XK}
theorem EvD.st {te : TE} {σ : L2.St} {x : Str} (h : EvD K te σ H x) : Ev te σ H (.str x) := fun H1 e Q q => h H1 e Q fun v H2 e2 hv => by
  rw [hd_str (K := K) (H := H2) hv]
  exact q H2 e2
theorem ed_tod {α β : Type} [DecidableEq α] [Datum α] [DecidableEq β] [Datum β] {te : TE} {σ : L2.St} {x : α} {y : β} (h : EvD K te σ H x) (e : Datum.toD x = Datum.toD y) : EvD K te σ H y := fun H1 e1 Q q => h H1 e1 Q fun v H2 e2 hv => q v H2 e2 (by
  have hv' : Dq K H2 v (Datum.toD x) := hv
  rw [e] at hv'
  exact hv')
/-- the look whether all signs are figures -/
theorem ev_figs {te : TE} {σ : L2.St} {w : Str} {i : Nat} (h : Ev te σ H (.str w)) (hz : w.length ≤ 40000) (hi : ∀ c : Nat, ((wipe σ [i]).set i (some (.str ⟨#[c]⟩)))[i]? = some (some (.str ⟨#[c]⟩))) (hw : ∀ c : Nat, wipe ((wipe σ [i]).set i (some (.str ⟨#[c]⟩))) [i] = wipe σ [i]) : Ev (tCB (rAll K) (tCons (tLc (iStr te) (gName i) tYes (tOp rInS (tVar i) (tC (.str "0123456789"))) [i]) tNil)) σ H (.bl ((sg w).all isFig)) :=
  ev_is (ev_all (K := K) (bs := (sg w).map isFig) (EvN.d (en_lcS isFig h hz fun c H1 R e qq => qq _ H1 (Ex.refl _) (hw c) (fun H1 _ _ q => q H1 (Ex.refl H1)) (ed_bool (ev_inS (ev_var (hi c))))))) (by rw [List.all_map]; rfl)
/-! number_in -/
def sp_number_in (K : PySem.W.Frag) (A : Ads) : Sp := Spn 1 fun vs H Q E => ∃ w : Str, vs = [.str w] ∧ w.length ≤ 40000 ∧ (∀ n, numW w = some n → ∀ H', Ex H H' → Q (.int n) H') ∧ (numW w = none → ∀ H', Ex H H' → E (.ref A.BadText) none H')
def t_number_in (K : PySem.W.Frag) (A : Ads) (W : WX) : TS :=
  (tSeq (tIfS (tOr (tNot (tTest (tChain rLeI rLeI (tC (.int 1)) (tCB rLenStr (tCons (tVar 0) tNil)) (tC (.int 5))))) (tOr (tNot (tB (tCB (rAll K) (tCons (tLc (iStr (tVar 0)) (gName 1) tYes (tOp rInS (tVar 1) (tC (.str "0123456789"))) [1]) tNil)))) (tAnd (tTest (tOp (rEqP K) (tOp (rIx K) (tVar 0) (tC (.int 0))) (tC (.str "0")))) (tTest (tOp (rNeP K) (tVar 0) (tC (.str "0"))))))) (tRs W A.BadText) tNext)
    (tRet (tCB rIntStr (tCons (tVar 0) tNil))))
theorem pu_number_in (h : sp_number_in K A vs H Q E) : t_number_in K A (WXE E) (DQ Q) (start ["word", "sign"] vs) H := by
  obtain ⟨_, w, rfl, hz, qs, qn⟩ := h
  have len : ∀ {H1 : Hp}, Ev (tCB rLenStr (tCons (tVar 0) tNil)) (start ["word", "sign"] [.str w]) H1 (.int (w.length : Int)) := ev_lenS (ev_var rfl) (by omega)
  have lenT : EvT (tTest (tChain rLeI rLeI (tC (.int 1)) (tCB rLenStr (tCons (tVar 0) tNil)) (tC (.int 5)))) (start ["word", "sign"] [.str w]) H (decide (1 ≤ (w.length : Int)) && decide ((w.length : Int) ≤ 5)) := et_test (ec_lele ev_c len ev_c)
  refine q_when (b := !numOk w) ?_ (fun hb H1 e1 => qn ?_ H1 e1) (fun hb H1 e1 => ?_)
  · by_cases hl : (decide (1 ≤ (w.length : Int)) && decide ((w.length : Int) ≤ 5)) = true
    · have h1 : 1 ≤ w.length := by
        rw [Bool.and_eq_true, decide_eq_true_iff] at hl
        omega
      have lsg : (sg w).length = w.length := (TL.len_tl w).symm
      obtain ⟨c, hc⟩ : ∃ c, (sg w)[0]? = some c := ⟨_, List.getElem?_eq_getElem (by omega)⟩
      have bz : decide ((⟨#[c]⟩ : Str) = "0") = decide ((sg w)[0]? = some 48) := by
        rw [eq_nought, hc]
        exact decide_eq_decide.mpr ⟨fun e => by rw [e], fun e => Option.some.inj e⟩
      refine et_is (et_or (et_not lenT) fun _ => et_or (et_not (et_B (ev_figs (ev_var rfl) hz (fun c => rfl) fun c => rfl))) fun _ => et_and (et_is (et_test (ev_eqD (K := K) (x := (⟨#[c]⟩ : Str)) (y := ("0" : Str)) (ed_str (ev_ixS2 (K := K) (ev_var rfl) ev_c (by omega) (atI_nat (j := 0) hc))) (ed_str ev_c))) bz) fun _ => et_test (ev_neD (K := K) (x := w) (y := ("0" : Str)) (ed_str (ev_var rfl)) (ed_str ev_c))) ?_
      unfold numOk
      rw [hl]
      cases (sg w).all isFig <;> cases (decide ((sg w)[0]? = some 48) && !decide (w = "0")) <;> rfl
    · have hf : (decide (1 ≤ (w.length : Int)) && decide ((w.length : Int) ≤ 5)) = false := by simpa using hl
      refine et_is (et_or (b := false) (et_not (et_is lenT hf)) fun z => by cases z) ?_
      unfold numOk
      rw [hf]
      rfl
  · unfold numW
    rw [if_neg (by rw [Bool.not_eq_true'] at hb; rw [hb]; exact Bool.false_ne_true)]
  · have ok : numOk w = true := by simpa using hb
    have z := ok
    unfold numOk at z
    rw [Bool.and_eq_true, Bool.and_eq_true, Bool.and_eq_true, decide_eq_true_iff, decide_eq_true_iff] at z
    exact s_rets (ev_intS (ev_var rfl) (int_num z.2.1 (by omega) (by omega)) (by omega)) fun H2 e2 => qs _ (by unfold numW; rw [if_pos ok]) H2 (e1.trans e2)
/-! numbers_in -/
def sp_numbers_in (K : PySem.W.Frag) (A : Ads) : Sp := Spn 2 fun vs H Q E => ∃ (v : V) (ws : List Str), vs = [v, .int 2] ∧ Hd K H v ws ∧ ws.length ≤ 40000 ∧ (∀ w ∈ ws, w.length ≤ 40000) ∧ (∀ p, pairW ws = some p → ∀ u H', Ex H H' → Hd K H' u p → Q u H') ∧ (pairW ws = none → ∀ H', Ex H H' → E (.ref A.BadText) none H')
def t_numbers_in (K : PySem.W.Frag) (A : Ads) (W : WX) : TS :=
  (tSeq (tIfS (tTest (tOp (rNeP K) (tCB (rLenS K) (tCons (tVar 0) tNil)) (tVar 1))) (tRs W A.BadText) tNext)
    (tRet (tThen (tLc (iList K (tVar 0)) (gName 2) tYes (tCallS (sp_number_in K A) (WE W) (tCons (tVar 2) tNil)) [2]) (kTupP K))))
theorem pu_numbers_in (h : sp_numbers_in K A vs H Q E) : t_numbers_in K A (WXE E) (DQ Q) (start ["words", "many", "word"] vs) H := by
  obtain ⟨_, v, ws, rfl, hv, hl, hw, qs, qn⟩ := h
  refine q_when (b := !decide ((ws.length : Int) = 2)) (et_test (ev_neD (K := K) (ed_int (ev_lenL (K := K) (ed_var rfl hv))) (ed_int (ev_var rfl)))) (fun hb H1 e1 => qn ?_ H1 e1) (fun hb H1 e1 => ?_)
  · cases z : pairW ws with
    | none => rfl
    | some p =>
      obtain ⟨x, y, e, _⟩ := pairW_some z
      rw [e] at hb
      cases hb
  · have l2 : ws.length = 2 := by
      have : (ws.length : Int) = 2 := by simpa using hb
      omega
    have hv1 := hd_ex e1 hv
    refine lc_raise (K := K) (Q := fun x G => kTupP K x G Q) (σ := start ["words", "many", "word"] [v, .int 2]) (tl := tVar 0) (g1 := gName 2) (t := tYes) (te := tCallS (sp_number_in K A) (WE (WXE E)) (tCons (tVar 2) tNil)) (vs := [2]) (f := numW) (Err := fun G => E (.ref A.BadText) none G) (ed_var rfl hv1) hl (fun u x H2 R hx e2 hu qq => qq _ H2 (Ex.refl _) rfl (fun H1 _ _ q => q H1 (Ex.refl H1)) fun H3 e3 Q' ys yn => ?_) (fun ns hns p wl H2 hp e2 h2 d2 => ?_) fun hn H2 e2 => ?_
    · rw [hd_str (K := K) hu]
      exact ⟨.str x, rfl, ⟨rfl, x, rfl, hw x hx, fun n hn H4 e4 => ys n hn _ H4 e4 (of_int n), fun hn H4 e4 => yn hn H4 e4⟩⟩
    · have ln := mpO_len hns
      match ns, (ln.trans l2) with
      | [a, b], _ =>
        refine .inl ⟨p, wl, rfl, sq_of h2, fun q o hq hod => ?_⟩
        have e3 := Ex.new (o := .frz o (.tup wl)) hq
        have ht : Hd K (upd H2 q (.frz o (.tup wl))) (.ref q) (Tup.mk [a, b]) := of_tup (pl_of upd_same hod) (hds_ex e3 d2)
        refine qs (a, b) ?_ _ _ ((e1.trans e2).trans e3) ht
        unfold pairW
        rw [hns]
    · refine qn ?_ H2 (e1.trans e2)
      unfold pairW
      rw [hn]
/-! a book's text -/
theorem strI_le {n : Int} (h0 : 0 ≤ n) (h1 : n < 100000) : (strI n).length ≤ 5 := by
  rw [TL.len_tl]
  exact strI_len h0 (by decide) (by omega)
theorem doorT_le {p : Int × Int} (h : DoorB p) : (doorT p).length ≤ 11 := by
  have a := strI_le h.1.1 h.1.2
  have b := strI_le h.2.1 h.2.2
  have c : (":" : Str).length = 1 := by decide
  have e : (doorT p).length = (strI p.1).length + (":" : Str).length + (strI p.2).length := by
    unfold doorT
    rw [TL.len_tl, TL.tl_append, TL.tl_append, List.length_append, List.length_append, ← TL.len_tl, ← TL.len_tl, ← TL.len_tl]
  omega
theorem sum_le {w : Nat} : ∀ {l : List Nat}, (∀ x ∈ l, x ≤ w) → l.sum ≤ l.length * w
  | [], _ => Nat.zero_le _
  | x :: l, h => by
    have := sum_le fun y hy => h y (List.mem_cons_of_mem _ hy)
    have := h x List.mem_cons_self
    rw [List.sum_cons, List.length_cons, Nat.add_mul]
    omega
theorem join_le {y : Str} {ps : List Str} {w : Nat} {c : Nat} (hy : sg y = [c]) (h : ∀ p ∈ ps, p.length ≤ w) : (Txt.join y ps).length ≤ ps.length * (w + 1) := by
  have := len_join (c := c) (w := w) (ps := ps.map sg) fun p hp => by
    obtain ⟨q, hq, rfl⟩ := List.mem_map.mp hp
    rw [← TL.len_tl]
    exact h q hq
  rw [List.length_map, ← hy, ← sg_join, ← TL.len_tl] at this
  exact this
theorem rowT_le {r : Rm} (h : ∀ p ∈ r, DoorB p) (l : r.length < 60) : (rowT r).length ≤ 720 := by
  have := join_le (y := " ") (ps := r.map doorT) (w := 11) sg_sp fun p hp => by
    obtain ⟨q, hq, rfl⟩ := List.mem_map.mp hp
    exact doorT_le (h q hq)
  unfold rowT
  rw [List.length_map] at this
  omega
def sp_law_text (K : PySem.W.Frag) (A : Ads) : Sp := Spn 1 fun vs H Q E => ∃ (v : V) (n : Int) (F : List Rm) (m : Int), vs = [v] ∧ Hd K H v (T3.mk n (tlD F) m) ∧ BookB n F m ∧ F.length ≤ 1000 ∧ (∀ r ∈ F, r.length < 60) ∧ ∀ H', Ex H H' → Q (.str (textF n F m)) H'
def t_law_text (K : PySem.W.Frag) (A : Ads) (W : WX) : TS :=
  (tSeq (tAsg (tLst (tCons (tOp rAddS (tOp rAddS (tCB rStrInt (tCons (tOp (rIx K) (tVar 0) (tC (.int 0))) tNil)) (tC (.str " "))) (tCB rStrInt (tCons (tOp (rIx K) (tVar 0) (tC (.int 2))) tNil))) tNil)) (gName 1))
    (tSeq (tFor (iList K (tOp (rIx K) (tVar 0) (tC (.int 1)))) (gName 2) (tDrop (tBM K "list" rAppend (tVar 1) (tCons (tBM K "str" (rJoinQ K) (tC (.str " ")) (tCons (tLc (iTup K (tVar 2)) (gTup K 2 (gCons (gName 3) (gCons (gName 4) gNil))) tYes (tOp rAddS (tOp rAddS (tCB rStrInt (tCons (tVar 3) tNil)) (tC (.str ":"))) (tCB rStrInt (tCons (tVar 4) tNil))) [3, 4]) tNil)) tNil))))
    (tRet (tBM K "str" (rJoinQ K) (tC (.str "\n")) (tCons (tVar 1) tNil)))))
theorem pu_law_text (h : sp_law_text K A vs H Q E) : t_law_text K A (WXE E) (DQ Q) (start ["_law_book", "_law_rows", "_law_doors", "_law_thing", "_law_other"] vs) H := by
  obtain ⟨_, v, n, F, m, rfl, hv, B, hF, h60, q⟩ := h
  obtain ⟨t, u1, u2, u3, rfl, hp0, b1, b2, b3⟩ := hd_t3 hv
  have n5 := B.n
  have m5 := B.m
  have ln := strI_le n5.1 n5.2
  have lm := strI_le m5.1 m5.2
  have l1 : (" " : Str).length = 1 := by decide
  have lh : (strI n ++ " ").length ≤ 6 := by
    rw [TL.len_tl, TL.tl_append, List.length_append, ← TL.len_tl, ← TL.len_tl]
    omega
  have lh2 : (strI n ++ " " ++ strI m).length ≤ 11 := by
    rw [TL.len_tl, TL.tl_append, List.length_append, ← TL.len_tl, ← TL.len_tl]
    omega
  refine qn_asg (K := K) (xs := [strI n ++ " " ++ strI m]) (en_lstA (eas_cons (ed_str (ev_addS (ev_addS (ev_strI (EvD.int (ed_t3a (K := K) (x := n) (y := tlD F) (z := m) (ed_var rfl hv) ev_c)) (by omega)) ev_c (by omega)) (ev_strI (EvD.int (ed_t3c (K := K) (x := n) (y := tlD F) (z := m) (ed_var rfl hv) ev_c)) (by omega)) (by omega))) eas_nil) (by show 1 ≤ 100000; decide)) fun pr wr H1 hpr e1 h1 d1 => ?_
  refine q_forLV (K := K) (xs := tlD F) (v := u2) (H0 := H) (ev_ixP (ev_var rfl) (ex_p e1 hp0) ev_c rfl) e1 b2 (fun H2 i σ' H' => ∃ (x2 : Option V) (ws : List V), σ' = [some (.ref t), some (.ref pr), x2, none, none] ∧ Ex H H' ∧ Tx H2 H' ∧ H' pr = some (.lst ws) ∧ Hds K H' ws ((strI n ++ " " ++ strI m) :: (F.take i).map rowT))
    (fun H2 e2 => ⟨none, wr, rfl, e1.trans e2, .refl _, e2 _ _ h1, by rw [List.take_zero]; exact hds_ex e2 d1⟩) (fun H2 i σ' H' ⟨_, _, _, _, t, _⟩ => t) (fun H2 i σ' H' _ ⟨_, _, _, e, _⟩ a ws _ hs => ex_l e hs) ?_ ?_
  · rintro H2 i u x σ' H' e2 hx hu ⟨x2, ws, rfl, e, tx, h2, d2⟩
    rw [List.getElem?_map] at hx
    obtain ⟨r, hr, rfl⟩ := Option.map_eq_some_iff.mp hx
    have hrm := List.mem_of_getElem? hr
    obtain ⟨rne, rB⟩ := B.F r hrm
    have r60 := h60 r hrm
    have tk : F.take (i + 1) = F.take i ++ [r] := by rw [List.take_add_one, hr]; rfl
    have lw : ws.length ≤ 1001 := by
      have := hds_len d2
      rw [List.length_cons, List.length_map, List.length_take] at this
      omega
    have sums : ((r.map doorT).map (·.length)).sum + (r.map doorT).length * (" " : Str).length ≤ 16777216 := by
      have := sum_le (w := 11) (l := (r.map doorT).map (·.length)) fun x hx => by
        rw [List.map_map] at hx
        obtain ⟨p, hp, rfl⟩ := List.mem_map.mp hx
        exact doorT_le (rB p hp)
      rw [List.length_map, List.length_map] at this
      rw [List.length_map, l1]
      omega
    refine s_appD (K := K) (x := rowT r) h2 (ev_var rfl) (ed_str (ev_join (K := K) (ys := r.map doorT) (EvN.d (EvN.is (en_lcT (fun _ => true) doorT (ed_var rfl hu) (by omega) fun y p H3 G hp e3 hy qq => g_pairD (K := K) (x := p.1) (y := p.2) hy fun a b ha hb => qq _ H3 (Ex.refl _) rfl (fun H1 _ _ q => q H1 (Ex.refl H1)) fun _ => ?_) (by rw [filt_true]))) sums)) (by omega) fun w H3 e3 hw => ?_
    · have hB := rB p hp
      have la := strI_le hB.1.1 hB.1.2
      have lb := strI_le hB.2.1 hB.2.2
      have lc : (":" : Str).length = 1 := by decide
      have lac : (strI p.1 ++ ":").length ≤ 6 := by
        rw [TL.len_tl, TL.tl_append, List.length_append, ← TL.len_tl, ← TL.len_tl]
        omega
      have hB1 := hB.1
      have hB2 := hB.2
      exact ed_str (ev_addS (ev_addS (ev_strI (EvD.int (ed_var rfl ha)) (by omega)) ev_c (by omega)) (ev_strI (EvD.int (ed_var rfl hb)) (by omega)) (by omega))
    · have gf : Tx H3 (upd H3 pr (.lst (ws ++ [w]))) := .mut (by rw [e3 _ _ h2]; trivial)
      refine ⟨_, ws ++ [w], rfl, Ex.mut (e.trans e3) hpr, tx.trans ((Tx.ex e3).trans gf), upd_same, ?_⟩
      rw [tk, List.map_append]
      exact hds_app (ys := [rowT r]) (hds_tx gf (hds_ex e3 d2)) (hds_one (hd_tx gf hw))
  · rintro H2 σ' H' e2 ⟨x2, ws, rfl, e, tx, h2, d2⟩
    have lF : (tlD F).length = F.length := List.length_map _
    rw [lF, List.take_length] at d2
    refine s_rets (ev_join (K := K) (y := "\n") (ys := rowsT n F m) (ed_var rfl (of_list (sq_of h2) d2)) ?_) fun H3 e3 => q H3 (e.trans e3)
    have := sum_le (w := 720) (l := (rowsT n F m).map (·.length)) fun x hx => by
      obtain ⟨w, hw, rfl⟩ := List.mem_map.mp hx
      rcases List.mem_cons.mp hw with z | z
      · rw [z]; omega
      · obtain ⟨r, hr, rfl⟩ := List.mem_map.mp z
        exact rowT_le (B.F r hr).2 (h60 r hr)
    have lr : (rowsT n F m).length = F.length + 1 := by
      unfold rowsT
      rw [List.length_cons, List.length_map]
    have l2 : ("\n" : Str).length = 1 := by decide
    rw [List.length_map] at this
    rw [lr] at this
    rw [lr, l2]
    omega
def sp_written (K : PySem.W.Frag) (A : Ads) : Sp := Spn 1 fun vs H Q E => ∃ (v : V) (n : Int) (F : List Rm) (m : Int), vs = [v] ∧ BkH K H v n F m ∧ (¬ BkOk n F m → ∀ H', Ex H H' → E (.ref A.BadBook) none H') ∧ (BkOk n F m → BookB n F m ∧ ∀ H', Ex H H' → Q (.str (textF n F m)) H')
def t_written (K : PySem.W.Frag) (A : Ads) (W : WX) : TS :=
  (tSeq (tDrop (tCallS (sp_look_book K A) (WE W) (tCons (tVar 0) tNil)))
    (tSeq (tAsg (tLst (tCons (tOp rAddS (tOp rAddS (tCB rStrInt (tCons (tOp (rIx K) (tVar 0) (tC (.int 0))) tNil)) (tC (.str " "))) (tCB rStrInt (tCons (tOp (rIx K) (tVar 0) (tC (.int 2))) tNil))) tNil)) (gName 1))
    (tSeq (tFor (iList K (tOp (rIx K) (tVar 0) (tC (.int 1)))) (gName 2) (tDrop (tBM K "list" rAppend (tVar 1) (tCons (tBM K "str" (rJoinQ K) (tC (.str " ")) (tCons (tLc (iTup K (tVar 2)) (gTup K 2 (gCons (gName 3) (gCons (gName 4) gNil))) tYes (tOp rAddS (tOp rAddS (tCB rStrInt (tCons (tVar 3) tNil)) (tC (.str ":"))) (tCB rStrInt (tCons (tVar 4) tNil))) [3, 4]) tNil)) tNil))))
    (tRet (tBM K "str" (rJoinQ K) (tC (.str "\n")) (tCons (tVar 1) tNil))))))
theorem pu_written (h : sp_written K A vs H Q E) : t_written K A (WXE E) (DQ Q) (start ["book", "rows", "doors", "thing", "other"] vs) H := by
  obtain ⟨_, v, n, F, m, rfl, hb, qb, qo⟩ := h
  refine q_do ⟨v, rfl, ⟨rfl, v, n, F, m, rfl, hb, fun ok H1 e1 => ?_, fun z H1 e1 => qb z H1 e1⟩⟩
  obtain ⟨B, q⟩ := qo ok
  have hb1 := hb.ex e1
  exact pu_law_text (K := K) (A := A) (vs := [v]) (H := H1) (Q := Q) (E := E) ⟨rfl, v, n, F, m, rfl, hb1.hd, B, hb.len, hb.r60, fun H' e => q H' (e1.trans e)⟩
end
end OA

/-! OTR: texts read, and read by the law -/
namespace OA
open PySem PySem.Spec PyProof.Rows L2 Evl
open PySem.W (Datum Tup T3 DatumOrd)
abbrev NumsO := Option (Tup Int)
def numsO (ws : List Str) : NumsO := (mpO numW ws).map Tup.mk
abbrev BkT := T3 Int (List (Tup (Int × Int))) Int
def prsT (t : Str) : Option BkT := (prs t).map fun p => T3.mk p.1 (tlD p.2.1) p.2.2
theorem numsO_pair {ws : List Str} : (∃ p, pairW ws = some p ∧ numsO ws = some (Tup.mk [p.1, p.2])) ∨ (pairW ws = none ∧ (numsO ws = none ∨ ∃ t : Tup Int, numsO ws = some t ∧ t.items.length ≠ 2)) := by
  unfold pairW numsO
  cases mpO numW ws with
  | none => exact .inr ⟨rfl, .inl rfl⟩
  | some ns =>
    match ns with
    | [] => exact .inr ⟨rfl, .inr ⟨_, rfl, by show 0 ≠ 2; decide⟩⟩
    | [a] => exact .inr ⟨rfl, .inr ⟨_, rfl, by show 1 ≠ 2; decide⟩⟩
    | [a, b] => exact .inl ⟨(a, b), rfl, rfl⟩
    | a :: b :: c :: r => exact .inr ⟨rfl, .inr ⟨_, rfl, by show r.length + 1 + 1 + 1 ≠ 2; omega⟩⟩
/-- whether it is a door -/
def isDoor (o : NumsO) : Bool := match o with
  | none => false
  | some t => decide (t.items.length = 2)
theorem doors_some : ∀ {ws : List Str} {ds : Rm}, mpO doorW ws = some ds → ((ws.map fun w => numsO (Txt.split w ":")).all isDoor = true ∧ (ws.map fun w => numsO (Txt.split w ":")).map Datum.toD = ds.map Datum.toD)
  | [], ds, h => by cases h; exact ⟨rfl, rfl⟩
  | w :: ws, ds, h => by
    rw [mpO_cons] at h
    cases h1 : doorW w with
    | none => rw [h1] at h; cases h
    | some p =>
      cases h2 : mpO doorW ws with
      | none => rw [h1, h2] at h; cases h
      | some es =>
        rw [h1, h2] at h
        cases h
        obtain ⟨a, b⟩ := doors_some h2
        rcases numsO_pair (ws := Txt.split w ":") with ⟨p', e1, e2⟩ | ⟨e1, _⟩
        · have e1 : doorW w = some p' := e1
          rw [h1] at e1
          cases e1
          refine ⟨?_, ?_⟩
          · rw [List.map_cons, List.all_cons, a, e2]
            rfl
          · rw [List.map_cons, List.map_cons, List.map_cons, b, e2]
            rfl
        · have e1 : doorW w = none := e1
          rw [h1] at e1
          cases e1
theorem doors_none : ∀ {ws : List Str}, mpO doorW ws = none → (ws.map fun w => numsO (Txt.split w ":")).all isDoor = false := fun {ws} h => by
  obtain ⟨w, hw, e⟩ := mpO_none h
  refine List.all_eq_false.mpr ⟨numsO (Txt.split w ":"), List.mem_map.mpr ⟨w, hw, rfl⟩, ?_⟩
  rcases numsO_pair (ws := Txt.split w ":") with ⟨p', e1, _⟩ | ⟨_, e2 | ⟨t, e2, n⟩⟩
  · have e1 : doorW w = some p' := e1
    rw [e] at e1
    cases e1
  · rw [e2]
    exact Bool.false_ne_true
  · rw [e2]
    show ¬ decide (t.items.length = 2) = true
    rw [decide_eq_false n]
    exact Bool.false_ne_true
section
variable {K : PySem.W.Frag} {A : Ads} {vs : List V} {H : Hp} {Q : VK} {E : XK}
/-! law_numbers -/
def sp_law_numbers (K : PySem.W.Frag) (A : Ads) : Sp := Spn 1 fun vs H Q E => ∃ (v : V) (ws : List Str), vs = [v] ∧ Hd K H v ws ∧ ws.length ≤ 40000 ∧ (∀ w ∈ ws, w.length ≤ 40000) ∧ ∀ u H', Ex H H' → Hd K H' u (numsO ws) → Q u H'
def t_law_numbers (K : PySem.W.Frag) (A : Ads) (W : WX) : TS :=
  (tSeq (tAsg (tLst tNil) (gName 1))
    (tSeq (tFor (iList K (tVar 0)) (gName 2) (tSeq (tIfS (tOr (tTest (tOp (rEqP K) (tVar 2) (tC (.str "")))) (tOr (tTest (tOp rGtI (tCB rLenStr (tCons (tVar 2) tNil)) (tC (.int 5)))) (tOr (tNot (tB (tCB (rAll K) (tCons (tLc (iStr (tVar 2)) (gName 3) tYes (tOp rInS (tVar 3) (tC (.str "0123456789"))) [3]) tNil)))) (tTest (tOp (rNeP K) (tCB rStrInt (tCons (tCB rIntStr (tCons (tVar 2) tNil)) tNil)) (tVar 2)))))) (tRet (tC .non)) tNext)
    (tDrop (tBM K "list" rAppend (tVar 1) (tCons (tCB rIntStr (tCons (tVar 2) tNil)) tNil)))))
    (tRet (tThen (tVar 1) (kTupP K)))))
theorem pu_law_numbers (h : sp_law_numbers K A vs H Q E) : t_law_numbers K A (WXE E) (DQ Q) (start ["_law_words", "_law_found", "_law_word", "_law_one"] vs) H := by
  obtain ⟨_, v, ws, rfl, hv, hl, hw, q⟩ := h
  refine qn_asg (K := K) (xs := ([] : List Int)) (en_lstA eas_nil (by decide)) fun pf wf H1 hpf e1 h1 d1 => ?_
  refine q_forLV (K := K) (xs := ws) (v := v) (H0 := H) (ev_var rfl) e1 hv (fun H2 i σ' H' => ∃ (x2 : Option V) (acc : List V) (ns : List Int), σ' = [some v, some (.ref pf), x2, none] ∧ Ex H H' ∧ Tx H2 H' ∧ H' pf = some (.lst acc) ∧ Hds K H' acc ns ∧ mpO numW (ws.take i) = some ns)
    (fun H2 e2 => ⟨none, wf, [], rfl, e1.trans e2, .refl _, e2 _ _ h1, hds_ex e2 d1, by rw [List.take_zero]; rfl⟩) (fun H2 i σ' H' ⟨_, _, _, _, _, t, _⟩ => t) (fun H2 i σ' H' _ ⟨_, _, _, _, e, _⟩ a ws _ hs => ex_l e hs) ?_ ?_
  · rintro H2 i u w σ' H' e2 hx hu ⟨x2, acc, ns, rfl, e, tx, h2, d2, hm⟩
    rw [hd_str (K := K) hu]
    have hwm := List.mem_of_getElem? hx
    have lw := hw w hwm
    have hlt := (List.getElem?_eq_some_iff.mp hx).1
    have la := hds_len d2
    have ln := mpO_len hm
    rw [List.length_take] at ln
    have tk : mpO numW (ws.take (i + 1)) = (numW w).map fun y => ns ++ [y] := by
      rw [List.take_add_one, hx, mpO_app, hm]
      show (mpO numW [w]).map _ = _
      rw [mpO_one]
      cases numW w <;> rfl
    have tst : EvT (tOr (tTest (tOp (rEqP K) (tVar 2) (tC (.str "")))) (tOr (tTest (tOp rGtI (tCB rLenStr (tCons (tVar 2) tNil)) (tC (.int 5)))) (tOr (tNot (tB (tCB (rAll K) (tCons (tLc (iStr (tVar 2)) (gName 3) tYes (tOp rInS (tVar 3) (tC (.str "0123456789"))) [3]) tNil)))) (tTest (tOp (rNeP K) (tCB rStrInt (tCons (tCB rIntStr (tCons (tVar 2) tNil)) tNil)) (tVar 2)))))) [some v, some (.ref pf), some (.str w), none] H' (!numOk w) := by
      rw [← law_num]
      refine et_or (et_test (ev_eqD (K := K) (x := w) (y := ("" : Str)) (ed_str (ev_var rfl)) (ed_str ev_c))) fun h0 => et_or (et_test (ei_gt (ev_lenS (ev_var rfl) (by omega)) ev_c)) fun h5 => et_or (et_not (et_B (ev_figs (ev_var rfl) lw (fun c => rfl) fun c => rfl))) fun hd => ?_
      have h5 : ¬ (w.length : Int) > 5 := of_decide_eq_false h5
      have hd : (sg w).all isFig = true := by simpa using hd
      have h1 : 1 ≤ w.length := by
        rw [TL.len_tl]
        refine List.length_pos_iff.mpr fun z => of_decide_eq_false h0 (TL.ext_tl ?_)
        rw [z]
        rfl
      have hv : (numV w).natAbs < 1000000 := by
        have : ∀ (l : List Nat) (a : Nat), NumText.AllDigits l → l.foldl (fun acc c => acc * 10 + (c - 48)) a < (a + 1) * 10 ^ l.length := fun l => by
          induction l with
          | nil => intro a _; simp
          | cons c l ih =>
            intro a hd
            have hc := hd.head
            refine Nat.lt_of_lt_of_le (ih (a * 10 + (c - 48)) hd.tail) ?_
            rw [List.length_cons, Nat.pow_succ, Nat.mul_comm (10 ^ l.length) 10, ← Nat.mul_assoc]
            exact Nat.mul_le_mul_right _ (by omega)
        have z := this (sg w) 0 (all_digits hd)
        have l5 : (sg w).length ≤ 5 := by rw [← TL.len_tl]; omega
        have p5 : 10 ^ (sg w).length ≤ 10 ^ 5 := Nat.pow_le_pow_right (by decide) l5
        show (((sg w).foldl _ 0 : Nat) : Int).natAbs < 1000000
        rw [Int.natAbs_natCast]
        omega
      exact et_test (ev_neD (K := K) (x := strI (numV w)) (y := w) (ed_str (ev_strI (ev_intS (ev_var rfl) (int_num hd h1 (by omega)) (by omega)) hv)) (ed_str (ev_var rfl)))
    refine q_when tst (fun hb H3 e3 => s_rets ev_c fun H4 e4 => ?_) (fun hb H3 e3 => ?_)
    · refine q .non H4 ((e.trans e3).trans e4) ?_
      have hn : numW w = none := by
        unfold numW
        rw [if_neg (by rw [Bool.not_eq_true'] at hb; rw [hb]; exact Bool.false_ne_true)]
      unfold numsO
      rw [mpO_bad hwm hn]
      exact .non
    · have ok : numOk w = true := by simpa using hb
      have z := ok
      unfold numOk at z
      rw [Bool.and_eq_true, Bool.and_eq_true, Bool.and_eq_true, decide_eq_true_iff, decide_eq_true_iff] at z
      have hn : numW w = some (numV w) := by unfold numW; rw [if_pos ok]
      refine s_appD (K := K) (x := numV w) (e3 _ _ h2) (ev_var rfl) (ed_int (ev_intS (ev_var rfl) (int_num z.2.1 (by omega) (by omega)) (by omega))) (by omega) fun y H4 e4 hy => ?_
      have gf : Tx H4 (upd H4 pf (.lst (acc ++ [y]))) := .mut (by rw [e4 _ _ (e3 _ _ h2)]; trivial)
      exact ⟨_, acc ++ [y], ns ++ [numV w], rfl, Ex.mut ((e.trans e3).trans e4) hpf, tx.trans ((Tx.ex (e3.trans e4)).trans gf), upd_same, hds_app (hds_tx gf (hds_ex (e3.trans e4) d2)) (hds_one (hd_tx gf hy)), by rw [tk, hn]; rfl⟩
  · rintro H2 σ' H' e2 ⟨x2, acc, ns, rfl, e, tx, h2, d2, hm⟩
    rw [List.take_length] at hm
    refine (ed_tupOfL (K := K) (ed_var rfl (of_list (sq_of h2) d2))) H' (Ex.refl _) _ fun u H3 e3 hu => ?_
    refine q u H3 (e.trans e3) ?_
    unfold numsO
    rw [hm]
    exact hu
theorem ed_lawnumbers {te : TE} {σ : L2.St} {ws : List Str} {EX : L2.St → XK} (h : EvD K te σ H ws) (hl : ws.length ≤ 40000) (hw : ∀ w ∈ ws, w.length ≤ 40000) : EvD K (tCallS (sp_law_numbers K A) EX (tCons te tNil)) σ H (numsO ws) :=
  ed_cl1 h fun v H1 e1 d1 Q E q => ⟨rfl, v, ws, rfl, d1, hl, hw, fun u H' e hu => q u H' e hu⟩
/-! law_tried -/
def sp_law_tried (K : PySem.W.Frag) (A : Ads) : Sp := Spn 1 fun vs H Q E => ∃ t : Str, vs = [.str t] ∧ t.length ≤ 30000 ∧ ∀ u H', Ex H H' → Hd K H' u (prsT t) → Q u H'
def t_law_tried (K : PySem.W.Frag) (A : Ads) (W : WX) : TS :=
  (tSeq (tAsg (tBM K "str" rSplitQ (tVar 0) (tCons (tC (.str "\n")) tNil)) (gName 1))
    (tSeq (tAsg (tCallS (sp_law_numbers K A) (WE W) (tCons (tBM K "str" rSplitQ (tOp (rIx K) (tVar 1) (tC (.int 0))) (tCons (tC (.str " ")) tNil)) tNil)) (gName 2))
    (tSeq (tIfS (tOr (tTest (tOp rIsNn (tVar 2) (tC .non))) (tTest (tOp (rNeP K) (tCB (rLenS K) (tCons (tVar 2) tNil)) (tC (.int 2))))) (tRet (tC .non)) tNext)
    (tSeq (tAsg (tLst tNil) (gName 3))
    (tSeq (tFor (iList K (tSl (rSlL K) (tVar 1) (tPart (tC (.int 1))) tNoPart)) (gName 4) (tSeq (tAsg (tLc (iList K (tBM K "str" rSplitQ (tVar 4) (tCons (tC (.str " ")) tNil))) (gName 6) tYes (tCallS (sp_law_numbers K A) (WE W0) (tCons (tBM K "str" rSplitQ (tVar 6) (tCons (tC (.str ":")) tNil)) tNil)) [6]) (gName 5))
    (tSeq (tIfS (tNot (tB (tCB (rAll K) (tCons (tLc (iList K (tVar 5)) (gName 7) tYes (tAndV (tOp rIsNotNn (tVar 7) (tC .non)) (tOp (rEqP K) (tCB (rLenS K) (tCons (tVar 7) tNil)) (tC (.int 2)))) [7]) tNil)))) (tRet (tC .non)) tNext)
    (tDrop (tBM K "list" rAppend (tVar 3) (tCons (tThen (tVar 5) (kTupP K)) tNil))))))
    (tRet (tTupP (tCons (tOp (rIx K) (tVar 2) (tC (.int 0))) (tCons (tVar 3) (tCons (tOp (rIx K) (tVar 2) (tC (.int 1))) tNil))))))))))
theorem pu_law_tried (h : sp_law_tried K A vs H Q E) : t_law_tried K A (WXE E) (DQ Q) (start ["_law_text_here", "_law_rows", "_law_head", "_law_some", "_law_row", "_law_doors", "_law_word", "_law_door"] vs) H := by
  obtain ⟨_, t, rfl, lt, q⟩ := h
  obtain ⟨x, rs, es⟩ := split_cons (t := t)
  obtain ⟨sl1, sl2⟩ := split_len (t := t) sg_nl k_nl
  rw [es] at sl1 sl2
  have lx := sl2 x List.mem_cons_self
  rw [List.length_cons] at sl1
  obtain ⟨hx1, hx2⟩ := split_len (t := x) sg_sp k_sp
  have none' : ∀ H', Ex H H' → prs t = none → Q .non H' := fun H' e z => q .non H' e (by unfold prsT; rw [z]; exact .non)
  refine qn_asg (K := K) (xs := x :: rs) (EvN.is (en_split (ev_var rfl) (by omega)) es) fun pr wr H1 hpr e1 h1 d1 => ?_
  have dR := of_list (sq_of h1) d1
  refine qd_asg (ed_lawnumbers (K := K) (A := A) (ws := Txt.split x " ") (EvN.d (en_split (EvD.st (ed_ixL (K := K) (xs := x :: rs) (i := 0) (ed_var rfl dR) ev_c (atI_nat (j := 0) rfl))) (by omega))) (by omega) fun w hw => by have := hx2 w hw; omega) fun vh H2 e2 dH => ?_
  have e12 := e1.trans e2
  -- the head
  have head : ∀ {b : Bool}, (∀ y : NumsO, y = numsO (Txt.split x " ") → (!isDoor y) = b) → EvT (tOr (tTest (tOp rIsNn (tVar 2) (tC .non))) (tTest (tOp (rNeP K) (tCB (rLenS K) (tCons (tVar 2) tNil)) (tC (.int 2))))) [some (.str t), some (.ref pr), some vh, none, none, none, none, none] H2 b := fun {b} hb => by
    have hb := hb _ rfl
    generalize numsO (Txt.split x " ") = o at dH hb
    cases o with
    | none =>
      rw [hd_none dH]
      exact et_is (et_or (b := false) (et_test (ev_isN (x := .non) (ev_var rfl))) fun z => by simp at z) hb
    | some tt =>
      have dT : Hd K H2 vh tt := dH
      have nn : decide (vh = .non) = false := by
        obtain ⟨a, us, rfl, _⟩ := hd_tup (xs := tt.items) dT
        simp
      refine et_is (et_or (et_is (et_test (ev_isN (x := vh) (ev_var rfl))) nn) fun _ => et_test (ev_neD (K := K) (ed_int (ev_lenT (K := K) (xs := tt.items) (ed_var rfl dT))) (ed_int ev_c))) ?_
      rw [← hb]
      show (false || !decide ((tt.items.length : Int) = 2)) = !decide (tt.items.length = 2)
      rw [Bool.false_or]
      congr 1
      exact decide_eq_decide.mpr (by omega)
  have prsE : prs t = (pairW (Txt.split x " ")).bind fun p => (mpO rowW rs).map fun F => (p.1, F, p.2) := by
    unfold prs
    rw [es]
  rcases numsO_pair (ws := Txt.split x " ") with ⟨p, ep, en⟩ | ⟨ep, en⟩
  rotate_left
  · refine q_when (head (b := true) fun y hy => ?_) (fun _ H3 e3 => s_rets ev_c fun H4 e4 => none' H4 ((e12.trans e3).trans e4) (by rw [prsE, ep]; rfl)) (fun z => by cases z)
    rw [hy]
    rcases en with z | ⟨tt, z, n⟩
    · rw [z]; rfl
    · rw [z]
      show (!decide (tt.items.length = 2)) = true
      rw [decide_eq_false n]
      rfl
  refine q_when (head (b := false) fun y hy => by rw [hy, en]; rfl) (fun z => by cases z) (fun _ H3 e3 => ?_)
  have dHp : Hd K H3 vh (Tup.mk [p.1, p.2]) := by
    rw [en] at dH
    exact hd_ex e3 dH
  rw [ep] at prsE
  have e13 := e12.trans e3
  refine qn_asg (K := K) (xs := ([] : List (Tup (Int × Int)))) (en_lstA eas_nil (by decide)) fun ps wq H4 hps e4 h4 d4 => ?_
  have e14 := e13.trans e4
  have dR4 := hd_ex ((e2.trans e3).trans e4) dR
  have lrs : rs.length ≤ 40000 := by omega
  have cut1 : cutA (x :: rs) (some 1) none = rs := (cutA_from (xs := x :: rs) (k := 1) (by simp)).trans rfl
  refine q_forND (K := K) (xs := rs) (EvN.is (en_slL (lo := some 1) (hi := none) (ed_var rfl dR4) (eo_some ev_c) eo_none) cut1) (fun H5 i σ' H' => ∃ (x4 x5 : Option V) (acc : List V) (F : List Rm), σ' = [some (.str t), some (.ref pr), some vh, some (.ref ps), x4, x5, none, none] ∧ Go (fun y => y = ps) H5 H' ∧ H' ps = some (.lst acc) ∧ Hds K H' acc (tlD F) ∧ mpO rowW (rs.take i) = some F)
    (fun H5 e5 => ⟨none, none, wq, [], rfl, Go.refl _, e5 _ _ h4, hds_ex e5 d4, by rw [List.take_zero]; rfl⟩) (fun H5 i σ' H' ⟨_, _, _, _, _, g, _⟩ => g.tx) (fun p' ws' H5 i σ' H' hp' e5 hs ⟨_, _, _, _, _, g, _⟩ => g.keep _ _ (fun z => by rw [z, h4] at hp'; cases hp') hs) ?_ ?_
  · rintro H5 i u row σ' H' e5 hx hu ⟨x4, x5, acc, F, rfl, g, hps', dF, hm⟩
    rw [hd_str (K := K) hu]
    have hrm := List.mem_of_getElem? hx
    have lrow := sl2 row (List.mem_cons_of_mem _ hrm)
    obtain ⟨rl1, rl2⟩ := split_len (t := row) sg_sp k_sp
    have exH : Ex H H' := Go.under (e14.trans e5) (fun y hy => by rw [hy]; exact fresh_back e13 hps) g
    have hlt := (List.getElem?_eq_some_iff.mp hx).1
    have la := hds_len dF
    have ln := mpO_len hm
    rw [List.length_map] at la
    rw [List.length_take] at ln
    have tk : mpO rowW (rs.take (i + 1)) = (rowW row).map fun y => F ++ [y] := by
      rw [List.take_add_one, hx, mpO_app, hm]
      show (mpO rowW [row]).map _ = _
      rw [mpO_one]
      cases rowW row <;> rfl
    refine qd_asg (K := K) (x := (Txt.split row " ").map fun w => numsO (Txt.split w ":")) (EvN.d (EvN.is (en_lcL (fun _ => true) (fun w : Str => numsO (Txt.split w ":")) (EvN.d (en_split (ev_var rfl) (by omega))) (by omega) fun y w H6 G hw e6 hy qq => qq _ H6 (Ex.refl _) rfl (fun H1 _ _ q => q H1 (Ex.refl H1)) fun _ => ?_) (by rw [filt_true]))) fun vd H6 e6 dD => ?_
    · have lw := rl2 w hw
      obtain ⟨wl1, wl2⟩ := split_len (t := w) sg_co k_co
      exact ed_lawnumbers (K := K) (A := A) (EvN.d (en_split (EvD.st (ed_var rfl hy)) (by omega))) (by omega) fun z hz => by have := wl2 z hz; omega
    have tst : EvT (tNot (tB (tCB (rAll K) (tCons (tLc (iList K (tVar 5)) (gName 7) tYes (tAndV (tOp rIsNotNn (tVar 7) (tC .non)) (tOp (rEqP K) (tCB (rLenS K) (tCons (tVar 7) tNil)) (tC (.int 2)))) [7]) tNil)))) [some (.str t), some (.ref pr), some vh, some (.ref ps), some (.str row), some vd, none, none] H6 (!((Txt.split row " ").map fun w => numsO (Txt.split w ":")).all isDoor) := by
      refine et_not (et_B (ev_is (ev_all (K := K) (bs := ((Txt.split row " ").map fun w => numsO (Txt.split w ":")).map isDoor) (EvN.d (EvN.is (en_lcL (fun _ => true) isDoor (ed_var rfl dD) (by rw [List.length_map]; omega) fun y o H7 G ho e7 hy qq => qq _ H7 (Ex.refl _) rfl (fun H1 _ _ q => q H1 (Ex.refl H1)) fun _ => ed_bool ?_) (by rw [filt_true])))) (by rw [List.all_map]; rfl)))
      cases o with
      | none =>
        rw [hd_none hy]
        exact ev_is (ev_andV (b := false) (ev_isNotN (x := .non) (ev_var rfl)) fun z => by simp at z) (by rfl)
      | some tt =>
        have dT : Hd K H7 y tt := hy
        have nn : decide (y = .non) = false := by
          obtain ⟨a, us, rfl, _⟩ := hd_tup (xs := tt.items) dT
          simp
        refine ev_is (ev_andV (ev_isNotN (x := y) (ev_var rfl)) fun _ => ev_eqD (K := K) (ed_int (ev_lenT (K := K) (xs := tt.items) (ed_var rfl dT))) (ed_int ev_c)) ?_
        rw [nn]
        show V.bl (true && decide ((tt.items.length : Int) = 2)) = .bl (decide (tt.items.length = 2))
        rw [Bool.true_and]
        congr 1
        exact decide_eq_decide.mpr (by omega)
    cases er : rowW row with
    | none =>
      have er' : mpO doorW (Txt.split row " ") = none := er
      rw [doors_none er'] at tst
      refine q_when tst (fun _ H7 e7 => s_rets ev_c fun H8 e8 => none' H8 ((exH.trans e6).trans (e7.trans e8)) ?_) (fun z => by cases z)
      rw [prsE, mpO_bad hrm er]
      rfl
    | some ds =>
      have er' : mpO doorW (Txt.split row " ") = some ds := er
      obtain ⟨ad, td⟩ := doors_some er'
      rw [ad] at tst
      refine q_when tst (fun z => by cases z) (fun _ H7 e7 => ?_)
      refine s_appD (K := K) (x := Tup.mk ds) (e7 _ _ (e6 _ _ hps')) (ev_var rfl) (ed_tod (ed_tupOfL (K := K) (ed_var rfl (hd_ex e7 dD))) (by show PyData.tuple _ = .tuple _; rw [td])) (by omega) fun y H8 e8 hy => ?_
      have e68 := (e6.trans e7).trans e8
      have gf : Go (fun y => y = ps) H8 (upd H8 ps (.lst (acc ++ [y]))) := Go.mut (by rw [e8 _ _ (e7 _ _ (e6 _ _ hps'))]; trivial) rfl
      refine ⟨_, _, acc ++ [y], F ++ [ds], rfl, g.trans ((Go.ex e68).trans gf), upd_same, ?_, by rw [tk, er]; rfl⟩
      unfold tlD
      rw [List.map_append]
      exact hds_app (hds_tx gf.tx (hds_ex e68 dF)) (hds_one (hd_tx gf.tx hy))
  · rintro H5 σ' H' e5 ⟨x4, x5, acc, F, rfl, g, hps', dF, hm⟩
    rw [List.take_length] at hm
    have exH : Ex H H' := Go.under (e14.trans e5) (fun y hy => by rw [hy]; exact fresh_back e13 hps) g
    have dH' : Hd K H' vh (Tup.mk [p.1, p.2]) := hd_tx ((Tx.ex (e4.trans e5)).trans g.tx) dHp
    refine (ed_t3A (K := K) (x := p.1) (y := tlD F) (z := p.2) (ed_ixT (K := K) (xs := [p.1, p.2]) (i := 0) (ed_var rfl dH') ev_c rfl) (ed_var rfl (of_list (sq_of hps') dF)) (ed_ixT (K := K) (xs := [p.1, p.2]) (i := 1) (ed_var rfl dH') ev_c rfl)) H' (Ex.refl _) _ fun u H6 e6 hu => ?_
    refine q u H6 (exH.trans e6) ?_
    unfold prsT
    rw [prsE, hm]
    exact hu
end
end OA

/-! OTS: read, and whether it is a book -/
namespace OA
open PySem PySem.Spec PyProof.Rows L2 Evl
open PySem.W (Datum Tup T3 DatumOrd)
section
variable {K : PySem.W.Frag} {A : Ads} {vs : List V} {H : Hp} {Q : VK} {E : XK}
theorem q_asgX {te : TE} {i : Nat} {D : Ends} {σ : L2.St} (h : te σ H fun v H1 => D.nx (σ.set i (some v)) H1) : tAsg te (gName i) D σ H := h
theorem q_dropX {te : TE} {D : Ends} {σ : L2.St} (h : te σ H fun _ H1 => D.nx σ H1) : tDrop te D σ H := h
/-! law_is_book -/
def sp_law_is_book (K : PySem.W.Frag) (A : Ads) : Sp := Spn 1 fun vs H Q E => ∃ (v : V) (n : Int) (F : List Rm) (m : Int), vs = [v] ∧ BkH K H v n F m ∧ (BkOk n F m → ∀ H', Ex H H' → Q (.bl true) H') ∧ (¬ BkOk n F m → ∀ H', Ex H H' → Q (.bl false) H')
def t_law_is_book (K : PySem.W.Frag) (A : Ads) (W : WX) : TS :=
  (tSeq (tAsg (tC .non) (gName 1))
    (tCut (fun D σ H => (fun W : WX => (tDrop (tCallS (sp_look_book K A) (WE W) (tCons (tVar 0) tNil)))) (wKeep K (.ref A.BadBook) 2 1 D) D σ H)
    (tRet (tOp rIsNn (tVar 1) (tC .non)))))
theorem pu_law_is_book (xb : PySem.W.exmOne K (.ref A.BadBook) (.ref A.BadBook) = some true) (h : sp_law_is_book K A vs H Q E) : t_law_is_book K A (WXE E) (DQ Q) (start ["_law_tried_here", "_law_kept", "e"] vs) H := by
  obtain ⟨_, v, n, F, m, rfl, hb, qt, qf⟩ := h
  refine q_asg ev_c fun H1 e1 => ?_
  refine q_cut (M := fun σ' H' => ∃ a, σ' = [some v, some a, none] ∧ Ex H H' ∧ ((a = .non ∧ BkOk n F m) ∨ ((∃ p, a = .ref p) ∧ ¬ BkOk n F m))) ?_ ?_
  · refine q_dropX ⟨v, rfl, ⟨rfl, v, n, F, m, rfl, hb.ex e1, fun ok H2 e2 => ⟨.non, rfl, e1.trans e2, .inl ⟨rfl, ok⟩⟩, fun no H2 e2 => ⟨xb, rfl, fun a ha => ⟨.ref a, rfl, (e1.trans e2).trans (Ex.new ha), .inr ⟨⟨a, rfl⟩, no⟩⟩⟩⟩⟩
  · rintro σ' H' ⟨a, rfl, e, ⟨rfl, ok⟩ | ⟨⟨p, rfl⟩, no⟩⟩
    · exact s_rets (v := .bl true) (ev_is (ev_isN (x := .non) (ev_var rfl)) (by simp)) fun H2 e2 => qt ok H2 (e.trans e2)
    · exact s_rets (v := .bl false) (ev_is (ev_isN (x := .ref p) (ev_var rfl)) (by simp)) fun H2 e2 => qf no H2 (e.trans e2)
/-! read -/
def sp_read (K : PySem.W.Frag) (A : Ads) : Sp := Spn 1 fun vs H Q E => ∃ t : Str, vs = [.str t] ∧ t.length ≤ 30000 ∧ (∀ n F m, prs t = some (n, F, m) → F.length ≤ 1000 ∧ ∀ r ∈ F, r.length < 60) ∧
  (∀ n F m, prs t = some (n, F, m) → BkOk n F m → ∀ u H', Ex H H' → Hd K H' u (T3.mk n (tlD F) m) → Q u H') ∧ ((∀ n F m, prs t = some (n, F, m) → ¬ BkOk n F m) → ∀ H', Ex H H' → E (.ref A.BadText) none H')
def t_read (K : PySem.W.Frag) (A : Ads) (W : WX) : TS :=
  (tSeq (tAsg (tBM K "str" rSplitQ (tVar 0) (tCons (tC (.str "\n")) tNil)) (gName 1))
    (tSeq (tAsg (tCallS (sp_numbers_in K A) (WE W) (tCons (tBM K "str" rSplitQ (tOp (rIx K) (tVar 1) (tC (.int 0))) (tCons (tC (.str " ")) tNil)) (tCons (tC (.int 2)) tNil))) (gTup K 2 (gCons (gName 2) (gCons (gName 3) gNil))))
    (tSeq (tAsg (tLst tNil) (gName 4))
    (tSeq (tFor (iList K (tSl (rSlL K) (tVar 1) (tPart (tC (.int 1))) tNoPart)) (gName 5) (tDrop (tBM K "list" rAppend (tVar 4) (tCons (tThen (tLc (iList K (tBM K "str" rSplitQ (tVar 5) (tCons (tC (.str " ")) tNil))) (gName 6) tYes (tCallS (sp_numbers_in K A) (WE W) (tCons (tBM K "str" rSplitQ (tVar 6) (tCons (tC (.str ":")) tNil)) (tCons (tC (.int 2)) tNil))) [6]) (kTupP K)) tNil))))
    (tSeq (tAsg (tC .non) (gName 7))
    (tCut (fun D σ H => (fun W : WX => (tDrop (tCallS (sp_look_book K A) (WE W) (tCons (tTupP (tCons (tVar 2) (tCons (tVar 4) (tCons (tVar 3) tNil)))) tNil)))) (wKeep K (.ref A.BadBook) 8 7 D) D σ H)
    (tSeq (tIfS (tTest (tOp rIsNotNn (tVar 7) (tC .non))) (tRs W A.BadText) tNext)
    (tRet (tTupP (tCons (tVar 2) (tCons (tVar 4) (tCons (tVar 3) tNil))))))))))))
theorem pu_read (xb : PySem.W.exmOne K (.ref A.BadBook) (.ref A.BadBook) = some true) (h : sp_read K A vs H Q E) : t_read K A (WXE E) (DQ Q) (start ["text", "rows", "many", "first", "some", "row", "word", "kept", "e"] vs) H := by
  obtain ⟨_, t, rfl, lt, hsz, qs, qn⟩ := h
  obtain ⟨x, rs, es⟩ := split_cons (t := t)
  obtain ⟨sl1, sl2⟩ := split_len (t := t) sg_nl k_nl
  rw [es] at sl1 sl2
  have lx := sl2 x List.mem_cons_self
  rw [List.length_cons] at sl1
  obtain ⟨hx1, hx2⟩ := split_len (t := x) sg_sp k_sp
  have none' : ∀ H', Ex H H' → prs t = none → E (.ref A.BadText) none H' := fun H' e z => qn (fun n F m y => by rw [z] at y; cases y) H' e
  have prsE : prs t = (pairW (Txt.split x " ")).bind fun p => (mpO rowW rs).map fun F => (p.1, F, p.2) := by
    unfold prs
    rw [es]
  refine qn_asg (K := K) (xs := x :: rs) (EvN.is (en_split (ev_var rfl) (by omega)) es) fun pr wr H1 hpr e1 h1 d1 => ?_
  have dR := of_list (sq_of h1) d1
  refine qc_asg2 (cl2 (K := K) (EvN.d (en_split (EvD.st (ed_ixL (K := K) (xs := x :: rs) (i := 0) (ed_var rfl dR) ev_c (atI_nat (j := 0) rfl))) (by omega))) (ed_int ev_c) fun w1 w2 H2 e2 hw1 hw2 => ?_)
  rw [hd_int hw2]
  refine ⟨rfl, w1, Txt.split x " ", rfl, hw1, by omega, fun w hw => by have := hx2 w hw; omega, fun p ep u H3 e3 hu => ?_, fun en H3 e3 => none' H3 (e1.trans (e2.trans e3)) (by rw [prsE, en]; rfl)⟩
  refine g_pairD (K := K) (x := p.1) (y := p.2) hu fun u1 u2 h1' h2' => ?_
  rw [hd_int h1', hd_int h2']
  rw [ep] at prsE
  have e13 := e1.trans (e2.trans e3)
  have dR3 := hd_ex (e2.trans e3) dR
  clear hw1 hw2 h1' h2' hu
  refine qn_asg (K := K) (xs := ([] : List (Tup (Int × Int)))) (en_lstA eas_nil (by decide)) fun ps wq H4 hps e4 h4 d4 => ?_
  have e14 := e13.trans e4
  have dR4 := hd_ex e4 dR3
  have cut1 : cutA (x :: rs) (some 1) none = rs := (cutA_from (xs := x :: rs) (k := 1) (by simp)).trans rfl
  refine q_forND (K := K) (xs := rs) (EvN.is (en_slL (lo := some 1) (hi := none) (ed_var rfl dR4) (eo_some ev_c) eo_none) cut1) (fun H5 i σ' H' => ∃ (x5 : Option V) (acc : List V) (F : List Rm), σ' = [some (.str t), some (.ref pr), some (.int p.1), some (.int p.2), some (.ref ps), x5, none, none, none] ∧ Go (fun y => y = ps) H5 H' ∧ H' ps = some (.lst acc) ∧ Hds K H' acc (tlD F) ∧ mpO rowW (rs.take i) = some F)
    (fun H5 e5 => ⟨none, wq, [], rfl, Go.refl _, e5 _ _ h4, hds_ex e5 d4, by rw [List.take_zero]; rfl⟩) (fun H5 i σ' H' ⟨_, _, _, _, g, _⟩ => g.tx) (fun p' ws' H5 i σ' H' hp' e5 hs ⟨_, _, _, _, g, _⟩ => g.keep _ _ (fun z => by rw [z, h4] at hp'; cases hp') hs) ?_ ?_
  · rintro H5 i u row σ' H' e5 hx hu ⟨x5, acc, F, rfl, g, hps', dF, hm⟩
    rw [hd_str (K := K) hu]
    have hrm := List.mem_of_getElem? hx
    have lrow := sl2 row (List.mem_cons_of_mem _ hrm)
    obtain ⟨rl1, rl2⟩ := split_len (t := row) sg_sp k_sp
    have exH : Ex H H' := Go.under (e14.trans e5) (fun y hy => by rw [hy]; exact fresh_back e13 hps) g
    have hlt := (List.getElem?_eq_some_iff.mp hx).1
    have la := hds_len dF
    have ln := mpO_len hm
    rw [List.length_map] at la
    rw [List.length_take] at ln
    have tk : mpO rowW (rs.take (i + 1)) = (rowW row).map fun y => F ++ [y] := by
      rw [List.take_add_one, hx, mpO_app, hm]
      show (mpO rowW [row]).map _ = _
      rw [mpO_one]
      cases rowW row <;> rfl
    refine q_dropX ⟨.ref ps, rfl, .inl ⟨rfl, acc, sq_of hps'⟩, ?_⟩
    refine lc_raise (K := K) (Q := fun y G => kTupP K y G _) (σ := [some (.str t), some (.ref pr), some (.int p.1), some (.int p.2), some (.ref ps), some (.str row), none, none, none]) (tl := tBM K "str" rSplitQ (tVar 5) (tCons (tC (.str " ")) tNil)) (g1 := gName 6) (t := tYes)
      (te := tCallS (sp_numbers_in K A) (WE (WXE E)) (tCons (tBM K "str" rSplitQ (tVar 6) (tCons (tC (.str ":")) tNil)) (tCons (tC (.int 2)) tNil))) (vs := [6]) (f := doorW) (Err := fun G => E (.ref A.BadText) none G) (EvN.d (en_split (ev_var rfl) (by omega))) (by omega)
      (fun y w H6 R hw e6 hy qq => qq _ H6 (Ex.refl _) rfl (fun H1 _ _ q => q H1 (Ex.refl H1)) fun H7 e7 Q' ys yn => ?_) (fun ds hds q wl H6 hq e6 h6 d6 => ?_) fun hn H6 e6 => none' H6 (exH.trans e6) ?_
    · have lw := rl2 w hw
      obtain ⟨wl1, wl2⟩ := split_len (t := w) sg_co k_co
      refine cl2 (K := K) (EvN.d (en_split (t := w) (EvD.st (ed_var rfl (hd_ex e7 hy))) (by omega))) (ed_int ev_c) fun v1 v2 H8 e8 hv1 hv2 => ?_
      rw [hd_int hv2]
      exact ⟨rfl, v1, Txt.split w ":", rfl, hv1, by omega, fun z hz => by have := wl2 z hz; omega, fun pp hpp u H9 e9 hu => ys pp hpp u H9 (e8.trans e9) hu, fun hn H9 e9 => yn hn H9 (e8.trans e9)⟩
    · refine .inl ⟨q, wl, rfl, sq_of h6, fun q2 o hq2 hod => ?_⟩
      have e7 := Ex.new (o := .frz o (.tup wl)) hq2
      have ht : Hd K (upd H6 q2 (.frz o (.tup wl))) (.ref q2) (Tup.mk ds) := of_tup (pl_of upd_same hod) (hds_ex e7 d6)
      have h7 := e7 _ _ (e6 _ _ hps')
      refine ⟨ps, acc, .ref q2, rfl, rfl, h7, sz_lt (by omega), ?_⟩
      have gf : Go (fun y => y = ps) (upd H6 q2 (.frz o (.tup wl))) (upd (upd H6 q2 (.frz o (.tup wl))) ps (.lst (acc ++ [.ref q2]))) := Go.mut (by rw [h7]; trivial) rfl
      have er : rowW row = some ds := hds
      refine ⟨_, acc ++ [.ref q2], F ++ [ds], rfl, g.trans ((Go.ex (e6.trans e7)).trans gf), upd_same, ?_, by rw [tk, er]; rfl⟩
      unfold tlD
      rw [List.map_append]
      exact hds_app (hds_tx gf.tx (hds_ex (e6.trans e7) dF)) (hds_one (hd_tx gf.tx ht))
    · have er : rowW row = none := hn
      rw [prsE, mpO_bad hrm er]
      rfl
  · rintro H5 σ' H' e5 ⟨x5, acc, F, rfl, g, hps', dF, hm⟩
    rw [List.take_length] at hm
    have exH : Ex H H' := Go.under (e14.trans e5) (fun y hy => by rw [hy]; exact fresh_back e13 hps) g
    have hprs : prs t = some (p.1, F, p.2) := by rw [prsE, hm]; rfl
    obtain ⟨lF, r60⟩ := hsz _ _ _ hprs
    have dL := of_list (sq_of hps') dF
    refine q_asg ev_c fun H6 e6 => ?_
    have dL6 := hd_ex e6 dL
    refine q_cut (M := fun σ' G => ∃ a, σ' = [some (.str t), some (.ref pr), some (.int p.1), some (.int p.2), some (.ref ps), x5, none, some a, none] ∧ Ex H6 G ∧ ((a = .non ∧ BkOk p.1 F p.2) ∨ ((∃ q, a = .ref q) ∧ ¬ BkOk p.1 F p.2))) ?_ ?_
    · refine q_dropX (cl1 (K := K) (ed_t3A (x := p.1) (y := tlD F) (z := p.2) (ed_int (ev_var rfl)) (ed_var rfl dL6) (ed_int (ev_var rfl))) fun w H7 e7 hw => ?_)
      exact ⟨rfl, w, p.1, F, p.2, rfl, ⟨hw, lF, r60⟩, fun ok H8 e8 => ⟨.non, rfl, e7.trans e8, .inl ⟨rfl, ok⟩⟩, fun no H8 e8 => ⟨xb, rfl, fun a ha => ⟨.ref a, rfl, (e7.trans e8).trans (Ex.new ha), .inr ⟨⟨a, rfl⟩, no⟩⟩⟩⟩
    · rintro σ' G ⟨a, rfl, eG, ⟨rfl, ok⟩ | ⟨⟨q, rfl⟩, no⟩⟩
      · refine q_when (b := false) (et_is (et_test (ev_isNotN (x := .non) (ev_var rfl))) (by simp)) (fun z => by cases z) (fun _ H7 e7 => ?_)
        refine (ed_t3A (K := K) (x := p.1) (y := tlD F) (z := p.2) (ed_int (ev_var rfl)) (ed_var rfl (hd_ex (eG.trans e7) dL6)) (ed_int (ev_var rfl))) H7 (Ex.refl _) _ fun u H8 e8 hu => ?_
        exact qs _ _ _ hprs ok u H8 ((exH.trans e6).trans ((eG.trans e7).trans e8)) hu
      · refine q_when (b := true) (et_is (et_test (ev_isNotN (x := .ref q) (ev_var rfl))) (by simp)) (fun _ H7 e7 => ?_) (fun z => by cases z)
        refine qn (fun n F' m z ok => no ?_) H7 ((exH.trans e6).trans (eG.trans e7))
        rw [hprs] at z
        cases z
        exact ok
end
end OA

/-! O60: the law of texts -/
namespace OA
open PySem PySem.Spec PyProof.Rows L2 Evl
open PySem.W (Datum Tup T3 DatumOrd)
theorem no_bk60 {many : Int} : ¬ BkOk many [] 1 := fun z => z.2.1.2.2 rfl
theorem rise_len {b : Int} : ∀ (l : List Int) (a : Int), (∀ x ∈ l, a ≤ x ∧ x < b) → l.Pairwise (· < ·) → l.length ≤ (b - a).toNat
  | [], a, _, _ => Nat.zero_le _
  | x :: l, a, h, p => by
    rw [List.pairwise_cons] at p
    have hx := h x List.mem_cons_self
    have := rise_len l (x + 1) (fun y hy => ⟨by have := p.1 y hy; omega, (h y (List.mem_cons_of_mem _ hy)).2⟩) p.2
    rw [List.length_cons]
    omega
theorem bookS_of {many : Int} {S : List (List Int)} (h1 : 1 ≤ many) (h4 : many ≤ 4) (hS : SO many.toNat S) (lS : S.length ≤ 24) : BookS many (lawB many.toNat S).1 (lawB many.toNat S).2 := by
  have ok := lawB_bk h1 (by omega) hS
  have len : (lawB many.toNat S).1.length ≤ 96 := by
    by_cases z : S = []
    · unfold lawB
      rw [if_pos z]
      exact Nat.zero_le _
    · have := layF_len (d := many.toNat) (left := upTo many.toNat) (S := S) (F := []) (upTo_nodup _) z
      have h2 := Nat.mul_le_mul lS (show many.toNat ≤ 4 by omega)
      unfold lawB
      rw [if_neg z]
      rw [List.length_nil] at this
      omega
  refine ⟨⟨by omega, by omega⟩, ⟨ok.2.1.1, by have := ok.2.1.2.1; omega⟩, len, fun r hr => ?_⟩
  obtain ⟨k, hk⟩ := List.mem_iff_getElem?.mp hr
  have hlt := (List.getElem?_eq_some_iff.mp hk).1
  obtain ⟨a, b, c, d⟩ := ok.2.2.1 k r hk
  refine ⟨a, ?_, fun p hp => ?_⟩
  · have := rise_len (b := 8) (r.map (·.1)) 0 (fun x hx => by
      obtain ⟨p, hp, rfl⟩ := List.mem_map.mp hx
      exact c p hp) b
    rw [List.length_map] at this
    exact this
  · have c1 := c p hp
    have d1 := d p hp
    exact ⟨⟨by omega, by omega⟩, by omega, by omega⟩
/-! ### edits -/
theorem cutA_drop {α : Type} {xs : List α} (k : Nat) : cutA xs (some (k : Int)) none = xs.drop k := by
  unfold cutA
  rw [HT.sIx_nat, HT.sIx_none]
  by_cases h : k ≤ xs.length
  · rw [Nat.min_eq_left h, List.take_of_length_le (by rw [List.length_drop]; exact Nat.le_refl _)]
  · rw [Nat.min_eq_right (by omega), List.drop_eq_nil_of_le (Nat.le_refl _), List.drop_eq_nil_of_le (by omega), List.take_nil]
theorem sg_cut {z : Str} {lo hi : Option Int} : sg (cutS z lo hi) = cutA (sg z) lo hi := by
  unfold cutS cutA
  rw [show z.length = (sg z).length from TL.len_tl z]
/-- what is known of a text -/
structure TxB (L C N : Nat) (t : Str) : Prop where
  run : RunI L (sg t)
  cnt : (sg t).count 10 ≤ C
  len : t.length ≤ N
theorem TxB.edit {L C N : Nat} {t t' : Str} {p q m s : List Nat} (h : TxB L C N t) (e : sg t = p ++ (q ++ s)) (e' : sg t' = p ++ (m ++ s)) (hm : m.length ≤ 1) : TxB (2 * L + 1) (C + 1) (N + 200) t' := by
  obtain ⟨h1, h2, h3⟩ := h
  rw [e] at h1 h2
  refine ⟨?_, ?_, ?_⟩
  · rw [e']; exact h1.edit hm
  · have := cnt_edit (p := p) (q := q) (s := s) hm
    rw [e']
    omega
  · rw [TL.len_tl] at h3 ⊢
    have e1 := congrArg List.length e
    have e2 := congrArg List.length e'
    simp only [List.length_append] at e1 e2
    have e1 : (TL.tl t).length = p.length + (q.length + s.length) := e1
    have e2 : (TL.tl t').length = p.length + (m.length + s.length) := e2
    omega
theorem TxB.row {L C N : Nat} {t w : Str} (h : TxB L C N t) (hL : L ≤ 150) (hw : w ∈ Txt.split t "\n") : TxB (2 * L + 1) (C + 1) (N + 200) (t ++ "\n" ++ w) := by
  obtain ⟨l, n10⟩ := row_len h.run hw
  have e : sg (t ++ "\n" ++ w) = sg t ++ 10 :: sg w := by
    rw [sg_app, sg_app, sg_nl, List.append_assoc]
    rfl
  have lw : (sg w).length = w.length := (TL.len_tl w).symm
  refine ⟨?_, ?_, ?_⟩
  · rw [e]
    exact (h.run.row (RunI.short (by omega))).mono (by omega)
  · rw [e, List.count_append, List.count_cons_self, List.count_eq_zero.mpr n10]
    have := h.cnt
    omega
  · have e1 := congrArg List.length e
    rw [List.length_append, List.length_cons] at e1
    have e1 : (TL.tl (t ++ "\n" ++ w)).length = (TL.tl t).length + ((sg w).length + 1) := e1
    rw [← TL.len_tl, ← TL.len_tl] at e1
    have := h.len
    omega
def Lf (i : Nat) : Nat := 41 * 2 ^ i - 1
theorem Lf_succ (i : Nat) : 2 * Lf i + 1 = Lf (i + 1) := by
  have : 1 ≤ 2 ^ i := Nat.one_le_two_pow
  unfold Lf
  rw [Nat.pow_succ]
  omega
section
variable {K : PySem.W.Frag} {A : Ads} {vs : List V} {H : Hp} {Q : VK} {E : XK}
def sp_law (K : PySem.W.Frag) (A : Ads) : Sp := fun vs H Q E => ∃ (v : V) (ss : List Int), vs = [v] ∧ Hd K H v ss ∧ ∀ H', Ex H H' → Q (.bl true) H'
def t_law (K : PySem.W.Frag) (A : Ads) (W : WX) : TS :=
  (tSeq (tAsg (tOp rAddI (tC (.int 1)) (tOp rModI (tCallS (sp_law_mix K A) (WE W) (tCons (tVar 0) (tCons (tC (.int 0)) tNil))) (tC (.int 4)))) (gName 1))
    (tSeq (tAsg (tCallS (sp_book_of K A) (WE W) (tCons (tVar 1) (tCons (tCallS (sp_law_set K A) (WE W) (tCons (tVar 0) (tCons (tC (.int 10)) (tCons (tVar 1) tNil)))) tNil))) (gName 2))
    (tSeq (tAsg (tCallS (sp_law_text K A) (WE W) (tCons (tVar 2) tNil)) (gName 3))
    (tSeq (tIfS (tOr (tTest (tOp (rNeP K) (tCallS (sp_written K A) (WE W) (tCons (tVar 2) tNil)) (tVar 3))) (tTest (tOp (rNeP K) (tCallS (sp_read K A) (WE W) (tCons (tVar 3) tNil)) (tVar 2)))) (tRet (tC (.bl false))) tNext)
    (tSeq (tFor (iRng1 (tCons (tOp rAddI (tC (.int 1)) (tOp rModI (tCallS (sp_law_mix K A) (WE W) (tCons (tVar 0) (tCons (tC (.int 1)) tNil))) (tC (.int 2)))) tNil)) (gName 4) (tSeq (tAsg (tCallS (sp_law_mix K A) (WE W) (tCons (tVar 0) (tCons (tOp rAddI (tC (.int 2)) (tVar 4)) tNil))) (gName 5))
    (tSeq (tAsg (tOp rModI (tOp rDivI (tVar 5) (tC (.int 8))) (tOp rAddI (tCB rLenStr (tCons (tVar 3) tNil)) (tC (.int 1)))) (gName 6))
    (tSeq (tAsg (tOp (rIx K) (tC (.str "0123 :\n97a-")) (tOp rModI (tOp rDivI (tVar 5) (tC (.int 4096))) (tC (.int 11)))) (gName 7))
    (tSeq (tAsg (tLst (tCons (tOp rAddS (tOp rAddS (tSl rSlS (tVar 3) tNoPart (tPart (tVar 6))) (tVar 7)) (tSl rSlS (tVar 3) (tPart (tVar 6)) tNoPart)) (tCons (tOp rAddS (tOp rAddS (tSl rSlS (tVar 3) tNoPart (tPart (tVar 6))) (tVar 7)) (tSl rSlS (tVar 3) (tPart (tOp rAddI (tVar 6) (tC (.int 1)))) tNoPart)) (tCons (tOp rAddS (tSl rSlS (tVar 3) tNoPart (tPart (tVar 6))) (tSl rSlS (tVar 3) (tPart (tOp rAddI (tVar 6) (tC (.int 1)))) tNoPart)) tNil)))) (gName 8))
    (tAsg (tOp (rIx K) (tOp (rCatL K) (tVar 8) (tLst (tCons (tOp rAddS (tOp rAddS (tVar 3) (tC (.str "\n"))) (tOp (rIx K) (tBM K "str" rSplitQ (tVar 3) (tCons (tC (.str "\n")) tNil)) (tUn (rU fun i => .int (-i)) (tC (.int 1))))) tNil))) (tOp rModI (tVar 5) (tC (.int 4)))) (gName 3)))))))
    (tSeq (tAsg (tC .non) (gName 9))
    (tSeq (tAsg (tC .non) (gName 10))
    (tCut (fun D σ H => (fun W : WX => (tAsg (tCallS (sp_read K A) (WE W) (tCons (tVar 3) tNil)) (gName 10))) (wKeep K (.ref A.NestError) 11 9 D) D σ H)
    (tSeq (tAsg (tCallS (sp_law_tried K A) (WE W) (tCons (tVar 3) tNil)) (gName 12))
    (tSeq (tIfS (tAnd (tTest (tOp rIsNotNn (tVar 12) (tC .non))) (tB (tCallS (sp_law_is_book K A) (WE W) (tCons (tVar 12) tNil)))) (tRet (tAndV (tOp rIsNn (tVar 9) (tC .non)) (tOp (rEqP K) (tVar 10) (tVar 12)))) tNext)
    (tSeq (tIfS (tTest (tOp (rNeP K) (tCallS (sp_law_refusal K A) (WE W) (tCons (tVar 9) tNil)) (tC (.str "text")))) (tRet (tC (.bl false))) tNext)
    (tSeq (tAsg (tC .non) (gName 9))
    (tCut (fun D σ H => (fun W : WX => (tDrop (tCallS (sp_written K A) (WE W) (tCons (tTupP (tCons (tVar 1) (tCons (tLst tNil) (tCons (tC (.int 1)) tNil)))) tNil)))) (wKeep K (.ref A.NestError) 11 9 D) D σ H)
    (tRet (tOp (rEqP K) (tCallS (sp_law_refusal K A) (WE W) (tCons (tVar 9) tNil)) (tC (.str "book")))))))))))))))))
theorem pu_law (T0 : KeptT K A A.BadBook 0) (T4 : KeptT K A A.BadText 4) (h : sp_law K A vs H Q E) : t_law K A (WXE E) (DQ Q) (start ["_law_script", "_law_many", "_law_book", "_law_text_here", "_law_k", "_law_number", "_law_at", "_law_one", "_law_some", "_law_kept", "_law_found", "e", "_law_tried_here"] vs) H := by
  obtain ⟨v, ss, rfl, hv, q⟩ := h
  refine q_asg (v := .int (1 + mixF ss 0 % 4)) (ei_add ev_c (ei_mod (ed_mix (K := K) (A := A) (ed_var rfl hv) ev_c) ev_c (by decide))) fun H1 e1 => ?_
  obtain ⟨many, hm, h1, h4⟩ : ∃ m : Int, 1 + mixF ss 0 % 4 = m ∧ 1 ≤ m ∧ m ≤ 4 := ⟨_, rfl, by omega, by omega⟩
  rw [hm]
  have h8 : many ≤ 8 := by omega
  have n5 : many.toNat < 5 := by omega
  -- a book
  refine qc_asg ⟨.int many, rfl, v, rfl, .int many, rfl, ⟨rfl, v, ss, 10, many, rfl, hd_ex e1 hv, h1, by omega, fun S vS H2 hSO lS120 subS e2 dS => ?_⟩⟩
  have lS24 : S.length ≤ 24 := Nat.le_trans subS.length_le (all24 _ n5)
  refine ⟨rfl, many, vS, S, S, rfl, dS, by omega, by omega, fun _ => ⟨hSO, fun _ => Iff.rfl, fun t p H3 e3 hp hbk => ?_⟩, fun z => (z ⟨h1, h8, fun o ho => isOrd_of h1 h8 hSO ho⟩).elim⟩
  have e03 := e1.trans (e2.trans e3)
  have dB : Hd K H3 (.ref t) (T3.mk many (tlD (lawB many.toNat S).1) (lawB many.toNat S).2 : BkT) := hbk.hd
  have BS := bookS_of h1 h4 hSO lS24
  have ok := lawB_bk h1 h8 hSO
  have bk : ∀ {u : V} {G : Hp}, Hd K G u (T3.mk many (tlD (lawB many.toNat S).1) (lawB many.toNat S).2 : BkT) → BkH K G u many (lawB many.toNat S).1 (lawB many.toNat S).2 := fun h => bkH_of h1 h8 hSO (by omega) h
  clear dS e1 e2 e3 hbk
  generalize hF : (lawB many.toNat S).1 = F at BS ok bk dB
  generalize hM : (lawB many.toNat S).2 = m at BS ok bk dB
  -- its text
  have T0B : TxB 40 96 4000 (textF many F m) := ⟨(text_bounds BS).1, (text_bounds BS).2.1, by rw [TL.len_tl]; exact (text_bounds BS).2.2⟩
  refine q_asg (v := .str (textF many F m)) (fun H4 e4 Q' q' => ⟨.ref t, rfl, ⟨rfl, .ref t, many, F, m, rfl, hd_ex e4 dB, BS.b, (bk dB).len, (bk dB).r60, fun H5 e5 => q' H5 e5⟩⟩) fun H4 e4 => ?_
  have dB4 := hd_ex e4 dB
  have hp0 := prs_text BS.b
  have wr : ∀ {σ : L2.St} {G : Hp}, Ex H4 G → σ[2]? = some (some (.ref t)) → Ev (tCallS (sp_written K A) (WE (WXE E)) (tCons (tVar 2) tNil)) σ G (.str (textF many F m)) := fun {σ G} e h2 G2 e2 Q' q' => ⟨.ref t, h2, ⟨rfl, .ref t, many, F, m, rfl, bk (hd_ex (e.trans e2) dB4), fun z => (z ok).elim, fun _ => ⟨BS.b, fun G3 e3 => q' G3 e3⟩⟩⟩
  have rd : ∀ {σ : L2.St} {G : Hp}, Ex H4 G → σ[3]? = some (some (.str (textF many F m))) → EvD K (tCallS (sp_read K A) (WE (WXE E)) (tCons (tVar 3) tNil)) σ G (T3.mk many (tlD F) m) := fun {σ G} e h3 G2 e2 Q' q' => ⟨.str (textF many F m), h3, ⟨rfl, textF many F m, rfl, by have := T0B.len; omega, fun n F' m' z => by
      rw [hp0] at z
      cases z
      exact ⟨(bk dB).len, (bk dB).r60⟩, fun n F' m' z _ u G3 e3 hu => by
      rw [hp0] at z
      cases z
      exact q' u G3 e3 hu, fun z => (z _ _ _ hp0 ok).elim⟩⟩
  refine q_when (b := false) (et_is (et_or (et_test (ev_neD (K := K) (x := textF many F m) (y := textF many F m) (ed_str (wr (Ex.refl _) rfl)) (ed_str (ev_var rfl)))) fun _ => et_test (ev_neD (K := K) (x := (T3.mk many (tlD F) m : BkT)) (y := T3.mk many (tlD F) m) (rd (Ex.refl _) rfl) (ed_var rfl dB4))) (by simp)) (fun z => by cases z) (fun _ H5 e5 => ?_)
  have e05 := e03.trans (e4.trans e5)
  -- edits
  obtain ⟨c, hc, c1, c2⟩ : ∃ c : Int, 1 + mixF ss 1 % 2 = c ∧ 0 ≤ c ∧ c ≤ 2 := ⟨_, rfl, by omega, by omega⟩
  refine q_forR1 (n := c) (ea_cons (ev_is (ei_add ev_c (ei_mod (ed_mix (K := K) (A := A) (ed_var rfl (hd_ex e05 hv)) ev_c) ev_c (by decide))) (by rw [hc])) ea_nil) (by omega) (fun i σ' H' => ∃ (x4 x5 x6 x7 x8 : Option V) (tx : Str), σ' = [some v, some (.int many), some (.ref t), some (.str tx), x4, x5, x6, x7, x8, none, none, none, none] ∧ Ex H5 H' ∧ TxB (Lf i) (96 + i) (4000 + 200 * i) tx)
    (fun H6 e6 => ⟨none, none, none, none, none, _, rfl, e6, T0B⟩) ?_ ?_
  · rintro i σ' H6 hi ⟨x4, x5, x6, x7, x8, tx, rfl, e6, TB⟩
    have i2 : i ≤ 1 := by omega
    have hLf : Lf i ≤ 81 := by
      have : i = 0 ∨ i = 1 := by omega
      rcases this with z | z <;> rw [z] <;> decide
    have hlen := TB.len
    have lsg : (sg tx).length = tx.length := (TL.len_tl tx).symm
    obtain ⟨num, hnum, num0⟩ : ∃ nu : Int, mixF ss (2 + (i : Int)) = nu ∧ 0 ≤ nu := ⟨_, rfl, mixF_nn _ _⟩
    refine q_asg (v := .int num) (ev_is (ed_mix (K := K) (A := A) (ed_var rfl (hd_ex (e05.trans e6) hv)) (ei_add ev_c (ev_var rfl))) (by rw [hnum])) fun H7 e7 => ?_
    obtain ⟨at_, hat, at1⟩ : ∃ a : Nat, num / 8 % ((tx.length : Int) + 1) = (a : Int) ∧ a ≤ tx.length := ⟨(num / 8 % ((tx.length : Int) + 1)).toNat, by have := Int.emod_nonneg (num / 8) (show (tx.length : Int) + 1 ≠ 0 by omega); omega, by have := Int.emod_lt_of_pos (num / 8) (show 0 < (tx.length : Int) + 1 by omega); have := Int.emod_nonneg (num / 8) (show (tx.length : Int) + 1 ≠ 0 by omega); omega⟩
    refine q_asg (v := .int (at_ : Int)) (ev_is (ei_mod (ei_div (i := num) (j := 8) (ev_var rfl) ev_c ⟨by decide, by decide⟩) (ei_add (ev_lenS (w := tx) (ev_var rfl) (by omega)) ev_c) (by omega)) (by rw [hat])) fun H8 e8 => ?_
    obtain ⟨sn, hsn⟩ : ∃ sn, atI (sg ("0123 :\n97a-" : Str)) (num / 4096 % 11) = some sn := by
      have e : sg ("0123 :\n97a-" : Str) = [48, 49, 50, 51, 32, 58, 10, 57, 55, 97, 45] := by decide
      have hlt : (num / 4096 % 11).toNat < (sg ("0123 :\n97a-" : Str)).length := by
        rw [e]
        show _ < 11
        omega
      have := atI_nat (xs := sg ("0123 :\n97a-" : Str)) (j := (num / 4096 % 11).toNat) (List.getElem?_eq_getElem hlt)
      rw [show (((num / 4096 % 11).toNat : Nat) : Int) = num / 4096 % 11 by omega] at this
      exact ⟨_, this⟩
    refine q_asg (v := .str ⟨#[sn]⟩) (ev_ixS2 (K := K) (z := "0123 :\n97a-") ev_c (ei_mod (ei_div (i := num) (j := 4096) (ev_var rfl) ev_c ⟨by decide, by decide⟩) ev_c (by decide)) (by rw [TL.len_tl, show TL.tl ("0123 :\n97a-" : Str) = [48, 49, 50, 51, 32, 58, 10, 57, 55, 97, 45] by decide]; show 11 ≤ 100000; decide) hsn) fun H9 e9 => ?_
    have one1 : (⟨#[sn]⟩ : Str).length = 1 := rfl
    have cl : ∀ lo hi, (cutS tx lo hi).length ≤ tx.length := fun lo hi => cutS_length tx lo hi
    have ap : ∀ x y : Str, (x ++ y).length = x.length + y.length := fun x y => by
      rw [TL.len_tl, TL.tl_append, List.length_append, ← TL.len_tl, ← TL.len_tl]
    have l1 := cl none (some (at_ : Int))
    have l2 := cl (some (at_ : Int)) none
    have l3 := cl (some ((at_ : Int) + 1)) none
    have a1 := ap (cutS tx none (some (at_ : Int))) ⟨#[sn]⟩
    refine qd_asg (K := K) (x := [cutS tx none (some (at_ : Int)) ++ ⟨#[sn]⟩ ++ cutS tx (some (at_ : Int)) none, cutS tx none (some (at_ : Int)) ++ ⟨#[sn]⟩ ++ cutS tx (some ((at_ : Int) + 1)) none, cutS tx none (some (at_ : Int)) ++ cutS tx (some ((at_ : Int) + 1)) none]) (EvN.d (en_lstA
      (eas_cons (ed_str (ev_addS (ev_addS (ev_slS (ev_var rfl) eo_none (eo_some (ev_var rfl)) (by omega)) (ev_var rfl) (by omega)) (ev_slS (ev_var rfl) (eo_some (ev_var rfl)) eo_none (by omega)) (by omega)))
      (eas_cons (ed_str (ev_addS (ev_addS (ev_slS (ev_var rfl) eo_none (eo_some (ev_var rfl)) (by omega)) (ev_var rfl) (by omega)) (ev_slS (ev_var rfl) (eo_some (ei_add (ev_var rfl) ev_c)) eo_none (by omega)) (by omega)))
      (eas_cons (ed_str (ev_addS (ev_slS (ev_var rfl) eo_none (eo_some (ev_var rfl)) (by omega)) (ev_slS (ev_var rfl) (eo_some (ei_add (ev_var rfl) ev_c)) eo_none (by omega)) (by omega))) eas_nil))) (by show 3 ≤ 100000; decide))) fun vz H10 e10 dZ => ?_
    -- the last row
    obtain ⟨ini, last, hrows⟩ : ∃ ini last, Txt.split tx "\n" = ini ++ [last] := by
      obtain ⟨y, ys, e⟩ := split_cons (t := tx)
      exact ⟨(y :: ys).dropLast, (y :: ys).getLast (by simp), by rw [e]; exact (List.dropLast_concat_getLast (by simp)).symm⟩
    have hlm : last ∈ Txt.split tx "\n" := by rw [hrows]; exact List.mem_append_right _ (List.mem_singleton.mpr rfl)
    have ll := (split_len (t := tx) sg_nl k_nl).2 last hlm
    have nl1 : ("\n" : Str).length = 1 := by decide
    have a2 := ap tx "\n"
    obtain ⟨j, hj, j0, j4⟩ : ∃ j : Int, num % 4 = j ∧ 0 ≤ j ∧ j < 4 := ⟨_, rfl, by omega, by omega⟩
    obtain ⟨tx', htx, hB⟩ : ∃ tx', atI ([cutS tx none (some (at_ : Int)) ++ ⟨#[sn]⟩ ++ cutS tx (some (at_ : Int)) none, cutS tx none (some (at_ : Int)) ++ ⟨#[sn]⟩ ++ cutS tx (some ((at_ : Int) + 1)) none, cutS tx none (some (at_ : Int)) ++ cutS tx (some ((at_ : Int) + 1)) none] ++ [tx ++ "\n" ++ last]) j = some tx' ∧ TxB (2 * Lf i + 1) (96 + i + 1) (4000 + 200 * i + 200) tx' := by
      have t1 : sg (cutS tx none (some (at_ : Int))) = (sg tx).take at_ := by rw [sg_cut]; exact cutA_to (by omega)
      have t2 : sg (cutS tx (some (at_ : Int)) none) = (sg tx).drop at_ := by rw [sg_cut, cutA_drop]
      have t3 : sg (cutS tx (some ((at_ : Int) + 1)) none) = (sg tx).drop (at_ + 1) := by
        rw [sg_cut, show (at_ : Int) + 1 = ((at_ + 1 : Nat) : Int) by omega, cutA_drop]
      have w0 : sg tx = (sg tx).take at_ ++ ([] ++ (sg tx).drop at_) := (List.take_append_drop at_ (sg tx)).symm
      have w1 : sg tx = (sg tx).take at_ ++ (((sg tx).drop at_).take 1 ++ (sg tx).drop (at_ + 1)) := by
        have z : ((sg tx).drop at_).take 1 ++ (sg tx).drop (at_ + 1) = (sg tx).drop at_ := by
          rw [← List.drop_drop]
          exact List.take_append_drop 1 _
        rw [z]
        exact (List.take_append_drop at_ (sg tx)).symm
      have cs : j = 0 ∨ j = 1 ∨ j = 2 ∨ j = 3 := by omega
      rcases cs with z | z | z | z <;> subst z
      · exact ⟨_, rfl, TB.edit w0 (m := [sn]) (by rw [sg_app, sg_app, t1, t2, List.append_assoc]) (Nat.le_refl _)⟩
      · exact ⟨_, rfl, TB.edit w1 (m := [sn]) (by rw [sg_app, sg_app, t1, t3, List.append_assoc]) (Nat.le_refl _)⟩
      · exact ⟨_, rfl, TB.edit w1 (m := []) (by rw [sg_app, t1, t3]; rfl) (Nat.zero_le _)⟩
      · exact ⟨_, rfl, TB.row (by omega) hlm⟩
    have e610 := (e7.trans e8).trans (e9.trans e10)
    have step : EvD K (tOp (rIx K) (tOp (rCatL K) (tVar 8) (tLst (tCons (tOp rAddS (tOp rAddS (tVar 3) (tC (.str "\n"))) (tOp (rIx K) (tBM K "str" rSplitQ (tVar 3) (tCons (tC (.str "\n")) tNil)) (tUn (rU fun i => .int (-i)) (tC (.int 1))))) tNil))) (tOp rModI (tVar 5) (tC (.int 4)))) [some v, some (.int many), some (.ref t), some (.str tx), some (.int (i : Int)), some (.int num), some (.int (at_ : Int)), some (.str ⟨#[sn]⟩), some vz, none, none, none, none] H10 tx' :=
      ed_ixL (K := K) (EvN.d (en_catD (K := K) (ed_var rfl dZ) (EvN.d (en_lstA (xs := [tx ++ "\n" ++ last]) (eas_cons (ed_str (ev_addS (ev_addS (ev_var rfl) ev_c (by omega)) (EvD.st (ed_ixL (K := K) (xs := Txt.split tx "\n") (i := -1) (EvN.d (en_split (ev_var rfl) (by omega))) (ei_neg ev_c) (by rw [hrows]; exact atI_last ini last))) (by omega))) eas_nil) (by show 1 ≤ 100000; decide))) (by show 4 ≤ 100000; decide))) (ev_is (ei_mod (ev_var rfl) ev_c (by decide)) (by rw [hj])) htx
    refine (EvD.st step) H10 (Ex.refl _) _ fun H11 e11 => ⟨_, _, _, _, _, tx', rfl, e6.trans (e610.trans e11), ?_⟩
    rw [← Lf_succ]
    exact hB
  rintro σ' H6 ⟨x4, x5, x6, x7, x8, tx, rfl, e6, TB⟩
  have i2 : c.toNat ≤ 2 := by omega
  generalize c.toNat = i at TB i2
  have hLf : Lf i ≤ 163 := by
    have : i = 0 ∨ i = 1 ∨ i = 2 := by omega
    rcases this with z | z | z <;> rw [z] <;> decide
  have hlen := TB.len
  have few : ∀ n F' m', prs tx = some (n, F', m') → F'.length ≤ 1000 ∧ ∀ r ∈ F', r.length < 60 := fun n F' m' z => by
    obtain ⟨a, b⟩ := prs_len TB.run TB.cnt z
    refine ⟨by omega, fun r hr => ?_⟩
    have := b r hr
    omega
  have e06 := e05.trans e6
  -- read
  refine q_asg ev_c fun H7 e7 => q_asg ev_c fun H8 e8 => ?_
  have e08 := e06.trans (e7.trans e8)
  refine q_cut (M := fun σ' H' => ∃ a b, σ' = [some v, some (.int many), some (.ref t), some (.str tx), x4, x5, x6, x7, x8, some a, some b, none, none] ∧ Ex H8 H' ∧ ((a = .non ∧ ∃ n F' m', prs tx = some (n, F', m') ∧ BkOk n F' m' ∧ Hd K H' b (T3.mk n (tlD F') m')) ∨ (∃ p, a = .ref p ∧ H' p = some (ExK (.ref A.BadText) p) ∧ ∀ n F' m', prs tx = some (n, F', m') → ¬ BkOk n F' m'))) ?_ ?_
  · refine q_asgX ⟨.str tx, rfl, ⟨rfl, tx, rfl, by omega, few, fun n F' m' z hok u H9 e9 hu => ⟨.non, u, rfl, e9, .inl ⟨rfl, n, F', m', z, hok, hu⟩⟩, fun no H9 e9 => ⟨T4.em, rfl, fun a ha => ⟨.ref a, .non, rfl, e9.trans (Ex.new ha), .inr ⟨a, rfl, upd_same, no⟩⟩⟩⟩⟩
  rintro σ' H9 ⟨a, b, rfl, e9, cs⟩
  have e09 := e08.trans e9
  refine qd_asg (K := K) (x := prsT tx) (fun H10 e10 Q' q' => ⟨.str tx, rfl, ⟨rfl, tx, rfl, by omega, fun u H11 e11 hu => q' u H11 e11 hu⟩⟩) fun vt H10 e10 dT => ?_
  have e010 := e09.trans e10
  rcases cs with ⟨rfl, n, F', m', hp, hok, dF⟩ | ⟨p, rfl, hpk, no⟩
  · -- the text of a book
    have dT' : Hd K H10 vt (T3.mk n (tlD F') m') := by
      unfold prsT at dT
      rw [hp] at dT
      exact dT
    have nn : vt ≠ .non := fun z => by
      obtain ⟨a', _, _, _, e, _⟩ := hd_t3 dT'
      rw [z] at e
      cases e
    have isb : Ev (tCallS (sp_law_is_book K A) (WE (WXE E)) (tCons (tVar 12) tNil)) [some v, some (.int many), some (.ref t), some (.str tx), x4, x5, x6, x7, x8, some .non, some b, none, some vt] H10 (.bl true) := fun H11 e11 Q' q' => ⟨vt, rfl, ⟨rfl, vt, n, F', m', rfl, ⟨hd_ex e11 dT', (few _ _ _ hp).1, (few _ _ _ hp).2⟩, fun _ H12 e12 => q' H12 e12, fun z => (z hok).elim⟩⟩
    refine q_when (b := true) (et_is (et_and (et_test (ev_isNotN (x := vt) (ev_var rfl))) fun _ => et_B isb) (by simp [nn])) (fun _ H11 e11 => ?_) (fun z => by cases z)
    exact s_rets (v := .bl true) (ev_is (ev_andV (ev_isN (x := .non) (ev_var rfl)) fun _ => ev_eqD (K := K) (x := (T3.mk n (tlD F') m' : BkT)) (y := T3.mk n (tlD F') m') (ed_var rfl (hd_ex (e10.trans e11) dF)) (ed_var rfl (hd_ex e11 dT'))) (by simp)) fun H12 e12 => q H12 ((e010.trans e11).trans e12)
  -- no text of a book
  have tst : EvT (tAnd (tTest (tOp rIsNotNn (tVar 12) (tC .non))) (tB (tCallS (sp_law_is_book K A) (WE (WXE E)) (tCons (tVar 12) tNil)))) [some v, some (.int many), some (.ref t), some (.str tx), x4, x5, x6, x7, x8, some (.ref p), some b, none, some vt] H10 false := by
    cases hp : prs tx with
    | none =>
      have dN : Hd K H10 vt (none : Option BkT) := by
        unfold prsT at dT
        rw [hp] at dT
        exact dT
      rw [hd_none dN]
      exact et_is (et_and (b := false) (et_test (ev_isNotN (x := .non) (ev_var rfl))) fun z => by simp at z) (by simp)
    | some w =>
      obtain ⟨n, F', m'⟩ := w
      have dT' : Hd K H10 vt (T3.mk n (tlD F') m') := by
        unfold prsT at dT
        rw [hp] at dT
        exact dT
      have nb := no n F' m' hp
      have isb : Ev (tCallS (sp_law_is_book K A) (WE (WXE E)) (tCons (tVar 12) tNil)) [some v, some (.int many), some (.ref t), some (.str tx), x4, x5, x6, x7, x8, some (.ref p), some b, none, some vt] H10 (.bl false) := fun H11 e11 Q' q' => ⟨vt, rfl, ⟨rfl, vt, n, F', m', rfl, ⟨hd_ex e11 dT', (few _ _ _ hp).1, (few _ _ _ hp).2⟩, fun z => (nb z).elim, fun _ H12 e12 => q' H12 e12⟩⟩
      exact et_is (et_and (et_test (ev_isNotN (x := vt) (ev_var rfl))) fun _ => et_B isb) (Bool.and_false _)
  refine q_when tst (fun z => by cases z) (fun _ H11 e11 => ?_)
  have ref1 : Ev (tCallS (sp_law_refusal K A) (WE (WXE E)) (tCons (tVar 9) tNil)) [some v, some (.int many), some (.ref t), some (.str tx), x4, x5, x6, x7, x8, some (.ref p), some b, none, some vt] H11 (.str "text") := fun H12 e12 Q' q' => ⟨.ref p, rfl, ⟨rfl, .inr ⟨p, _, 4, rfl, e12 _ _ (e11 _ _ (e10 _ _ hpk)), T4, by decide, fun H13 e13 => q' H13 e13⟩⟩⟩
  refine q_when (b := false) (et_is (et_test (ev_neD (K := K) (x := ("text" : Str)) (y := ("text" : Str)) (ed_str ref1) (ed_str ev_c))) (by simp)) (fun z => by cases z) (fun _ H12 e12 => ?_)
  -- what is no book
  refine q_asg ev_c fun H13 e13 => ?_
  have e013 := e010.trans ((e11.trans e12).trans e13)
  refine q_cut (M := fun σ' H' => ∃ p', σ' = [some v, some (.int many), some (.ref t), some (.str tx), x4, x5, x6, x7, x8, some (.ref p'), some b, none, some vt] ∧ Ex H13 H' ∧ H' p' = some (ExK (.ref A.BadBook) p')) ?_ ?_
  · refine q_dropX (cl1 (K := K) (ed_t3A (x := many) (y := tlD []) (z := (1 : Int)) (ed_int (ev_var rfl)) (EvN.d (en_lstA (xs := tlD []) eas_nil (by decide))) (ed_int ev_c)) fun w H14 e14 hw => ?_)
    exact ⟨rfl, w, many, [], 1, rfl, ⟨hw, Nat.zero_le _, fun r hr => nomatch hr⟩, fun _ H15 e15 => ⟨T0.em, rfl, fun a ha => ⟨a, rfl, (e14.trans e15).trans (Ex.new ha), upd_same⟩⟩, fun z => (no_bk60 z).elim⟩
  rintro σ' H14 ⟨p', rfl, e14, hp'⟩
  have ref2 : Ev (tCallS (sp_law_refusal K A) (WE (WXE E)) (tCons (tVar 9) tNil)) [some v, some (.int many), some (.ref t), some (.str tx), x4, x5, x6, x7, x8, some (.ref p'), some b, none, some vt] H14 (.str "book") := fun H15 e15 Q' q' => ⟨.ref p', rfl, ⟨rfl, .inr ⟨p', _, 0, rfl, e15 _ _ hp', T0, by decide, fun H16 e16 => q' H16 e16⟩⟩⟩
  exact s_rets (v := .bl true) (ev_is (ev_eqD (K := K) (x := ("book" : Str)) (y := ("book" : Str)) (ed_str ref2) (ed_str ev_c)) (by simp)) fun H15 e15 => q H15 (e013.trans (e14.trans e15))
end
end OA

namespace OA
open PySem PySem.Spec PyProof.Rows L2 Evl
open PySem.W (Datum Tup T3 DatumOrd)
/-! ### the text by places (printed by gen.py) -/
def top (i : Nat) : Stmt := PySem.Challenge.pw_ordernest_k60_texts.main.body.getD i (.Pass ⟨0, 0, 0, 0⟩)
abbrev s_look_many : Stmt := top 11
theorem sc_look_many : FnScope ["many"] ["many"] (defScope s_look_many) := ⟨rfl, rfl, rfl, by decide +kernel, rfl, by decide +kernel, by decide +kernel⟩
abbrev s_look_order : Stmt := top 12
theorem sc_look_order : FnScope ["many", "order"] ["many", "order"] (defScope s_look_order) := ⟨rfl, rfl, rfl, by decide +kernel, rfl, by decide +kernel, by decide +kernel⟩
abbrev s_Rooms_init : Stmt := inClass (top 14) 0
theorem sc_Rooms_init : FnScope ["self"] ["self"] (defScope s_Rooms_init) := ⟨rfl, rfl, rfl, by decide +kernel, rfl, by decide +kernel, by decide +kernel⟩
abbrev s_Rooms_room : Stmt := inClass (top 14) 1
theorem sc_Rooms_room : FnScope ["self", "doors", "some", "door"] ["self", "doors"] (defScope s_Rooms_room) := ⟨rfl, rfl, rfl, by decide +kernel, rfl, by decide +kernel, by decide +kernel⟩
abbrev s_Rooms_doors : Stmt := inClass (top 14) 2
theorem sc_Rooms_doors : FnScope ["self", "number"] ["self", "number"] (defScope s_Rooms_doors) := ⟨rfl, rfl, rfl, by decide +kernel, rfl, by decide +kernel, by decide +kernel⟩
abbrev s_Rooms_book : Stmt := inClass (top 14) 3
theorem sc_Rooms_book : FnScope ["self", "many", "first", "found", "numbers"] ["self", "many", "first"] (defScope s_Rooms_book) := ⟨rfl, rfl, rfl, by decide +kernel, rfl, by decide +kernel, by decide +kernel⟩
abbrev s_Rooms_lay : Stmt := inClass (top 14) 4
theorem sc_Rooms_lay : FnScope ["self", "number", "numbers", "found", "thing", "other"] ["self", "number", "numbers", "found"] (defScope s_Rooms_lay) := ⟨rfl, rfl, rfl, by decide +kernel, rfl, by decide +kernel, by decide +kernel⟩
abbrev s_taken_in : Stmt := top 15
theorem sc_taken_in : FnScope ["rooms", "book", "many", "some", "first", "numbers", "doors", "thing", "other"] ["rooms", "book"] (defScope s_taken_in) := ⟨rfl, rfl, rfl, by decide +kernel, rfl, by decide +kernel, by decide +kernel⟩
abbrev s_made : Stmt := top 16
theorem sc_made : FnScope ["rooms", "left", "orders", "at", "doors", "thing", "some", "order", "one"] ["rooms", "left", "orders", "at"] (defScope s_made) := ⟨rfl, rfl, rfl, by decide +kernel, rfl, by decide +kernel, by decide +kernel⟩
abbrev s_book_of : Stmt := top 17
theorem sc_book_of : FnScope ["many", "orders", "order", "rooms"] ["many", "orders"] (defScope s_book_of) := ⟨rfl, rfl, rfl, by decide +kernel, rfl, by decide +kernel, by decide +kernel⟩
abbrev s_look_rooms : Stmt := top 18
theorem sc_look_rooms : FnScope ["some", "k", "things", "door", "thing"] ["some"] (defScope s_look_rooms) := ⟨rfl, rfl, rfl, by decide +kernel, rfl, by decide +kernel, by decide +kernel⟩
abbrev s_depths : Stmt := top 19
theorem sc_depths : FnScope ["some", "found", "doors", "things", "thing", "other", "mine", "whole"] ["some"] (defScope s_depths) := ⟨rfl, rfl, rfl, by decide +kernel, rfl, by decide +kernel, by decide +kernel⟩
abbrev s_look_book : Stmt := top 20
theorem sc_look_book : FnScope ["book", "many", "some", "first", "things", "rooms"] ["book"] (defScope s_look_book) := ⟨rfl, rfl, rfl, by decide +kernel, rfl, by decide +kernel, by decide +kernel⟩
abbrev s_written : Stmt := top 23
theorem sc_written : FnScope ["book", "rows", "doors", "thing", "other"] ["book"] (defScope s_written) := ⟨rfl, rfl, rfl, by decide +kernel, rfl, by decide +kernel, by decide +kernel⟩
abbrev s_number_in : Stmt := top 24
theorem sc_number_in : FnScope ["word", "sign"] ["word"] (defScope s_number_in) := ⟨rfl, rfl, rfl, by decide +kernel, rfl, by decide +kernel, by decide +kernel⟩
abbrev s_numbers_in : Stmt := top 25
theorem sc_numbers_in : FnScope ["words", "many", "word"] ["words", "many"] (defScope s_numbers_in) := ⟨rfl, rfl, rfl, by decide +kernel, rfl, by decide +kernel, by decide +kernel⟩
abbrev s_read : Stmt := top 26
theorem sc_read : FnScope ["text", "rows", "many", "first", "some", "row", "word", "kept", "e"] ["text"] (defScope s_read) := ⟨rfl, rfl, rfl, by decide +kernel, rfl, by decide +kernel, by decide +kernel⟩
abbrev s_law_cell : Stmt := top 28
theorem sc_law_cell : FnScope ["_law_script", "_law_k"] ["_law_script", "_law_k"] (defScope s_law_cell) := ⟨rfl, rfl, rfl, by decide +kernel, rfl, by decide +kernel, by decide +kernel⟩
abbrev s_law_mix : Stmt := top 29
theorem sc_law_mix : FnScope ["_law_script", "_law_k", "_law_number"] ["_law_script", "_law_k"] (defScope s_law_mix) := ⟨rfl, rfl, rfl, by decide +kernel, rfl, by decide +kernel, by decide +kernel⟩
abbrev s_law_all : Stmt := top 30
theorem sc_law_all : FnScope ["_law_many", "_law_found", "_law_k", "_law_longer", "_law_order", "_law_thing"] ["_law_many"] (defScope s_law_all) := ⟨rfl, rfl, rfl, by decide +kernel, rfl, by decide +kernel, by decide +kernel⟩
abbrev s_law_set : Stmt := top 31
theorem sc_law_set : FnScope ["_law_script", "_law_k", "_law_many", "_law_some", "_law_way", "_law_number", "_law_order", "_law_share", "_law_j"] ["_law_script", "_law_k", "_law_many"] (defScope s_law_set) := ⟨rfl, rfl, rfl, by decide +kernel, rfl, by decide +kernel, by decide +kernel⟩
abbrev s_law_refusal : Stmt := top 32
theorem sc_law_refusal : FnScope ["_law_kept", "_law_kinds"] ["_law_kept"] (defScope s_law_refusal) := ⟨rfl, rfl, rfl, by decide +kernel, rfl, by decide +kernel, by decide +kernel⟩
abbrev s_law_text : Stmt := top 33
theorem sc_law_text : FnScope ["_law_book", "_law_rows", "_law_doors", "_law_thing", "_law_other"] ["_law_book"] (defScope s_law_text) := ⟨rfl, rfl, rfl, by decide +kernel, rfl, by decide +kernel, by decide +kernel⟩
abbrev s_law_numbers : Stmt := top 34
theorem sc_law_numbers : FnScope ["_law_words", "_law_found", "_law_word", "_law_one"] ["_law_words"] (defScope s_law_numbers) := ⟨rfl, rfl, rfl, by decide +kernel, rfl, by decide +kernel, by decide +kernel⟩
abbrev s_law_tried : Stmt := top 35
theorem sc_law_tried : FnScope ["_law_text_here", "_law_rows", "_law_head", "_law_some", "_law_row", "_law_doors", "_law_word", "_law_door"] ["_law_text_here"] (defScope s_law_tried) := ⟨rfl, rfl, rfl, by decide +kernel, rfl, by decide +kernel, by decide +kernel⟩
abbrev s_law_is_book : Stmt := top 36
theorem sc_law_is_book : FnScope ["_law_tried_here", "_law_kept", "e"] ["_law_tried_here"] (defScope s_law_is_book) := ⟨rfl, rfl, rfl, by decide +kernel, rfl, by decide +kernel, by decide +kernel⟩
abbrev s_law : Stmt := top 37
theorem sc_law : FnScope ["_law_script", "_law_many", "_law_book", "_law_text_here", "_law_k", "_law_number", "_law_at", "_law_one", "_law_some", "_law_kept", "_law_found", "e", "_law_tried_here"] ["_law_script"] (defScope s_law) := ⟨rfl, rfl, rfl, by decide +kernel, rfl, by decide +kernel, by decide +kernel⟩

/-! what the top has written -/
structure Txt (w : World) (K : PySem.W.Frag) (mg : Str → Option Value) (A : Ads) : Prop where
  hash : A.hash = fun k => k.hash w
  kh : A.kh = PySem.PyData.keyHash w.params
  z_ValueError : mg "ValueError" = none
  z_all : mg "all" = none
  z_int : mg "int" = none
  z_isinstance : mg "isinstance" = none
  z_len : mg "len" = none
  z_list : mg "list" = none
  z_range : mg "range" = none
  z_set : mg "set" = none
  z_sorted : mg "sorted" = none
  z_str : mg "str" = none
  z_tuple : mg "tuple" = none
  g_MOST : ∃ t, mg "MOST" = some (.int 8 t)
  g_FIGURES : ∃ t, mg "FIGURES" = some (.str "0123456789" t)
  x_NestError : ExcT K mg "NestError" A.NestError
  x_BadOrder : ExcT K mg "BadOrder" A.BadOrder
  x_BadBook : ExcT K mg "BadBook" A.BadBook
  x_Unlike : ExcT K mg "Unlike" A.Unlike
  x_BadRule : ExcT K mg "BadRule" A.BadRule
  x_BadNumber : ExcT K mg "BadNumber" A.BadNumber
  x_BadWeights : ExcT K mg "BadWeights" A.BadWeights
  x_BadText : ExcT K mg "BadText" A.BadText
  cl_Rooms : Cls K A.Rooms
  na_Rooms_rooms : NoAttr K A.Rooms "rooms"
  na_Rooms_known : NoAttr K A.Rooms "known"


theorem d_look_many {P : Program} {w : World} {K : PySem.W.Frag} {mg : Str → Option Value} {base : Heap} {A : Ads} (T : Txt w K mg A)  {f : Addr} {cdv : Value} {Ar : Around} {outer : List Env} {s : Shared} {H : Hp} {E : XK} (hr : Room 0 (Ar.deeper (envOfC "look_many" (defScope s_look_many) s.heap.objs.size f cdv))) :
    PSs (cxOf (L2.CX P w) P w K mg base ["many"] "look_many" (defScope s_look_many) f cdv Ar outer s H E) (defBody s_look_many) (t_look_many K A (fun cls d _ H' => E cls d H')) := by
  have nd := sc_look_many.nd
  have tk := takes_of (X := cxOf (L2.CX P w) P w K mg base ["many"] "look_many" (defScope s_look_many) f cdv Ar outer s H E) (E := E) rfl rfl rfl rfl
  have hp : PassesOwn (model P w) (cxOf (L2.CX P w) P w K mg base ["many"] "look_many" (defScope s_look_many) f cdv Ar outer s H E).A (cxOf (L2.CX P w) P w K mg base ["many"] "look_many" (defScope s_look_many) f cdv Ar outer s H E).env (cxOf (L2.CX P w) P w K mg base ["many"] "look_many" (defScope s_look_many) f cdv Ar outer s H E).xe := passes_of rfl
  exact (pss_one (ps_if (pt_not (pt_chain op_le op_le pe_int (pv 0) (pe_globI T.g_MOST))) (pss_one (ps_rs T.x_BadOrder rfl tk)) pss_nil))

theorem d_look_order {P : Program} {w : World} {K : PySem.W.Frag} {mg : Str → Option Value} {base : Heap} {A : Ads} (T : Txt w K mg A) (c_look_many : Cl P w K mg base 1 "look_many" (sp_look_many K A)) {f : Addr} {cdv : Value} {Ar : Around} {outer : List Env} {s : Shared} {H : Hp} {E : XK} (hr : Room 1 (Ar.deeper (envOfC "look_order" (defScope s_look_order) s.heap.objs.size f cdv))) :
    PSs (cxOf (L2.CX P w) P w K mg base ["many", "order"] "look_order" (defScope s_look_order) f cdv Ar outer s H E) (defBody s_look_order) (t_look_order K A (fun cls d _ H' => E cls d H')) := by
  have nd := sc_look_order.nd
  have tk := takes_of (X := cxOf (L2.CX P w) P w K mg base ["many", "order"] "look_order" (defScope s_look_order) f cdv Ar outer s H E) (E := E) rfl rfl rfl rfl
  have hp : PassesOwn (model P w) (cxOf (L2.CX P w) P w K mg base ["many", "order"] "look_order" (defScope s_look_order) f cdv Ar outer s H E).A (cxOf (L2.CX P w) P w K mg base ["many", "order"] "look_order" (defScope s_look_order) f cdv Ar outer s H E).env (cxOf (L2.CX P w) P w K mg base ["many", "order"] "look_order" (defScope s_look_order) f cdv Ar outer s H E).xe := passes_of rfl
  exact (pss_cons (ps_expr (pe_cl c_look_many hr (by decide) tk (pa_cons (pv 0) pa_nil)))
      (pss_one (ps_if (pt_cmpR (op_neP hr.units) (pe_callB cr_sortedQ (by rfl) T.z_sorted (by decide +kernel) (pa_cons (pv 1) pa_nil)) (pe_listRg rfl (by rfl) T.z_list (prg_1 (by rfl) T.z_range (pv 0))) (nomark _)) (pss_one (ps_rs T.x_BadOrder rfl tk)) pss_nil)))

theorem d_Rooms_init {P : Program} {w : World} {K : PySem.W.Frag} {mg : Str → Option Value} {base : Heap} {A : Ads} (T : Txt w K mg A)  {f : Addr} {cdv : Value} {Ar : Around} {outer : List Env} {s : Shared} {H : Hp} {E : XK} (hr : Room 0 (Ar.deeper (envOfC "Rooms.__init__" (defScope s_Rooms_init) s.heap.objs.size f cdv))) :
    PSs (cxOf (L2.CX P w) P w K mg base ["self"] "Rooms.__init__" (defScope s_Rooms_init) f cdv Ar outer s H E) (defBody s_Rooms_init) (t_Rooms_init K A (fun cls d _ H' => E cls d H')) := by
  have nd := sc_Rooms_init.nd
  have tk := takes_of (X := cxOf (L2.CX P w) P w K mg base ["self"] "Rooms.__init__" (defScope s_Rooms_init) f cdv Ar outer s H E) (E := E) rfl rfl rfl rfl
  have hp : PassesOwn (model P w) (cxOf (L2.CX P w) P w K mg base ["self"] "Rooms.__init__" (defScope s_Rooms_init) f cdv Ar outer s H E).A (cxOf (L2.CX P w) P w K mg base ["self"] "Rooms.__init__" (defScope s_Rooms_init) f cdv Ar outer s H E).env (cxOf (L2.CX P w) P w K mg base ["self"] "Rooms.__init__" (defScope s_Rooms_init) f cdv Ar outer s H E).xe := passes_of rfl
  exact (pss_cons (ps_fld (pv 0) (pe_lst pa_nil) rfl)
      (pss_one (ps_fld (pv 0) (pe_ndnew T.hash) rfl)))

theorem d_Rooms_room {P : Program} {w : World} {K : PySem.W.Frag} {mg : Str → Option Value} {base : Heap} {A : Ads} (T : Txt w K mg A)  {f : Addr} {cdv : Value} {Ar : Around} {outer : List Env} {s : Shared} {H : Hp} {E : XK} (hr : Room 0 (Ar.deeper (envOfC "Rooms.room" (defScope s_Rooms_room) s.heap.objs.size f cdv))) :
    PSs (cxOf (L2.CX P w) P w K mg base ["self", "doors", "some", "door"] "Rooms.room" (defScope s_Rooms_room) f cdv Ar outer s H E) (defBody s_Rooms_room) (t_Rooms_room K A (fun cls d _ H' => E cls d H')) := by
  have nd := sc_Rooms_room.nd
  have tk := takes_of (X := cxOf (L2.CX P w) P w K mg base ["self", "doors", "some", "door"] "Rooms.room" (defScope s_Rooms_room) f cdv Ar outer s H E) (E := E) rfl rfl rfl rfl
  have hp : PassesOwn (model P w) (cxOf (L2.CX P w) P w K mg base ["self", "doors", "some", "door"] "Rooms.room" (defScope s_Rooms_room) f cdv Ar outer s H E).A (cxOf (L2.CX P w) P w K mg base ["self", "doors", "some", "door"] "Rooms.room" (defScope s_Rooms_room) f cdv Ar outer s H E).env (cxOf (L2.CX P w) P w K mg base ["self", "doors", "some", "door"] "Rooms.room" (defScope s_Rooms_room) f cdv Ar outer s H E).xe := passes_of rfl
  exact (pss_cons (ps_set (i := 2) nd rfl (by first | exact Or.inl rfl | exact Or.inr rfl) (pe_tupleOfP (by rfl) T.z_tuple (pe_lc (own := [("door", 3)]) rfl nd (pi_tup (pv 1)) (blkOk_by (own := [("door", 3)]) (N := ["self", "doors", "some", "door"]) (sc := defScope s_Rooms_room) (by decide +kernel)) (fun _ _ _ _ _ => (pg_name (i := 3) nd rfl (by first | exact Or.inl rfl | exact Or.inr rfl))) (fun _ _ _ _ _ => (pts_one (pt_cmpR (op_neP hr.units) (pe_ix ix_seq (pv 3) pe_int (fun _ _ => rfl)) pe_int (nomark _)))) (fun _ _ _ _ _ => (pv 3)))))
      (pss_cons (ps_if (pt_cmpR (op_eqP hr.units) (pv 2) (pe_tupP pa_nil) (nomark _)) (pss_one (ps_ret pe_int)) pss_nil)
      (pss_cons (ps_if (pt_cmpR (op_niN T.hash hr.units) (pv 2) (pe_fld (pv 0) rfl) (by rfl)) (pss_cons (ps_ndput T.hash hr.units (pe_fld (pv 0) rfl) (pv 2) (pe_op op_add (pe_callB call_len_seq (by rfl) T.z_len (by decide +kernel) (pa_cons (pe_fld (pv 0) rfl) pa_nil)) pe_int) rfl)
      (pss_one (ps_expr (pe_bm PySem.F.plainAttrs_list PySem.F.slot_list_append PySem.F.type_list_append mt_append (pe_fld (pv 0) rfl) (pa_cons (pv 2) pa_nil))))) pss_nil)
      (pss_one (ps_ret (pe_ndget T.hash hr.units (pe_fld (pv 0) rfl) (pv 2)))))))

theorem d_Rooms_doors {P : Program} {w : World} {K : PySem.W.Frag} {mg : Str → Option Value} {base : Heap} {A : Ads} (T : Txt w K mg A)  {f : Addr} {cdv : Value} {Ar : Around} {outer : List Env} {s : Shared} {H : Hp} {E : XK} (hr : Room 0 (Ar.deeper (envOfC "Rooms.doors" (defScope s_Rooms_doors) s.heap.objs.size f cdv))) :
    PSs (cxOf (L2.CX P w) P w K mg base ["self", "number"] "Rooms.doors" (defScope s_Rooms_doors) f cdv Ar outer s H E) (defBody s_Rooms_doors) (t_Rooms_doors K A (fun cls d _ H' => E cls d H')) := by
  have nd := sc_Rooms_doors.nd
  have tk := takes_of (X := cxOf (L2.CX P w) P w K mg base ["self", "number"] "Rooms.doors" (defScope s_Rooms_doors) f cdv Ar outer s H E) (E := E) rfl rfl rfl rfl
  have hp : PassesOwn (model P w) (cxOf (L2.CX P w) P w K mg base ["self", "number"] "Rooms.doors" (defScope s_Rooms_doors) f cdv Ar outer s H E).A (cxOf (L2.CX P w) P w K mg base ["self", "number"] "Rooms.doors" (defScope s_Rooms_doors) f cdv Ar outer s H E).env (cxOf (L2.CX P w) P w K mg base ["self", "number"] "Rooms.doors" (defScope s_Rooms_doors) f cdv Ar outer s H E).xe := passes_of rfl
  exact (pss_one (ps_ret (pe_ix ix_seq (pe_fld (pv 0) rfl) (pe_op op_sub (pv 1) pe_int) (fun _ _ => rfl))))

theorem d_Rooms_book {P : Program} {w : World} {K : PySem.W.Frag} {mg : Str → Option Value} {base : Heap} {A : Ads} (T : Txt w K mg A) (m_Rooms_lay : Mt P w K mg base 11 A.Rooms "lay" (sp_Rooms_lay K A)) {f : Addr} {cdv : Value} {Ar : Around} {outer : List Env} {s : Shared} {H : Hp} {E : XK} (hr : Room 11 (Ar.deeper (envOfC "Rooms.book" (defScope s_Rooms_book) s.heap.objs.size f cdv))) :
    PSs (cxOf (L2.CX P w) P w K mg base ["self", "many", "first", "found", "numbers"] "Rooms.book" (defScope s_Rooms_book) f cdv Ar outer s H E) (defBody s_Rooms_book) (t_Rooms_book K A (fun cls d _ H' => E cls d H')) := by
  have nd := sc_Rooms_book.nd
  have tk := takes_of (X := cxOf (L2.CX P w) P w K mg base ["self", "many", "first", "found", "numbers"] "Rooms.book" (defScope s_Rooms_book) f cdv Ar outer s H E) (E := E) rfl rfl rfl rfl
  have hp : PassesOwn (model P w) (cxOf (L2.CX P w) P w K mg base ["self", "many", "first", "found", "numbers"] "Rooms.book" (defScope s_Rooms_book) f cdv Ar outer s H E).A (cxOf (L2.CX P w) P w K mg base ["self", "many", "first", "found", "numbers"] "Rooms.book" (defScope s_Rooms_book) f cdv Ar outer s H E).env (cxOf (L2.CX P w) P w K mg base ["self", "many", "first", "found", "numbers"] "Rooms.book" (defScope s_Rooms_book) f cdv Ar outer s H E).xe := passes_of rfl
  exact (pss_cons (ps_set (i := 3) nd rfl (by first | exact Or.inl rfl | exact Or.inr rfl) (pe_lst pa_nil))
      (pss_cons (ps_set (i := 4) nd rfl (by first | exact Or.inl rfl | exact Or.inr rfl) (pe_disp (pps_cons pe_int pe_int (pps_cons pe_int pe_int pps_nil)) rfl rfl (by decide) (by decide)))
      (pss_cons (ps_expr (pe_mt m_Rooms_lay hr (by decide) (pv 0) (pa_cons (pv 2) (pa_cons (pv 4) (pa_cons (pv 3) pa_nil)))))
      (pss_one (ps_ret (pe_tupP (pa_cons (pv 1) (pa_cons (pv 3) (pa_cons (pe_dget (hu_of hr) (pv 4) (pv 2) (fun _ _ => rfl)) pa_nil)))))))))

theorem d_Rooms_lay {P : Program} {w : World} {K : PySem.W.Frag} {mg : Str → Option Value} {base : Heap} {A : Ads} (T : Txt w K mg A) (m_Rooms_doors : Mt P w K mg base 1 A.Rooms "doors" (sp_Rooms_doors K A)) {R : Sp} {LV j : Nat} (hj : 1 ≤ j) (hs : LV ≤ j) (m_self : Mt P w K mg base LV A.Rooms "lay" R) {f : Addr} {cdv : Value} {Ar : Around} {outer : List Env} {s : Shared} {H : Hp} {E : XK} (hr : Room j (Ar.deeper (envOfC "Rooms.lay" (defScope s_Rooms_lay) s.heap.objs.size f cdv))) :
    PSs (cxOf (L2.CX P w) P w K mg base ["self", "number", "numbers", "found", "thing", "other"] "Rooms.lay" (defScope s_Rooms_lay) f cdv Ar outer s H E) (defBody s_Rooms_lay) (t_Rooms_lay K A R (fun cls d _ H' => E cls d H')) := by
  have nd := sc_Rooms_lay.nd
  have tk := takes_of (X := cxOf (L2.CX P w) P w K mg base ["self", "number", "numbers", "found", "thing", "other"] "Rooms.lay" (defScope s_Rooms_lay) f cdv Ar outer s H E) (E := E) rfl rfl rfl rfl
  have hp : PassesOwn (model P w) (cxOf (L2.CX P w) P w K mg base ["self", "number", "numbers", "found", "thing", "other"] "Rooms.lay" (defScope s_Rooms_lay) f cdv Ar outer s H E).A (cxOf (L2.CX P w) P w K mg base ["self", "number", "numbers", "found", "thing", "other"] "Rooms.lay" (defScope s_Rooms_lay) f cdv Ar outer s H E).env (cxOf (L2.CX P w) P w K mg base ["self", "number", "numbers", "found", "thing", "other"] "Rooms.lay" (defScope s_Rooms_lay) f cdv Ar outer s H E).xe := passes_of rfl
  exact (pss_cons (ps_if (pt_cmp (pc_din (hu_of hr) (pv 1) (pv 2)) (by rfl)) (pss_one ps_retN) pss_nil)
      (pss_cons (ps_for hp rfl (pi_tup (pe_mt m_Rooms_doors hr (Nat.le_trans (by decide) hj) (pv 0) (pa_cons (pv 1) pa_nil))) (pg_tup rfl (pgs_cons (pg_name (i := 4) nd rfl (by first | exact Or.inl rfl | exact Or.inr rfl)) (pgs_cons (pg_name (i := 5) nd rfl (by first | exact Or.inl rfl | exact Or.inr rfl)) pgs_nil))) (pss_one (ps_expr (pe_mt m_self hr hs (pv 0) (pa_cons (pv 5) (pa_cons (pv 2) (pa_cons (pv 3) pa_nil)))))))
      (pss_cons (ps_dput (hu_of hr) (pv 2) (pv 1) (pe_op op_add (pe_callB call_len_seq (by rfl) T.z_len (by decide +kernel) (pa_cons (pv 3) pa_nil)) pe_int) rfl)
      (pss_one (ps_expr (pe_bm PySem.F.plainAttrs_list PySem.F.slot_list_append PySem.F.type_list_append mt_append (pv 3) (pa_cons (pe_tupleOfP (by rfl) T.z_tuple (pe_lc (own := [("thing", 4), ("other", 5)]) rfl nd (pi_tup (pe_mt m_Rooms_doors hr (Nat.le_trans (by decide) hj) (pv 0) (pa_cons (pv 1) pa_nil))) (blkOk_by (own := [("thing", 4), ("other", 5)]) (N := ["self", "number", "numbers", "found", "thing", "other"]) (sc := defScope s_Rooms_lay) (by decide +kernel)) (fun _ _ _ _ _ => (pg_tup rfl (pgs_cons (pg_name (i := 4) nd rfl (by first | exact Or.inl rfl | exact Or.inr rfl)) (pgs_cons (pg_name (i := 5) nd rfl (by first | exact Or.inl rfl | exact Or.inr rfl)) pgs_nil)))) (fun _ _ _ _ _ => pts_nil) (fun _ _ _ _ _ => (pe_tupP (pa_cons (pv 4) (pa_cons (pe_dget (hu_of hr) (pv 2) (pv 5) (fun _ _ => rfl)) pa_nil)))))) pa_nil)))))))

theorem d_taken_in {P : Program} {w : World} {K : PySem.W.Frag} {mg : Str → Option Value} {base : Heap} {A : Ads} (T : Txt w K mg A) (m_Rooms_room : Mt P w K mg base 1 A.Rooms "room" (sp_Rooms_room K A)) {f : Addr} {cdv : Value} {Ar : Around} {outer : List Env} {s : Shared} {H : Hp} {E : XK} (hr : Room 1 (Ar.deeper (envOfC "taken_in" (defScope s_taken_in) s.heap.objs.size f cdv))) :
    PSs (cxOf (L2.CX P w) P w K mg base ["rooms", "book", "many", "some", "first", "numbers", "doors", "thing", "other"] "taken_in" (defScope s_taken_in) f cdv Ar outer s H E) (defBody s_taken_in) (t_taken_in K A (fun cls d _ H' => E cls d H')) := by
  have nd := sc_taken_in.nd
  have tk := takes_of (X := cxOf (L2.CX P w) P w K mg base ["rooms", "book", "many", "some", "first", "numbers", "doors", "thing", "other"] "taken_in" (defScope s_taken_in) f cdv Ar outer s H E) (E := E) rfl rfl rfl rfl
  have hp : PassesOwn (model P w) (cxOf (L2.CX P w) P w K mg base ["rooms", "book", "many", "some", "first", "numbers", "doors", "thing", "other"] "taken_in" (defScope s_taken_in) f cdv Ar outer s H E).A (cxOf (L2.CX P w) P w K mg base ["rooms", "book", "many", "some", "first", "numbers", "doors", "thing", "other"] "taken_in" (defScope s_taken_in) f cdv Ar outer s H E).env (cxOf (L2.CX P w) P w K mg base ["rooms", "book", "many", "some", "first", "numbers", "doors", "thing", "other"] "taken_in" (defScope s_taken_in) f cdv Ar outer s H E).xe := passes_of rfl
  exact (pss_cons (ps_asg (pv 1) (pg_tup rfl (pgs_cons (pg_name (i := 2) nd rfl (by first | exact Or.inl rfl | exact Or.inr rfl)) (pgs_cons (pg_name (i := 3) nd rfl (by first | exact Or.inl rfl | exact Or.inr rfl)) (pgs_cons (pg_name (i := 4) nd rfl (by first | exact Or.inl rfl | exact Or.inr rfl)) pgs_nil)))))
      (pss_cons (ps_set (i := 5) nd rfl (by first | exact Or.inl rfl | exact Or.inr rfl) (pe_lst (pa_cons pe_int (pa_cons pe_int pa_nil))))
      (pss_cons (ps_for hp rfl (pi_list (pv 3)) (pg_name (i := 6) nd rfl (by first | exact Or.inl rfl | exact Or.inr rfl)) (pss_one (ps_expr (pe_bm PySem.F.plainAttrs_list PySem.F.slot_list_append PySem.F.type_list_append mt_append (pv 5) (pa_cons (pe_mt m_Rooms_room hr (by decide) (pv 0) (pa_cons (pe_tupleOfP (by rfl) T.z_tuple (pe_lc (own := [("thing", 7), ("other", 8)]) rfl nd (pi_tup (pv 6)) (blkOk_by (own := [("thing", 7), ("other", 8)]) (N := ["rooms", "book", "many", "some", "first", "numbers", "doors", "thing", "other"]) (sc := defScope s_taken_in) (by decide +kernel)) (fun _ _ _ _ _ => (pg_tup rfl (pgs_cons (pg_name (i := 7) nd rfl (by first | exact Or.inl rfl | exact Or.inr rfl)) (pgs_cons (pg_name (i := 8) nd rfl (by first | exact Or.inl rfl | exact Or.inr rfl)) pgs_nil)))) (fun _ _ _ _ _ => pts_nil) (fun _ _ _ _ _ => (pe_tupP (pa_cons (pv 7) (pa_cons (pe_ix ix_seq (pv 5) (pv 8) (fun _ _ => rfl)) pa_nil)))))) pa_nil)) pa_nil)))))
      (pss_one (ps_ret (pe_ix ix_seq (pv 5) (pv 4) (fun _ _ => rfl)))))))

theorem d_made {P : Program} {w : World} {K : PySem.W.Frag} {mg : Str → Option Value} {base : Heap} {A : Ads} (T : Txt w K mg A) (m_Rooms_room : Mt P w K mg base 1 A.Rooms "room" (sp_Rooms_room K A)) {R : Sp} {LV j : Nat} (hj : 1 ≤ j) (hs : LV ≤ j) (c_self : Cl P w K mg base LV "made" R) {f : Addr} {cdv : Value} {Ar : Around} {outer : List Env} {s : Shared} {H : Hp} {E : XK} (hr : Room j (Ar.deeper (envOfC "made" (defScope s_made) s.heap.objs.size f cdv))) :
    PSs (cxOf (L2.CX P w) P w K mg base ["rooms", "left", "orders", "at", "doors", "thing", "some", "order", "one"] "made" (defScope s_made) f cdv Ar outer s H E) (defBody s_made) (t_made K A R (fun cls d _ H' => E cls d H')) := by
  have nd := sc_made.nd
  have tk := takes_of (X := cxOf (L2.CX P w) P w K mg base ["rooms", "left", "orders", "at", "doors", "thing", "some", "order", "one"] "made" (defScope s_made) f cdv Ar outer s H E) (E := E) rfl rfl rfl rfl
  have hp : PassesOwn (model P w) (cxOf (L2.CX P w) P w K mg base ["rooms", "left", "orders", "at", "doors", "thing", "some", "order", "one"] "made" (defScope s_made) f cdv Ar outer s H E).A (cxOf (L2.CX P w) P w K mg base ["rooms", "left", "orders", "at", "doors", "thing", "some", "order", "one"] "made" (defScope s_made) f cdv Ar outer s H E).env (cxOf (L2.CX P w) P w K mg base ["rooms", "left", "orders", "at", "doors", "thing", "some", "order", "one"] "made" (defScope s_made) f cdv Ar outer s H E).xe := passes_of rfl
  exact (pss_cons (ps_if (pt_not (pt_truth (pv 2) (by intro _; rfl))) (pss_one (ps_ret pe_int)) pss_nil)
      (pss_cons (ps_if (pt_cmpR (op_eqP hr.units) (pv 1) (pe_tupP pa_nil) (nomark _)) (pss_one (ps_ret pe_int)) pss_nil)
      (pss_cons (ps_set (i := 4) nd rfl (by first | exact Or.inl rfl | exact Or.inr rfl) (pe_lst pa_nil))
      (pss_cons (ps_for hp rfl (pi_tup (pv 1)) (pg_name (i := 5) nd rfl (by first | exact Or.inl rfl | exact Or.inr rfl)) (pss_cons (ps_setLc (i := 6) (own := [("order", 7)]) rfl nd rfl rfl (sw_true rfl rfl rfl (by decide +kernel)) (pi_list (pv 2)) (blkOk_by (own := [("order", 7)]) (N := ["rooms", "left", "orders", "at", "doors", "thing", "some", "order", "one"]) (sc := defScope s_made) (by decide +kernel)) (fun _ _ _ _ _ => (pg_name (i := 7) nd rfl (by first | exact Or.inl rfl | exact Or.inr rfl))) (fun _ _ _ _ _ => (pts_one (pt_cmpR (op_eqP hr.units) (pe_ix ix_seq (pv 7) (pv 3) (fun _ _ => rfl)) (pv 5) (nomark _)))) (fun _ _ _ _ _ => (pv 7)))
      (pss_one (ps_expr (pe_bm PySem.F.plainAttrs_list PySem.F.slot_list_append PySem.F.type_list_append mt_append (pv 4) (pa_cons (pe_tupP (pa_cons (pv 5) (pa_cons (pe_cl c_self hr hs tk (pa_cons (pv 0) (pa_cons (pe_tupleOfP (by rfl) T.z_tuple (pe_lc (own := [("one", 8)]) rfl nd (pi_tup (pv 1)) (blkOk_by (own := [("one", 8)]) (N := ["rooms", "left", "orders", "at", "doors", "thing", "some", "order", "one"]) (sc := defScope s_made) (by decide +kernel)) (fun _ _ _ _ _ => (pg_name (i := 8) nd rfl (by first | exact Or.inl rfl | exact Or.inr rfl))) (fun _ _ _ _ _ => (pts_one (pt_cmpR (op_neP hr.units) (pv 8) (pv 5) (nomark _)))) (fun _ _ _ _ _ => (pv 8)))) (pa_cons (pv 6) (pa_cons (pe_op op_add (pv 3) pe_int) pa_nil))))) pa_nil))) pa_nil))))))
      (pss_one (ps_ret (pe_mt m_Rooms_room hr (Nat.le_trans (by decide) hj) (pv 0) (pa_cons (pe_tupleOfP (by rfl) T.z_tuple (pv 4)) pa_nil))))))))

theorem d_book_of {P : Program} {w : World} {K : PySem.W.Frag} {mg : Str → Option Value} {base : Heap} {A : Ads} (T : Txt w K mg A) (c_look_many : Cl P w K mg base 1 "look_many" (sp_look_many K A)) (mk_Rooms : Mkr P w K mg base 1 "Rooms" A.Rooms (sp_Rooms_init K A)) (m_Rooms_book : Mt P w K mg base 12 A.Rooms "book" (sp_Rooms_book K A)) (c_look_order : Cl P w K mg base 2 "look_order" (sp_look_order K A)) (c_made : Cl P w K mg base 11 "made" (sp_made K A)) {f : Addr} {cdv : Value} {Ar : Around} {outer : List Env} {s : Shared} {H : Hp} {E : XK} (hr : Room 12 (Ar.deeper (envOfC "book_of" (defScope s_book_of) s.heap.objs.size f cdv))) :
    PSs (cxOf (L2.CX P w) P w K mg base ["many", "orders", "order", "rooms"] "book_of" (defScope s_book_of) f cdv Ar outer s H E) (defBody s_book_of) (t_book_of K A (fun cls d _ H' => E cls d H')) := by
  have nd := sc_book_of.nd
  have tk := takes_of (X := cxOf (L2.CX P w) P w K mg base ["many", "orders", "order", "rooms"] "book_of" (defScope s_book_of) f cdv Ar outer s H E) (E := E) rfl rfl rfl rfl
  have hp : PassesOwn (model P w) (cxOf (L2.CX P w) P w K mg base ["many", "orders", "order", "rooms"] "book_of" (defScope s_book_of) f cdv Ar outer s H E).A (cxOf (L2.CX P w) P w K mg base ["many", "orders", "order", "rooms"] "book_of" (defScope s_book_of) f cdv Ar outer s H E).env (cxOf (L2.CX P w) P w K mg base ["many", "orders", "order", "rooms"] "book_of" (defScope s_book_of) f cdv Ar outer s H E).xe := passes_of rfl
  exact (pss_cons (ps_expr (pe_cl c_look_many hr (by decide) tk (pa_cons (pv 0) pa_nil)))
      (pss_cons (ps_for hp rfl (pi_list (pv 1)) (pg_name (i := 2) nd rfl (by first | exact Or.inl rfl | exact Or.inr rfl)) (pss_one (ps_expr (pe_cl c_look_order hr (by decide) tk (pa_cons (pv 0) (pa_cons (pv 2) pa_nil))))))
      (pss_cons (ps_set (i := 3) nd rfl (by first | exact Or.inl rfl | exact Or.inr rfl) (pe_mk0 mk_Rooms hr (by decide)))
      (pss_one (ps_ret (pe_mt m_Rooms_book hr (by decide) (pv 3) (pa_cons (pv 0) (pa_cons (pe_cl c_made hr (by decide) tk (pa_cons (pv 3) (pa_cons (pe_tupRgP rfl (by rfl) T.z_tuple (prg_1 (by rfl) T.z_range (pv 0))) (pa_cons (pe_sortsetT rfl hr.units (by rfl) T.z_sorted (by rfl) T.z_set (pv 1)) (pa_cons pe_int pa_nil))))) pa_nil))))))))

theorem d_look_rooms {P : Program} {w : World} {K : PySem.W.Frag} {mg : Str → Option Value} {base : Heap} {A : Ads} (T : Txt w K mg A)  {f : Addr} {cdv : Value} {Ar : Around} {outer : List Env} {s : Shared} {H : Hp} {E : XK} (hr : Room 0 (Ar.deeper (envOfC "look_rooms" (defScope s_look_rooms) s.heap.objs.size f cdv))) :
    PSs (cxOf (L2.CX P w) P w K mg base ["some", "k", "things", "door", "thing"] "look_rooms" (defScope s_look_rooms) f cdv Ar outer s H E) (defBody s_look_rooms) (t_look_rooms K A (fun cls d _ H' => E cls d H')) := by
  have nd := sc_look_rooms.nd
  have tk := takes_of (X := cxOf (L2.CX P w) P w K mg base ["some", "k", "things", "door", "thing"] "look_rooms" (defScope s_look_rooms) f cdv Ar outer s H E) (E := E) rfl rfl rfl rfl
  have hp : PassesOwn (model P w) (cxOf (L2.CX P w) P w K mg base ["some", "k", "things", "door", "thing"] "look_rooms" (defScope s_look_rooms) f cdv Ar outer s H E).A (cxOf (L2.CX P w) P w K mg base ["some", "k", "things", "door", "thing"] "look_rooms" (defScope s_look_rooms) f cdv Ar outer s H E).env (cxOf (L2.CX P w) P w K mg base ["some", "k", "things", "door", "thing"] "look_rooms" (defScope s_look_rooms) f cdv Ar outer s H E).xe := passes_of rfl
  exact (pss_one (ps_for hp rfl (pi_range1 (by rfl) T.z_range (pa_cons (pe_callB call_len_seq (by rfl) T.z_len (by decide +kernel) (pa_cons (pv 0) pa_nil)) pa_nil)) (pg_name (i := 1) nd rfl (by first | exact Or.inl rfl | exact Or.inr rfl)) (pss_cons (ps_setLc (i := 2) (own := [("door", 3)]) rfl nd rfl rfl (sw_true rfl rfl rfl (by decide +kernel)) (pi_tup (pe_ix ix_seq (pv 0) (pv 1) (fun _ _ => rfl))) (blkOk_by (own := [("door", 3)]) (N := ["some", "k", "things", "door", "thing"]) (sc := defScope s_look_rooms) (by decide +kernel)) (fun _ _ _ _ _ => (pg_name (i := 3) nd rfl (by first | exact Or.inl rfl | exact Or.inr rfl))) (fun _ _ _ _ _ => pts_nil) (fun _ _ _ _ _ => (pe_ix ix_seq (pv 3) pe_int (fun _ _ => rfl))))
      (pss_cons (ps_if (PW.pt (pw_or (pt_cmpR (op_eqP hr.units) (pv 2) (pe_lst pa_nil) (nomark _)) (pw_or (pt_cmpR (op_neP hr.units) (pv 2) (pe_sortsetI rfl hr.units (by rfl) T.z_sorted (by rfl) T.z_set (pv 2)) (nomark _)) (pw_or1 (pt_not (pt_val (pe_callB (cr_all rfl) (by rfl) T.z_all (by decide +kernel) (pa_cons (pe_lc (own := [("thing", 4)]) rfl nd (pi_list (pv 2)) (blkOk_by (own := [("thing", 4)]) (N := ["some", "k", "things", "door", "thing"]) (sc := defScope s_look_rooms) (by decide +kernel)) (fun _ _ _ _ _ => (pg_name (i := 4) nd rfl (by first | exact Or.inl rfl | exact Or.inr rfl))) (fun _ _ _ _ _ => pts_nil) (fun _ _ _ _ _ => (pe_chain op_le op_lt pe_int (pv 4) (pe_globI T.g_MOST)))) pa_nil)))))))) (pss_one (ps_rs T.x_BadBook rfl tk)) pss_nil)
      (pss_one (ps_if (pt_not (pt_val (pe_callB (cr_all rfl) (by rfl) T.z_all (by decide +kernel) (pa_cons (pe_lc (own := [("door", 3)]) rfl nd (pi_tup (pe_ix ix_seq (pv 0) (pv 1) (fun _ _ => rfl))) (blkOk_by (own := [("door", 3)]) (N := ["some", "k", "things", "door", "thing"]) (sc := defScope s_look_rooms) (by decide +kernel)) (fun _ _ _ _ _ => (pg_name (i := 3) nd rfl (by first | exact Or.inl rfl | exact Or.inr rfl))) (fun _ _ _ _ _ => pts_nil) (fun _ _ _ _ _ => (pe_and (pe_cmpR (op_eqP hr.units) (pe_callB call_len_seq (by rfl) T.z_len (by decide +kernel) (pa_cons (pv 3) pa_nil)) pe_int (nomark _)) (pe_one (pe_chain op_le op_lt pe_int (pe_ix ix_seq (pv 3) pe_int (fun _ _ => rfl)) (pe_op op_add (pv 1) pe_int)))))) pa_nil)))) (pss_one (ps_rs T.x_BadBook rfl tk)) pss_nil))))))

theorem d_depths {P : Program} {w : World} {K : PySem.W.Frag} {mg : Str → Option Value} {base : Heap} {A : Ads} (T : Txt w K mg A)  {f : Addr} {cdv : Value} {Ar : Around} {outer : List Env} {s : Shared} {H : Hp} {E : XK} (hr : Room 0 (Ar.deeper (envOfC "depths" (defScope s_depths) s.heap.objs.size f cdv))) :
    PSs (cxOf (L2.CX P w) P w K mg base ["some", "found", "doors", "things", "thing", "other", "mine", "whole"] "depths" (defScope s_depths) f cdv Ar outer s H E) (defBody s_depths) (t_depths K A (fun cls d _ H' => E cls d H')) := by
  have nd := sc_depths.nd
  have tk := takes_of (X := cxOf (L2.CX P w) P w K mg base ["some", "found", "doors", "things", "thing", "other", "mine", "whole"] "depths" (defScope s_depths) f cdv Ar outer s H E) (E := E) rfl rfl rfl rfl
  have hp : PassesOwn (model P w) (cxOf (L2.CX P w) P w K mg base ["some", "found", "doors", "things", "thing", "other", "mine", "whole"] "depths" (defScope s_depths) f cdv Ar outer s H E).A (cxOf (L2.CX P w) P w K mg base ["some", "found", "doors", "things", "thing", "other", "mine", "whole"] "depths" (defScope s_depths) f cdv Ar outer s H E).env (cxOf (L2.CX P w) P w K mg base ["some", "found", "doors", "things", "thing", "other", "mine", "whole"] "depths" (defScope s_depths) f cdv Ar outer s H E).xe := passes_of rfl
  exact (pss_cons (ps_set (i := 1) nd rfl (by first | exact Or.inl rfl | exact Or.inr rfl) (pe_lst (pa_cons pe_non (pa_cons (pe_tupP pa_nil) pa_nil))))
      (pss_cons (ps_for hp rfl (pi_list (pv 0)) (pg_name (i := 2) nd rfl (by first | exact Or.inl rfl | exact Or.inr rfl)) (pss_cons (ps_set (i := 3) nd rfl (by first | exact Or.inl rfl | exact Or.inr rfl) pe_non)
      (pss_cons (ps_for hp rfl (pi_tup (pv 2)) (pg_tup rfl (pgs_cons (pg_name (i := 4) nd rfl (by first | exact Or.inl rfl | exact Or.inr rfl)) (pgs_cons (pg_name (i := 5) nd rfl (by first | exact Or.inl rfl | exact Or.inr rfl)) pgs_nil))) (pss_cons (ps_set (i := 6) nd rfl (by first | exact Or.inl rfl | exact Or.inr rfl) (pe_ifExp (pt_cmpR op_gt (pv 5) pe_int (nomark _)) (pe_ix ix_seq (pv 1) (pv 5) (fun _ _ => rfl)) pe_non))
      (pss_cons (ps_set (i := 7) nd rfl (by first | exact Or.inl rfl | exact Or.inr rfl) (pe_ifExp (PW.pt (pw_or (pt_cmpR op_isNn (pv 6) pe_non (nomark _)) (pw_or1 (pt_cmpR (op_inP hr.units) (pv 4) (pv 6) (by rfl))))) pe_non (pe_tupleOfP (by rfl) T.z_tuple (pe_callB cr_sortedQ (by rfl) T.z_sorted (by decide +kernel) (pa_cons (pe_op op_catP (pv 6) (pe_tupP (pa_cons (pv 4) pa_nil))) pa_nil)))))
      (pss_cons (ps_set (i := 3) nd rfl (by first | exact Or.inl rfl | exact Or.inr rfl) (pe_ifExp (PW.pt (pw_or (pt_cmpR op_isNn (pv 3) pe_non (nomark _)) (pw_or1 (pt_cmpR (op_eqP hr.units) (pv 3) (pv 7) (nomark _))))) (pv 7) pe_bl))
      (pss_one (ps_if (PW.pt (pw_or (pt_cmpR op_isNn (pv 7) pe_non (nomark _)) (pw_or1 (pt_cmpR op_isFl (pv 3) pe_bl (nomark _))))) (pss_one (ps_ret pe_non)) pss_nil))))))
      (pss_one (ps_expr (pe_bm PySem.F.plainAttrs_list PySem.F.slot_list_append PySem.F.type_list_append mt_append (pv 1) (pa_cons (pv 3) pa_nil)))))))
      (pss_one (ps_ret (pv 1)))))

theorem d_look_book {P : Program} {w : World} {K : PySem.W.Frag} {mg : Str → Option Value} {base : Heap} {A : Ads} (T : Txt w K mg A) (c_look_rooms : Cl P w K mg base 1 "look_rooms" (sp_look_rooms K A)) (c_depths : Cl P w K mg base 1 "depths" (sp_depths K A)) (mk_Rooms : Mkr P w K mg base 1 "Rooms" A.Rooms (sp_Rooms_init K A)) (m_Rooms_book : Mt P w K mg base 12 A.Rooms "book" (sp_Rooms_book K A)) (c_taken_in : Cl P w K mg base 2 "taken_in" (sp_taken_in K A)) {f : Addr} {cdv : Value} {Ar : Around} {outer : List Env} {s : Shared} {H : Hp} {E : XK} (hr : Room 12 (Ar.deeper (envOfC "look_book" (defScope s_look_book) s.heap.objs.size f cdv))) :
    PSs (cxOf (L2.CX P w) P w K mg base ["book", "many", "some", "first", "things", "rooms"] "look_book" (defScope s_look_book) f cdv Ar outer s H E) (defBody s_look_book) (t_look_book K A (fun cls d _ H' => E cls d H')) := by
  have nd := sc_look_book.nd
  have tk := takes_of (X := cxOf (L2.CX P w) P w K mg base ["book", "many", "some", "first", "things", "rooms"] "look_book" (defScope s_look_book) f cdv Ar outer s H E) (E := E) rfl rfl rfl rfl
  have hp : PassesOwn (model P w) (cxOf (L2.CX P w) P w K mg base ["book", "many", "some", "first", "things", "rooms"] "look_book" (defScope s_look_book) f cdv Ar outer s H E).A (cxOf (L2.CX P w) P w K mg base ["book", "many", "some", "first", "things", "rooms"] "look_book" (defScope s_look_book) f cdv Ar outer s H E).env (cxOf (L2.CX P w) P w K mg base ["book", "many", "some", "first", "things", "rooms"] "look_book" (defScope s_look_book) f cdv Ar outer s H E).xe := passes_of rfl
  exact (pss_cons (ps_asg (pv 0) (pg_tup rfl (pgs_cons (pg_name (i := 1) nd rfl (by first | exact Or.inl rfl | exact Or.inr rfl)) (pgs_cons (pg_name (i := 2) nd rfl (by first | exact Or.inl rfl | exact Or.inr rfl)) (pgs_cons (pg_name (i := 3) nd rfl (by first | exact Or.inl rfl | exact Or.inr rfl)) pgs_nil)))))
      (pss_cons (ps_if (PW.pt (pw_or (pt_not (pt_chain op_le op_le pe_int (pv 1) (pe_globI T.g_MOST))) (pw_or (pt_not (pt_chain op_le op_lt pe_int (pv 3) (pe_op op_add (pe_callB call_len_seq (by rfl) T.z_len (by decide +kernel) (pa_cons (pv 2) pa_nil)) pe_int))) (pw_or1 (pt_cmpR (op_eqP hr.units) (pv 3) pe_int (nomark _)))))) (pss_one (ps_rs T.x_BadBook rfl tk)) pss_nil)
      (pss_cons (ps_expr (pe_cl c_look_rooms hr (by decide) tk (pa_cons (pv 2) pa_nil)))
      (pss_cons (ps_set (i := 4) nd rfl (by first | exact Or.inl rfl | exact Or.inr rfl) (pe_cl c_depths hr (by decide) tk (pa_cons (pv 2) pa_nil)))
      (pss_cons (ps_if (PW.pt (pw_or (pt_cmpR op_isNn (pv 4) pe_non (nomark _)) (pw_or1 (PW.pt (pw_and (pt_cmpR op_gt (pv 3) pe_int (nomark _)) (pw_and1 (pt_cmpR (op_neP hr.units) (pe_ix ix_seq (pv 4) (pv 3) (fun _ _ => rfl)) (pe_tupRgP rfl (by rfl) T.z_tuple (prg_1 (by rfl) T.z_range (pv 1))) (nomark _)))))))) (pss_one (ps_rs T.x_BadBook rfl tk)) pss_nil)
      (pss_cons (ps_set (i := 5) nd rfl (by first | exact Or.inl rfl | exact Or.inr rfl) (pe_mk0 mk_Rooms hr (by decide)))
      (pss_one (ps_if (pt_cmpR (op_neP hr.units) (pe_mt m_Rooms_book hr (by decide) (pv 5) (pa_cons (pv 1) (pa_cons (pe_cl c_taken_in hr (by decide) tk (pa_cons (pv 5) (pa_cons (pv 0) pa_nil))) pa_nil))) (pe_tupP (pa_cons (pv 1) (pa_cons (pe_callTy call_list_of (by rfl) T.z_list (by decide +kernel) (pa_cons (pv 2) pa_nil)) (pa_cons (pv 3) pa_nil)))) (nomark _)) (pss_one (ps_rs T.x_BadBook rfl tk)) pss_nil))))))))

theorem d_written {P : Program} {w : World} {K : PySem.W.Frag} {mg : Str → Option Value} {base : Heap} {A : Ads} (T : Txt w K mg A) (c_look_book : Cl P w K mg base 13 "look_book" (sp_look_book K A)) {f : Addr} {cdv : Value} {Ar : Around} {outer : List Env} {s : Shared} {H : Hp} {E : XK} (hr : Room 13 (Ar.deeper (envOfC "written" (defScope s_written) s.heap.objs.size f cdv))) :
    PSs (cxOf (L2.CX P w) P w K mg base ["book", "rows", "doors", "thing", "other"] "written" (defScope s_written) f cdv Ar outer s H E) (defBody s_written) (t_written K A (fun cls d _ H' => E cls d H')) := by
  have nd := sc_written.nd
  have tk := takes_of (X := cxOf (L2.CX P w) P w K mg base ["book", "rows", "doors", "thing", "other"] "written" (defScope s_written) f cdv Ar outer s H E) (E := E) rfl rfl rfl rfl
  have hp : PassesOwn (model P w) (cxOf (L2.CX P w) P w K mg base ["book", "rows", "doors", "thing", "other"] "written" (defScope s_written) f cdv Ar outer s H E).A (cxOf (L2.CX P w) P w K mg base ["book", "rows", "doors", "thing", "other"] "written" (defScope s_written) f cdv Ar outer s H E).env (cxOf (L2.CX P w) P w K mg base ["book", "rows", "doors", "thing", "other"] "written" (defScope s_written) f cdv Ar outer s H E).xe := passes_of rfl
  exact (pss_cons (ps_expr (pe_cl c_look_book hr (by decide) tk (pa_cons (pv 0) pa_nil)))
      (pss_cons (ps_set (i := 1) nd rfl (by first | exact Or.inl rfl | exact Or.inr rfl) (pe_lst (pa_cons (pe_op op_addS (pe_op op_addS (pe_callTy call_str_int (by rfl) T.z_str (by decide +kernel) (pa_cons (pe_ix ix_seq (pv 0) pe_int (fun _ _ => rfl)) pa_nil)) pe_str) (pe_callTy call_str_int (by rfl) T.z_str (by decide +kernel) (pa_cons (pe_ix ix_seq (pv 0) pe_int (fun _ _ => rfl)) pa_nil))) pa_nil)))
      (pss_cons (ps_for hp rfl (pi_list (pe_ix ix_seq (pv 0) pe_int (fun _ _ => rfl))) (pg_name (i := 2) nd rfl (by first | exact Or.inl rfl | exact Or.inr rfl)) (pss_one (ps_expr (pe_bm PySem.F.plainAttrs_list PySem.F.slot_list_append PySem.F.type_list_append mt_append (pv 1) (pa_cons (pe_bm PySem.F.plainAttrs_str PySem.F.slot_str_join PySem.F.type_str_join mt_joinQ pe_str (pa_cons (pe_lc (own := [("thing", 3), ("other", 4)]) rfl nd (pi_tup (pv 2)) (blkOk_by (own := [("thing", 3), ("other", 4)]) (N := ["book", "rows", "doors", "thing", "other"]) (sc := defScope s_written) (by decide +kernel)) (fun _ _ _ _ _ => (pg_tup rfl (pgs_cons (pg_name (i := 3) nd rfl (by first | exact Or.inl rfl | exact Or.inr rfl)) (pgs_cons (pg_name (i := 4) nd rfl (by first | exact Or.inl rfl | exact Or.inr rfl)) pgs_nil)))) (fun _ _ _ _ _ => pts_nil) (fun _ _ _ _ _ => (pe_op op_addS (pe_op op_addS (pe_callTy call_str_int (by rfl) T.z_str (by decide +kernel) (pa_cons (pv 3) pa_nil)) pe_str) (pe_callTy call_str_int (by rfl) T.z_str (by decide +kernel) (pa_cons (pv 4) pa_nil))))) pa_nil)) pa_nil)))))
      (pss_one (ps_ret (pe_bm PySem.F.plainAttrs_str PySem.F.slot_str_join PySem.F.type_str_join mt_joinQ pe_str (pa_cons (pv 1) pa_nil)))))))

theorem d_number_in {P : Program} {w : World} {K : PySem.W.Frag} {mg : Str → Option Value} {base : Heap} {A : Ads} (T : Txt w K mg A)  {f : Addr} {cdv : Value} {Ar : Around} {outer : List Env} {s : Shared} {H : Hp} {E : XK} (hr : Room 0 (Ar.deeper (envOfC "number_in" (defScope s_number_in) s.heap.objs.size f cdv))) :
    PSs (cxOf (L2.CX P w) P w K mg base ["word", "sign"] "number_in" (defScope s_number_in) f cdv Ar outer s H E) (defBody s_number_in) (t_number_in K A (fun cls d _ H' => E cls d H')) := by
  have nd := sc_number_in.nd
  have tk := takes_of (X := cxOf (L2.CX P w) P w K mg base ["word", "sign"] "number_in" (defScope s_number_in) f cdv Ar outer s H E) (E := E) rfl rfl rfl rfl
  have hp : PassesOwn (model P w) (cxOf (L2.CX P w) P w K mg base ["word", "sign"] "number_in" (defScope s_number_in) f cdv Ar outer s H E).A (cxOf (L2.CX P w) P w K mg base ["word", "sign"] "number_in" (defScope s_number_in) f cdv Ar outer s H E).env (cxOf (L2.CX P w) P w K mg base ["word", "sign"] "number_in" (defScope s_number_in) f cdv Ar outer s H E).xe := passes_of rfl
  exact (pss_cons (ps_if (PW.pt (pw_or (pt_not (pt_chain op_le op_le pe_int (pe_callB call_len_str (by rfl) T.z_len (by decide +kernel) (pa_cons (pv 0) pa_nil)) pe_int)) (pw_or (pt_not (pt_val (pe_callB (cr_all rfl) (by rfl) T.z_all (by decide +kernel) (pa_cons (pe_lc (own := [("sign", 1)]) rfl nd (pi_str (pv 0)) (blkOk_by (own := [("sign", 1)]) (N := ["word", "sign"]) (sc := defScope s_number_in) (by decide +kernel)) (fun _ _ _ _ _ => (pg_name (i := 1) nd rfl (by first | exact Or.inl rfl | exact Or.inr rfl))) (fun _ _ _ _ _ => pts_nil) (fun _ _ _ _ _ => (pe_cmpR op_in_sign (pv 1) (pe_globS T.g_FIGURES) (by rfl)))) pa_nil)))) (pw_or1 (PW.pt (pw_and (pt_cmpR (op_eqP hr.units) (pe_ix ix_seq (pv 0) pe_int (fun _ _ => rfl)) pe_str (nomark _)) (pw_and1 (pt_cmpR (op_neP hr.units) (pv 0) pe_str (nomark _))))))))) (pss_one (ps_rs T.x_BadText rfl tk)) pss_nil)
      (pss_one (ps_ret (pe_callTy call_int_str (by rfl) T.z_int (by decide +kernel) (pa_cons (pv 0) pa_nil)))))

theorem d_numbers_in {P : Program} {w : World} {K : PySem.W.Frag} {mg : Str → Option Value} {base : Heap} {A : Ads} (T : Txt w K mg A) (c_number_in : Cl P w K mg base 1 "number_in" (sp_number_in K A)) {f : Addr} {cdv : Value} {Ar : Around} {outer : List Env} {s : Shared} {H : Hp} {E : XK} (hr : Room 1 (Ar.deeper (envOfC "numbers_in" (defScope s_numbers_in) s.heap.objs.size f cdv))) :
    PSs (cxOf (L2.CX P w) P w K mg base ["words", "many", "word"] "numbers_in" (defScope s_numbers_in) f cdv Ar outer s H E) (defBody s_numbers_in) (t_numbers_in K A (fun cls d _ H' => E cls d H')) := by
  have nd := sc_numbers_in.nd
  have tk := takes_of (X := cxOf (L2.CX P w) P w K mg base ["words", "many", "word"] "numbers_in" (defScope s_numbers_in) f cdv Ar outer s H E) (E := E) rfl rfl rfl rfl
  have hp : PassesOwn (model P w) (cxOf (L2.CX P w) P w K mg base ["words", "many", "word"] "numbers_in" (defScope s_numbers_in) f cdv Ar outer s H E).A (cxOf (L2.CX P w) P w K mg base ["words", "many", "word"] "numbers_in" (defScope s_numbers_in) f cdv Ar outer s H E).env (cxOf (L2.CX P w) P w K mg base ["words", "many", "word"] "numbers_in" (defScope s_numbers_in) f cdv Ar outer s H E).xe := passes_of rfl
  exact (pss_cons (ps_if (pt_cmpR (op_neP hr.units) (pe_callB call_len_seq (by rfl) T.z_len (by decide +kernel) (pa_cons (pv 0) pa_nil)) (pv 1) (nomark _)) (pss_one (ps_rs T.x_BadText rfl tk)) pss_nil)
      (pss_one (ps_ret (pe_tupleOfP (by rfl) T.z_tuple (pe_lcX (W := fun cls d _ H' => E cls d H') (E := E) rfl rfl rfl rfl (fun _ _ _ _ h => h) (own := [("word", 2)]) rfl nd (pi_list (pv 0)) (blkOk_by (own := [("word", 2)]) (N := ["words", "many", "word"]) (sc := defScope s_numbers_in) (by decide +kernel)) (fun _ _ _ _ _ => (pg_name (i := 2) nd rfl (by first | exact Or.inl rfl | exact Or.inr rfl))) (fun _ _ _ _ _ => pts_nil) (fun _ _ _ _ _ xe tkb => (pe_cl c_number_in hr (by decide) tkb (pa_cons (pv 2) pa_nil))))))))

theorem d_read {P : Program} {w : World} {K : PySem.W.Frag} {mg : Str → Option Value} {base : Heap} {A : Ads} (T : Txt w K mg A) (c_numbers_in : Cl P w K mg base 2 "numbers_in" (sp_numbers_in K A)) (c_look_book : Cl P w K mg base 13 "look_book" (sp_look_book K A)) {f : Addr} {cdv : Value} {Ar : Around} {outer : List Env} {s : Shared} {H : Hp} {E : XK} (hr : Room 13 (Ar.deeper (envOfC "read" (defScope s_read) s.heap.objs.size f cdv))) :
    PSs (cxOf (L2.CX P w) P w K mg base ["text", "rows", "many", "first", "some", "row", "word", "kept", "e"] "read" (defScope s_read) f cdv Ar outer s H E) (defBody s_read) (t_read K A (fun cls d _ H' => E cls d H')) := by
  have nd := sc_read.nd
  have tk := takes_of (X := cxOf (L2.CX P w) P w K mg base ["text", "rows", "many", "first", "some", "row", "word", "kept", "e"] "read" (defScope s_read) f cdv Ar outer s H E) (E := E) rfl rfl rfl rfl
  have hp : PassesOwn (model P w) (cxOf (L2.CX P w) P w K mg base ["text", "rows", "many", "first", "some", "row", "word", "kept", "e"] "read" (defScope s_read) f cdv Ar outer s H E).A (cxOf (L2.CX P w) P w K mg base ["text", "rows", "many", "first", "some", "row", "word", "kept", "e"] "read" (defScope s_read) f cdv Ar outer s H E).env (cxOf (L2.CX P w) P w K mg base ["text", "rows", "many", "first", "some", "row", "word", "kept", "e"] "read" (defScope s_read) f cdv Ar outer s H E).xe := passes_of rfl
  exact (pss_cons (ps_set (i := 1) nd rfl (by first | exact Or.inl rfl | exact Or.inr rfl) (pe_bm PySem.F.plainAttrs_str PySem.F.slot_str_split PySem.F.type_str_split mt_splitQ (pv 0) (pa_cons pe_str pa_nil)))
      (pss_cons (ps_asg (pe_cl c_numbers_in hr (by decide) tk (pa_cons (pe_bm PySem.F.plainAttrs_str PySem.F.slot_str_split PySem.F.type_str_split mt_splitQ (pe_ix ix_seq (pv 1) pe_int (fun _ _ => rfl)) (pa_cons pe_str pa_nil)) (pa_cons pe_int pa_nil))) (pg_tup rfl (pgs_cons (pg_name (i := 2) nd rfl (by first | exact Or.inl rfl | exact Or.inr rfl)) (pgs_cons (pg_name (i := 3) nd rfl (by first | exact Or.inl rfl | exact Or.inr rfl)) pgs_nil))))
      (pss_cons (ps_set (i := 4) nd rfl (by first | exact Or.inl rfl | exact Or.inr rfl) (pe_lst pa_nil))
      (pss_cons (ps_for hp rfl (pi_list (pe_slice sl_list (pv 1) (po_some pe_int) po_none)) (pg_name (i := 5) nd rfl (by first | exact Or.inl rfl | exact Or.inr rfl)) (pss_one (ps_expr (pe_bm PySem.F.plainAttrs_list PySem.F.slot_list_append PySem.F.type_list_append mt_append (pv 4) (pa_cons (pe_tupleOfP (by rfl) T.z_tuple (pe_lcX (W := fun cls d _ H' => E cls d H') (E := E) rfl rfl rfl rfl (fun _ _ _ _ h => h) (own := [("word", 6)]) rfl nd (pi_list (pe_bm PySem.F.plainAttrs_str PySem.F.slot_str_split PySem.F.type_str_split mt_splitQ (pv 5) (pa_cons pe_str pa_nil))) (blkOk_by (own := [("word", 6)]) (N := ["text", "rows", "many", "first", "some", "row", "word", "kept", "e"]) (sc := defScope s_read) (by decide +kernel)) (fun _ _ _ _ _ => (pg_name (i := 6) nd rfl (by first | exact Or.inl rfl | exact Or.inr rfl))) (fun _ _ _ _ _ => pts_nil) (fun _ _ _ _ _ xe tkb => (pe_cl c_numbers_in hr (by decide) tkb (pa_cons (pe_bm PySem.F.plainAttrs_str PySem.F.slot_str_split PySem.F.type_str_split mt_splitQ (pv 6) (pa_cons pe_str pa_nil)) (pa_cons pe_int pa_nil)))))) pa_nil)))))
      (pss_cons (ps_set (i := 7) nd rfl (by first | exact Or.inl rfl | exact Or.inr rfl) pe_non)
      (pss_cut (ps_try_keep (i := 8) (k := 7) (tb := fun W => (tDrop (tCallS (sp_look_book K A) (WE W) (tCons (tTupP (tCons (tVar 2) (tCons (tVar 4) (tCons (tVar 3) tNil)))) tNil)))) rfl rfl rfl nd rfl rfl rfl rfl (by decide) (by decide) ⟨by rfl, by decide, .inl T.x_BadBook.g⟩ (fun W pn xe tk hpT => (pss_one (ps_expr (pe_cl c_look_book hr (by decide) tk (pa_cons (pe_tupP (pa_cons (pv 2) (pa_cons (pv 4) (pa_cons (pv 3) pa_nil)))) pa_nil))))) (fun _ _ => rfl))
      (pss_cons (ps_if (pt_cmpR op_isNotNn (pv 7) pe_non (nomark _)) (pss_one (ps_rs T.x_BadText rfl tk)) pss_nil)
      (pss_one (ps_ret (pe_tupP (pa_cons (pv 2) (pa_cons (pv 4) (pa_cons (pv 3) pa_nil)))))))))))))

theorem d_law_cell {P : Program} {w : World} {K : PySem.W.Frag} {mg : Str → Option Value} {base : Heap} {A : Ads} (T : Txt w K mg A)  {f : Addr} {cdv : Value} {Ar : Around} {outer : List Env} {s : Shared} {H : Hp} {E : XK} (hr : Room 0 (Ar.deeper (envOfC "_law_cell" (defScope s_law_cell) s.heap.objs.size f cdv))) :
    PSs (cxOf (L2.CX P w) P w K mg base ["_law_script", "_law_k"] "_law_cell" (defScope s_law_cell) f cdv Ar outer s H E) (defBody s_law_cell) (t_law_cell K A (fun cls d _ H' => E cls d H')) := by
  have nd := sc_law_cell.nd
  have tk := takes_of (X := cxOf (L2.CX P w) P w K mg base ["_law_script", "_law_k"] "_law_cell" (defScope s_law_cell) f cdv Ar outer s H E) (E := E) rfl rfl rfl rfl
  have hp : PassesOwn (model P w) (cxOf (L2.CX P w) P w K mg base ["_law_script", "_law_k"] "_law_cell" (defScope s_law_cell) f cdv Ar outer s H E).A (cxOf (L2.CX P w) P w K mg base ["_law_script", "_law_k"] "_law_cell" (defScope s_law_cell) f cdv Ar outer s H E).env (cxOf (L2.CX P w) P w K mg base ["_law_script", "_law_k"] "_law_cell" (defScope s_law_cell) f cdv Ar outer s H E).xe := passes_of rfl
  exact (pss_cons (ps_if (pt_truth (pv 0) (by intro _; rfl)) (pss_one (ps_ret (pe_ix ix_seq (pv 0) (pe_op op_mod (pv 1) (pe_callB call_len_seq (by rfl) T.z_len (by decide +kernel) (pa_cons (pv 0) pa_nil))) (fun _ _ => rfl)))) pss_nil)
      (pss_one (ps_ret pe_int)))

theorem d_law_mix {P : Program} {w : World} {K : PySem.W.Frag} {mg : Str → Option Value} {base : Heap} {A : Ads} (T : Txt w K mg A) (c_law_cell : Cl P w K mg base 1 "_law_cell" (sp_law_cell K A)) {f : Addr} {cdv : Value} {Ar : Around} {outer : List Env} {s : Shared} {H : Hp} {E : XK} (hr : Room 1 (Ar.deeper (envOfC "_law_mix" (defScope s_law_mix) s.heap.objs.size f cdv))) :
    PSs (cxOf (L2.CX P w) P w K mg base ["_law_script", "_law_k", "_law_number"] "_law_mix" (defScope s_law_mix) f cdv Ar outer s H E) (defBody s_law_mix) (t_law_mix K A (fun cls d _ H' => E cls d H')) := by
  have nd := sc_law_mix.nd
  have tk := takes_of (X := cxOf (L2.CX P w) P w K mg base ["_law_script", "_law_k", "_law_number"] "_law_mix" (defScope s_law_mix) f cdv Ar outer s H E) (E := E) rfl rfl rfl rfl
  have hp : PassesOwn (model P w) (cxOf (L2.CX P w) P w K mg base ["_law_script", "_law_k", "_law_number"] "_law_mix" (defScope s_law_mix) f cdv Ar outer s H E).A (cxOf (L2.CX P w) P w K mg base ["_law_script", "_law_k", "_law_number"] "_law_mix" (defScope s_law_mix) f cdv Ar outer s H E).env (cxOf (L2.CX P w) P w K mg base ["_law_script", "_law_k", "_law_number"] "_law_mix" (defScope s_law_mix) f cdv Ar outer s H E).xe := passes_of rfl
  exact (pss_cons (ps_set (i := 2) nd rfl (by first | exact Or.inl rfl | exact Or.inr rfl) (pe_op op_mod (pe_op op_add (pe_cl c_law_cell hr (by decide) tk (pa_cons (pv 0) (pa_cons (pv 1) pa_nil))) (pe_op op_mul pe_int (pe_op op_add (pv 1) pe_int))) pe_int))
      (pss_cons (ps_set (i := 2) nd rfl (by first | exact Or.inl rfl | exact Or.inr rfl) (pe_op op_mod (pe_op op_mul (pv 2) pe_int) pe_int))
      (pss_one (ps_ret (pe_op op_mod (pe_op op_add (pe_op op_mul (pe_op op_fdiv (pv 2) pe_int) pe_int) (pv 2)) pe_int)))))

theorem d_law_all {P : Program} {w : World} {K : PySem.W.Frag} {mg : Str → Option Value} {base : Heap} {A : Ads} (T : Txt w K mg A)  {f : Addr} {cdv : Value} {Ar : Around} {outer : List Env} {s : Shared} {H : Hp} {E : XK} (hr : Room 0 (Ar.deeper (envOfC "_law_all" (defScope s_law_all) s.heap.objs.size f cdv))) :
    PSs (cxOf (L2.CX P w) P w K mg base ["_law_many", "_law_found", "_law_k", "_law_longer", "_law_order", "_law_thing"] "_law_all" (defScope s_law_all) f cdv Ar outer s H E) (defBody s_law_all) (t_law_all K A (fun cls d _ H' => E cls d H')) := by
  have nd := sc_law_all.nd
  have tk := takes_of (X := cxOf (L2.CX P w) P w K mg base ["_law_many", "_law_found", "_law_k", "_law_longer", "_law_order", "_law_thing"] "_law_all" (defScope s_law_all) f cdv Ar outer s H E) (E := E) rfl rfl rfl rfl
  have hp : PassesOwn (model P w) (cxOf (L2.CX P w) P w K mg base ["_law_many", "_law_found", "_law_k", "_law_longer", "_law_order", "_law_thing"] "_law_all" (defScope s_law_all) f cdv Ar outer s H E).A (cxOf (L2.CX P w) P w K mg base ["_law_many", "_law_found", "_law_k", "_law_longer", "_law_order", "_law_thing"] "_law_all" (defScope s_law_all) f cdv Ar outer s H E).env (cxOf (L2.CX P w) P w K mg base ["_law_many", "_law_found", "_law_k", "_law_longer", "_law_order", "_law_thing"] "_law_all" (defScope s_law_all) f cdv Ar outer s H E).xe := passes_of rfl
  exact (pss_cons (ps_set (i := 1) nd rfl (by first | exact Or.inl rfl | exact Or.inr rfl) (pe_lst (pa_cons (pe_tupP pa_nil) pa_nil)))
      (pss_cons (ps_for hp rfl (pi_range1 (by rfl) T.z_range (pa_cons (pv 0) pa_nil)) (pg_name (i := 2) nd rfl (by first | exact Or.inl rfl | exact Or.inr rfl)) (pss_cons (ps_set (i := 3) nd rfl (by first | exact Or.inl rfl | exact Or.inr rfl) (pe_lst pa_nil))
      (pss_cons (ps_for hp rfl (pi_list (pv 1)) (pg_name (i := 4) nd rfl (by first | exact Or.inl rfl | exact Or.inr rfl)) (pss_one (ps_set (i := 3) nd rfl (by first | exact Or.inl rfl | exact Or.inr rfl) (pe_op op_cat (pv 3) (pe_lc (own := [("_law_thing", 5)]) rfl nd (pi_range1 (by rfl) T.z_range (pa_cons (pv 0) pa_nil)) (blkOk_by (own := [("_law_thing", 5)]) (N := ["_law_many", "_law_found", "_law_k", "_law_longer", "_law_order", "_law_thing"]) (sc := defScope s_law_all) (by decide +kernel)) (fun _ _ _ _ _ => (pg_name (i := 5) nd rfl (by first | exact Or.inl rfl | exact Or.inr rfl))) (fun _ _ _ _ _ => (pts_one (pt_cmpR (op_niP hr.units) (pv 5) (pv 4) (by rfl)))) (fun _ _ _ _ _ => (pe_op op_catP (pv 4) (pe_tupP (pa_cons (pv 5) pa_nil)))))))))
      (pss_one (ps_set (i := 1) nd rfl (by first | exact Or.inl rfl | exact Or.inr rfl) (pv 3))))))
      (pss_one (ps_ret (pv 1)))))

theorem d_law_set {P : Program} {w : World} {K : PySem.W.Frag} {mg : Str → Option Value} {base : Heap} {A : Ads} (T : Txt w K mg A) (c_law_all : Cl P w K mg base 1 "_law_all" (sp_law_all K A)) (c_law_mix : Cl P w K mg base 2 "_law_mix" (sp_law_mix K A)) {f : Addr} {cdv : Value} {Ar : Around} {outer : List Env} {s : Shared} {H : Hp} {E : XK} (hr : Room 2 (Ar.deeper (envOfC "_law_set" (defScope s_law_set) s.heap.objs.size f cdv))) :
    PSs (cxOf (L2.CX P w) P w K mg base ["_law_script", "_law_k", "_law_many", "_law_some", "_law_way", "_law_number", "_law_order", "_law_share", "_law_j"] "_law_set" (defScope s_law_set) f cdv Ar outer s H E) (defBody s_law_set) (t_law_set K A (fun cls d _ H' => E cls d H')) := by
  have nd := sc_law_set.nd
  have tk := takes_of (X := cxOf (L2.CX P w) P w K mg base ["_law_script", "_law_k", "_law_many", "_law_some", "_law_way", "_law_number", "_law_order", "_law_share", "_law_j"] "_law_set" (defScope s_law_set) f cdv Ar outer s H E) (E := E) rfl rfl rfl rfl
  have hp : PassesOwn (model P w) (cxOf (L2.CX P w) P w K mg base ["_law_script", "_law_k", "_law_many", "_law_some", "_law_way", "_law_number", "_law_order", "_law_share", "_law_j"] "_law_set" (defScope s_law_set) f cdv Ar outer s H E).A (cxOf (L2.CX P w) P w K mg base ["_law_script", "_law_k", "_law_many", "_law_some", "_law_way", "_law_number", "_law_order", "_law_share", "_law_j"] "_law_set" (defScope s_law_set) f cdv Ar outer s H E).env (cxOf (L2.CX P w) P w K mg base ["_law_script", "_law_k", "_law_many", "_law_some", "_law_way", "_law_number", "_law_order", "_law_share", "_law_j"] "_law_set" (defScope s_law_set) f cdv Ar outer s H E).xe := passes_of rfl
  exact (pss_cons (ps_set (i := 3) nd rfl (by first | exact Or.inl rfl | exact Or.inr rfl) (pe_cl c_law_all hr (by decide) tk (pa_cons (pv 2) pa_nil)))
      (pss_cons (ps_set (i := 4) nd rfl (by first | exact Or.inl rfl | exact Or.inr rfl) (pe_op op_mod (pe_cl c_law_mix hr (by decide) tk (pa_cons (pv 0) (pa_cons (pv 1) pa_nil))) pe_int))
      (pss_cons (ps_set (i := 5) nd rfl (by first | exact Or.inl rfl | exact Or.inr rfl) (pe_cl c_law_mix hr (by decide) tk (pa_cons (pv 0) (pa_cons (pe_op op_add (pv 1) pe_int) pa_nil))))
      (pss_cons (ps_if (pt_cmpR (op_eqP hr.units) (pv 4) pe_int (nomark _)) (pss_one (ps_ret (pe_lc (own := [("_law_order", 6)]) rfl nd (pi_list (pv 3)) (blkOk_by (own := [("_law_order", 6)]) (N := ["_law_script", "_law_k", "_law_many", "_law_some", "_law_way", "_law_number", "_law_order", "_law_share", "_law_j"]) (sc := defScope s_law_set) (by decide +kernel)) (fun _ _ _ _ _ => (pg_name (i := 6) nd rfl (by first | exact Or.inl rfl | exact Or.inr rfl))) (fun _ _ _ _ _ => (pts_one (pt_cmpR (op_eqP hr.units) (pe_ix ix_seq (pv 6) (pe_op op_mod (pv 5) (pv 2)) (fun _ _ => rfl)) (pe_op op_mod (pe_op op_fdiv (pv 5) pe_int) (pv 2)) (nomark _)))) (fun _ _ _ _ _ => (pv 6))))) pss_nil)
      (pss_cons (ps_if (pt_cmpR (op_eqP hr.units) (pv 4) pe_int (nomark _)) (pss_one (ps_ret (pe_ix ix_seq (pe_lst (pa_cons (pe_lst pa_nil) (pa_cons (pv 3) (pa_cons (pe_slice sl_list (pv 3) po_none (po_some pe_int)) (pa_cons (pe_slice sl_list (pv 3) (po_some (pe_un un_neg pe_int)) po_none) pa_nil))))) (pe_op op_mod (pv 5) pe_int) (fun _ _ => rfl)))) pss_nil)
      (pss_cons (ps_set (i := 7) nd rfl (by first | exact Or.inl rfl | exact Or.inr rfl) (pe_ix ix_seq (pe_lst (pa_cons pe_int (pa_cons pe_int (pa_cons pe_int (pa_cons pe_int (pa_cons pe_int (pa_cons pe_int pa_nil))))))) (pv 4) (fun _ _ => rfl)))
      (pss_one (ps_ret (pe_lc (own := [("_law_j", 8)]) rfl nd (pi_range1 (by rfl) T.z_range (pa_cons (pe_callB call_len_seq (by rfl) T.z_len (by decide +kernel) (pa_cons (pv 3) pa_nil)) pa_nil)) (blkOk_by (own := [("_law_j", 8)]) (N := ["_law_script", "_law_k", "_law_many", "_law_some", "_law_way", "_law_number", "_law_order", "_law_share", "_law_j"]) (sc := defScope s_law_set) (by decide +kernel)) (fun _ _ _ _ _ => (pg_name (i := 8) nd rfl (by first | exact Or.inl rfl | exact Or.inr rfl))) (fun _ _ _ _ _ => (pts_one (pt_cmpR op_lt (pe_op op_mod (pe_op op_fdiv (pe_cl c_law_mix hr (by decide) takes0 (pa_cons (pv 0) (pa_cons (pe_op op_add (pe_op op_add (pv 1) pe_int) (pv 8)) pa_nil))) pe_int) pe_int) (pv 7) (nomark _)))) (fun _ _ _ _ _ => (pe_ix ix_seq (pv 3) (pv 8) (fun _ _ => rfl))))))))))))

theorem d_law_refusal {P : Program} {w : World} {K : PySem.W.Frag} {mg : Str → Option Value} {base : Heap} {A : Ads} (T : Txt w K mg A)  {f : Addr} {cdv : Value} {Ar : Around} {outer : List Env} {s : Shared} {H : Hp} {E : XK} (hr : Room 0 (Ar.deeper (envOfC "_law_refusal" (defScope s_law_refusal) s.heap.objs.size f cdv))) :
    PSs (cxOf (L2.CX P w) P w K mg base ["_law_kept", "_law_kinds"] "_law_refusal" (defScope s_law_refusal) f cdv Ar outer s H E) (defBody s_law_refusal) (t_law_refusal K A (fun cls d _ H' => E cls d H')) := by
  have nd := sc_law_refusal.nd
  have tk := takes_of (X := cxOf (L2.CX P w) P w K mg base ["_law_kept", "_law_kinds"] "_law_refusal" (defScope s_law_refusal) f cdv Ar outer s H E) (E := E) rfl rfl rfl rfl
  have hp : PassesOwn (model P w) (cxOf (L2.CX P w) P w K mg base ["_law_kept", "_law_kinds"] "_law_refusal" (defScope s_law_refusal) f cdv Ar outer s H E).A (cxOf (L2.CX P w) P w K mg base ["_law_kept", "_law_kinds"] "_law_refusal" (defScope s_law_refusal) f cdv Ar outer s H E).env (cxOf (L2.CX P w) P w K mg base ["_law_kept", "_law_kinds"] "_law_refusal" (defScope s_law_refusal) f cdv Ar outer s H E).xe := passes_of rfl
  exact (pss_cons (ps_if (pt_cmpR op_isNn (pv 0) pe_non (nomark _)) (pss_one (ps_ret pe_str)) pss_nil)
      (pss_cons (ps_set (i := 1) nd rfl (by first | exact Or.inl rfl | exact Or.inr rfl) (pe_lst (pa_cons (pe_callB call_isA (by rfl) T.z_isinstance (by decide +kernel) (pa_cons (pv 0) (pa_cons (pe_glob (by rfl) T.x_BadBook.g rfl) pa_nil))) (pa_cons (pe_callB call_isA (by rfl) T.z_isinstance (by decide +kernel) (pa_cons (pv 0) (pa_cons (pe_glob (by rfl) T.x_BadNumber.g rfl) pa_nil))) (pa_cons (pe_callB call_isA (by rfl) T.z_isinstance (by decide +kernel) (pa_cons (pv 0) (pa_cons (pe_glob (by rfl) T.x_BadOrder.g rfl) pa_nil))) pa_nil)))))
      (pss_cons (ps_set (i := 1) nd rfl (by first | exact Or.inl rfl | exact Or.inr rfl) (pe_op op_cat (pv 1) (pe_lst (pa_cons (pe_callB call_isA (by rfl) T.z_isinstance (by decide +kernel) (pa_cons (pv 0) (pa_cons (pe_glob (by rfl) T.x_BadRule.g rfl) pa_nil))) (pa_cons (pe_callB call_isA (by rfl) T.z_isinstance (by decide +kernel) (pa_cons (pv 0) (pa_cons (pe_glob (by rfl) T.x_BadText.g rfl) pa_nil))) (pa_cons (pe_callB call_isA (by rfl) T.z_isinstance (by decide +kernel) (pa_cons (pv 0) (pa_cons (pe_glob (by rfl) T.x_BadWeights.g rfl) pa_nil))) pa_nil))))))
      (pss_cons (ps_expr (pe_bm PySem.F.plainAttrs_list PySem.F.slot_list_append PySem.F.type_list_append mt_append (pv 1) (pa_cons (pe_callB call_isA (by rfl) T.z_isinstance (by decide +kernel) (pa_cons (pv 0) (pa_cons (pe_glob (by rfl) T.x_Unlike.g rfl) pa_nil))) pa_nil)))
      (pss_cons (ps_if (PW.pt (pw_or (pt_cmpR (op_neP hr.units) (pe_bm PySem.F.plainAttrs_list PySem.F.slot_list_count PySem.F.type_list_count (mt_countP hr.units) (pv 1) (pa_cons pe_bl pa_nil)) pe_int (nomark _)) (pw_or1 (pt_not (pt_val (pe_callB call_isA (by rfl) T.z_isinstance (by decide +kernel) (pa_cons (pv 0) (pa_cons (pe_bltn (v := .ty "ValueError") (by rfl) T.z_ValueError (by decide +kernel) rfl) pa_nil)))))))) (pss_one (ps_ret pe_str)) pss_nil)
      (pss_one (ps_ret (pe_ix ix_seq (pe_lst (pa_cons pe_str (pa_cons pe_str (pa_cons pe_str (pa_cons pe_str (pa_cons pe_str (pa_cons pe_str (pa_cons pe_str pa_nil)))))))) (pe_bm PySem.F.plainAttrs_list PySem.F.slot_list_index PySem.F.type_list_index (mt_indexP hr.units) (pv 1) (pa_cons pe_bl pa_nil)) (fun _ _ => rfl)))))))))

theorem d_law_text {P : Program} {w : World} {K : PySem.W.Frag} {mg : Str → Option Value} {base : Heap} {A : Ads} (T : Txt w K mg A)  {f : Addr} {cdv : Value} {Ar : Around} {outer : List Env} {s : Shared} {H : Hp} {E : XK} (hr : Room 0 (Ar.deeper (envOfC "_law_text" (defScope s_law_text) s.heap.objs.size f cdv))) :
    PSs (cxOf (L2.CX P w) P w K mg base ["_law_book", "_law_rows", "_law_doors", "_law_thing", "_law_other"] "_law_text" (defScope s_law_text) f cdv Ar outer s H E) (defBody s_law_text) (t_law_text K A (fun cls d _ H' => E cls d H')) := by
  have nd := sc_law_text.nd
  have tk := takes_of (X := cxOf (L2.CX P w) P w K mg base ["_law_book", "_law_rows", "_law_doors", "_law_thing", "_law_other"] "_law_text" (defScope s_law_text) f cdv Ar outer s H E) (E := E) rfl rfl rfl rfl
  have hp : PassesOwn (model P w) (cxOf (L2.CX P w) P w K mg base ["_law_book", "_law_rows", "_law_doors", "_law_thing", "_law_other"] "_law_text" (defScope s_law_text) f cdv Ar outer s H E).A (cxOf (L2.CX P w) P w K mg base ["_law_book", "_law_rows", "_law_doors", "_law_thing", "_law_other"] "_law_text" (defScope s_law_text) f cdv Ar outer s H E).env (cxOf (L2.CX P w) P w K mg base ["_law_book", "_law_rows", "_law_doors", "_law_thing", "_law_other"] "_law_text" (defScope s_law_text) f cdv Ar outer s H E).xe := passes_of rfl
  exact (pss_cons (ps_set (i := 1) nd rfl (by first | exact Or.inl rfl | exact Or.inr rfl) (pe_lst (pa_cons (pe_op op_addS (pe_op op_addS (pe_callTy call_str_int (by rfl) T.z_str (by decide +kernel) (pa_cons (pe_ix ix_seq (pv 0) pe_int (fun _ _ => rfl)) pa_nil)) pe_str) (pe_callTy call_str_int (by rfl) T.z_str (by decide +kernel) (pa_cons (pe_ix ix_seq (pv 0) pe_int (fun _ _ => rfl)) pa_nil))) pa_nil)))
      (pss_cons (ps_for hp rfl (pi_list (pe_ix ix_seq (pv 0) pe_int (fun _ _ => rfl))) (pg_name (i := 2) nd rfl (by first | exact Or.inl rfl | exact Or.inr rfl)) (pss_one (ps_expr (pe_bm PySem.F.plainAttrs_list PySem.F.slot_list_append PySem.F.type_list_append mt_append (pv 1) (pa_cons (pe_bm PySem.F.plainAttrs_str PySem.F.slot_str_join PySem.F.type_str_join mt_joinQ pe_str (pa_cons (pe_lc (own := [("_law_thing", 3), ("_law_other", 4)]) rfl nd (pi_tup (pv 2)) (blkOk_by (own := [("_law_thing", 3), ("_law_other", 4)]) (N := ["_law_book", "_law_rows", "_law_doors", "_law_thing", "_law_other"]) (sc := defScope s_law_text) (by decide +kernel)) (fun _ _ _ _ _ => (pg_tup rfl (pgs_cons (pg_name (i := 3) nd rfl (by first | exact Or.inl rfl | exact Or.inr rfl)) (pgs_cons (pg_name (i := 4) nd rfl (by first | exact Or.inl rfl | exact Or.inr rfl)) pgs_nil)))) (fun _ _ _ _ _ => pts_nil) (fun _ _ _ _ _ => (pe_op op_addS (pe_op op_addS (pe_callTy call_str_int (by rfl) T.z_str (by decide +kernel) (pa_cons (pv 3) pa_nil)) pe_str) (pe_callTy call_str_int (by rfl) T.z_str (by decide +kernel) (pa_cons (pv 4) pa_nil))))) pa_nil)) pa_nil)))))
      (pss_one (ps_ret (pe_bm PySem.F.plainAttrs_str PySem.F.slot_str_join PySem.F.type_str_join mt_joinQ pe_str (pa_cons (pv 1) pa_nil))))))

theorem d_law_numbers {P : Program} {w : World} {K : PySem.W.Frag} {mg : Str → Option Value} {base : Heap} {A : Ads} (T : Txt w K mg A)  {f : Addr} {cdv : Value} {Ar : Around} {outer : List Env} {s : Shared} {H : Hp} {E : XK} (hr : Room 0 (Ar.deeper (envOfC "_law_numbers" (defScope s_law_numbers) s.heap.objs.size f cdv))) :
    PSs (cxOf (L2.CX P w) P w K mg base ["_law_words", "_law_found", "_law_word", "_law_one"] "_law_numbers" (defScope s_law_numbers) f cdv Ar outer s H E) (defBody s_law_numbers) (t_law_numbers K A (fun cls d _ H' => E cls d H')) := by
  have nd := sc_law_numbers.nd
  have tk := takes_of (X := cxOf (L2.CX P w) P w K mg base ["_law_words", "_law_found", "_law_word", "_law_one"] "_law_numbers" (defScope s_law_numbers) f cdv Ar outer s H E) (E := E) rfl rfl rfl rfl
  have hp : PassesOwn (model P w) (cxOf (L2.CX P w) P w K mg base ["_law_words", "_law_found", "_law_word", "_law_one"] "_law_numbers" (defScope s_law_numbers) f cdv Ar outer s H E).A (cxOf (L2.CX P w) P w K mg base ["_law_words", "_law_found", "_law_word", "_law_one"] "_law_numbers" (defScope s_law_numbers) f cdv Ar outer s H E).env (cxOf (L2.CX P w) P w K mg base ["_law_words", "_law_found", "_law_word", "_law_one"] "_law_numbers" (defScope s_law_numbers) f cdv Ar outer s H E).xe := passes_of rfl
  exact (pss_cons (ps_set (i := 1) nd rfl (by first | exact Or.inl rfl | exact Or.inr rfl) (pe_lst pa_nil))
      (pss_cons (ps_for hp rfl (pi_list (pv 0)) (pg_name (i := 2) nd rfl (by first | exact Or.inl rfl | exact Or.inr rfl)) (pss_cons (ps_if (PW.pt (pw_or (pt_cmpR (op_eqP hr.units) (pv 2) pe_str (nomark _)) (pw_or (pt_cmpR op_gt (pe_callB call_len_str (by rfl) T.z_len (by decide +kernel) (pa_cons (pv 2) pa_nil)) pe_int (nomark _)) (pw_or (pt_not (pt_val (pe_callB (cr_all rfl) (by rfl) T.z_all (by decide +kernel) (pa_cons (pe_lc (own := [("_law_one", 3)]) rfl nd (pi_str (pv 2)) (blkOk_by (own := [("_law_one", 3)]) (N := ["_law_words", "_law_found", "_law_word", "_law_one"]) (sc := defScope s_law_numbers) (by decide +kernel)) (fun _ _ _ _ _ => (pg_name (i := 3) nd rfl (by first | exact Or.inl rfl | exact Or.inr rfl))) (fun _ _ _ _ _ => pts_nil) (fun _ _ _ _ _ => (pe_cmpR op_in_sign (pv 3) pe_str (by rfl)))) pa_nil)))) (pw_or1 (pt_cmpR (op_neP hr.units) (pe_callTy call_str_int (by rfl) T.z_str (by decide +kernel) (pa_cons (pe_callTy call_int_str (by rfl) T.z_int (by decide +kernel) (pa_cons (pv 2) pa_nil)) pa_nil)) (pv 2) (nomark _))))))) (pss_one (ps_ret pe_non)) pss_nil)
      (pss_one (ps_expr (pe_bm PySem.F.plainAttrs_list PySem.F.slot_list_append PySem.F.type_list_append mt_append (pv 1) (pa_cons (pe_callTy call_int_str (by rfl) T.z_int (by decide +kernel) (pa_cons (pv 2) pa_nil)) pa_nil))))))
      (pss_one (ps_ret (pe_tupleOfP (by rfl) T.z_tuple (pv 1))))))

theorem d_law_tried {P : Program} {w : World} {K : PySem.W.Frag} {mg : Str → Option Value} {base : Heap} {A : Ads} (T : Txt w K mg A) (c_law_numbers : Cl P w K mg base 1 "_law_numbers" (sp_law_numbers K A)) {f : Addr} {cdv : Value} {Ar : Around} {outer : List Env} {s : Shared} {H : Hp} {E : XK} (hr : Room 1 (Ar.deeper (envOfC "_law_tried" (defScope s_law_tried) s.heap.objs.size f cdv))) :
    PSs (cxOf (L2.CX P w) P w K mg base ["_law_text_here", "_law_rows", "_law_head", "_law_some", "_law_row", "_law_doors", "_law_word", "_law_door"] "_law_tried" (defScope s_law_tried) f cdv Ar outer s H E) (defBody s_law_tried) (t_law_tried K A (fun cls d _ H' => E cls d H')) := by
  have nd := sc_law_tried.nd
  have tk := takes_of (X := cxOf (L2.CX P w) P w K mg base ["_law_text_here", "_law_rows", "_law_head", "_law_some", "_law_row", "_law_doors", "_law_word", "_law_door"] "_law_tried" (defScope s_law_tried) f cdv Ar outer s H E) (E := E) rfl rfl rfl rfl
  have hp : PassesOwn (model P w) (cxOf (L2.CX P w) P w K mg base ["_law_text_here", "_law_rows", "_law_head", "_law_some", "_law_row", "_law_doors", "_law_word", "_law_door"] "_law_tried" (defScope s_law_tried) f cdv Ar outer s H E).A (cxOf (L2.CX P w) P w K mg base ["_law_text_here", "_law_rows", "_law_head", "_law_some", "_law_row", "_law_doors", "_law_word", "_law_door"] "_law_tried" (defScope s_law_tried) f cdv Ar outer s H E).env (cxOf (L2.CX P w) P w K mg base ["_law_text_here", "_law_rows", "_law_head", "_law_some", "_law_row", "_law_doors", "_law_word", "_law_door"] "_law_tried" (defScope s_law_tried) f cdv Ar outer s H E).xe := passes_of rfl
  exact (pss_cons (ps_set (i := 1) nd rfl (by first | exact Or.inl rfl | exact Or.inr rfl) (pe_bm PySem.F.plainAttrs_str PySem.F.slot_str_split PySem.F.type_str_split mt_splitQ (pv 0) (pa_cons pe_str pa_nil)))
      (pss_cons (ps_set (i := 2) nd rfl (by first | exact Or.inl rfl | exact Or.inr rfl) (pe_cl c_law_numbers hr (by decide) tk (pa_cons (pe_bm PySem.F.plainAttrs_str PySem.F.slot_str_split PySem.F.type_str_split mt_splitQ (pe_ix ix_seq (pv 1) pe_int (fun _ _ => rfl)) (pa_cons pe_str pa_nil)) pa_nil)))
      (pss_cons (ps_if (PW.pt (pw_or (pt_cmpR op_isNn (pv 2) pe_non (nomark _)) (pw_or1 (pt_cmpR (op_neP hr.units) (pe_callB call_len_seq (by rfl) T.z_len (by decide +kernel) (pa_cons (pv 2) pa_nil)) pe_int (nomark _))))) (pss_one (ps_ret pe_non)) pss_nil)
      (pss_cons (ps_set (i := 3) nd rfl (by first | exact Or.inl rfl | exact Or.inr rfl) (pe_lst pa_nil))
      (pss_cons (ps_for hp rfl (pi_list (pe_slice sl_list (pv 1) (po_some pe_int) po_none)) (pg_name (i := 4) nd rfl (by first | exact Or.inl rfl | exact Or.inr rfl)) (pss_cons (ps_setLc (i := 5) (own := [("_law_word", 6)]) rfl nd rfl rfl (sw_true rfl rfl rfl (by decide +kernel)) (pi_list (pe_bm PySem.F.plainAttrs_str PySem.F.slot_str_split PySem.F.type_str_split mt_splitQ (pv 4) (pa_cons pe_str pa_nil))) (blkOk_by (own := [("_law_word", 6)]) (N := ["_law_text_here", "_law_rows", "_law_head", "_law_some", "_law_row", "_law_doors", "_law_word", "_law_door"]) (sc := defScope s_law_tried) (by decide +kernel)) (fun _ _ _ _ _ => (pg_name (i := 6) nd rfl (by first | exact Or.inl rfl | exact Or.inr rfl))) (fun _ _ _ _ _ => pts_nil) (fun _ _ _ _ _ => (pe_cl c_law_numbers hr (by decide) takes0 (pa_cons (pe_bm PySem.F.plainAttrs_str PySem.F.slot_str_split PySem.F.type_str_split mt_splitQ (pv 6) (pa_cons pe_str pa_nil)) pa_nil))))
      (pss_cons (ps_if (pt_not (pt_val (pe_callB (cr_all rfl) (by rfl) T.z_all (by decide +kernel) (pa_cons (pe_lc (own := [("_law_door", 7)]) rfl nd (pi_list (pv 5)) (blkOk_by (own := [("_law_door", 7)]) (N := ["_law_text_here", "_law_rows", "_law_head", "_law_some", "_law_row", "_law_doors", "_law_word", "_law_door"]) (sc := defScope s_law_tried) (by decide +kernel)) (fun _ _ _ _ _ => (pg_name (i := 7) nd rfl (by first | exact Or.inl rfl | exact Or.inr rfl))) (fun _ _ _ _ _ => pts_nil) (fun _ _ _ _ _ => (pe_and (pe_cmpR op_isNotNn (pv 7) pe_non (nomark _)) (pe_one (pe_cmpR (op_eqP hr.units) (pe_callB call_len_seq (by rfl) T.z_len (by decide +kernel) (pa_cons (pv 7) pa_nil)) pe_int (nomark _)))))) pa_nil)))) (pss_one (ps_ret pe_non)) pss_nil)
      (pss_one (ps_expr (pe_bm PySem.F.plainAttrs_list PySem.F.slot_list_append PySem.F.type_list_append mt_append (pv 3) (pa_cons (pe_tupleOfP (by rfl) T.z_tuple (pv 5)) pa_nil)))))))
      (pss_one (ps_ret (pe_tupP (pa_cons (pe_ix ix_seq (pv 2) pe_int (fun _ _ => rfl)) (pa_cons (pv 3) (pa_cons (pe_ix ix_seq (pv 2) pe_int (fun _ _ => rfl)) pa_nil)))))))))))

theorem d_law_is_book {P : Program} {w : World} {K : PySem.W.Frag} {mg : Str → Option Value} {base : Heap} {A : Ads} (T : Txt w K mg A) (c_look_book : Cl P w K mg base 13 "look_book" (sp_look_book K A)) {f : Addr} {cdv : Value} {Ar : Around} {outer : List Env} {s : Shared} {H : Hp} {E : XK} (hr : Room 13 (Ar.deeper (envOfC "_law_is_book" (defScope s_law_is_book) s.heap.objs.size f cdv))) :
    PSs (cxOf (L2.CX P w) P w K mg base ["_law_tried_here", "_law_kept", "e"] "_law_is_book" (defScope s_law_is_book) f cdv Ar outer s H E) (defBody s_law_is_book) (t_law_is_book K A (fun cls d _ H' => E cls d H')) := by
  have nd := sc_law_is_book.nd
  have tk := takes_of (X := cxOf (L2.CX P w) P w K mg base ["_law_tried_here", "_law_kept", "e"] "_law_is_book" (defScope s_law_is_book) f cdv Ar outer s H E) (E := E) rfl rfl rfl rfl
  have hp : PassesOwn (model P w) (cxOf (L2.CX P w) P w K mg base ["_law_tried_here", "_law_kept", "e"] "_law_is_book" (defScope s_law_is_book) f cdv Ar outer s H E).A (cxOf (L2.CX P w) P w K mg base ["_law_tried_here", "_law_kept", "e"] "_law_is_book" (defScope s_law_is_book) f cdv Ar outer s H E).env (cxOf (L2.CX P w) P w K mg base ["_law_tried_here", "_law_kept", "e"] "_law_is_book" (defScope s_law_is_book) f cdv Ar outer s H E).xe := passes_of rfl
  exact (pss_cons (ps_set (i := 1) nd rfl (by first | exact Or.inl rfl | exact Or.inr rfl) pe_non)
      (pss_cut (ps_try_keep (i := 2) (k := 1) (tb := fun W => (tDrop (tCallS (sp_look_book K A) (WE W) (tCons (tVar 0) tNil)))) rfl rfl rfl nd rfl rfl rfl rfl (by decide) (by decide) ⟨by rfl, by decide, .inl T.x_BadBook.g⟩ (fun W pn xe tk hpT => (pss_one (ps_expr (pe_cl c_look_book hr (by decide) tk (pa_cons (pv 0) pa_nil))))) (fun _ _ => rfl))
      (pss_one (ps_ret (pe_cmpR op_isNn (pv 1) pe_non (nomark _))))))

theorem d_law {P : Program} {w : World} {K : PySem.W.Frag} {mg : Str → Option Value} {base : Heap} {A : Ads} (T : Txt w K mg A) (c_book_of : Cl P w K mg base 13 "book_of" (sp_book_of K A)) (c_law_text : Cl P w K mg base 1 "_law_text" (sp_law_text K A)) (c_law_tried : Cl P w K mg base 2 "_law_tried" (sp_law_tried K A)) (c_law_set : Cl P w K mg base 3 "_law_set" (sp_law_set K A)) (c_law_mix : Cl P w K mg base 2 "_law_mix" (sp_law_mix K A)) (c_read : Cl P w K mg base 14 "read" (sp_read K A)) (c_law_is_book : Cl P w K mg base 14 "_law_is_book" (sp_law_is_book K A)) (c_law_refusal : Cl P w K mg base 1 "_law_refusal" (sp_law_refusal K A)) (c_written : Cl P w K mg base 14 "written" (sp_written K A)) {f : Addr} {cdv : Value} {Ar : Around} {outer : List Env} {s : Shared} {H : Hp} {E : XK} (hr : Room 14 (Ar.deeper (envOfC "law" (defScope s_law) s.heap.objs.size f cdv))) :
    PSs (cxOf (L2.CX P w) P w K mg base ["_law_script", "_law_many", "_law_book", "_law_text_here", "_law_k", "_law_number", "_law_at", "_law_one", "_law_some", "_law_kept", "_law_found", "e", "_law_tried_here"] "law" (defScope s_law) f cdv Ar outer s H E) (defBody s_law) (t_law K A (fun cls d _ H' => E cls d H')) := by
  have nd := sc_law.nd
  have tk := takes_of (X := cxOf (L2.CX P w) P w K mg base ["_law_script", "_law_many", "_law_book", "_law_text_here", "_law_k", "_law_number", "_law_at", "_law_one", "_law_some", "_law_kept", "_law_found", "e", "_law_tried_here"] "law" (defScope s_law) f cdv Ar outer s H E) (E := E) rfl rfl rfl rfl
  have hp : PassesOwn (model P w) (cxOf (L2.CX P w) P w K mg base ["_law_script", "_law_many", "_law_book", "_law_text_here", "_law_k", "_law_number", "_law_at", "_law_one", "_law_some", "_law_kept", "_law_found", "e", "_law_tried_here"] "law" (defScope s_law) f cdv Ar outer s H E).A (cxOf (L2.CX P w) P w K mg base ["_law_script", "_law_many", "_law_book", "_law_text_here", "_law_k", "_law_number", "_law_at", "_law_one", "_law_some", "_law_kept", "_law_found", "e", "_law_tried_here"] "law" (defScope s_law) f cdv Ar outer s H E).env (cxOf (L2.CX P w) P w K mg base ["_law_script", "_law_many", "_law_book", "_law_text_here", "_law_k", "_law_number", "_law_at", "_law_one", "_law_some", "_law_kept", "_law_found", "e", "_law_tried_here"] "law" (defScope s_law) f cdv Ar outer s H E).xe := passes_of rfl
  exact (pss_cons (ps_set (i := 1) nd rfl (by first | exact Or.inl rfl | exact Or.inr rfl) (pe_op op_add pe_int (pe_op op_mod (pe_cl c_law_mix hr (by decide) tk (pa_cons (pv 0) (pa_cons pe_int pa_nil))) pe_int)))
      (pss_cons (ps_set (i := 2) nd rfl (by first | exact Or.inl rfl | exact Or.inr rfl) (pe_cl c_book_of hr (by decide) tk (pa_cons (pv 1) (pa_cons (pe_cl c_law_set hr (by decide) tk (pa_cons (pv 0) (pa_cons pe_int (pa_cons (pv 1) pa_nil)))) pa_nil))))
      (pss_cons (ps_set (i := 3) nd rfl (by first | exact Or.inl rfl | exact Or.inr rfl) (pe_cl c_law_text hr (by decide) tk (pa_cons (pv 2) pa_nil)))
      (pss_cons (ps_if (PW.pt (pw_or (pt_cmpR (op_neP hr.units) (pe_cl c_written hr (by decide) tk (pa_cons (pv 2) pa_nil)) (pv 3) (nomark _)) (pw_or1 (pt_cmpR (op_neP hr.units) (pe_cl c_read hr (by decide) tk (pa_cons (pv 3) pa_nil)) (pv 2) (nomark _))))) (pss_one (ps_ret pe_bl)) pss_nil)
      (pss_cons (ps_for hp rfl (pi_range1 (by rfl) T.z_range (pa_cons (pe_op op_add pe_int (pe_op op_mod (pe_cl c_law_mix hr (by decide) tk (pa_cons (pv 0) (pa_cons pe_int pa_nil))) pe_int)) pa_nil)) (pg_name (i := 4) nd rfl (by first | exact Or.inl rfl | exact Or.inr rfl)) (pss_cons (ps_set (i := 5) nd rfl (by first | exact Or.inl rfl | exact Or.inr rfl) (pe_cl c_law_mix hr (by decide) tk (pa_cons (pv 0) (pa_cons (pe_op op_add pe_int (pv 4)) pa_nil))))
      (pss_cons (ps_set (i := 6) nd rfl (by first | exact Or.inl rfl | exact Or.inr rfl) (pe_op op_mod (pe_op op_fdiv (pv 5) pe_int) (pe_op op_add (pe_callB call_len_str (by rfl) T.z_len (by decide +kernel) (pa_cons (pv 3) pa_nil)) pe_int)))
      (pss_cons (ps_set (i := 7) nd rfl (by first | exact Or.inl rfl | exact Or.inr rfl) (pe_ix ix_seq pe_str (pe_op op_mod (pe_op op_fdiv (pv 5) pe_int) pe_int) (fun _ _ => rfl)))
      (pss_cons (ps_set (i := 8) nd rfl (by first | exact Or.inl rfl | exact Or.inr rfl) (pe_lst (pa_cons (pe_op op_addS (pe_op op_addS (pe_slice sl_str (pv 3) po_none (po_some (pv 6))) (pv 7)) (pe_slice sl_str (pv 3) (po_some (pv 6)) po_none)) (pa_cons (pe_op op_addS (pe_op op_addS (pe_slice sl_str (pv 3) po_none (po_some (pv 6))) (pv 7)) (pe_slice sl_str (pv 3) (po_some (pe_op op_add (pv 6) pe_int)) po_none)) (pa_cons (pe_op op_addS (pe_slice sl_str (pv 3) po_none (po_some (pv 6))) (pe_slice sl_str (pv 3) (po_some (pe_op op_add (pv 6) pe_int)) po_none)) pa_nil)))))
      (pss_one (ps_set (i := 3) nd rfl (by first | exact Or.inl rfl | exact Or.inr rfl) (pe_ix ix_seq (pe_op op_catL (pv 8) (pe_lst (pa_cons (pe_op op_addS (pe_op op_addS (pv 3) pe_str) (pe_ix ix_seq (pe_bm PySem.F.plainAttrs_str PySem.F.slot_str_split PySem.F.type_str_split mt_splitQ (pv 3) (pa_cons pe_str pa_nil)) (pe_un un_neg pe_int) (fun _ _ => rfl))) pa_nil))) (pe_op op_mod (pv 5) pe_int) (fun _ _ => rfl)))))))))
      (pss_cons (ps_set (i := 9) nd rfl (by first | exact Or.inl rfl | exact Or.inr rfl) pe_non)
      (pss_cons (ps_set (i := 10) nd rfl (by first | exact Or.inl rfl | exact Or.inr rfl) pe_non)
      (pss_cut (ps_try_keep (i := 11) (k := 9) (tb := fun W => (tAsg (tCallS (sp_read K A) (WE W) (tCons (tVar 3) tNil)) (gName 10))) rfl rfl rfl nd rfl rfl rfl rfl (by decide) (by decide) ⟨by rfl, by decide, .inl T.x_NestError.g⟩ (fun W pn xe tk hpT => (pss_one (ps_set (i := 10) nd rfl (by first | exact Or.inl rfl | exact Or.inr rfl) (pe_cl c_read hr (by decide) tk (pa_cons (pv 3) pa_nil))))) (fun _ _ => rfl))
      (pss_cons (ps_set (i := 12) nd rfl (by first | exact Or.inl rfl | exact Or.inr rfl) (pe_cl c_law_tried hr (by decide) tk (pa_cons (pv 3) pa_nil)))
      (pss_cons (ps_if (PW.pt (pw_and (pt_cmpR op_isNotNn (pv 12) pe_non (nomark _)) (pw_and1 (pt_val (pe_cl c_law_is_book hr (by decide) tk (pa_cons (pv 12) pa_nil)))))) (pss_one (ps_ret (pe_and (pe_cmpR op_isNn (pv 9) pe_non (nomark _)) (pe_one (pe_cmpR (op_eqP hr.units) (pv 10) (pv 12) (nomark _)))))) pss_nil)
      (pss_cons (ps_if (pt_cmpR (op_neP hr.units) (pe_cl c_law_refusal hr (by decide) tk (pa_cons (pv 9) pa_nil)) pe_str (nomark _)) (pss_one (ps_ret pe_bl)) pss_nil)
      (pss_cons (ps_set (i := 9) nd rfl (by first | exact Or.inl rfl | exact Or.inr rfl) pe_non)
      (pss_cut (ps_try_keep (i := 11) (k := 9) (tb := fun W => (tDrop (tCallS (sp_written K A) (WE W) (tCons (tTupP (tCons (tVar 1) (tCons (tLst tNil) (tCons (tC (.int 1)) tNil)))) tNil)))) rfl rfl rfl nd rfl rfl rfl rfl (by decide) (by decide) ⟨by rfl, by decide, .inl T.x_NestError.g⟩ (fun W pn xe tk hpT => (pss_one (ps_expr (pe_cl c_written hr (by decide) tk (pa_cons (pe_tupP (pa_cons (pv 1) (pa_cons (pe_lst pa_nil) (pa_cons pe_int pa_nil)))) pa_nil))))) (fun _ _ => rfl))
      (pss_one (ps_ret (pe_cmpR (op_eqP hr.units) (pe_cl c_law_refusal hr (by decide) tk (pa_cons (pv 9) pa_nil)) pe_str (nomark _)))))))))))))))))

theorem all_mk {l : PySem.W.OpenLaw} {w : World} {K : PySem.W.Frag} {h : Heap} {mg : Str → Option Value} {fa : Addr} {tc_MOST : Tok} {tc_FIGURES : Tok} {ad_NestError : Addr} {ad_BadOrder : Addr} {ad_BadBook : Addr} {ad_Unlike : Addr} {ad_BadRule : Addr} {ad_BadNumber : Addr} {ad_BadWeights : Addr} {ad_BadText : Addr} {ad_Rooms : Addr} {f_look_many : Addr} {od_look_many an_look_many : Option Addr} {sl_look_many : Array (Option Value)} {oc_look_many kV_look_many dc_look_many pm_look_many cd_look_many ct_look_many : Value} {f_look_order : Addr} {od_look_order an_look_order : Option Addr} {sl_look_order : Array (Option Value)} {oc_look_order kV_look_order dc_look_order pm_look_order cd_look_order ct_look_order : Value} {f_Rooms_init : Addr} {od_Rooms_init an_Rooms_init : Option Addr} {sl_Rooms_init : Array (Option Value)} {oc_Rooms_init kV_Rooms_init dc_Rooms_init pm_Rooms_init cd_Rooms_init ct_Rooms_init : Value} {f_Rooms_room : Addr} {od_Rooms_room an_Rooms_room : Option Addr} {sl_Rooms_room : Array (Option Value)} {oc_Rooms_room kV_Rooms_room dc_Rooms_room pm_Rooms_room cd_Rooms_room ct_Rooms_room : Value} {f_Rooms_doors : Addr} {od_Rooms_doors an_Rooms_doors : Option Addr} {sl_Rooms_doors : Array (Option Value)} {oc_Rooms_doors kV_Rooms_doors dc_Rooms_doors pm_Rooms_doors cd_Rooms_doors ct_Rooms_doors : Value} {f_Rooms_book : Addr} {od_Rooms_book an_Rooms_book : Option Addr} {sl_Rooms_book : Array (Option Value)} {oc_Rooms_book kV_Rooms_book dc_Rooms_book pm_Rooms_book cd_Rooms_book ct_Rooms_book : Value} {f_Rooms_lay : Addr} {od_Rooms_lay an_Rooms_lay : Option Addr} {sl_Rooms_lay : Array (Option Value)} {oc_Rooms_lay kV_Rooms_lay dc_Rooms_lay pm_Rooms_lay cd_Rooms_lay ct_Rooms_lay : Value} {f_taken_in : Addr} {od_taken_in an_taken_in : Option Addr} {sl_taken_in : Array (Option Value)} {oc_taken_in kV_taken_in dc_taken_in pm_taken_in cd_taken_in ct_taken_in : Value} {f_made : Addr} {od_made an_made : Option Addr} {sl_made : Array (Option Value)} {oc_made kV_made dc_made pm_made cd_made ct_made : Value} {f_book_of : Addr} {od_book_of an_book_of : Option Addr} {sl_book_of : Array (Option Value)} {oc_book_of kV_book_of dc_book_of pm_book_of cd_book_of ct_book_of : Value} {f_look_rooms : Addr} {od_look_rooms an_look_rooms : Option Addr} {sl_look_rooms : Array (Option Value)} {oc_look_rooms kV_look_rooms dc_look_rooms pm_look_rooms cd_look_rooms ct_look_rooms : Value} {f_depths : Addr} {od_depths an_depths : Option Addr} {sl_depths : Array (Option Value)} {oc_depths kV_depths dc_depths pm_depths cd_depths ct_depths : Value} {f_look_book : Addr} {od_look_book an_look_book : Option Addr} {sl_look_book : Array (Option Value)} {oc_look_book kV_look_book dc_look_book pm_look_book cd_look_book ct_look_book : Value} {f_written : Addr} {od_written an_written : Option Addr} {sl_written : Array (Option Value)} {oc_written kV_written dc_written pm_written cd_written ct_written : Value} {f_number_in : Addr} {od_number_in an_number_in : Option Addr} {sl_number_in : Array (Option Value)} {oc_number_in kV_number_in dc_number_in pm_number_in cd_number_in ct_number_in : Value} {f_numbers_in : Addr} {od_numbers_in an_numbers_in : Option Addr} {sl_numbers_in : Array (Option Value)} {oc_numbers_in kV_numbers_in dc_numbers_in pm_numbers_in cd_numbers_in ct_numbers_in : Value} {f_read : Addr} {od_read an_read : Option Addr} {sl_read : Array (Option Value)} {oc_read kV_read dc_read pm_read cd_read ct_read : Value} {f_law_cell : Addr} {od_law_cell an_law_cell : Option Addr} {sl_law_cell : Array (Option Value)} {oc_law_cell kV_law_cell dc_law_cell pm_law_cell cd_law_cell ct_law_cell : Value} {f_law_mix : Addr} {od_law_mix an_law_mix : Option Addr} {sl_law_mix : Array (Option Value)} {oc_law_mix kV_law_mix dc_law_mix pm_law_mix cd_law_mix ct_law_mix : Value} {f_law_all : Addr} {od_law_all an_law_all : Option Addr} {sl_law_all : Array (Option Value)} {oc_law_all kV_law_all dc_law_all pm_law_all cd_law_all ct_law_all : Value} {f_law_set : Addr} {od_law_set an_law_set : Option Addr} {sl_law_set : Array (Option Value)} {oc_law_set kV_law_set dc_law_set pm_law_set cd_law_set ct_law_set : Value} {f_law_refusal : Addr} {od_law_refusal an_law_refusal : Option Addr} {sl_law_refusal : Array (Option Value)} {oc_law_refusal kV_law_refusal dc_law_refusal pm_law_refusal cd_law_refusal ct_law_refusal : Value} {f_law_text : Addr} {od_law_text an_law_text : Option Addr} {sl_law_text : Array (Option Value)} {oc_law_text kV_law_text dc_law_text pm_law_text cd_law_text ct_law_text : Value} {f_law_numbers : Addr} {od_law_numbers an_law_numbers : Option Addr} {sl_law_numbers : Array (Option Value)} {oc_law_numbers kV_law_numbers dc_law_numbers pm_law_numbers cd_law_numbers ct_law_numbers : Value} {f_law_tried : Addr} {od_law_tried an_law_tried : Option Addr} {sl_law_tried : Array (Option Value)} {oc_law_tried kV_law_tried dc_law_tried pm_law_tried cd_law_tried ct_law_tried : Value} {f_law_is_book : Addr} {od_law_is_book an_law_is_book : Option Addr} {sl_law_is_book : Array (Option Value)} {oc_law_is_book kV_law_is_book dc_law_is_book pm_law_is_book cd_law_is_book ct_law_is_book : Value} {f_law : Addr} {od_law an_law : Option Addr} {sl_law : Array (Option Value)} {oc_law kV_law dc_law pm_law cd_law ct_law : Value} (X : K.In h) (G : h.Ns mainGlobals mg) (hfa : mg "law" = some (.ref fa))
    (z_ValueError : PySem.W.nsIn K mainGlobals "ValueError" = some none)
    (z_all : PySem.W.nsIn K mainGlobals "all" = some none)
    (z_int : PySem.W.nsIn K mainGlobals "int" = some none)
    (z_isinstance : PySem.W.nsIn K mainGlobals "isinstance" = some none)
    (z_len : PySem.W.nsIn K mainGlobals "len" = some none)
    (z_list : PySem.W.nsIn K mainGlobals "list" = some none)
    (z_range : PySem.W.nsIn K mainGlobals "range" = some none)
    (z_set : PySem.W.nsIn K mainGlobals "set" = some none)
    (z_sorted : PySem.W.nsIn K mainGlobals "sorted" = some none)
    (z_str : PySem.W.nsIn K mainGlobals "str" = some none)
    (z_tuple : PySem.W.nsIn K mainGlobals "tuple" = some none)
    (g_MOST : PySem.W.nsIn K mainGlobals "MOST" = some (some (.int 8 tc_MOST)))
    (g_FIGURES : PySem.W.nsIn K mainGlobals "FIGURES" = some (some (.str "0123456789" tc_FIGURES)))
    (xg_NestError : PySem.W.nsIn K mainGlobals "NestError" = some (some (.ref ad_NestError)))
    (xk_NestError : PySem.W.keepIn K (.ref ad_NestError) = true)
    (xx_NestError : PySem.W.excIn K ad_NestError [.type "ValueError", .type "Exception", .type "BaseException", .type "object"] "ValueError.__new__" = true)
    (xb_NestError : PySem.W.subIn K (.ref ad_NestError) (.type "BaseException") = some true)
    (xt_NestError : PySem.W.typeIn K (.ref ad_NestError) = some (.type "type"))
    (xg_BadOrder : PySem.W.nsIn K mainGlobals "BadOrder" = some (some (.ref ad_BadOrder)))
    (xk_BadOrder : PySem.W.keepIn K (.ref ad_BadOrder) = true)
    (xx_BadOrder : PySem.W.excIn K ad_BadOrder [.type "ValueError", .type "Exception", .type "BaseException", .type "object"] "ValueError.__new__" = true)
    (xb_BadOrder : PySem.W.subIn K (.ref ad_BadOrder) (.type "BaseException") = some true)
    (xt_BadOrder : PySem.W.typeIn K (.ref ad_BadOrder) = some (.type "type"))
    (xg_BadBook : PySem.W.nsIn K mainGlobals "BadBook" = some (some (.ref ad_BadBook)))
    (xk_BadBook : PySem.W.keepIn K (.ref ad_BadBook) = true)
    (xx_BadBook : PySem.W.excIn K ad_BadBook [.type "ValueError", .type "Exception", .type "BaseException", .type "object"] "ValueError.__new__" = true)
    (xb_BadBook : PySem.W.subIn K (.ref ad_BadBook) (.type "BaseException") = some true)
    (xt_BadBook : PySem.W.typeIn K (.ref ad_BadBook) = some (.type "type"))
    (xg_Unlike : PySem.W.nsIn K mainGlobals "Unlike" = some (some (.ref ad_Unlike)))
    (xk_Unlike : PySem.W.keepIn K (.ref ad_Unlike) = true)
    (xx_Unlike : PySem.W.excIn K ad_Unlike [.type "ValueError", .type "Exception", .type "BaseException", .type "object"] "ValueError.__new__" = true)
    (xb_Unlike : PySem.W.subIn K (.ref ad_Unlike) (.type "BaseException") = some true)
    (xt_Unlike : PySem.W.typeIn K (.ref ad_Unlike) = some (.type "type"))
    (xg_BadRule : PySem.W.nsIn K mainGlobals "BadRule" = some (some (.ref ad_BadRule)))
    (xk_BadRule : PySem.W.keepIn K (.ref ad_BadRule) = true)
    (xx_BadRule : PySem.W.excIn K ad_BadRule [.type "ValueError", .type "Exception", .type "BaseException", .type "object"] "ValueError.__new__" = true)
    (xb_BadRule : PySem.W.subIn K (.ref ad_BadRule) (.type "BaseException") = some true)
    (xt_BadRule : PySem.W.typeIn K (.ref ad_BadRule) = some (.type "type"))
    (xg_BadNumber : PySem.W.nsIn K mainGlobals "BadNumber" = some (some (.ref ad_BadNumber)))
    (xk_BadNumber : PySem.W.keepIn K (.ref ad_BadNumber) = true)
    (xx_BadNumber : PySem.W.excIn K ad_BadNumber [.type "ValueError", .type "Exception", .type "BaseException", .type "object"] "ValueError.__new__" = true)
    (xb_BadNumber : PySem.W.subIn K (.ref ad_BadNumber) (.type "BaseException") = some true)
    (xt_BadNumber : PySem.W.typeIn K (.ref ad_BadNumber) = some (.type "type"))
    (xg_BadWeights : PySem.W.nsIn K mainGlobals "BadWeights" = some (some (.ref ad_BadWeights)))
    (xk_BadWeights : PySem.W.keepIn K (.ref ad_BadWeights) = true)
    (xx_BadWeights : PySem.W.excIn K ad_BadWeights [.type "ValueError", .type "Exception", .type "BaseException", .type "object"] "ValueError.__new__" = true)
    (xb_BadWeights : PySem.W.subIn K (.ref ad_BadWeights) (.type "BaseException") = some true)
    (xt_BadWeights : PySem.W.typeIn K (.ref ad_BadWeights) = some (.type "type"))
    (xg_BadText : PySem.W.nsIn K mainGlobals "BadText" = some (some (.ref ad_BadText)))
    (xk_BadText : PySem.W.keepIn K (.ref ad_BadText) = true)
    (xx_BadText : PySem.W.excIn K ad_BadText [.type "ValueError", .type "Exception", .type "BaseException", .type "object"] "ValueError.__new__" = true)
    (xb_BadText : PySem.W.subIn K (.ref ad_BadText) (.type "BaseException") = some true)
    (xt_BadText : PySem.W.typeIn K (.ref ad_BadText) = some (.type "type"))
    (e0_BadBook : PySem.W.findIn K (.ref ad_BadBook) "__getattribute__" = some (some (.builtin "BaseException.__getattribute__")))
    (e1_BadBook : PySem.W.findIn K (.ref ad_BadBook) "__getattr__" = some none)
    (e2_BadBook : PySem.W.hasDictIn K ad_BadBook = true)
    (e3_BadBook : PySem.W.findIn K (.ref ad_BadBook) "__class__" = some (some (.builtin "object.__class__")))
    (e4_BadBook : PySem.W.mroIn K ad_BadBook (.type "object") = some true)
    (e5_BadBook : PySem.W.exmOne K (.ref ad_BadBook) (.ref ad_NestError) = some true)
    (k0_BadBook : PySem.W.kitOne K (.ref ad_BadBook) (.ref ad_BadBook) = some true)
    (k1_BadBook : PySem.W.kitOne K (.ref ad_BadBook) (.ref ad_BadNumber) = some false)
    (k2_BadBook : PySem.W.kitOne K (.ref ad_BadBook) (.ref ad_BadOrder) = some false)
    (k3_BadBook : PySem.W.kitOne K (.ref ad_BadBook) (.ref ad_BadRule) = some false)
    (k4_BadBook : PySem.W.kitOne K (.ref ad_BadBook) (.ref ad_BadText) = some false)
    (k5_BadBook : PySem.W.kitOne K (.ref ad_BadBook) (.ref ad_BadWeights) = some false)
    (k6_BadBook : PySem.W.kitOne K (.ref ad_BadBook) (.ref ad_Unlike) = some false)
    (kv_BadBook : PySem.W.kitOne K (.ref ad_BadBook) (.type "ValueError") = some true)
    (e0_BadText : PySem.W.findIn K (.ref ad_BadText) "__getattribute__" = some (some (.builtin "BaseException.__getattribute__")))
    (e1_BadText : PySem.W.findIn K (.ref ad_BadText) "__getattr__" = some none)
    (e2_BadText : PySem.W.hasDictIn K ad_BadText = true)
    (e3_BadText : PySem.W.findIn K (.ref ad_BadText) "__class__" = some (some (.builtin "object.__class__")))
    (e4_BadText : PySem.W.mroIn K ad_BadText (.type "object") = some true)
    (e5_BadText : PySem.W.exmOne K (.ref ad_BadText) (.ref ad_NestError) = some true)
    (k0_BadText : PySem.W.kitOne K (.ref ad_BadText) (.ref ad_BadBook) = some false)
    (k1_BadText : PySem.W.kitOne K (.ref ad_BadText) (.ref ad_BadNumber) = some false)
    (k2_BadText : PySem.W.kitOne K (.ref ad_BadText) (.ref ad_BadOrder) = some false)
    (k3_BadText : PySem.W.kitOne K (.ref ad_BadText) (.ref ad_BadRule) = some false)
    (k4_BadText : PySem.W.kitOne K (.ref ad_BadText) (.ref ad_BadText) = some true)
    (k5_BadText : PySem.W.kitOne K (.ref ad_BadText) (.ref ad_BadWeights) = some false)
    (k6_BadText : PySem.W.kitOne K (.ref ad_BadText) (.ref ad_Unlike) = some false)
    (kv_BadText : PySem.W.kitOne K (.ref ad_BadText) (.type "ValueError") = some true)
    (en : PySem.W.specialIn K (.builtin "object.__class__") "__get__" = some (some (.builtin "getset_descriptor.__get__")))
    (et : PySem.W.takesIn K (.builtin "object.__class__") = some true)
    (cg_Rooms : PySem.W.nsIn K mainGlobals "Rooms" = some (some (.ref ad_Rooms)))
    (cp_Rooms : PySem.W.plainGet K ad_Rooms Str.empty = true)
    (ch_Rooms : PySem.W.hasDictIn K ad_Rooms = true)
    (co_Rooms : PySem.W.plainOver K ad_Rooms = true)
    (cs_Rooms : PySem.W.findIn K (.ref ad_Rooms) "__setattr__" = some (some (.builtin "object.__setattr__")))
    (cm_Rooms : PySem.W.makesIn K ad_Rooms = true)
    (ck_Rooms : PySem.W.keepIn K (.ref ad_Rooms) = true)
    (na_Rooms_rooms : PySem.W.findIn K (.ref ad_Rooms) "rooms" = some none)
    (na_Rooms_known : PySem.W.findIn K (.ref ad_Rooms) "known" = some none)
    (xbb : PySem.W.exmOne K (.ref ad_BadBook) (.ref ad_BadBook) = some true)
    (a_look_many : PySem.W.nsIn K mainGlobals "look_many" = some (some (.ref f_look_many)))
    (l_look_many : K.lookup f_look_many = some ⟨oc_look_many, od_look_many, .func (PySem.W.fnOf "look_many" "look_many" (defArgs s_look_many) (defBody s_look_many) (defScope s_look_many) .none kV_look_many dc_look_many pm_look_many an_look_many cd_look_many ct_look_many), sl_look_many⟩)
    (c_look_many : PySem.W.codeIn K cd_look_many "look_many" = true)
    (k_look_many : PySem.W.keepIn K (.ref f_look_many) = true)
    (a_look_order : PySem.W.nsIn K mainGlobals "look_order" = some (some (.ref f_look_order)))
    (l_look_order : K.lookup f_look_order = some ⟨oc_look_order, od_look_order, .func (PySem.W.fnOf "look_order" "look_order" (defArgs s_look_order) (defBody s_look_order) (defScope s_look_order) .none kV_look_order dc_look_order pm_look_order an_look_order cd_look_order ct_look_order), sl_look_order⟩)
    (c_look_order : PySem.W.codeIn K cd_look_order "look_order" = true)
    (k_look_order : PySem.W.keepIn K (.ref f_look_order) = true)
    (me_Rooms_init : PySem.W.findIn K (.ref ad_Rooms) "__init__" = some (some (.ref f_Rooms_init)))
    (mf_Rooms_init : PySem.W.isFn K (.ref f_Rooms_init) = true)
    (l_Rooms_init : K.lookup f_Rooms_init = some ⟨oc_Rooms_init, od_Rooms_init, .func (PySem.W.fnOf "__init__" "Rooms.__init__" (defArgs s_Rooms_init) (defBody s_Rooms_init) (defScope s_Rooms_init) .none kV_Rooms_init dc_Rooms_init pm_Rooms_init an_Rooms_init cd_Rooms_init ct_Rooms_init), sl_Rooms_init⟩)
    (c_Rooms_init : PySem.W.codeIn K cd_Rooms_init "Rooms.__init__" = true)
    (k_Rooms_init : PySem.W.keepIn K (.ref f_Rooms_init) = true)
    (me_Rooms_room : PySem.W.findIn K (.ref ad_Rooms) "room" = some (some (.ref f_Rooms_room)))
    (mf_Rooms_room : PySem.W.isFn K (.ref f_Rooms_room) = true)
    (l_Rooms_room : K.lookup f_Rooms_room = some ⟨oc_Rooms_room, od_Rooms_room, .func (PySem.W.fnOf "room" "Rooms.room" (defArgs s_Rooms_room) (defBody s_Rooms_room) (defScope s_Rooms_room) .none kV_Rooms_room dc_Rooms_room pm_Rooms_room an_Rooms_room cd_Rooms_room ct_Rooms_room), sl_Rooms_room⟩)
    (c_Rooms_room : PySem.W.codeIn K cd_Rooms_room "Rooms.room" = true)
    (k_Rooms_room : PySem.W.keepIn K (.ref f_Rooms_room) = true)
    (me_Rooms_doors : PySem.W.findIn K (.ref ad_Rooms) "doors" = some (some (.ref f_Rooms_doors)))
    (mf_Rooms_doors : PySem.W.isFn K (.ref f_Rooms_doors) = true)
    (l_Rooms_doors : K.lookup f_Rooms_doors = some ⟨oc_Rooms_doors, od_Rooms_doors, .func (PySem.W.fnOf "doors" "Rooms.doors" (defArgs s_Rooms_doors) (defBody s_Rooms_doors) (defScope s_Rooms_doors) .none kV_Rooms_doors dc_Rooms_doors pm_Rooms_doors an_Rooms_doors cd_Rooms_doors ct_Rooms_doors), sl_Rooms_doors⟩)
    (c_Rooms_doors : PySem.W.codeIn K cd_Rooms_doors "Rooms.doors" = true)
    (k_Rooms_doors : PySem.W.keepIn K (.ref f_Rooms_doors) = true)
    (me_Rooms_book : PySem.W.findIn K (.ref ad_Rooms) "book" = some (some (.ref f_Rooms_book)))
    (mf_Rooms_book : PySem.W.isFn K (.ref f_Rooms_book) = true)
    (l_Rooms_book : K.lookup f_Rooms_book = some ⟨oc_Rooms_book, od_Rooms_book, .func (PySem.W.fnOf "book" "Rooms.book" (defArgs s_Rooms_book) (defBody s_Rooms_book) (defScope s_Rooms_book) .none kV_Rooms_book dc_Rooms_book pm_Rooms_book an_Rooms_book cd_Rooms_book ct_Rooms_book), sl_Rooms_book⟩)
    (c_Rooms_book : PySem.W.codeIn K cd_Rooms_book "Rooms.book" = true)
    (k_Rooms_book : PySem.W.keepIn K (.ref f_Rooms_book) = true)
    (me_Rooms_lay : PySem.W.findIn K (.ref ad_Rooms) "lay" = some (some (.ref f_Rooms_lay)))
    (mf_Rooms_lay : PySem.W.isFn K (.ref f_Rooms_lay) = true)
    (l_Rooms_lay : K.lookup f_Rooms_lay = some ⟨oc_Rooms_lay, od_Rooms_lay, .func (PySem.W.fnOf "lay" "Rooms.lay" (defArgs s_Rooms_lay) (defBody s_Rooms_lay) (defScope s_Rooms_lay) .none kV_Rooms_lay dc_Rooms_lay pm_Rooms_lay an_Rooms_lay cd_Rooms_lay ct_Rooms_lay), sl_Rooms_lay⟩)
    (c_Rooms_lay : PySem.W.codeIn K cd_Rooms_lay "Rooms.lay" = true)
    (k_Rooms_lay : PySem.W.keepIn K (.ref f_Rooms_lay) = true)
    (a_taken_in : PySem.W.nsIn K mainGlobals "taken_in" = some (some (.ref f_taken_in)))
    (l_taken_in : K.lookup f_taken_in = some ⟨oc_taken_in, od_taken_in, .func (PySem.W.fnOf "taken_in" "taken_in" (defArgs s_taken_in) (defBody s_taken_in) (defScope s_taken_in) .none kV_taken_in dc_taken_in pm_taken_in an_taken_in cd_taken_in ct_taken_in), sl_taken_in⟩)
    (c_taken_in : PySem.W.codeIn K cd_taken_in "taken_in" = true)
    (k_taken_in : PySem.W.keepIn K (.ref f_taken_in) = true)
    (a_made : PySem.W.nsIn K mainGlobals "made" = some (some (.ref f_made)))
    (l_made : K.lookup f_made = some ⟨oc_made, od_made, .func (PySem.W.fnOf "made" "made" (defArgs s_made) (defBody s_made) (defScope s_made) .none kV_made dc_made pm_made an_made cd_made ct_made), sl_made⟩)
    (c_made : PySem.W.codeIn K cd_made "made" = true)
    (k_made : PySem.W.keepIn K (.ref f_made) = true)
    (a_book_of : PySem.W.nsIn K mainGlobals "book_of" = some (some (.ref f_book_of)))
    (l_book_of : K.lookup f_book_of = some ⟨oc_book_of, od_book_of, .func (PySem.W.fnOf "book_of" "book_of" (defArgs s_book_of) (defBody s_book_of) (defScope s_book_of) .none kV_book_of dc_book_of pm_book_of an_book_of cd_book_of ct_book_of), sl_book_of⟩)
    (c_book_of : PySem.W.codeIn K cd_book_of "book_of" = true)
    (k_book_of : PySem.W.keepIn K (.ref f_book_of) = true)
    (a_look_rooms : PySem.W.nsIn K mainGlobals "look_rooms" = some (some (.ref f_look_rooms)))
    (l_look_rooms : K.lookup f_look_rooms = some ⟨oc_look_rooms, od_look_rooms, .func (PySem.W.fnOf "look_rooms" "look_rooms" (defArgs s_look_rooms) (defBody s_look_rooms) (defScope s_look_rooms) .none kV_look_rooms dc_look_rooms pm_look_rooms an_look_rooms cd_look_rooms ct_look_rooms), sl_look_rooms⟩)
    (c_look_rooms : PySem.W.codeIn K cd_look_rooms "look_rooms" = true)
    (k_look_rooms : PySem.W.keepIn K (.ref f_look_rooms) = true)
    (a_depths : PySem.W.nsIn K mainGlobals "depths" = some (some (.ref f_depths)))
    (l_depths : K.lookup f_depths = some ⟨oc_depths, od_depths, .func (PySem.W.fnOf "depths" "depths" (defArgs s_depths) (defBody s_depths) (defScope s_depths) .none kV_depths dc_depths pm_depths an_depths cd_depths ct_depths), sl_depths⟩)
    (c_depths : PySem.W.codeIn K cd_depths "depths" = true)
    (k_depths : PySem.W.keepIn K (.ref f_depths) = true)
    (a_look_book : PySem.W.nsIn K mainGlobals "look_book" = some (some (.ref f_look_book)))
    (l_look_book : K.lookup f_look_book = some ⟨oc_look_book, od_look_book, .func (PySem.W.fnOf "look_book" "look_book" (defArgs s_look_book) (defBody s_look_book) (defScope s_look_book) .none kV_look_book dc_look_book pm_look_book an_look_book cd_look_book ct_look_book), sl_look_book⟩)
    (c_look_book : PySem.W.codeIn K cd_look_book "look_book" = true)
    (k_look_book : PySem.W.keepIn K (.ref f_look_book) = true)
    (a_written : PySem.W.nsIn K mainGlobals "written" = some (some (.ref f_written)))
    (l_written : K.lookup f_written = some ⟨oc_written, od_written, .func (PySem.W.fnOf "written" "written" (defArgs s_written) (defBody s_written) (defScope s_written) .none kV_written dc_written pm_written an_written cd_written ct_written), sl_written⟩)
    (c_written : PySem.W.codeIn K cd_written "written" = true)
    (k_written : PySem.W.keepIn K (.ref f_written) = true)
    (a_number_in : PySem.W.nsIn K mainGlobals "number_in" = some (some (.ref f_number_in)))
    (l_number_in : K.lookup f_number_in = some ⟨oc_number_in, od_number_in, .func (PySem.W.fnOf "number_in" "number_in" (defArgs s_number_in) (defBody s_number_in) (defScope s_number_in) .none kV_number_in dc_number_in pm_number_in an_number_in cd_number_in ct_number_in), sl_number_in⟩)
    (c_number_in : PySem.W.codeIn K cd_number_in "number_in" = true)
    (k_number_in : PySem.W.keepIn K (.ref f_number_in) = true)
    (a_numbers_in : PySem.W.nsIn K mainGlobals "numbers_in" = some (some (.ref f_numbers_in)))
    (l_numbers_in : K.lookup f_numbers_in = some ⟨oc_numbers_in, od_numbers_in, .func (PySem.W.fnOf "numbers_in" "numbers_in" (defArgs s_numbers_in) (defBody s_numbers_in) (defScope s_numbers_in) .none kV_numbers_in dc_numbers_in pm_numbers_in an_numbers_in cd_numbers_in ct_numbers_in), sl_numbers_in⟩)
    (c_numbers_in : PySem.W.codeIn K cd_numbers_in "numbers_in" = true)
    (k_numbers_in : PySem.W.keepIn K (.ref f_numbers_in) = true)
    (a_read : PySem.W.nsIn K mainGlobals "read" = some (some (.ref f_read)))
    (l_read : K.lookup f_read = some ⟨oc_read, od_read, .func (PySem.W.fnOf "read" "read" (defArgs s_read) (defBody s_read) (defScope s_read) .none kV_read dc_read pm_read an_read cd_read ct_read), sl_read⟩)
    (c_read : PySem.W.codeIn K cd_read "read" = true)
    (k_read : PySem.W.keepIn K (.ref f_read) = true)
    (a_law_cell : PySem.W.nsIn K mainGlobals "_law_cell" = some (some (.ref f_law_cell)))
    (l_law_cell : K.lookup f_law_cell = some ⟨oc_law_cell, od_law_cell, .func (PySem.W.fnOf "_law_cell" "_law_cell" (defArgs s_law_cell) (defBody s_law_cell) (defScope s_law_cell) .none kV_law_cell dc_law_cell pm_law_cell an_law_cell cd_law_cell ct_law_cell), sl_law_cell⟩)
    (c_law_cell : PySem.W.codeIn K cd_law_cell "_law_cell" = true)
    (k_law_cell : PySem.W.keepIn K (.ref f_law_cell) = true)
    (a_law_mix : PySem.W.nsIn K mainGlobals "_law_mix" = some (some (.ref f_law_mix)))
    (l_law_mix : K.lookup f_law_mix = some ⟨oc_law_mix, od_law_mix, .func (PySem.W.fnOf "_law_mix" "_law_mix" (defArgs s_law_mix) (defBody s_law_mix) (defScope s_law_mix) .none kV_law_mix dc_law_mix pm_law_mix an_law_mix cd_law_mix ct_law_mix), sl_law_mix⟩)
    (c_law_mix : PySem.W.codeIn K cd_law_mix "_law_mix" = true)
    (k_law_mix : PySem.W.keepIn K (.ref f_law_mix) = true)
    (a_law_all : PySem.W.nsIn K mainGlobals "_law_all" = some (some (.ref f_law_all)))
    (l_law_all : K.lookup f_law_all = some ⟨oc_law_all, od_law_all, .func (PySem.W.fnOf "_law_all" "_law_all" (defArgs s_law_all) (defBody s_law_all) (defScope s_law_all) .none kV_law_all dc_law_all pm_law_all an_law_all cd_law_all ct_law_all), sl_law_all⟩)
    (c_law_all : PySem.W.codeIn K cd_law_all "_law_all" = true)
    (k_law_all : PySem.W.keepIn K (.ref f_law_all) = true)
    (a_law_set : PySem.W.nsIn K mainGlobals "_law_set" = some (some (.ref f_law_set)))
    (l_law_set : K.lookup f_law_set = some ⟨oc_law_set, od_law_set, .func (PySem.W.fnOf "_law_set" "_law_set" (defArgs s_law_set) (defBody s_law_set) (defScope s_law_set) .none kV_law_set dc_law_set pm_law_set an_law_set cd_law_set ct_law_set), sl_law_set⟩)
    (c_law_set : PySem.W.codeIn K cd_law_set "_law_set" = true)
    (k_law_set : PySem.W.keepIn K (.ref f_law_set) = true)
    (a_law_refusal : PySem.W.nsIn K mainGlobals "_law_refusal" = some (some (.ref f_law_refusal)))
    (l_law_refusal : K.lookup f_law_refusal = some ⟨oc_law_refusal, od_law_refusal, .func (PySem.W.fnOf "_law_refusal" "_law_refusal" (defArgs s_law_refusal) (defBody s_law_refusal) (defScope s_law_refusal) .none kV_law_refusal dc_law_refusal pm_law_refusal an_law_refusal cd_law_refusal ct_law_refusal), sl_law_refusal⟩)
    (c_law_refusal : PySem.W.codeIn K cd_law_refusal "_law_refusal" = true)
    (k_law_refusal : PySem.W.keepIn K (.ref f_law_refusal) = true)
    (a_law_text : PySem.W.nsIn K mainGlobals "_law_text" = some (some (.ref f_law_text)))
    (l_law_text : K.lookup f_law_text = some ⟨oc_law_text, od_law_text, .func (PySem.W.fnOf "_law_text" "_law_text" (defArgs s_law_text) (defBody s_law_text) (defScope s_law_text) .none kV_law_text dc_law_text pm_law_text an_law_text cd_law_text ct_law_text), sl_law_text⟩)
    (c_law_text : PySem.W.codeIn K cd_law_text "_law_text" = true)
    (k_law_text : PySem.W.keepIn K (.ref f_law_text) = true)
    (a_law_numbers : PySem.W.nsIn K mainGlobals "_law_numbers" = some (some (.ref f_law_numbers)))
    (l_law_numbers : K.lookup f_law_numbers = some ⟨oc_law_numbers, od_law_numbers, .func (PySem.W.fnOf "_law_numbers" "_law_numbers" (defArgs s_law_numbers) (defBody s_law_numbers) (defScope s_law_numbers) .none kV_law_numbers dc_law_numbers pm_law_numbers an_law_numbers cd_law_numbers ct_law_numbers), sl_law_numbers⟩)
    (c_law_numbers : PySem.W.codeIn K cd_law_numbers "_law_numbers" = true)
    (k_law_numbers : PySem.W.keepIn K (.ref f_law_numbers) = true)
    (a_law_tried : PySem.W.nsIn K mainGlobals "_law_tried" = some (some (.ref f_law_tried)))
    (l_law_tried : K.lookup f_law_tried = some ⟨oc_law_tried, od_law_tried, .func (PySem.W.fnOf "_law_tried" "_law_tried" (defArgs s_law_tried) (defBody s_law_tried) (defScope s_law_tried) .none kV_law_tried dc_law_tried pm_law_tried an_law_tried cd_law_tried ct_law_tried), sl_law_tried⟩)
    (c_law_tried : PySem.W.codeIn K cd_law_tried "_law_tried" = true)
    (k_law_tried : PySem.W.keepIn K (.ref f_law_tried) = true)
    (a_law_is_book : PySem.W.nsIn K mainGlobals "_law_is_book" = some (some (.ref f_law_is_book)))
    (l_law_is_book : K.lookup f_law_is_book = some ⟨oc_law_is_book, od_law_is_book, .func (PySem.W.fnOf "_law_is_book" "_law_is_book" (defArgs s_law_is_book) (defBody s_law_is_book) (defScope s_law_is_book) .none kV_law_is_book dc_law_is_book pm_law_is_book an_law_is_book cd_law_is_book ct_law_is_book), sl_law_is_book⟩)
    (c_law_is_book : PySem.W.codeIn K cd_law_is_book "_law_is_book" = true)
    (k_law_is_book : PySem.W.keepIn K (.ref f_law_is_book) = true)
    (a_law : PySem.W.nsIn K mainGlobals "law" = some (some (.ref f_law)))
    (l_law : K.lookup f_law = some ⟨oc_law, od_law, .func (PySem.W.fnOf "law" "law" (defArgs s_law) (defBody s_law) (defScope s_law) .none kV_law dc_law pm_law an_law cd_law ct_law), sl_law⟩)
    (c_law : PySem.W.codeIn K cd_law "law" = true)
    (k_law : PySem.W.keepIn K (.ref f_law) = true)
    : ∃ fd : FuncData, (∀ (s : Shared) (v : Value), BindsTo s fd ⟨[v], []⟩ [("_law_script", v)]) ∧ ∀ base : Heap, K.In base → base.Ns mainGlobals mg → FnOk l.prog w K mg base (L2.CX l.prog w) 15 fa fd ["_law_script"] (sp_law K {}) := by
  have e := hfa.symm.trans (PySem.W.mg_of X G a_law)
  cases e
  obtain ⟨A, hA⟩ : ∃ A : Ads, A = { NestError := ad_NestError, BadOrder := ad_BadOrder, BadBook := ad_BadBook, Unlike := ad_Unlike, BadRule := ad_BadRule, BadNumber := ad_BadNumber, BadWeights := ad_BadWeights, BadText := ad_BadText, Rooms := ad_Rooms, hash := fun k => k.hash w, kh := PySem.PyData.keyHash w.params : Ads } := ⟨_, rfl⟩
  have T : Txt w K mg A := by
    subst hA
    exact { hash := rfl, kh := rfl, z_ValueError := PySem.W.mg_none_of X G z_ValueError, z_all := PySem.W.mg_none_of X G z_all, z_int := PySem.W.mg_none_of X G z_int, z_isinstance := PySem.W.mg_none_of X G z_isinstance, z_len := PySem.W.mg_none_of X G z_len, z_list := PySem.W.mg_none_of X G z_list, z_range := PySem.W.mg_none_of X G z_range, z_set := PySem.W.mg_none_of X G z_set, z_sorted := PySem.W.mg_none_of X G z_sorted, z_str := PySem.W.mg_none_of X G z_str, z_tuple := PySem.W.mg_none_of X G z_tuple, g_MOST := ⟨_, PySem.W.mg_of X G g_MOST⟩, g_FIGURES := ⟨_, PySem.W.mg_of X G g_FIGURES⟩, x_NestError := ⟨PySem.W.mg_of X G xg_NestError, xk_NestError, xx_NestError, xb_NestError, xt_NestError⟩, x_BadOrder := ⟨PySem.W.mg_of X G xg_BadOrder, xk_BadOrder, xx_BadOrder, xb_BadOrder, xt_BadOrder⟩, x_BadBook := ⟨PySem.W.mg_of X G xg_BadBook, xk_BadBook, xx_BadBook, xb_BadBook, xt_BadBook⟩, x_Unlike := ⟨PySem.W.mg_of X G xg_Unlike, xk_Unlike, xx_Unlike, xb_Unlike, xt_Unlike⟩, x_BadRule := ⟨PySem.W.mg_of X G xg_BadRule, xk_BadRule, xx_BadRule, xb_BadRule, xt_BadRule⟩, x_BadNumber := ⟨PySem.W.mg_of X G xg_BadNumber, xk_BadNumber, xx_BadNumber, xb_BadNumber, xt_BadNumber⟩, x_BadWeights := ⟨PySem.W.mg_of X G xg_BadWeights, xk_BadWeights, xx_BadWeights, xb_BadWeights, xt_BadWeights⟩, x_BadText := ⟨PySem.W.mg_of X G xg_BadText, xk_BadText, xx_BadText, xb_BadText, xt_BadText⟩, cl_Rooms := ⟨cp_Rooms, ch_Rooms, co_Rooms, cs_Rooms⟩, na_Rooms_rooms := na_Rooms_rooms, na_Rooms_known := na_Rooms_known }
  have kT_BadBook : KeptT K A A.BadBook 0 := by
    subst hA
    exact ⟨⟨e0_BadBook, e1_BadBook, xb_BadBook, e2_BadBook, e3_BadBook, en, et, e4_BadBook⟩, e5_BadBook, k0_BadBook, k1_BadBook, k2_BadBook, k3_BadBook, k4_BadBook, k5_BadBook, k6_BadBook, kv_BadBook⟩
  have kT_BadText : KeptT K A A.BadText 4 := by
    subst hA
    exact ⟨⟨e0_BadText, e1_BadText, xb_BadText, e2_BadText, e3_BadText, en, et, e4_BadText⟩, e5_BadText, k0_BadText, k1_BadText, k2_BadText, k3_BadText, k4_BadText, k5_BadText, k6_BadText, kv_BadText⟩
  have rmc : RmC K A := ⟨T.cl_Rooms, T.na_Rooms_rooms, T.na_Rooms_known⟩
  have xb : PySem.W.exmOne K (.ref A.BadBook) (.ref A.BadBook) = some true := by
    subst hA
    exact xbb
  have F_look_many := fun_mk (st := s_look_many) l_look_many c_look_many k_look_many
  have b_look_many := F_look_many.binds (ps := ["many"]) fun _ _ _ _ _ _ us hl => match us, hl with | [_], _ => rfl
  have F_look_order := fun_mk (st := s_look_order) l_look_order c_look_order k_look_order
  have b_look_order := F_look_order.binds (ps := ["many", "order"]) fun _ _ _ _ _ _ us hl => match us, hl with | [_, _], _ => rfl
  have F_Rooms_init := fun_mk (st := s_Rooms_init) l_Rooms_init c_Rooms_init k_Rooms_init
  have b_Rooms_init := F_Rooms_init.binds (ps := ["self"]) fun _ _ _ _ _ _ us hl => match us, hl with | [_], _ => rfl
  have F_Rooms_room := fun_mk (st := s_Rooms_room) l_Rooms_room c_Rooms_room k_Rooms_room
  have b_Rooms_room := F_Rooms_room.binds (ps := ["self", "doors"]) fun _ _ _ _ _ _ us hl => match us, hl with | [_, _], _ => rfl
  have F_Rooms_doors := fun_mk (st := s_Rooms_doors) l_Rooms_doors c_Rooms_doors k_Rooms_doors
  have b_Rooms_doors := F_Rooms_doors.binds (ps := ["self", "number"]) fun _ _ _ _ _ _ us hl => match us, hl with | [_, _], _ => rfl
  have F_Rooms_book := fun_mk (st := s_Rooms_book) l_Rooms_book c_Rooms_book k_Rooms_book
  have b_Rooms_book := F_Rooms_book.binds (ps := ["self", "many", "first"]) fun _ _ _ _ _ _ us hl => match us, hl with | [_, _, _], _ => rfl
  have F_Rooms_lay := fun_mk (st := s_Rooms_lay) l_Rooms_lay c_Rooms_lay k_Rooms_lay
  have b_Rooms_lay := F_Rooms_lay.binds (ps := ["self", "number", "numbers", "found"]) fun _ _ _ _ _ _ us hl => match us, hl with | [_, _, _, _], _ => rfl
  have F_taken_in := fun_mk (st := s_taken_in) l_taken_in c_taken_in k_taken_in
  have b_taken_in := F_taken_in.binds (ps := ["rooms", "book"]) fun _ _ _ _ _ _ us hl => match us, hl with | [_, _], _ => rfl
  have F_made := fun_mk (st := s_made) l_made c_made k_made
  have b_made := F_made.binds (ps := ["rooms", "left", "orders", "at"]) fun _ _ _ _ _ _ us hl => match us, hl with | [_, _, _, _], _ => rfl
  have F_book_of := fun_mk (st := s_book_of) l_book_of c_book_of k_book_of
  have b_book_of := F_book_of.binds (ps := ["many", "orders"]) fun _ _ _ _ _ _ us hl => match us, hl with | [_, _], _ => rfl
  have F_look_rooms := fun_mk (st := s_look_rooms) l_look_rooms c_look_rooms k_look_rooms
  have b_look_rooms := F_look_rooms.binds (ps := ["some"]) fun _ _ _ _ _ _ us hl => match us, hl with | [_], _ => rfl
  have F_depths := fun_mk (st := s_depths) l_depths c_depths k_depths
  have b_depths := F_depths.binds (ps := ["some"]) fun _ _ _ _ _ _ us hl => match us, hl with | [_], _ => rfl
  have F_look_book := fun_mk (st := s_look_book) l_look_book c_look_book k_look_book
  have b_look_book := F_look_book.binds (ps := ["book"]) fun _ _ _ _ _ _ us hl => match us, hl with | [_], _ => rfl
  have F_written := fun_mk (st := s_written) l_written c_written k_written
  have b_written := F_written.binds (ps := ["book"]) fun _ _ _ _ _ _ us hl => match us, hl with | [_], _ => rfl
  have F_number_in := fun_mk (st := s_number_in) l_number_in c_number_in k_number_in
  have b_number_in := F_number_in.binds (ps := ["word"]) fun _ _ _ _ _ _ us hl => match us, hl with | [_], _ => rfl
  have F_numbers_in := fun_mk (st := s_numbers_in) l_numbers_in c_numbers_in k_numbers_in
  have b_numbers_in := F_numbers_in.binds (ps := ["words", "many"]) fun _ _ _ _ _ _ us hl => match us, hl with | [_, _], _ => rfl
  have F_read := fun_mk (st := s_read) l_read c_read k_read
  have b_read := F_read.binds (ps := ["text"]) fun _ _ _ _ _ _ us hl => match us, hl with | [_], _ => rfl
  have F_law_cell := fun_mk (st := s_law_cell) l_law_cell c_law_cell k_law_cell
  have b_law_cell := F_law_cell.binds (ps := ["_law_script", "_law_k"]) fun _ _ _ _ _ _ us hl => match us, hl with | [_, _], _ => rfl
  have F_law_mix := fun_mk (st := s_law_mix) l_law_mix c_law_mix k_law_mix
  have b_law_mix := F_law_mix.binds (ps := ["_law_script", "_law_k"]) fun _ _ _ _ _ _ us hl => match us, hl with | [_, _], _ => rfl
  have F_law_all := fun_mk (st := s_law_all) l_law_all c_law_all k_law_all
  have b_law_all := F_law_all.binds (ps := ["_law_many"]) fun _ _ _ _ _ _ us hl => match us, hl with | [_], _ => rfl
  have F_law_set := fun_mk (st := s_law_set) l_law_set c_law_set k_law_set
  have b_law_set := F_law_set.binds (ps := ["_law_script", "_law_k", "_law_many"]) fun _ _ _ _ _ _ us hl => match us, hl with | [_, _, _], _ => rfl
  have F_law_refusal := fun_mk (st := s_law_refusal) l_law_refusal c_law_refusal k_law_refusal
  have b_law_refusal := F_law_refusal.binds (ps := ["_law_kept"]) fun _ _ _ _ _ _ us hl => match us, hl with | [_], _ => rfl
  have F_law_text := fun_mk (st := s_law_text) l_law_text c_law_text k_law_text
  have b_law_text := F_law_text.binds (ps := ["_law_book"]) fun _ _ _ _ _ _ us hl => match us, hl with | [_], _ => rfl
  have F_law_numbers := fun_mk (st := s_law_numbers) l_law_numbers c_law_numbers k_law_numbers
  have b_law_numbers := F_law_numbers.binds (ps := ["_law_words"]) fun _ _ _ _ _ _ us hl => match us, hl with | [_], _ => rfl
  have F_law_tried := fun_mk (st := s_law_tried) l_law_tried c_law_tried k_law_tried
  have b_law_tried := F_law_tried.binds (ps := ["_law_text_here"]) fun _ _ _ _ _ _ us hl => match us, hl with | [_], _ => rfl
  have F_law_is_book := fun_mk (st := s_law_is_book) l_law_is_book c_law_is_book k_law_is_book
  have b_law_is_book := F_law_is_book.binds (ps := ["_law_tried_here"]) fun _ _ _ _ _ _ us hl => match us, hl with | [_], _ => rfl
  have F_law := fun_mk (st := s_law) l_law c_law k_law
  have b_law := F_law.binds (ps := ["_law_script"]) fun _ _ _ _ _ _ us hl => match us, hl with | [_], _ => rfl
  refine ⟨PySem.W.fnOf "law" "law" (defArgs s_law) (defBody s_law) (defScope s_law) .none kV_law dc_law pm_law an_law cd_law ct_law, fun s v => .of_eq rfl, fun base _ _ => ?_⟩
  have o_look_many : Cl l.prog w K mg base (1) "look_many" (sp_look_many K A) := Df.cl ⟨F_look_many, PySem.W.mg_of X G a_look_many, b_look_many⟩ (F_look_many.okX sc_look_many (fun vs H Q E h => h.1) (fun cdv A' outer s H vs Q E hr h => ⟨t_look_many K A (fun cls d _ H' => E cls d H'), d_look_many T  hr, pu_look_many  h⟩))
  have o_Rooms_init : Mkr l.prog w K mg base (1) "Rooms" A.Rooms (sp_Rooms_init K A) := Di.mkr ⟨F_Rooms_init, by subst hA; exact ⟨cm_Rooms, me_Rooms_init, mf_Rooms_init, ck_Rooms⟩, b_Rooms_init, by subst hA; exact PySem.W.mg_of X G cg_Rooms⟩ (F_Rooms_init.okX sc_Rooms_init (fun vs H Q E h => h.1) (fun cdv A' outer s H vs Q E hr h => ⟨t_Rooms_init K A (fun cls d _ H' => E cls d H'), d_Rooms_init T  hr, pu_Rooms_init rmc h⟩))
  have o_Rooms_doors : Mt l.prog w K mg base (1) A.Rooms "doors" (sp_Rooms_doors K A) := Dm.mt ⟨F_Rooms_doors, by subst hA; exact ⟨me_Rooms_doors, mf_Rooms_doors, k_Rooms_doors⟩, b_Rooms_doors⟩ T.cl_Rooms (F_Rooms_doors.okX sc_Rooms_doors (fun vs H Q E h => h.1) (fun cdv A' outer s H vs Q E hr h => ⟨t_Rooms_doors K A (fun cls d _ H' => E cls d H'), d_Rooms_doors T  hr, pu_Rooms_doors rmc h⟩))
  have z_Rooms_lay : Mt l.prog w K mg base (1) A.Rooms "lay" ((fun _ _ => fun _ _ _ _ => False) K A) := Dm.mt ⟨F_Rooms_lay, by subst hA; exact ⟨me_Rooms_lay, mf_Rooms_lay, k_Rooms_lay⟩, b_Rooms_lay⟩ T.cl_Rooms (F_Rooms_lay.okX (k := 0) sc_Rooms_lay (fun vs H Q E h => h.elim) (fun cdv A' outer s H vs Q E hr h => h.elim))
  have r_Rooms_lay : ∀ dd : Nat, Mt l.prog w K mg base (2 + dd) A.Rooms "lay" (sp_lay dd K A) := by
    intro dd
    induction dd with
    | zero => exact Dm.mt ⟨F_Rooms_lay, by subst hA; exact ⟨me_Rooms_lay, mf_Rooms_lay, k_Rooms_lay⟩, b_Rooms_lay⟩ T.cl_Rooms (F_Rooms_lay.okX (k := 1) sc_Rooms_lay (fun vs H Q E h => h.1) (fun cdv A' outer s H vs Q E hr h => ⟨t_Rooms_lay K A (fun _ _ _ _ => False) (fun cls d _ H' => E cls d H'), d_Rooms_lay T o_Rooms_doors (by decide) (by decide) z_Rooms_lay hr, pu_lay  (dd := 0) (fun z => absurd rfl z) h⟩))
    | succ dd ih => exact Dm.mt ⟨F_Rooms_lay, by subst hA; exact ⟨me_Rooms_lay, mf_Rooms_lay, k_Rooms_lay⟩, b_Rooms_lay⟩ T.cl_Rooms (F_Rooms_lay.okX (k := 2 + dd) sc_Rooms_lay (fun vs H Q E h => h.1) (fun cdv A' outer s H vs Q E hr h => ⟨t_Rooms_lay K A (sp_lay dd K A) (fun cls d _ H' => E cls d H'), d_Rooms_lay T o_Rooms_doors (by omega) (Nat.le_refl _) ih hr, pu_lay  (dd := dd + 1) (fun _ => rfl) h⟩))
  have o_Rooms_lay : Mt l.prog w K mg base (11) A.Rooms "lay" (sp_Rooms_lay K A) := (r_Rooms_lay 8).mono (by decide)
  have o_Rooms_book : Mt l.prog w K mg base (12) A.Rooms "book" (sp_Rooms_book K A) := Dm.mt ⟨F_Rooms_book, by subst hA; exact ⟨me_Rooms_book, mf_Rooms_book, k_Rooms_book⟩, b_Rooms_book⟩ T.cl_Rooms (F_Rooms_book.okX sc_Rooms_book (fun vs H Q E h => h.1) (fun cdv A' outer s H vs Q E hr h => ⟨t_Rooms_book K A (fun cls d _ H' => E cls d H'), d_Rooms_book T o_Rooms_lay hr, pu_Rooms_book  h⟩))
  have o_look_order : Cl l.prog w K mg base (2) "look_order" (sp_look_order K A) := Df.cl ⟨F_look_order, PySem.W.mg_of X G a_look_order, b_look_order⟩ (F_look_order.okX sc_look_order (fun vs H Q E h => h.1) (fun cdv A' outer s H vs Q E hr h => ⟨t_look_order K A (fun cls d _ H' => E cls d H'), d_look_order T o_look_many hr, pu_look_order  h⟩))
  have o_Rooms_room : Mt l.prog w K mg base (1) A.Rooms "room" (sp_Rooms_room K A) := Dm.mt ⟨F_Rooms_room, by subst hA; exact ⟨me_Rooms_room, mf_Rooms_room, k_Rooms_room⟩, b_Rooms_room⟩ T.cl_Rooms (F_Rooms_room.okX sc_Rooms_room (fun vs H Q E h => h.1) (fun cdv A' outer s H vs Q E hr h => ⟨t_Rooms_room K A (fun cls d _ H' => E cls d H'), d_Rooms_room T  hr, pu_Rooms_room rmc h⟩))
  have z_made : Cl l.prog w K mg base (1) "made" ((fun _ _ => fun _ _ _ _ => False) K A) := Df.cl ⟨F_made, PySem.W.mg_of X G a_made, b_made⟩ (F_made.okX (k := 0) sc_made (fun vs H Q E h => h.elim) (fun cdv A' outer s H vs Q E hr h => h.elim))
  have r_made : ∀ dd : Nat, Cl l.prog w K mg base (2 + dd) "made" (sp_mk dd K A) := by
    intro dd
    induction dd with
    | zero => exact Df.cl ⟨F_made, PySem.W.mg_of X G a_made, b_made⟩ (F_made.okX (k := 1) sc_made (fun vs H Q E h => h.1) (fun cdv A' outer s H vs Q E hr h => ⟨t_made K A (fun _ _ _ _ => False) (fun cls d _ H' => E cls d H'), d_made T o_Rooms_room (by decide) (by decide) z_made hr, pu_made  (dd := 0) (fun z => absurd rfl z) h⟩))
    | succ dd ih => exact Df.cl ⟨F_made, PySem.W.mg_of X G a_made, b_made⟩ (F_made.okX (k := 2 + dd) sc_made (fun vs H Q E h => h.1) (fun cdv A' outer s H vs Q E hr h => ⟨t_made K A (sp_mk dd K A) (fun cls d _ H' => E cls d H'), d_made T o_Rooms_room (by omega) (Nat.le_refl _) ih hr, pu_made  (dd := dd + 1) (fun _ => rfl) h⟩))
  have o_made : Cl l.prog w K mg base (11) "made" (sp_made K A) := (r_made 8).mono (by decide)
  have o_book_of : Cl l.prog w K mg base (13) "book_of" (sp_book_of K A) := Df.cl ⟨F_book_of, PySem.W.mg_of X G a_book_of, b_book_of⟩ (F_book_of.okX sc_book_of (fun vs H Q E h => h.1) (fun cdv A' outer s H vs Q E hr h => ⟨t_book_of K A (fun cls d _ H' => E cls d H'), d_book_of T o_look_many o_Rooms_init o_Rooms_book o_look_order o_made hr, pu_book_of  h⟩))
  have o_law_text : Cl l.prog w K mg base (1) "_law_text" (sp_law_text K A) := Df.cl ⟨F_law_text, PySem.W.mg_of X G a_law_text, b_law_text⟩ (F_law_text.okX sc_law_text (fun vs H Q E h => h.1) (fun cdv A' outer s H vs Q E hr h => ⟨t_law_text K A (fun cls d _ H' => E cls d H'), d_law_text T  hr, pu_law_text  h⟩))
  have o_law_numbers : Cl l.prog w K mg base (1) "_law_numbers" (sp_law_numbers K A) := Df.cl ⟨F_law_numbers, PySem.W.mg_of X G a_law_numbers, b_law_numbers⟩ (F_law_numbers.okX sc_law_numbers (fun vs H Q E h => h.1) (fun cdv A' outer s H vs Q E hr h => ⟨t_law_numbers K A (fun cls d _ H' => E cls d H'), d_law_numbers T  hr, pu_law_numbers  h⟩))
  have o_law_tried : Cl l.prog w K mg base (2) "_law_tried" (sp_law_tried K A) := Df.cl ⟨F_law_tried, PySem.W.mg_of X G a_law_tried, b_law_tried⟩ (F_law_tried.okX sc_law_tried (fun vs H Q E h => h.1) (fun cdv A' outer s H vs Q E hr h => ⟨t_law_tried K A (fun cls d _ H' => E cls d H'), d_law_tried T o_law_numbers hr, pu_law_tried  h⟩))
  have o_law_all : Cl l.prog w K mg base (1) "_law_all" (sp_law_all K A) := Df.cl ⟨F_law_all, PySem.W.mg_of X G a_law_all, b_law_all⟩ (F_law_all.okX sc_law_all (fun vs H Q E h => h.1) (fun cdv A' outer s H vs Q E hr h => ⟨t_law_all K A (fun cls d _ H' => E cls d H'), d_law_all T  hr, pu_law_all  h⟩))
  have o_law_cell : Cl l.prog w K mg base (1) "_law_cell" (sp_law_cell K A) := Df.cl ⟨F_law_cell, PySem.W.mg_of X G a_law_cell, b_law_cell⟩ (F_law_cell.okX sc_law_cell (fun vs H Q E h => h.1) (fun cdv A' outer s H vs Q E hr h => ⟨t_law_cell K A (fun cls d _ H' => E cls d H'), d_law_cell T  hr, pu_law_cell  h⟩))
  have o_law_mix : Cl l.prog w K mg base (2) "_law_mix" (sp_law_mix K A) := Df.cl ⟨F_law_mix, PySem.W.mg_of X G a_law_mix, b_law_mix⟩ (F_law_mix.okX sc_law_mix (fun vs H Q E h => h.1) (fun cdv A' outer s H vs Q E hr h => ⟨t_law_mix K A (fun cls d _ H' => E cls d H'), d_law_mix T o_law_cell hr, pu_law_mix  h⟩))
  have o_law_set : Cl l.prog w K mg base (3) "_law_set" (sp_law_set K A) := Df.cl ⟨F_law_set, PySem.W.mg_of X G a_law_set, b_law_set⟩ (F_law_set.okX sc_law_set (fun vs H Q E h => h.1) (fun cdv A' outer s H vs Q E hr h => ⟨t_law_set K A (fun cls d _ H' => E cls d H'), d_law_set T o_law_all o_law_mix hr, pu_law_set  h⟩))
  have o_number_in : Cl l.prog w K mg base (1) "number_in" (sp_number_in K A) := Df.cl ⟨F_number_in, PySem.W.mg_of X G a_number_in, b_number_in⟩ (F_number_in.okX sc_number_in (fun vs H Q E h => h.1) (fun cdv A' outer s H vs Q E hr h => ⟨t_number_in K A (fun cls d _ H' => E cls d H'), d_number_in T  hr, pu_number_in  h⟩))
  have o_numbers_in : Cl l.prog w K mg base (2) "numbers_in" (sp_numbers_in K A) := Df.cl ⟨F_numbers_in, PySem.W.mg_of X G a_numbers_in, b_numbers_in⟩ (F_numbers_in.okX sc_numbers_in (fun vs H Q E h => h.1) (fun cdv A' outer s H vs Q E hr h => ⟨t_numbers_in K A (fun cls d _ H' => E cls d H'), d_numbers_in T o_number_in hr, pu_numbers_in  h⟩))
  have o_look_rooms : Cl l.prog w K mg base (1) "look_rooms" (sp_look_rooms K A) := Df.cl ⟨F_look_rooms, PySem.W.mg_of X G a_look_rooms, b_look_rooms⟩ (F_look_rooms.okX sc_look_rooms (fun vs H Q E h => h.1) (fun cdv A' outer s H vs Q E hr h => ⟨t_look_rooms K A (fun cls d _ H' => E cls d H'), d_look_rooms T  hr, pu_look_rooms  h⟩))
  have o_depths : Cl l.prog w K mg base (1) "depths" (sp_depths K A) := Df.cl ⟨F_depths, PySem.W.mg_of X G a_depths, b_depths⟩ (F_depths.okX sc_depths (fun vs H Q E h => h.1) (fun cdv A' outer s H vs Q E hr h => ⟨t_depths K A (fun cls d _ H' => E cls d H'), d_depths T  hr, pu_depths  h⟩))
  have o_taken_in : Cl l.prog w K mg base (2) "taken_in" (sp_taken_in K A) := Df.cl ⟨F_taken_in, PySem.W.mg_of X G a_taken_in, b_taken_in⟩ (F_taken_in.okX sc_taken_in (fun vs H Q E h => h.1) (fun cdv A' outer s H vs Q E hr h => ⟨t_taken_in K A (fun cls d _ H' => E cls d H'), d_taken_in T o_Rooms_room hr, pu_taken_in  h⟩))
  have o_look_book : Cl l.prog w K mg base (13) "look_book" (sp_look_book K A) := Df.cl ⟨F_look_book, PySem.W.mg_of X G a_look_book, b_look_book⟩ (F_look_book.okX sc_look_book (fun vs H Q E h => h.1) (fun cdv A' outer s H vs Q E hr h => ⟨t_look_book K A (fun cls d _ H' => E cls d H'), d_look_book T o_look_rooms o_depths o_Rooms_init o_Rooms_book o_taken_in hr, pu_look_book  h⟩))
  have o_read : Cl l.prog w K mg base (14) "read" (sp_read K A) := Df.cl ⟨F_read, PySem.W.mg_of X G a_read, b_read⟩ (F_read.okX sc_read (fun vs H Q E h => h.1) (fun cdv A' outer s H vs Q E hr h => ⟨t_read K A (fun cls d _ H' => E cls d H'), d_read T o_numbers_in o_look_book hr, pu_read xb h⟩))
  have o_law_is_book : Cl l.prog w K mg base (14) "_law_is_book" (sp_law_is_book K A) := Df.cl ⟨F_law_is_book, PySem.W.mg_of X G a_law_is_book, b_law_is_book⟩ (F_law_is_book.okX sc_law_is_book (fun vs H Q E h => h.1) (fun cdv A' outer s H vs Q E hr h => ⟨t_law_is_book K A (fun cls d _ H' => E cls d H'), d_law_is_book T o_look_book hr, pu_law_is_book xb h⟩))
  have o_law_refusal : Cl l.prog w K mg base (1) "_law_refusal" (sp_law_refusal K A) := Df.cl ⟨F_law_refusal, PySem.W.mg_of X G a_law_refusal, b_law_refusal⟩ (F_law_refusal.okX sc_law_refusal (fun vs H Q E h => h.1) (fun cdv A' outer s H vs Q E hr h => ⟨t_law_refusal K A (fun cls d _ H' => E cls d H'), d_law_refusal T  hr, pu_law_refusal  h⟩))
  have o_written : Cl l.prog w K mg base (14) "written" (sp_written K A) := Df.cl ⟨F_written, PySem.W.mg_of X G a_written, b_written⟩ (F_written.okX sc_written (fun vs H Q E h => h.1) (fun cdv A' outer s H vs Q E hr h => ⟨t_written K A (fun cls d _ H' => E cls d H'), d_written T o_look_book hr, pu_written  h⟩))
  exact F_law.okX sc_law (fun vs H Q E h => by
    obtain ⟨v, ss, rfl, _⟩ := h
    rfl) (fun cdv A' outer s H vs Q E hr h => ⟨t_law K A (fun cls d _ H' => E cls d H'), d_law T o_book_of o_law_text o_law_tried o_law_set o_law_mix o_read o_law_is_book o_law_refusal o_written hr, pu_law kT_BadBook kT_BadText h⟩)
theorem walk_mine {l : PySem.W.OpenLaw} {n k : Nat} {q : Program} {loose : List Str} {XP : (Str → Option Value) → Heap → Prop} {YP : World → Heap → Prop} {d : DefRec} {K : Params → PySem.W.Frag} {CX : World → CXT} {sp : PySem.W.Frag → Sp} {x : Str}
    (hn : l.most = some n) (hn2 : n ≤ sizeLine) (hdf : d.params.defaults = []) (hr : Room k callerA) (hY : ∀ (w : World) (h : Heap), YP w h → (K w.params).In h)
    (F : ∀ (w : World) (mg : Str → Option Value) (fa : Addr) (h : Heap), (K w.params).In h → h.Ns mainGlobals mg → mg d.name = some (.ref fa) →
      ∃ fd : FuncData, (∀ (s : Shared) (u : Value), BindsTo s fd ⟨[u], []⟩ [(x, u)]) ∧ ∀ base : Heap, (K w.params).In base → base.Ns mainGlobals mg → FnOk l.prog w (K w.params) mg base (CX w) k fa fd [x] (sp (K w.params)))
    (hsp : ∀ (K : PySem.W.Frag) (H : Hp) (a : Addr) (ns : List Int), ns.length ≤ n → SqL K H a (ns.map V.int) → sp K [.ref a] H (fun v _ => v = .bl true) fun _ _ _ => False)
    (hCX : ∀ (w : World) (H : Hp) (s : Shared) (e : Value) (s' : Shared), CX w [] H s (fun _ _ _ => False) e s' → False) :
    PySem.W.WalkO q loose XP YP l.row.toRowW d [] (fun f vs => PySem.call f vs) :=
  L2.walk_of (K := K) (CX := CX) (sp := fun w => sp (K w.params)) hn hn2 hdf hr hY F (fun w H a ns h1 _ h3 => hsp (K w.params) H a ns h1 h3) hCX
end OA
open PySem PySem.W PyProof.Rows
set_option maxRecDepth 100000 in
set_option maxHeartbeats 0 in
theorem PySem.Challenge.cw_ordernest_k60_texts_holds : PySem.Challenge.rw_ordernest_k60_texts.Holds := by
  w_on; o_law; k_head; (case hw => w_witness2)
  k_fill
  refine OA.walk_mine (l := PySem.Challenge.rw_ordernest_k60_texts) (n := 63) (k := 15) (x := "_law_script") (CX := fun w => L2.CX PySem.Challenge.rw_ordernest_k60_texts.prog w) (sp := fun K => OA.sp_law K {}) rfl (by decide) rfl ⟨rfl, by decide, by decide⟩ (fun w h Y => PySem.W.kIn_of Y) ?F ?S ?C
  case F =>
    intro w mg fa h KX G hmg
    refine' OA.all_mk KX G hmg ?z_ValueError ?z_all ?z_int ?z_isinstance ?z_len ?z_list ?z_range ?z_set ?z_sorted ?z_str ?z_tuple ?g_MOST ?g_FIGURES ?xg_NestError ?xk_NestError ?xx_NestError ?xb_NestError ?xt_NestError ?xg_BadOrder ?xk_BadOrder ?xx_BadOrder ?xb_BadOrder ?xt_BadOrder ?xg_BadBook ?xk_BadBook ?xx_BadBook ?xb_BadBook ?xt_BadBook ?xg_Unlike ?xk_Unlike ?xx_Unlike ?xb_Unlike ?xt_Unlike ?xg_BadRule ?xk_BadRule ?xx_BadRule ?xb_BadRule ?xt_BadRule ?xg_BadNumber ?xk_BadNumber ?xx_BadNumber ?xb_BadNumber ?xt_BadNumber ?xg_BadWeights ?xk_BadWeights ?xx_BadWeights ?xb_BadWeights ?xt_BadWeights ?xg_BadText ?xk_BadText ?xx_BadText ?xb_BadText ?xt_BadText ?e0_BadBook ?e1_BadBook ?e2_BadBook ?e3_BadBook ?e4_BadBook ?e5_BadBook ?k0_BadBook ?k1_BadBook ?k2_BadBook ?k3_BadBook ?k4_BadBook ?k5_BadBook ?k6_BadBook ?kv_BadBook ?e0_BadText ?e1_BadText ?e2_BadText ?e3_BadText ?e4_BadText ?e5_BadText ?k0_BadText ?k1_BadText ?k2_BadText ?k3_BadText ?k4_BadText ?k5_BadText ?k6_BadText ?kv_BadText ?en ?et ?cg_Rooms ?cp_Rooms ?ch_Rooms ?co_Rooms ?cs_Rooms ?cm_Rooms ?ck_Rooms ?na_Rooms_rooms ?na_Rooms_known ?xbb ?a_look_many ?l_look_many ?c_look_many ?k_look_many ?a_look_order ?l_look_order ?c_look_order ?k_look_order ?me_Rooms_init ?mf_Rooms_init ?l_Rooms_init ?c_Rooms_init ?k_Rooms_init ?me_Rooms_room ?mf_Rooms_room ?l_Rooms_room ?c_Rooms_room ?k_Rooms_room ?me_Rooms_doors ?mf_Rooms_doors ?l_Rooms_doors ?c_Rooms_doors ?k_Rooms_doors ?me_Rooms_book ?mf_Rooms_book ?l_Rooms_book ?c_Rooms_book ?k_Rooms_book ?me_Rooms_lay ?mf_Rooms_lay ?l_Rooms_lay ?c_Rooms_lay ?k_Rooms_lay ?a_taken_in ?l_taken_in ?c_taken_in ?k_taken_in ?a_made ?l_made ?c_made ?k_made ?a_book_of ?l_book_of ?c_book_of ?k_book_of ?a_look_rooms ?l_look_rooms ?c_look_rooms ?k_look_rooms ?a_depths ?l_depths ?c_depths ?k_depths ?a_look_book ?l_look_book ?c_look_book ?k_look_book ?a_written ?l_written ?c_written ?k_written ?a_number_in ?l_number_in ?c_number_in ?k_number_in ?a_numbers_in ?l_numbers_in ?c_numbers_in ?k_numbers_in ?a_read ?l_read ?c_read ?k_read ?a_law_cell ?l_law_cell ?c_law_cell ?k_law_cell ?a_law_mix ?l_law_mix ?c_law_mix ?k_law_mix ?a_law_all ?l_law_all ?c_law_all ?k_law_all ?a_law_set ?l_law_set ?c_law_set ?k_law_set ?a_law_refusal ?l_law_refusal ?c_law_refusal ?k_law_refusal ?a_law_text ?l_law_text ?c_law_text ?k_law_text ?a_law_numbers ?l_law_numbers ?c_law_numbers ?k_law_numbers ?a_law_tried ?l_law_tried ?c_law_tried ?k_law_tried ?a_law_is_book ?l_law_is_book ?c_law_is_book ?k_law_is_book ?a_law ?l_law ?c_law ?k_law
    (case z_ValueError => k_is)
    (case z_all => k_is)
    (case z_int => k_is)
    (case z_isinstance => k_is)
    (case z_len => k_is)
    (case z_list => k_is)
    (case z_range => k_is)
    (case z_set => k_is)
    (case z_sorted => k_is)
    (case z_str => k_is)
    (case z_tuple => k_is)
    (case g_MOST => k_is)
    (case g_FIGURES => k_is)
    (case xg_NestError => k_is)
    (case xk_NestError => k_is)
    (case xx_NestError => k_exc)
    (case xb_NestError => k_is)
    (case xt_NestError => k_is)
    (case xg_BadOrder => k_is)
    (case xk_BadOrder => k_is)
    (case xx_BadOrder => k_exc)
    (case xb_BadOrder => k_is)
    (case xt_BadOrder => k_is)
    (case xg_BadBook => k_is)
    (case xk_BadBook => k_is)
    (case xx_BadBook => k_exc)
    (case xb_BadBook => k_is)
    (case xt_BadBook => k_is)
    (case xg_Unlike => k_is)
    (case xk_Unlike => k_is)
    (case xx_Unlike => k_exc)
    (case xb_Unlike => k_is)
    (case xt_Unlike => k_is)
    (case xg_BadRule => k_is)
    (case xk_BadRule => k_is)
    (case xx_BadRule => k_exc)
    (case xb_BadRule => k_is)
    (case xt_BadRule => k_is)
    (case xg_BadNumber => k_is)
    (case xk_BadNumber => k_is)
    (case xx_BadNumber => k_exc)
    (case xb_BadNumber => k_is)
    (case xt_BadNumber => k_is)
    (case xg_BadWeights => k_is)
    (case xk_BadWeights => k_is)
    (case xx_BadWeights => k_exc)
    (case xb_BadWeights => k_is)
    (case xt_BadWeights => k_is)
    (case xg_BadText => k_is)
    (case xk_BadText => k_is)
    (case xx_BadText => k_exc)
    (case xb_BadText => k_is)
    (case xt_BadText => k_is)
    (case e0_BadBook => k_is)
    (case e1_BadBook => k_is)
    (case e2_BadBook => k_is)
    (case e3_BadBook => k_is)
    (case e4_BadBook => k_is)
    (case e5_BadBook => kts_exm)
    (case k0_BadBook => kit_is)
    (case k1_BadBook => kit_is)
    (case k2_BadBook => kit_is)
    (case k3_BadBook => kit_is)
    (case k4_BadBook => kit_is)
    (case k5_BadBook => kit_is)
    (case k6_BadBook => kit_is)
    (case kv_BadBook => kit_is)
    (case e0_BadText => k_is)
    (case e1_BadText => k_is)
    (case e2_BadText => k_is)
    (case e3_BadText => k_is)
    (case e4_BadText => k_is)
    (case e5_BadText => kts_exm)
    (case k0_BadText => kit_is)
    (case k1_BadText => kit_is)
    (case k2_BadText => kit_is)
    (case k3_BadText => kit_is)
    (case k4_BadText => kit_is)
    (case k5_BadText => kit_is)
    (case k6_BadText => kit_is)
    (case kv_BadText => kit_is)
    (case en => k_is)
    (case et => k_is)
    (case cg_Rooms => k_is)
    (case cp_Rooms => k_is)
    (case ch_Rooms => k_is)
    (case co_Rooms => k_is)
    (case cs_Rooms => k_is)
    (case cm_Rooms => k_is)
    (case ck_Rooms => k_is)
    (case na_Rooms_rooms => k_is)
    (case na_Rooms_known => k_is)
    (case xbb => kts_exm)
    (case a_look_many => k_is)
    (case l_look_many => k_is)
    (case c_look_many => k_is)
    (case k_look_many => k_is)
    (case a_look_order => k_is)
    (case l_look_order => k_is)
    (case c_look_order => k_is)
    (case k_look_order => k_is)
    (case me_Rooms_init => k_is)
    (case mf_Rooms_init => k_is)
    (case l_Rooms_init => k_is)
    (case c_Rooms_init => k_is)
    (case k_Rooms_init => k_is)
    (case me_Rooms_room => k_is)
    (case mf_Rooms_room => k_is)
    (case l_Rooms_room => k_is)
    (case c_Rooms_room => k_is)
    (case k_Rooms_room => k_is)
    (case me_Rooms_doors => k_is)
    (case mf_Rooms_doors => k_is)
    (case l_Rooms_doors => k_is)
    (case c_Rooms_doors => k_is)
    (case k_Rooms_doors => k_is)
    (case me_Rooms_book => k_is)
    (case mf_Rooms_book => k_is)
    (case l_Rooms_book => k_is)
    (case c_Rooms_book => k_is)
    (case k_Rooms_book => k_is)
    (case me_Rooms_lay => k_is)
    (case mf_Rooms_lay => k_is)
    (case l_Rooms_lay => k_is)
    (case c_Rooms_lay => k_is)
    (case k_Rooms_lay => k_is)
    (case a_taken_in => k_is)
    (case l_taken_in => k_is)
    (case c_taken_in => k_is)
    (case k_taken_in => k_is)
    (case a_made => k_is)
    (case l_made => k_is)
    (case c_made => k_is)
    (case k_made => k_is)
    (case a_book_of => k_is)
    (case l_book_of => k_is)
    (case c_book_of => k_is)
    (case k_book_of => k_is)
    (case a_look_rooms => k_is)
    (case l_look_rooms => k_is)
    (case c_look_rooms => k_is)
    (case k_look_rooms => k_is)
    (case a_depths => k_is)
    (case l_depths => k_is)
    (case c_depths => k_is)
    (case k_depths => k_is)
    (case a_look_book => k_is)
    (case l_look_book => k_is)
    (case c_look_book => k_is)
    (case k_look_book => k_is)
    (case a_written => k_is)
    (case l_written => k_is)
    (case c_written => k_is)
    (case k_written => k_is)
    (case a_number_in => k_is)
    (case l_number_in => k_is)
    (case c_number_in => k_is)
    (case k_number_in => k_is)
    (case a_numbers_in => k_is)
    (case l_numbers_in => k_is)
    (case c_numbers_in => k_is)
    (case k_numbers_in => k_is)
    (case a_read => k_is)
    (case l_read => k_is)
    (case c_read => k_is)
    (case k_read => k_is)
    (case a_law_cell => k_is)
    (case l_law_cell => k_is)
    (case c_law_cell => k_is)
    (case k_law_cell => k_is)
    (case a_law_mix => k_is)
    (case l_law_mix => k_is)
    (case c_law_mix => k_is)
    (case k_law_mix => k_is)
    (case a_law_all => k_is)
    (case l_law_all => k_is)
    (case c_law_all => k_is)
    (case k_law_all => k_is)
    (case a_law_set => k_is)
    (case l_law_set => k_is)
    (case c_law_set => k_is)
    (case k_law_set => k_is)
    (case a_law_refusal => k_is)
    (case l_law_refusal => k_is)
    (case c_law_refusal => k_is)
    (case k_law_refusal => k_is)
    (case a_law_text => k_is)
    (case l_law_text => k_is)
    (case c_law_text => k_is)
    (case k_law_text => k_is)
    (case a_law_numbers => k_is)
    (case l_law_numbers => k_is)
    (case c_law_numbers => k_is)
    (case k_law_numbers => k_is)
    (case a_law_tried => k_is)
    (case l_law_tried => k_is)
    (case c_law_tried => k_is)
    (case k_law_tried => k_is)
    (case a_law_is_book => k_is)
    (case l_law_is_book => k_is)
    (case c_law_is_book => k_is)
    (case k_law_is_book => k_is)
    (case a_law => k_is)
    (case l_law => k_is)
    (case c_law => k_is)
    (case k_law => k_is)
  case S => exact fun K H a ns hl hs => ⟨.ref a, ns, rfl, OA.of_list hs (OA.ints_hds ns), fun _ _ => rfl⟩
  case C =>
    intro w H s e s' h
    obtain ⟨a, B, H', cls, d, _, _, _, _, _, _, _, z⟩ := h
    exact z

