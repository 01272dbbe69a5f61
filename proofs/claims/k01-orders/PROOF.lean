import PyProof.Rows.All
import PySem.Challenge.RW_ordernest_k01_orders
import Wide.All
import OpenK.AllK
import Wide.FinOn
import HandS.ForMost
import HandS.ForExc
import HandS.Conv
import HandS.TupSets
import HandS.TupAny
import HandS.Deep
import HandS.Evl
import HandS.ExcIs
import HandS.ExcValue
import HandS.Strs
import HandS.Small
import HandS.IsInst
import HandS.Style
import HandS.SetFor
import HandS.Sort
import HandS.SortInts
import KE.DatumOrd
import KE.DatumIndex
import KE.DatumMore
import KE.DatumMoreOrd
import KE.SortData
import KE.KDictKeyed
set_option Elab.async false
set_option linter.all false
set_option maxRecDepth 100000
set_option maxHeartbeats 4000000
/-! OA: data with a Lean type over the hand layer -/
namespace OA
open PySem PySem.Spec PyProof.Rows L2 Evl
open PySem.W (Datum Tup T3 DatumOrd)

/-! ### 1. what a value stands for -/
/-- a tuple without a dict of its own (what the program makes are such), or one of the written part -/
def PlT (K : PySem.W.Frag) (H : Hp) (a : Addr) (xs : List V) : Prop :=
  (∃ o, H a = some (.frz o (.tup xs)) ∧ o.dict = none) ∨
    ∃ (o : Obj) (its : Array Value) (n : Nat), K.lookup a = some o ∧ o.cls = .type "tuple" ∧ o.dict = none ∧ o.data = .seq its n ∧ its.size ≤ sizeLine ∧ Vals xs its.toList
theorem PlT.t {K : PySem.W.Frag} {H : Hp} {a : Addr} {xs : List V} (h : PlT K H a xs) : SqT K H a xs := by
  rcases h with ⟨o, h, _⟩ | ⟨o, its, n, h1, h2, _, h4, h5, h6⟩
  · exact .inl (.inr ⟨o, h⟩)
  · exact .inr ⟨o, its, n, h1, h2, h4, h5, h6⟩
theorem pl_of {K : PySem.W.Frag} {H : Hp} {a : Addr} {xs : List V} {o : Obj} (h : H a = some (.frz o (.tup xs))) (d : o.dict = none) : PlT K H a xs := .inl ⟨o, h, d⟩
theorem ex_p {K : PySem.W.Frag} {H H' : Hp} {a : Addr} {xs : List V} (e : Ex H H') (h : PlT K H a xs) : PlT K H' a xs := by
  rcases h with ⟨o, h, d⟩ | h
  · exact .inl ⟨o, e a _ h, d⟩
  · exact .inr h
mutual
inductive Dq (K : PySem.W.Frag) (H : Hp) : V → PyData → Prop
  | non : Dq K H .non .none
  | bl (b : Bool) : Dq K H (.bl b) (.bool b)
  | int (i : Int) : Dq K H (.int i) (.int i)
  | str (x : Str) : Dq K H (.str x) (.str x)
  | lst {a : Addr} {xs : List V} {ds : List PyData} : SqL K H a xs → DqAll K H xs ds → Dq K H (.ref a) (.list ds)
  | tup {a : Addr} {xs : List V} {ds : List PyData} : PlT K H a xs → DqAll K H xs ds → Dq K H (.ref a) (.tuple ds)
inductive DqAll (K : PySem.W.Frag) (H : Hp) : List V → List PyData → Prop
  | nil : DqAll K H [] []
  | cons {v : V} {vs : List V} {d : PyData} {ds : List PyData} : Dq K H v d → DqAll K H vs ds → DqAll K H (v :: vs) (d :: ds)
end
mutual
theorem Dq.dp {K : PySem.W.Frag} {H : Hp} : ∀ {v : V} {d : PyData}, Dq K H v d → Dp K H v d
  | _, _, .non => .non
  | _, _, .bl b => .bl b
  | _, _, .int i => .int i
  | _, _, .str x => .str x
  | _, _, .lst h a => .lst h (DqAll.dp a)
  | _, _, .tup h a => .tup h.t (DqAll.dp a)
theorem DqAll.dp {K : PySem.W.Frag} {H : Hp} : ∀ {vs : List V} {ds : List PyData}, DqAll K H vs ds → DpAll K H vs ds
  | _, _, .nil => .nil
  | _, _, .cons h t => .cons (Dq.dp h) (DqAll.dp t)
end
mutual
theorem dp_ex {K : PySem.W.Frag} {H H' : Hp} (e : Ex H H') : ∀ {v : V} {d : PyData}, Dq K H v d → Dq K H' v d
  | _, _, .non => .non
  | _, _, .bl b => .bl b
  | _, _, .int i => .int i
  | _, _, .str x => .str x
  | _, _, .lst h a => .lst (ex_l e h) (dps_ex e a)
  | _, _, .tup h a => .tup (ex_p e h) (dps_ex e a)
theorem dps_ex {K : PySem.W.Frag} {H H' : Hp} (e : Ex H H') : ∀ {vs : List V} {ds : List PyData}, DqAll K H vs ds → DqAll K H' vs ds
  | _, _, .nil => .nil
  | _, _, .cons h t => .cons (dp_ex e h) (dps_ex e t)
end
/-- tuples (tracked, locked) stand; all that HandS does keeps them -/
def Tx (H H' : Hp) : Prop := ∀ a, (∀ xs, H a = some (.tup xs) → H' a = some (.tup xs)) ∧ (∀ o u, H a = some (.frz o u) → H' a = some (.frz o u))
theorem Tx.refl (H : Hp) : Tx H H := fun _ => ⟨fun _ h => h, fun _ _ h => h⟩
theorem Tx.trans {H H1 H2 : Hp} (a : Tx H H1) (b : Tx H1 H2) : Tx H H2 := fun x => ⟨fun xs h => (b x).1 xs ((a x).1 xs h), fun o u h => (b x).2 o u ((a x).2 o u h)⟩
theorem Tx.ex {H H' : Hp} (e : Ex H H') : Tx H H' := fun a => ⟨fun _ h => e a _ h, fun _ _ h => e a _ h⟩
theorem Tx.new {H : Hp} {p : Addr} {o : HO} (h : H p = none) : Tx H (upd H p o) := .ex (.new h)
theorem Tx.mut {H : Hp} {p : Addr} {o : HO} (h : Mut (H p)) : Tx H (upd H p o) := fun a => by
  have n : ∀ u, H a = some u → ¬ Mut (some u) → a ≠ p := fun u e m z => by
    subst z
    rw [e] at h
    exact m h
  exact ⟨fun xs e => by rw [upd_ne (n _ e (fun z => z))]; exact e, fun o u e => by rw [upd_ne (n _ e (fun z => z))]; exact e⟩
theorem tx_t {K : PySem.W.Frag} {H H' : Hp} {a : Addr} {xs : List V} (e : Tx H H') (h : SqT K H a xs) : SqT K H' a xs := by
  rcases h with (h | ⟨o, h⟩) | h
  · exact .inl (.inl ((e a).1 _ h))
  · exact .inl (.inr ⟨o, (e a).2 _ _ h⟩)
  · exact .inr h
theorem tx_p {K : PySem.W.Frag} {H H' : Hp} {a : Addr} {xs : List V} (e : Tx H H') (h : PlT K H a xs) : PlT K H' a xs := by
  rcases h with ⟨o, h, d⟩ | h
  · exact .inl ⟨o, (e a).2 _ _ h, d⟩
  · exact .inr h
/-! no list, no dict within -/
mutual
def pu : PyData → Bool
  | .list _ => false
  | .dict _ => false
  | .tuple ds => puAll ds
  | _ => true
def puAll : List PyData → Bool
  | [] => true
  | d :: ds => pu d && puAll ds
end
mutual
theorem dp_tx {K : PySem.W.Frag} {H H' : Hp} (e : Tx H H') : ∀ {v : V} {d : PyData}, pu d = true → Dq K H v d → Dq K H' v d
  | _, _, _, .non => .non
  | _, _, _, .bl b => .bl b
  | _, _, _, .int i => .int i
  | _, _, _, .str x => .str x
  | _, _, p, .lst _ _ => by simp [pu] at p
  | _, _, p, .tup h a => .tup (tx_p e h) (dps_tx e (by simpa [pu] using p) a)
theorem dps_tx {K : PySem.W.Frag} {H H' : Hp} (e : Tx H H') : ∀ {vs : List V} {ds : List PyData}, puAll ds = true → DqAll K H vs ds → DqAll K H' vs ds
  | _, _, _, .nil => .nil
  | _, _, p, .cons h t => by
    rw [puAll, Bool.and_eq_true] at p
    exact .cons (dp_tx e p.1 h) (dps_tx e p.2 t)
end

section typed
variable {α β γ : Type} [DecidableEq α] [Datum α] [DecidableEq β] [Datum β] [DecidableEq γ] [Datum γ] {K : PySem.W.Frag} {H H' : Hp} {v : V} {vs : List V}
/-- v stands for x -/
abbrev Hd (K : PySem.W.Frag) (H : Hp) (v : V) (x : α) : Prop := Dq K H v (Datum.toD x)
abbrev Hds (K : PySem.W.Frag) (H : Hp) (vs : List V) (xs : List α) : Prop := DqAll K H vs (xs.map Datum.toD)

theorem hd_int {n : Int} (h : Hd K H v n) : v = .int n := by
  cases h
  rfl
theorem hd_bool {b : Bool} (h : Hd K H v b) : v = .bl b := by
  cases h
  rfl
theorem hd_str {x : Str} (h : Hd K H v x) : v = .str x := by
  cases h
  rfl
theorem hd_unit {u : Unit} (h : Hd K H v u) : v = .non := by
  cases h
  rfl
theorem of_int (n : Int) : Hd K H (.int n) n := .int n
theorem of_bool (b : Bool) : Hd K H (.bl b) b := .bl b
theorem of_str (x : Str) : Hd K H (.str x) x := .str x
theorem hd_tup {xs : List α} (h : Hd K H v (Tup.mk xs)) : ∃ a vs, v = .ref a ∧ PlT K H a vs ∧ Hds K H vs xs := by
  cases h with
  | tup hs ha => exact ⟨_, _, rfl, hs, ha⟩
theorem hd_list {xs : List α} (h : Hd K H v xs) : ∃ a vs, v = .ref a ∧ SqL K H a vs ∧ Hds K H vs xs := by
  cases h with
  | lst hs ha => exact ⟨_, _, rfl, hs, ha⟩
theorem hd_pair {x : α} {y : β} (h : Hd K H v (x, y)) : ∃ a v1 v2, v = .ref a ∧ PlT K H a [v1, v2] ∧ Hd K H v1 x ∧ Hd K H v2 y := by
  cases h with
  | tup hs ha =>
    cases ha with
    | cons h1 t =>
      cases t with
      | cons h2 t =>
        cases t
        exact ⟨_, _, _, rfl, hs, h1, h2⟩
theorem hd_t3 {x : α} {y : β} {z : γ} (h : Hd K H v (T3.mk x y z)) : ∃ a v1 v2 v3, v = .ref a ∧ PlT K H a [v1, v2, v3] ∧ Hd K H v1 x ∧ Hd K H v2 y ∧ Hd K H v3 z := by
  cases h with
  | tup hs ha =>
    cases ha with
    | cons h1 t =>
      cases t with
      | cons h2 t =>
        cases t with
        | cons h3 t =>
          cases t
          exact ⟨_, _, _, _, rfl, hs, h1, h2, h3⟩
theorem of_tup {a : Addr} {xs : List α} (h : PlT K H a vs) (hs : Hds K H vs xs) : Hd K H (.ref a) (Tup.mk xs) := .tup h hs
theorem of_list {a : Addr} {xs : List α} (h : SqL K H a vs) (hs : Hds K H vs xs) : Hd K H (.ref a) xs := .lst h hs
theorem of_pair {a : Addr} {v1 v2 : V} {x : α} {y : β} (h : PlT K H a [v1, v2]) (h1 : Hd K H v1 x) (h2 : Hd K H v2 y) : Hd K H (.ref a) (x, y) := .tup h (.cons h1 (.cons h2 .nil))
theorem of_t3 {a : Addr} {v1 v2 v3 : V} {x : α} {y : β} {z : γ} (h : PlT K H a [v1, v2, v3]) (h1 : Hd K H v1 x) (h2 : Hd K H v2 y) (h3 : Hd K H v3 z) : Hd K H (.ref a) (T3.mk x y z) := .tup h (.cons h1 (.cons h2 (.cons h3 .nil)))
/-- a tuple of two is a tuple of any length, too -/
theorem pair_tup {x y : α} (h : Hd K H v (x, y)) : Hd K H v (Tup.mk [x, y]) := h
theorem tup_pair {x y : α} (h : Hd K H v (Tup.mk [x, y])) : Hd K H v (x, y) := h

/-! ### item by item -/
theorem hds_nil : Hds K H [] ([] : List α) := .nil
theorem hds_cons {x : α} {xs : List α} (h : Hd K H v x) (t : Hds K H vs xs) : Hds K H (v :: vs) (x :: xs) := .cons h t
theorem hds_one {x : α} (h : Hd K H v x) : Hds K H [v] [x] := .cons h .nil
theorem hds_inv {xs : List α} {x : α} (h : Hds K H vs (x :: xs)) : ∃ v r, vs = v :: r ∧ Hd K H v x ∧ Hds K H r xs := by
  cases h with
  | cons h t => exact ⟨_, _, rfl, h, t⟩
theorem hds_inv0 (h : Hds K H vs ([] : List α)) : vs = [] := by
  cases h
  rfl
theorem hds_len : ∀ {xs : List α} {vs : List V}, Hds K H vs xs → vs.length = xs.length
  | [], _, h => by rw [hds_inv0 h]; rfl
  | x :: xs, _, h => by
    obtain ⟨v, r, rfl, _, t⟩ := hds_inv h
    rw [List.length_cons, List.length_cons, hds_len t]
theorem hds_app : ∀ {xs ys : List α} {vs ws : List V}, Hds K H vs xs → Hds K H ws ys → Hds K H (vs ++ ws) (xs ++ ys)
  | [], _, _, _, h, t => by
    rw [hds_inv0 h]
    exact t
  | x :: xs, _, _, _, h, t => by
    obtain ⟨v, r, rfl, h1, h2⟩ := hds_inv h
    exact .cons h1 (hds_app h2 t)
theorem hds_take : ∀ (n : Nat) {xs : List α} {vs : List V}, Hds K H vs xs → Hds K H (vs.take n) (xs.take n)
  | 0, _, _, _ => .nil
  | n + 1, [], _, h => by
    rw [hds_inv0 h]
    exact .nil
  | n + 1, x :: xs, _, h => by
    obtain ⟨v, r, rfl, h1, h2⟩ := hds_inv h
    exact .cons h1 (hds_take n h2)
theorem hds_drop : ∀ (n : Nat) {xs : List α} {vs : List V}, Hds K H vs xs → Hds K H (vs.drop n) (xs.drop n)
  | 0, _, _, h => h
  | n + 1, [], _, h => by
    rw [hds_inv0 h]
    exact .nil
  | n + 1, x :: xs, _, h => by
    obtain ⟨v, r, rfl, h1, h2⟩ := hds_inv h
    exact hds_drop n h2
theorem hds_get : ∀ {xs : List α} {vs : List V} {i : Nat} {x : α}, Hds K H vs xs → xs[i]? = some x → ∃ v, vs[i]? = some v ∧ Hd K H v x
  | [], _, _, _, _, e => by simp at e
  | y :: xs, _, 0, x, h, e => by
    obtain ⟨v, r, rfl, h1, h2⟩ := hds_inv h
    have e' : y = x := by simpa using e
    subst e'
    exact ⟨v, rfl, h1⟩
  | y :: xs, _, i + 1, x, h, e => by
    obtain ⟨v, r, rfl, h1, h2⟩ := hds_inv h
    exact hds_get (i := i) h2 (by simpa using e)
theorem hds_getV : ∀ {xs : List α} {vs : List V} {i : Nat} {v : V}, Hds K H vs xs → vs[i]? = some v → ∃ x, xs[i]? = some x ∧ Hd K H v x
  | [], _, _, _, h, e => by
    rw [hds_inv0 h] at e
    simp at e
  | y :: xs, _, 0, w, h, e => by
    obtain ⟨v, r, rfl, h1, h2⟩ := hds_inv h
    have e' : v = w := by simpa using e
    subst e'
    exact ⟨y, rfl, h1⟩
  | y :: xs, _, i + 1, w, h, e => by
    obtain ⟨v, r, rfl, h1, h2⟩ := hds_inv h
    exact hds_getV (i := i) h2 (by simpa using e)
theorem hds_rev : ∀ {xs : List α} {vs : List V}, Hds K H vs xs → Hds K H vs.reverse xs.reverse
  | [], _, h => by
    rw [hds_inv0 h]
    exact .nil
  | x :: xs, _, h => by
    obtain ⟨v, r, rfl, h1, h2⟩ := hds_inv h
    rw [List.reverse_cons, List.reverse_cons]
    exact hds_app (hds_rev h2) (hds_one h1)
theorem hds_erase : ∀ (i : Nat) {xs : List α} {vs : List V}, Hds K H vs xs → Hds K H (vs.eraseIdx i) (xs.eraseIdx i)
  | _, [], _, h => by
    rw [hds_inv0 h]
    exact .nil
  | 0, x :: xs, _, h => by
    obtain ⟨v, r, rfl, h1, h2⟩ := hds_inv h
    exact h2
  | i + 1, x :: xs, _, h => by
    obtain ⟨v, r, rfl, h1, h2⟩ := hds_inv h
    exact .cons h1 (hds_erase i h2)
theorem hds_dropLast : ∀ {xs : List α} {vs : List V}, Hds K H vs xs → Hds K H vs.dropLast xs.dropLast := fun {xs vs} h => by
  rw [List.dropLast_eq_take, List.dropLast_eq_take, hds_len h]
  exact hds_take _ h
theorem hds_ints : ∀ {ns : List Int} {vs : List V}, Hds K H vs ns → vs = ns.map V.int
  | [], _, h => hds_inv0 h
  | n :: ns, _, h => by
    obtain ⟨v, r, rfl, h1, h2⟩ := hds_inv h
    rw [hd_int h1, hds_ints h2]
    rfl
theorem ints_hds : ∀ (ns : List Int), Hds K H (ns.map V.int) ns
  | [] => .nil
  | n :: ns => .cons (.int n) (ints_hds ns)
theorem hds_bools : ∀ {ns : List Bool} {vs : List V}, Hds K H vs ns → vs = ns.map V.bl
  | [], _, h => hds_inv0 h
  | n :: ns, _, h => by
    obtain ⟨v, r, rfl, h1, h2⟩ := hds_inv h
    rw [hd_bool h1, hds_bools h2]
    rfl
theorem bools_hds : ∀ (ns : List Bool), Hds K H (ns.map V.bl) ns
  | [] => .nil
  | n :: ns => .cons (.bl n) (bools_hds ns)
theorem hds_strs : ∀ {ns : List Str} {vs : List V}, Hds K H vs ns → vs = ns.map V.str
  | [], _, h => hds_inv0 h
  | n :: ns, _, h => by
    obtain ⟨v, r, rfl, h1, h2⟩ := hds_inv h
    rw [hd_str h1, hds_strs h2]
    rfl
theorem strs_hds : ∀ (ns : List Str), Hds K H (ns.map V.str) ns
  | [] => .nil
  | n :: ns => .cons (.str n) (strs_hds ns)
theorem hds_mem : ∀ {xs : List α} {vs : List V} {v : V}, Hds K H vs xs → v ∈ vs → ∃ x ∈ xs, Hd K H v x := fun {xs vs v} h hm => by
  obtain ⟨i, hi⟩ := List.getElem?_of_mem hm
  obtain ⟨x, e, hx⟩ := hds_getV h hi
  exact ⟨x, List.mem_of_getElem? e, hx⟩
theorem tup_ints {a : Addr} {ns : List Int} (h : Hd K H (.ref a) (Tup.mk ns)) : PlT K H a (ns.map V.int) := by
  obtain ⟨b, vs, e, hs, hv⟩ := hd_tup h
  cases e
  rw [← hds_ints hv]
  exact hs

/-- pure data: kept by all that keeps tuples -/
class PureD (α : Type) [DecidableEq α] [Datum α] : Prop where
  pu : ∀ x : α, OA.pu (Datum.toD x) = true
instance : PureD Int := ⟨fun _ => by show OA.pu (.int _) = true; simp [OA.pu]⟩
instance : PureD Bool := ⟨fun _ => by show OA.pu (.bool _) = true; simp [OA.pu]⟩
instance : PureD Str := ⟨fun _ => by show OA.pu (.str _) = true; simp [OA.pu]⟩
instance : PureD Unit := ⟨fun _ => by show OA.pu .none = true; simp [OA.pu]⟩
theorem puAll_map [PureD α] : ∀ xs : List α, puAll (xs.map Datum.toD) = true
  | [] => by simp [puAll]
  | x :: xs => by rw [List.map_cons, puAll, PureD.pu x, puAll_map xs]; rfl
instance [PureD α] : PureD (Tup α) := ⟨fun t => by show OA.pu (.tuple (t.items.map Datum.toD)) = true; rw [OA.pu]; exact puAll_map t.items⟩
instance [PureD α] [PureD β] : PureD (α × β) := ⟨fun p => by show OA.pu (.tuple [Datum.toD p.1, Datum.toD p.2]) = true; simp [OA.pu, puAll, PureD.pu]⟩
theorem hd_tx [PureD α] {x : α} (e : Tx H H') (h : Hd K H v x) : Hd K H' v x := dp_tx e (PureD.pu x) h
theorem hds_tx [PureD α] {xs : List α} (e : Tx H H') (h : Hds K H vs xs) : Hds K H' vs xs := dps_tx e (puAll_map xs) h
theorem hd_ex {x : α} (e : Ex H H') (h : Hd K H v x) : Hd K H' v x := dp_ex e h
theorem hds_ex {xs : List α} (e : Ex H H') (h : Hds K H vs xs) : Hds K H' vs xs := dps_ex e h
end typed

/-! ### 2. steps that change some objects -/
/-- all but the objects of S stand as they stood, the tuples too -/
structure Go (S : Addr → Prop) (H H' : Hp) : Prop where
  keep : ∀ a o, ¬ S a → H a = some o → H' a = some o
  tx : Tx H H'
section
variable {S S' : Addr → Prop} {H H0 H1 H2 H' : Hp} {p : Addr} {o : HO}
theorem Go.refl (H : Hp) : Go S H H := ⟨fun _ _ _ h => h, .refl H⟩
theorem Go.trans (a : Go S H H1) (b : Go S H1 H2) : Go S H H2 := ⟨fun x o n h => b.keep x o n (a.keep x o n h), a.tx.trans b.tx⟩
theorem Go.ex (e : Ex H H') : Go S H H' := ⟨fun a o _ h => e a o h, .ex e⟩
theorem Go.mono (g : Go S H H') (h : ∀ a, S a → S' a) : Go S' H H' := ⟨fun a o n q => g.keep a o (fun z => n (h a z)) q, g.tx⟩
theorem Go.toEx (g : Go (fun _ => False) H H') : Ex H H' := fun a o h => g.keep a o (fun z => z) h
theorem Go.new (h : H p = none) : Go S H (upd H p o) := .ex (.new h)
theorem Go.mut (h : Mut (H p)) (hs : S p) : Go S H (upd H p o) := ⟨fun a u n q => by
  have ne : a ≠ p := fun z => n (by rw [z]; exact hs)
  rw [upd_ne ne]
  exact q, .mut h⟩
/-- what the base does not know may change -/
theorem Go.under (e : Ex H0 H) (n : ∀ a, S a → H0 a = none) (g : Go S H H') : Ex H0 H' := fun a o q => g.keep a o (fun z => by rw [n a z] at q; cases q) (e a o q)
/-- the same, the base's own changes told by S' -/
theorem Go.under2 (e : Go S' H0 H) (n : ∀ a, S a → S' a ∨ H0 a = none) (g : Go S H H') : Go S' H0 H' := ⟨fun a o q r => g.keep a o (fun z => by
    rcases n a z with h | h
    · exact q h
    · rw [h] at r; cases r) (e.keep a o q r), e.tx.trans g.tx⟩
theorem Go.free (g : Go S H H') {l : Addr} (n : ¬ S l) (h : H' l = none) : H l = none := by
  cases q : H l with
  | none => rfl
  | some o =>
    rw [g.keep l o n q] at h
    cases h
end

/-! ### 3. from values to the heap's own values -/
section
variable {X : Cx} {pins : List (Addr × Obj)} {σ : L2.St} {H : Hp} {s : Shared} {α : Type} [DecidableEq α] [Datum α]
theorem hd_holds (I : Inv X pins σ H s) {v : V} {u : Value} {x : α} (h : Hd X.K H v x) (r : RelV v u) : PySem.W.Holds s.heap u x := Dp.reads I _ _ _ h.dp r
theorem hds_holds (I : Inv X pins σ H s) {vs : List V} {us : List Value} {xs : List α} (h : Hds X.K H vs xs) (r : Vals vs us) : PySem.W.HoldAll s.heap us xs := Dp.readsAll I _ _ _ (DqAll.dp h) r
end
end OA

/-! OB: rules over data -/
namespace OA
open PySem PySem.Spec PyProof.Rows L2 Evl
open PySem.W (Datum Tup T3 DatumOrd)

/-! ### 4. operators by data -/
def rEqP (K : PySem.W.Frag) : R2 := fun x y H Q => ∃ d e, Dq K H x d ∧ Dq K H y e ∧ d.plain = true ∧ e.plain = true ∧ d.depth ≤ 32 ∧ Q (.bl (PyData.eqv d e)) H
def rNeP (K : PySem.W.Frag) : R2 := fun x y H Q => ∃ d e, Dq K H x d ∧ Dq K H y e ∧ d.plain = true ∧ e.plain = true ∧ d.depth ≤ 32 ∧ Q (.bl (!PyData.eqv d e)) H
/-- in, not in a list or a tuple -/
def rInP (K : PySem.W.Frag) (neg : Bool) : R2 := fun x y H Q => ∃ d ds, Dq K H x d ∧ (Dq K H y (.list ds) ∨ Dq K H y (.tuple ds)) ∧ d.plain = true ∧ PyData.plainAll ds = true ∧ d.depth ≤ 32 ∧
  Q (.bl (if neg = true then !(ds.any fun z => PyData.eqv z d) else ds.any fun z => PyData.eqv z d)) H
section
variable {X : Cx}
theorem op_eqP (hu : X.A.units + 64 < cLine) : OpR X (compareOp .Eq) (rEqP X.K) := by
  intro pins s σ H x y v u Q I rx ry h
  obtain ⟨d, e, hd, he, pd, pe, hz, q⟩ := h
  obtain ⟨as, r1⟩ := Dp.reads I d x v hd.dp rx
  obtain ⟨bs, r2⟩ := Dp.reads I e y u he.dp ry
  exact PySem.SeqAt.eq_plain r1 r2 pd pe (by have := Nat.min_le_left d.depth e.depth; omega) ⟨.bl _, H, I, rfl, q⟩
theorem op_neP (hu : X.A.units + 64 < cLine) : OpR X (compareOp .NotEq) (rNeP X.K) := by
  intro pins s σ H x y v u Q I rx ry h
  obtain ⟨d, e, hd, he, pd, pe, hz, q⟩ := h
  obtain ⟨as, r1⟩ := Dp.reads I d x v hd.dp rx
  obtain ⟨bs, r2⟩ := Dp.reads I e y u he.dp ry
  exact PySem.SeqAt.ne_plain r1 r2 pd pe (by have := Nat.min_le_left d.depth e.depth; omega) ⟨.bl _, H, I, rfl, q⟩
theorem op_inP (hu : X.A.units + 64 < cLine) : OpR X (compareOp .In) (rInP X.K false) := by
  intro pins s σ H x y v u Q I rx ry h
  obtain ⟨d, ds, hd, he, pd, pe, hz, q⟩ := h
  obtain ⟨as, r1⟩ := Dp.reads I d x v hd.dp rx
  have hm : X.A.units + 1 + min (PyData.depthAll ds) d.depth < cLine := by have := Nat.min_le_right (PyData.depthAll ds) d.depth; omega
  rcases he with he | he
  · obtain ⟨bs, r2⟩ := Dp.reads I _ y u he.dp ry
    exact PySem.SeqAt.in_list_data r2 r1 pe pd hm ⟨.bl _, H, I, rfl, q⟩
  · obtain ⟨bs, r2⟩ := Dp.reads I _ y u he.dp ry
    exact PySem.SeqAt.in_tuple_data r2 r1 pe pd hm ⟨.bl _, H, I, rfl, q⟩
theorem op_niP (hu : X.A.units + 64 < cLine) : OpR X (compareOp .NotIn) (rInP X.K true) := by
  intro pins s σ H x y v u Q I rx ry h
  obtain ⟨d, ds, hd, he, pd, pe, hz, q⟩ := h
  obtain ⟨as, r1⟩ := Dp.reads I d x v hd.dp rx
  have hm : X.A.units + 1 + min (PyData.depthAll ds) d.depth < cLine := by have := Nat.min_le_right (PyData.depthAll ds) d.depth; omega
  rcases he with he | he
  · obtain ⟨bs, r2⟩ := Dp.reads I _ y u he.dp ry
    exact PySem.SeqAt.notIn_list_data r2 r1 pe pd hm ⟨.bl _, H, I, rfl, q⟩
  · obtain ⟨bs, r2⟩ := Dp.reads I _ y u he.dp ry
    exact PySem.SeqAt.notIn_tuple_data r2 r1 pe pd hm ⟨.bl _, H, I, rfl, q⟩
end

/-! ### tuples made by the program: without a dict -/
def tTupP (t : TA) : TE := fun σ H Q => t σ H fun xs H1 => xs.length ≤ sizeLine ∧ ∀ (p : Addr) (o : Obj), H1 p = none → o.dict = none → Q (.ref p) (upd H1 p (.frz o (.tup xs)))
def kTupP (K : PySem.W.Frag) (x : V) (H : Hp) (Q : VK) : Prop :=
  (∃ p xs, x = .ref p ∧ SqL K H p xs ∧ ∀ (q : Addr) (o : Obj), H q = none → o.dict = none → Q (.ref q) (upd H q (.frz o (.tup xs)))) ∨ (∃ p xs, x = .ref p ∧ SqT K H p xs ∧ Q (.ref p) H)
def rCatP (K : PySem.W.Frag) : R2 := fun x y H Q => ∃ a b xs ys, x = .ref a ∧ y = .ref b ∧ SqT K H a xs ∧ SqT K H b ys ∧ xs.length + ys.length ≤ sizeLine ∧
  (xs = [] → Q (.ref b) H) ∧ (xs ≠ [] → ys = [] → Q (.ref a) H) ∧ (xs ≠ [] → ys ≠ [] → ∀ (p : Addr) (o : Obj), H p = none → o.dict = none → Q (.ref p) (upd H p (.frz o (.tup (xs ++ ys)))))
def rSlP (K : PySem.W.Frag) : V → Option Int → Option Int → Hp → VK → Prop := fun x lo hi H Q => ∃ a xs, x = .ref a ∧ SqT K H a xs ∧
  (HT.sIx xs.length 0 lo = 0 ∧ HT.sIx xs.length xs.length hi = xs.length → Q (.ref a) H) ∧ (¬ (HT.sIx xs.length 0 lo = 0 ∧ HT.sIx xs.length xs.length hi = xs.length) → ∀ (p : Addr) (o : Obj), H p = none → o.dict = none → Q (.ref p) (upd H p (.frz o (.tup (cutV xs lo hi)))))
def tTupRgP (te : L2.St → Hp → (Int → Int → Hp → Prop) → Prop) : TE := fun σ H Q => te σ H fun a b H1 => RgOk a b ∧ ∀ (q : Addr) (o : Obj), H1 q = none → o.dict = none → Q (.ref q) (upd H1 q (.frz o (.tup (rgV a b))))
/-- a method of a plain tuple -/
def tBMP (K : PySem.W.Frag) (r : V → List V → Hp → VK → Prop) (to : TE) (t : TA) : TE := fun σ H Q => to σ H fun x H1 => (∃ a xs, x = .ref a ∧ PlT K H1 a xs) ∧ t σ H1 fun xs H2 => r x xs H2 Q
section
variable {X : Cx} {es : List Expr} {e o : Expr} {pos p apos cpos : Pos} {t : TA} {a : Expr} {ta to : TE}
theorem pe_tupP {x1} (h : PA X es t) : PE X (.Tuple es x1 pos) (tTupP t) := by
  refine ⟨fun pins s σ H Q I hq => ?_⟩
  refine wpAny_Tuple_spliced (thn (h.run pos pins s σ H _ I hq) fun us s1 ⟨xs, H1, I1, r, z, q⟩ => ⟨by rw [← r.length]; exact z, ?_⟩)
  have hf : H1 s1.heap.objs.size = none := I1.hok.fresh (Nat.le_refl _)
  refine ⟨.ref s1.heap.objs.size, upd H1 s1.heap.objs.size (.frz { cls := .type "tuple", data := .seq us.toArray } (.tup xs)), I1.laid (t' := s1.toks) (fun b u e => Heap.get?_push_of_some _ e) (Nat.le_refl _) ?_, rfl, q _ _ hf rfl⟩
  exact ⟨Heap.get?_push_size _ rfl, z, us, r, ⟨_, Heap.get?_push_size _ rfl, rfl, _, rfl⟩⟩
theorem rl_tupleP (pins : List (Addr × Obj)) (s : Shared) (σ : L2.St) (H : Hp) (x : V) (v : Value) (Q : VK) (I : Inv X pins σ H s) (r : RelV x v) (h : kTupP X.K x H Q) :
    wpAny (model X.prog X.w) X.A (call (.type "tuple") [v]) (EP X pins σ Q) X.xe s := by
  rcases h with ⟨p, xs, rfl, hs, q⟩ | ⟨p, xs, rfl, hs, q⟩
  · obtain rfl : v = .ref p := r
    obtain ⟨its, rv, pl, hz⟩ := I.list hs
    refine call_tuple_list pl.isList (fun h' hk => ?_) (by rw [List.size_toArray, ← rv.length]; exact hz)
    have I1 : Inv X pins σ H { s with heap := h' } := I.kept (t' := s.toks) hk
    have I2 : Inv X pins σ (upd H h'.objs.size (.frz { cls := .type "tuple", data := .seq its.toArray } (.tup xs))) { s with heap := h'.push { cls := .type "tuple", data := .seq its.toArray } } :=
      I1.laid (t' := s.toks) (fun b o e => Heap.get?_push_of_some _ e) (Nat.le_refl _) (show ObjOk X.prog X.w _ _ _ (.frz _ (.tup xs)) from ⟨Heap.get?_push_size _ rfl, hz, its, rv, IsTup.new _ _⟩)
    exact ⟨.ref h'.objs.size, _, I2, rfl, q _ _ (I1.hok.fresh (Nat.le_refl _)) rfl⟩
  · obtain rfl : v = .ref p := r
    obtain ⟨its, rv, pl, hz⟩ := I.tuple hs
    exact call_tuple_tup pl ⟨.ref p, H, I, rfl, q⟩
theorem pe_tupleOfP (hg : Gl X "tuple") (hm : X.mg "tuple" = none) (ha : PE X a ta) (na : starEach [a] X.env = (false, eval a X.env) :: starEach [] X.env := by rfl) :
    PE X (.Call (.Name "tuple" p) [a] [] pos) (tThen ta (kTupP X.K)) := by
  refine ⟨fun pins s σ H Q I h => ?_⟩
  exact Call_ (ld_blt I hg hm boot_tuple (PyProof.Rows.callWith_type1 (one_arg ha I h (fun v s2 x H2 I2 r q => rl_tupleP pins s2 σ H2 x v Q I2 r q) na) na))
theorem pe_tupRgP {te : L2.St → Hp → (Int → Int → Hp → Prop) → Prop} (hc : X.calm = true) (hg : Gl X "tuple") (hm : X.mg "tuple" = none) (he : PRg X e te) (na : starEach [e] X.env = (false, eval e X.env) :: starEach [] X.env := by rfl) : PE X (.Call (.Name "tuple" p) [e] [] pos) (tTupRgP te) := by
  refine ⟨fun pins s σ H Q I h => ?_⟩
  refine Call_ (ld_blt I hg hm boot_tuple (PyProof.Rows.callWith_type1 (args_cons (thn (he pins s σ H _ I h) fun x s1 ⟨r, a, b, t, u, v, H1, ex, hr, I1, ok, q⟩ => args_nil ?_) na) na))
  subst ex
  obtain ⟨b1, b2, b3, b4, b5⟩ := ok
  refine call_tuple_range (n := (b - a).toNat) (I1.ok.hd hc) hr (small_one b1 b2 b3 b4) (rangeSize_nat a b) b5 fun h' tk acc hk hi => ?_
  have I2 : Inv X pins σ H1 { s1 with heap := h', toks := tk } := I1.kept hk
  refine ⟨.ref h'.objs.size, upd H1 h'.objs.size (.frz { cls := .type "tuple", data := .seq acc } (.tup (rgV a b))), I2.laid (t' := tk) (fun c o e => Heap.get?_push_of_some _ e) (Nat.le_refl _) (show ObjOk X.prog X.w _ _ _ (.frz _ (.tup (rgV a b))) from ⟨Heap.get?_push_size _ rfl, ?_, acc.toList, vals_rg hi, ?_⟩), rfl, q _ _ (I2.hok.fresh (Nat.le_refl _)) rfl⟩
  · rw [rgV_length, sizeLine_eq]; omega
  · rw [Array.toArray_toList]; exact IsTup.new _ _
theorem op_catP : OpR X (binaryOp .Add) (rCatP X.K) := by
  intro pins s σ H x y v u Q I rx ry h
  obtain ⟨a, b, xs, ys, rfl, rfl, ha, hb, hz, q0, q1, q2⟩ := h
  cases rx
  cases ry
  obtain ⟨its, r1, p1, _⟩ := I.tuple ha
  obtain ⟨its2, r2, p2, _⟩ := I.tuple hb
  by_cases hx : xs = []
  · subst hx
    cases r1
    exact cat_tup0 p1 p2 ⟨.ref b, H, I, rfl, q0 rfl⟩
  · refine HT.cat_tup p1 p2 (fun z => hx (r1.nil_iff.mp z)) (fun z => ⟨.ref a, H, I, rfl, q1 hx (r2.nil_iff.mp z)⟩) (fun z => ?_) (by rw [← r1.length, ← r2.length]; exact hz)
    refine ⟨.ref s.heap.objs.size, _, I.laid (t' := s.toks) (o := .frz { cls := .type "tuple", data := .seq (its ++ its2).toArray } (.tup (xs ++ ys))) (fun b ob q => Heap.get?_push_of_some _ q) (Nat.le_refl _) ?_, rfl, q2 hx (fun w => z (r2.nil_iff.mpr w)) _ _ (I.hok.fresh (Nat.le_refl _)) rfl⟩
    exact ⟨Heap.get?_push_size _ rfl, by rw [List.length_append]; exact hz, _, r1.append r2, IsTup.new _ _⟩
theorem sl_tupP : SlR X (rSlP X.K) := by
  intro pins s σ H x v vl vu lo hi sl Q I rx hs pl pu h
  obtain ⟨a, xs, rfl, hx, q1, q2⟩ := h
  cases rx
  obtain ⟨its, r, ht, hz⟩ := I.tuple hx
  have hlen : its.toArray.size = xs.length := by rw [List.size_toArray]; exact r.length.symm
  refine ⟨"tuple", _, PyProof.Rows.slot_tuple_getitem.lookup, ht.typeIs, ?_⟩
  by_cases hw : HT.sIx xs.length 0 lo = 0 ∧ HT.sIx xs.length xs.length hi = xs.length
  · exact getItem_tuple_whole ht hs pl pu (by rw [hlen]; exact hw) ⟨.ref a, H, I, rfl, q1 hw⟩
  · refine HT.getItem_tuple_cut ht hs pl pu (by rw [hlen]; exact hw) ?_ (by rw [hlen]; exact hz)
    rw [hlen]
    refine ⟨.ref s.heap.objs.size, _, I.laid (t' := s.toks) (o := .frz { cls := .type "tuple", data := .seq ((its.drop (HT.sIx xs.length 0 lo)).take (HT.sIx xs.length xs.length hi - HT.sIx xs.length 0 lo)).toArray } (.tup (cutV xs lo hi))) (fun b ob q => Heap.get?_push_of_some _ q) (Nat.le_refl _) ?_, rfl, q2 hw _ _ (I.hok.fresh (Nat.le_refl _)) rfl⟩
    exact ⟨Heap.get?_push_size _ rfl, Nat.le_trans (cutV_length xs lo hi) hz, _, (r.drop (HT.sIx xs.length 0 lo)).take (HT.sIx xs.length xs.length hi - HT.sIx xs.length 0 lo), IsTup.new _ _⟩
theorem pe_bmP {name : Str} {id : String} {r : V → List V → Hp → VK → Prop} (pa : PlainAttrs "tuple") (slot : Slot "tuple" name id) (hty : typeOf (.builtin id) = pure (.type "method_descriptor")) (hm : MtR X id r) (ho : PE X o to) (ha : PA X (e :: es) t)
    (hbase : attributeBase o name X.env (eval o X.env) = eval o X.env := by rfl)
    (hfew : ((backTo cpos (starEach (e :: es) X.env)).all (fun x => !x.1) && (backToKw cpos (keywordEach [] X.env)).all (fun x => x.1.isSome)
      && decide ((e :: es).length + ([] : List Keyword).length + (if ([] : List Keyword).isEmpty then 0 else 1) < 30)) = true := by rfl)
    (hline : (apos.endLine == cpos.line) = true := by rfl) (hs : starEach (e :: es) X.env = (false, eval e X.env) :: starEach es X.env := by rfl) (hplain : (backTo cpos (starEach es X.env)).any (·.1) = false := by rfl) :
    PE X (.Call (.Attribute o name apos) (e :: es) [] cpos) (tBMP X.K r to t) := by
  refine ⟨fun pins s σ H Q I h => ?_⟩
  refine wpAny_Call_method_late hbase hfew hline rfl (thn (ho.run pins s σ H _ I h) fun v s1 ⟨x, H1, I1, r1, ty, q1⟩ => ?_)
  have z : s1.TypeIs v "tuple" ∧ ∀ a, v = .ref a → ∃ ob, s1.heap.get? a = some ob ∧ ob.dict = none := by
    obtain ⟨a, xs, rfl, pl⟩ := ty
    cases r1
    obtain ⟨its, _, p1, _⟩ := I1.tuple pl.t
    refine ⟨p1.typeIs, fun b e => ?_⟩
    cases e
    rcases pl with ⟨o, h, d⟩ | ⟨o, _, _, h1, _, d, _⟩
    · exact ⟨o, (I1.hok _ _ h).1, d⟩
    · exact ⟨o, I1.kIn _ o h1, d⟩
  obtain ⟨h1, h2⟩ := z
  refine ⟨"tuple", id, pa, slot, hty, h1, h2, ?_⟩
  have hA := ha.run cpos pins s1 σ H1 _ I1 q1
  rw [hs] at hA ⊢
  refine Calls.callWith_builtin (by show (false || (backTo cpos (starEach es X.env)).any (·.1)) = false; rw [hplain] <;> rfl) (Calls.evalArgs_plain ?_)
  exact thn hA fun us s2 ⟨vs, H2, I2, r2, q2⟩ => hm pins s2 σ H2 x vs v us Q I2 r1 r2 q2
end

/-! ### sorted of a list or a tuple of ints -/
section
variable {prog : Program} {w : World} {A : Around} {E : Value → Shared → Prop} {s : Shared}
theorem collect_tupQ {l : Addr} {vs : List Value} {Q : List Value → Shared → Prop} (hl : IsTup s.heap l vs.toArray)
    (h : Q vs { s with heap := (s.heap.push (seqObj "list" #[] 0)).update s.heap.objs.size (Obj.mapSeq (· ++ vs.toArray)) }) (hsz : vs.length ≤ sizeLine) :
    wpAny (model prog w) A (collect (.ref l)) Q E s := by
  obtain ⟨o, ho, hc, n, hd⟩ := id hl
  unfold collect
  refine wpAny_bind (wpAny_runValue (codeAny_builtin entry_proto_collect' ?_))
  show wpAny _ _ (do again (.builtin "list.__iadd__" ⟨[← newList [], .ref l], []⟩)) _ _ s
  refine wpAny_bind (wpAny_newList (wpAny_pure ⟨Code.quiet_builtin _ (by decide +kernel), codeAny_builtin entry_list_iadd' ?_⟩))
  show wpAny _ _ (Builtin.List.listExtendWith (.ref s.heap.objs.size) (.ref l) (.ref s.heap.objs.size)) _ _ { s with heap := s.heap.push (seqObj "list" #[] 0) }
  unfold Builtin.List.listExtendWith
  have ho' : (s.heap.push (seqObj "list" #[] 0)).get? l = some o := Heap.get?_push_of_some _ ho
  refine wpAny_bind (wpAny_typeOf (T := "tuple") ⟨o, ho', hc⟩ ?_)
  have ht : (Value.type "tuple" == Value.type "tuple") = true := by rfl
  rw [if_pos (by rw [ht]; simp)]
  refine wpAny_bind (listItems_at ho' hd ?_)
  refine wpAny_bind (listItems_at (xs := #[]) (n := 0) (Heap.get?_push_size _ rfl) rfl ?_)
  rw [if_neg (by simp)]
  refine wpAny_bind (listUpdate_at (xs := #[]) (n := 0) (Heap.get?_push_size _ rfl) rfl ?_ (Nat.zero_le _) (by show (#[] ++ vs.toArray).size ≤ sizeLine + 1; simp only [Array.size_append, List.size_toArray, List.length_nil]; omega))
  refine wpAny_pure ?_
  show wpAny (model prog w) A (do
      let o ← load s.heap.objs.size
      match o.data with
      | .seq xs _ => pure xs.toList
      | _ => unsupported "internal:collect") Q E { s with heap := (s.heap.push (seqObj "list" #[] 0)).update s.heap.objs.size (Obj.mapSeq (· ++ vs.toArray)) }
  refine wpAny_bind (wpAny_load (get?_update_seq (Heap.get?_push_size _ rfl) _) ?_)
  show wpAny _ _ (pure ((#[] : Array Value) ++ vs.toArray).toList) Q E _
  rw [show ((#[] : Array Value) ++ vs.toArray).toList = vs by simp]
  exact wpAny_pure h
theorem sorted_intsTup {l : Addr} {vs : List Value} {ns : List Int} {Q : Value → Shared → Prop} (hl : IsTup s.heap l vs.toArray) (hI : IntsAre vs ns) (hL : vs.length ≤ sizeLine)
    (h : ∀ (out : Array Value) (ns' : List Int), IntsAre out.toList ns' → ns'.Perm ns → ns'.Pairwise (· ≤ ·) → Q (.ref (s.heap.objs.size + 1)) { s with heap := sortedAll s.heap vs out }) :
    wpAny (model prog w) A (call (.builtin "sorted") [.ref l]) Q E s := by
  refine Calls.call_function_entry kind_sorted plain_sorted entry_sorted (args_sorted1 _) ?_
  unfold Builtin.«sorted»
  refine wpAny_bind (m := checkCount "sorted" 1 1 _) (wpAny_pure ?_)
  refine wpAny_bind (collect_tupQ hl ?_ hL)
  refine wpAny_bind (wpAny_newList ?_)
  have hsz : ((s.heap.push (seqObj "list" #[] 0)).update s.heap.objs.size (Obj.mapSeq (· ++ vs.toArray))).objs.size = s.heap.objs.size + 1 := by
    rw [Heap.size_update, size_push']
  have hoL : (((s.heap.push (seqObj "list" #[] 0)).update s.heap.objs.size (Obj.mapSeq (· ++ vs.toArray))).push (seqObj "list" vs.toArray 0)).get? (s.heap.objs.size + 1) = some (seqObj "list" vs.toArray 0) := by
    rw [← hsz]; exact Heap.get?_push_size _ rfl
  show wpAny _ _ _ _ _ { s with heap := ((s.heap.push (seqObj "list" #[] 0)).update s.heap.objs.size (Obj.mapSeq (· ++ vs.toArray))).push (seqObj "list" vs.toArray 0) }
  rw [hsz]
  refine wpAny_bind (wpAny_holding (wpAny_call_entry slot_list_sort ⟨_, hoL, rfl⟩ entry_list_sort (list_sort_treeAny hoL hI hL fun out ns' a1 a2 a3 => ⟨_, rfl, ?_⟩) (args_list_sort _)))
  exact wpAny_pure ⟨_, rfl, h out ns' a1 a2 a3⟩
end
def rSortedQ (K : PySem.W.Frag) : List V → Hp → VK → Prop := fun vs H Q => ∃ (a : Addr) (ns : List Int), vs = [V.ref a] ∧ (SqL K H a (ns.map V.int) ∨ SqT K H a (ns.map V.int)) ∧
  ∀ (ns' : List Int) (p : Addr), ns'.Perm ns → ns'.Pairwise (· ≤ ·) → H p = none → Q (.ref p) (upd H p (.lst (ns'.map V.int)))
section
variable {X : Cx}
theorem cr_sortedQ : CallR X (.builtin "sorted") (rSortedQ X.K) := by
  intro pins s σ H vs us Q I r h
  obtain ⟨a, ns, rfl, hs, q⟩ := h
  have fin : ∀ {its : List Value}, ns.length ≤ sizeLine → ∀ (out : Array Value) (ns' : List Int), IntsAre out.toList ns' → ns'.Perm ns → ns'.Pairwise (· ≤ ·) → EP X pins σ Q (.ref (s.heap.objs.size + 1)) { s with heap := sortedAll s.heap its out } := fun {its} hz out ns' k1 k2 k3 => by
    obtain ⟨ep, he'⟩ := PyProof.Rows.sortedAll_at s.heap its out
    have hlen : (ns'.map V.int).length ≤ sizeLine := by
      rw [List.length_map, k2.length_eq]
      exact hz
    exact ⟨.ref _, upd H (s.heap.objs.size + 1) (.lst (ns'.map V.int)), I.laid (t' := s.toks) (fun _ _ => PyProof.Rows.sortedAll_old) (Nat.le_succ _) ⟨hlen, out.toList, ep, vals_of_ints k1, by simpa using he'⟩, rfl, q _ _ k2 k3 (I.hok.fresh (Nat.le_succ _))⟩
  rw [Vals.ref1 r]
  rcases hs with hs | hs
  · obtain ⟨its, rv, hl, hz⟩ := I.list hs
    rw [List.length_map] at hz
    exact PyProof.Rows.sorted_intsAny hl.isList rv.ints (by rw [← rv.length, List.length_map]; exact hz) (fin hz)
  · obtain ⟨its, rv, hl, hz⟩ := I.tuple hs
    rw [List.length_map] at hz
    exact sorted_intsTup hl rv.ints (by rw [← rv.length, List.length_map]; exact hz) (fin hz)

/-! ### index, count -/
def rTIdxI (K : PySem.W.Frag) : V → List V → Hp → VK → Prop := fun x xs H Q => ∃ (a : Addr) (ns : List Int) (n : Int), x = .ref a ∧ xs = [.int n] ∧ SqT K H a (ns.map V.int) ∧ n ∈ ns ∧ Q (.int (ns.idxOf n : Nat)) H
theorem mt_tidx (hu : X.A.units + 64 < cLine) : MtR X "tuple.index" (rTIdxI X.K) := by
  intro pins s σ H x xs v us Q I rx rs h
  obtain ⟨a, ns, n, rfl, rfl, hs, hm, q⟩ := h
  cases rx
  obtain ⟨its, rv, hl, hz⟩ := I.tuple hs
  obtain ⟨u, rfl, ru⟩ := vals1 rs
  obtain ⟨o, ho, hc, m, hd⟩ := hl
  refine PySem.W.index_tuple_datum (α := Int) (x := n) (xs := ns) (vs := its) ⟨o, ho, hc, m, hd⟩ (hds_holds I (ints_hds ns) rv) (hd_holds I (of_int n) ru) (by show X.A.units + 1 + 0 < cLine; omega) hm ?_
  exact ⟨.int _, H, I.tok _, ⟨_, rfl⟩, q⟩
end

/-! ### 5. what evaluates to what data -/
section ev
variable {α β γ : Type} [DecidableEq α] [Datum α] [DecidableEq β] [Datum β] [DecidableEq γ] [Datum γ] {K : PySem.W.Frag} {σ : L2.St} {H H' : Hp} {ta tb te tx : TE} {t u : TT} {v : V}
def EvD (K : PySem.W.Frag) (te : TE) (σ : L2.St) (H : Hp) (x : α) : Prop := ∀ H1, Ex H H1 → ∀ Q : VK, (∀ v H2, Ex H1 H2 → Hd K H2 v x → Q v H2) → te σ H1 Q
/-- a new list of such data -/
def EvN (K : PySem.W.Frag) (te : TE) (σ : L2.St) (H : Hp) (xs : List α) : Prop := ∀ H1, Ex H H1 → ∀ Q : VK, (∀ p vs H2, H1 p = none → Ex H1 H2 → H2 p = some (.lst vs) → Hds K H2 vs xs → Q (.ref p) H2) → te σ H1 Q
theorem EvD.mono {x : α} (e : Ex H H') (h : EvD K te σ H x) : EvD K te σ H' x := fun H1 a Q q => h H1 (e.trans a) Q q
theorem EvN.mono {xs : List α} (e : Ex H H') (h : EvN K te σ H xs) : EvN K te σ H' xs := fun H1 a Q q => h H1 (e.trans a) Q q
theorem EvN.d {xs : List α} (h : EvN K te σ H xs) : EvD K te σ H xs := fun H1 e Q q => h H1 e Q fun p vs H2 _ e2 hp hv => q _ H2 e2 (of_list (sq_of hp) hv)
theorem EvD.is {x y : α} (h : EvD K te σ H x) (e : x = y) : EvD K te σ H y := e ▸ h
theorem EvN.is {x y : List α} (h : EvN K te σ H x) (e : x = y) : EvN K te σ H y := e ▸ h
theorem ed_var {i : Nat} {x : α} (h : σ[i]? = some (some v)) (hx : Hd K H v x) : EvD K (tVar i) σ H x := fun H1 e _ q => ⟨v, h, q v H1 (Ex.refl H1) (hd_ex e hx)⟩
theorem EvD.int {n : Int} (h : EvD K te σ H n) : Ev te σ H (.int n) := fun H1 e Q q => h H1 e Q fun v H2 e2 hv => by rw [hd_int hv]; exact q H2 e2
theorem ed_int {n : Int} (h : Ev te σ H (.int n)) : EvD K te σ H n := fun H1 e Q q => h H1 e Q fun H2 e2 => q _ H2 e2 (of_int n)
theorem EvD.bool {b : Bool} (h : EvD K te σ H b) : Ev te σ H (.bl b) := fun H1 e Q q => h H1 e Q fun H2 e2 e3 hv => by rw [hd_bool hv]; exact q e2 e3
theorem ed_bool {b : Bool} (h : Ev te σ H (.bl b)) : EvD K te σ H b := fun H1 e Q q => h H1 e Q fun H2 e2 => q _ H2 e2 (of_bool b)
theorem ed_str {b : Str} (h : Ev te σ H (.str b)) : EvD K te σ H b := fun H1 e Q q => h H1 e Q fun H2 e2 => q _ H2 e2 (of_str b)
theorem ed_unit (h : Ev te σ H .non) : EvD K te σ H () := fun H1 e Q q => h H1 e Q fun H2 e2 => q _ H2 e2 .non
theorem ed_ref {a : Addr} {x : α} (h : Ev te σ H (.ref a)) (hx : Hd K H (.ref a) x) : EvD K te σ H x := fun H1 e Q q => h H1 e Q fun H2 e2 => q _ H2 e2 (hd_ex (e.trans e2) hx)
theorem ed_v {x : α} (h : Ev te σ H v) (hx : Hd K H v x) : EvD K te σ H x := fun H1 e Q q => h H1 e Q fun H2 e2 => q _ H2 e2 (hd_ex (e.trans e2) hx)

/-- two operands by their data -/
theorem ev_op2 {r : R2} {x : α} {y : β} {z : V} (ha : EvD K ta σ H x) (hb : EvD K tb σ H y) (hr : ∀ vx vy H1, Ex H H1 → Hd K H1 vx x → Hd K H1 vy y → ∀ Q : VK, Q z H1 → r vx vy H1 Q) : Ev (tOp r ta tb) σ H z := fun H1 e Q q =>
  ha H1 e _ fun vx H2 e2 hx => hb H2 (e.trans e2) _ fun vy H3 e3 hy => hr vx vy H3 ((e.trans e2).trans e3) (hd_ex e3 hx) hy Q (q H3 (e2.trans e3))
theorem depth_le (x : α) (h : Datum.depth α ≤ 32) : (Datum.toD x).depth ≤ 32 := Nat.le_trans (Datum.depth_le x) h
theorem ev_eqD {x y : α} (ha : EvD K ta σ H x) (hb : EvD K tb σ H y) (hz : Datum.depth α ≤ 32 := by decide) : Ev (tOp (rEqP K) ta tb) σ H (.bl (decide (x = y))) :=
  ev_op2 ha hb fun vx vy H1 _ hx hy Q q => ⟨_, _, hx, hy, Datum.plain x, Datum.plain y, depth_le x hz, by rw [Datum.eqv]; exact q⟩
theorem ev_neD {x y : α} (ha : EvD K ta σ H x) (hb : EvD K tb σ H y) (hz : Datum.depth α ≤ 32 := by decide) : Ev (tOp (rNeP K) ta tb) σ H (.bl (!decide (x = y))) :=
  ev_op2 ha hb fun vx vy H1 _ hx hy Q q => ⟨_, _, hx, hy, Datum.plain x, Datum.plain y, depth_le x hz, by rw [Datum.eqv]; exact q⟩
/-- of two types, told by eqv -/
theorem ev_eqD2 {x : α} {y : β} {b : Bool} (ha : EvD K ta σ H x) (hb : EvD K tb σ H y) (hz : Datum.depth α ≤ 32) (he : PyData.eqv (Datum.toD x) (Datum.toD y) = b) : Ev (tOp (rEqP K) ta tb) σ H (.bl b) :=
  ev_op2 ha hb fun vx vy H1 _ hx hy Q q => ⟨_, _, hx, hy, Datum.plain x, Datum.plain y, depth_le x hz, by rw [he]; exact q⟩
theorem ev_neD2 {x : α} {y : β} {b : Bool} (ha : EvD K ta σ H x) (hb : EvD K tb σ H y) (hz : Datum.depth α ≤ 32) (he : PyData.eqv (Datum.toD x) (Datum.toD y) = b) : Ev (tOp (rNeP K) ta tb) σ H (.bl (!b)) :=
  ev_op2 ha hb fun vx vy H1 _ hx hy Q q => ⟨_, _, hx, hy, Datum.plain x, Datum.plain y, depth_le x hz, by rw [he]; exact q⟩
theorem ev_inL {x : α} {xs : List α} (ha : EvD K ta σ H x) (hb : EvD K tb σ H xs) (hz : Datum.depth α ≤ 32 := by decide) : Ev (tOp (rInP K false) ta tb) σ H (.bl (decide (x ∈ xs))) :=
  ev_op2 ha hb fun vx vy H1 _ hx hy Q q => ⟨_, _, hx, .inl hy, Datum.plain x, PySem.W.plainAll_map xs, depth_le x hz, by rw [if_neg Bool.false_ne_true, PySem.W.any_datum]; exact q⟩
theorem ev_niL {x : α} {xs : List α} (ha : EvD K ta σ H x) (hb : EvD K tb σ H xs) (hz : Datum.depth α ≤ 32 := by decide) : Ev (tOp (rInP K true) ta tb) σ H (.bl (!decide (x ∈ xs))) :=
  ev_op2 ha hb fun vx vy H1 _ hx hy Q q => ⟨_, _, hx, .inl hy, Datum.plain x, PySem.W.plainAll_map xs, depth_le x hz, by rw [if_pos rfl, PySem.W.any_datum]; exact q⟩
theorem ev_inT {x : α} {xs : List α} (ha : EvD K ta σ H x) (hb : EvD K tb σ H (Tup.mk xs)) (hz : Datum.depth α ≤ 32 := by decide) : Ev (tOp (rInP K false) ta tb) σ H (.bl (decide (x ∈ xs))) :=
  ev_op2 ha hb fun vx vy H1 _ hx hy Q q => ⟨_, _, hx, .inr hy, Datum.plain x, PySem.W.plainAll_map xs, depth_le x hz, by rw [if_neg Bool.false_ne_true, PySem.W.any_datum]; exact q⟩
theorem ev_niT {x : α} {xs : List α} (ha : EvD K ta σ H x) (hb : EvD K tb σ H (Tup.mk xs)) (hz : Datum.depth α ≤ 32 := by decide) : Ev (tOp (rInP K true) ta tb) σ H (.bl (!decide (x ∈ xs))) :=
  ev_op2 ha hb fun vx vy H1 _ hx hy Q q => ⟨_, _, hx, .inr hy, Datum.plain x, PySem.W.plainAll_map xs, depth_le x hz, by rw [if_pos rfl, PySem.W.any_datum]; exact q⟩
/-! items -/
theorem hds_atI {vs : List V} {xs : List α} {i : Int} {x : α} (h : Hds K H vs xs) (hx : atI xs i = some x) : ∃ v, atI vs i = some v ∧ Hd K H v x := by
  unfold atI at hx ⊢
  rw [hds_len h]
  cases e : ixN xs.length i with
  | none =>
    rw [e] at hx
    cases hx
  | some j =>
    rw [e] at hx
    exact hds_get h hx
theorem ed_ixT {xs : List α} {i : Int} {x : α} (ha : EvD K ta σ H (Tup.mk xs)) (hb : Ev tb σ H (.int i)) (hx : atI xs i = some x) : EvD K (tOp (rIx K) ta tb) σ H x := fun H1 e Q q =>
  ha H1 e _ fun vx H2 e2 hv => hb H2 (e.trans e2) _ fun H3 e3 => by
    obtain ⟨a, vs, rfl, hs, hd⟩ := hd_tup (hd_ex e3 hv)
    obtain ⟨w, hw, dw⟩ := hds_atI hd hx
    exact .inr (.inl ⟨a, vs, i, w, rfl, rfl, hs.t, hw, q w H3 (e2.trans e3) dw⟩)
theorem ed_ixL {xs : List α} {i : Int} {x : α} (ha : EvD K ta σ H xs) (hb : Ev tb σ H (.int i)) (hx : atI xs i = some x) : EvD K (tOp (rIx K) ta tb) σ H x := fun H1 e Q q =>
  ha H1 e _ fun vx H2 e2 hv => hb H2 (e.trans e2) _ fun H3 e3 => by
    obtain ⟨a, vs, rfl, hs, hd⟩ := hd_list (hd_ex e3 hv)
    obtain ⟨w, hw, dw⟩ := hds_atI hd hx
    exact .inl ⟨a, vs, i, w, rfl, rfl, hs, hw, q w H3 (e2.trans e3) dw⟩
theorem ed_fst {x : α} {y : β} (ha : EvD K ta σ H (x, y)) (hb : Ev tb σ H (.int 0)) : EvD K (tOp (rIx K) ta tb) σ H x := fun H1 e Q q =>
  ha H1 e _ fun vx H2 e2 hv => hb H2 (e.trans e2) _ fun H3 e3 => by
    obtain ⟨a, v1, v2, rfl, hs, h1, h2⟩ := hd_pair (hd_ex e3 hv)
    exact .inr (.inl ⟨a, _, 0, v1, rfl, rfl, hs.t, rfl, q v1 H3 (e2.trans e3) h1⟩)
theorem ed_snd {x : α} {y : β} (ha : EvD K ta σ H (x, y)) (hb : Ev tb σ H (.int 1)) : EvD K (tOp (rIx K) ta tb) σ H y := fun H1 e Q q =>
  ha H1 e _ fun vx H2 e2 hv => hb H2 (e.trans e2) _ fun H3 e3 => by
    obtain ⟨a, v1, v2, rfl, hs, h1, h2⟩ := hd_pair (hd_ex e3 hv)
    exact .inr (.inl ⟨a, _, 1, v2, rfl, rfl, hs.t, rfl, q v2 H3 (e2.trans e3) h2⟩)
theorem ed_t3a {x : α} {y : β} {z : γ} (ha : EvD K ta σ H (T3.mk x y z)) (hb : Ev tb σ H (.int 0)) : EvD K (tOp (rIx K) ta tb) σ H x := fun H1 e Q q =>
  ha H1 e _ fun vx H2 e2 hv => hb H2 (e.trans e2) _ fun H3 e3 => by
    obtain ⟨a, v1, v2, v3, rfl, hs, h1, h2, h3⟩ := hd_t3 (hd_ex e3 hv)
    exact .inr (.inl ⟨a, _, 0, v1, rfl, rfl, hs.t, rfl, q v1 H3 (e2.trans e3) h1⟩)
theorem ed_t3b {x : α} {y : β} {z : γ} (ha : EvD K ta σ H (T3.mk x y z)) (hb : Ev tb σ H (.int 1)) : EvD K (tOp (rIx K) ta tb) σ H y := fun H1 e Q q =>
  ha H1 e _ fun vx H2 e2 hv => hb H2 (e.trans e2) _ fun H3 e3 => by
    obtain ⟨a, v1, v2, v3, rfl, hs, h1, h2, h3⟩ := hd_t3 (hd_ex e3 hv)
    exact .inr (.inl ⟨a, _, 1, v2, rfl, rfl, hs.t, rfl, q v2 H3 (e2.trans e3) h2⟩)
theorem ed_t3c {x : α} {y : β} {z : γ} (ha : EvD K ta σ H (T3.mk x y z)) (hb : Ev tb σ H (.int 2)) : EvD K (tOp (rIx K) ta tb) σ H z := fun H1 e Q q =>
  ha H1 e _ fun vx H2 e2 hv => hb H2 (e.trans e2) _ fun H3 e3 => by
    obtain ⟨a, v1, v2, v3, rfl, hs, h1, h2, h3⟩ := hd_t3 (hd_ex e3 hv)
    exact .inr (.inl ⟨a, _, 2, v3, rfl, rfl, hs.t, rfl, q v3 H3 (e2.trans e3) h3⟩)
/-! len, sorted, tuple, list -/
theorem ev_lenT {xs : List α} (ha : EvD K ta σ H (Tup.mk xs)) : Ev (tCB (rLenS K) (tCons ta tNil)) σ H (.int (xs.length : Int)) := fun H1 e Q q =>
  ha H1 e _ fun vx H2 e2 hv => by
    obtain ⟨a, vs, rfl, hs, hd⟩ := hd_tup hv
    exact ⟨a, vs, rfl, .inr hs.t, by rw [hds_len hd]; exact q H2 e2⟩
theorem ev_lenL {xs : List α} (ha : EvD K ta σ H xs) : Ev (tCB (rLenS K) (tCons ta tNil)) σ H (.int (xs.length : Int)) := fun H1 e Q q =>
  ha H1 e _ fun vx H2 e2 hv => by
    obtain ⟨a, vs, rfl, hs, hd⟩ := hd_list hv
    exact ⟨a, vs, rfl, .inl hs, by rw [hds_len hd]; exact q H2 e2⟩
/-- the one sorted list of some ints -/
theorem sort_one {ns ms : List Int} (p : ns.Perm ms) (h1 : ns.Pairwise (· ≤ ·)) (h2 : ms.Pairwise (· ≤ ·)) : ns = ms := List.Perm.eq_of_pairwise (fun a b _ _ h h' => Int.le_antisymm h h') h1 h2 p
def sortI (ns : List Int) : List Int := ns.mergeSort (fun a b => decide (a ≤ b))
theorem sortI_perm (ns : List Int) : (sortI ns).Perm ns := List.mergeSort_perm ns _
theorem sortI_up (ns : List Int) : (sortI ns).Pairwise (· ≤ ·) := by
  have h := List.pairwise_mergeSort (le := fun a b : Int => decide (a ≤ b)) (fun a b c h1 h2 => decide_eq_true (Int.le_trans (of_decide_eq_true h1) (of_decide_eq_true h2))) (fun a b => by
    rcases Int.le_total a b with h | h
    · simp [h]
    · simp [h]) ns
  exact h.imp fun h => of_decide_eq_true h
theorem en_sortT {ns : List Int} (ha : EvD K ta σ H (Tup.mk ns)) : EvN K (tCB (rSortedQ K) (tCons ta tNil)) σ H (sortI ns) := fun H1 e Q q =>
  ha H1 e _ fun vx H2 e2 hv => by
    obtain ⟨a, vs, rfl, hs, hd⟩ := hd_tup hv
    rw [hds_ints hd] at hs
    refine ⟨a, ns, rfl, .inr hs.t, fun ns' p k2 k3 hp => ?_⟩
    rw [sort_one (k2.trans (sortI_perm ns).symm) k3 (sortI_up ns)]
    exact q p _ _ (fresh_back e2 hp) (e2.trans (Ex.new hp)) upd_same (ints_hds _)
theorem en_sortL {ns : List Int} (ha : EvD K ta σ H ns) : EvN K (tCB (rSortedQ K) (tCons ta tNil)) σ H (sortI ns) := fun H1 e Q q =>
  ha H1 e _ fun vx H2 e2 hv => by
    obtain ⟨a, vs, rfl, hs, hd⟩ := hd_list hv
    rw [hds_ints hd] at hs
    refine ⟨a, ns, rfl, .inl hs, fun ns' p k2 k3 hp => ?_⟩
    rw [sort_one (k2.trans (sortI_perm ns).symm) k3 (sortI_up ns)]
    exact q p _ _ (fresh_back e2 hp) (e2.trans (Ex.new hp)) upd_same (ints_hds _)
/-- 0, 1, .. below n -/
def upTo (n : Nat) : List Int := (List.range n).map fun i : Nat => (i : Int)
theorem rgV_up (n : Int) : rgV 0 n = (upTo n.toNat).map V.int := by
  unfold rgV upTo
  rw [List.map_map, Int.sub_zero]
  exact List.map_congr_left fun i _ => by show V.int (0 + (i : Int)) = V.int (i : Int); rw [Int.zero_add]
theorem en_listRg {n : Int} (ha : Ev ta σ H (.int n)) (hn : -1000 ≤ n ∧ n ≤ 1000) : EvN K (tLstRg (tRg1 ta)) σ H (upTo n.toNat) := fun H1 e Q q =>
  ha H1 e _ fun H2 e2 => ⟨n, rfl, ⟨by omega, by omega, by omega, by omega, by omega⟩, fun p hp => by
    rw [rgV_up]
    exact q p _ _ (fresh_back e2 hp) (e2.trans (Ex.new hp)) upd_same (ints_hds _)⟩
theorem ed_tupRg {n : Int} (ha : Ev ta σ H (.int n)) (hn : -1000 ≤ n ∧ n ≤ 1000) : EvD K (tTupRgP (tRg1 ta)) σ H (Tup.mk (upTo n.toNat)) := fun H1 e Q q =>
  ha H1 e _ fun H2 e2 => ⟨n, rfl, ⟨by omega, by omega, by omega, by omega, by omega⟩, fun p ob hp ho => by
    rw [rgV_up]
    exact q _ _ (e2.trans (Ex.new hp)) (of_tup (pl_of upd_same ho) (ints_hds _))⟩
/-- tuple(a list) -/
theorem ed_tupOfL {xs : List α} (ha : EvD K ta σ H xs) : EvD K (tThen ta (kTupP K)) σ H (Tup.mk xs) := fun H1 e Q q =>
  ha H1 e _ fun vx H2 e2 hv => by
    obtain ⟨a, vs, rfl, hs, hd⟩ := hd_list hv
    exact .inl ⟨a, vs, rfl, hs, fun p ob hp ho => q _ _ (e2.trans (Ex.new hp)) (of_tup (pl_of upd_same ho) (hds_ex (Ex.new hp) hd))⟩
theorem ed_tupOfT {xs : List α} (ha : EvD K ta σ H (Tup.mk xs)) : EvD K (tThen ta (kTupP K)) σ H (Tup.mk xs) := fun H1 e Q q =>
  ha H1 e _ fun vx H2 e2 hv => by
    obtain ⟨a, vs, rfl, hs, hd⟩ := hd_tup hv
    exact .inr ⟨a, vs, rfl, hs.t, q _ _ e2 (of_tup hs hd)⟩
theorem en_listOf {xs : List α} (ha : EvD K ta σ H xs) : EvN K (tCB (rListS K) (tCons ta tNil)) σ H xs := fun H1 e Q q =>
  ha H1 e _ fun vx H2 e2 hv => by
    obtain ⟨a, vs, rfl, hs, hd⟩ := hd_list hv
    exact ⟨a, vs, rfl, .inl hs, fun p hp => q p _ _ (fresh_back e2 hp) (e2.trans (Ex.new hp)) upd_same (hds_ex (Ex.new hp) hd)⟩
theorem en_listOfT {xs : List α} (ha : EvD K ta σ H (Tup.mk xs)) : EvN K (tCB (rListS K) (tCons ta tNil)) σ H xs := fun H1 e Q q =>
  ha H1 e _ fun vx H2 e2 hv => by
    obtain ⟨a, vs, rfl, hs, hd⟩ := hd_tup hv
    exact ⟨a, vs, rfl, .inr hs.t, fun p hp => q p _ _ (fresh_back e2 hp) (e2.trans (Ex.new hp)) upd_same (hds_ex (Ex.new hp) hd)⟩
/-! displays -/
def EvAs (K : PySem.W.Frag) (ta : TA) (σ : L2.St) (H : Hp) (xs : List α) : Prop := ∀ H1, Ex H H1 → ∀ Q : List V → Hp → Prop, (∀ vs H2, Ex H1 H2 → Hds K H2 vs xs → Q vs H2) → ta σ H1 Q
theorem eas_nil : EvAs K tNil σ H ([] : List α) := fun H1 _ _ q => q _ H1 (Ex.refl H1) .nil
theorem eas_cons {tr : TA} {x : α} {xs : List α} (h : EvD K te σ H x) (hr : EvAs K tr σ H xs) : EvAs K (tCons te tr) σ H (x :: xs) := fun H1 e _ q =>
  h H1 e _ fun v H2 e2 hv => hr H2 (e.trans e2) _ fun vs H3 e3 hvs => q _ H3 (e2.trans e3) (.cons (hd_ex e3 hv) hvs)
theorem ed_tupA {ta : TA} {xs : List α} (h : EvAs K ta σ H xs) (hl : xs.length ≤ 100000) : EvD K (tTupP ta) σ H (Tup.mk xs) := fun H1 e _ q =>
  h H1 e _ fun vs H2 e2 hv => ⟨sz_of (by rw [hds_len hv]; exact hl), fun p ob hp ho => q _ _ (e2.trans (Ex.new hp)) (of_tup (pl_of upd_same ho) (hds_ex (Ex.new hp) hv))⟩
theorem en_lstA {ta : TA} {xs : List α} (h : EvAs K ta σ H xs) (hl : xs.length ≤ 100000) : EvN K (tLst ta) σ H xs := fun H1 e _ q =>
  h H1 e _ fun vs H2 e2 hv => ⟨sz_of (by rw [hds_len hv]; exact hl), fun p hp => q p _ _ (fresh_back e2 hp) (e2.trans (Ex.new hp)) upd_same (hds_ex (Ex.new hp) hv)⟩
theorem ed_pairA {x : α} {y : β} (h1 : EvD K ta σ H x) (h2 : EvD K tb σ H y) : EvD K (tTupP (tCons ta (tCons tb tNil))) σ H (x, y) := fun H1 e _ q =>
  h1 H1 e _ fun v1 H2 e2 d1 => h2 H2 (e.trans e2) _ fun v2 H3 e3 d2 => ⟨by show 2 ≤ sizeLine; decide, fun p ob hp ho => q _ _ ((e2.trans e3).trans (Ex.new hp)) (of_pair (pl_of upd_same ho) (hd_ex (e3.trans (Ex.new hp)) d1) (hd_ex (Ex.new hp) d2))⟩
theorem ed_t3A {x : α} {y : β} {z : γ} (h1 : EvD K ta σ H x) (h2 : EvD K tb σ H y) (h3 : EvD K tx σ H z) : EvD K (tTupP (tCons ta (tCons tb (tCons tx tNil)))) σ H (T3.mk x y z) := fun H1 e _ q =>
  h1 H1 e _ fun v1 H2 e2 d1 => h2 H2 (e.trans e2) _ fun v2 H3 e3 d2 => h3 H3 ((e.trans e2).trans e3) _ fun v3 H4 e4 d3 => ⟨by show 3 ≤ sizeLine; decide, fun p ob hp ho => q _ _ (((e2.trans e3).trans e4).trans (Ex.new hp))
    (of_t3 (pl_of upd_same ho) (hd_ex ((e3.trans e4).trans (Ex.new hp)) d1) (hd_ex (e4.trans (Ex.new hp)) d2) (hd_ex (Ex.new hp) d3))⟩
/-! slices, tuple + tuple -/
def cutA {α : Type} (xs : List α) (lo hi : Option Int) : List α := (xs.drop (HT.sIx xs.length 0 lo)).take (HT.sIx xs.length xs.length hi - HT.sIx xs.length 0 lo)
theorem cutV_A (xs : List V) (lo hi : Option Int) : cutV xs lo hi = cutA xs lo hi := rfl
theorem hds_cut {vs : List V} {xs : List α} (lo hi : Option Int) (h : Hds K H vs xs) : Hds K H (cutV vs lo hi) (cutA xs lo hi) := by
  rw [cutV_A]
  unfold cutA
  rw [hds_len h]
  exact hds_take _ (hds_drop _ h)
theorem cutA_all {α : Type} (xs : List α) {lo hi : Option Int} (h : HT.sIx xs.length 0 lo = 0 ∧ HT.sIx xs.length xs.length hi = xs.length) : cutA xs lo hi = xs := by
  unfold cutA
  rw [h.1, h.2, List.drop_zero, Nat.sub_zero, List.take_length]
theorem ed_slT {tl th : TO} {xs : List α} {lo hi : Option Int} (h : EvD K te σ H (Tup.mk xs)) (h1 : EvO tl σ H lo) (h2 : EvO th σ H hi) : EvD K (tSl (rSlP K) te tl th) σ H (Tup.mk (cutA xs lo hi)) := fun H1 e _ q =>
  h H1 e _ fun v H2 e2 hv => h1 H2 (e.trans e2) _ fun H3 e3 => h2 H3 ((e.trans e2).trans e3) _ fun H4 e4 => by
    obtain ⟨a, vs, rfl, hs, hd⟩ := hd_tup (hd_ex (e3.trans e4) hv)
    refine ⟨a, vs, rfl, hs.t, fun hw => ?_, fun hw p ob hp ho => q _ _ (((e2.trans e3).trans e4).trans (Ex.new hp)) (of_tup (pl_of upd_same ho) (hds_cut lo hi (hds_ex (Ex.new hp) hd)))⟩
    rw [hds_len hd] at hw
    rw [cutA_all xs hw] at q
    exact q _ _ ((e2.trans e3).trans e4) (of_tup hs hd)
theorem en_slL {tl th : TO} {xs : List α} {lo hi : Option Int} (h : EvD K te σ H xs) (h1 : EvO tl σ H lo) (h2 : EvO th σ H hi) : EvN K (tSl (rSlL K) te tl th) σ H (cutA xs lo hi) := fun H1 e _ q =>
  h H1 e _ fun v H2 e2 hv => h1 H2 (e.trans e2) _ fun H3 e3 => h2 H3 ((e.trans e2).trans e3) _ fun H4 e4 => by
    obtain ⟨a, vs, rfl, hs, hd⟩ := hd_list (hd_ex (e3.trans e4) hv)
    exact ⟨a, vs, rfl, hs, fun p hp => q p _ _ (fresh_back ((e2.trans e3).trans e4) hp) (((e2.trans e3).trans e4).trans (Ex.new hp)) upd_same (hds_cut lo hi (hds_ex (Ex.new hp) hd))⟩
theorem ed_catT {xs ys : List α} (ha : EvD K ta σ H (Tup.mk xs)) (hb : EvD K tb σ H (Tup.mk ys)) (hz : xs.length + ys.length ≤ 100000) : EvD K (tOp (rCatP K) ta tb) σ H (Tup.mk (xs ++ ys)) := fun H1 e Q q =>
  ha H1 e _ fun vx H2 e2 hv => hb H2 (e.trans e2) _ fun vy H3 e3 hw => by
    obtain ⟨a, vs, rfl, hs, hd⟩ := hd_tup (hd_ex e3 hv)
    obtain ⟨b, ws, rfl, hs', hd'⟩ := hd_tup hw
    refine ⟨a, b, vs, ws, rfl, rfl, hs.t, hs'.t, sz_of (by rw [hds_len hd, hds_len hd']; exact hz), fun z => ?_, fun _ z => ?_, fun _ _ p ob hp ho => q _ _ ((e2.trans e3).trans (Ex.new hp)) (of_tup (pl_of upd_same ho) (hds_app (hds_ex (Ex.new hp) hd) (hds_ex (Ex.new hp) hd')))⟩
    · have l := hds_len hd
      rw [z] at l
      have l0 : xs = [] := List.length_eq_zero_iff.mp l.symm
      rw [l0, List.nil_append] at q
      exact q _ _ (e2.trans e3) hw
    · have l := hds_len hd'
      rw [z] at l
      have l0 : ys = [] := List.length_eq_zero_iff.mp l.symm
      rw [l0, List.append_nil] at q
      exact q _ _ (e2.trans e3) (of_tup hs hd)
/-! conditional, known tests -/
theorem ed_if {b : Bool} {x : α} (h : EvT t σ H b) (h1 : b = true → EvD K ta σ H x) (h2 : b = false → EvD K tb σ H x) : EvD K (tIf t ta tb) σ H x := fun H1 e Q q => h H1 e _ fun H2 e2 => by
  cases b with
  | true =>
    show ta σ H2 Q
    exact h1 rfl H2 (e.trans e2) Q fun v H3 e3 => q v H3 (e2.trans e3)
  | false =>
    show tb σ H2 Q
    exact h2 rfl H2 (e.trans e2) Q fun v H3 e3 => q v H3 (e2.trans e3)
/-! comprehensions over a list, a tuple, a range: the items' data, those that the test lets pass -/
def Cd {α β : Type} [DecidableEq α] [Datum α] [DecidableEq β] [Datum β] (K : PySem.W.Frag) (H : Hp) (f : α → Bool) (g : α → β) (xs : List α) (Dl : Addr) (i : Nat) (H' : Hp) : Prop :=
  H Dl = none ∧ Ex H H' ∧ ∃ acc, H' Dl = some (.lst acc) ∧ Hds K H' acc (((xs.take i).filter f).map g) ∧ acc.length ≤ i
theorem cd_turn {f : α → Bool} {g : α → β} {xs : List α} {Dl : Addr} {i : Nat} {x : α} {σ2 : L2.St} [PureD β] (p : Cd K H f g xs Dl i H') (hx : xs[i]? = some x) (hi : i < 50000) (ht : EvT t σ2 H' (f x)) (he : f x = true → EvD K te σ2 H' (g x)) :
  t σ2 H' fun b H3 => if b = true then te σ2 H3 fun y H4 => ∃ acc, H4 Dl = some (.lst acc) ∧ acc.length < sizeLine ∧ Cd K H f g xs Dl (i + 1) (upd H4 Dl (.lst (acc ++ [y]))) else Cd K H f g xs Dl (i + 1) H3 := by
  obtain ⟨p1, p2, acc, p3, p4, p5⟩ := p
  have st : xs.take (i + 1) = xs.take i ++ [x] := by rw [List.take_add_one, hx]; rfl
  refine ht H' (Ex.refl _) _ fun H3 e3 => ?_
  cases hf : f x with
  | true =>
    show te σ2 H3 fun y H4 => ∃ acc, H4 Dl = some (.lst acc) ∧ acc.length < sizeLine ∧ Cd K H f g xs Dl (i + 1) (upd H4 Dl (.lst (acc ++ [y])))
    refine he hf H3 e3 _ fun y H4 e4 hy => ⟨acc, e4 Dl _ (e3 Dl _ p3), sz_lt (by omega), p1, Ex.mut ((p2.trans e3).trans e4) p1, acc ++ [y], upd_same, ?_, ?_⟩
    · have tx : Tx H4 (upd H4 Dl (.lst (acc ++ [y]))) := .mut (by rw [e4 Dl _ (e3 Dl _ p3)]; trivial)
      rw [st, List.filter_append, List.map_append, List.filter_cons, if_pos hf]
      exact hds_app (hds_tx tx (hds_ex (e3.trans e4) p4)) (hds_one (hd_tx tx hy))
    · rw [List.length_append, List.length_singleton]
      omega
  | false =>
    show Cd K H f g xs Dl (i + 1) H3
    refine ⟨p1, p2.trans e3, acc, e3 Dl _ p3, ?_, by omega⟩
    rw [st, List.filter_append, List.map_append, List.filter_cons, if_neg (by rw [hf]; decide)]
    rw [List.filter_nil, List.map_nil, List.append_nil]
    exact hds_ex e3 p4
theorem cd_end {f : α → Bool} {g : α → β} {xs : List α} {Dl : Addr} {H0 H1 : Hp} {Q : VK} (e1 : Ex H0 H1) (q : ∀ p vs H2, H0 p = none → Ex H0 H2 → H2 p = some (.lst vs) → Hds K H2 vs ((xs.filter f).map g) → Q (.ref p) H2)
    {n : Nat} (hn : n = xs.length) {H2 : Hp} (p : Cd K H1 f g xs Dl n H2) : Q (.ref Dl) H2 := by
  obtain ⟨p1, p2, acc, p3, p4, _⟩ := p
  rw [hn, List.take_length] at p4
  exact q Dl acc H2 (fresh_back e1 p1) (e1.trans p2) p3 p4
/-- [te for j in xs if t]: tg tells the slots behind the target's store -/
theorem en_lcL {xs : List α} {tl : TE} {g1 : TG} {vs : List Nat} (f : α → Bool) (g : α → β) [PureD β] (h : EvD K tl σ H xs) (hz : xs.length ≤ 40000)
    (tg : ∀ (v : V) (x : α) H1 (R : L2.St → Hp → Prop), x ∈ xs → Ex H H1 → Hd K H1 v x → (∀ σ2 H2, Ex H1 H2 → wipe σ2 vs = wipe σ vs → EvT t σ2 H2 (f x) → (f x = true → EvD K te σ2 H2 (g x)) → R σ2 H2) → g1 v (wipe σ vs) H1 R) :
    EvN K (tLc (iList K tl) g1 t te vs) σ H ((xs.filter f).map g) := fun H0 e Q q => h H0 e _ fun v H1 e1 hv => by
  obtain ⟨a, ws, rfl, hs, hd⟩ := hd_list hv
  refine ⟨a, rfl, ⟨ws, hs⟩, fun Dl hD => lc_list (xs := ws) (Cd K H1 f g xs Dl) ⟨hD, Ex.new hD, [], upd_same, by rw [List.take_zero]; exact .nil, Nat.le_refl _⟩ (fun i H' _ p => ex_l p.2.1 hs) (fun i y H' hi p => ?_) (fun H' p => cd_end e1 q (hds_len hd) p)⟩
  obtain ⟨x, hx, dx⟩ := hds_getV hd hi
  have hl := (List.getElem?_eq_some_iff.mp hx).1
  refine tg y x H' _ (List.mem_of_getElem? hx) ((e.trans e1).trans p.2.1) (hd_ex p.2.1 dx) fun σ2 H2 e2 w ht he => ⟨w, ?_⟩
  have p' : Cd K H1 f g xs Dl i H2 := by
    obtain ⟨p1, p2, acc, p3, p4, p5⟩ := p
    exact ⟨p1, p2.trans e2, acc, e2 _ _ p3, hds_ex e2 p4, p5⟩
  exact cd_turn p' hx (by omega) ht he
theorem en_lcT {xs : List α} {tl : TE} {g1 : TG} {vs : List Nat} (f : α → Bool) (g : α → β) [PureD β] (h : EvD K tl σ H (Tup.mk xs)) (hz : xs.length ≤ 40000)
    (tg : ∀ (v : V) (x : α) H1 (R : L2.St → Hp → Prop), x ∈ xs → Ex H H1 → Hd K H1 v x → (∀ σ2 H2, Ex H1 H2 → wipe σ2 vs = wipe σ vs → EvT t σ2 H2 (f x) → (f x = true → EvD K te σ2 H2 (g x)) → R σ2 H2) → g1 v (wipe σ vs) H1 R) :
    EvN K (tLc (iTup K tl) g1 t te vs) σ H ((xs.filter f).map g) := fun H0 e Q q => h H0 e _ fun v H1 e1 hv => by
  obtain ⟨a, ws, rfl, hs, hd⟩ := hd_tup hv
  refine ⟨a, rfl, ⟨ws, hs.t⟩, fun Dl hD => lc_tup (xs := ws) (Cd K H1 f g xs Dl) ⟨hD, Ex.new hD, [], upd_same, by rw [List.take_zero]; exact .nil, Nat.le_refl _⟩ (fun i H' _ p => ex_t p.2.1 hs.t) (fun i y H' hi p => ?_) (fun H' p => cd_end e1 q (hds_len hd) p)⟩
  obtain ⟨x, hx, dx⟩ := hds_getV hd hi
  have hl := (List.getElem?_eq_some_iff.mp hx).1
  refine tg y x H' _ (List.mem_of_getElem? hx) ((e.trans e1).trans p.2.1) (hd_ex p.2.1 dx) fun σ2 H2 e2 w ht he => ⟨w, ?_⟩
  have p' : Cd K H1 f g xs Dl i H2 := by
    obtain ⟨p1, p2, acc, p3, p4, p5⟩ := p
    exact ⟨p1, p2.trans e2, acc, e2 _ _ p3, hds_ex e2 p4, p5⟩
  exact cd_turn p' hx (by omega) ht he
/-- over range(n) -/
theorem en_lcR {ta : TA} {g1 : TG} {vs : List Nat} {n : Int} (f : Int → Bool) (g : Int → β) [PureD β] (h : EvA ta σ H [.int n]) (hn : -1000 ≤ n ∧ n ≤ 1000)
    (tg : ∀ (x : Int) H1 (R : L2.St → Hp → Prop), 0 ≤ x → x < n → Ex H H1 → (∀ σ2 H2, Ex H1 H2 → wipe σ2 vs = wipe σ vs → EvT t σ2 H2 (f x) → (f x = true → EvD K te σ2 H2 (g x)) → R σ2 H2) → g1 (.int x) (wipe σ vs) H1 R) :
    EvN K (tLc (iRng1 ta) g1 t te vs) σ H (((upTo n.toNat).filter f).map g) := fun H0 e Q q => h H0 e _ fun H1 e1 => ⟨n, rfl, by omega, by omega, fun Dl hD => by
  have len : (upTo n.toNat).length = n.toNat := by unfold upTo; rw [List.length_map, List.length_range]
  refine lc_range (lo := 0) (n := n.toNat) (Cd K H1 f g (upTo n.toNat) Dl) ⟨hD, Ex.new hD, [], upd_same, by rw [List.take_zero]; exact .nil, Nat.le_refl _⟩ (fun i H' hi p => ?_) (fun H' p => cd_end e1 q len.symm p)
  have hx : (upTo n.toNat)[i]? = some (i : Int) := by
    unfold upTo
    rw [List.getElem?_map, List.getElem?_range hi]
    rfl
  rw [Int.zero_add]
  refine tg (i : Int) H' _ (by omega) (by omega) ((e.trans e1).trans p.2.1) fun σ2 H2 e2 w ht he => ⟨w, ?_⟩
  have p' : Cd K H1 f g (upTo n.toNat) Dl i H2 := by
    obtain ⟨p1, p2, acc, p3, p4, p5⟩ := p
    exact ⟨p1, p2.trans e2, acc, e2 _ _ p3, hds_ex e2 p4, p5⟩
  exact cd_turn p' hx (by omega) ht he⟩
end ev
end OA

/-! OC: calls as packages, own exceptions, a try that keeps its error -/
namespace OA
open PySem PySem.Spec PyProof.Rows L2 Evl
open PySem.W (Datum Tup T3 DatumOrd)

/-! ### 6. calls -/
/-- the module's def x keeps the promise sp, at level k -/
structure Cl (P : Program) (w : World) (K : PySem.W.Frag) (mg : Str → Option Value) (base : Heap) (k : Nat) (x : Str) (sp : Sp) : Prop where
  ex : ∃ (f : Addr) (fd : FuncData) (ps : List Str), FnOk P w K mg base (L2.CX P w) k f fd ps sp ∧ mg x = some (.ref f) ∧ PySem.W.keepIn K (.ref f) = true ∧ Binds K fd ps []
theorem Cl.mono {P : Program} {w : World} {K : PySem.W.Frag} {mg : Str → Option Value} {base : Heap} {j k : Nat} {x : Str} {sp : Sp} (c : Cl P w K mg base j x sp) (h : j ≤ k) : Cl P w K mg base k x sp := by
  obtain ⟨f, fd, ps, F, r⟩ := c.ex
  exact ⟨f, fd, ps, F.mono h, r⟩
/-- where the def x stands -/
structure Df (K : PySem.W.Frag) (mg : Str → Option Value) (x : Str) (st : Stmt) (ps : List Str) (f : Addr) (fd : FuncData) : Prop where
  F : Fun K x x st f fd
  g : mg x = some (.ref f)
  b : Binds K fd ps []
theorem Df.cl {P : Program} {w : World} {K : PySem.W.Frag} {mg : Str → Option Value} {base : Heap} {k : Nat} {x : Str} {st : Stmt} {ps : List Str} {f : Addr} {fd : FuncData} {sp : Sp} (d : Df K mg x st ps f fd) (F : FnOk P w K mg base (L2.CX P w) k f fd ps sp) : Cl P w K mg base k x sp :=
  ⟨f, fd, ps, F, d.g, d.F.kp, d.b⟩
/-- the method m of the class at C -/
structure Mt (P : Program) (w : World) (K : PySem.W.Frag) (mg : Str → Option Value) (base : Heap) (k : Nat) (C : Addr) (m : Str) (sp : Sp) : Prop where
  ex : ∃ (f : Addr) (fd : FuncData) (ps : List Str), FnOk P w K mg base (L2.CX P w) k f fd ps sp ∧ Meth K C m f ∧ Binds K fd ps []
  cl : Cls K C
theorem Mt.mono {P : Program} {w : World} {K : PySem.W.Frag} {mg : Str → Option Value} {base : Heap} {j k : Nat} {C : Addr} {x : Str} {sp : Sp} (c : Mt P w K mg base j C x sp) (h : j ≤ k) : Mt P w K mg base k C x sp := by
  obtain ⟨f, fd, ps, F, r⟩ := c.ex
  exact ⟨⟨f, fd, ps, F.mono h, r⟩, c.cl⟩
structure Dm (K : PySem.W.Frag) (C : Addr) (m qual : Str) (st : Stmt) (ps : List Str) (f : Addr) (fd : FuncData) : Prop where
  F : Fun K m qual st f fd
  m : Meth K C m f
  b : Binds K fd ps []
theorem Dm.mt {P : Program} {w : World} {K : PySem.W.Frag} {mg : Str → Option Value} {base : Heap} {k : Nat} {C : Addr} {m qual : Str} {st : Stmt} {ps : List Str} {f : Addr} {fd : FuncData} {sp : Sp} (d : Dm K C m qual st ps f fd) (c : Cls K C) (F : FnOk P w K mg base (L2.CX P w) k f fd ps sp) : Mt P w K mg base k C m sp :=
  ⟨⟨f, fd, ps, F, d.m, d.b⟩, c⟩
/-- the class x at C is made by its __init__ -/
structure Mkr (P : Program) (w : World) (K : PySem.W.Frag) (mg : Str → Option Value) (base : Heap) (k : Nat) (x : Str) (C : Addr) (sp : Sp) : Prop where
  ex : ∃ (f : Addr) (fd : FuncData) (ps : List Str), FnOk P w K mg base (L2.CX P w) k f fd ps sp ∧ Mk K C f ∧ Binds K fd ps []
  g : mg x = some (.ref C)
structure Di (K : PySem.W.Frag) (mg : Str → Option Value) (x qual : Str) (C : Addr) (st : Stmt) (ps : List Str) (f : Addr) (fd : FuncData) : Prop where
  F : Fun K "__init__" qual st f fd
  m : Mk K C f
  b : Binds K fd ps []
  g : mg x = some (.ref C)
theorem Di.mkr {P : Program} {w : World} {K : PySem.W.Frag} {mg : Str → Option Value} {base : Heap} {k : Nat} {C : Addr} {x qual : Str} {st : Stmt} {ps : List Str} {f : Addr} {fd : FuncData} {sp : Sp} (d : Di K mg x qual C st ps f fd) (F : FnOk P w K mg base (L2.CX P w) k f fd ps sp) : Mkr P w K mg base k x C sp :=
  ⟨⟨f, fd, ps, F, d.m, d.b⟩, d.g⟩
section
variable {X : Cx} {k j : Nat} {x m : Str} {C : Addr} {sp : Sp} {W : WX} {e o : Expr} {es : List Expr} {ta : TE} {t : TA} {p pos apos : Pos}
theorem pe_cl (c : Cl X.prog X.w X.K X.mg X.base k x sp) (hr : Room j X.A) (hk : k ≤ j) (tk : Takes X W) (ha : PA X (e :: es) t) (hg : Gl X x := by rfl) (hdb : (x == ("__debug__" : Str)) = false := by decide)
    (he : starEach (e :: es) X.env = (false, eval e X.env) :: starEach es X.env := by rfl) (hpl : (backTo pos (starEach es X.env)).any (·.1) = false := by rfl) : PE X (.Call (.Name x p) (e :: es) [] pos) (tCallS sp (WE W) t) := by
  obtain ⟨f, fd, ps, F, g, kp, b⟩ := c.ex
  exact pe_callS F (hr.mono hk) hg g kp b (fun σ => passAt tk σ) ha hdb he hpl
theorem pe_mt {pl : Sem Bool} (c : Mt X.prog X.w X.K X.mg X.base k C m sp) (hr : Room j X.A) (hk : k ≤ j) (ho : PE X o ta) (ha : PA X (e :: es) t) (he : starEach (e :: es) X.env = (false, eval e X.env) :: starEach es X.env := by rfl) (hpl : (backTo pos (starEach es X.env)).any (·.1) = false := by rfl)
    (ht : eval (.Call (.Attribute o m apos) (e :: es) [] pos) X.env = (do
      let ov ← eval o X.env
      standAt apos.atName
      let (f, first) ← holding [ov] (getMethod ov m pl)
      callWith pos f first (backTo pos (starEach (e :: es) X.env)) (backToKw pos (keywordEach [] X.env))) := by rfl) :
    PE X (.Call (.Attribute o m apos) (e :: es) [] pos) (tMeth C m sp [] E0 ta t) := by
  obtain ⟨f, fd, ps, F, hm, b⟩ := c.ex
  exact pe_meth ho c.cl hm F (hr.mono hk) b .nil passL ha he hpl ht
theorem pe_mt0 {pl : Sem Bool} (c : Mt X.prog X.w X.K X.mg X.base k C m sp) (hr : Room j X.A) (hk : k ≤ j) (ho : PE X o ta)
    (ht : eval (.Call (.Attribute o m apos) [] [] pos) X.env = (do
      let ov ← eval o X.env
      standAt apos.atName
      let (f, first) ← holding [ov] (getMethod ov m pl)
      callWith pos f first (backTo pos (starEach [] X.env)) (backToKw pos (keywordEach [] X.env))) := by rfl) :
    PE X (.Call (.Attribute o m apos) [] [] pos) (tMeth C m sp [] E0 ta tNil) := by
  obtain ⟨f, fd, ps, F, hm, b⟩ := c.ex
  exact pe_meth0 ho c.cl hm F (hr.mono hk) b .nil passL ht
theorem pe_mk0 (c : Mkr X.prog X.w X.K X.mg X.base k x C sp) (hr : Room j X.A) (hk : k + 1 ≤ j) (hg : Gl X x := by rfl) (hdb : (x == ("__debug__" : Str)) = false := by decide) : PE X (.Call (.Name x p) [] [] pos) (tMake C sp [] E0 tNil) := by
  obtain ⟨f, fd, ps, F, hm, b⟩ := c.ex
  exact pe_make0 hm F (hr.mono hk) hg c.g b .nil passL hdb
theorem pe_mk (c : Mkr X.prog X.w X.K X.mg X.base k x C sp) (hr : Room j X.A) (hk : k + 1 ≤ j) (ha : PA X (e :: es) t) (hg : Gl X x := by rfl) (hdb : (x == ("__debug__" : Str)) = false := by decide) (he : starEach (e :: es) X.env = (false, eval e X.env) :: starEach es X.env := by rfl) (hpl : (backTo pos (starEach es X.env)).any (·.1) = false := by rfl) :
    PE X (.Call (.Name x p) (e :: es) [] pos) (tMake C sp [] E0 t) := by
  obtain ⟨f, fd, ps, F, hm, b⟩ := c.ex
  exact pe_make hm F (hr.mono hk) hg c.g b .nil passL ha hdb he hpl
end

/-! ### 7. own exceptions -/
structure ExcT (K : PySem.W.Frag) (mg : Str → Option Value) (x : Str) (C : Addr) : Prop where
  g : mg x = some (.ref C)
  k : PySem.W.keepIn K (.ref C) = true
  xc : PySem.W.excIn K C [.type "ValueError", .type "Exception", .type "BaseException", .type "object"] "ValueError.__new__" = true
  b : PySem.W.subIn K (.ref C) (.type "BaseException") = some true
  t : PySem.W.typeIn K (.ref C) = some (.type "type")
theorem ps_rs {X : Cx} {x m : Str} {C : Addr} {j : Nat} {p p2 pos pos' : Pos} {W : WX} (T : ExcT X.K X.mg x C) (hc : X.calm = true) (tk : Takes X W) (hg : Gl X x := by rfl) (hdb : (x == ("__debug__" : Str)) = false := by decide) :
    PS X (.Raise (some (.Call (.Name x p) [.Constant (.str m) j p2] [] pos)) none pos') (fun _ σ H => W (.ref C) none σ H) :=
  ps_raise hc tk (pmk_own PySem.F.excBase_ValueError T.xc T.g T.k (raises_own T.b T.t) hg hdb)

/-- an error that a name holds -/
def ExK (cls : Value) (a : Addr) : HO := .ext fun h => ∃ (oe : Obj) (vs : Array Value), h.get? a = some oe ∧ Zc cls none oe ∧ oe.data = .fields vs
section
variable {X : Cx} {pins : List (Addr × Obj)} {σ : L2.St} {H : Hp} {s : Shared} {a : Addr} {oe : Obj} {cls : Value}
theorem exK_ok {P : Program} {w : World} {h : Heap} {vs : Array Value} (e : h.get? a = some oe) (z : Zc cls none oe) (d : oe.data = .fields vs) : ObjOk P w H h a (ExK cls a) :=
  ⟨⟨oe, vs, e, z, d⟩, ⟨oe, e⟩, fun _ _ ⟨o, v, q, r⟩ k => ⟨o, v, k o q, r⟩⟩
theorem inv_track (I : Inv X pins σ H s) {vs : Array Value} (ha : s.heap.get? a = some oe) (hz : Zc cls none oe) (hd : oe.data = .fields vs) (na : H a = none) (nL : a ≠ X.env.locals) (n0 : X.s_0.heap.get? a = none) (nP : ∀ p ∈ X.pn ++ pins, p.1 ≠ a) :
    Inv X pins σ (upd H a (ExK cls a)) s := by
  have ne0 : ∀ b o, X.s_0.heap.get? b = some o → b ≠ a := fun b o e z => by
    rw [z, n0] at e
    cases e
  have neS : ∀ b u, H b = some u → b ≠ a := fun b u e => ne_of_none e na
  refine ⟨I.ok, I.os, I.bare, ⟨I.base.keep, I.base.slot, fun b o e n hx => ?_, I.base.there, fun b xs e => ?_, fun b o u e => ?_, fun b ps e => ?_⟩, I.loc, I.cell, ?_, fun x c e => ?_, fun p hp => ?_, fun b u e => ?_, I.len⟩
  · rw [upd_ne (ne0 b o e)]
    exact I.base.free b o e n hx
  · have q := I.base.tups b xs e
    rw [upd_ne (neS _ _ q)]
    exact q
  · have q := I.base.frzs b o u e
    rw [upd_ne (neS _ _ q)]
    exact q
  · obtain ⟨m, q⟩ := I.base.tbls b ps e
    exact ⟨m, by rw [upd_ne (neS _ _ q)]; exact q⟩
  · rw [upd_ne (Ne.symm nL)]
    exact I.free
  · have ne : c ≠ a := fun z => by
      obtain ⟨v, o, ho, hc⟩ := I.cell x c e
      rw [z, ha] at ho
      cases ho
      rw [hd] at hc
      cases hc
    rw [upd_ne ne]
    exact I.freeC x c e
  · obtain ⟨e, n, ne, nf, d⟩ := I.pin p hp
    exact ⟨e, by rw [upd_ne (nP p hp)]; exact n, ne, nf, d⟩
  · by_cases hb : b = a
    · subst hb
      rw [upd_same] at e
      cases e
      exact exK_ok ha hz hd
    · rw [upd_ne hb] at e
      exact (I.hok b u e).stay (fun c v _ q => q) (fun c q => by rw [upd_ne (neS _ _ q)]; exact q) fun c xs q => by rw [upd_ne (neS _ _ q)]; exact q
end

/-- what a try of the form «body / except x as n: y = n» wishes of an error of its body: slot i is n's, slot k is y's -/
def wKeep (K : PySem.W.Frag) (c : Value) (i k : Nat) (D : Ends) : WX := fun cls d σ H =>
  PySem.W.exmOne K cls c = some true ∧ d = none ∧ ∀ a, H a = none → D.nx (((σ.set i (some (.ref a))).set k (some (.ref a))).set i none) (upd H a (ExK cls a))
section
variable {X : Cx} {x n y : Str} {c : Value} {i k : Nat} {body : List Stmt} {np pos pos' p1 p2 p3 : Pos} {tb : WX → TS}
theorem ps_try_keep (hs : X.stack = X.env :: X.outer) (hf : X.env.frame = some X.env.locals) (hex : X.ex = []) (hN : X.N.Nodup) (hi : X.N[i]? = some n) (hln : X.env.kindOf n = some .local) (hk : X.N[k]? = some y) (hlk : X.env.scope.names.lookup y = some .local)
    (hdn : (n == ("__debug__" : Str)) = false) (hcn : (n == ("__classdict__" : Str)) = false)
    (hc : Names X x c)
    (hb : ∀ (W : WX) (pn : List (Addr × Obj)) (xe : Value → Shared → Prop), Takes (X.tr pn xe) W → PassesOwn (model X.prog X.w) X.A X.env xe → PSs (X.tr pn xe) body (tb W))
    (hsw : ∀ Y : Cx, Y.env = X.env → swapsWith (.Name n p2) (some (.Name y p1)) p3.line Y.env = pure false) :
    PS X (.Try body [.ExceptHandler (some (.Name x np)) (some n) [.Assign [.Name y p1] (.Name n p2) p3] pos'] [] [] pos) (fun D σ H => tb (wKeep X.K c i k D) D σ H) := by
  refine ⟨fun pins s σ H D I h => ?_⟩
  have ok := I.ok
  have hfr : X.A.frames = some (X.env :: X.outer) := by rw [ok.frames, hs]
  have hloc : Loc X.env.scope n := .inl hln
  refine wpAny_Try_except ?_
  refine wpAny_mono ((hb (wKeep X.K c i k D) (X.pn ++ pins) (fun e s₁ => wpAny (model X.prog X.w) X.A (noteFrame e X.env) (fun _ s₂ => wpAny (model X.prog X.w) X.A (setFlight e none) (fun _ s₃ =>
    wpAny (model X.prog X.w) X.A (handleBy e X.env [.ExceptHandler (some (.Name x np)) (some n) [.Assign [.Name y p1] (.Name n p2) p3] pos']) (SP X pins D) X.xe s₃) X.xe s₂) X.xe s₁) (fun u s' xx => ?_) PassesOwn.looking).run [] s σ H D (I.toTry _) h) (fun f s1 hsp => ?_) (fun e s1 he => he)
  · -- the catch
    obtain ⟨a, B, sI, pins', σ', H', cls, d, rfl, J', nb, up, sky, na, os, ag, hb1, hd0, hyes⟩ := xx
    subst hd0
    have J : Inv X pins σ' H' sI := J'.ofTry ok
    have sky' : Sky B (X.env :: X.outer) a (Zc cls none) X.env.locals s'.heap := by rw [← hs]; exact sky
    show wpAny (model X.prog X.w) X.A (noteFrame (.ref a) X.env) _ _ _
    refine Sky.land Zc.steady hfr hf sky' fun h3 fl3 up3 => ?_
    have J3 : Inv X pins σ' H' { s' with heap := h3 } := J.landed nb fl3.1 (up.trans up3) os ag
    obtain ⟨oe3, vs3, he3, hz3, hd3⟩ := fl3.there
    have notFr : ∀ {h : Heap} {o : Obj} {vs : Array Value}, h.FunFrames B (X.env :: X.outer) → h.get? a = some o → o.data = .fields vs → a ∉ frs (X.env :: X.outer) := fun {h o vs} ff e dd hm => by
      obtain ⟨_, o', e', hnf⟩ := ff.mem hm
      rw [e] at e'; cases e'
      exact hnf _ dd
    have nfr := notFr fl3.2.2.1 he3 hd3
    have nL : a ≠ X.env.locals := fun z => nfr (List.mem_filterMap.mpr ⟨X.env, List.mem_cons_self, by rw [hf, z]⟩)
    have nF : a ∉ X.fs := fun hm => by
      obtain ⟨e, he, q⟩ := List.mem_filterMap.mp hm
      exact nfr (List.mem_filterMap.mpr ⟨e, List.mem_cons_of_mem _ he, q⟩)
    -- the error was not there before
    have nI : sI.heap.get? a = none := by
      cases q : sI.heap.get? a with
      | none => rfl
      | some o =>
        have z := nb a o q (by rw [hs]; exact nfr)
        rw [fl3.2.1] at z
        cases z
    have n0 : X.s_0.heap.get? a = none := by
      cases q : X.s_0.heap.get? a with
      | none => rfl
      | some o =>
        obtain ⟨o', z⟩ := J.base.there a o q (by rw [hex]; exact fun z => nomatch z)
        rw [nI] at z
        cases z
    have nP : ∀ p ∈ X.pn ++ pins, p.1 ≠ a := fun p hp z => by
      obtain ⟨e, _⟩ := J.pin p hp
      rw [z, nI] at e
      cases e
    have S3 := J3.suite he3 hd3 na nL nF
    refine wpAny_handleBy_cons (codeAny_handlers_test ?_) (by intro q; cases q)
    have LT : PySem.W.Looks (model X.prog X.w) h3 (typeOf (.ref a)) cls := fun A Q E s k q => wpAny_typeOf_ref (k _ _ he3) (by rw [hz3.1]; exact q)
    have LM := PySem.W.exm_one (M := model X.prog X.w) (J3.kIn) LT hb1
    have test : ∀ {Q : Value → Shared → Prop} {E : Value → Shared → Prop}, Q c { s' with heap := h3 } → wpAny (model X.prog X.w) (X.A.mark (some (.ref a))) (eval (.Name x np) X.env) Q E { s' with heap := h3 } := fun {Q E} q => by
      obtain ⟨hg, hdbg, hm | ⟨hm, hv, hnn⟩⟩ := hc
      · exact ld_glob (X := X.suite a ((a, oe3) :: (X.pn ++ pins))) S3 hg hm q hdbg
      · exact ld_blt (X := X.suite a ((a, oe3) :: (X.pn ++ pins))) S3 hg hm hv q hnn hdbg
    refine test (LM.here ?_)
    refine codeAny_handlers_suite_as ?_
    refine HandSPX.lands_againZ fl3 fun h4 fl4 up4 => ?_
    have J4 : Inv X pins σ' H' { s' with heap := h4 } := J.landed nb fl4.1 ((up.trans up3).trans up4) os ag
    obtain ⟨oe4, vs4, he4, hz4, hd4⟩ := fl4.there
    have S4 := J4.suite he4 hd4 na nL nF
    refine store_ok (X := X.suite a ((a, oe4) :: (X.pn ++ pins))) (v := .ref a) S4 hN hi hloc rfl (fun s5 S5 => ?_) (.inr hln)
    have iσ : i < σ'.length := by
      rw [J.len]
      exact (List.getElem?_eq_some_iff.mp hi).1
    have su : PSs (X.suite a ((a, oe4) :: (X.pn ++ pins))) [.Assign [.Name y p1] (.Name n p2) p3] (tAsg (tVar i) (gName k)) :=
      pss_one (ps_set (X := X.suite a ((a, oe4) :: (X.pn ++ pins))) hN hk (.inl hlk) (pe_var (X := X.suite a ((a, oe4) :: (X.pn ++ pins))) hi (.inl hln) hdn hcn) (hsw _ rfl) (.inr hlk))
    refine wpAny_mono (su.run [] s5 _ H' { nx := fun σ6 H6 => σ6 = (σ'.set i (some (.ref a))).set k (some (.ref a)) ∧ H6 = H', rt := fun _ _ => False } S5 ⟨.ref a, by rw [List.getElem?_set_self iσ], rfl, rfl⟩) (fun f s6 hsp => ?_) (fun _ _ z => False.elim z)
    cases f with
    | next =>
      obtain ⟨σ6, H6, S6, e1, e2⟩ := hsp
      subst e1
      subst e2
      refine gone_ok (X := X.suite a ((a, oe4) :: (X.pn ++ pins))) S6 hN hi hln fun s7 S7 => ?_
      obtain ⟨g7, _⟩ := S7.pin (a, oe4) List.mem_cons_self
      exact ⟨_, _, inv_track (S7.unsuite ok) g7 hz4 hd4 na nL n0 nP, hyes a na⟩
    | brk =>
      obtain ⟨σ6, H6, S6, q6⟩ := hsp
      exact q6.elim
    | cont =>
      obtain ⟨σ6, H6, S6, q6⟩ := hsp
      exact q6.elim
    | ret u =>
      obtain ⟨v6, σ6, H6, S6, r6, q6⟩ := hsp
      exact q6.elim
  · cases f with
    | next =>
      obtain ⟨σ', H', J', q⟩ := hsp
      exact wpAny_execs_nil ⟨σ', H', J'.ofTry ok, q⟩
    | brk =>
      obtain ⟨σ', H', J', q⟩ := hsp
      exact ⟨σ', H', J'.ofTry ok, q⟩
    | cont =>
      obtain ⟨σ', H', J', q⟩ := hsp
      exact ⟨σ', H', J'.ofTry ok, q⟩
    | ret u =>
      obtain ⟨v, σ', H', J', r, q⟩ := hsp
      exact ⟨v, σ', H', J'.ofTry ok, r, q⟩
end

/-! isinstance of a kept error -/
def rIsK (K : PySem.W.Frag) : List V → Hp → VK → Prop := fun xs H Q => ∃ (a D : Addr) (c : V) (cv : Value) (b : Bool), xs = [.ref a, c] ∧ H a = some (ExK (.ref D) a) ∧ ExcC K D ∧ (∀ u, RelV c u → u = cv) ∧ PySem.W.kitOne K (.ref D) cv = some b ∧ Q (.bl b) H
theorem call_isK {X : Cx} : CallR X (.builtin "isinstance") (rIsK X.K) := by
  intro pins s σ H xs us Q I r h
  obtain ⟨a, D, c, cv, b, rfl, ha, C, hcv, e, q⟩ := h
  cases r with
  | cons rx rr =>
    cases rr with
    | cons rt rr =>
      cases rr
      cases rx
      have ec := hcv _ rt
      subst ec
      obtain ⟨⟨oe, vs, hget, hz, hv⟩, _, _⟩ := I.hok a _ ha
      have J : PySem.W.InstAt s.heap a oe D none := by
        obtain ⟨oc, od, oda, osl⟩ := oe
        obtain ⟨h1, h2⟩ := hz
        dsimp only at h1 h2 hv
        subst h1 h2 hv
        exact ⟨hget, rfl, rfl, trivial⟩
      exact PySem.W.kia_one (PySem.W.handS_kitx_exc C.hg C.hk C.hs C.hd C.ha C.hn C.ht C.hm) I.kIn J e (fun z => nomatch z) fun tk => ⟨.bl b, H, I.kept (t' := tk) fun _ _ z => z, rfl, q⟩
end OA

/-! OD: names of readings, statements by data -/
namespace OA
open PySem PySem.Spec PyProof.Rows L2 Evl
open PySem.W (Datum Tup T3 DatumOrd)

/-- where the classes and tables of the program stand -/
structure Ads where
  NestError : Addr := 0
  BadOrder : Addr := 0
  BadBook : Addr := 0
  Unlike : Addr := 0
  BadRule : Addr := 0
  BadNumber : Addr := 0
  BadWeights : Addr := 0
  BadText : Addr := 0
  Rooms : Addr := 0
  Joiner : Addr := 0
  Ruler : Addr := 0
  Scale : Addr := 0
  WORDS : Addr := 0
  SIZES : Addr := 0

abbrev rAddI : R2 := rI0 fun i j => .int (i + j)
abbrev rSubI : R2 := rI0 fun i j => .int (i - j)
abbrev rMulI : R2 := rI CMul fun i j => .int (i * j)
abbrev rDivI : R2 := rI CDiv fun i j => .int (i / j)
abbrev rModI : R2 := rI (fun _ j => 0 < j) fun i j => .int (i % j)
abbrev rLtI : R2 := rI0 fun i j => .bl (decide (i < j))
abbrev rLeI : R2 := rI0 fun i j => .bl (decide (i ≤ j))
abbrev rGtI : R2 := rI0 fun i j => .bl (decide (j < i))
abbrev rGeI : R2 := rI0 fun i j => .bl (decide (j ≤ i))
def rIsNn : R2 := fun x y H Q => y = .non ∧ Q (.bl (decide (x = .non))) H
def rIsNotNn : R2 := fun x y H Q => y = .non ∧ Q (.bl (!decide (x = .non))) H
theorem op_isNn {X : Cx} : OpR X (compareOp .Is) rIsNn := op_isN
theorem op_isNotNn {X : Cx} : OpR X (compareOp .IsNot) rIsNotNn := op_notN
def rAddS : R2 := fun x y H Q => ∃ i j, x = .str i ∧ y = .str j ∧ i.length + j.length ≤ sizeLine ∧ Q (.str (i ++ j)) H
theorem op_addS {X : Cx} : OpR X (binaryOp .Add) rAddS := op_add_str
def rInRg : R2 := fun x y H Q => ∃ i a lo hi, x = V.int i ∧ y = V.ref a ∧ H a = some (.rng lo hi) ∧ Q (.bl (decide (lo ≤ i ∧ i < hi))) H
theorem op_inRg {X : Cx} : OpR X (compareOp .In) rInRg := op_in_rng
def rRange2 : List V → Hp → VK → Prop := fun vs H Q => ∃ i j, vs = [V.int i, V.int j] ∧ ∀ p, H p = none → Q (.ref p) (upd H p (.rng i j))
def tTruQ (K : PySem.W.Frag) (ta : TE) : TT := fun σ H Q => ta σ H fun x H' => ∃ k, TruV K x H' k ∧ Q k H'
def tRs (W : WX) (C : Addr) : TS := fun _ σ H => W (.ref C) none σ H
abbrev W0 : WX := fun _ _ _ _ => False
theorem pe_globI {X : Cx} {x : Str} {n : Int} {pos : Pos} (hm : ∃ t, X.mg x = some (.int n t)) (hg : Gl X x := by rfl) (hd : (x == ("__debug__" : Str)) = false := by decide) : PE X (.Name x pos) (tC (.int n)) := by
  obtain ⟨t, h⟩ := hm
  exact pe_glob hg h ⟨t, rfl⟩ hd
/-- a promise of n arguments -/
def Spn (n : Nat) (b : Sp) : Sp := fun vs H Q E => vs.length = n ∧ b vs H Q E

/-! isinstance: of a kept error, or of a plain value -/
def rIsA (K : PySem.W.Frag) : List V → Hp → VK → Prop := fun vs H Q => rIsK K vs H Q ∨ rIsi K vs H Q
theorem call_isA {X : Cx} : CallR X (.builtin "isinstance") (rIsA X.K) := call_isK.or call_isi
theorem tyx_t {K : PySem.W.Frag} {H : Hp} {a : Addr} {xs : List V} (h : SqT K H a xs) : TyX K H (.ref a) (.type "tuple") := by
  rcases h with (h | ⟨o, h⟩) | ⟨o, _, _, h, hc, _⟩
  · exact .base (.tup h)
  · exact .fTuple h
  · exact .kTuple h hc
theorem tyx_l {K : PySem.W.Frag} {H : Hp} {a : Addr} {xs : List V} (h : SqL K H a xs) : TyX K H (.ref a) (.type "list") := by
  rcases h with (h | ⟨o, h⟩) | ⟨o, _, _, h, hc, _⟩
  · exact .base (.lst h)
  · exact .base (.frz h)
  · exact .kList h hc
/-- what is known of an error class D whose place among the law's seven is j -/
structure KeptT (K : PySem.W.Frag) (A : Ads) (D : Addr) (j : Nat) : Prop where
  ec : ExcC K D
  em : PySem.W.exmOne K (.ref D) (.ref A.NestError) = some true
  k0 : PySem.W.kitOne K (.ref D) (.ref A.BadBook) = some (decide (j = 0))
  k1 : PySem.W.kitOne K (.ref D) (.ref A.BadNumber) = some (decide (j = 1))
  k2 : PySem.W.kitOne K (.ref D) (.ref A.BadOrder) = some (decide (j = 2))
  k3 : PySem.W.kitOne K (.ref D) (.ref A.BadRule) = some (decide (j = 3))
  k4 : PySem.W.kitOne K (.ref D) (.ref A.BadText) = some (decide (j = 4))
  k5 : PySem.W.kitOne K (.ref D) (.ref A.BadWeights) = some (decide (j = 5))
  k6 : PySem.W.kitOne K (.ref D) (.ref A.Unlike) = some (decide (j = 6))
  kv : PySem.W.kitOne K (.ref D) (.type "ValueError") = some true

/-! list.index, list.count of data -/
def rIndexP (K : PySem.W.Frag) : V → List V → Hp → VK → Prop := fun v vs H Q => ∃ (α : Type) (_ : DecidableEq α) (_ : Datum α) (a : Addr) (w : V) (xs : List α) (x : α),
  v = .ref a ∧ vs = [w] ∧ Hd K H (.ref a) xs ∧ Hd K H w x ∧ x ∈ xs ∧ Datum.depth α ≤ 32 ∧ Q (.int (xs.idxOf x : Nat)) H
theorem mt_indexP {X : Cx} (hu : X.A.units + 64 < cLine) : MtR X "list.index" (rIndexP X.K) := by
  intro pins s σ H x xs v us Q I rx rs h
  obtain ⟨α, i1, i2, a, w, ys, y, rfl, rfl, hl, hw, hm, hz, q⟩ := h
  cases rx
  obtain ⟨u, rfl, ru⟩ := vals1 rs
  obtain ⟨b, ws, e, hs, hd⟩ := hd_list hl
  cases e
  obtain ⟨its, rv, pl, hz2⟩ := I.list hs
  refine PySem.W.index_list_datum (α := α) (x := y) (xs := ys) (vs := its) pl.isList (hds_holds I hd rv) (hd_holds I hw ru) (by omega) (by rw [← hds_len hd]; exact hz2) hm ?_
  exact ⟨.int _, H, I.tok _, ⟨_, rfl⟩, q⟩
def rCountP (K : PySem.W.Frag) : V → List V → Hp → VK → Prop := fun v vs H Q => ∃ (α : Type) (_ : DecidableEq α) (_ : Datum α) (a : Addr) (w : V) (xs : List α) (x : α),
  v = .ref a ∧ vs = [w] ∧ Hd K H (.ref a) xs ∧ Hd K H w x ∧ Datum.depth α ≤ 32 ∧ Q (.int ((xs.countP fun y => decide (y = x) : Nat) : Int)) H
theorem mt_countP {X : Cx} (hu : X.A.units + 64 < cLine) : MtR X "list.count" (rCountP X.K) := by
  intro pins s σ H x xs v us Q I rx rs h
  obtain ⟨α, i1, i2, a, w, ys, y, rfl, rfl, hl, hw, hz, q⟩ := h
  cases rx
  obtain ⟨u, rfl, ru⟩ := vals1 rs
  obtain ⟨b, ws, e, hs, hd⟩ := hd_list hl
  cases e
  obtain ⟨its, rv, pl, hz2⟩ := I.list hs
  refine PySem.W.count_list_datum (α := α) (x := y) (xs := ys) (vs := its.toArray) pl.isList (by rw [List.toList_toArray]; exact hds_holds I hd rv) (hd_holds I hw ru) (by omega) ?_
  exact ⟨.int _, H, I.tok _, ⟨_, rfl⟩, q⟩

section st
variable {α β γ δ ε ζ : Type} [DecidableEq α] [Datum α] [DecidableEq β] [Datum β] [DecidableEq γ] [Datum γ] [DecidableEq δ] [Datum δ] [DecidableEq ε] [Datum ε] [DecidableEq ζ] [Datum ζ]
  {K : PySem.W.Frag} {σ : L2.St} {H H' : Hp} {ta tb te tx ty tz' : TE} {t u : TT} {v : V} {D : Ends} {tz tu tw : TS} {sp : Sp} {E : L2.St → XK}
/-! ### statements by data; q_: something behind -/
theorem sd_asg {i : Nat} {x : α} (h : EvD K te σ H x) (k : ∀ v H1, Ex H H1 → Hd K H1 v x → D.nx (σ.set i (some v)) H1) : tAsg te (gName i) D σ H := h H (Ex.refl H) _ k
theorem qd_asg {i : Nat} {x : α} (h : EvD K te σ H x) (k : ∀ v H1, Ex H H1 → Hd K H1 v x → tz D (σ.set i (some v)) H1) : tSeq (tAsg te (gName i)) tz D σ H := h H (Ex.refl H) _ k
theorem sn_asg {i : Nat} {xs : List α} (h : EvN K te σ H xs) (k : ∀ p vs H1, H p = none → Ex H H1 → H1 p = some (.lst vs) → Hds K H1 vs xs → D.nx (σ.set i (some (.ref p))) H1) : tAsg te (gName i) D σ H := h H (Ex.refl H) _ k
theorem qn_asg {i : Nat} {xs : List α} (h : EvN K te σ H xs) (k : ∀ p vs H1, H p = none → Ex H H1 → H1 p = some (.lst vs) → Hds K H1 vs xs → tz D (σ.set i (some (.ref p))) H1) : tSeq (tAsg te (gName i)) tz D σ H := h H (Ex.refl H) _ k
theorem sd_ret {x : α} (h : EvD K te σ H x) (k : ∀ v H1, Ex H H1 → Hd K H1 v x → D.rt v H1) : tRet te D σ H := h H (Ex.refl H) _ k
theorem sn_ret {xs : List α} (h : EvN K te σ H xs) (k : ∀ p vs H1, H p = none → Ex H H1 → H1 p = some (.lst vs) → Hds K H1 vs xs → D.rt (.ref p) H1) : tRet te D σ H := h H (Ex.refl H) _ k
theorem s_rets {v : V} (h : Ev te σ H v) (k : ∀ H1, Ex H H1 → D.rt v H1) : tRet te D σ H := h H (Ex.refl H) _ k
/-! calls -/
theorem cl1 {x : α} {R : VK} (h : EvD K ta σ H x) (k : ∀ v H1, Ex H H1 → Hd K H1 v x → sp [v] H1 R (E σ)) : tCallS sp E (tCons ta tNil) σ H R := h H (Ex.refl H) _ k
theorem cl2 {x : α} {y : β} {R : VK} (h : EvD K ta σ H x) (h2 : EvD K tb σ H y) (k : ∀ v v2 H1, Ex H H1 → Hd K H1 v x → Hd K H1 v2 y → sp [v, v2] H1 R (E σ)) : tCallS sp E (tCons ta (tCons tb tNil)) σ H R :=
  h H (Ex.refl H) _ fun v H1 e1 d1 => h2 H1 e1 _ fun v2 H2 e2 d2 => k v v2 H2 (e1.trans e2) (hd_ex e2 d1) d2
theorem cl3 {x : α} {y : β} {z : γ} {R : VK} (h : EvD K ta σ H x) (h2 : EvD K tb σ H y) (h3 : EvD K tx σ H z) (k : ∀ v v2 v3 H1, Ex H H1 → Hd K H1 v x → Hd K H1 v2 y → Hd K H1 v3 z → sp [v, v2, v3] H1 R (E σ)) : tCallS sp E (tCons ta (tCons tb (tCons tx tNil))) σ H R :=
  h H (Ex.refl H) _ fun v H1 e1 d1 => h2 H1 e1 _ fun v2 H2 e2 d2 => h3 H2 (e1.trans e2) _ fun v3 H3 e3 d3 => k v v2 v3 H3 ((e1.trans e2).trans e3) (hd_ex (e2.trans e3) d1) (hd_ex e3 d2) d3
theorem cl4 {x : α} {y : β} {z : γ} {a : δ} {R : VK} (h : EvD K ta σ H x) (h2 : EvD K tb σ H y) (h3 : EvD K tx σ H z) (h4 : EvD K ty σ H a) (k : ∀ v v2 v3 v4 H1, Ex H H1 → Hd K H1 v x → Hd K H1 v2 y → Hd K H1 v3 z → Hd K H1 v4 a → sp [v, v2, v3, v4] H1 R (E σ)) :
    tCallS sp E (tCons ta (tCons tb (tCons tx (tCons ty tNil)))) σ H R :=
  h H (Ex.refl H) _ fun v H1 e1 d1 => h2 H1 e1 _ fun v2 H2 e2 d2 => h3 H2 (e1.trans e2) _ fun v3 H3 e3 d3 => h4 H3 ((e1.trans e2).trans e3) _ fun v4 H4 e4 d4 => k v v2 v3 v4 H4 (((e1.trans e2).trans e3).trans e4) (hd_ex ((e2.trans e3).trans e4) d1) (hd_ex (e3.trans e4) d2) (hd_ex e4 d3) d4
/-- a call as data -/
theorem ed_cl1 {x : α} {z : ζ} (h : EvD K ta σ H x) (k : ∀ v H1, Ex H H1 → Hd K H1 v x → ∀ (Q : VK) (E : XK), (∀ v H2, Ex H1 H2 → Hd K H2 v z → Q v H2) → sp [v] H1 Q E) : EvD K (tCallS sp E (tCons ta tNil)) σ H z := fun H1 e Q q =>
  h H1 e _ fun v H2 e2 d => k v H2 (e.trans e2) d Q _ fun w H3 e3 d3 => q w H3 (e2.trans e3) d3
theorem ed_cl2 {x : α} {y : β} {z : ζ} (h : EvD K ta σ H x) (h2 : EvD K tb σ H y) (k : ∀ v v2 H1, Ex H H1 → Hd K H1 v x → Hd K H1 v2 y → ∀ (Q : VK) (E : XK), (∀ v H2, Ex H1 H2 → Hd K H2 v z → Q v H2) → sp [v, v2] H1 Q E) : EvD K (tCallS sp E (tCons ta (tCons tb tNil))) σ H z := fun H1 e Q q =>
  h H1 e _ fun v H2 e2 d => h2 H2 (e.trans e2) _ fun v2 H3 e3 d2 => k v v2 H3 ((e.trans e2).trans e3) (hd_ex e3 d) d2 Q _ fun w H4 e4 d4 => q w H4 ((e2.trans e3).trans e4) d4
theorem ed_cl3 {x : α} {y : β} {a : γ} {z : ζ} (h : EvD K ta σ H x) (h2 : EvD K tb σ H y) (h3 : EvD K tx σ H a) (k : ∀ v v2 v3 H1, Ex H H1 → Hd K H1 v x → Hd K H1 v2 y → Hd K H1 v3 a → ∀ (Q : VK) (E : XK), (∀ v H2, Ex H1 H2 → Hd K H2 v z → Q v H2) → sp [v, v2, v3] H1 Q E) :
    EvD K (tCallS sp E (tCons ta (tCons tb (tCons tx tNil)))) σ H z := fun H1 e Q q =>
  h H1 e _ fun v H2 e2 d => h2 H2 (e.trans e2) _ fun v2 H3 e3 d2 => h3 H3 ((e.trans e2).trans e3) _ fun v3 H4 e4 d3 => k v v2 v3 H4 (((e.trans e2).trans e3).trans e4) (hd_ex (e3.trans e4) d) (hd_ex e4 d2) d3 Q _ fun w H5 e5 d5 => q w H5 (((e2.trans e3).trans e4).trans e5) d5
theorem ed_cl4 {x : α} {y : β} {a : γ} {b : δ} {z : ζ} (h : EvD K ta σ H x) (h2 : EvD K tb σ H y) (h3 : EvD K tx σ H a) (h4 : EvD K ty σ H b) (k : ∀ v v2 v3 v4 H1, Ex H H1 → Hd K H1 v x → Hd K H1 v2 y → Hd K H1 v3 a → Hd K H1 v4 b → ∀ (Q : VK) (E : XK), (∀ v H2, Ex H1 H2 → Hd K H2 v z → Q v H2) → sp [v, v2, v3, v4] H1 Q E) :
    EvD K (tCallS sp E (tCons ta (tCons tb (tCons tx (tCons ty tNil))))) σ H z := fun H1 e Q q =>
  h H1 e _ fun v H2 e2 d => h2 H2 (e.trans e2) _ fun v2 H3 e3 d2 => h3 H3 ((e.trans e2).trans e3) _ fun v3 H4 e4 d3 => h4 H4 (((e.trans e2).trans e3).trans e4) _ fun v4 H5 e5 d4 =>
    k v v2 v3 v4 H5 ((((e.trans e2).trans e3).trans e4).trans e5) (hd_ex ((e3.trans e4).trans e5) d) (hd_ex (e4.trans e5) d2) (hd_ex e5 d3) d4 Q _ fun w H6 e6 d6 => q w H6 ((((e2.trans e3).trans e4).trans e5).trans e6) d6
/-- .. as a new list -/
theorem en_cl1 {x : α} {zs : List ζ} (h : EvD K ta σ H x) (k : ∀ v H1, Ex H H1 → Hd K H1 v x → ∀ (Q : VK) (E : XK), (∀ p vs H2, H1 p = none → Ex H1 H2 → H2 p = some (.lst vs) → Hds K H2 vs zs → Q (.ref p) H2) → sp [v] H1 Q E) : EvN K (tCallS sp E (tCons ta tNil)) σ H zs := fun H1 e Q q =>
  h H1 e _ fun v H2 e2 d => k v H2 (e.trans e2) d Q _ fun p vs H3 hp e3 h3 d3 => q p vs H3 (fresh_back e2 hp) (e2.trans e3) h3 d3
theorem en_cl2 {x : α} {y : β} {zs : List ζ} (h : EvD K ta σ H x) (h2 : EvD K tb σ H y) (k : ∀ v v2 H1, Ex H H1 → Hd K H1 v x → Hd K H1 v2 y → ∀ (Q : VK) (E : XK), (∀ p vs H2, H1 p = none → Ex H1 H2 → H2 p = some (.lst vs) → Hds K H2 vs zs → Q (.ref p) H2) → sp [v, v2] H1 Q E) : EvN K (tCallS sp E (tCons ta (tCons tb tNil))) σ H zs := fun H1 e Q q =>
  h H1 e _ fun v H2 e2 d => h2 H2 (e.trans e2) _ fun v2 H3 e3 d2 => k v v2 H3 ((e.trans e2).trans e3) (hd_ex e3 d) d2 Q _ fun p vs H4 hp e4 h4 d4 => q p vs H4 (fresh_back (e2.trans e3) hp) ((e2.trans e3).trans e4) h4 d4
theorem en_cl3 {x : α} {y : β} {a : γ} {zs : List ζ} (h : EvD K ta σ H x) (h2 : EvD K tb σ H y) (h3 : EvD K tx σ H a) (k : ∀ v v2 v3 H1, Ex H H1 → Hd K H1 v x → Hd K H1 v2 y → Hd K H1 v3 a → ∀ (Q : VK) (E : XK), (∀ p vs H2, H1 p = none → Ex H1 H2 → H2 p = some (.lst vs) → Hds K H2 vs zs → Q (.ref p) H2) → sp [v, v2, v3] H1 Q E) :
    EvN K (tCallS sp E (tCons ta (tCons tb (tCons tx tNil)))) σ H zs := fun H1 e Q q =>
  h H1 e _ fun v H2 e2 d => h2 H2 (e.trans e2) _ fun v2 H3 e3 d2 => h3 H3 ((e.trans e2).trans e3) _ fun v3 H4 e4 d3 => k v v2 v3 H4 (((e.trans e2).trans e3).trans e4) (hd_ex (e3.trans e4) d) (hd_ex e4 d2) d3 Q _ fun p vs H5 hp e5 h5 d5 => q p vs H5 (fresh_back ((e2.trans e3).trans e4) hp) (((e2.trans e3).trans e4).trans e5) h5 d5
/-! ints -/
theorem ei_add {i j : Int} (ha : Ev ta σ H (.int i)) (hb : Ev tb σ H (.int j)) : Ev (tOp rAddI ta tb) σ H (.int (i + j)) := ev_op ha hb rv_I0
theorem ei_sub {i j : Int} (ha : Ev ta σ H (.int i)) (hb : Ev tb σ H (.int j)) : Ev (tOp rSubI ta tb) σ H (.int (i - j)) := ev_op ha hb rv_I0
theorem ei_mul {i j : Int} (ha : Ev ta σ H (.int i)) (hb : Ev tb σ H (.int j)) (hc : CMul i j) : Ev (tOp rMulI ta tb) σ H (.int (i * j)) := ev_op ha hb (rv_I hc)
theorem ei_div {i j : Int} (ha : Ev ta σ H (.int i)) (hb : Ev tb σ H (.int j)) (hc : CDiv i j) : Ev (tOp rDivI ta tb) σ H (.int (i / j)) := ev_op ha hb (rv_I hc)
theorem ei_mod {i j : Int} (ha : Ev ta σ H (.int i)) (hb : Ev tb σ H (.int j)) (hc : 0 < j) : Ev (tOp rModI ta tb) σ H (.int (i % j)) := ev_op ha hb (rv_I (C := fun _ j => 0 < j) hc)
theorem ei_lt {i j : Int} (ha : Ev ta σ H (.int i)) (hb : Ev tb σ H (.int j)) : Ev (tOp rLtI ta tb) σ H (.bl (decide (i < j))) := ev_op ha hb rv_I0
theorem ei_le {i j : Int} (ha : Ev ta σ H (.int i)) (hb : Ev tb σ H (.int j)) : Ev (tOp rLeI ta tb) σ H (.bl (decide (i ≤ j))) := ev_op ha hb rv_I0
theorem ei_gt {i j : Int} (ha : Ev ta σ H (.int i)) (hb : Ev tb σ H (.int j)) : Ev (tOp rGtI ta tb) σ H (.bl (decide (j < i))) := ev_op ha hb rv_I0
theorem ei_ge {i j : Int} (ha : Ev ta σ H (.int i)) (hb : Ev tb σ H (.int j)) : Ev (tOp rGeI ta tb) σ H (.bl (decide (j ≤ i))) := ev_op ha hb rv_I0
theorem ei_neg {i : Int} (ha : Ev ta σ H (.int i)) : Ev (tUn (rU fun i => .int (-i)) ta) σ H (.int (-i)) := ev_un ha ru_neg
theorem et_t {b : Bool} (h : Ev te σ H (.bl b)) : EvT (tTest te) σ H b := et_test h
/-- a < b < c of ints -/
theorem ev_chain {r r' : R2} {a b c : Int} {p q : Bool} (ha : Ev ta σ H (.int a)) (hb : Ev tb σ H (.int b)) (hc : Ev tx σ H (.int c)) (h1 : RV r (.int a) (.int b) H (.bl p)) (h2 : RV r' (.int b) (.int c) H (.bl q)) : Ev (tChain r r' ta tb tx) σ H (.bl (p && q)) := fun H1 e Q k =>
  ha H1 e _ fun H2 e2 => hb H2 (e.trans e2) _ fun H3 e3 => h1 H3 ((e.trans e2).trans e3) _ fun H4 e4 => ⟨p, rfl, by
    cases p with
    | true =>
      show tx σ H4 fun w' H5 => r' (.int b) w' H5 Q
      exact hc H4 (((e.trans e2).trans e3).trans e4) _ fun H5 e5 => h2 H5 ((((e.trans e2).trans e3).trans e4).trans e5) Q fun H6 e6 => k H6 ((((e2.trans e3).trans e4).trans e5).trans e6)
    | false =>
      show Q (.bl false) H4
      exact k H4 ((e2.trans e3).trans e4)⟩
theorem ec_lele {a b c : Int} (ha : Ev ta σ H (.int a)) (hb : Ev tb σ H (.int b)) (hc : Ev tx σ H (.int c)) : Ev (tChain rLeI rLeI ta tb tx) σ H (.bl (decide (a ≤ b) && decide (b ≤ c))) := ev_chain ha hb hc rv_I0 rv_I0
theorem ec_lelt {a b c : Int} (ha : Ev ta σ H (.int a)) (hb : Ev tb σ H (.int b)) (hc : Ev tx σ H (.int c)) : Ev (tChain rLeI rLtI ta tb tx) σ H (.bl (decide (a ≤ b) && decide (b < c))) := ev_chain ha hb hc rv_I0 rv_I0
/-- truth of a list, a tuple -/
theorem et_truL {xs : List α} (h : EvD K te σ H xs) : EvT (tTruQ K te) σ H (!xs.isEmpty) := fun H1 e Q q => h H1 e _ fun v H2 e2 hv => by
  obtain ⟨a, vs, rfl, hs, hd⟩ := hd_list hv
  have l := hds_len hd
  refine ⟨!xs.isEmpty, .inl ⟨vs, hs, ?_⟩, q H2 e2⟩
  cases xs with
  | nil => rw [hds_inv0 hd]; rfl
  | cons x xs =>
    obtain ⟨v, r, rfl, _⟩ := hds_inv hd
    rfl
/-- x is None -/
theorem ev_isN {x : V} (h : Ev te σ H x) : Ev (tOp rIsNn te (tC .non)) σ H (.bl (decide (x = .non))) := ev_op h ev_c fun H1 _ Q q => ⟨rfl, q H1 (Ex.refl H1)⟩
theorem ev_isNotN {x : V} (h : Ev te σ H x) : Ev (tOp rIsNotNn te (tC .non)) σ H (.bl (!decide (x = .non))) := ev_op h ev_c fun H1 _ Q q => ⟨rfl, q H1 (Ex.refl H1)⟩
/-- list + list -/
theorem en_cat {xs ys : List α} (ha : EvN K ta σ H xs) (hb : EvN K tb σ H ys) (hz : xs.length + ys.length ≤ 100000) : EvN K (tOp rCat ta tb) σ H (xs ++ ys) := fun H1 e Q q =>
  ha H1 e _ fun p vs H2 hp e2 h2 d2 => hb H2 (e.trans e2) _ fun p' ws H3 hp' e3 h3 d3 => ⟨p, p', vs, ws, rfl, rfl, e3 p _ h2, h3, sz_of (by rw [hds_len d2, hds_len d3]; exact hz), fun r hr =>
    q r _ _ (fresh_back (e2.trans e3) hr) ((e2.trans e3).trans (Ex.new hr)) upd_same (hds_app (hds_ex (e3.trans (Ex.new hr)) d2) (hds_ex (Ex.new hr) d3))⟩
/-- the left one a name that holds a list of ours -/
theorem en_cat1 {xs ys : List α} {p : Addr} {vs : List V} (ha : Ev ta σ H (.ref p)) (hp : H p = some (.lst vs)) (hd : Hds K H vs xs) (hb : EvN K tb σ H ys) (hz : xs.length + ys.length ≤ 100000) : EvN K (tOp rCat ta tb) σ H (xs ++ ys) := fun H1 e Q q =>
  ha H1 e _ fun H2 e2 => hb H2 (e.trans e2) _ fun p' ws H3 hp' e3 h3 d3 => ⟨p, p', vs, ws, rfl, rfl, e3 p _ (e2 p _ (e p _ hp)), h3, sz_of (by rw [hds_len hd, hds_len d3]; exact hz), fun r hr =>
    q r _ _ (fresh_back (e2.trans e3) hr) ((e2.trans e3).trans (Ex.new hr)) upd_same (hds_app (hds_ex (((e.trans e2).trans e3).trans (Ex.new hr)) hd) (hds_ex (Ex.new hr) d3))⟩
theorem en_cat2 {xs ys : List α} {p p' : Addr} {vs ws : List V} (ha : Ev ta σ H (.ref p)) (hp : H p = some (.lst vs)) (hd : Hds K H vs xs) (hb : Ev tb σ H (.ref p')) (hp' : H p' = some (.lst ws)) (hd' : Hds K H ws ys) (hz : xs.length + ys.length ≤ 100000) : EvN K (tOp rCat ta tb) σ H (xs ++ ys) := fun H1 e Q q =>
  ha H1 e _ fun H2 e2 => hb H2 (e.trans e2) _ fun H3 e3 => ⟨p, p', vs, ws, rfl, rfl, e3 p _ (e2 p _ (e p _ hp)), e3 p' _ (e2 p' _ (e p' _ hp')), sz_of (by rw [hds_len hd, hds_len hd']; exact hz), fun r hr =>
    q r _ _ (fresh_back (e2.trans e3) hr) ((e2.trans e3).trans (Ex.new hr)) upd_same (hds_app (hds_ex (((e.trans e2).trans e3).trans (Ex.new hr)) hd) (hds_ex (((e.trans e2).trans e3).trans (Ex.new hr)) hd'))⟩
/-- isinstance of plain data -/
theorem ev_isi {x : α} {T S : String} {b : Bool} (h : EvD K te σ H x) (ht : ∀ v H1, Hd K H1 v x → TyX K H1 v (.type T)) (hb : kitB T S = some b) : Ev (tCB (rIsA K) (tCons te (tCons (tC (.ty S)) tNil))) σ H (.bl b) := fun H1 e Q q =>
  h H1 e _ fun v H2 e2 hv => .inr ⟨v, .ty S, .type T, .type S, b, rfl, .ty S, ht v H2 hv, kit_ty hb, q H2 e2⟩
theorem ty_int {n : Int} {v : V} {H1 : Hp} (h : Hd K H1 v n) : TyX K H1 v (.type "int") := by rw [hd_int h]; exact .base (.int n)
theorem ty_bool {n : Bool} {v : V} {H1 : Hp} (h : Hd K H1 v n) : TyX K H1 v (.type "bool") := by rw [hd_bool h]; exact .base (.bl n)
theorem ty_tup {xs : List α} {v : V} {H1 : Hp} (h : Hd K H1 v (Tup.mk xs)) : TyX K H1 v (.type "tuple") := by
  obtain ⟨a, vs, rfl, hs, _⟩ := hd_tup h
  exact tyx_t hs.t
theorem ty_list {xs : List α} {v : V} {H1 : Hp} (h : Hd K H1 v xs) : TyX K H1 v (.type "list") := by
  obtain ⟨a, vs, rfl, hs, _⟩ := hd_list h
  exact tyx_l hs
theorem ty_t3 {x : α} {y : β} {z : γ} {v : V} {H1 : Hp} (h : Hd K H1 v (T3.mk x y z)) : TyX K H1 v (.type "tuple") := by
  obtain ⟨a, _, _, _, rfl, hs, _⟩ := hd_t3 h
  exact tyx_t hs.t
/-- isinstance of a kept error -/
theorem ev_isk {a D C : Addr} {b : Bool} (h : Ev te σ H (.ref a)) (ha : H a = some (ExK (.ref D) a)) (ec : ExcC K D) (hb : PySem.W.kitOne K (.ref D) (.ref C) = some b) : Ev (tCB (rIsA K) (tCons te (tCons (tC (.ref C)) tNil))) σ H (.bl b) := fun H1 e Q q =>
  h H1 e _ fun H2 e2 => .inl ⟨a, D, .ref C, .ref C, b, rfl, e2 a _ (e a _ ha), ec, fun _ r => r, hb, q H2 e2⟩
theorem ev_iskT {a D : Addr} {T : String} {b : Bool} (h : Ev te σ H (.ref a)) (ha : H a = some (ExK (.ref D) a)) (ec : ExcC K D) (hb : PySem.W.kitOne K (.ref D) (.type T) = some b) : Ev (tCB (rIsA K) (tCons te (tCons (tC (.ty T)) tNil))) σ H (.bl b) := fun H1 e Q q =>
  h H1 e _ fun H2 e2 => .inl ⟨a, D, .ty T, .type T, b, rfl, e2 a _ (e a _ ha), ec, fun _ r => r, hb, q H2 e2⟩
/-- x.index(y), y in the list; x.count(y) -/
theorem ev_index {xs : List α} {x : α} {l : Addr} {vs : List V} (ha : Ev ta σ H (.ref l)) (hl : H l = some (.lst vs)) (hd : Hds K H vs xs) (h : EvD K te σ H x) (hm : x ∈ xs) (hz : Datum.depth α ≤ 32 := by decide) : Ev (tBM K "list" (rIndexP K) ta (tCons te tNil)) σ H (.int (xs.idxOf x : Nat)) := fun H1 e Q q =>
  ha H1 e _ fun H2 e2 => ⟨.inl ⟨rfl, vs, sq_of (e2 l _ (e l _ hl))⟩, h H2 (e.trans e2) _ fun v H3 e3 hv => ⟨α, _, _, l, v, xs, x, rfl, rfl, of_list (sq_of (e3 l _ (e2 l _ (e l _ hl)))) (hds_ex ((e.trans e2).trans e3) hd), hv, hm, hz, q H3 (e2.trans e3)⟩⟩
theorem ev_count {xs : List α} {x : α} {l : Addr} {vs : List V} (ha : Ev ta σ H (.ref l)) (hl : H l = some (.lst vs)) (hd : Hds K H vs xs) (h : EvD K te σ H x) (hz : Datum.depth α ≤ 32 := by decide) : Ev (tBM K "list" (rCountP K) ta (tCons te tNil)) σ H (.int ((xs.countP fun y => decide (y = x) : Nat) : Int)) := fun H1 e Q q =>
  ha H1 e _ fun H2 e2 => ⟨.inl ⟨rfl, vs, sq_of (e2 l _ (e l _ hl))⟩, h H2 (e.trans e2) _ fun v H3 e3 hv => ⟨α, _, _, l, v, xs, x, rfl, rfl, of_list (sq_of (e3 l _ (e2 l _ (e l _ hl)))) (hds_ex ((e.trans e2).trans e3) hd), hv, hz, q H3 (e2.trans e3)⟩⟩
/-- t.index(n) -/
theorem ev_tidx {ns : List Int} {n : Int} (ha : EvD K ta σ H (Tup.mk ns)) (h : Ev te σ H (.int n)) (hm : n ∈ ns) : Ev (tBMP K (rTIdxI K) ta (tCons te tNil)) σ H (.int (ns.idxOf n : Nat)) := fun H1 e Q q =>
  ha H1 e _ fun v H2 e2 hv => by
    obtain ⟨a, vs, rfl, hs, hd⟩ := hd_tup hv
    exact ⟨⟨a, vs, rfl, hs⟩, h H2 (e.trans e2) _ fun H3 e3 => ⟨a, ns, n, rfl, rfl, by rw [← hds_ints hd]; exact ex_t e3 hs.t, hm, q H3 (e2.trans e3)⟩⟩
/-- all of bools -/
theorem ev_all {bs : List Bool} (h : EvD K te σ H bs) : Ev (tCB (rAll K) (tCons te tNil)) σ H (.bl (bs.all id)) := fun H1 e Q q => h H1 e _ fun v H2 e2 hv => by
  obtain ⟨a, vs, rfl, hs, hd⟩ := hd_list hv
  exact ⟨a, bs, rfl, by rw [← hds_bools hd]; exact hs, q H2 e2⟩
theorem ev_sum {ns : List Int} (h : EvD K te σ H ns) : Ev (tCB (rSum K) (tCons te tNil)) σ H (.int ns.sum) := fun H1 e Q q => h H1 e _ fun v H2 e2 hv => by
  obtain ⟨a, vs, rfl, hs, hd⟩ := hd_list hv
  exact ⟨a, ns, rfl, by rw [← hds_ints hd]; exact hs, q H2 e2⟩
/-- x in range(a, b) -/
theorem ev_inRg {i a b : Int} (h : Ev te σ H (.int i)) (ha : Ev ta σ H (.int a)) (hb : Ev tb σ H (.int b)) : Ev (tOp rInRg te (tCB rRange2 (tCons ta (tCons tb tNil)))) σ H (.bl (decide (a ≤ i ∧ i < b))) := fun H1 e Q q =>
  h H1 e _ fun H2 e2 => ha H2 (e.trans e2) _ fun H3 e3 => hb H3 ((e.trans e2).trans e3) _ fun H4 e4 => ⟨a, b, rfl, fun p hp => ⟨i, p, a, b, rfl, rfl, upd_same, q _ (((e2.trans e3).trans e4).trans (Ex.new hp))⟩⟩
/-- xs[::-1] -/
theorem en_rev {xs : List α} (h : EvD K te σ H xs) : EvN K (tRevL K te) σ H xs.reverse := fun H1 e Q q => h H1 e _ fun v H2 e2 hv => by
  obtain ⟨a, vs, rfl, hs, hd⟩ := hd_list hv
  exact ⟨a, vs, rfl, hs, fun p hp => q p _ _ (fresh_back e2 hp) (e2.trans (Ex.new hp)) upd_same (hds_ex (Ex.new hp) (hds_rev hd))⟩
end st
end OA

/-! OE: orders -/
namespace OA
open PySem PySem.Spec PyProof.Rows L2 Evl
open PySem.W (Datum Tup T3 DatumOrd)

/-! ### mathematics -/
theorem upTo_len (n : Nat) : (upTo n).length = n := by unfold upTo; rw [List.length_map, List.length_range]
theorem upTo_get {n i : Nat} (h : i < n) : (upTo n)[i]? = some (i : Int) := by
  unfold upTo
  rw [List.getElem?_map, List.getElem?_range h]
  rfl
theorem mem_upTo {n : Nat} {x : Int} : x ∈ upTo n ↔ 0 ≤ x ∧ x < n := by
  unfold upTo
  rw [List.mem_map]
  constructor
  · rintro ⟨i, hi, rfl⟩
    have := List.mem_range.mp hi
    omega
  · intro h
    exact ⟨x.toNat, List.mem_range.mpr (by omega), by omega⟩
theorem upTo_nodup (n : Nat) : (upTo n).Nodup := by
  unfold upTo
  exact List.Pairwise.map _ (fun a b h e => h (by omega)) List.nodup_range
/-- an order of n things -/
def IsOrd (n : Int) (ns : List Int) : Prop := 1 ≤ n ∧ n ≤ 8 ∧ sortI ns = upTo n.toNat
instance (n : Int) (ns : List Int) : Decidable (IsOrd n ns) := by unfold IsOrd; infer_instance
theorem IsOrd.perm {n : Int} {ns : List Int} (h : IsOrd n ns) : ns.Perm (upTo n.toNat) := by
  rw [← h.2.2]
  exact (sortI_perm ns).symm
theorem IsOrd.len {n : Int} {ns : List Int} (h : IsOrd n ns) : (ns.length : Int) = n := by
  have := h.perm.length_eq
  rw [upTo_len] at this
  have := h.1
  omega
theorem IsOrd.mem {n : Int} {ns : List Int} (h : IsOrd n ns) {x : Int} : x ∈ ns ↔ 0 ≤ x ∧ x < n := by
  rw [h.perm.mem_iff, mem_upTo]
  have := h.1
  omega
theorem IsOrd.nodup {n : Int} {ns : List Int} (h : IsOrd n ns) : ns.Nodup := h.perm.nodup_iff.mpr (upTo_nodup _)
theorem IsOrd.of_perm {n : Int} {ns : List Int} (h1 : 1 ≤ n) (h8 : n ≤ 8) (p : ns.Perm (upTo n.toNat)) : IsOrd n ns := by
  refine ⟨h1, h8, sort_one ((sortI_perm ns).trans p) (sortI_up ns) ?_⟩
  unfold upTo
  exact List.Pairwise.map _ (fun a b (h : a < b) => by show (a : Int) ≤ (b : Int); omega) List.pairwise_lt_range
def turnL (ns : List Int) : List Int := (upTo ns.length).map fun x => ((ns.idxOf x : Nat) : Int)
def behL (ns ms : List Int) : List Int := ns.map fun p => ms.getD p.toNat 0
def crossAt (ns : List Int) (k : Nat) : Int := (((ns.drop (k + 1)).filter fun t => decide (t < ns.getD k 0)).length : Nat)
def crossN (ns : List Int) (k : Nat) : Int := ((List.range k).map (crossAt ns)).sum
def crossL (ns : List Int) : Int := crossN ns ns.length
theorem crossN_succ (ns : List Int) (k : Nat) : crossN ns (k + 1) = crossN ns k + crossAt ns k := by
  unfold crossN
  rw [List.range_succ, List.map_append, List.sum_append, List.map_cons, List.map_nil, List.sum_cons, List.sum_nil, Int.add_zero]
theorem getD_get {ns : List Int} {i : Nat} (h : i < ns.length) : ns[i]? = some (ns.getD i 0) := by
  rw [List.getD_eq_getElem?_getD, List.getElem?_eq_getElem h]
  rfl
theorem sIx_from {n k : Nat} (h : k ≤ n) : HT.sIx n 0 (some (k : Int)) = k := by rw [HT.sIx_nat]; omega
theorem sIx_to {n k : Nat} (h : k ≤ n) : HT.sIx n n (some (k : Int)) = k := by rw [HT.sIx_nat]; omega
theorem cutA_from {α : Type} {xs : List α} {k : Nat} (h : k ≤ xs.length) : cutA xs (some (k : Int)) none = xs.drop k := by
  unfold cutA
  rw [sIx_from h, HT.sIx_none, List.take_of_length_le (by rw [List.length_drop]; exact Nat.le_refl _)]
theorem cutA_from1 {α : Type} {xs : List α} {k : Nat} (h : k < xs.length) : cutA xs (some ((k : Int) + 1)) none = xs.drop (k + 1) := cutA_from (xs := xs) (k := k + 1) h
theorem filt_true {α : Type} (xs : List α) : (xs.filter fun _ => true) = xs := List.filter_eq_self.mpr fun _ _ => rfl
theorem cutA_to {α : Type} {xs : List α} {k : Nat} (h : k ≤ xs.length) : cutA xs none (some (k : Int)) = xs.take k := by
  unfold cutA
  rw [sIx_to h, HT.sIx_none, List.drop_zero, Nat.sub_zero]

/-! ### promises -/
section
variable {K : PySem.W.Frag} {A : Ads} {vs : List V} {H : Hp} {Q : VK} {E : XK}
abbrev WXE (E : XK) : WX := fun cls d _ H' => E cls d H'
abbrev DQ (Q : VK) : Ends := { nx := fun _ H' => Q .non H', rt := Q }
theorem q_do {te : TE} {tz : TS} {D : Ends} {σ : L2.St} (h : te σ H fun _ H1 => tz D σ H1) : tSeq (tDrop te) tz D σ H := h
theorem s_do {te : TE} {D : Ends} {σ : L2.St} (h : te σ H fun _ H1 => D.nx σ H1) : tDrop te D σ H := h

def sp_look_many (K : PySem.W.Frag) (A : Ads) : Sp := Spn 1 fun vs H Q E => ∃ n : Int, vs = [.int n] ∧ (1 ≤ n ∧ n ≤ 8 → ∀ H', Ex H H' → Q .non H') ∧ (¬ (1 ≤ n ∧ n ≤ 8) → ∀ H', Ex H H' → E (.ref A.BadOrder) none H')
def t_look_many (K : PySem.W.Frag) (A : Ads) (W : WX) : TS :=
  (tIfS (tNot (tTest (tChain rLeI rLeI (tC (.int 1)) (tVar 0) (tC (.int 8))))) (tRs W A.BadOrder) tNext)
theorem pu_look_many (h : sp_look_many K A vs H Q E) : t_look_many K A (WXE E) (DQ Q) (start ["many"] vs) H := by
  obtain ⟨_, n, rfl, k1, k2⟩ := h
  refine s_if (et_not (et_test (ec_lele ev_c (ev_var rfl) ev_c))) (fun hb H1 e1 => ?_) (fun hb H1 e1 => ?_)
  · exact k2 (fun z => by simp [z.1, z.2] at hb) H1 e1
  · exact k1 (by simpa using hb) H1 e1

def sp_look_order (K : PySem.W.Frag) (A : Ads) : Sp := Spn 2 fun vs H Q E => ∃ (n : Int) (v : V) (ns : List Int), vs = [.int n, v] ∧ Hd K H v (Tup.mk ns) ∧ (IsOrd n ns → ∀ H', Ex H H' → Q .non H') ∧ (¬ IsOrd n ns → ∀ H', Ex H H' → E (.ref A.BadOrder) none H')
def t_look_order (K : PySem.W.Frag) (A : Ads) (W : WX) : TS :=
  (tSeq (tDrop (tCallS (sp_look_many K A) (WE W) (tCons (tVar 0) tNil)))
    (tIfS (tTest (tOp (rNeP K) (tCB (rSortedQ K) (tCons (tVar 1) tNil)) (tLstRg (tRg1 (tVar 0))))) (tRs W A.BadOrder) tNext))
theorem pu_look_order (h : sp_look_order K A vs H Q E) : t_look_order K A (WXE E) (DQ Q) (start ["many", "order"] vs) H := by
  obtain ⟨_, n, v, ns, rfl, hv, k1, k2⟩ := h
  refine q_do (cl1 (K := K) (ed_var rfl (of_int n)) fun w H1 e1 hw => ?_)
  rw [hd_int hw]
  refine ⟨rfl, n, rfl, fun hn H2 e2 => ?_, fun hn H2 e2 => k2 (fun z => hn ⟨z.1, z.2.1⟩) H2 (e1.trans e2)⟩
  refine s_if (et_test (ev_neD (EvN.d (en_sortT (ed_var rfl (hd_ex (e1.trans e2) hv)))) (EvN.d (en_listRg (ev_var rfl) (by omega))))) (fun hb H3 e3 => ?_) (fun hb H3 e3 => ?_)
  · exact k2 (fun z => by simp [z.2.2] at hb) H3 ((e1.trans e2).trans e3)
  · exact k1 ⟨hn.1, hn.2, by simpa using hb⟩ H3 ((e1.trans e2).trans e3)

def sp_turned_order (K : PySem.W.Frag) (A : Ads) : Sp := Spn 1 fun vs H Q E => ∃ (v : V) (ns : List Int), vs = [v] ∧ Hd K H v (Tup.mk ns) ∧ ns.length ≤ 1000 ∧
  (IsOrd ns.length ns → ∀ w H', Ex H H' → Hd K H' w (Tup.mk (turnL ns)) → Q w H') ∧ (¬ IsOrd ns.length ns → ∀ H', Ex H H' → E (.ref A.BadOrder) none H')
def t_turned_order (K : PySem.W.Frag) (A : Ads) (W : WX) : TS :=
  (tSeq (tDrop (tCallS (sp_look_order K A) (WE W) (tCons (tCB (rLenS K) (tCons (tVar 0) tNil)) (tCons (tVar 0) tNil))))
    (tRet (tThen (tLc (iRng1 (tCons (tCB (rLenS K) (tCons (tVar 0) tNil)) tNil)) (gName 1) tYes (tBMP K (rTIdxI K) (tVar 0) (tCons (tVar 1) tNil)) [1]) (kTupP K))))
theorem pu_turned_order (h : sp_turned_order K A vs H Q E) : t_turned_order K A (WXE E) (DQ Q) (start ["order", "thing"] vs) H := by
  obtain ⟨_, v, ns, rfl, hv, hl, k1, k2⟩ := h
  refine q_do (cl2 (ed_int (ev_lenT (ed_var rfl hv))) (ed_var rfl hv) fun w w2 H1 e1 hw hw2 => ?_)
  rw [hd_int hw]
  refine ⟨rfl, _, w2, ns, rfl, hw2, fun hn H2 e2 => ?_, fun hn H2 e2 => k2 hn H2 (e1.trans e2)⟩
  have e := e1.trans e2
  refine sd_ret (ed_tupOfL (EvN.d (en_lcR (fun _ => true) (fun x => ((ns.idxOf x : Nat) : Int)) (ea_cons (ev_lenT (ed_var rfl (hd_ex e hv))) ea_nil) (by omega) fun x H3 R x0 x1 e3 q => ?_))) (fun w H3 e3 hw3 => k1 hn w H3 (e.trans e3) ?_)
  · refine q _ H3 (Ex.refl _) rfl (fun H1 _ _ q => q H1 (Ex.refl H1)) fun _ => ed_int (ev_tidx (ed_var rfl (hd_ex (e.trans e3) hv)) (ev_var rfl) ?_)
    rw [hn.mem]
    omega
  · rw [filt_true] at hw3
    exact hw3

def sp_behind_order (K : PySem.W.Frag) (A : Ads) : Sp := Spn 2 fun vs H Q E => ∃ (v v2 : V) (ns ms : List Int), vs = [v, v2] ∧ Hd K H v (Tup.mk ns) ∧ Hd K H v2 (Tup.mk ms) ∧ ns.length ≤ 1000 ∧
  (IsOrd ns.length ns ∧ IsOrd ns.length ms → ∀ w H', Ex H H' → Hd K H' w (Tup.mk (behL ns ms)) → Q w H') ∧ (¬ (IsOrd ns.length ns ∧ IsOrd ns.length ms) → ∀ H', Ex H H' → E (.ref A.BadOrder) none H')
def t_behind_order (K : PySem.W.Frag) (A : Ads) (W : WX) : TS :=
  (tSeq (tDrop (tCallS (sp_look_order K A) (WE W) (tCons (tCB (rLenS K) (tCons (tVar 0) tNil)) (tCons (tVar 0) tNil))))
    (tSeq (tDrop (tCallS (sp_look_order K A) (WE W) (tCons (tCB (rLenS K) (tCons (tVar 0) tNil)) (tCons (tVar 1) tNil))))
    (tRet (tThen (tLc (iTup K (tVar 0)) (gName 2) tYes (tOp (rIx K) (tVar 1) (tVar 2)) [2]) (kTupP K)))))
theorem pu_behind_order (h : sp_behind_order K A vs H Q E) : t_behind_order K A (WXE E) (DQ Q) (start ["one", "other", "place"] vs) H := by
  obtain ⟨_, v, v2, ns, ms, rfl, hv, hv2, hl, k1, k2⟩ := h
  refine q_do (cl2 (ed_int (ev_lenT (ed_var rfl hv))) (ed_var rfl hv) fun w w2 H1 e1 hw hw2 => ?_)
  rw [hd_int hw]
  refine ⟨rfl, _, w2, ns, rfl, hw2, fun hn H2 e2 => ?_, fun hn H2 e2 => k2 (fun z => hn z.1) H2 (e1.trans e2)⟩
  have e := e1.trans e2
  refine q_do (cl2 (ed_int (ev_lenT (ed_var rfl (hd_ex e hv)))) (ed_var rfl (hd_ex e hv2)) fun w w2 H3 e3 hw hw2 => ?_)
  rw [hd_int hw]
  refine ⟨rfl, _, w2, ms, rfl, hw2, fun hm H4 e4 => ?_, fun hm H4 e4 => k2 (fun z => hm z.2) H4 ((e.trans e3).trans e4)⟩
  have e' := (e.trans e3).trans e4
  refine sd_ret (ed_tupOfL (EvN.d (en_lcT (fun _ => true) (fun p : Int => ms.getD p.toNat 0) (ed_var rfl (hd_ex e' hv)) (by omega) fun y x H5 R hx e5 hy q => ?_))) (fun w H5 e5 hw5 => k1 ⟨hn, hm⟩ w H5 (e'.trans e5) ?_)
  · rw [hd_int hy]
    refine q _ H5 (Ex.refl _) rfl (fun H1 _ _ q => q H1 (Ex.refl H1)) fun _ => ?_
    have hb := hn.mem.mp hx
    have hml := hm.len
    have hxn : x = ((x.toNat : Nat) : Int) := by omega
    refine ed_ixT (xs := ms) (i := x) (ed_var rfl (hd_ex (e'.trans e5) hv2)) (ev_var rfl) ?_
    rw [hxn]
    exact atI_nat (getD_get (by omega))
  · rw [filt_true] at hw5
    exact hw5

def sp_crossings (K : PySem.W.Frag) (A : Ads) : Sp := Spn 1 fun vs H Q E => ∃ (v : V) (ns : List Int), vs = [v] ∧ Hd K H v (Tup.mk ns) ∧ ns.length ≤ 1000 ∧
  (IsOrd ns.length ns → ∀ H', Ex H H' → Q (.int (crossL ns)) H') ∧ (¬ IsOrd ns.length ns → ∀ H', Ex H H' → E (.ref A.BadOrder) none H')
def t_crossings (K : PySem.W.Frag) (A : Ads) (W : WX) : TS :=
  (tSeq (tDrop (tCallS (sp_look_order K A) (WE W) (tCons (tCB (rLenS K) (tCons (tVar 0) tNil)) (tCons (tVar 0) tNil))))
    (tSeq (tAsg (tC (.int 0)) (gName 1))
    (tSeq (tFor (iRng1 (tCons (tCB (rLenS K) (tCons (tVar 0) tNil)) tNil)) (gName 2) (tAsg (tOp rAddI (tVar 1) (tCB (rLenS K) (tCons (tLc (iTup K (tSl (rSlP K) (tVar 0) (tPart (tOp rAddI (tVar 2) (tC (.int 1)))) tNoPart)) (gName 3) (tTest (tOp rLtI (tVar 3) (tOp (rIx K) (tVar 0) (tVar 2)))) (tVar 3) [3]) tNil))) (gName 1)))
    (tRet (tVar 1)))))
theorem pu_crossings (h : sp_crossings K A vs H Q E) : t_crossings K A (WXE E) (DQ Q) (start ["order", "found", "k", "thing"] vs) H := by
  obtain ⟨_, v, ns, rfl, hv, hl, k1, k2⟩ := h
  refine q_do (cl2 (ed_int (ev_lenT (ed_var rfl hv))) (ed_var rfl hv) fun w w2 H1 e1 hw hw2 => ?_)
  rw [hd_int hw]
  refine ⟨rfl, _, w2, ns, rfl, hw2, fun hn H2 e2 => ?_, fun hn H2 e2 => k2 hn H2 (e1.trans e2)⟩
  have e := e1.trans e2
  refine q_asg ev_c fun H3 e3 => ?_
  have e' := e.trans e3
  refine q_forR1 (n := ns.length) (ea_cons (ev_lenT (ed_var rfl (hd_ex e' hv))) ea_nil) (by omega) (fun i σ H' => ∃ x y, σ = [some v, some (.int (crossN ns i)), x, y] ∧ Ex H H') (fun H4 e4 => ⟨none, none, rfl, e'.trans e4⟩) ?_ ?_
  · rintro i σ H4 hi ⟨x, y, rfl, e4⟩
    refine s_asg (ei_add (ev_var rfl) (ev_lenL (EvN.d (en_lcT (fun t => decide (t < ns.getD i 0)) (fun t => t) (ed_slT (lo := some ((i : Int) + 1)) (hi := none) (ed_var rfl (hd_ex e4 hv)) (eo_some (ei_add (ev_var rfl) ev_c)) eo_none) (Nat.le_trans (show (cutA ns (some ((i : Int) + 1)) none).length ≤ ns.length from ?_) (by omega)) fun y x H5 R hx e5 hy q => ?_)))) fun H5 e5 => ?_
    · rw [cutA_from1 (by omega), List.length_drop]
      omega
    · rw [hd_int hy]
      refine q _ H5 (Ex.refl _) rfl (et_test (ei_lt (ev_var rfl) (EvD.int (ed_ixT (xs := ns) (i := (i : Int)) (ed_var rfl (hd_ex (e4.trans e5) hv)) (ev_var rfl) (atI_nat (getD_get (by omega))))))) fun _ => ed_int (ev_var rfl)
    · refine ⟨some (.int (i : Int)), y, ?_, e4.trans e5⟩
      rw [crossN_succ, cutA_from1 (by omega), List.map_id']
      rfl
  · rintro σ H4 ⟨x, y, rfl, e4⟩
    exact s_rets (ev_var rfl) fun H5 e5 => k1 hn H5 (e4.trans e5)
end
end OA

/-! OF: helpers of the laws -/
namespace OA
open PySem PySem.Spec PyProof.Rows L2 Evl
open PySem.W (Datum Tup T3 DatumOrd)
section
variable {K : PySem.W.Frag} {A : Ads} {vs : List V} {H : Hp} {Q : VK} {E : XK}
/-! ### draws -/
def cellF (ns : List Int) (k : Int) : Int := if ns.isEmpty = true then 0 else ns.getD (k % (ns.length : Int)).toNat 0
def mixA (ns : List Int) (k : Int) : Int := (cellF ns k + 104729 * (k + 1)) % 4294967291
def mixB (ns : List Int) (k : Int) : Int := mixA ns k * 48271 % 4294967279
def mixF (ns : List Int) (k : Int) : Int := (mixB ns k / 64 * 69621 + mixB ns k) % 4294967231
theorem mixF_nn (ns : List Int) (k : Int) : 0 ≤ mixF ns k := Int.emod_nonneg _ (by decide)
theorem mixF_lt (ns : List Int) (k : Int) : mixF ns k < 4294967231 := Int.emod_lt_of_pos _ (by decide)

def sp_law_cell (K : PySem.W.Frag) (A : Ads) : Sp := Spn 2 fun vs H Q E => ∃ (v : V) (ns : List Int) (k : Int), vs = [v, .int k] ∧ Hd K H v ns ∧ ∀ H', Ex H H' → Q (.int (cellF ns k)) H'
def t_law_cell (K : PySem.W.Frag) (A : Ads) (W : WX) : TS :=
  (tSeq (tIfS (tTruQ K (tVar 0)) (tRet (tOp (rIx K) (tVar 0) (tOp rModI (tVar 1) (tCB (rLenS K) (tCons (tVar 0) tNil))))) tNext)
    (tRet (tC (.int 0))))
theorem pu_law_cell (h : sp_law_cell K A vs H Q E) : t_law_cell K A (WXE E) (DQ Q) (start ["_law_script", "_law_k"] vs) H := by
  obtain ⟨_, v, ns, k, rfl, hv, q⟩ := h
  refine q_when (et_truL (ed_var rfl hv)) (fun hb H1 e1 => ?_) (fun hb H1 e1 => ?_)
  · have hne : ns.isEmpty = false := by simpa using hb
    have hl : 0 < ns.length := List.length_pos_iff.mpr (by intro z; rw [z] at hne; cases hne)
    have hm : 0 ≤ k % (ns.length : Int) := Int.emod_nonneg _ (by omega)
    have hm2 : k % (ns.length : Int) < ns.length := Int.emod_lt_of_pos _ (by omega)
    have hc : k % (ns.length : Int) = (((k % (ns.length : Int)).toNat : Nat) : Int) := by omega
    refine s_rets (EvD.int (ed_ixL (xs := ns) (i := k % (ns.length : Int)) (ed_var rfl (hd_ex e1 hv)) (ei_mod (ev_var rfl) (ev_lenL (ed_var rfl (hd_ex e1 hv))) (by omega)) ?_)) fun H2 e2 => q H2 (e1.trans e2)
    rw [hc, atI_nat (getD_get (by omega))]
    unfold cellF
    rw [if_neg (by rw [hne]; decide)]
  · have hne : ns.isEmpty = true := by simpa using hb
    refine s_rets ev_c fun H2 e2 => ?_
    have := q H2 (e1.trans e2)
    unfold cellF at this
    rw [if_pos hne] at this
    exact this

def sp_law_mix (K : PySem.W.Frag) (A : Ads) : Sp := Spn 2 fun vs H Q E => ∃ (v : V) (ns : List Int) (k : Int), vs = [v, .int k] ∧ Hd K H v ns ∧ ∀ H', Ex H H' → Q (.int (mixF ns k)) H'
def t_law_mix (K : PySem.W.Frag) (A : Ads) (W : WX) : TS :=
  (tSeq (tAsg (tOp rModI (tOp rAddI (tCallS (sp_law_cell K A) (WE W) (tCons (tVar 0) (tCons (tVar 1) tNil))) (tOp rMulI (tC (.int 104729)) (tOp rAddI (tVar 1) (tC (.int 1))))) (tC (.int 4294967291))) (gName 2))
    (tSeq (tAsg (tOp rModI (tOp rMulI (tVar 2) (tC (.int 48271))) (tC (.int 4294967279))) (gName 2))
    (tRet (tOp rModI (tOp rAddI (tOp rMulI (tOp rDivI (tVar 2) (tC (.int 64))) (tC (.int 69621))) (tVar 2)) (tC (.int 4294967231))))))
theorem pu_law_mix (h : sp_law_mix K A vs H Q E) : t_law_mix K A (WXE E) (DQ Q) (start ["_law_script", "_law_k", "_law_number"] vs) H := by
  obtain ⟨_, v, ns, k, rfl, hv, q⟩ := h
  have hb0 : 0 ≤ mixB ns k := Int.emod_nonneg _ (by decide)
  have hb1 : mixB ns k < 4294967279 := Int.emod_lt_of_pos _ (by decide)
  refine q_asg (v := .int (mixA ns k)) (ei_mod (ei_add (EvD.int (z1 hv rfl)) (ei_mul ev_c (ei_add (ev_var rfl) ev_c) (.inl (by decide)))) ev_c (by decide)) fun H1 e1 => ?_
  refine q_asg (v := .int (mixB ns k)) (ei_mod (ei_mul (ev_var rfl) ev_c (.inr (by decide))) ev_c (by decide)) fun H2 e2 => ?_
  refine s_rets (v := .int (mixF ns k)) (ei_mod (ei_add (ei_mul (ei_div (ev_var rfl) ev_c ⟨by decide, by decide⟩) ev_c (.inr (by decide))) (ev_var rfl)) ev_c (by decide)) fun H3 e3 => q H3 ((e1.trans e2).trans e3)
where
  z1 {K : PySem.W.Frag} {A : Ads} {H : Hp} {v : V} {ns : List Int} {k : Int} {σ : L2.St} {EX : L2.St → XK} (hv : Hd K H v ns) (h0 : σ = [some v, some (.int k), none]) : EvD K (tCallS (sp_law_cell K A) EX (tCons (tVar 0) (tCons (tVar 1) tNil))) σ H (cellF ns k) := by
    subst h0
    exact ed_cl2 (ed_var rfl hv) (ed_var rfl (of_int k)) fun w w2 H1 e1 hw hw2 Q E q => ⟨rfl, w, ns, k, by rw [hd_int hw2], hw, fun H2 e2 => q _ H2 e2 (of_int _)⟩
/-- a draw, as an expression -/
theorem ed_mix {σ : L2.St} {ta tb : TE} {ns : List Int} {k : Int} {EX : L2.St → XK} (ha : EvD K ta σ H ns) (hb : Ev tb σ H (.int k)) : Ev (tCallS (sp_law_mix K A) EX (tCons ta (tCons tb tNil))) σ H (.int (mixF ns k)) :=
  EvD.int (ed_cl2 ha (ed_int hb) fun w w2 H1 e1 hw hw2 Q E q => ⟨rfl, w, ns, k, by rw [hd_int hw2], hw, fun H2 e2 => q _ H2 e2 (of_int _)⟩)

def sp_law_whole (K : PySem.W.Frag) (A : Ads) : Sp := Spn 1 fun vs H Q E => ∃ n : Int, vs = [.int n] ∧ ∀ H', Ex H H' → Q (.bl true) H'
def t_law_whole (K : PySem.W.Frag) (A : Ads) (W : WX) : TS :=
  (tRet (tAndV (tCB (rIsA K) (tCons (tVar 0) (tCons (tC (.ty "int")) tNil))) (tNotV (tCB (rIsA K) (tCons (tVar 0) (tCons (tC (.ty "bool")) tNil))))))
theorem pu_law_whole (h : sp_law_whole K A vs H Q E) : t_law_whole K A (WXE E) (DQ Q) (start ["_law_found"] vs) H := by
  obtain ⟨_, n, rfl, q⟩ := h
  exact s_rets (v := .bl (true && !false)) (ev_andV (ev_isi (K := K) (T := "int") (ed_var rfl (of_int n)) (fun _ _ h => ty_int h) (by decide +kernel)) fun _ => ev_notV (ev_isi (K := K) (T := "int") (ed_var rfl (of_int n)) (fun _ _ h => ty_int h) (by decide +kernel))) q

/-! ### which error -/
def words : List Str := ["book", "number", "order", "rule", "text", "weights", "unlike"]
def bits (j : Nat) : List Bool := [decide (j = 0), decide (j = 1), decide (j = 2), decide (j = 3), decide (j = 4), decide (j = 5), decide (j = 6)]
theorem bits_one : ∀ j, j < 7 → ((bits j).countP fun y => decide (y = true)) = 1 ∧ (bits j).idxOf true = j ∧ true ∈ bits j := by decide
def sp_law_refusal (K : PySem.W.Frag) (A : Ads) : Sp := Spn 1 fun vs H Q E => (vs = [.non] ∧ ∀ H', Ex H H' → Q (.str "ok") H') ∨
  ∃ (a D : Addr) (j : Nat), vs = [.ref a] ∧ H a = some (ExK (.ref D) a) ∧ KeptT K A D j ∧ j < 7 ∧ ∀ H', Ex H H' → Q (.str (words.getD j "")) H'
def t_law_refusal (K : PySem.W.Frag) (A : Ads) (W : WX) : TS :=
  (tSeq (tIfS (tTest (tOp rIsNn (tVar 0) (tC .non))) (tRet (tC (.str "ok"))) tNext)
    (tSeq (tAsg (tLst (tCons (tCB (rIsA K) (tCons (tVar 0) (tCons (tC (.ref A.BadBook)) tNil))) (tCons (tCB (rIsA K) (tCons (tVar 0) (tCons (tC (.ref A.BadNumber)) tNil))) (tCons (tCB (rIsA K) (tCons (tVar 0) (tCons (tC (.ref A.BadOrder)) tNil))) tNil)))) (gName 1))
    (tSeq (tAsg (tOp rCat (tVar 1) (tLst (tCons (tCB (rIsA K) (tCons (tVar 0) (tCons (tC (.ref A.BadRule)) tNil))) (tCons (tCB (rIsA K) (tCons (tVar 0) (tCons (tC (.ref A.BadText)) tNil))) (tCons (tCB (rIsA K) (tCons (tVar 0) (tCons (tC (.ref A.BadWeights)) tNil))) tNil))))) (gName 1))
    (tSeq (tDrop (tBM K "list" rAppend (tVar 1) (tCons (tCB (rIsA K) (tCons (tVar 0) (tCons (tC (.ref A.Unlike)) tNil))) tNil)))
    (tSeq (tIfS (tOr (tTest (tOp (rNeP K) (tBM K "list" (rCountP K) (tVar 1) (tCons (tC (.bl true)) tNil)) (tC (.int 1)))) (tNot (tB (tCB (rIsA K) (tCons (tVar 0) (tCons (tC (.ty "ValueError")) tNil)))))) (tRet (tC (.str "wrong"))) tNext)
    (tRet (tOp (rIx K) (tLst (tCons (tC (.str "book")) (tCons (tC (.str "number")) (tCons (tC (.str "order")) (tCons (tC (.str "rule")) (tCons (tC (.str "text")) (tCons (tC (.str "weights")) (tCons (tC (.str "unlike")) tNil)))))))) (tBM K "list" (rIndexP K) (tVar 1) (tCons (tC (.bl true)) tNil)))))))))
theorem pu_law_refusal (h : sp_law_refusal K A vs H Q E) : t_law_refusal K A (WXE E) (DQ Q) (start ["_law_kept", "_law_kinds"] vs) H := by
  rcases h with ⟨_, ⟨rfl, q⟩ | ⟨a, D, j, rfl, ha, T, hj, q⟩⟩
  · refine q_when (et_test (ev_isN (ev_var rfl))) (fun _ H1 e1 => s_rets ev_c fun H2 e2 => q H2 (e1.trans e2)) (fun hb => ?_)
    simp at hb
  · refine q_when (et_test (ev_isN (ev_var rfl))) (fun hb => ?_) (fun _ H1 e1 => ?_)
    · simp at hb
    have k1 := e1 a _ ha
    refine qn_asg (en_lstA (K := K) (xs := [decide (j = 0), decide (j = 1), decide (j = 2)]) (eas_cons (ed_bool (ev_isk (ev_var rfl) k1 T.ec T.k0)) (eas_cons (ed_bool (ev_isk (ev_var rfl) k1 T.ec T.k1)) (eas_cons (ed_bool (ev_isk (ev_var rfl) k1 T.ec T.k2)) eas_nil))) (by show 3 ≤ 100000; decide)) fun p vs H2 hp e2 h2 d2 => ?_
    have k2 := e2 a _ k1
    refine qn_asg (en_cat1 (K := K) (ys := [decide (j = 3), decide (j = 4), decide (j = 5)]) (ev_var rfl) h2 d2 (en_lstA (eas_cons (ed_bool (ev_isk (ev_var rfl) k2 T.ec T.k3)) (eas_cons (ed_bool (ev_isk (ev_var rfl) k2 T.ec T.k4)) (eas_cons (ed_bool (ev_isk (ev_var rfl) k2 T.ec T.k5)) eas_nil))) (by show 3 ≤ 100000; decide)) (by simp)) fun p' vs' H3 hp' e3 h3 d3 => ?_
    have k3 := e3 a _ k2
    refine q_app (K := K) h3 (ev_var rfl) (ev_isk (ev_var rfl) k3 T.ec T.k6) (by rw [hds_len d3]; simp) fun H4 e4 => ?_
    have dn : Hds K (upd H4 p' (.lst (vs' ++ [.bl (decide (j = 6))]))) (vs' ++ [.bl (decide (j = 6))]) (bits j) := by
      have tx : Tx H4 (upd H4 p' (.lst (vs' ++ [.bl (decide (j = 6))]))) := .mut (by rw [e4 p' _ h3]; trivial)
      exact hds_app (hds_tx tx (hds_ex e4 d3)) (hds_one (of_bool _))
    have ex0 : Ex H1 (upd H4 p' (.lst (vs' ++ [.bl (decide (j = 6))]))) := Ex.mut ((e2.trans e3).trans e4) (fresh_back e2 hp')
    have k4 := ex0 a _ k1
    obtain ⟨b1, b2, b3⟩ := bits_one j hj
    refine q_when (b := false) (et_is (et_or (et_test (ev_neD (K := K) (ed_int (ev_count (K := K) (xs := bits j) (x := true) (ev_var rfl) upd_same dn (ed_bool ev_c))) (ed_int ev_c))) fun _ => et_not (et_B (ev_iskT (ev_var rfl) k4 T.ec T.kv))) (by rw [b1]; decide)) (fun hb => by cases hb) (fun _ H5 e5 => ?_)
    have h5 := e5 _ _ (upd_same (H := H4) (a := p') (o := .lst (vs' ++ [.bl (decide (j = 6))])))
    refine sd_ret (K := K) (x := words.getD j "") (ed_ixL (xs := words) (i := (j : Int)) (EvN.d (en_lstA (eas_cons (ed_str ev_c) (eas_cons (ed_str ev_c) (eas_cons (ed_str ev_c) (eas_cons (ed_str ev_c) (eas_cons (ed_str ev_c) (eas_cons (ed_str ev_c) (eas_cons (ed_str ev_c) eas_nil))))))) (by decide))) (ev_is (ev_index (K := K) (xs := bits j) (x := true) (ev_var rfl) h5 (hds_ex e5 dn) (ed_bool ev_c) b3) (by rw [b2])) (atI_nat ?_)) fun w H6 e6 hw => ?_
    · rw [List.getElem?_eq_getElem (show j < words.length from hj), List.getD_eq_getElem?_getD, List.getElem?_eq_getElem (show j < words.length from hj)]
      rfl
    · rw [hd_str hw]
      exact q H6 (((e1.trans ex0).trans e5).trans e6)
end
end OA

/-! O1: the law of orders (k01) -/
namespace OA
open PySem PySem.Spec PyProof.Rows L2 Evl
open PySem.W (Datum Tup T3 DatumOrd)
/-! ### mathematics -/
theorem turn_at {ns : List Int} (h : IsOrd ns.length ns) {p : Nat} (hp : p < ns.length) : atI (turnL ns) (ns.getD p 0) = some (p : Int) := by
  have hm := h.mem.mp (List.getElem_mem hp)
  have hg : ns.getD p 0 = ns[p] := by rw [List.getD_eq_getElem?_getD, List.getElem?_eq_getElem hp]; rfl
  rw [hg]
  have e : ns[p] = ((ns[p].toNat : Nat) : Int) := by omega
  rw [e]
  refine atI_nat ?_
  unfold turnL
  rw [List.getElem?_map, upTo_get (by omega), ← e]
  show some (((ns.idxOf ns[p] : Nat) : Int)) = _
  rw [h.nodup.idxOf_getElem]
def pairAt (ns : List Int) (k : Nat) : Int := (((upTo k).filter fun y => decide (ns.getD k 0 < ns.getD y.toNat 0)).length : Nat)
def pairN (ns : List Int) (k : Nat) : Int := ((List.range k).map (pairAt ns)).sum
theorem pairN_succ (ns : List Int) (k : Nat) : pairN ns (k + 1) = pairN ns k + pairAt ns k := by
  unfold pairN
  rw [List.range_succ, List.map_append, List.sum_append, List.map_cons, List.map_nil, List.sum_cons, List.sum_nil, Int.add_zero]
def crM (ns : List Int) (m k : Nat) : Int := ((((ns.take m).drop (k + 1)).filter fun t => decide (t < ns.getD k 0)).length : Nat)
theorem sum_add {f g h : Nat → Int} : ∀ (n : Nat), (∀ k, k < n → f k = g k + h k) → ((List.range n).map f).sum = ((List.range n).map g).sum + ((List.range n).map h).sum
  | 0, _ => rfl
  | n + 1, e => by
    have i := sum_add n fun k hk => e k (by omega)
    have j := e n (by omega)
    rw [List.range_succ, List.map_append, List.map_append, List.map_append, List.sum_append, List.sum_append, List.sum_append, i]
    simp only [List.map_cons, List.map_nil, List.sum_cons, List.sum_nil]
    omega
theorem sum_bit (p : Nat → Bool) : ∀ n, ((List.range n).map fun k => if p k = true then (1 : Int) else 0).sum = (((List.range n).filter p).length : Nat)
  | 0 => rfl
  | n + 1 => by
    have i := sum_bit p n
    rw [List.range_succ, List.map_append, List.sum_append, i, List.filter_append, List.length_append]
    cases h : p n <;> simp [h]
theorem pairAt_range (ns : List Int) (k : Nat) : pairAt ns k = (((List.range k).filter fun y => decide (ns.getD k 0 < ns.getD y 0)).length : Nat) := by
  unfold pairAt upTo
  rw [List.filter_map, List.length_map]
  rfl
theorem crM_sum (ns : List Int) : ∀ m, m ≤ ns.length → ((List.range m).map (crM ns m)).sum = pairN ns m
  | 0, _ => rfl
  | m + 1, h => by
    have hm : m < ns.length := by omega
    have tk : ns.take (m + 1) = ns.take m ++ [ns.getD m 0] := by
      rw [List.take_succ, getD_get hm]
      rfl
    have last : crM ns (m + 1) m = 0 := by
      unfold crM
      rw [List.drop_of_length_le (by rw [List.length_take]; omega)]
      rfl
    have step : ∀ k, k < m → crM ns (m + 1) k = crM ns m k + (if decide (ns.getD m 0 < ns.getD k 0) = true then (1 : Int) else 0) := fun k hk => by
      unfold crM
      rw [tk, List.drop_append_of_le_length (by rw [List.length_take]; omega), List.filter_append, List.length_append]
      by_cases h : ns.getD m 0 < ns.getD k 0
      · rw [List.filter_cons, if_pos (by exact decide_eq_true h), if_pos (by exact decide_eq_true h)]
        simp
      · rw [List.filter_cons, if_neg (by rw [decide_eq_false h]; decide), if_neg (by rw [decide_eq_false h]; decide)]
        simp
    rw [List.range_succ, List.map_append, List.sum_append, sum_add m step, crM_sum ns m (by omega), pairN_succ, pairAt_range, ← sum_bit]
    simp only [List.map_cons, List.map_nil, List.sum_cons, List.sum_nil, last]
    omega
theorem pair_cross (ns : List Int) : pairN ns ns.length = crossL ns := by
  rw [← crM_sum ns ns.length (Nat.le_refl _)]
  unfold crossL crossN
  congr 2
  funext k
  unfold crM crossAt
  rw [List.take_length]

theorem erase_perm {l : List Int} {j : Nat} (h : j < l.length) : (l[j] :: l.eraseIdx j).Perm l := by
  rw [List.eraseIdx_eq_take_drop_succ]
  refine List.perm_middle.symm.trans ?_
  rw [← List.drop_eq_getElem_cons h, List.take_append_drop]

section
variable {K : PySem.W.Frag} {A : Ads} {vs : List V} {H : Hp} {Q : VK} {E : XK}
theorem EvD.str {α : Type} {te : TE} {σ : L2.St} {b : Str} (h : EvD K te σ H b) : Ev te σ H (.str b) := fun H1 e Q q => h H1 e Q fun v H2 e2 hv => by rw [hd_str hv]; exact q H2 e2
theorem qc_asg {i : Nat} {te : TE} {D : Ends} {σ : L2.St} {tz : TS} (h : te σ H fun v H1 => tz D (σ.set i (some v)) H1) : tSeq (tAsg te (gName i)) tz D σ H := h
theorem hds_flat {α : Type} [DecidableEq α] [Datum α] {vs : List V} {xs : List α} (h : Hds K H vs xs) : ∀ n, Hds K H (List.replicate n vs).flatten (List.replicate n xs).flatten
  | 0 => hds_nil
  | n + 1 => by
    rw [List.replicate_succ, List.replicate_succ, List.flatten_cons, List.flatten_cons]
    exact hds_app h (hds_flat h n)
theorem en_rep {α : Type} [DecidableEq α] [Datum α] {ta tb : TE} {σ : L2.St} {xs : List α} {n : Int} (h : EvN K ta σ H xs) (hb : Ev tb σ H (.int n)) (hn : 0 ≤ n ∧ n ≤ 1000) (hz : xs.length * n.toNat ≤ 100000) : EvN K (tOp rRep ta tb) σ H (List.replicate n.toNat xs).flatten := fun H1 e Q q =>
  h H1 e _ fun p ws H2 hp e2 h2 d2 => hb H2 (e.trans e2) _ fun H3 e3 => ⟨p, n, ws, rfl, rfl, e3 _ _ h2, by omega, by omega, sz_of (by rw [hds_len d2]; exact hz), fun r hr =>
    q r _ _ (fresh_back (e2.trans e3) hr) ((e2.trans e3).trans (Ex.new hr)) upd_same (hds_flat (hds_ex (e3.trans (Ex.new hr)) d2) _)⟩

/-! ### the promises -/
def sp_law_shuffled (K : PySem.W.Frag) (A : Ads) : Sp := Spn 3 fun vs H Q E => ∃ (v : V) (ss : List Int) (k n : Int), vs = [v, .int k, .int n] ∧ Hd K H v ss ∧ 0 ≤ n ∧ n ≤ 9 ∧
  ∀ ns : List Int, ns.Perm (upTo n.toNat) → ∀ w H', Ex H H' → Hd K H' w (Tup.mk ns) → Q w H'
def t_law_shuffled (K : PySem.W.Frag) (A : Ads) (W : WX) : TS :=
  (tSeq (tAsg (tLstRg (tRg1 (tVar 2))) (gName 3))
    (tSeq (tAsg (tLst tNil) (gName 4))
    (tSeq (tWhile (tTruQ K (tVar 3)) (tDrop (tBM K "list" rAppend (tVar 4) (tCons (tBM K "list" rPopAt (tVar 3) (tCons (tOp rModI (tCallS (sp_law_mix K A) (WE W) (tCons (tVar 0) (tCons (tOp rAddI (tVar 1) (tCB (rLenS K) (tCons (tVar 4) tNil))) tNil))) (tCB (rLenS K) (tCons (tVar 3) tNil))) tNil)) tNil))))
    (tRet (tThen (tVar 4) (kTupP K))))))
theorem pu_law_shuffled (h : sp_law_shuffled K A vs H Q E) : t_law_shuffled K A (WXE E) (DQ Q) (start ["_law_script", "_law_k", "_law_many", "_law_left", "_law_found"] vs) H := by
  obtain ⟨_, v, ss, k, n, rfl, hv, hn0, hn9, q⟩ := h
  refine qn_asg (K := K) (en_listRg (ev_var rfl) (by omega)) fun p ws H1 hp e1 h1 d1 => ?_
  refine qn_asg (K := K) (xs := ([] : List Int)) (en_lstA eas_nil (by decide)) fun p2 ws2 H2 hp2 e2 h2 d2 => ?_
  have d1' := hds_ints d1
  have d2' := hds_ints d2
  subst d1' d2'
  have ne : p2 ≠ p := fun z => by rw [z, h1] at hp2; cases hp2
  have hH2 : H p2 = none := fresh_back e1 hp2
  refine q_while (fun m σ' H' => ∃ ls fs : List Int, σ' = [some v, some (.int k), some (.int n), some (.ref p), some (.ref p2)] ∧ H' p = some (.lst (ls.map V.int)) ∧ H' p2 = some (.lst (fs.map V.int)) ∧ Ex H H' ∧ (fs ++ ls).Perm (upTo n.toNat) ∧ ls.length = m) (upTo n.toNat).length ⟨_, [], rfl, e2 _ _ h1, h2, e1.trans e2, .refl _, rfl⟩ ?_
  rintro m σ' H' ⟨ls, fs, rfl, g1, g2, e, pm, lm⟩
  have hlen := pm.length_eq
  rw [List.length_append, upTo_len] at hlen
  refine ⟨!ls.isEmpty, et_truL (K := K) (ed_var rfl (of_list (sq_of g1) (ints_hds ls))), fun hb H3 e3 => ?_, fun hb H3 e3 => ?_⟩
  · have hne : ls.isEmpty = false := by simpa using hb
    have hl : 0 < ls.length := List.length_pos_iff.mpr (by intro z; rw [z] at hne; cases hne)
    have j1 := e3 _ _ g1
    have j2 := e3 _ _ g2
    refine ⟨fun σ2 H2 => ∃ ls' fs' : List Int, σ2 = [some v, some (.int k), some (.int n), some (.ref p), some (.ref p2)] ∧ H2 p = some (.lst (ls'.map V.int)) ∧ H2 p2 = some (.lst (fs'.map V.int)) ∧ Ex H H2 ∧ (fs' ++ ls').Perm (upTo n.toNat) ∧ ls'.length < m, ?_, ?_⟩
    · rintro σ2 H2 ⟨ls', fs', r1, r2, r3, r4, r5, r6⟩
      exact ⟨ls'.length, r6, ls', fs', r1, r2, r3, r4, r5, rfl⟩
    refine ⟨_, rfl, .inl ⟨rfl, _, sq_of j2⟩, _, rfl, .inl ⟨rfl, _, sq_of j1⟩, ?_⟩
    refine ei_mod (ed_mix (K := K) (A := A) (ns := ss) (k := k + (fs.length : Int)) (ed_var rfl (hd_ex (e.trans e3) hv)) (ei_add (ev_var rfl) (ev_lenL (K := K) (ed_var rfl (of_list (sq_of j2) (ints_hds fs)))))) (ev_lenL (K := K) (ed_var rfl (of_list (sq_of j1) (ints_hds ls)))) (by omega) H3 (Ex.refl H3) _ fun H4 e4 => ?_
    have hm : 0 ≤ mixF ss (k + (fs.length : Int)) % (ls.length : Int) := Int.emod_nonneg _ (by omega)
    have hm2 : mixF ss (k + (fs.length : Int)) % (ls.length : Int) < ls.length := Int.emod_lt_of_pos _ (by omega)
    generalize mixF ss (k + (fs.length : Int)) % (ls.length : Int) = i at hm hm2
    obtain ⟨j, rfl⟩ : ∃ j : Nat, i = j := ⟨i.toNat, by omega⟩
    have hj : j < ls.length := by omega
    refine ⟨p, ls.map V.int, (j : Int), j, .int ls[j], rfl, rfl, e4 _ _ j1, by omega, by omega, ?_, ?_, ?_⟩
    · rw [List.length_map]
      exact PySem.StrLaws.seqIndex_nonneg (by omega) hm2
    · rw [List.getElem?_map, List.getElem?_eq_getElem hj]
      rfl
    have ls' : (ls.map V.int).eraseIdx j = (ls.eraseIdx j).map V.int := hds_ints (K := K) (H := H) (hds_erase j (ints_hds ls))
    rw [ls']
    refine ⟨p2, fs.map V.int, .int ls[j], rfl, rfl, by rw [upd_ne ne]; exact e4 _ _ j2, sz_lt (by rw [List.length_map]; omega), ls.eraseIdx j, fs ++ [ls[j]], rfl, ?_, ?_, ?_, ?_, ?_⟩
    · rw [upd_ne (Ne.symm ne)]
      exact upd_same
    · rw [List.map_append]
      exact upd_same
    · exact Ex.mut (Ex.mut ((e.trans e3).trans e4) hp) hH2
    · refine .trans ?_ pm
      rw [List.append_assoc]
      exact List.Perm.append_left _ (erase_perm hj)
    · rw [List.length_eraseIdx_of_lt hj]
      omega
  · have hne : ls = [] := by simpa using hb
    subst hne
    rw [List.append_nil] at pm
    exact sd_ret (ed_tupOfL (K := K) (xs := fs) (ed_var rfl (of_list (sq_of (e3 _ _ g2)) (ints_hds fs)))) fun w H4 e4 hw => q fs pm w H4 ((e.trans e3).trans e4) hw

/-- what a question of the law must refuse -/
def Bad (way : Int) (ns ms : List Int) : Prop := ¬ IsOrd ns.length ns ∨ (way = 2 ∧ ¬ IsOrd ns.length ms)
def sp_law_told (K : PySem.W.Frag) (A : Ads) : Sp := Spn 3 fun vs H Q E => ∃ (way : Int) (v v2 : V) (ns ms : List Int), vs = [.int way, v, v2] ∧ (0 ≤ way ∧ way ≤ 3) ∧ Hd K H v (Tup.mk ns) ∧ Hd K H v2 (Tup.mk ms) ∧ ns.length ≤ 1000 ∧
  (Bad way ns ms → ∀ H', Ex H H' → Q (.str "order") H') ∧ (¬ Bad way ns ms → way = 0 → ∀ H', Ex H H' → Q .non H') ∧ (¬ Bad way ns ms → way = 1 → ∀ w H', Ex H H' → Hd K H' w (Tup.mk (turnL ns)) → Q w H') ∧
  (¬ Bad way ns ms → way = 2 → ∀ w H', Ex H H' → Hd K H' w (Tup.mk (behL ns ms)) → Q w H') ∧ (¬ Bad way ns ms → way = 3 → ∀ H', Ex H H' → Q (.int (crossL ns)) H')
def t_law_told (K : PySem.W.Frag) (A : Ads) (W : WX) : TS :=
  (tSeq (tAsg (tC .non) (gName 3))
    (tSeq (tAsg (tC .non) (gName 4))
    (tCut (fun D σ H => (fun W : WX => (tIfS (tTest (tOp (rEqP K) (tVar 0) (tC (.int 0)))) (tAsg (tCallS (sp_look_order K A) (WE W) (tCons (tCB (rLenS K) (tCons (tVar 1) tNil)) (tCons (tVar 1) tNil))) (gName 4)) (tIfS (tTest (tOp (rEqP K) (tVar 0) (tC (.int 1)))) (tAsg (tCallS (sp_turned_order K A) (WE W) (tCons (tVar 1) tNil)) (gName 4)) (tAsg (tIf (tTest (tOp (rEqP K) (tVar 0) (tC (.int 2)))) (tCallS (sp_behind_order K A) (WE W) (tCons (tVar 1) (tCons (tVar 2) tNil))) (tCallS (sp_crossings K A) (WE W) (tCons (tVar 1) tNil))) (gName 4))))) (wKeep K (.ref A.NestError) 5 3 D) D σ H)
    (tRet (tIf (tTest (tOp rIsNn (tVar 3) (tC .non))) (tVar 4) (tCallS (sp_law_refusal K A) (WE W) (tCons (tVar 3) tNil)))))))
theorem pu_law_told (T : KeptT K A A.BadOrder 2) (h : sp_law_told K A vs H Q E) : t_law_told K A (WXE E) (DQ Q) (start ["_law_way", "_law_one", "_law_other", "_law_kept", "_law_found", "e"] vs) H := by
  obtain ⟨_, way, v, v2, ns, ms, rfl, hw, hv, hv2, hl, kb, k0, k1, k2, k3⟩ := h
  refine q_asg ev_c fun H1 e1 => q_asg ev_c fun H2 e2 => ?_
  have e := e1.trans e2
  refine q_cut (M := fun σ' H' => ∃ a b, σ' = [some (.int way), some v, some v2, some a, some b, none] ∧ ((a = .non ∧ ∀ H'', Ex H' H'' → Q b H'') ∨ ∃ p, a = .ref p ∧ H' p = some (ExK (.ref A.BadOrder) p) ∧ ∀ H'', Ex H' H'' → Q (.str "order") H'')) ?_ ?_
  · have bad : Bad way ns ms → ∀ H3, Ex H2 H3 → ∀ D : Ends, D.nx = (fun σ' H' => ∃ a b, σ' = [some (.int way), some v, some v2, some a, some b, none] ∧ ((a = .non ∧ ∀ H'', Ex H' H'' → Q b H'') ∨ ∃ p, a = .ref p ∧ H' p = some (ExK (.ref A.BadOrder) p) ∧ ∀ H'', Ex H' H'' → Q (.str "order") H'')) →
        wKeep K (.ref A.NestError) 5 3 D (.ref A.BadOrder) none [some (.int way), some v, some v2, some .non, some .non, none] H3 := fun hb H3 e3 D hD => ⟨T.em, rfl, fun a ha => by
      rw [hD]
      refine ⟨.ref a, .non, rfl, .inr ⟨a, rfl, upd_same, fun H'' e4 => kb hb H'' ((e.trans e3).trans ((Ex.new ha).trans e4))⟩⟩⟩
    refine s_if (et_test (ev_eqD (K := K) (ed_int (ev_var rfl)) (ed_int ev_c))) (fun hb H3 e3 => ?_) (fun hb H3 e3 => s_if (et_test (ev_eqD (K := K) (ed_int (ev_var rfl)) (ed_int ev_c))) (fun hb1 H4 e4 => ?_) (fun hb1 H4 e4 => ?_))
    · have w0 : way = 0 := by simpa using hb
      refine cl2 (ed_int (ev_lenT (ed_var rfl (hd_ex (e.trans e3) hv)))) (ed_var rfl (hd_ex (e.trans e3) hv)) fun w w2 H4 e4 hw hw2 => ?_
      rw [hd_int hw]
      refine ⟨rfl, _, w2, ns, rfl, hw2, fun hn H5 e5 => ?_, fun hn H5 e5 => ?_⟩
      · refine ⟨_, _, rfl, .inl ⟨rfl, fun H6 e6 => k0 (fun z => ?_) w0 H6 ((((e.trans e3).trans e4).trans e5).trans e6)⟩⟩
        rcases z with z | z
        · exact z hn
        · omega
      · exact bad (.inl hn) H5 ((e3.trans e4).trans e5) _ rfl
    · have w1 : way = 1 := by simpa using hb1
      refine cl1 (ed_var rfl (hd_ex ((e.trans e3).trans e4) hv)) fun w H5 e5 hw => ?_
      refine ⟨rfl, w, ns, rfl, hw, hl, fun hn w' H6 e6 hw' => ?_, fun hn H6 e6 => ?_⟩
      · refine ⟨_, _, rfl, .inl ⟨rfl, fun H7 e7 => k1 (fun z => ?_) w1 _ H7 (((((e.trans e3).trans e4).trans e5).trans e6).trans e7) (hd_ex e7 hw')⟩⟩
        rcases z with z | z
        · exact z hn
        · omega
      · exact bad (.inl hn) H6 (((e3.trans e4).trans e5).trans e6) _ rfl
    · have w0 : way ≠ 0 := by simpa using hb
      have w1 : way ≠ 1 := by simpa using hb1
      have e' := (e.trans e3).trans e4
      show tIf _ _ _ _ H4 _
      refine (et_test (ev_eqD (K := K) (ed_int (ev_var rfl)) (ed_int ev_c))) H4 (Ex.refl H4) _ fun H5 e5 => ?_
      by_cases w2 : way = 2
      · rw [if_pos (decide_eq_true w2)]
        refine cl2 (ed_var rfl (hd_ex (e'.trans e5) hv)) (ed_var rfl (hd_ex (e'.trans e5) hv2)) fun w w' H6 e6 hw hw' => ?_
        refine ⟨rfl, w, w', ns, ms, rfl, hw, hw', hl, fun hn w'' H7 e7 hw'' => ?_, fun hn H7 e7 => ?_⟩
        · refine ⟨_, _, rfl, .inl ⟨rfl, fun H8 e8 => k2 (fun z => ?_) w2 _ H8 ((((e'.trans e5).trans e6).trans e7).trans e8) (hd_ex e8 hw'')⟩⟩
          rcases z with z | z
          · exact z hn.1
          · exact z.2 hn.2
        · refine bad ?_ H7 ((((e3.trans e4).trans e5).trans e6).trans e7) _ rfl
          by_cases h1 : IsOrd ns.length ns
          · exact .inr ⟨w2, fun z => hn ⟨h1, z⟩⟩
          · exact .inl h1
      · rw [if_neg (by rw [decide_eq_false w2]; decide)]
        refine cl1 (ed_var rfl (hd_ex (e'.trans e5) hv)) fun w H6 e6 hw => ?_
        refine ⟨rfl, w, ns, rfl, hw, hl, fun hn H7 e7 => ?_, fun hn H7 e7 => ?_⟩
        · refine ⟨_, _, rfl, .inl ⟨rfl, fun H8 e8 => k3 (fun z => ?_) (by omega) H8 ((((e'.trans e5).trans e6).trans e7).trans e8)⟩⟩
          rcases z with z | z
          · exact z hn
          · exact w2 z.1
        · exact bad (.inl hn) H7 ((((e3.trans e4).trans e5).trans e6).trans e7) _ rfl
  · rintro σ' H' ⟨a, b, rfl, ⟨rfl, q⟩ | ⟨p, rfl, hp, q⟩⟩
    · exact s_rets (ev_if (et_test (ev_isN (ev_var rfl))) (fun _ => ev_var rfl) (fun hb => by simp at hb)) q
    · refine s_rets (v := .str "order") (ev_if (et_test (ev_isN (ev_var rfl))) (fun hb => by simp at hb) (fun _ H1 e1 Q q => ?_)) q
      exact ⟨_, rfl, ⟨rfl, .inr ⟨p, _, 2, rfl, e1 _ _ hp, T, by decide, q⟩⟩⟩
/-! what the law is told -/
section
variable {σ : L2.St} {ta tb tc : TE} {way : Int} {ns ms : List Int} {EX : L2.St → XK}
theorem td_bad (h1 : Ev ta σ H (.int way)) (h2 : EvD K tb σ H (Tup.mk ns)) (h3 : EvD K tc σ H (Tup.mk ms)) (hw : 0 ≤ way ∧ way ≤ 3) (hl : ns.length ≤ 1000) (hb : Bad way ns ms) : EvD K (tCallS (sp_law_told K A) EX (tCons ta (tCons tb (tCons tc tNil)))) σ H (("order" : Str)) :=
  ed_cl3 (ed_int h1) h2 h3 fun w w2 w3 H1 e1 d1 d2 d3 Q E q => by
    rw [hd_int d1]
    exact ⟨rfl, way, w2, w3, ns, ms, rfl, hw, d2, d3, hl, fun _ H' e => q _ H' e (of_str _), fun z => (z hb).elim, fun z => (z hb).elim, fun z => (z hb).elim, fun z => (z hb).elim⟩
theorem td_0 (h1 : Ev ta σ H (.int 0)) (h2 : EvD K tb σ H (Tup.mk ns)) (h3 : EvD K tc σ H (Tup.mk ms)) (hl : ns.length ≤ 1000) (hb : ¬ Bad 0 ns ms) : Ev (tCallS (sp_law_told K A) EX (tCons ta (tCons tb (tCons tc tNil)))) σ H .non := fun H0 e0 Q0 q0 =>
  ed_cl3 (K := K) (z := ()) (ed_int h1) h2 h3 (fun w w2 w3 H1 e1 d1 d2 d3 Q E q => by
    rw [hd_int d1]
    exact ⟨rfl, 0, w2, w3, ns, ms, rfl, ⟨by decide, by decide⟩, d2, d3, hl, fun z => (hb z).elim, fun _ _ H' e => q _ H' e .non, fun _ z => (by cases z), fun _ z => (by cases z), fun _ z => (by cases z)⟩) H0 e0 Q0 fun v H2 e2 hv => by
    rw [hd_unit hv]
    exact q0 H2 e2
theorem td_1 (h1 : Ev ta σ H (.int 1)) (h2 : EvD K tb σ H (Tup.mk ns)) (h3 : EvD K tc σ H (Tup.mk ms)) (hl : ns.length ≤ 1000) (hb : ¬ Bad 1 ns ms) : EvD K (tCallS (sp_law_told K A) EX (tCons ta (tCons tb (tCons tc tNil)))) σ H (Tup.mk (turnL ns)) :=
  ed_cl3 (ed_int h1) h2 h3 fun w w2 w3 H1 e1 d1 d2 d3 Q E q => by
    rw [hd_int d1]
    exact ⟨rfl, 1, w2, w3, ns, ms, rfl, ⟨by decide, by decide⟩, d2, d3, hl, fun z => (hb z).elim, fun _ z => (by cases z), fun _ _ w H' e d => q w H' e d, fun _ z => (by cases z), fun _ z => (by cases z)⟩
theorem td_2 (h1 : Ev ta σ H (.int 2)) (h2 : EvD K tb σ H (Tup.mk ns)) (h3 : EvD K tc σ H (Tup.mk ms)) (hl : ns.length ≤ 1000) (hb : ¬ Bad 2 ns ms) : EvD K (tCallS (sp_law_told K A) EX (tCons ta (tCons tb (tCons tc tNil)))) σ H (Tup.mk (behL ns ms)) :=
  ed_cl3 (ed_int h1) h2 h3 fun w w2 w3 H1 e1 d1 d2 d3 Q E q => by
    rw [hd_int d1]
    exact ⟨rfl, 2, w2, w3, ns, ms, rfl, ⟨by decide, by decide⟩, d2, d3, hl, fun z => (hb z).elim, fun _ z => (by cases z), fun _ z => (by cases z), fun _ _ w H' e d => q w H' e d, fun _ z => (by cases z)⟩
end
/-! the law -/
def sp_law (K : PySem.W.Frag) (A : Ads) : Sp := fun vs H Q E => ∃ (v : V) (ss : List Int), vs = [v] ∧ Hd K H v ss ∧ ∀ H', Ex H H' → Q (.bl true) H'
/-- what stands before the ifs, and between them -/
def MidL (K : PySem.W.Frag) (H : Hp) (v : V) (m nu c : Int) (P : List Int → List Int → Prop) (σ' : L2.St) (H' : Hp) : Prop :=
  ∃ w1 w2 ns ms, σ' = [some v, some (.int m), some w1, some w2, some (.int nu), some (.int c), none, none, none, none, none, none, none, none] ∧ Ex H H' ∧ Hd K H' w1 (Tup.mk ns) ∧ Hd K H' w2 (Tup.mk ms) ∧ P ns ms
theorem cut_len {α : Type} {xs : List α} {c : Nat} (h : c < xs.length) : (cutA xs none (some (c : Int))).length = c ∧ (cutA xs (some ((c : Int) + 1)) none).length = xs.length - (c + 1) := by
  rw [cutA_to (by omega), cutA_from1 h, List.length_take, List.length_drop]
  omega
theorem atI_last {ns : List Int} (h : 0 < ns.length) : atI ns (-1) = some (ns.getD (ns.length - 1) 0) := by
  unfold atI ixN
  rw [if_neg (by decide), if_pos (by omega)]
  show ns[((-1 : Int) + (ns.length : Int)).toNat]? = _
  rw [show ((-1 : Int) + (ns.length : Int)).toNat = ns.length - 1 by omega]
  exact getD_get (by omega)
def t_law (K : PySem.W.Frag) (A : Ads) (W : WX) : TS :=
  (tSeq (tAsg (tOp rAddI (tC (.int 1)) (tOp rModI (tCallS (sp_law_mix K A) (WE W) (tCons (tVar 0) (tCons (tC (.int 0)) tNil))) (tC (.int 9)))) (gName 1))
    (tSeq (tAsg (tCallS (sp_law_shuffled K A) (WE W) (tCons (tVar 0) (tCons (tC (.int 1)) (tCons (tVar 1) tNil)))) (gName 2))
    (tSeq (tAsg (tCallS (sp_law_shuffled K A) (WE W) (tCons (tVar 0) (tCons (tC (.int 11)) (tCons (tVar 1) tNil)))) (gName 3))
    (tSeq (tAsg (tCallS (sp_law_mix K A) (WE W) (tCons (tVar 0) (tCons (tC (.int 21)) tNil))) (gName 4))
    (tSeq (tAsg (tOp rModI (tOp rDivI (tVar 4) (tC (.int 8))) (tVar 1)) (gName 5))
    (tCut (tIfS (tTest (tOp (rEqP K) (tOp rModI (tVar 4) (tC (.int 8))) (tC (.int 0)))) (tAsg (tOp (rCatP K) (tOp (rCatP K) (tSl (rSlP K) (tVar 2) tNoPart (tPart (tVar 5))) (tTupP (tCons (tOp rAddI (tOp (rIx K) (tVar 2) (tVar 5)) (tOp (rIx K) (tLst (tCons (tC (.int 1)) (tCons (tUn (rU fun i => .int (-i)) (tC (.int 1))) (tCons (tVar 1) tNil)))) (tOp rModI (tOp rDivI (tVar 4) (tC (.int 128))) (tC (.int 3))))) tNil))) (tSl (rSlP K) (tVar 2) (tPart (tOp rAddI (tVar 5) (tC (.int 1)))) tNoPart)) (gName 2)) tNext)
    (tCut (tIfS (tTest (tOp (rEqP K) (tOp rModI (tVar 4) (tC (.int 8))) (tC (.int 1)))) (tAsg (tOp (rCatP K) (tSl (rSlP K) (tVar 3) tNoPart (tPart (tVar 5))) (tSl (rSlP K) (tVar 3) (tPart (tOp rAddI (tVar 5) (tC (.int 1)))) tNoPart)) (gName 3)) tNext)
    (tCut (tIfS (tTest (tOp (rEqP K) (tOp rModI (tVar 4) (tC (.int 8))) (tC (.int 2)))) (tAsg (tOp (rCatP K) (tOp (rCatP K) (tSl (rSlP K) (tVar 3) tNoPart (tPart (tVar 5))) (tTupP (tCons (tOp (rIx K) (tVar 3) (tOp rSubI (tVar 5) (tC (.int 1)))) tNil))) (tSl (rSlP K) (tVar 3) (tPart (tOp rAddI (tVar 5) (tC (.int 1)))) tNoPart)) (gName 3)) tNext)
    (tCut (tIfS (tTest (tOp (rEqP K) (tOp rModI (tVar 4) (tC (.int 8))) (tC (.int 3)))) (tAsg (tTupP tNil) (gName 2)) tNext)
    (tSeq (tAsg (tAndV (tOp rInRg (tCB (rLenS K) (tCons (tVar 2) tNil)) (tCB rRange2 (tCons (tC (.int 1)) (tCons (tC (.int 9)) tNil)))) (tOp (rEqP K) (tCB (rSortedQ K) (tCons (tVar 2) tNil)) (tLstRg (tRg1 (tCB (rLenS K) (tCons (tVar 2) tNil)))))) (gName 6))
    (tSeq (tIfS (tNot (tB (tVar 6))) (tRet (tOp (rEqP K) (tLc (iRng1 (tCons (tC (.int 4)) tNil)) (gName 7) tYes (tCallS (sp_law_told K A) (WE W0) (tCons (tVar 7) (tCons (tVar 2) (tCons (tVar 3) tNil)))) [7]) (tOp rRep (tLst (tCons (tC (.str "order")) tNil)) (tC (.int 4))))) tNext)
    (tSeq (tAsg (tCallS (sp_law_told K A) (WE W) (tCons (tC (.int 1)) (tCons (tVar 2) (tCons (tVar 3) tNil)))) (gName 8))
    (tSeq (tIfS (tOr (tTest (tOp rIsNotNn (tCallS (sp_law_told K A) (WE W) (tCons (tC (.int 0)) (tCons (tVar 2) (tCons (tVar 3) tNil)))) (tC .non))) (tOr (tNot (tB (tCB (rIsA K) (tCons (tVar 8) (tCons (tC (.ty "tuple")) tNil))))) (tTest (tOp (rNeP K) (tCB (rLenS K) (tCons (tVar 8) tNil)) (tCB (rLenS K) (tCons (tVar 2) tNil)))))) (tRet (tC (.bl false))) tNext)
    (tSeq (tIfS (tTest (tOp (rNeP K) (tLc (iRng1 (tCons (tCB (rLenS K) (tCons (tVar 2) tNil)) tNil)) (gName 9) tYes (tOp (rIx K) (tVar 8) (tOp (rIx K) (tVar 2) (tVar 9))) [9]) (tLstRg (tRg1 (tCB (rLenS K) (tCons (tVar 2) tNil)))))) (tRet (tC (.bl false))) tNext)
    (tSeq (tAsg (tC (.int 0)) (gName 10))
    (tSeq (tFor (iRng1 (tCons (tCB (rLenS K) (tCons (tVar 2) tNil)) tNil)) (gName 11) (tAsg (tOp rAddI (tVar 10) (tCB (rLenS K) (tCons (tLc (iRng1 (tCons (tVar 11) tNil)) (gName 12) (tTest (tOp rGtI (tOp (rIx K) (tVar 2) (tVar 12)) (tOp (rIx K) (tVar 2) (tVar 11)))) (tVar 12) [12]) tNil))) (gName 10)))
    (tSeq (tIfS (tOr (tNot (tB (tCallS (sp_law_whole K A) (WE W) (tCons (tCallS (sp_crossings K A) (WE W) (tCons (tVar 2) tNil)) tNil)))) (tTest (tOp (rNeP K) (tCallS (sp_crossings K A) (WE W) (tCons (tVar 2) tNil)) (tVar 10)))) (tRet (tC (.bl false))) tNext)
    (tSeq (tAsg (tC (.str "order")) (gName 13))
    (tSeq (tIfS (tAnd (tTest (tOp (rEqP K) (tCB (rLenS K) (tCons (tVar 3) tNil)) (tCB (rLenS K) (tCons (tVar 2) tNil)))) (tTest (tOp (rEqP K) (tCB (rSortedQ K) (tCons (tVar 3) tNil)) (tLstRg (tRg1 (tCB (rLenS K) (tCons (tVar 3) tNil))))))) (tAsg (tThen (tLc (iTup K (tVar 2)) (gName 9) tYes (tOp (rIx K) (tVar 3) (tVar 9)) [9]) (kTupP K)) (gName 13)) tNext)
    (tRet (tOp (rEqP K) (tCallS (sp_law_told K A) (WE W) (tCons (tC (.int 2)) (tCons (tVar 2) (tCons (tVar 3) tNil)))) (tVar 13))))))))))))))))))))))
theorem pu_law (T : KeptT K A A.BadOrder 2) (h : sp_law K A vs H Q E) : t_law K A (WXE E) (DQ Q) (start ["_law_script", "_law_many", "_law_one", "_law_other", "_law_number", "_law_at", "_law_good", "_law_way", "_law_back", "_law_place", "_law_pairs", "_law_k", "_law_j", "_law_due"] vs) H := by
  obtain ⟨v, ss, rfl, hv, q⟩ := h
  refine q_asg (v := .int (1 + mixF ss 0 % 9)) (ei_add ev_c (ei_mod (ed_mix (K := K) (ed_var rfl hv) ev_c) ev_c (by decide))) fun H1 e1 => ?_
  obtain ⟨m, hm, hm1, hm9⟩ : ∃ m : Int, 1 + mixF ss 0 % 9 = m ∧ 1 ≤ m ∧ m ≤ 9 := ⟨_, rfl, by omega, by omega⟩
  rw [hm]
  refine qc_asg (cl3 (K := K) (ed_var rfl (hd_ex e1 hv)) (ed_int ev_c) (ed_int (ev_var rfl)) fun w w2 w3 H2 e2 hw hw2 hw3 => ?_)
  rw [hd_int hw2, hd_int hw3]
  refine ⟨rfl, w, ss, 1, m, rfl, hw, by omega, by omega, fun ns pn w1 H3 e3 d1 => ?_⟩
  have e := (e1.trans e2).trans e3
  refine qc_asg (cl3 (K := K) (ed_var rfl (hd_ex e hv)) (ed_int ev_c) (ed_int (ev_var rfl)) fun w w2 w3 H4 e4 hw hw2 hw3 => ?_)
  rw [hd_int hw2, hd_int hw3]
  refine ⟨rfl, w, ss, 11, m, rfl, hw, by omega, by omega, fun ms pm w2 H5 e5 d2 => ?_⟩
  have e := (e.trans e4).trans e5
  replace d1 := hd_ex (e4.trans e5) d1
  have ln := pn.length_eq
  have lm := pm.length_eq
  rw [upTo_len] at ln lm
  clear hw hw2 hw3
  refine q_asg (v := .int (mixF ss 21)) (ed_mix (K := K) (ed_var rfl (hd_ex e hv)) ev_c) fun H6 e6 => ?_
  obtain ⟨nu, hnu, nu0⟩ : ∃ nu : Int, mixF ss 21 = nu ∧ 0 ≤ nu := ⟨_, rfl, mixF_nn _ _⟩
  rw [hnu]
  refine q_asg (v := .int (nu / 8 % m)) (ei_mod (ei_div (ev_var rfl) ev_c ⟨by decide, by decide⟩) (ev_var rfl) (by omega)) fun H7 e7 => ?_
  have c0 : 0 ≤ nu / 8 % m := Int.emod_nonneg _ (by omega)
  have c1 : nu / 8 % m < m := Int.emod_lt_of_pos _ (by omega)
  obtain ⟨c, hc⟩ : ∃ c : Nat, nu / 8 % m = c := ⟨(nu / 8 % m).toNat, by omega⟩
  rw [hc] at c0 c1 ⊢
  replace d1 := hd_ex (e6.trans e7) d1
  replace d2 := hd_ex (e6.trans e7) d2
  replace e := (e.trans e6).trans e7
  clear e1 e2 e3 e4 e5 e6 e7
  -- the first if
  refine q_cut (M := MidL K H v m nu c fun ns ms => ns.length ≤ 9 ∧ ms.length = m.toNat) ?_ ?_
  · refine s_if (et_test (ev_eqD (K := K) (ed_int (ei_mod (ev_var rfl) ev_c (by decide))) (ed_int ev_c))) (fun hb H1 e1 => ?_) (fun hb H1 e1 => ?_)
    · have j0 : 0 ≤ nu / 128 % 3 := Int.emod_nonneg _ (by decide)
      have j1 : nu / 128 % 3 < 3 := Int.emod_lt_of_pos _ (by decide)
      obtain ⟨j, hj⟩ : ∃ j : Nat, nu / 128 % 3 = j := ⟨(nu / 128 % 3).toNat, by omega⟩
      have hc1 : c < ns.length := by omega
      obtain ⟨l1, l2⟩ := cut_len hc1
      refine sd_asg (K := K) (x := Tup.mk ((cutA ns none (some (c : Int)) ++ [ns.getD c 0 + [1, -1, m].getD j 0]) ++ cutA ns (some ((c : Int) + 1)) none)) (ed_catT (ed_catT (ed_slT (ed_var rfl (hd_ex e1 d1)) eo_none (eo_some (ev_var rfl))) (ed_tupA (eas_cons (ed_int (ei_add (EvD.int (ed_ixT (K := K) (xs := ns) (i := (c : Int)) (ed_var rfl (hd_ex e1 d1)) (ev_var rfl) (atI_nat (getD_get hc1)))) (EvD.int (ed_ixL (K := K) (xs := [1, -1, m]) (i := nu / 128 % 3) (EvN.d (en_lstA (eas_cons (ed_int ev_c) (eas_cons (ed_int (ei_neg ev_c)) (eas_cons (ed_int (ev_var rfl)) eas_nil))) (by show 3 ≤ 100000; decide))) (ei_mod (ei_div (ev_var rfl) ev_c ⟨by decide, by decide⟩) ev_c (by decide)) (by rw [hj]; exact atI_nat (getD_get (by show j < 3; omega))))))) eas_nil) (by show 1 ≤ 100000; decide)) ?_) (ed_slT (ed_var rfl (hd_ex e1 d1)) (eo_some (ei_add (ev_var rfl) ev_c)) eo_none) ?_) fun w H2 e2 hw => ⟨w, w2, _, ms, rfl, (e.trans e1).trans e2, hw, hd_ex (e1.trans e2) d2, ?_, lm⟩
      · rw [l1]; show c + 1 ≤ 100000; omega
      · rw [List.length_append, l1, l2]; show c + 1 + _ ≤ 100000; omega
      · rw [List.length_append, List.length_append, l1, l2]; show c + 1 + _ ≤ 9; omega
    · exact ⟨w1, w2, ns, ms, rfl, e.trans e1, hd_ex e1 d1, hd_ex e1 d2, by omega, lm⟩
  clear d1 d2 ln lm pn pm ns ms w1 w2 e
  rintro σ' H1 ⟨w1, w2, ns, ms, rfl, e, d1, d2, ln, lm⟩
  -- the second
  refine q_cut (M := MidL K H v m nu c fun ns ms => ns.length ≤ 9 ∧ ms.length ≤ 9 ∧ (nu % 8 = 2 → ms.length = m.toNat)) ?_ ?_
  · refine s_if (et_test (ev_eqD (K := K) (ed_int (ei_mod (ev_var rfl) ev_c (by decide))) (ed_int ev_c))) (fun hb H2 e2 => ?_) (fun hb H2 e2 => ?_)
    · have hb' : nu % 8 = 1 := by simpa using hb
      have hc1 : c < ms.length := by omega
      obtain ⟨l1, l2⟩ := cut_len hc1
      refine sd_asg (K := K) (x := Tup.mk (cutA ms none (some (c : Int)) ++ cutA ms (some ((c : Int) + 1)) none)) (ed_catT (ed_slT (ed_var rfl (hd_ex e2 d2)) eo_none (eo_some (ev_var rfl))) (ed_slT (ed_var rfl (hd_ex e2 d2)) (eo_some (ei_add (ev_var rfl) ev_c)) eo_none) ?_) fun w H3 e3 hw => ⟨w1, w, ns, _, rfl, (e.trans e2).trans e3, hd_ex (e2.trans e3) d1, hw, ln, ?_, fun z => by omega⟩
      · rw [l1, l2]; omega
      · rw [List.length_append, l1, l2]; omega
    · exact ⟨w1, w2, ns, ms, rfl, e.trans e2, hd_ex e2 d1, hd_ex e2 d2, ln, by omega, fun _ => lm⟩
  clear d1 d2 ln lm e w1 w2 ns ms H1
  rintro σ' H1 ⟨w1, w2, ns, ms, rfl, e, d1, d2, ln, lm, lm2⟩
  -- the third
  refine q_cut (M := MidL K H v m nu c fun ns ms => ns.length ≤ 9 ∧ ms.length ≤ 9) ?_ ?_
  · refine s_if (et_test (ev_eqD (K := K) (ed_int (ei_mod (ev_var rfl) ev_c (by decide))) (ed_int ev_c))) (fun hb H2 e2 => ?_) (fun hb H2 e2 => ?_)
    · have hb' : nu % 8 = 2 := by simpa using hb
      have lm3 := lm2 hb'
      have hc1 : c < ms.length := by omega
      obtain ⟨l1, l2⟩ := cut_len hc1
      obtain ⟨y, hy⟩ : ∃ y, atI ms ((c : Int) - 1) = some y := by
        by_cases h0 : c = 0
        · refine ⟨ms.getD (ms.length - 1) 0, ?_⟩
          rw [h0]
          exact atI_last (by omega)
        · rw [show (c : Int) - 1 = ((c - 1 : Nat) : Int) by omega]
          exact ⟨_, atI_nat (getD_get (by omega))⟩
      refine sd_asg (K := K) (x := Tup.mk ((cutA ms none (some (c : Int)) ++ [y]) ++ cutA ms (some ((c : Int) + 1)) none)) (ed_catT (ed_catT (ed_slT (ed_var rfl (hd_ex e2 d2)) eo_none (eo_some (ev_var rfl))) (ed_tupA (eas_cons (ed_ixT (K := K) (xs := ms) (i := (c : Int) - 1) (ed_var rfl (hd_ex e2 d2)) (ei_sub (ev_var rfl) ev_c) hy) eas_nil) (by show 1 ≤ 100000; decide)) ?_) (ed_slT (ed_var rfl (hd_ex e2 d2)) (eo_some (ei_add (ev_var rfl) ev_c)) eo_none) ?_) fun w H3 e3 hw => ⟨w1, w, ns, _, rfl, (e.trans e2).trans e3, hd_ex (e2.trans e3) d1, hw, ln, ?_⟩
      · rw [l1]; show c + 1 ≤ 100000; omega
      · rw [List.length_append, l1, l2]; show c + 1 + _ ≤ 100000; omega
      · rw [List.length_append, List.length_append, l1, l2]; show c + 1 + _ ≤ 9; omega
    · exact ⟨w1, w2, ns, ms, rfl, e.trans e2, hd_ex e2 d1, hd_ex e2 d2, ln, lm⟩
  clear d1 d2 ln lm lm2 e w1 w2 ns ms H1
  rintro σ' H1 ⟨w1, w2, ns, ms, rfl, e, d1, d2, ln, lm⟩
  -- the fourth
  refine q_cut (M := MidL K H v m nu c fun ns ms => ns.length ≤ 9 ∧ ms.length ≤ 9) ?_ ?_
  · refine s_if (et_test (ev_eqD (K := K) (ed_int (ei_mod (ev_var rfl) ev_c (by decide))) (ed_int ev_c))) (fun hb H2 e2 => ?_) (fun hb H2 e2 => ?_)
    · exact sd_asg (K := K) (x := Tup.mk ([] : List Int)) (ed_tupA eas_nil (by decide)) fun w H3 e3 hw => ⟨w, w2, _, ms, rfl, (e.trans e2).trans e3, hw, hd_ex (e2.trans e3) d2, by decide, lm⟩
    · exact ⟨w1, w2, ns, ms, rfl, e.trans e2, hd_ex e2 d1, hd_ex e2 d2, ln, lm⟩
  clear d1 d2 ln lm e w1 w2 ns ms H1
  rintro σ' H1 ⟨w1, w2, ns, ms, rfl, e, d1, d2, ln, lm⟩
  -- good
  refine q_asg (v := .bl (decide (IsOrd ns.length ns))) (ev_is (ev_andV (ev_inRg (ev_lenT (K := K) (ed_var rfl d1)) ev_c ev_c) fun _ => ev_eqD (K := K) (EvN.d (en_sortT (ed_var rfl d1))) (EvN.d (en_listRg (ev_lenT (K := K) (ed_var rfl d1)) (by omega)))) ?_) fun H2 e2 => ?_
  · congr 1
    rw [Bool.eq_iff_iff, Bool.and_eq_true, decide_eq_true_iff, decide_eq_true_iff, decide_eq_true_iff]
    unfold IsOrd
    constructor
    · rintro ⟨h1, h2⟩
      exact ⟨by omega, by omega, h2⟩
    · rintro ⟨h1, h2, h3⟩
      exact ⟨by omega, h3⟩
  replace e := e.trans e2
  replace d1 := hd_ex e2 d1
  replace d2 := hd_ex e2 d2
  clear e2 H1
  refine q_when (et_not (et_B (ev_var rfl))) (fun hb H3 e3 => ?_) (fun hb H3 e3 => ?_)
  · have ng : ¬ IsOrd ns.length ns := by simpa using hb
    refine s_rets (v := .bl true) (ev_is (ev_eqD (K := K) (EvN.d (en_lcR (fun _ => true) (fun _ => ("order" : Str)) (ea_cons ev_c ea_nil) (by decide) fun x H4 R x0 x4 e4 q => ?_)) (EvN.d (en_rep (K := K) (xs := [("order" : Str)]) (en_lstA (eas_cons (ed_str ev_c) eas_nil) (by show 1 ≤ 100000; decide)) ev_c (by decide) (by show 1 * 4 ≤ 100000; decide)))) (by rfl)) fun H4 e4 => q H4 ((e.trans e3).trans e4)
    refine q _ H4 (Ex.refl _) rfl (fun H1 _ _ q => q H1 (Ex.refl H1)) fun _ => td_bad (ev_var rfl) (ed_var rfl (hd_ex (e3.trans e4) d1)) (ed_var rfl (hd_ex (e3.trans e4) d2)) (by omega) (by omega) (.inl ng)
  have gd : IsOrd ns.length ns := by simpa using hb
  have nb : ∀ way, way ≠ 2 → ¬ Bad way ns ms := fun way hw z => by
    rcases z with z | z
    · exact z gd
    · exact hw z.1
  replace e := e.trans e3
  replace d1 := hd_ex e3 d1
  replace d2 := hd_ex e3 d2
  clear e3 H2 hb
  -- turned
  refine qd_asg (K := K) (td_1 ev_c (ed_var rfl d1) (ed_var rfl d2) (by omega) (nb 1 (by decide))) fun w3 H4 e4 d3 => ?_
  replace e := e.trans e4
  replace d1 := hd_ex e4 d1
  replace d2 := hd_ex e4 d2
  clear e4 H3
  have lt : (turnL ns).length = ns.length := by unfold turnL; rw [List.length_map, upTo_len]
  refine q_when (b := false) (et_is (et_or (et_test (ev_isNotN (td_0 (K := K) ev_c (ed_var rfl d1) (ed_var rfl d2) (by omega) (nb 0 (by decide))))) fun _ => et_or (et_not (et_B (ev_isi (K := K) (b := true) (T := "tuple") (ed_var rfl d3) (fun _ _ h => ty_tup h) (by decide +kernel)))) fun _ => et_test (ev_neD (K := K) (ed_int (ev_lenT (ed_var rfl d3))) (ed_int (ev_lenT (ed_var rfl d1))))) (by rw [lt]; simp)) (fun hb => by cases hb) (fun _ H5 e5 => ?_)
  replace e := e.trans e5
  replace d1 := hd_ex e5 d1
  replace d2 := hd_ex e5 d2
  replace d3 := hd_ex e5 d3
  clear e5 H4
  refine q_when (b := false) (et_is (et_test (ev_neD (K := K) (EvN.d (en_lcR (fun _ => true) (fun x => x) (ea_cons (ev_lenT (K := K) (ed_var rfl d1)) ea_nil) (by omega) fun x H6 R x0 x1 e6 q => ?_)) (EvN.d (en_listRg (ev_lenT (K := K) (ed_var rfl d1)) (by omega))))) (by rw [filt_true, List.map_id']; simp)) (fun hb => by cases hb) (fun _ H6 e6 => ?_)
  · obtain ⟨p, rfl⟩ : ∃ p : Nat, x = p := ⟨x.toNat, by omega⟩
    have hp : p < ns.length := by omega
    refine q _ H6 (Ex.refl _) rfl (fun H1 _ _ q => q H1 (Ex.refl H1)) fun _ => ed_ixT (K := K) (xs := turnL ns) (ed_var rfl (hd_ex e6 d3)) (EvD.int (ed_ixT (K := K) (xs := ns) (i := (p : Int)) (ed_var rfl (hd_ex e6 d1)) (ev_var rfl) (atI_nat (getD_get hp)))) (turn_at gd hp)
  replace e := e.trans e6
  replace d1 := hd_ex e6 d1
  replace d2 := hd_ex e6 d2
  clear e6
  -- the pairs
  refine q_asg ev_c fun H7 e7 => ?_
  replace e := e.trans e7
  replace d1 := hd_ex e7 d1
  replace d2 := hd_ex e7 d2
  clear e7
  refine q_forR1 (n := ns.length) (ea_cons (ev_lenT (K := K) (ed_var rfl d1)) ea_nil) (by omega) (fun i σ H' => ∃ x y, σ = [some v, some (.int m), some w1, some w2, some (.int nu), some (.int c), some (.bl (decide (IsOrd ns.length ns))), none, some w3, none, some (.int (pairN ns i)), x, y, none] ∧ Ex H7 H') (fun H8 e8 => ⟨none, none, rfl, e8⟩) ?_ ?_
  · rintro i σ H8 hi ⟨x, y, rfl, e8⟩
    have d1 := hd_ex e8 d1
    refine s_asg (ei_add (ev_var rfl) (ev_lenL (K := K) (EvN.d (en_lcR (fun y => decide (ns.getD i 0 < ns.getD y.toNat 0)) (fun t => t) (ea_cons (ev_var rfl) ea_nil) (by omega) fun x H9 R x0 x1 e9 q => ?_)))) fun H9 e9 => ?_
    · obtain ⟨p, rfl⟩ : ∃ p : Nat, x = p := ⟨x.toNat, by omega⟩
      have d1 := hd_ex e9 d1
      refine q _ H9 (Ex.refl _) rfl (et_test (ei_gt (EvD.int (ed_ixT (K := K) (xs := ns) (i := (p : Int)) (ed_var rfl d1) (ev_var rfl) (atI_nat (getD_get (by omega))))) (EvD.int (ed_ixT (K := K) (xs := ns) (i := (i : Int)) (ed_var rfl d1) (ev_var rfl) (atI_nat (getD_get (by omega))))))) fun _ => ed_int (ev_var rfl)
    · refine ⟨some (.int (i : Int)), y, ?_, e8.trans e9⟩
      rw [pairN_succ, List.map_id']
      rfl
  rintro σ H8 ⟨x, y, rfl, e8⟩
  replace e := e.trans e8
  replace d1 := hd_ex e8 d1
  replace d2 := hd_ex e8 d2
  clear e8
  have pc : pairN ns ((ns.length : Int)).toNat = crossL ns := pair_cross ns
  have cr : ∀ {σ : L2.St} {H' : Hp} {EX : L2.St → XK} (_ : Ex H8 H') (_ : σ[2]? = some (some w1)), Ev (tCallS (sp_crossings K A) EX (tCons (tVar 2) tNil)) σ H' (.int (crossL ns)) := fun {σ H' EX} eh h2 => EvD.int (K := K) (ed_cl1 (ed_var h2 (hd_ex eh d1)) fun w H1 e1 dw Q E q => ⟨rfl, w, ns, rfl, dw, by omega, fun _ H2 e2 => q _ H2 e2 (of_int _), fun z => (z gd).elim⟩)
  refine q_when (b := false) (et_is (et_or (et_not (et_B (EvD.bool (K := K) (ed_cl1 (K := K) (x := crossL ns) (z := true) (ed_int (cr (Ex.refl _) rfl)) fun w H1 e1 dw Q E q => ⟨rfl, crossL ns, by rw [hd_int dw], fun H2 e2 => q _ H2 e2 (of_bool _)⟩)))) fun _ => et_test (ev_neD (K := K) (ed_int (cr (Ex.refl _) rfl)) (ed_int (ev_var rfl)))) (by rw [pc]; simp)) (fun hb => by cases hb) (fun _ H9 e9 => ?_)
  replace e := e.trans e9
  replace d1 := hd_ex e9 d1
  replace d2 := hd_ex e9 d2
  clear e9 cr
  refine q_asg ev_c fun H10 e10 => ?_
  replace e := e.trans e10
  replace d1 := hd_ex e10 d1
  replace d2 := hd_ex e10 d2
  clear e10
  have last : ∀ hb : Bool, hb = decide (IsOrd ns.length ms) → hb = (decide ((ms.length : Int) = (ns.length : Int)) && decide (sortI ms = upTo ((ms.length : Int)).toNat)) := fun hb h => by
    rw [h, Bool.eq_iff_iff, Bool.and_eq_true, decide_eq_true_iff, decide_eq_true_iff, decide_eq_true_iff]
    constructor
    · intro z
      have l := z.len
      refine ⟨l, ?_⟩
      rw [l]
      exact z.2.2
    · rintro ⟨h1, h2⟩
      refine ⟨gd.1, gd.2.1, ?_⟩
      rw [← h1]
      exact h2
  refine q_when (b := decide (IsOrd ns.length ms)) (et_is (et_and (et_test (ev_eqD (K := K) (ed_int (ev_lenT (ed_var rfl d2))) (ed_int (ev_lenT (ed_var rfl d1))))) fun _ => et_test (ev_eqD (K := K) (EvN.d (en_sortT (ed_var rfl d2))) (EvN.d (en_listRg (ev_lenT (K := K) (ed_var rfl d2)) (by omega))))) (last _ rfl).symm) (fun hb H11 e11 => ?_) (fun hb H11 e11 => ?_)
  · have ok : IsOrd ns.length ms := by simpa using hb
    have e' := e.trans e11
    have d1 := hd_ex e11 d1
    have d2 := hd_ex e11 d2
    refine sd_asg (K := K) (x := Tup.mk (behL ns ms)) (ed_tupOfL (EvD.is (EvN.d (en_lcT (fun _ => true) (fun p : Int => ms.getD p.toNat 0) (ed_var rfl d1) (by omega) fun y x H12 R hx e12 hy q => ?_)) (by rw [filt_true]; rfl))) fun w H12 e12 hw => ?_
    · rw [hd_int hy]
      refine q _ H12 (Ex.refl _) rfl (fun H1 _ _ q => q H1 (Ex.refl H1)) fun _ => ?_
      have hb := gd.mem.mp hx
      have hml := ok.len
      have hxn : x = ((x.toNat : Nat) : Int) := by omega
      refine ed_ixT (K := K) (xs := ms) (i := x) (ed_var rfl (hd_ex e12 d2)) (ev_var rfl) ?_
      rw [hxn]
      exact atI_nat (getD_get (by omega))
    · refine s_rets (v := .bl true) (ev_is (ev_eqD (K := K) (td_2 ev_c (ed_var rfl (hd_ex e12 d1)) (ed_var rfl (hd_ex e12 d2)) (by omega) (fun z => ?_)) (ed_var rfl hw)) (by simp)) fun H13 e13 => q H13 ((e'.trans e12).trans e13)
      rcases z with z | z
      · exact z gd
      · exact z.2 ok
  · have no : ¬ IsOrd ns.length ms := by simpa using hb
    exact s_rets (v := .bl true) (ev_is (ev_eqD (K := K) (td_bad ev_c (ed_var rfl (hd_ex e11 d1)) (ed_var rfl (hd_ex e11 d2)) (by decide) (by omega) (.inr ⟨rfl, no⟩)) (ed_str (b := "order") (ev_var rfl))) (by simp)) fun H13 e13 => q H13 ((e.trans e11).trans e13)
end
end OA

namespace OA
open PySem PySem.Spec PyProof.Rows L2 Evl
open PySem.W (Datum Tup T3 DatumOrd)
/-! ### the text by places (printed by gen.py) -/
def top (i : Nat) : Stmt := PySem.Challenge.pw_ordernest_k01_orders.main.body.getD i (.Pass ⟨0, 0, 0, 0⟩)
abbrev s_look_many : Stmt := top 11
theorem sc_look_many : FnScope ["many"] ["many"] (defScope s_look_many) := ⟨rfl, rfl, rfl, by decide +kernel, rfl, by decide +kernel, by decide +kernel⟩
abbrev s_look_order : Stmt := top 12
theorem sc_look_order : FnScope ["many", "order"] ["many", "order"] (defScope s_look_order) := ⟨rfl, rfl, rfl, by decide +kernel, rfl, by decide +kernel, by decide +kernel⟩
abbrev s_turned_order : Stmt := top 13
theorem sc_turned_order : FnScope ["order", "thing"] ["order"] (defScope s_turned_order) := ⟨rfl, rfl, rfl, by decide +kernel, rfl, by decide +kernel, by decide +kernel⟩
abbrev s_behind_order : Stmt := top 14
theorem sc_behind_order : FnScope ["one", "other", "place"] ["one", "other"] (defScope s_behind_order) := ⟨rfl, rfl, rfl, by decide +kernel, rfl, by decide +kernel, by decide +kernel⟩
abbrev s_crossings : Stmt := top 15
theorem sc_crossings : FnScope ["order", "found", "k", "thing"] ["order"] (defScope s_crossings) := ⟨rfl, rfl, rfl, by decide +kernel, rfl, by decide +kernel, by decide +kernel⟩
abbrev s_law_cell : Stmt := top 17
theorem sc_law_cell : FnScope ["_law_script", "_law_k"] ["_law_script", "_law_k"] (defScope s_law_cell) := ⟨rfl, rfl, rfl, by decide +kernel, rfl, by decide +kernel, by decide +kernel⟩
abbrev s_law_mix : Stmt := top 18
theorem sc_law_mix : FnScope ["_law_script", "_law_k", "_law_number"] ["_law_script", "_law_k"] (defScope s_law_mix) := ⟨rfl, rfl, rfl, by decide +kernel, rfl, by decide +kernel, by decide +kernel⟩
abbrev s_law_whole : Stmt := top 19
theorem sc_law_whole : FnScope ["_law_found"] ["_law_found"] (defScope s_law_whole) := ⟨rfl, rfl, rfl, by decide +kernel, rfl, by decide +kernel, by decide +kernel⟩
abbrev s_law_refusal : Stmt := top 20
theorem sc_law_refusal : FnScope ["_law_kept", "_law_kinds"] ["_law_kept"] (defScope s_law_refusal) := ⟨rfl, rfl, rfl, by decide +kernel, rfl, by decide +kernel, by decide +kernel⟩
abbrev s_law_shuffled : Stmt := top 21
theorem sc_law_shuffled : FnScope ["_law_script", "_law_k", "_law_many", "_law_left", "_law_found"] ["_law_script", "_law_k", "_law_many"] (defScope s_law_shuffled) := ⟨rfl, rfl, rfl, by decide +kernel, rfl, by decide +kernel, by decide +kernel⟩
abbrev s_law_told : Stmt := top 22
theorem sc_law_told : FnScope ["_law_way", "_law_one", "_law_other", "_law_kept", "_law_found", "e"] ["_law_way", "_law_one", "_law_other"] (defScope s_law_told) := ⟨rfl, rfl, rfl, by decide +kernel, rfl, by decide +kernel, by decide +kernel⟩
abbrev s_law : Stmt := top 23
theorem sc_law : FnScope ["_law_script", "_law_many", "_law_one", "_law_other", "_law_number", "_law_at", "_law_good", "_law_way", "_law_back", "_law_place", "_law_pairs", "_law_k", "_law_j", "_law_due"] ["_law_script"] (defScope s_law) := ⟨rfl, rfl, rfl, by decide +kernel, rfl, by decide +kernel, by decide +kernel⟩

/-! what the top has written -/
structure Txt (K : PySem.W.Frag) (mg : Str → Option Value) (A : Ads) : Prop where
  z_ValueError : mg "ValueError" = none
  z_bool : mg "bool" = none
  z_int : mg "int" = none
  z_isinstance : mg "isinstance" = none
  z_len : mg "len" = none
  z_list : mg "list" = none
  z_range : mg "range" = none
  z_sorted : mg "sorted" = none
  z_tuple : mg "tuple" = none
  g_MOST : ∃ t, mg "MOST" = some (.int 8 t)
  x_NestError : ExcT K mg "NestError" A.NestError
  x_BadOrder : ExcT K mg "BadOrder" A.BadOrder
  x_BadBook : ExcT K mg "BadBook" A.BadBook
  x_Unlike : ExcT K mg "Unlike" A.Unlike
  x_BadRule : ExcT K mg "BadRule" A.BadRule
  x_BadNumber : ExcT K mg "BadNumber" A.BadNumber
  x_BadWeights : ExcT K mg "BadWeights" A.BadWeights
  x_BadText : ExcT K mg "BadText" A.BadText


theorem d_look_many {P : Program} {w : World} {K : PySem.W.Frag} {mg : Str → Option Value} {base : Heap} {A : Ads} (T : Txt K mg A)  {f : Addr} {cdv : Value} {Ar : Around} {outer : List Env} {s : Shared} {H : Hp} {E : XK} (hr : Room 0 (Ar.deeper (envOfC "look_many" (defScope s_look_many) s.heap.objs.size f cdv))) :
    PSs (cxOf (L2.CX P w) P w K mg base ["many"] "look_many" (defScope s_look_many) f cdv Ar outer s H E) (defBody s_look_many) (t_look_many K A (fun cls d _ H' => E cls d H')) := by
  have nd := sc_look_many.nd
  have tk := takes_of (X := cxOf (L2.CX P w) P w K mg base ["many"] "look_many" (defScope s_look_many) f cdv Ar outer s H E) (E := E) rfl rfl rfl rfl
  have hp : PassesOwn (model P w) (cxOf (L2.CX P w) P w K mg base ["many"] "look_many" (defScope s_look_many) f cdv Ar outer s H E).A (cxOf (L2.CX P w) P w K mg base ["many"] "look_many" (defScope s_look_many) f cdv Ar outer s H E).env (cxOf (L2.CX P w) P w K mg base ["many"] "look_many" (defScope s_look_many) f cdv Ar outer s H E).xe := passes_of rfl
  exact (pss_one (ps_if (pt_not (pt_chain op_le op_le pe_int (pv 0) (pe_globI T.g_MOST))) (pss_one (ps_rs T.x_BadOrder rfl tk)) pss_nil))

theorem d_look_order {P : Program} {w : World} {K : PySem.W.Frag} {mg : Str → Option Value} {base : Heap} {A : Ads} (T : Txt K mg A) (c_look_many : Cl P w K mg base 1 "look_many" (sp_look_many K A)) {f : Addr} {cdv : Value} {Ar : Around} {outer : List Env} {s : Shared} {H : Hp} {E : XK} (hr : Room 1 (Ar.deeper (envOfC "look_order" (defScope s_look_order) s.heap.objs.size f cdv))) :
    PSs (cxOf (L2.CX P w) P w K mg base ["many", "order"] "look_order" (defScope s_look_order) f cdv Ar outer s H E) (defBody s_look_order) (t_look_order K A (fun cls d _ H' => E cls d H')) := by
  have nd := sc_look_order.nd
  have tk := takes_of (X := cxOf (L2.CX P w) P w K mg base ["many", "order"] "look_order" (defScope s_look_order) f cdv Ar outer s H E) (E := E) rfl rfl rfl rfl
  have hp : PassesOwn (model P w) (cxOf (L2.CX P w) P w K mg base ["many", "order"] "look_order" (defScope s_look_order) f cdv Ar outer s H E).A (cxOf (L2.CX P w) P w K mg base ["many", "order"] "look_order" (defScope s_look_order) f cdv Ar outer s H E).env (cxOf (L2.CX P w) P w K mg base ["many", "order"] "look_order" (defScope s_look_order) f cdv Ar outer s H E).xe := passes_of rfl
  exact (pss_cons (ps_expr (pe_cl c_look_many hr (by decide) tk (pa_cons (pv 0) pa_nil)))
      (pss_one (ps_if (pt_cmpR (op_neP hr.units) (pe_callB cr_sortedQ (by rfl) T.z_sorted (by decide +kernel) (pa_cons (pv 1) pa_nil)) (pe_listRg rfl (by rfl) T.z_list (prg_1 (by rfl) T.z_range (pv 0))) (nomark _)) (pss_one (ps_rs T.x_BadOrder rfl tk)) pss_nil)))

theorem d_turned_order {P : Program} {w : World} {K : PySem.W.Frag} {mg : Str → Option Value} {base : Heap} {A : Ads} (T : Txt K mg A) (c_look_order : Cl P w K mg base 2 "look_order" (sp_look_order K A)) {f : Addr} {cdv : Value} {Ar : Around} {outer : List Env} {s : Shared} {H : Hp} {E : XK} (hr : Room 2 (Ar.deeper (envOfC "turned_order" (defScope s_turned_order) s.heap.objs.size f cdv))) :
    PSs (cxOf (L2.CX P w) P w K mg base ["order", "thing"] "turned_order" (defScope s_turned_order) f cdv Ar outer s H E) (defBody s_turned_order) (t_turned_order K A (fun cls d _ H' => E cls d H')) := by
  have nd := sc_turned_order.nd
  have tk := takes_of (X := cxOf (L2.CX P w) P w K mg base ["order", "thing"] "turned_order" (defScope s_turned_order) f cdv Ar outer s H E) (E := E) rfl rfl rfl rfl
  have hp : PassesOwn (model P w) (cxOf (L2.CX P w) P w K mg base ["order", "thing"] "turned_order" (defScope s_turned_order) f cdv Ar outer s H E).A (cxOf (L2.CX P w) P w K mg base ["order", "thing"] "turned_order" (defScope s_turned_order) f cdv Ar outer s H E).env (cxOf (L2.CX P w) P w K mg base ["order", "thing"] "turned_order" (defScope s_turned_order) f cdv Ar outer s H E).xe := passes_of rfl
  exact (pss_cons (ps_expr (pe_cl c_look_order hr (by decide) tk (pa_cons (pe_callB call_len_seq (by rfl) T.z_len (by decide +kernel) (pa_cons (pv 0) pa_nil)) (pa_cons (pv 0) pa_nil))))
      (pss_one (ps_ret (pe_tupleOfP (by rfl) T.z_tuple (pe_lc (own := [("thing", 1)]) rfl nd (pi_range1 (by rfl) T.z_range (pa_cons (pe_callB call_len_seq (by rfl) T.z_len (by decide +kernel) (pa_cons (pv 0) pa_nil)) pa_nil)) (blkOk_by (own := [("thing", 1)]) (N := ["order", "thing"]) (sc := defScope s_turned_order) (by decide +kernel)) (fun _ _ _ _ _ => (pg_name (i := 1) nd rfl (by first | exact Or.inl rfl | exact Or.inr rfl))) (fun _ _ _ _ _ => pts_nil) (fun _ _ _ _ _ => (pe_bmP PySem.F.plainAttrs_tuple PySem.F.slot_tuple_index PySem.F.type_tuple_index (mt_tidx hr.units) (pv 0) (pa_cons (pv 1) pa_nil))))))))

theorem d_behind_order {P : Program} {w : World} {K : PySem.W.Frag} {mg : Str → Option Value} {base : Heap} {A : Ads} (T : Txt K mg A) (c_look_order : Cl P w K mg base 2 "look_order" (sp_look_order K A)) {f : Addr} {cdv : Value} {Ar : Around} {outer : List Env} {s : Shared} {H : Hp} {E : XK} (hr : Room 2 (Ar.deeper (envOfC "behind_order" (defScope s_behind_order) s.heap.objs.size f cdv))) :
    PSs (cxOf (L2.CX P w) P w K mg base ["one", "other", "place"] "behind_order" (defScope s_behind_order) f cdv Ar outer s H E) (defBody s_behind_order) (t_behind_order K A (fun cls d _ H' => E cls d H')) := by
  have nd := sc_behind_order.nd
  have tk := takes_of (X := cxOf (L2.CX P w) P w K mg base ["one", "other", "place"] "behind_order" (defScope s_behind_order) f cdv Ar outer s H E) (E := E) rfl rfl rfl rfl
  have hp : PassesOwn (model P w) (cxOf (L2.CX P w) P w K mg base ["one", "other", "place"] "behind_order" (defScope s_behind_order) f cdv Ar outer s H E).A (cxOf (L2.CX P w) P w K mg base ["one", "other", "place"] "behind_order" (defScope s_behind_order) f cdv Ar outer s H E).env (cxOf (L2.CX P w) P w K mg base ["one", "other", "place"] "behind_order" (defScope s_behind_order) f cdv Ar outer s H E).xe := passes_of rfl
  exact (pss_cons (ps_expr (pe_cl c_look_order hr (by decide) tk (pa_cons (pe_callB call_len_seq (by rfl) T.z_len (by decide +kernel) (pa_cons (pv 0) pa_nil)) (pa_cons (pv 0) pa_nil))))
      (pss_cons (ps_expr (pe_cl c_look_order hr (by decide) tk (pa_cons (pe_callB call_len_seq (by rfl) T.z_len (by decide +kernel) (pa_cons (pv 0) pa_nil)) (pa_cons (pv 1) pa_nil))))
      (pss_one (ps_ret (pe_tupleOfP (by rfl) T.z_tuple (pe_lc (own := [("place", 2)]) rfl nd (pi_tup (pv 0)) (blkOk_by (own := [("place", 2)]) (N := ["one", "other", "place"]) (sc := defScope s_behind_order) (by decide +kernel)) (fun _ _ _ _ _ => (pg_name (i := 2) nd rfl (by first | exact Or.inl rfl | exact Or.inr rfl))) (fun _ _ _ _ _ => pts_nil) (fun _ _ _ _ _ => (pe_ix ix_seq (pv 1) (pv 2) (fun _ _ => rfl)))))))))

theorem d_crossings {P : Program} {w : World} {K : PySem.W.Frag} {mg : Str → Option Value} {base : Heap} {A : Ads} (T : Txt K mg A) (c_look_order : Cl P w K mg base 2 "look_order" (sp_look_order K A)) {f : Addr} {cdv : Value} {Ar : Around} {outer : List Env} {s : Shared} {H : Hp} {E : XK} (hr : Room 2 (Ar.deeper (envOfC "crossings" (defScope s_crossings) s.heap.objs.size f cdv))) :
    PSs (cxOf (L2.CX P w) P w K mg base ["order", "found", "k", "thing"] "crossings" (defScope s_crossings) f cdv Ar outer s H E) (defBody s_crossings) (t_crossings K A (fun cls d _ H' => E cls d H')) := by
  have nd := sc_crossings.nd
  have tk := takes_of (X := cxOf (L2.CX P w) P w K mg base ["order", "found", "k", "thing"] "crossings" (defScope s_crossings) f cdv Ar outer s H E) (E := E) rfl rfl rfl rfl
  have hp : PassesOwn (model P w) (cxOf (L2.CX P w) P w K mg base ["order", "found", "k", "thing"] "crossings" (defScope s_crossings) f cdv Ar outer s H E).A (cxOf (L2.CX P w) P w K mg base ["order", "found", "k", "thing"] "crossings" (defScope s_crossings) f cdv Ar outer s H E).env (cxOf (L2.CX P w) P w K mg base ["order", "found", "k", "thing"] "crossings" (defScope s_crossings) f cdv Ar outer s H E).xe := passes_of rfl
  exact (pss_cons (ps_expr (pe_cl c_look_order hr (by decide) tk (pa_cons (pe_callB call_len_seq (by rfl) T.z_len (by decide +kernel) (pa_cons (pv 0) pa_nil)) (pa_cons (pv 0) pa_nil))))
      (pss_cons (ps_set (i := 1) nd rfl (by first | exact Or.inl rfl | exact Or.inr rfl) pe_int)
      (pss_cons (ps_for hp rfl (pi_range1 (by rfl) T.z_range (pa_cons (pe_callB call_len_seq (by rfl) T.z_len (by decide +kernel) (pa_cons (pv 0) pa_nil)) pa_nil)) (pg_name (i := 2) nd rfl (by first | exact Or.inl rfl | exact Or.inr rfl)) (pss_one (ps_set (i := 1) nd rfl (by first | exact Or.inl rfl | exact Or.inr rfl) (pe_op op_add (pv 1) (pe_callB call_len_seq (by rfl) T.z_len (by decide +kernel) (pa_cons (pe_lc (own := [("thing", 3)]) rfl nd (pi_tup (pe_slice sl_tupP (pv 0) (po_some (pe_op op_add (pv 2) pe_int)) po_none)) (blkOk_by (own := [("thing", 3)]) (N := ["order", "found", "k", "thing"]) (sc := defScope s_crossings) (by decide +kernel)) (fun _ _ _ _ _ => (pg_name (i := 3) nd rfl (by first | exact Or.inl rfl | exact Or.inr rfl))) (fun _ _ _ _ _ => (pts_one (pt_cmpR op_lt (pv 3) (pe_ix ix_seq (pv 0) (pv 2) (fun _ _ => rfl)) (nomark _)))) (fun _ _ _ _ _ => (pv 3))) pa_nil))))))
      (pss_one (ps_ret (pv 1))))))

theorem d_law_cell {P : Program} {w : World} {K : PySem.W.Frag} {mg : Str → Option Value} {base : Heap} {A : Ads} (T : Txt K mg A)  {f : Addr} {cdv : Value} {Ar : Around} {outer : List Env} {s : Shared} {H : Hp} {E : XK} (hr : Room 0 (Ar.deeper (envOfC "_law_cell" (defScope s_law_cell) s.heap.objs.size f cdv))) :
    PSs (cxOf (L2.CX P w) P w K mg base ["_law_script", "_law_k"] "_law_cell" (defScope s_law_cell) f cdv Ar outer s H E) (defBody s_law_cell) (t_law_cell K A (fun cls d _ H' => E cls d H')) := by
  have nd := sc_law_cell.nd
  have tk := takes_of (X := cxOf (L2.CX P w) P w K mg base ["_law_script", "_law_k"] "_law_cell" (defScope s_law_cell) f cdv Ar outer s H E) (E := E) rfl rfl rfl rfl
  have hp : PassesOwn (model P w) (cxOf (L2.CX P w) P w K mg base ["_law_script", "_law_k"] "_law_cell" (defScope s_law_cell) f cdv Ar outer s H E).A (cxOf (L2.CX P w) P w K mg base ["_law_script", "_law_k"] "_law_cell" (defScope s_law_cell) f cdv Ar outer s H E).env (cxOf (L2.CX P w) P w K mg base ["_law_script", "_law_k"] "_law_cell" (defScope s_law_cell) f cdv Ar outer s H E).xe := passes_of rfl
  exact (pss_cons (ps_if (pt_truth (pv 0) (by intro _; rfl)) (pss_one (ps_ret (pe_ix ix_seq (pv 0) (pe_op op_mod (pv 1) (pe_callB call_len_seq (by rfl) T.z_len (by decide +kernel) (pa_cons (pv 0) pa_nil))) (fun _ _ => rfl)))) pss_nil)
      (pss_one (ps_ret pe_int)))

theorem d_law_mix {P : Program} {w : World} {K : PySem.W.Frag} {mg : Str → Option Value} {base : Heap} {A : Ads} (T : Txt K mg A) (c_law_cell : Cl P w K mg base 1 "_law_cell" (sp_law_cell K A)) {f : Addr} {cdv : Value} {Ar : Around} {outer : List Env} {s : Shared} {H : Hp} {E : XK} (hr : Room 1 (Ar.deeper (envOfC "_law_mix" (defScope s_law_mix) s.heap.objs.size f cdv))) :
    PSs (cxOf (L2.CX P w) P w K mg base ["_law_script", "_law_k", "_law_number"] "_law_mix" (defScope s_law_mix) f cdv Ar outer s H E) (defBody s_law_mix) (t_law_mix K A (fun cls d _ H' => E cls d H')) := by
  have nd := sc_law_mix.nd
  have tk := takes_of (X := cxOf (L2.CX P w) P w K mg base ["_law_script", "_law_k", "_law_number"] "_law_mix" (defScope s_law_mix) f cdv Ar outer s H E) (E := E) rfl rfl rfl rfl
  have hp : PassesOwn (model P w) (cxOf (L2.CX P w) P w K mg base ["_law_script", "_law_k", "_law_number"] "_law_mix" (defScope s_law_mix) f cdv Ar outer s H E).A (cxOf (L2.CX P w) P w K mg base ["_law_script", "_law_k", "_law_number"] "_law_mix" (defScope s_law_mix) f cdv Ar outer s H E).env (cxOf (L2.CX P w) P w K mg base ["_law_script", "_law_k", "_law_number"] "_law_mix" (defScope s_law_mix) f cdv Ar outer s H E).xe := passes_of rfl
  exact (pss_cons (ps_set (i := 2) nd rfl (by first | exact Or.inl rfl | exact Or.inr rfl) (pe_op op_mod (pe_op op_add (pe_cl c_law_cell hr (by decide) tk (pa_cons (pv 0) (pa_cons (pv 1) pa_nil))) (pe_op op_mul pe_int (pe_op op_add (pv 1) pe_int))) pe_int))
      (pss_cons (ps_set (i := 2) nd rfl (by first | exact Or.inl rfl | exact Or.inr rfl) (pe_op op_mod (pe_op op_mul (pv 2) pe_int) pe_int))
      (pss_one (ps_ret (pe_op op_mod (pe_op op_add (pe_op op_mul (pe_op op_fdiv (pv 2) pe_int) pe_int) (pv 2)) pe_int)))))

theorem d_law_whole {P : Program} {w : World} {K : PySem.W.Frag} {mg : Str → Option Value} {base : Heap} {A : Ads} (T : Txt K mg A)  {f : Addr} {cdv : Value} {Ar : Around} {outer : List Env} {s : Shared} {H : Hp} {E : XK} (hr : Room 0 (Ar.deeper (envOfC "_law_whole" (defScope s_law_whole) s.heap.objs.size f cdv))) :
    PSs (cxOf (L2.CX P w) P w K mg base ["_law_found"] "_law_whole" (defScope s_law_whole) f cdv Ar outer s H E) (defBody s_law_whole) (t_law_whole K A (fun cls d _ H' => E cls d H')) := by
  have nd := sc_law_whole.nd
  have tk := takes_of (X := cxOf (L2.CX P w) P w K mg base ["_law_found"] "_law_whole" (defScope s_law_whole) f cdv Ar outer s H E) (E := E) rfl rfl rfl rfl
  have hp : PassesOwn (model P w) (cxOf (L2.CX P w) P w K mg base ["_law_found"] "_law_whole" (defScope s_law_whole) f cdv Ar outer s H E).A (cxOf (L2.CX P w) P w K mg base ["_law_found"] "_law_whole" (defScope s_law_whole) f cdv Ar outer s H E).env (cxOf (L2.CX P w) P w K mg base ["_law_found"] "_law_whole" (defScope s_law_whole) f cdv Ar outer s H E).xe := passes_of rfl
  exact (pss_one (ps_ret (pe_and (pe_callB call_isA (by rfl) T.z_isinstance (by decide +kernel) (pa_cons (pv 0) (pa_cons (pe_bltn (v := .ty "int") (by rfl) T.z_int (by decide +kernel) rfl) pa_nil))) (pe_one (pe_not (pe_callB call_isA (by rfl) T.z_isinstance (by decide +kernel) (pa_cons (pv 0) (pa_cons (pe_bltn (v := .ty "bool") (by rfl) T.z_bool (by decide +kernel) rfl) pa_nil))))))))

theorem d_law_refusal {P : Program} {w : World} {K : PySem.W.Frag} {mg : Str → Option Value} {base : Heap} {A : Ads} (T : Txt K mg A)  {f : Addr} {cdv : Value} {Ar : Around} {outer : List Env} {s : Shared} {H : Hp} {E : XK} (hr : Room 0 (Ar.deeper (envOfC "_law_refusal" (defScope s_law_refusal) s.heap.objs.size f cdv))) :
    PSs (cxOf (L2.CX P w) P w K mg base ["_law_kept", "_law_kinds"] "_law_refusal" (defScope s_law_refusal) f cdv Ar outer s H E) (defBody s_law_refusal) (t_law_refusal K A (fun cls d _ H' => E cls d H')) := by
  have nd := sc_law_refusal.nd
  have tk := takes_of (X := cxOf (L2.CX P w) P w K mg base ["_law_kept", "_law_kinds"] "_law_refusal" (defScope s_law_refusal) f cdv Ar outer s H E) (E := E) rfl rfl rfl rfl
  have hp : PassesOwn (model P w) (cxOf (L2.CX P w) P w K mg base ["_law_kept", "_law_kinds"] "_law_refusal" (defScope s_law_refusal) f cdv Ar outer s H E).A (cxOf (L2.CX P w) P w K mg base ["_law_kept", "_law_kinds"] "_law_refusal" (defScope s_law_refusal) f cdv Ar outer s H E).env (cxOf (L2.CX P w) P w K mg base ["_law_kept", "_law_kinds"] "_law_refusal" (defScope s_law_refusal) f cdv Ar outer s H E).xe := passes_of rfl
  exact (pss_cons (ps_if (pt_cmpR op_isNn (pv 0) pe_non (nomark _)) (pss_one (ps_ret pe_str)) pss_nil)
      (pss_cons (ps_set (i := 1) nd rfl (by first | exact Or.inl rfl | exact Or.inr rfl) (pe_lst (pa_cons (pe_callB call_isA (by rfl) T.z_isinstance (by decide +kernel) (pa_cons (pv 0) (pa_cons (pe_glob (by rfl) T.x_BadBook.g rfl) pa_nil))) (pa_cons (pe_callB call_isA (by rfl) T.z_isinstance (by decide +kernel) (pa_cons (pv 0) (pa_cons (pe_glob (by rfl) T.x_BadNumber.g rfl) pa_nil))) (pa_cons (pe_callB call_isA (by rfl) T.z_isinstance (by decide +kernel) (pa_cons (pv 0) (pa_cons (pe_glob (by rfl) T.x_BadOrder.g rfl) pa_nil))) pa_nil)))))
      (pss_cons (ps_set (i := 1) nd rfl (by first | exact Or.inl rfl | exact Or.inr rfl) (pe_op op_cat (pv 1) (pe_lst (pa_cons (pe_callB call_isA (by rfl) T.z_isinstance (by decide +kernel) (pa_cons (pv 0) (pa_cons (pe_glob (by rfl) T.x_BadRule.g rfl) pa_nil))) (pa_cons (pe_callB call_isA (by rfl) T.z_isinstance (by decide +kernel) (pa_cons (pv 0) (pa_cons (pe_glob (by rfl) T.x_BadText.g rfl) pa_nil))) (pa_cons (pe_callB call_isA (by rfl) T.z_isinstance (by decide +kernel) (pa_cons (pv 0) (pa_cons (pe_glob (by rfl) T.x_BadWeights.g rfl) pa_nil))) pa_nil))))))
      (pss_cons (ps_expr (pe_bm PySem.F.plainAttrs_list PySem.F.slot_list_append PySem.F.type_list_append mt_append (pv 1) (pa_cons (pe_callB call_isA (by rfl) T.z_isinstance (by decide +kernel) (pa_cons (pv 0) (pa_cons (pe_glob (by rfl) T.x_Unlike.g rfl) pa_nil))) pa_nil)))
      (pss_cons (ps_if (PW.pt (pw_or (pt_cmpR (op_neP hr.units) (pe_bm PySem.F.plainAttrs_list PySem.F.slot_list_count PySem.F.type_list_count (mt_countP hr.units) (pv 1) (pa_cons pe_bl pa_nil)) pe_int (nomark _)) (pw_or1 (pt_not (pt_val (pe_callB call_isA (by rfl) T.z_isinstance (by decide +kernel) (pa_cons (pv 0) (pa_cons (pe_bltn (v := .ty "ValueError") (by rfl) T.z_ValueError (by decide +kernel) rfl) pa_nil)))))))) (pss_one (ps_ret pe_str)) pss_nil)
      (pss_one (ps_ret (pe_ix ix_seq (pe_lst (pa_cons pe_str (pa_cons pe_str (pa_cons pe_str (pa_cons pe_str (pa_cons pe_str (pa_cons pe_str (pa_cons pe_str pa_nil)))))))) (pe_bm PySem.F.plainAttrs_list PySem.F.slot_list_index PySem.F.type_list_index (mt_indexP hr.units) (pv 1) (pa_cons pe_bl pa_nil)) (fun _ _ => rfl)))))))))

theorem d_law_shuffled {P : Program} {w : World} {K : PySem.W.Frag} {mg : Str → Option Value} {base : Heap} {A : Ads} (T : Txt K mg A) (c_law_mix : Cl P w K mg base 2 "_law_mix" (sp_law_mix K A)) {f : Addr} {cdv : Value} {Ar : Around} {outer : List Env} {s : Shared} {H : Hp} {E : XK} (hr : Room 2 (Ar.deeper (envOfC "_law_shuffled" (defScope s_law_shuffled) s.heap.objs.size f cdv))) :
    PSs (cxOf (L2.CX P w) P w K mg base ["_law_script", "_law_k", "_law_many", "_law_left", "_law_found"] "_law_shuffled" (defScope s_law_shuffled) f cdv Ar outer s H E) (defBody s_law_shuffled) (t_law_shuffled K A (fun cls d _ H' => E cls d H')) := by
  have nd := sc_law_shuffled.nd
  have tk := takes_of (X := cxOf (L2.CX P w) P w K mg base ["_law_script", "_law_k", "_law_many", "_law_left", "_law_found"] "_law_shuffled" (defScope s_law_shuffled) f cdv Ar outer s H E) (E := E) rfl rfl rfl rfl
  have hp : PassesOwn (model P w) (cxOf (L2.CX P w) P w K mg base ["_law_script", "_law_k", "_law_many", "_law_left", "_law_found"] "_law_shuffled" (defScope s_law_shuffled) f cdv Ar outer s H E).A (cxOf (L2.CX P w) P w K mg base ["_law_script", "_law_k", "_law_many", "_law_left", "_law_found"] "_law_shuffled" (defScope s_law_shuffled) f cdv Ar outer s H E).env (cxOf (L2.CX P w) P w K mg base ["_law_script", "_law_k", "_law_many", "_law_left", "_law_found"] "_law_shuffled" (defScope s_law_shuffled) f cdv Ar outer s H E).xe := passes_of rfl
  exact (pss_cons (ps_set (i := 3) nd rfl (by first | exact Or.inl rfl | exact Or.inr rfl) (pe_listRg rfl (by rfl) T.z_list (prg_1 (by rfl) T.z_range (pv 2))))
      (pss_cons (ps_set (i := 4) nd rfl (by first | exact Or.inl rfl | exact Or.inr rfl) (pe_lst pa_nil))
      (pss_cons (ps_while hp (pt_truth (pv 3) (by intro _; rfl)) (pss_one (ps_expr (pe_bm PySem.F.plainAttrs_list PySem.F.slot_list_append PySem.F.type_list_append mt_append (pv 4) (pa_cons (pe_bm PySem.F.plainAttrs_list PySem.F.slot_list_pop PySem.F.type_list_pop mt_popAt (pv 3) (pa_cons (pe_op op_mod (pe_cl c_law_mix hr (by decide) tk (pa_cons (pv 0) (pa_cons (pe_op op_add (pv 1) (pe_callB call_len_seq (by rfl) T.z_len (by decide +kernel) (pa_cons (pv 4) pa_nil))) pa_nil))) (pe_callB call_len_seq (by rfl) T.z_len (by decide +kernel) (pa_cons (pv 3) pa_nil))) pa_nil)) pa_nil)))))
      (pss_one (ps_ret (pe_tupleOfP (by rfl) T.z_tuple (pv 4)))))))

theorem d_law_told {P : Program} {w : World} {K : PySem.W.Frag} {mg : Str → Option Value} {base : Heap} {A : Ads} (T : Txt K mg A) (c_law_refusal : Cl P w K mg base 1 "_law_refusal" (sp_law_refusal K A)) (c_look_order : Cl P w K mg base 2 "look_order" (sp_look_order K A)) (c_turned_order : Cl P w K mg base 3 "turned_order" (sp_turned_order K A)) (c_behind_order : Cl P w K mg base 3 "behind_order" (sp_behind_order K A)) (c_crossings : Cl P w K mg base 3 "crossings" (sp_crossings K A)) {f : Addr} {cdv : Value} {Ar : Around} {outer : List Env} {s : Shared} {H : Hp} {E : XK} (hr : Room 3 (Ar.deeper (envOfC "_law_told" (defScope s_law_told) s.heap.objs.size f cdv))) :
    PSs (cxOf (L2.CX P w) P w K mg base ["_law_way", "_law_one", "_law_other", "_law_kept", "_law_found", "e"] "_law_told" (defScope s_law_told) f cdv Ar outer s H E) (defBody s_law_told) (t_law_told K A (fun cls d _ H' => E cls d H')) := by
  have nd := sc_law_told.nd
  have tk := takes_of (X := cxOf (L2.CX P w) P w K mg base ["_law_way", "_law_one", "_law_other", "_law_kept", "_law_found", "e"] "_law_told" (defScope s_law_told) f cdv Ar outer s H E) (E := E) rfl rfl rfl rfl
  have hp : PassesOwn (model P w) (cxOf (L2.CX P w) P w K mg base ["_law_way", "_law_one", "_law_other", "_law_kept", "_law_found", "e"] "_law_told" (defScope s_law_told) f cdv Ar outer s H E).A (cxOf (L2.CX P w) P w K mg base ["_law_way", "_law_one", "_law_other", "_law_kept", "_law_found", "e"] "_law_told" (defScope s_law_told) f cdv Ar outer s H E).env (cxOf (L2.CX P w) P w K mg base ["_law_way", "_law_one", "_law_other", "_law_kept", "_law_found", "e"] "_law_told" (defScope s_law_told) f cdv Ar outer s H E).xe := passes_of rfl
  exact (pss_cons (ps_set (i := 3) nd rfl (by first | exact Or.inl rfl | exact Or.inr rfl) pe_non)
      (pss_cons (ps_set (i := 4) nd rfl (by first | exact Or.inl rfl | exact Or.inr rfl) pe_non)
      (pss_cut (ps_try_keep (i := 5) (k := 3) (tb := fun W => (tIfS (tTest (tOp (rEqP K) (tVar 0) (tC (.int 0)))) (tAsg (tCallS (sp_look_order K A) (WE W) (tCons (tCB (rLenS K) (tCons (tVar 1) tNil)) (tCons (tVar 1) tNil))) (gName 4)) (tIfS (tTest (tOp (rEqP K) (tVar 0) (tC (.int 1)))) (tAsg (tCallS (sp_turned_order K A) (WE W) (tCons (tVar 1) tNil)) (gName 4)) (tAsg (tIf (tTest (tOp (rEqP K) (tVar 0) (tC (.int 2)))) (tCallS (sp_behind_order K A) (WE W) (tCons (tVar 1) (tCons (tVar 2) tNil))) (tCallS (sp_crossings K A) (WE W) (tCons (tVar 1) tNil))) (gName 4))))) rfl rfl rfl nd rfl rfl rfl rfl (by decide) (by decide) ⟨by rfl, by decide, .inl T.x_NestError.g⟩ (fun W pn xe tk hpT => (pss_one (ps_if (pt_cmpR (op_eqP hr.units) (pv 0) pe_int (nomark _)) (pss_one (ps_set (i := 4) nd rfl (by first | exact Or.inl rfl | exact Or.inr rfl) (pe_cl c_look_order hr (by decide) tk (pa_cons (pe_callB call_len_seq (by rfl) T.z_len (by decide +kernel) (pa_cons (pv 1) pa_nil)) (pa_cons (pv 1) pa_nil))))) (pss_one (ps_if (pt_cmpR (op_eqP hr.units) (pv 0) pe_int (nomark _)) (pss_one (ps_set (i := 4) nd rfl (by first | exact Or.inl rfl | exact Or.inr rfl) (pe_cl c_turned_order hr (by decide) tk (pa_cons (pv 1) pa_nil)))) (pss_one (ps_set (i := 4) nd rfl (by first | exact Or.inl rfl | exact Or.inr rfl) (pe_ifExp (pt_cmpR (op_eqP hr.units) (pv 0) pe_int (nomark _)) (pe_cl c_behind_order hr (by decide) tk (pa_cons (pv 1) (pa_cons (pv 2) pa_nil))) (pe_cl c_crossings hr (by decide) tk (pa_cons (pv 1) pa_nil)))))))))) (fun _ _ => rfl))
      (pss_one (ps_ret (pe_ifExp (pt_cmpR op_isNn (pv 3) pe_non (nomark _)) (pv 4) (pe_cl c_law_refusal hr (by decide) tk (pa_cons (pv 3) pa_nil))))))))

theorem d_law {P : Program} {w : World} {K : PySem.W.Frag} {mg : Str → Option Value} {base : Heap} {A : Ads} (T : Txt K mg A) (c_law_shuffled : Cl P w K mg base 3 "_law_shuffled" (sp_law_shuffled K A)) (c_law_mix : Cl P w K mg base 2 "_law_mix" (sp_law_mix K A)) (c_law_told : Cl P w K mg base 4 "_law_told" (sp_law_told K A)) (c_law_whole : Cl P w K mg base 1 "_law_whole" (sp_law_whole K A)) (c_crossings : Cl P w K mg base 3 "crossings" (sp_crossings K A)) {f : Addr} {cdv : Value} {Ar : Around} {outer : List Env} {s : Shared} {H : Hp} {E : XK} (hr : Room 4 (Ar.deeper (envOfC "law" (defScope s_law) s.heap.objs.size f cdv))) :
    PSs (cxOf (L2.CX P w) P w K mg base ["_law_script", "_law_many", "_law_one", "_law_other", "_law_number", "_law_at", "_law_good", "_law_way", "_law_back", "_law_place", "_law_pairs", "_law_k", "_law_j", "_law_due"] "law" (defScope s_law) f cdv Ar outer s H E) (defBody s_law) (t_law K A (fun cls d _ H' => E cls d H')) := by
  have nd := sc_law.nd
  have tk := takes_of (X := cxOf (L2.CX P w) P w K mg base ["_law_script", "_law_many", "_law_one", "_law_other", "_law_number", "_law_at", "_law_good", "_law_way", "_law_back", "_law_place", "_law_pairs", "_law_k", "_law_j", "_law_due"] "law" (defScope s_law) f cdv Ar outer s H E) (E := E) rfl rfl rfl rfl
  have hp : PassesOwn (model P w) (cxOf (L2.CX P w) P w K mg base ["_law_script", "_law_many", "_law_one", "_law_other", "_law_number", "_law_at", "_law_good", "_law_way", "_law_back", "_law_place", "_law_pairs", "_law_k", "_law_j", "_law_due"] "law" (defScope s_law) f cdv Ar outer s H E).A (cxOf (L2.CX P w) P w K mg base ["_law_script", "_law_many", "_law_one", "_law_other", "_law_number", "_law_at", "_law_good", "_law_way", "_law_back", "_law_place", "_law_pairs", "_law_k", "_law_j", "_law_due"] "law" (defScope s_law) f cdv Ar outer s H E).env (cxOf (L2.CX P w) P w K mg base ["_law_script", "_law_many", "_law_one", "_law_other", "_law_number", "_law_at", "_law_good", "_law_way", "_law_back", "_law_place", "_law_pairs", "_law_k", "_law_j", "_law_due"] "law" (defScope s_law) f cdv Ar outer s H E).xe := passes_of rfl
  exact (pss_cons (ps_set (i := 1) nd rfl (by first | exact Or.inl rfl | exact Or.inr rfl) (pe_op op_add pe_int (pe_op op_mod (pe_cl c_law_mix hr (by decide) tk (pa_cons (pv 0) (pa_cons pe_int pa_nil))) pe_int)))
      (pss_cons (ps_set (i := 2) nd rfl (by first | exact Or.inl rfl | exact Or.inr rfl) (pe_cl c_law_shuffled hr (by decide) tk (pa_cons (pv 0) (pa_cons pe_int (pa_cons (pv 1) pa_nil)))))
      (pss_cons (ps_set (i := 3) nd rfl (by first | exact Or.inl rfl | exact Or.inr rfl) (pe_cl c_law_shuffled hr (by decide) tk (pa_cons (pv 0) (pa_cons pe_int (pa_cons (pv 1) pa_nil)))))
      (pss_cons (ps_set (i := 4) nd rfl (by first | exact Or.inl rfl | exact Or.inr rfl) (pe_cl c_law_mix hr (by decide) tk (pa_cons (pv 0) (pa_cons pe_int pa_nil))))
      (pss_cons (ps_set (i := 5) nd rfl (by first | exact Or.inl rfl | exact Or.inr rfl) (pe_op op_mod (pe_op op_fdiv (pv 4) pe_int) (pv 1)))
      (pss_cut (ps_if (pt_cmpR (op_eqP hr.units) (pe_op op_mod (pv 4) pe_int) pe_int (nomark _)) (pss_one (ps_set (i := 2) nd rfl (by first | exact Or.inl rfl | exact Or.inr rfl) (pe_op op_catP (pe_op op_catP (pe_slice sl_tupP (pv 2) po_none (po_some (pv 5))) (pe_tupP (pa_cons (pe_op op_add (pe_ix ix_seq (pv 2) (pv 5) (fun _ _ => rfl)) (pe_ix ix_seq (pe_lst (pa_cons pe_int (pa_cons (pe_un un_neg pe_int) (pa_cons (pv 1) pa_nil)))) (pe_op op_mod (pe_op op_fdiv (pv 4) pe_int) pe_int) (fun _ _ => rfl))) pa_nil))) (pe_slice sl_tupP (pv 2) (po_some (pe_op op_add (pv 5) pe_int)) po_none)))) pss_nil)
      (pss_cut (ps_if (pt_cmpR (op_eqP hr.units) (pe_op op_mod (pv 4) pe_int) pe_int (nomark _)) (pss_one (ps_set (i := 3) nd rfl (by first | exact Or.inl rfl | exact Or.inr rfl) (pe_op op_catP (pe_slice sl_tupP (pv 3) po_none (po_some (pv 5))) (pe_slice sl_tupP (pv 3) (po_some (pe_op op_add (pv 5) pe_int)) po_none)))) pss_nil)
      (pss_cut (ps_if (pt_cmpR (op_eqP hr.units) (pe_op op_mod (pv 4) pe_int) pe_int (nomark _)) (pss_one (ps_set (i := 3) nd rfl (by first | exact Or.inl rfl | exact Or.inr rfl) (pe_op op_catP (pe_op op_catP (pe_slice sl_tupP (pv 3) po_none (po_some (pv 5))) (pe_tupP (pa_cons (pe_ix ix_seq (pv 3) (pe_op op_sub (pv 5) pe_int) (fun _ _ => rfl)) pa_nil))) (pe_slice sl_tupP (pv 3) (po_some (pe_op op_add (pv 5) pe_int)) po_none)))) pss_nil)
      (pss_cut (ps_if (pt_cmpR (op_eqP hr.units) (pe_op op_mod (pv 4) pe_int) pe_int (nomark _)) (pss_one (ps_set (i := 2) nd rfl (by first | exact Or.inl rfl | exact Or.inr rfl) (pe_tupP pa_nil))) pss_nil)
      (pss_cons (ps_set (i := 6) nd rfl (by first | exact Or.inl rfl | exact Or.inr rfl) (pe_and (pe_cmpR op_inRg (pe_callB call_len_seq (by rfl) T.z_len (by decide +kernel) (pa_cons (pv 2) pa_nil)) (pe_callTy cr_range2 (by rfl) T.z_range (by decide +kernel) (pa_cons pe_int (pa_cons pe_int pa_nil))) (by rfl)) (pe_one (pe_cmpR (op_eqP hr.units) (pe_callB cr_sortedQ (by rfl) T.z_sorted (by decide +kernel) (pa_cons (pv 2) pa_nil)) (pe_listRg rfl (by rfl) T.z_list (prg_1 (by rfl) T.z_range (pe_callB call_len_seq (by rfl) T.z_len (by decide +kernel) (pa_cons (pv 2) pa_nil)))) (nomark _)))))
      (pss_cons (ps_if (pt_not (pt_val (pv 6))) (pss_one (ps_ret (pe_cmpR (op_eqP hr.units) (pe_lc (own := [("_law_way", 7)]) rfl nd (pi_range1 (by rfl) T.z_range (pa_cons pe_int pa_nil)) (blkOk_by (own := [("_law_way", 7)]) (N := ["_law_script", "_law_many", "_law_one", "_law_other", "_law_number", "_law_at", "_law_good", "_law_way", "_law_back", "_law_place", "_law_pairs", "_law_k", "_law_j", "_law_due"]) (sc := defScope s_law) (by decide +kernel)) (fun _ _ _ _ _ => (pg_name (i := 7) nd rfl (by first | exact Or.inl rfl | exact Or.inr rfl))) (fun _ _ _ _ _ => pts_nil) (fun _ _ _ _ _ => (pe_cl c_law_told hr (by decide) takes0 (pa_cons (pv 7) (pa_cons (pv 2) (pa_cons (pv 3) pa_nil)))))) (pe_op op_rep (pe_lst (pa_cons pe_str pa_nil)) pe_int) (nomark _)))) pss_nil)
      (pss_cons (ps_set (i := 8) nd rfl (by first | exact Or.inl rfl | exact Or.inr rfl) (pe_cl c_law_told hr (by decide) tk (pa_cons pe_int (pa_cons (pv 2) (pa_cons (pv 3) pa_nil)))))
      (pss_cons (ps_if (PW.pt (pw_or (pt_cmpR op_isNotNn (pe_cl c_law_told hr (by decide) tk (pa_cons pe_int (pa_cons (pv 2) (pa_cons (pv 3) pa_nil)))) pe_non (nomark _)) (pw_or (pt_not (pt_val (pe_callB call_isA (by rfl) T.z_isinstance (by decide +kernel) (pa_cons (pv 8) (pa_cons (pe_bltn (v := .ty "tuple") (by rfl) T.z_tuple (by decide +kernel) rfl) pa_nil))))) (pw_or1 (pt_cmpR (op_neP hr.units) (pe_callB call_len_seq (by rfl) T.z_len (by decide +kernel) (pa_cons (pv 8) pa_nil)) (pe_callB call_len_seq (by rfl) T.z_len (by decide +kernel) (pa_cons (pv 2) pa_nil)) (nomark _)))))) (pss_one (ps_ret pe_bl)) pss_nil)
      (pss_cons (ps_if (pt_cmpR (op_neP hr.units) (pe_lc (own := [("_law_place", 9)]) rfl nd (pi_range1 (by rfl) T.z_range (pa_cons (pe_callB call_len_seq (by rfl) T.z_len (by decide +kernel) (pa_cons (pv 2) pa_nil)) pa_nil)) (blkOk_by (own := [("_law_place", 9)]) (N := ["_law_script", "_law_many", "_law_one", "_law_other", "_law_number", "_law_at", "_law_good", "_law_way", "_law_back", "_law_place", "_law_pairs", "_law_k", "_law_j", "_law_due"]) (sc := defScope s_law) (by decide +kernel)) (fun _ _ _ _ _ => (pg_name (i := 9) nd rfl (by first | exact Or.inl rfl | exact Or.inr rfl))) (fun _ _ _ _ _ => pts_nil) (fun _ _ _ _ _ => (pe_ix ix_seq (pv 8) (pe_ix ix_seq (pv 2) (pv 9) (fun _ _ => rfl)) (fun _ _ => rfl)))) (pe_listRg rfl (by rfl) T.z_list (prg_1 (by rfl) T.z_range (pe_callB call_len_seq (by rfl) T.z_len (by decide +kernel) (pa_cons (pv 2) pa_nil)))) (nomark _)) (pss_one (ps_ret pe_bl)) pss_nil)
      (pss_cons (ps_set (i := 10) nd rfl (by first | exact Or.inl rfl | exact Or.inr rfl) pe_int)
      (pss_cons (ps_for hp rfl (pi_range1 (by rfl) T.z_range (pa_cons (pe_callB call_len_seq (by rfl) T.z_len (by decide +kernel) (pa_cons (pv 2) pa_nil)) pa_nil)) (pg_name (i := 11) nd rfl (by first | exact Or.inl rfl | exact Or.inr rfl)) (pss_one (ps_set (i := 10) nd rfl (by first | exact Or.inl rfl | exact Or.inr rfl) (pe_op op_add (pv 10) (pe_callB call_len_seq (by rfl) T.z_len (by decide +kernel) (pa_cons (pe_lc (own := [("_law_j", 12)]) rfl nd (pi_range1 (by rfl) T.z_range (pa_cons (pv 11) pa_nil)) (blkOk_by (own := [("_law_j", 12)]) (N := ["_law_script", "_law_many", "_law_one", "_law_other", "_law_number", "_law_at", "_law_good", "_law_way", "_law_back", "_law_place", "_law_pairs", "_law_k", "_law_j", "_law_due"]) (sc := defScope s_law) (by decide +kernel)) (fun _ _ _ _ _ => (pg_name (i := 12) nd rfl (by first | exact Or.inl rfl | exact Or.inr rfl))) (fun _ _ _ _ _ => (pts_one (pt_cmpR op_gt (pe_ix ix_seq (pv 2) (pv 12) (fun _ _ => rfl)) (pe_ix ix_seq (pv 2) (pv 11) (fun _ _ => rfl)) (nomark _)))) (fun _ _ _ _ _ => (pv 12))) pa_nil))))))
      (pss_cons (ps_if (PW.pt (pw_or (pt_not (pt_val (pe_cl c_law_whole hr (by decide) tk (pa_cons (pe_cl c_crossings hr (by decide) tk (pa_cons (pv 2) pa_nil)) pa_nil)))) (pw_or1 (pt_cmpR (op_neP hr.units) (pe_cl c_crossings hr (by decide) tk (pa_cons (pv 2) pa_nil)) (pv 10) (nomark _))))) (pss_one (ps_ret pe_bl)) pss_nil)
      (pss_cons (ps_set (i := 13) nd rfl (by first | exact Or.inl rfl | exact Or.inr rfl) pe_str)
      (pss_cons (ps_if (PW.pt (pw_and (pt_cmpR (op_eqP hr.units) (pe_callB call_len_seq (by rfl) T.z_len (by decide +kernel) (pa_cons (pv 3) pa_nil)) (pe_callB call_len_seq (by rfl) T.z_len (by decide +kernel) (pa_cons (pv 2) pa_nil)) (nomark _)) (pw_and1 (pt_cmpR (op_eqP hr.units) (pe_callB cr_sortedQ (by rfl) T.z_sorted (by decide +kernel) (pa_cons (pv 3) pa_nil)) (pe_listRg rfl (by rfl) T.z_list (prg_1 (by rfl) T.z_range (pe_callB call_len_seq (by rfl) T.z_len (by decide +kernel) (pa_cons (pv 3) pa_nil)))) (nomark _))))) (pss_one (ps_set (i := 13) nd rfl (by first | exact Or.inl rfl | exact Or.inr rfl) (pe_tupleOfP (by rfl) T.z_tuple (pe_lc (own := [("_law_place", 9)]) rfl nd (pi_tup (pv 2)) (blkOk_by (own := [("_law_place", 9)]) (N := ["_law_script", "_law_many", "_law_one", "_law_other", "_law_number", "_law_at", "_law_good", "_law_way", "_law_back", "_law_place", "_law_pairs", "_law_k", "_law_j", "_law_due"]) (sc := defScope s_law) (by decide +kernel)) (fun _ _ _ _ _ => (pg_name (i := 9) nd rfl (by first | exact Or.inl rfl | exact Or.inr rfl))) (fun _ _ _ _ _ => pts_nil) (fun _ _ _ _ _ => (pe_ix ix_seq (pv 3) (pv 9) (fun _ _ => rfl))))))) pss_nil)
      (pss_one (ps_ret (pe_cmpR (op_eqP hr.units) (pe_cl c_law_told hr (by decide) tk (pa_cons pe_int (pa_cons (pv 2) (pa_cons (pv 3) pa_nil)))) (pv 13) (nomark _)))))))))))))))))))))))

theorem all_mk {l : PySem.W.OpenLaw} {w : World} {K : PySem.W.Frag} {h : Heap} {mg : Str → Option Value} {fa : Addr} {tc_MOST : Tok} {ad_NestError : Addr} {ad_BadOrder : Addr} {ad_BadBook : Addr} {ad_Unlike : Addr} {ad_BadRule : Addr} {ad_BadNumber : Addr} {ad_BadWeights : Addr} {ad_BadText : Addr} {f_look_many : Addr} {od_look_many an_look_many : Option Addr} {sl_look_many : Array (Option Value)} {oc_look_many kV_look_many dc_look_many pm_look_many cd_look_many ct_look_many : Value} {f_look_order : Addr} {od_look_order an_look_order : Option Addr} {sl_look_order : Array (Option Value)} {oc_look_order kV_look_order dc_look_order pm_look_order cd_look_order ct_look_order : Value} {f_turned_order : Addr} {od_turned_order an_turned_order : Option Addr} {sl_turned_order : Array (Option Value)} {oc_turned_order kV_turned_order dc_turned_order pm_turned_order cd_turned_order ct_turned_order : Value} {f_behind_order : Addr} {od_behind_order an_behind_order : Option Addr} {sl_behind_order : Array (Option Value)} {oc_behind_order kV_behind_order dc_behind_order pm_behind_order cd_behind_order ct_behind_order : Value} {f_crossings : Addr} {od_crossings an_crossings : Option Addr} {sl_crossings : Array (Option Value)} {oc_crossings kV_crossings dc_crossings pm_crossings cd_crossings ct_crossings : Value} {f_law_cell : Addr} {od_law_cell an_law_cell : Option Addr} {sl_law_cell : Array (Option Value)} {oc_law_cell kV_law_cell dc_law_cell pm_law_cell cd_law_cell ct_law_cell : Value} {f_law_mix : Addr} {od_law_mix an_law_mix : Option Addr} {sl_law_mix : Array (Option Value)} {oc_law_mix kV_law_mix dc_law_mix pm_law_mix cd_law_mix ct_law_mix : Value} {f_law_whole : Addr} {od_law_whole an_law_whole : Option Addr} {sl_law_whole : Array (Option Value)} {oc_law_whole kV_law_whole dc_law_whole pm_law_whole cd_law_whole ct_law_whole : Value} {f_law_refusal : Addr} {od_law_refusal an_law_refusal : Option Addr} {sl_law_refusal : Array (Option Value)} {oc_law_refusal kV_law_refusal dc_law_refusal pm_law_refusal cd_law_refusal ct_law_refusal : Value} {f_law_shuffled : Addr} {od_law_shuffled an_law_shuffled : Option Addr} {sl_law_shuffled : Array (Option Value)} {oc_law_shuffled kV_law_shuffled dc_law_shuffled pm_law_shuffled cd_law_shuffled ct_law_shuffled : Value} {f_law_told : Addr} {od_law_told an_law_told : Option Addr} {sl_law_told : Array (Option Value)} {oc_law_told kV_law_told dc_law_told pm_law_told cd_law_told ct_law_told : Value} {f_law : Addr} {od_law an_law : Option Addr} {sl_law : Array (Option Value)} {oc_law kV_law dc_law pm_law cd_law ct_law : Value} (X : K.In h) (G : h.Ns mainGlobals mg) (hfa : mg "law" = some (.ref fa))
    (z_ValueError : PySem.W.nsIn K mainGlobals "ValueError" = some none)
    (z_bool : PySem.W.nsIn K mainGlobals "bool" = some none)
    (z_int : PySem.W.nsIn K mainGlobals "int" = some none)
    (z_isinstance : PySem.W.nsIn K mainGlobals "isinstance" = some none)
    (z_len : PySem.W.nsIn K mainGlobals "len" = some none)
    (z_list : PySem.W.nsIn K mainGlobals "list" = some none)
    (z_range : PySem.W.nsIn K mainGlobals "range" = some none)
    (z_sorted : PySem.W.nsIn K mainGlobals "sorted" = some none)
    (z_tuple : PySem.W.nsIn K mainGlobals "tuple" = some none)
    (g_MOST : PySem.W.nsIn K mainGlobals "MOST" = some (some (.int 8 tc_MOST)))
    (xg_NestError : PySem.W.nsIn K mainGlobals "NestError" = some (some (.ref ad_NestError)))
    (xk_NestError : PySem.W.keepIn K (.ref ad_NestError) = true)
    (xx_NestError : PySem.W.excIn K ad_NestError [.type "ValueError", .type "Exception", .type "BaseException", .type "object"] "ValueError.__new__" = true)
    (xb_NestError : PySem.W.subIn K (.ref ad_NestError) (.type "BaseException") = some true)
    (xt_NestError : PySem.W.typeIn K (.ref ad_NestError) = some (.type "type"))
    (xg_BadOrder : PySem.W.nsIn K mainGlobals "BadOrder" = some (some (.ref ad_BadOrder)))
    (xk_BadOrder : PySem.W.keepIn K (.ref ad_BadOrder) = true)
    (xx_BadOrder : PySem.W.excIn K ad_BadOrder [.type "ValueError", .type "Exception", .type "BaseException", .type "object"] "ValueError.__new__" = true)
    (xb_BadOrder : PySem.W.subIn K (.ref ad_BadOrder) (.type "BaseException") = some true)
    (xt_BadOrder : PySem.W.typeIn K (.ref ad_BadOrder) = some (.type "type"))
    (xg_BadBook : PySem.W.nsIn K mainGlobals "BadBook" = some (some (.ref ad_BadBook)))
    (xk_BadBook : PySem.W.keepIn K (.ref ad_BadBook) = true)
    (xx_BadBook : PySem.W.excIn K ad_BadBook [.type "ValueError", .type "Exception", .type "BaseException", .type "object"] "ValueError.__new__" = true)
    (xb_BadBook : PySem.W.subIn K (.ref ad_BadBook) (.type "BaseException") = some true)
    (xt_BadBook : PySem.W.typeIn K (.ref ad_BadBook) = some (.type "type"))
    (xg_Unlike : PySem.W.nsIn K mainGlobals "Unlike" = some (some (.ref ad_Unlike)))
    (xk_Unlike : PySem.W.keepIn K (.ref ad_Unlike) = true)
    (xx_Unlike : PySem.W.excIn K ad_Unlike [.type "ValueError", .type "Exception", .type "BaseException", .type "object"] "ValueError.__new__" = true)
    (xb_Unlike : PySem.W.subIn K (.ref ad_Unlike) (.type "BaseException") = some true)
    (xt_Unlike : PySem.W.typeIn K (.ref ad_Unlike) = some (.type "type"))
    (xg_BadRule : PySem.W.nsIn K mainGlobals "BadRule" = some (some (.ref ad_BadRule)))
    (xk_BadRule : PySem.W.keepIn K (.ref ad_BadRule) = true)
    (xx_BadRule : PySem.W.excIn K ad_BadRule [.type "ValueError", .type "Exception", .type "BaseException", .type "object"] "ValueError.__new__" = true)
    (xb_BadRule : PySem.W.subIn K (.ref ad_BadRule) (.type "BaseException") = some true)
    (xt_BadRule : PySem.W.typeIn K (.ref ad_BadRule) = some (.type "type"))
    (xg_BadNumber : PySem.W.nsIn K mainGlobals "BadNumber" = some (some (.ref ad_BadNumber)))
    (xk_BadNumber : PySem.W.keepIn K (.ref ad_BadNumber) = true)
    (xx_BadNumber : PySem.W.excIn K ad_BadNumber [.type "ValueError", .type "Exception", .type "BaseException", .type "object"] "ValueError.__new__" = true)
    (xb_BadNumber : PySem.W.subIn K (.ref ad_BadNumber) (.type "BaseException") = some true)
    (xt_BadNumber : PySem.W.typeIn K (.ref ad_BadNumber) = some (.type "type"))
    (xg_BadWeights : PySem.W.nsIn K mainGlobals "BadWeights" = some (some (.ref ad_BadWeights)))
    (xk_BadWeights : PySem.W.keepIn K (.ref ad_BadWeights) = true)
    (xx_BadWeights : PySem.W.excIn K ad_BadWeights [.type "ValueError", .type "Exception", .type "BaseException", .type "object"] "ValueError.__new__" = true)
    (xb_BadWeights : PySem.W.subIn K (.ref ad_BadWeights) (.type "BaseException") = some true)
    (xt_BadWeights : PySem.W.typeIn K (.ref ad_BadWeights) = some (.type "type"))
    (xg_BadText : PySem.W.nsIn K mainGlobals "BadText" = some (some (.ref ad_BadText)))
    (xk_BadText : PySem.W.keepIn K (.ref ad_BadText) = true)
    (xx_BadText : PySem.W.excIn K ad_BadText [.type "ValueError", .type "Exception", .type "BaseException", .type "object"] "ValueError.__new__" = true)
    (xb_BadText : PySem.W.subIn K (.ref ad_BadText) (.type "BaseException") = some true)
    (xt_BadText : PySem.W.typeIn K (.ref ad_BadText) = some (.type "type"))
    (e0_BadOrder : PySem.W.findIn K (.ref ad_BadOrder) "__getattribute__" = some (some (.builtin "BaseException.__getattribute__")))
    (e1_BadOrder : PySem.W.findIn K (.ref ad_BadOrder) "__getattr__" = some none)
    (e2_BadOrder : PySem.W.hasDictIn K ad_BadOrder = true)
    (e3_BadOrder : PySem.W.findIn K (.ref ad_BadOrder) "__class__" = some (some (.builtin "object.__class__")))
    (e4_BadOrder : PySem.W.mroIn K ad_BadOrder (.type "object") = some true)
    (e5_BadOrder : PySem.W.exmOne K (.ref ad_BadOrder) (.ref ad_NestError) = some true)
    (k0_BadOrder : PySem.W.kitOne K (.ref ad_BadOrder) (.ref ad_BadBook) = some false)
    (k1_BadOrder : PySem.W.kitOne K (.ref ad_BadOrder) (.ref ad_BadNumber) = some false)
    (k2_BadOrder : PySem.W.kitOne K (.ref ad_BadOrder) (.ref ad_BadOrder) = some true)
    (k3_BadOrder : PySem.W.kitOne K (.ref ad_BadOrder) (.ref ad_BadRule) = some false)
    (k4_BadOrder : PySem.W.kitOne K (.ref ad_BadOrder) (.ref ad_BadText) = some false)
    (k5_BadOrder : PySem.W.kitOne K (.ref ad_BadOrder) (.ref ad_BadWeights) = some false)
    (k6_BadOrder : PySem.W.kitOne K (.ref ad_BadOrder) (.ref ad_Unlike) = some false)
    (kv_BadOrder : PySem.W.kitOne K (.ref ad_BadOrder) (.type "ValueError") = some true)
    (en : PySem.W.specialIn K (.builtin "object.__class__") "__get__" = some (some (.builtin "getset_descriptor.__get__")))
    (et : PySem.W.takesIn K (.builtin "object.__class__") = some true)
    (a_look_many : PySem.W.nsIn K mainGlobals "look_many" = some (some (.ref f_look_many)))
    (l_look_many : K.lookup f_look_many = some ⟨oc_look_many, od_look_many, .func (PySem.W.fnOf "look_many" "look_many" (defArgs s_look_many) (defBody s_look_many) (defScope s_look_many) .none kV_look_many dc_look_many pm_look_many an_look_many cd_look_many ct_look_many), sl_look_many⟩)
    (c_look_many : PySem.W.codeIn K cd_look_many "look_many" = true)
    (k_look_many : PySem.W.keepIn K (.ref f_look_many) = true)
    (a_look_order : PySem.W.nsIn K mainGlobals "look_order" = some (some (.ref f_look_order)))
    (l_look_order : K.lookup f_look_order = some ⟨oc_look_order, od_look_order, .func (PySem.W.fnOf "look_order" "look_order" (defArgs s_look_order) (defBody s_look_order) (defScope s_look_order) .none kV_look_order dc_look_order pm_look_order an_look_order cd_look_order ct_look_order), sl_look_order⟩)
    (c_look_order : PySem.W.codeIn K cd_look_order "look_order" = true)
    (k_look_order : PySem.W.keepIn K (.ref f_look_order) = true)
    (a_turned_order : PySem.W.nsIn K mainGlobals "turned_order" = some (some (.ref f_turned_order)))
    (l_turned_order : K.lookup f_turned_order = some ⟨oc_turned_order, od_turned_order, .func (PySem.W.fnOf "turned_order" "turned_order" (defArgs s_turned_order) (defBody s_turned_order) (defScope s_turned_order) .none kV_turned_order dc_turned_order pm_turned_order an_turned_order cd_turned_order ct_turned_order), sl_turned_order⟩)
    (c_turned_order : PySem.W.codeIn K cd_turned_order "turned_order" = true)
    (k_turned_order : PySem.W.keepIn K (.ref f_turned_order) = true)
    (a_behind_order : PySem.W.nsIn K mainGlobals "behind_order" = some (some (.ref f_behind_order)))
    (l_behind_order : K.lookup f_behind_order = some ⟨oc_behind_order, od_behind_order, .func (PySem.W.fnOf "behind_order" "behind_order" (defArgs s_behind_order) (defBody s_behind_order) (defScope s_behind_order) .none kV_behind_order dc_behind_order pm_behind_order an_behind_order cd_behind_order ct_behind_order), sl_behind_order⟩)
    (c_behind_order : PySem.W.codeIn K cd_behind_order "behind_order" = true)
    (k_behind_order : PySem.W.keepIn K (.ref f_behind_order) = true)
    (a_crossings : PySem.W.nsIn K mainGlobals "crossings" = some (some (.ref f_crossings)))
    (l_crossings : K.lookup f_crossings = some ⟨oc_crossings, od_crossings, .func (PySem.W.fnOf "crossings" "crossings" (defArgs s_crossings) (defBody s_crossings) (defScope s_crossings) .none kV_crossings dc_crossings pm_crossings an_crossings cd_crossings ct_crossings), sl_crossings⟩)
    (c_crossings : PySem.W.codeIn K cd_crossings "crossings" = true)
    (k_crossings : PySem.W.keepIn K (.ref f_crossings) = true)
    (a_law_cell : PySem.W.nsIn K mainGlobals "_law_cell" = some (some (.ref f_law_cell)))
    (l_law_cell : K.lookup f_law_cell = some ⟨oc_law_cell, od_law_cell, .func (PySem.W.fnOf "_law_cell" "_law_cell" (defArgs s_law_cell) (defBody s_law_cell) (defScope s_law_cell) .none kV_law_cell dc_law_cell pm_law_cell an_law_cell cd_law_cell ct_law_cell), sl_law_cell⟩)
    (c_law_cell : PySem.W.codeIn K cd_law_cell "_law_cell" = true)
    (k_law_cell : PySem.W.keepIn K (.ref f_law_cell) = true)
    (a_law_mix : PySem.W.nsIn K mainGlobals "_law_mix" = some (some (.ref f_law_mix)))
    (l_law_mix : K.lookup f_law_mix = some ⟨oc_law_mix, od_law_mix, .func (PySem.W.fnOf "_law_mix" "_law_mix" (defArgs s_law_mix) (defBody s_law_mix) (defScope s_law_mix) .none kV_law_mix dc_law_mix pm_law_mix an_law_mix cd_law_mix ct_law_mix), sl_law_mix⟩)
    (c_law_mix : PySem.W.codeIn K cd_law_mix "_law_mix" = true)
    (k_law_mix : PySem.W.keepIn K (.ref f_law_mix) = true)
    (a_law_whole : PySem.W.nsIn K mainGlobals "_law_whole" = some (some (.ref f_law_whole)))
    (l_law_whole : K.lookup f_law_whole = some ⟨oc_law_whole, od_law_whole, .func (PySem.W.fnOf "_law_whole" "_law_whole" (defArgs s_law_whole) (defBody s_law_whole) (defScope s_law_whole) .none kV_law_whole dc_law_whole pm_law_whole an_law_whole cd_law_whole ct_law_whole), sl_law_whole⟩)
    (c_law_whole : PySem.W.codeIn K cd_law_whole "_law_whole" = true)
    (k_law_whole : PySem.W.keepIn K (.ref f_law_whole) = true)
    (a_law_refusal : PySem.W.nsIn K mainGlobals "_law_refusal" = some (some (.ref f_law_refusal)))
    (l_law_refusal : K.lookup f_law_refusal = some ⟨oc_law_refusal, od_law_refusal, .func (PySem.W.fnOf "_law_refusal" "_law_refusal" (defArgs s_law_refusal) (defBody s_law_refusal) (defScope s_law_refusal) .none kV_law_refusal dc_law_refusal pm_law_refusal an_law_refusal cd_law_refusal ct_law_refusal), sl_law_refusal⟩)
    (c_law_refusal : PySem.W.codeIn K cd_law_refusal "_law_refusal" = true)
    (k_law_refusal : PySem.W.keepIn K (.ref f_law_refusal) = true)
    (a_law_shuffled : PySem.W.nsIn K mainGlobals "_law_shuffled" = some (some (.ref f_law_shuffled)))
    (l_law_shuffled : K.lookup f_law_shuffled = some ⟨oc_law_shuffled, od_law_shuffled, .func (PySem.W.fnOf "_law_shuffled" "_law_shuffled" (defArgs s_law_shuffled) (defBody s_law_shuffled) (defScope s_law_shuffled) .none kV_law_shuffled dc_law_shuffled pm_law_shuffled an_law_shuffled cd_law_shuffled ct_law_shuffled), sl_law_shuffled⟩)
    (c_law_shuffled : PySem.W.codeIn K cd_law_shuffled "_law_shuffled" = true)
    (k_law_shuffled : PySem.W.keepIn K (.ref f_law_shuffled) = true)
    (a_law_told : PySem.W.nsIn K mainGlobals "_law_told" = some (some (.ref f_law_told)))
    (l_law_told : K.lookup f_law_told = some ⟨oc_law_told, od_law_told, .func (PySem.W.fnOf "_law_told" "_law_told" (defArgs s_law_told) (defBody s_law_told) (defScope s_law_told) .none kV_law_told dc_law_told pm_law_told an_law_told cd_law_told ct_law_told), sl_law_told⟩)
    (c_law_told : PySem.W.codeIn K cd_law_told "_law_told" = true)
    (k_law_told : PySem.W.keepIn K (.ref f_law_told) = true)
    (a_law : PySem.W.nsIn K mainGlobals "law" = some (some (.ref f_law)))
    (l_law : K.lookup f_law = some ⟨oc_law, od_law, .func (PySem.W.fnOf "law" "law" (defArgs s_law) (defBody s_law) (defScope s_law) .none kV_law dc_law pm_law an_law cd_law ct_law), sl_law⟩)
    (c_law : PySem.W.codeIn K cd_law "law" = true)
    (k_law : PySem.W.keepIn K (.ref f_law) = true)
    : ∃ fd : FuncData, (∀ (s : Shared) (v : Value), BindsTo s fd ⟨[v], []⟩ [("_law_script", v)]) ∧ ∀ base : Heap, K.In base → base.Ns mainGlobals mg → FnOk l.prog w K mg base (L2.CX l.prog w) 5 fa fd ["_law_script"] (sp_law K {}) := by
  have e := hfa.symm.trans (PySem.W.mg_of X G a_law)
  cases e
  obtain ⟨A, hA⟩ : ∃ A : Ads, A = { NestError := ad_NestError, BadOrder := ad_BadOrder, BadBook := ad_BadBook, Unlike := ad_Unlike, BadRule := ad_BadRule, BadNumber := ad_BadNumber, BadWeights := ad_BadWeights, BadText := ad_BadText : Ads } := ⟨_, rfl⟩
  have T : Txt K mg A := by
    subst hA
    exact { z_ValueError := PySem.W.mg_none_of X G z_ValueError, z_bool := PySem.W.mg_none_of X G z_bool, z_int := PySem.W.mg_none_of X G z_int, z_isinstance := PySem.W.mg_none_of X G z_isinstance, z_len := PySem.W.mg_none_of X G z_len, z_list := PySem.W.mg_none_of X G z_list, z_range := PySem.W.mg_none_of X G z_range, z_sorted := PySem.W.mg_none_of X G z_sorted, z_tuple := PySem.W.mg_none_of X G z_tuple, g_MOST := ⟨_, PySem.W.mg_of X G g_MOST⟩, x_NestError := ⟨PySem.W.mg_of X G xg_NestError, xk_NestError, xx_NestError, xb_NestError, xt_NestError⟩, x_BadOrder := ⟨PySem.W.mg_of X G xg_BadOrder, xk_BadOrder, xx_BadOrder, xb_BadOrder, xt_BadOrder⟩, x_BadBook := ⟨PySem.W.mg_of X G xg_BadBook, xk_BadBook, xx_BadBook, xb_BadBook, xt_BadBook⟩, x_Unlike := ⟨PySem.W.mg_of X G xg_Unlike, xk_Unlike, xx_Unlike, xb_Unlike, xt_Unlike⟩, x_BadRule := ⟨PySem.W.mg_of X G xg_BadRule, xk_BadRule, xx_BadRule, xb_BadRule, xt_BadRule⟩, x_BadNumber := ⟨PySem.W.mg_of X G xg_BadNumber, xk_BadNumber, xx_BadNumber, xb_BadNumber, xt_BadNumber⟩, x_BadWeights := ⟨PySem.W.mg_of X G xg_BadWeights, xk_BadWeights, xx_BadWeights, xb_BadWeights, xt_BadWeights⟩, x_BadText := ⟨PySem.W.mg_of X G xg_BadText, xk_BadText, xx_BadText, xb_BadText, xt_BadText⟩ }
  have kT_BadOrder : KeptT K A A.BadOrder 2 := by
    subst hA
    exact ⟨⟨e0_BadOrder, e1_BadOrder, xb_BadOrder, e2_BadOrder, e3_BadOrder, en, et, e4_BadOrder⟩, e5_BadOrder, k0_BadOrder, k1_BadOrder, k2_BadOrder, k3_BadOrder, k4_BadOrder, k5_BadOrder, k6_BadOrder, kv_BadOrder⟩
  have F_look_many := fun_mk (st := s_look_many) l_look_many c_look_many k_look_many
  have b_look_many := F_look_many.binds (ps := ["many"]) fun _ _ _ _ _ _ us hl => match us, hl with | [_], _ => rfl
  have F_look_order := fun_mk (st := s_look_order) l_look_order c_look_order k_look_order
  have b_look_order := F_look_order.binds (ps := ["many", "order"]) fun _ _ _ _ _ _ us hl => match us, hl with | [_, _], _ => rfl
  have F_turned_order := fun_mk (st := s_turned_order) l_turned_order c_turned_order k_turned_order
  have b_turned_order := F_turned_order.binds (ps := ["order"]) fun _ _ _ _ _ _ us hl => match us, hl with | [_], _ => rfl
  have F_behind_order := fun_mk (st := s_behind_order) l_behind_order c_behind_order k_behind_order
  have b_behind_order := F_behind_order.binds (ps := ["one", "other"]) fun _ _ _ _ _ _ us hl => match us, hl with | [_, _], _ => rfl
  have F_crossings := fun_mk (st := s_crossings) l_crossings c_crossings k_crossings
  have b_crossings := F_crossings.binds (ps := ["order"]) fun _ _ _ _ _ _ us hl => match us, hl with | [_], _ => rfl
  have F_law_cell := fun_mk (st := s_law_cell) l_law_cell c_law_cell k_law_cell
  have b_law_cell := F_law_cell.binds (ps := ["_law_script", "_law_k"]) fun _ _ _ _ _ _ us hl => match us, hl with | [_, _], _ => rfl
  have F_law_mix := fun_mk (st := s_law_mix) l_law_mix c_law_mix k_law_mix
  have b_law_mix := F_law_mix.binds (ps := ["_law_script", "_law_k"]) fun _ _ _ _ _ _ us hl => match us, hl with | [_, _], _ => rfl
  have F_law_whole := fun_mk (st := s_law_whole) l_law_whole c_law_whole k_law_whole
  have b_law_whole := F_law_whole.binds (ps := ["_law_found"]) fun _ _ _ _ _ _ us hl => match us, hl with | [_], _ => rfl
  have F_law_refusal := fun_mk (st := s_law_refusal) l_law_refusal c_law_refusal k_law_refusal
  have b_law_refusal := F_law_refusal.binds (ps := ["_law_kept"]) fun _ _ _ _ _ _ us hl => match us, hl with | [_], _ => rfl
  have F_law_shuffled := fun_mk (st := s_law_shuffled) l_law_shuffled c_law_shuffled k_law_shuffled
  have b_law_shuffled := F_law_shuffled.binds (ps := ["_law_script", "_law_k", "_law_many"]) fun _ _ _ _ _ _ us hl => match us, hl with | [_, _, _], _ => rfl
  have F_law_told := fun_mk (st := s_law_told) l_law_told c_law_told k_law_told
  have b_law_told := F_law_told.binds (ps := ["_law_way", "_law_one", "_law_other"]) fun _ _ _ _ _ _ us hl => match us, hl with | [_, _, _], _ => rfl
  have F_law := fun_mk (st := s_law) l_law c_law k_law
  have b_law := F_law.binds (ps := ["_law_script"]) fun _ _ _ _ _ _ us hl => match us, hl with | [_], _ => rfl
  refine ⟨PySem.W.fnOf "law" "law" (defArgs s_law) (defBody s_law) (defScope s_law) .none kV_law dc_law pm_law an_law cd_law ct_law, fun s v => .of_eq rfl, fun base _ _ => ?_⟩
  have o_law_cell : Cl l.prog w K mg base 1 "_law_cell" (sp_law_cell K A) := Df.cl ⟨F_law_cell, PySem.W.mg_of X G a_law_cell, b_law_cell⟩ (F_law_cell.okX sc_law_cell (fun vs H Q E h => h.1) (fun cdv A' outer s H vs Q E hr h => ⟨t_law_cell K A (fun cls d _ H' => E cls d H'), d_law_cell T  hr, pu_law_cell  h⟩))
  have o_law_mix : Cl l.prog w K mg base 2 "_law_mix" (sp_law_mix K A) := Df.cl ⟨F_law_mix, PySem.W.mg_of X G a_law_mix, b_law_mix⟩ (F_law_mix.okX sc_law_mix (fun vs H Q E h => h.1) (fun cdv A' outer s H vs Q E hr h => ⟨t_law_mix K A (fun cls d _ H' => E cls d H'), d_law_mix T o_law_cell hr, pu_law_mix  h⟩))
  have o_law_shuffled : Cl l.prog w K mg base 3 "_law_shuffled" (sp_law_shuffled K A) := Df.cl ⟨F_law_shuffled, PySem.W.mg_of X G a_law_shuffled, b_law_shuffled⟩ (F_law_shuffled.okX sc_law_shuffled (fun vs H Q E h => h.1) (fun cdv A' outer s H vs Q E hr h => ⟨t_law_shuffled K A (fun cls d _ H' => E cls d H'), d_law_shuffled T o_law_mix hr, pu_law_shuffled  h⟩))
  have o_law_refusal : Cl l.prog w K mg base 1 "_law_refusal" (sp_law_refusal K A) := Df.cl ⟨F_law_refusal, PySem.W.mg_of X G a_law_refusal, b_law_refusal⟩ (F_law_refusal.okX sc_law_refusal (fun vs H Q E h => h.1) (fun cdv A' outer s H vs Q E hr h => ⟨t_law_refusal K A (fun cls d _ H' => E cls d H'), d_law_refusal T  hr, pu_law_refusal  h⟩))
  have o_look_many : Cl l.prog w K mg base 1 "look_many" (sp_look_many K A) := Df.cl ⟨F_look_many, PySem.W.mg_of X G a_look_many, b_look_many⟩ (F_look_many.okX sc_look_many (fun vs H Q E h => h.1) (fun cdv A' outer s H vs Q E hr h => ⟨t_look_many K A (fun cls d _ H' => E cls d H'), d_look_many T  hr, pu_look_many  h⟩))
  have o_look_order : Cl l.prog w K mg base 2 "look_order" (sp_look_order K A) := Df.cl ⟨F_look_order, PySem.W.mg_of X G a_look_order, b_look_order⟩ (F_look_order.okX sc_look_order (fun vs H Q E h => h.1) (fun cdv A' outer s H vs Q E hr h => ⟨t_look_order K A (fun cls d _ H' => E cls d H'), d_look_order T o_look_many hr, pu_look_order  h⟩))
  have o_turned_order : Cl l.prog w K mg base 3 "turned_order" (sp_turned_order K A) := Df.cl ⟨F_turned_order, PySem.W.mg_of X G a_turned_order, b_turned_order⟩ (F_turned_order.okX sc_turned_order (fun vs H Q E h => h.1) (fun cdv A' outer s H vs Q E hr h => ⟨t_turned_order K A (fun cls d _ H' => E cls d H'), d_turned_order T o_look_order hr, pu_turned_order  h⟩))
  have o_behind_order : Cl l.prog w K mg base 3 "behind_order" (sp_behind_order K A) := Df.cl ⟨F_behind_order, PySem.W.mg_of X G a_behind_order, b_behind_order⟩ (F_behind_order.okX sc_behind_order (fun vs H Q E h => h.1) (fun cdv A' outer s H vs Q E hr h => ⟨t_behind_order K A (fun cls d _ H' => E cls d H'), d_behind_order T o_look_order hr, pu_behind_order  h⟩))
  have o_crossings : Cl l.prog w K mg base 3 "crossings" (sp_crossings K A) := Df.cl ⟨F_crossings, PySem.W.mg_of X G a_crossings, b_crossings⟩ (F_crossings.okX sc_crossings (fun vs H Q E h => h.1) (fun cdv A' outer s H vs Q E hr h => ⟨t_crossings K A (fun cls d _ H' => E cls d H'), d_crossings T o_look_order hr, pu_crossings  h⟩))
  have o_law_told : Cl l.prog w K mg base 4 "_law_told" (sp_law_told K A) := Df.cl ⟨F_law_told, PySem.W.mg_of X G a_law_told, b_law_told⟩ (F_law_told.okX sc_law_told (fun vs H Q E h => h.1) (fun cdv A' outer s H vs Q E hr h => ⟨t_law_told K A (fun cls d _ H' => E cls d H'), d_law_told T o_law_refusal o_look_order o_turned_order o_behind_order o_crossings hr, pu_law_told kT_BadOrder h⟩))
  have o_law_whole : Cl l.prog w K mg base 1 "_law_whole" (sp_law_whole K A) := Df.cl ⟨F_law_whole, PySem.W.mg_of X G a_law_whole, b_law_whole⟩ (F_law_whole.okX sc_law_whole (fun vs H Q E h => h.1) (fun cdv A' outer s H vs Q E hr h => ⟨t_law_whole K A (fun cls d _ H' => E cls d H'), d_law_whole T  hr, pu_law_whole  h⟩))
  exact F_law.okX sc_law (fun vs H Q E h => by
    obtain ⟨v, ss, rfl, _⟩ := h
    rfl) (fun cdv A' outer s H vs Q E hr h => ⟨t_law K A (fun cls d _ H' => E cls d H'), d_law T o_law_shuffled o_law_mix o_law_told o_law_whole o_crossings hr, pu_law kT_BadOrder h⟩)
theorem walk_mine {l : PySem.W.OpenLaw} {n k : Nat} {q : Program} {loose : List Str} {XP : (Str → Option Value) → Heap → Prop} {YP : World → Heap → Prop} {d : DefRec} {K : Params → PySem.W.Frag} {CX : World → CXT} {sp : PySem.W.Frag → Sp} {x : Str}
    (hn : l.most = some n) (hn2 : n ≤ sizeLine) (hdf : d.params.defaults = []) (hr : Room k callerA) (hY : ∀ (w : World) (h : Heap), YP w h → (K w.params).In h)
    (F : ∀ (w : World) (mg : Str → Option Value) (fa : Addr) (h : Heap), (K w.params).In h → h.Ns mainGlobals mg → mg d.name = some (.ref fa) →
      ∃ fd : FuncData, (∀ (s : Shared) (u : Value), BindsTo s fd ⟨[u], []⟩ [(x, u)]) ∧ ∀ base : Heap, (K w.params).In base → base.Ns mainGlobals mg → FnOk l.prog w (K w.params) mg base (CX w) k fa fd [x] (sp (K w.params)))
    (hsp : ∀ (K : PySem.W.Frag) (H : Hp) (a : Addr) (ns : List Int), ns.length ≤ n → SqL K H a (ns.map V.int) → sp K [.ref a] H (fun v _ => v = .bl true) fun _ _ _ => False)
    (hCX : ∀ (w : World) (H : Hp) (s : Shared) (e : Value) (s' : Shared), CX w [] H s (fun _ _ _ => False) e s' → False) :
    PySem.W.WalkO q loose XP YP l.row.toRowW d [] (fun f vs => PySem.call f vs) :=
  L2.walk_of (K := K) (CX := CX) (sp := fun w => sp (K w.params)) hn hn2 hdf hr hY F (fun w H a ns h1 _ h3 => hsp (K w.params) H a ns h1 h3) hCX
end OA
open PySem PySem.W PyProof.Rows
set_option maxRecDepth 100000 in
set_option maxHeartbeats 0 in
theorem PySem.Challenge.cw_ordernest_k01_orders_holds : PySem.Challenge.rw_ordernest_k01_orders.Holds := by
  w_on; o_law; k_head; (case hw => w_witness2)
  k_fill
  refine OA.walk_mine (l := PySem.Challenge.rw_ordernest_k01_orders) (n := 63) (k := 5) (x := "_law_script") (CX := fun w => L2.CX PySem.Challenge.rw_ordernest_k01_orders.prog w) (sp := fun K => OA.sp_law K {}) rfl (by decide) rfl ⟨rfl, by decide, by decide⟩ (fun w h Y => PySem.W.kIn_of Y) ?F ?S ?C
  case F =>
    intro w mg fa h KX G hmg
    refine' OA.all_mk KX G hmg ?z_ValueError ?z_bool ?z_int ?z_isinstance ?z_len ?z_list ?z_range ?z_sorted ?z_tuple ?g_MOST ?xg_NestError ?xk_NestError ?xx_NestError ?xb_NestError ?xt_NestError ?xg_BadOrder ?xk_BadOrder ?xx_BadOrder ?xb_BadOrder ?xt_BadOrder ?xg_BadBook ?xk_BadBook ?xx_BadBook ?xb_BadBook ?xt_BadBook ?xg_Unlike ?xk_Unlike ?xx_Unlike ?xb_Unlike ?xt_Unlike ?xg_BadRule ?xk_BadRule ?xx_BadRule ?xb_BadRule ?xt_BadRule ?xg_BadNumber ?xk_BadNumber ?xx_BadNumber ?xb_BadNumber ?xt_BadNumber ?xg_BadWeights ?xk_BadWeights ?xx_BadWeights ?xb_BadWeights ?xt_BadWeights ?xg_BadText ?xk_BadText ?xx_BadText ?xb_BadText ?xt_BadText ?e0_BadOrder ?e1_BadOrder ?e2_BadOrder ?e3_BadOrder ?e4_BadOrder ?e5_BadOrder ?k0_BadOrder ?k1_BadOrder ?k2_BadOrder ?k3_BadOrder ?k4_BadOrder ?k5_BadOrder ?k6_BadOrder ?kv_BadOrder ?en ?et ?a_look_many ?l_look_many ?c_look_many ?k_look_many ?a_look_order ?l_look_order ?c_look_order ?k_look_order ?a_turned_order ?l_turned_order ?c_turned_order ?k_turned_order ?a_behind_order ?l_behind_order ?c_behind_order ?k_behind_order ?a_crossings ?l_crossings ?c_crossings ?k_crossings ?a_law_cell ?l_law_cell ?c_law_cell ?k_law_cell ?a_law_mix ?l_law_mix ?c_law_mix ?k_law_mix ?a_law_whole ?l_law_whole ?c_law_whole ?k_law_whole ?a_law_refusal ?l_law_refusal ?c_law_refusal ?k_law_refusal ?a_law_shuffled ?l_law_shuffled ?c_law_shuffled ?k_law_shuffled ?a_law_told ?l_law_told ?c_law_told ?k_law_told ?a_law ?l_law ?c_law ?k_law
    (case z_ValueError => k_is)
    (case z_bool => k_is)
    (case z_int => k_is)
    (case z_isinstance => k_is)
    (case z_len => k_is)
    (case z_list => k_is)
    (case z_range => k_is)
    (case z_sorted => k_is)
    (case z_tuple => k_is)
    (case g_MOST => k_is)
    (case xg_NestError => k_is)
    (case xk_NestError => k_is)
    (case xx_NestError => k_exc)
    (case xb_NestError => k_is)
    (case xt_NestError => k_is)
    (case xg_BadOrder => k_is)
    (case xk_BadOrder => k_is)
    (case xx_BadOrder => k_exc)
    (case xb_BadOrder => k_is)
    (case xt_BadOrder => k_is)
    (case xg_BadBook => k_is)
    (case xk_BadBook => k_is)
    (case xx_BadBook => k_exc)
    (case xb_BadBook => k_is)
    (case xt_BadBook => k_is)
    (case xg_Unlike => k_is)
    (case xk_Unlike => k_is)
    (case xx_Unlike => k_exc)
    (case xb_Unlike => k_is)
    (case xt_Unlike => k_is)
    (case xg_BadRule => k_is)
    (case xk_BadRule => k_is)
    (case xx_BadRule => k_exc)
    (case xb_BadRule => k_is)
    (case xt_BadRule => k_is)
    (case xg_BadNumber => k_is)
    (case xk_BadNumber => k_is)
    (case xx_BadNumber => k_exc)
    (case xb_BadNumber => k_is)
    (case xt_BadNumber => k_is)
    (case xg_BadWeights => k_is)
    (case xk_BadWeights => k_is)
    (case xx_BadWeights => k_exc)
    (case xb_BadWeights => k_is)
    (case xt_BadWeights => k_is)
    (case xg_BadText => k_is)
    (case xk_BadText => k_is)
    (case xx_BadText => k_exc)
    (case xb_BadText => k_is)
    (case xt_BadText => k_is)
    (case e0_BadOrder => k_is)
    (case e1_BadOrder => k_is)
    (case e2_BadOrder => k_is)
    (case e3_BadOrder => k_is)
    (case e4_BadOrder => k_is)
    (case e5_BadOrder => kts_exm)
    (case k0_BadOrder => kit_is)
    (case k1_BadOrder => kit_is)
    (case k2_BadOrder => kit_is)
    (case k3_BadOrder => kit_is)
    (case k4_BadOrder => kit_is)
    (case k5_BadOrder => kit_is)
    (case k6_BadOrder => kit_is)
    (case kv_BadOrder => kit_is)
    (case en => k_is)
    (case et => k_is)
    (case a_look_many => k_is)
    (case l_look_many => k_is)
    (case c_look_many => k_is)
    (case k_look_many => k_is)
    (case a_look_order => k_is)
    (case l_look_order => k_is)
    (case c_look_order => k_is)
    (case k_look_order => k_is)
    (case a_turned_order => k_is)
    (case l_turned_order => k_is)
    (case c_turned_order => k_is)
    (case k_turned_order => k_is)
    (case a_behind_order => k_is)
    (case l_behind_order => k_is)
    (case c_behind_order => k_is)
    (case k_behind_order => k_is)
    (case a_crossings => k_is)
    (case l_crossings => k_is)
    (case c_crossings => k_is)
    (case k_crossings => k_is)
    (case a_law_cell => k_is)
    (case l_law_cell => k_is)
    (case c_law_cell => k_is)
    (case k_law_cell => k_is)
    (case a_law_mix => k_is)
    (case l_law_mix => k_is)
    (case c_law_mix => k_is)
    (case k_law_mix => k_is)
    (case a_law_whole => k_is)
    (case l_law_whole => k_is)
    (case c_law_whole => k_is)
    (case k_law_whole => k_is)
    (case a_law_refusal => k_is)
    (case l_law_refusal => k_is)
    (case c_law_refusal => k_is)
    (case k_law_refusal => k_is)
    (case a_law_shuffled => k_is)
    (case l_law_shuffled => k_is)
    (case c_law_shuffled => k_is)
    (case k_law_shuffled => k_is)
    (case a_law_told => k_is)
    (case l_law_told => k_is)
    (case c_law_told => k_is)
    (case k_law_told => k_is)
    (case a_law => k_is)
    (case l_law => k_is)
    (case c_law => k_is)
    (case k_law => k_is)
  case S => exact fun K H a ns hl hs => ⟨.ref a, ns, rfl, OA.of_list hs (OA.ints_hds ns), fun _ _ => rfl⟩
  case C =>
    intro w H s e s' h
    obtain ⟨a, B, H', cls, d, _, _, _, _, _, _, _, z⟩ := h
    exact z

