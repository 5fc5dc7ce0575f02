import PyProof.Rows.All
import Wide.All
import OpenK.AllK
import Wide.FinOn
import KE.DatumMoreOrd
import KE.SortData
import KE.KCallOwn
import HandS.ForMost
import HandS.Star
import HandS.Deep
import HandS.Conv
import HandS.IsInst
import HandS.Property
import HandS.FStr
import HandS.Walk
import HandS.TupAny
import HandS.Style
import HandS.Codes
import KE.GoesEnum
import HandS.Defaults
import HandS.HeadHook3
import PySem.Challenge.RW_forcedties_k75_whole_shapes_certified
import HandS.Head0
import HandS.Head1
import HandS.Head2
import HandS.HeadEnd
import HandS.HeadHook1
import HandS.HeadHook2
import HandS.HeadNt
set_option Elab.async false
set_option linter.all false
set_option maxRecDepth 100000
set_option maxHeartbeats 0
/-! FT1: data of tuples, numbers and texts in the abstract heap; the rules for ==, <, in, min, sorted over them. -/
namespace FT
open PySem PySem.Spec PyProof.Rows L2
open PySem.W (Datum DatumOrd Tup Holds HoldAll)

/-! ### data that never change: numbers, texts, tuples of such -/
mutual
inductive Td (H : Hp) : V → PyData → Prop
  | non : Td H .non .none
  | bl (b : Bool) : Td H (.bl b) (.bool b)
  | int (i : Int) : Td H (.int i) (.int i)
  | str (x : Str) : Td H (.str x) (.str x)
  | tup {a : Addr} {vs : List V} {ds : List PyData} : H a = some (.tup vs) → TdAll H vs ds → Td H (.ref a) (.tuple ds)
inductive TdAll (H : Hp) : List V → List PyData → Prop
  | nil : TdAll H [] []
  | cons {v : V} {vs : List V} {d : PyData} {ds : List PyData} : Td H v d → TdAll H vs ds → TdAll H (v :: vs) (d :: ds)
end

/-- the tuples are as they were -/
def SameT (H H' : Hp) : Prop := ∀ a vs, H a = some (.tup vs) → H' a = some (.tup vs)
theorem SameT.refl (H : Hp) : SameT H H := fun _ _ h => h
theorem SameT.trans {H H1 H2 : Hp} (a : SameT H H1) (b : SameT H1 H2) : SameT H H2 := fun c o h => b c o (a c o h)
theorem SameT.of {H H' : Hp} (h : Same H H') : SameT H H' := fun a _ e => h a _ e
/-- a store at an address where no tuple stands -/
theorem SameT.upd {H : Hp} {a : Addr} {o : HO} (h : ∀ vs, H a ≠ some (.tup vs)) : SameT H (upd H a o) := fun b vs e => by
  have hb : b ≠ a := fun q => h vs (by rw [← q]; exact e)
  rw [upd_ne hb]
  exact e
theorem SameT.lst {H : Hp} {a : Addr} {ws : List V} {o : HO} (h : H a = some (.lst ws)) : SameT H (L2.upd H a o) := SameT.upd fun vs e => by
  rw [h] at e
  cases e
theorem SameT.new {H : Hp} {a : Addr} {o : HO} (h : H a = none) : SameT H (L2.upd H a o) := SameT.upd fun vs e => by
  rw [h] at e
  cases e
theorem same_new {H : Hp} {p : Addr} {o : HO} (h : H p = none) : Same H (upd H p o) := fun b u q => by
  rw [upd_ne (ne_of_none q h)]
  exact q
/-- what H does not know may change -/
theorem Same.mut {H H' : Hp} {p : Addr} {o : HO} (e : Same H H') (h : H p = none) : Same H (upd H' p o) := fun a u ha => by
  rw [upd_ne (ne_of_none ha h)]
  exact e a u ha

mutual
theorem Td.mono {H H' : Hp} (k : SameT H H') : ∀ (d : PyData) (v : V), Td H v d → Td H' v d
  | .none, _, h => by cases h; exact .non
  | .bool _, _, h => by cases h; exact .bl _
  | .int _, _, h => by cases h; exact .int _
  | .str _, _, h => by cases h; exact .str _
  | .list _, _, h => by cases h
  | .tuple ds, _, h => by
    cases h with
    | tup e t => exact .tup (k _ _ e) (TdAll.mono k ds _ t)
  | .dict _, _, h => by cases h
theorem TdAll.mono {H H' : Hp} (k : SameT H H') : ∀ (ds : List PyData) (vs : List V), TdAll H vs ds → TdAll H' vs ds
  | [], _, h => by cases h; exact .nil
  | d :: ds, _, h => by
    cases h with
    | cons h1 h2 => exact .cons (Td.mono k d _ h1) (TdAll.mono k ds _ h2)
end
mutual
theorem Td.dp {K : PySem.W.Frag} {H : Hp} : ∀ (d : PyData) (v : V), Td H v d → Dp K H v d
  | .none, _, h => by cases h; exact .non
  | .bool _, _, h => by cases h; exact .bl _
  | .int _, _, h => by cases h; exact .int _
  | .str _, _, h => by cases h; exact .str _
  | .list _, _, h => by cases h
  | .tuple ds, _, h => by
    cases h with
    | tup e t => exact .tup (.inl (.inl e)) (TdAll.dp ds _ t)
  | .dict _, _, h => by cases h
theorem TdAll.dp {K : PySem.W.Frag} {H : Hp} : ∀ (ds : List PyData) (vs : List V), TdAll H vs ds → DpAll K H vs ds
  | [], _, h => by cases h; exact .nil
  | d :: ds, _, h => by
    cases h with
    | cons h1 h2 => exact .cons (Td.dp d _ h1) (TdAll.dp ds _ h2)
end

section
variable {α β γ : Type} [DecidableEq α] [Datum α] [DecidableEq β] [Datum β] [DecidableEq γ] [Datum γ]
/-- v holds x; item by item; the list at a holds xs -/
def Is (H : Hp) (v : V) (x : α) : Prop := Td H v (Datum.toD x)
def Are (H : Hp) (vs : List V) (xs : List α) : Prop := TdAll H vs (xs.map Datum.toD)
def Lis (H : Hp) (a : Addr) (xs : List α) : Prop := ∃ vs, H a = some (.lst vs) ∧ Are H vs xs
variable {H H' : Hp} {v : V} {vs : List V} {x : α} {xs : List α} {a : Addr}
theorem Is.mono (h : Is H v x) (k : SameT H H') : Is H' v x := Td.mono k _ _ h
theorem Are.mono (h : Are H vs xs) (k : SameT H H') : Are H' vs xs := TdAll.mono k _ _ h
theorem Lis.mono (h : Lis H a xs) (k : Same H H') : Lis H' a xs := by
  obtain ⟨vs, e, t⟩ := h
  exact ⟨vs, k _ _ e, t.mono (.of k)⟩
/-- .. where all but another list stands -/
theorem Lis.monoT (h : Lis H a xs) (k : SameT H H') (e : ∀ vs, H a = some (.lst vs) → H' a = some (.lst vs)) : Lis H' a xs := by
  obtain ⟨vs, q, t⟩ := h
  exact ⟨vs, e _ q, t.mono k⟩
theorem Are.nil : Are H [] ([] : List α) := TdAll.nil
theorem Are.cons (h : Is H v x) (t : Are H vs xs) : Are H (v :: vs) (x :: xs) := TdAll.cons h t
theorem Are.one (h : Is H v x) : Are H [v] [x] := Are.cons h Are.nil
theorem Are.head {y : α} {ys : List α} (h : Are H (v :: vs) (y :: ys)) : Is H v y ∧ Are H vs ys := by
  cases h with
  | cons h1 h2 => exact ⟨h1, h2⟩
theorem Are.length : ∀ {vs : List V} {xs : List α}, Are H vs xs → vs.length = xs.length
  | [], [], _ => rfl
  | [], _ :: _, h => by cases h
  | _ :: _, [], h => by cases h
  | _ :: _, _ :: _, h => by
    rw [List.length_cons, List.length_cons, Are.length h.head.2]
theorem Are.append : ∀ {vs : List V} {xs : List α} {ws : List V} {ys : List α}, Are H vs xs → Are H ws ys → Are H (vs ++ ws) (xs ++ ys)
  | [], [], _, _, _, t => t
  | [], _ :: _, _, _, h, _ => by cases h
  | _ :: _, [], _, _, h, _ => by cases h
  | _ :: _, _ :: _, _, _, h, t => Are.cons h.head.1 (Are.append h.head.2 t)
theorem Are.at : ∀ {vs : List V} {xs : List α} {i : Nat} {v : V}, Are H vs xs → vs[i]? = some v → ∃ x, xs[i]? = some x ∧ Is H v x
  | [], _, _, _, _, e => by simp at e
  | _ :: _, [], _, _, h, _ => by cases h
  | _ :: _, y :: _, 0, v, h, e => by
    have q := Option.some.inj (show some _ = some v from e)
    subst q
    exact ⟨y, rfl, h.head.1⟩
  | _ :: _, _ :: _, i + 1, v, h, e => Are.at (i := i) h.head.2 e
theorem Are.at' : ∀ {vs : List V} {xs : List α} {i : Nat} {x : α}, Are H vs xs → xs[i]? = some x → ∃ v, vs[i]? = some v ∧ Is H v x
  | _, [], _, _, _, e => by simp at e
  | [], _ :: _, _, _, h, _ => by cases h
  | w :: _, y :: _, 0, x, h, e => by
    have q := Option.some.inj (show some y = some x from e)
    subst q
    exact ⟨w, rfl, h.head.1⟩
  | _ :: _, _ :: _, i + 1, x, h, e => Are.at' (i := i) h.head.2 e
theorem Are.take : ∀ {vs : List V} {xs : List α} (n : Nat), Are H vs xs → Are H (vs.take n) (xs.take n)
  | _, _, 0, _ => Are.nil
  | [], [], _ + 1, _ => Are.nil
  | [], _ :: _, _ + 1, h => by cases h
  | _ :: _, [], _ + 1, h => by cases h
  | _ :: _, _ :: _, n + 1, h => Are.cons h.head.1 (Are.take n h.head.2)
theorem Are.drop : ∀ {vs : List V} {xs : List α} (n : Nat), Are H vs xs → Are H (vs.drop n) (xs.drop n)
  | _, _, 0, h => h
  | [], [], _ + 1, _ => Are.nil
  | [], _ :: _, _ + 1, h => by cases h
  | _ :: _, [], _ + 1, h => by cases h
  | _ :: _, _ :: _, n + 1, h => Are.drop n h.head.2
theorem Are.eraseIdx : ∀ {vs : List V} {xs : List α} (n : Nat), Are H vs xs → Are H (vs.eraseIdx n) (xs.eraseIdx n)
  | [], [], _, _ => Are.nil
  | [], _ :: _, _, h => by cases h
  | _ :: _, [], _, h => by cases h
  | _ :: _, _ :: _, 0, h => h.head.2
  | _ :: _, _ :: _, n + 1, h => Are.cons h.head.1 (Are.eraseIdx n h.head.2)
theorem Are.empty (h : Are H vs ([] : List α)) : vs = [] := by
  cases h
  rfl
theorem Are.of_at : ∀ {vs : List V} {xs : List α}, vs.length = xs.length → (∀ (i : Nat) (v : V) (x : α), vs[i]? = some v → xs[i]? = some x → Is H v x) → Are H vs xs
  | [], [], _, _ => Are.nil
  | [], _ :: _, l, _ => by simp at l
  | _ :: _, [], l, _ => by simp at l
  | v :: vs, x :: xs, l, h => Are.cons (h 0 v x rfl rfl) (Are.of_at (by simpa using l) fun i w y e1 e2 => h (i + 1) w y e1 e2)
/-! #### how it is known, what it is -/
theorem is_int (n : Int) : Is H (.int n) n := Td.int n
theorem is_str (z : Str) : Is H (.str z) z := Td.str z
theorem is_bl (b : Bool) : Is H (.bl b) b := Td.bl b
theorem is_tup {t : List α} (e : H a = some (.tup vs)) (h : Are H vs t) : Is H (.ref a) (Tup.mk t) := Td.tup e h
theorem is_pair {y : β} {u w : V} (e : H a = some (.tup [u, w])) (hu : Is H u x) (hw : Is H w y) : Is H (.ref a) (x, y) := Td.tup e (TdAll.cons hu (TdAll.cons hw TdAll.nil))
theorem is_tie {i j : Int} (e : H a = some (.tup [.int i, .int j])) : Is H (.ref a) (i, j) := is_pair e (is_int i) (is_int j)
theorem of_int {n : Int} (h : Is H v n) : v = .int n := by
  cases h
  rfl
theorem of_str {z : Str} (h : Is H v z) : v = .str z := by
  cases h
  rfl
theorem of_tup {t : Tup α} (h : Is H v t) : ∃ a vs, v = .ref a ∧ H a = some (.tup vs) ∧ Are H vs t.items := by
  obtain ⟨t⟩ := t
  cases h with
  | tup e q => exact ⟨_, _, rfl, e, q⟩
theorem of_pair {p : α × β} (h : Is H v p) : ∃ a u w, v = .ref a ∧ H a = some (.tup [u, w]) ∧ Is H u p.1 ∧ Is H w p.2 := by
  obtain ⟨p1, p2⟩ := p
  cases h with
  | tup e q =>
    cases q with
    | cons q1 q2 =>
      cases q2 with
      | cons q2 q3 =>
        cases q3
        exact ⟨_, _, _, rfl, e, q1, q2⟩
theorem of_tie {p : Int × Int} (h : Is H v p) : ∃ a, v = .ref a ∧ H a = some (.tup [.int p.1, .int p.2]) := by
  obtain ⟨a, u, w, e1, e2, e3, e4⟩ := of_pair h
  cases of_int e3
  cases of_int e4
  exact ⟨a, e1, e2⟩
theorem are_ints : ∀ ns : List Int, Are H (ns.map V.int) ns
  | [] => Are.nil
  | n :: ns => Are.cons (is_int n) (are_ints ns)
theorem of_ints : ∀ {vs : List V} {ns : List Int}, Are H vs ns → vs = ns.map V.int
  | [], [], _ => rfl
  | [], _ :: _, h => by cases h
  | _ :: _, [], h => by cases h
  | _ :: _, n :: _, h => by
    rw [List.map_cons, of_int h.head.1, of_ints h.head.2]
theorem are_strs : ∀ ns : List Str, Are H (ns.map V.str) ns
  | [] => Are.nil
  | n :: ns => Are.cons (is_str n) (are_strs ns)
theorem of_strs : ∀ {vs : List V} {ns : List Str}, Are H vs ns → vs = ns.map V.str
  | [], [], _ => rfl
  | [], _ :: _, h => by cases h
  | _ :: _, [], h => by cases h
  | _ :: _, n :: _, h => by
    rw [List.map_cons, of_str h.head.1, of_strs h.head.2]
theorem are_bls : ∀ ns : List Bool, Are H (ns.map V.bl) ns
  | [] => Are.nil
  | n :: ns => Are.cons (is_bl n) (are_bls ns)

/-! #### as data that a comparison reads: a value, a list of values, a list of lists -/
/-- the value reads as x -/
def Dv (K : PySem.W.Frag) (H : Hp) (v : V) (x : α) : Prop := Dp K H v (Datum.toD x)
theorem Is.dv {K : PySem.W.Frag} (h : Is H v x) : Dv K H v x := Td.dp _ _ h
theorem Lis.dv {K : PySem.W.Frag} (h : Lis H a xs) : Dv K H (.ref a) xs := by
  obtain ⟨vs, e, t⟩ := h
  exact Dp.lst (.inl (.inl e)) (TdAll.dp _ _ t)
/-- lists at these addresses -/
inductive Lss (H : Hp) : List Addr → List (List α) → Prop
  | nil : Lss H [] []
  | cons {q : Addr} {qs : List Addr} {x : List α} {xs : List (List α)} : Lis H q x → Lss H qs xs → Lss H (q :: qs) (x :: xs)
theorem Lss.mono {qs : List Addr} {xs : List (List α)} (h : Lss H qs xs) (k : Same H H') : Lss H' qs xs := by
  induction h with
  | nil => exact .nil
  | cons h1 _ ih => exact .cons (h1.mono k) ih
theorem Lss.length {qs : List Addr} {xs : List (List α)} (h : Lss H qs xs) : qs.length = xs.length := by
  induction h with
  | nil => rfl
  | cons _ _ ih => rw [List.length_cons, List.length_cons, ih]
theorem Lss.append {qs : List Addr} {xs : List (List α)} {rs : List Addr} {ys : List (List α)} (h : Lss H qs xs) (t : Lss H rs ys) : Lss H (qs ++ rs) (xs ++ ys) := by
  induction h with
  | nil => exact t
  | cons h1 _ ih => exact .cons h1 ih
theorem Lss.at : ∀ {qs : List Addr} {xs : List (List α)} {i : Nat} {q : Addr}, Lss H qs xs → qs[i]? = some q → ∃ x, xs[i]? = some x ∧ Lis H q x
  | _, _, _, _, .nil, e => by simp at e
  | _, _, 0, q, .cons (q := q') (x := x) h _, e => by
    have z := Option.some.inj (show some q' = some q from e)
    subst z
    exact ⟨x, rfl, h⟩
  | _, _, i + 1, q, .cons _ t, e => Lss.at (i := i) t e
theorem Lss.at' : ∀ {qs : List Addr} {xs : List (List α)} {i : Nat} {x : List α}, Lss H qs xs → xs[i]? = some x → ∃ q, qs[i]? = some q ∧ Lis H q x
  | _, _, _, _, .nil, e => by simp at e
  | _, _, 0, x, .cons (q := q) (x := x') h _, e => by
    have z := Option.some.inj (show some x' = some x from e)
    subst z
    exact ⟨q, rfl, h⟩
  | _, _, i + 1, q, .cons _ t, e => Lss.at' (i := i) t e
theorem Lss.dpAll {K : PySem.W.Frag} {qs : List Addr} {xs : List (List α)} (h : Lss H qs xs) : DpAll K H (qs.map V.ref) (xs.map Datum.toD) := by
  induction h with
  | nil => exact .nil
  | cons h1 _ ih => exact .cons h1.dv ih
theorem Lss.dv {K : PySem.W.Frag} {qs : List Addr} {xs : List (List α)} (h : Lss H qs xs) (e : H a = some (.lst (qs.map V.ref))) : Dv K H (.ref a) xs := Dp.lst (.inl (.inl e)) h.dpAll
end
end FT

/-! FT2: rules over FT1's data: ==, !=, <, <=, in, min, sorted; str(own object); enumerate(tuple); three comparisons in a chain; get of a written dict. -/
namespace FT
open PySem PySem.Spec PyProof.Rows L2
open PySem.W (Datum DatumOrd Tup Holds HoldAll)

section
variable {α : Type} [DecidableEq α] [Datum α] {X : Cx} {pins : List (Addr × Obj)} {σ : L2.St} {H : Hp} {s : Shared}
theorem Dv.holds {v : V} {u : Value} {x : α} (I : Inv X pins σ H s) (h : Dv X.K H v x) (r : RelV v u) : Holds s.heap u x := Dp.reads I _ _ _ h r
theorem toD_inj {x y : α} (h : Datum.toD x = Datum.toD y) : x = y := by
  have e : PyData.eqv (Datum.toD x) (Datum.toD y) = decide (x = y) := Datum.eqv x y
  rw [← h, Datum.eqv x x] at e
  simpa using e.symm

/-- x == y, x != y -/
def rEqX (α : Type) [DecidableEq α] [Datum α] (K : PySem.W.Frag) : R2 := fun x y H Q => ∃ p q : α, Dv K H x p ∧ Dv K H y q ∧ Q (.bl (decide (p = q))) H
def rNeX (α : Type) [DecidableEq α] [Datum α] (K : PySem.W.Frag) : R2 := fun x y H Q => ∃ p q : α, Dv K H x p ∧ Dv K H y q ∧ Q (.bl (decide (p ≠ q))) H
theorem op_eqX (α : Type) [DecidableEq α] [Datum α] (hu : X.A.units + 64 < cLine) (hd : Datum.depth α ≤ 60 := by decide) : OpR X (compareOp .Eq) (rEqX α X.K) := by
  intro pins s σ H x y v u Q I rx ry h
  obtain ⟨p, q, hp, hq, k⟩ := h
  exact PySem.W.eq_datum (hp.holds I rx) (hq.holds I ry) (by omega) ⟨.bl _, H, I, rfl, k⟩
theorem op_neX (α : Type) [DecidableEq α] [Datum α] (hu : X.A.units + 64 < cLine) (hd : Datum.depth α ≤ 60 := by decide) : OpR X (compareOp .NotEq) (rNeX α X.K) := by
  intro pins s σ H x y v u Q I rx ry h
  obtain ⟨p, q, hp, hq, k⟩ := h
  exact PySem.W.ne_datum (hp.holds I rx) (hq.holds I ry) (by omega) ⟨.bl _, H, I, rfl, k⟩
/-- x in y, x not in y, y a list that reads as a list of such -/
def rInX (α : Type) [DecidableEq α] [Datum α] (K : PySem.W.Frag) : R2 := fun x y H Q => ∃ (p : α) (qs : List α), Dv K H x p ∧ Dv K H y qs ∧ Q (.bl (decide (p ∈ qs))) H
def rNotInX (α : Type) [DecidableEq α] [Datum α] (K : PySem.W.Frag) : R2 := fun x y H Q => ∃ (p : α) (qs : List α), Dv K H x p ∧ Dv K H y qs ∧ Q (.bl (decide (p ∉ qs))) H
theorem op_inX (α : Type) [DecidableEq α] [Datum α] (hu : X.A.units + 64 < cLine) (hd : Datum.depth α ≤ 60 := by decide) : OpR X (compareOp .In) (rInX α X.K) := by
  intro pins s σ H x y v u Q I rx ry h
  obtain ⟨p, q, hp, hq, k⟩ := h
  obtain ⟨l, vs, e, hl, ha⟩ := PySem.W.list_of_holds (hq.holds I ry)
  subst e
  exact PySem.W.in_list_datum hl ha (hp.holds I rx) (by omega) ⟨.bl _, H, I, rfl, k⟩
theorem op_notInX (α : Type) [DecidableEq α] [Datum α] (hu : X.A.units + 64 < cLine) (hd : Datum.depth α ≤ 60 := by decide) : OpR X (compareOp .NotIn) (rNotInX α X.K) := by
  intro pins s σ H x y v u Q I rx ry h
  obtain ⟨p, q, hp, hq, k⟩ := h
  obtain ⟨l, vs, e, hl, ha⟩ := PySem.W.list_of_holds (hq.holds I ry)
  subst e
  exact PySem.W.notIn_list_datum hl ha (hp.holds I rx) (by omega) ⟨.bl _, H, I, rfl, k⟩
/-- .. y a tuple -/
def rInU (α : Type) [DecidableEq α] [Datum α] (K : PySem.W.Frag) : R2 := fun x y H Q => ∃ (p : α) (qs : Tup α), Dv K H x p ∧ Dv K H y qs ∧ Q (.bl (decide (p ∈ qs.items))) H
def rNotInU (α : Type) [DecidableEq α] [Datum α] (K : PySem.W.Frag) : R2 := fun x y H Q => ∃ (p : α) (qs : Tup α), Dv K H x p ∧ Dv K H y qs ∧ Q (.bl (decide (p ∉ qs.items))) H
theorem op_inU (α : Type) [DecidableEq α] [Datum α] (hu : X.A.units + 64 < cLine) (hd : Datum.depth α ≤ 60 := by decide) : OpR X (compareOp .In) (rInU α X.K) := by
  intro pins s σ H x y v u Q I rx ry h
  obtain ⟨p, q, hp, hq, k⟩ := h
  obtain ⟨l, vs, e, hl, ha⟩ := PySem.W.tup_of_holds (hq.holds I ry)
  subst e
  exact PySem.W.in_tuple_datum hl ha (hp.holds I rx) (by omega) ⟨.bl _, H, I, rfl, k⟩
theorem op_notInU (α : Type) [DecidableEq α] [Datum α] (hu : X.A.units + 64 < cLine) (hd : Datum.depth α ≤ 60 := by decide) : OpR X (compareOp .NotIn) (rNotInU α X.K) := by
  intro pins s σ H x y v u Q I rx ry h
  obtain ⟨p, q, hp, hq, k⟩ := h
  obtain ⟨l, vs, e, hl, ha⟩ := PySem.W.tup_of_holds (hq.holds I ry)
  subst e
  exact PySem.W.notIn_tuple_datum hl ha (hp.holds I rx) (by omega) ⟨.bl _, H, I, rfl, k⟩
end

section
variable {α : Type} [DecidableEq α] [DatumOrd α] {X : Cx} {pins : List (Addr × Obj)} {σ : L2.St} {H : Hp} {s : Shared}
/-- x < y, x <= y -/
def rLtX (α : Type) [DecidableEq α] [DatumOrd α] (K : PySem.W.Frag) : R2 := fun x y H Q => ∃ p q : α, Dv K H x p ∧ Dv K H y q ∧ Q (.bl (DatumOrd.lt p q)) H
def rLeX (α : Type) [DecidableEq α] [DatumOrd α] (K : PySem.W.Frag) : R2 := fun x y H Q => ∃ p q : α, Dv K H x p ∧ Dv K H y q ∧ Q (.bl (!DatumOrd.lt q p)) H
theorem op_ltX (α : Type) [DecidableEq α] [DatumOrd α] (hu : X.A.units + 64 < cLine) (hd : Datum.depth α ≤ 60 := by decide) : OpR X (compareOp .Lt) (rLtX α X.K) := by
  intro pins s σ H x y v u Q I rx ry h
  obtain ⟨p, q, hp, hq, k⟩ := h
  exact PySem.W.lt_datum (hp.holds I rx) (hq.holds I ry) (by omega) ⟨.bl _, H, I, rfl, k⟩
theorem op_leX (α : Type) [DecidableEq α] [DatumOrd α] (hu : X.A.units + 64 < cLine) (hd : Datum.depth α ≤ 60 := by decide) : OpR X (compareOp .LtE) (rLeX α X.K) := by
  intro pins s σ H x y v u Q I rx ry h
  obtain ⟨p, q, hp, hq, k⟩ := h
  exact PySem.W.le_datum (hp.holds I rx) (hq.holds I ry) (by omega) ⟨.bl _, H, I, rfl, k⟩

theorem DpAll.at : ∀ {K : PySem.W.Frag} {H : Hp} {vs : List V} {ds : List PyData} {i : Nat} {v : V}, DpAll K H vs ds → vs[i]? = some v → ∃ d, ds[i]? = some d ∧ Dp K H v d
  | _, _, [], _, _, _, _, e => by simp at e
  | _, _, _ :: _, [], _, _, h, _ => by cases h
  | _, _, w :: _, d :: _, 0, v, h, e => by
    have q := Option.some.inj (show some w = some v from e)
    subst q
    cases h with
    | cons h1 _ => exact ⟨d, rfl, h1⟩
  | _, _, _ :: _, _ :: _, i + 1, v, h, e => by
    cases h with
    | cons _ h2 => exact DpAll.at (i := i) h2 e
theorem Vals.get' : ∀ {xs : List V} {us : List Value} {i : Nat} {u : Value}, Vals xs us → us[i]? = some u → ∃ x, xs[i]? = some x ∧ RelV x u
  | _, _, _, _, .nil, e => by simp at e
  | _, _, 0, u, .cons (a := x) r _, e => by
    have q := Option.some.inj (show some _ = some u from e)
    subst q
    exact ⟨x, rfl, r⟩
  | _, _, i + 1, u, .cons _ t, e => Vals.get' (i := i) t e

/-- min(l): the item itself, the first of the least -/
def rMinX (α : Type) [DecidableEq α] [DatumOrd α] (K : PySem.W.Frag) : List V → Hp → VK → Prop := fun args H Q => ∃ (a : Addr) (vs : List V) (x : α) (xs : List α), args = [.ref a] ∧ SqL K H a vs ∧ DpAll K H vs ((x :: xs).map Datum.toD) ∧
  ∀ (i : Nat) (v : V), vs[i]? = some v → (x :: xs)[i]? = some (PySem.W.minOf x xs) → Q v H
theorem cr_minX (α : Type) [DecidableEq α] [DatumOrd α] (hc : X.calm = true) (hu : X.A.units + 64 < cLine) (hd : Datum.depth α ≤ 60 := by decide) : CallR X (.builtin "min") (rMinX α X.K) := by
  intro pins s σ H args us Q I r h
  obtain ⟨a, vs, x, xs, rfl, hs, hx, q⟩ := h
  obtain ⟨u, rfl, ru⟩ := vals1 r
  obtain rfl : u = Value.ref a := ru
  obtain ⟨its, rv, hl, hz⟩ := I.list hs
  obtain ⟨as, ra⟩ := Dp.readsAll I _ _ _ hx rv
  refine PySem.W.min_list_datum (x := x) (xs := xs) (I.ok.hd hc) hl.isList ⟨as, ra⟩ (by omega) fun i v h' tk hi hv hk => ?_
  have hi' : its[i]? = some v := by simpa using hi
  obtain ⟨y, hy, ry⟩ := Vals.get' rv hi'
  obtain ⟨d, hd1, hd2⟩ := DpAll.at hx hy
  obtain ⟨bs, rb⟩ := Dp.reads I _ _ _ hd2 ry
  obtain ⟨cs, rc⟩ := hv
  have e := (rc.unique _ _ (PyProof.Rows.Reads.keeps hk rb)).1.symm
  rw [List.getElem?_map] at hd1
  obtain ⟨z, hz1, hz2⟩ := Option.map_eq_some_iff.mp hd1
  have ez : z = PySem.W.minOf x xs := toD_inj (hz2.trans e)
  subst ez
  exact ⟨y, H, I.kept hk, ry, q i y hy hz1⟩
end
end FT
namespace FT
open PySem PySem.Spec PyProof.Rows L2
open PySem.W (Datum DatumOrd Tup Holds HoldAll)
/-! ### sorted -/
/-- a before b in a sorted list -/
def leX {α : Type} [DecidableEq α] [DatumOrd α] (a b : α) : Bool := !DatumOrd.lt b a
/-- sorted(l): a new list, the items in order, equal ones in their order -/
def rSortX (α : Type) [DecidableEq α] [DatumOrd α] (K : PySem.W.Frag) : List V → Hp → VK → Prop := fun args H Q => ∃ (a : Addr) (vs : List V) (xs : List α), args = [.ref a] ∧ SqL K H a vs ∧ Are H vs xs ∧
  ∀ (p : Addr) (ws : List V), H p = none → Are H ws (xs.mergeSort leX) → Q (.ref p) (upd H p (.lst ws))
theorem each_of {α : Type} [DecidableEq α] [DatumOrd α] {X : Cx} {pins : List (Addr × Obj)} {σ : L2.St} {H : Hp} {s : Shared} (I : Inv X pins σ H s) : ∀ {vs : List V} {its : List Value} {xs : List α}, Vals vs its → Are H vs xs →
    PySem.W.EachIs (fun u (b : V × α) => RelV b.1 u ∧ Is H b.1 b.2) its (vs.zip xs) ∧ PySem.W.EachIs (fun u (b : V × α) => ∃ as, Reads s.heap u (Datum.toD b.2) as) its (vs.zip xs)
  | _, _, [], .nil, _ => ⟨.nil, .nil⟩
  | _, _, _ :: _, .nil, h => by cases h
  | _, _, [], .cons _ _, h => by cases h
  | _, _, _ :: _, .cons r t, h => by
    obtain ⟨e1, e2⟩ := each_of I t h.head.2
    exact ⟨.cons ⟨r, h.head.1⟩ e1, .cons (Dp.reads I _ _ _ (h.head.1.dv (K := X.K)) r) e2⟩
theorem each_out {α : Type} [DecidableEq α] [DatumOrd α] {H : Hp} : ∀ {out : List Value} {bs : List (V × α)}, PySem.W.EachIs (fun u (b : V × α) => RelV b.1 u ∧ Is H b.1 b.2) out bs → Vals (bs.map (·.1)) out ∧ Are H (bs.map (·.1)) (bs.map (·.2))
  | _, _, .nil => ⟨.nil, Are.nil⟩
  | _, _, .cons h t => by
    obtain ⟨e1, e2⟩ := each_out t
    exact ⟨.cons h.1 e1, Are.cons h.2 e2⟩
theorem sortable_int (xs : List Int) : PySem.W.Sortable (xs.map Datum.toD) := PySem.W.Sortable.others (enc := Datum.toD) (bs := xs) fun b => ⟨fun e => by (have e' : PyData.int b = .none := e; cases e'), fun zs e => by (have e' : PyData.int b = .tuple zs := e; cases e')⟩
theorem sortable_pair {α β : Type} [DecidableEq α] [Datum α] [DecidableEq β] [Datum β] (xs : List (α × β)) : PySem.W.Sortable (xs.map Datum.toD) := PySem.W.Sortable.tuples (enc := Datum.toD) (bs := xs) fun b => ⟨_, _, rfl⟩
theorem zip_fst {α β : Type} : ∀ {vs : List α} {xs : List β}, vs.length = xs.length → (vs.zip xs).map (·.1) = vs
  | [], [], _ => rfl
  | [], _ :: _, h => by simp at h
  | _ :: _, [], h => by simp at h
  | v :: vs, x :: xs, h => by
    rw [List.zip_cons_cons, List.map_cons, zip_fst (by simpa using h)]
theorem zip_snd {α β : Type} : ∀ {vs : List α} {xs : List β}, vs.length = xs.length → (vs.zip xs).map (·.2) = xs
  | [], [], _ => rfl
  | [], _ :: _, h => by simp at h
  | _ :: _, [], h => by simp at h
  | v :: vs, x :: xs, h => by
    rw [List.zip_cons_cons, List.map_cons, zip_snd (by simpa using h)]
theorem cr_sortX (α : Type) [DecidableEq α] [DatumOrd α] {X : Cx} (hso : ∀ xs : List α, PySem.W.Sortable (xs.map Datum.toD)) (hu : X.A.units + 64 < cLine) (hd : Datum.depth α ≤ 60 := by decide) : CallR X (.builtin "sorted") (rSortX α X.K) := by
  intro pins s σ H args us Q I r h
  obtain ⟨a, vs, xs, rfl, hs, hx, q⟩ := h
  obtain ⟨u, rfl, ru⟩ := vals1 r
  obtain rfl : u = Value.ref a := ru
  obtain ⟨its, rv, hl, hz⟩ := I.list hs
  obtain ⟨e1, e2⟩ := each_of I rv hx
  have hlen := hx.length
  have hmap : (vs.zip xs).map (fun b : V × α => Datum.toD b.2) = xs.map Datum.toD := by
    have q1 : (vs.zip xs).map (fun b : V × α => Datum.toD b.2) = ((vs.zip xs).map (fun b : V × α => b.2)).map Datum.toD := by
      rw [List.map_map]
      rfl
    rw [q1]
    exact congrArg _ (zip_snd hlen)
  refine PySem.W.sorted_data (enc := fun b : V × α => Datum.toD b.2) hl.isList e1 e2 ?_ ?_ ?_ ?_ fun out ho h2 => ?_
  · rw [hmap]
    exact PySem.W.AllAlike.of fun b b' => DatumOrd.alike b b'
  · rw [hmap]
    exact hso xs
  · rw [List.length_zip]
    omega
  · intro b _
    have := Datum.depth_le b.2
    omega
  · obtain ⟨v1, v2⟩ := each_out h2
    have hout : ((vs.zip xs).mergeSort (PySem.W.dataLe false fun b : V × α => Datum.toD b.2)).map (fun b : V × α => b.2) = xs.mergeSort leX := by
      rw [List.map_mergeSort (s := leX) (fun a _ b _ => ?_)]
      · exact congrArg (fun z => z.mergeSort leX) (zip_snd hlen)
      · rw [PySem.W.dataLe_eq]
        show (!PySem.W.dataLt _ _) = !DatumOrd.lt _ _
        rw [DatumOrd.lt_eq]
    rw [hout] at v2
    obtain ⟨ep, he⟩ := PyProof.Rows.sortedAll_at s.heap its (List.toArray out)
    refine ⟨.ref (s.heap.objs.size + 1), upd H (s.heap.objs.size + 1) (.lst _), I.laid (t' := s.toks) (fun _ _ => PyProof.Rows.sortedAll_old) (Nat.le_succ _) ⟨?_, out, ep, v1, he⟩, rfl, q _ _ (I.hok.fresh (Nat.le_succ _)) v2⟩
    have e3 := v1.length
    have e4 : (vs.zip xs).length ≤ vs.length := by
      rw [List.length_zip]
      omega
    omega
end FT

/-! FT3: str(own object); three comparisons in a chain; get of a written dict; enumerate(tuple). -/
namespace FT
open PySem PySem.Spec PyProof.Rows L2

/-! ### str(o), o of a class of the text with its own __str__ -/
structure StrOf (K : PySem.W.Frag) (C f : Addr) : Prop where
  at_ : PySem.W.findIn K (.ref C) "__str__" = some (some (.ref f))
  fn : PySem.W.isFn K (.ref f) = true
def rStrOwn (C : Addr) (sp : Sp) : List V → Hp → VK → Prop := fun xs H Q => ∃ a dx fs, xs = [.ref a] ∧ H a = some (.ins C dx fs) ∧ sp [.ref a] H (fun v H' => ∃ z, v = .str z ∧ Q (.str z) H') E0
theorem call_strOwn {X : Cx} {k : Nat} {C f : Addr} {fd : FuncData} {ps : List Str} {sp : Sp} (st : StrOf X.K C f) (F : FnOk X.prog X.w X.K X.mg X.base CX0 k f fd ps sp) (hr : Room (k + 2) X.A) (hb : Binds X.K fd ps []) : CallR X (.type "str") (rStrOwn C sp) := by
  intro pins s σ H xs us Q I r h
  obtain ⟨a, dx, fs, rfl, ea, h⟩ := h
  obtain ⟨u, rfl, ru⟩ := vals1 r
  obtain rfl : u = Value.ref a := ru
  obtain ⟨mA, O, _, _, _, _⟩ := ins_get I.hok ea
  obtain ⟨od, J, _⟩ := O.look
  have hl : ([Value.ref a] ++ ([] : List Value)).length = ps.length := by
    rw [← F.len _ _ _ _ h]
    rfl
  have hr2 : Room k X.A.in1.in1 := hr.in1.in1
  refine PySem.W.kso_call (Nat.lt_of_le_of_lt (Nat.le_add_right _ _) hr2.units) I.kIn J st.at_ st.fn (wpAny_call ?_)
  refine codeAny_mono (F.run X.A.in1.in1 X.stack s H ⟨[.ref a], []⟩ [.ref a] [.ref a] _ E0 hr2 I.env0.in1.in1 (hb s [.ref a] I.kIn hl) (.cons rfl .nil) h) fun r s' hq => ?_
  cases r with
  | error er => exact False.elim hq
  | ok fl =>
    cases fl with
    | ret u =>
      obtain ⟨v, H', I3, rv, z, e, q3⟩ := I.after hq
      subst e
      obtain ⟨t, rfl⟩ := rv
      exact ⟨.str z, H', I3, ⟨t, rfl⟩, q3⟩
    | next => exact False.elim hq
    | brk => exact False.elim hq
    | cont => exact False.elim hq

/-! ### a < b < c < d -/
section
variable {X : Cx} {a b c d : Expr} {ta tb tc td : TE} {pos : Pos}
def tChain3 (r r' r'' : R2) (ta tb tc td : TE) : TE := fun σ H Q => ta σ H fun x H1 => tb σ H1 fun y H2 => r x y H2 fun z H3 => ∃ k, z = .bl k ∧
  (if k = true then tc σ H3 fun y' H4 => r' y y' H4 fun z' H5 => ∃ k', z' = .bl k' ∧ (if k' = true then td σ H5 fun w' H6 => r'' y' w' H6 Q else Q (.bl false) H5) else Q (.bl false) H3)
theorem pe_chain3 {op op' op'' : CmpOp} {r r' r'' : R2} (ho : OpR X (compareOp op) r) (ho' : OpR X (compareOp op') r') (ho'' : OpR X (compareOp op'') r'') (ha : PE X a ta) (hb : PE X b tb) (hc : PE X c tc) (hd : PE X d td)
    (hm : lastMarks [op, op', op''] [b, c, d] = false := by with_unfolding_all rfl) : PE X (.Compare a [op, op', op''] [b, c, d] pos) (tChain3 r r' r'' ta tb tc td) := by
  refine ⟨fun pins s σ H Q I h => ?_⟩
  refine Compare_chain (thn (ha.run pins s σ H _ I h) fun v s1 ⟨x, H1, I1, r1, q1⟩ => chain_link (thn (hb.run pins s1 σ H1 _ I1 q1) fun u s2 ⟨y, H2, I2, r2, q2⟩ =>
    thn (ho pins s2 σ H2 x y v u _ I2 r1 r2 q2) fun d s3 ⟨z, H3, I3, r3, k, e, q3⟩ => ?_)) hm
  subst e
  cases r3
  refine wpAny_truthy_bool ?_
  cases k with
  | false => exact ite_ff ⟨.bl false, H3, I3, rfl, q3⟩
  | true =>
    refine ite_tt (chain_link (thn (hc.run pins s3 σ H3 _ I3 q3) fun w' s4 ⟨y', H4, I4, r4, q4⟩ => thn (ho' pins s4 σ H4 y y' u w' _ I4 r2 r4 q4) fun d2 s5 ⟨z2, H5, I5, r5, k2, e2, q5⟩ => ?_))
    subst e2
    cases r5
    refine wpAny_truthy_bool ?_
    cases k2 with
    | false => exact ite_ff ⟨.bl false, H5, I5, rfl, q5⟩
    | true => exact ite_tt (chain_last (thn (hd.run pins s5 σ H5 _ I5 q5) fun w2 s6 ⟨z3, H6, I6, r6, q6⟩ => ho'' pins s6 σ H6 y' z3 w' w2 Q I6 r4 r6 q6))
end

/-! ### d.get(k, x), d a dict that the module's top has written -/
def tKGet2 (K : PySem.W.Frag) (d : Addr) (td ty tx : TE) : TE := fun σ H Q => td σ H fun x H1 => x = .ref d ∧ ty σ H1 fun y H2 => tx σ H2 fun z H3 => ∃ (t : Str) (u0 : Value) (v0 : V), y = .str t ∧ PySem.W.nsIn K d t = some (some u0) ∧ RelV v0 u0 ∧ Q v0 H3
theorem pe_kget2 {X : Cx} {o e f : Expr} {td ty tx : TE} {apos cpos : Pos} {d : Addr} {es : Array DictEntry} {n : Nat} (D : KDict X.K X.w d es n) (ho : PE X o td) (he : PE X e ty) (hf : PE X f tx) (m : M2 X o "get" apos e f cpos) :
    PE X (.Call (.Attribute o "get" apos) [e, f] [] cpos) (tKGet2 X.K d td ty tx) := by
  refine ⟨fun pins s σ H Q I h => ?_⟩
  refine wpAny_Call_method m.base m.few m.line PySem.F.plainAttrs_dict PySem.F.slot_dict_get PySem.F.type_dict_get (thn (ho.run pins s σ H _ I h) fun u s1 ⟨x, H1, I1, rx, ex, q1⟩ => ?_)
  subst ex
  obtain rfl : u = Value.ref d := rx
  refine ⟨kd_type D I1, fun b hb => ?_, ?_⟩
  · cases hb
    exact ⟨_, I1.kIn _ _ D.at_, rfl⟩
  rw [m.trees]
  refine Calls.callWith_builtin rfl (Calls.evalArgs_plain (Calls.spliced_cons (thn (he.run pins s1 σ H1 _ I1 q1) fun iv s2 ⟨y, H2, I2, ry, q2⟩ =>
    Calls.spliced_cons (thn (hf.run pins s2 σ H2 _ I2 q2) fun fv s3 ⟨z, H3, I3, rz, t, u0, v0, ey, el, r0, q3⟩ => Calls.spliced_nil ?_))))
  subst ey
  obtain ⟨tk, rfl⟩ := ry
  refine call_meetsIn PySem.F.slot_dict_get (kd_type D I3) PySem.F.entry_dict_get (PySem.F.args_dict_get_3 _ _ _) (meets_dict_get_default (strKind X.prog X.w) d (PySem.strKind_is X.prog X.w t tk) D.low fv) ⟨_, PySem.W.mapOf_K (prog := X.prog) I3.kIn D.at_ D.lit, ?_⟩
  rw [PySem.W.find_K D.at_ el]
  exact ⟨v0, H3, I3.tok _, r0, q3⟩

/-! ### enumerate(t), t a tuple -/
theorem meets_enumerate_newT {v : Value} {o : Obj} {H : Heap → Prop} (B : Begins v o H) :
    Meets (Builtin.«enumerate.__new__» ⟨[.type "enumerate", v], []⟩) (fun _ R s => H s.heap ∧
      R (.ok (.ret (.ref (s.heap.push o).objs.size))) { s with heap := (s.heap.push o).push { cls := .type "enumerate", data := .fields #[.none, .bool false, .ref s.heap.objs.size, rawInt 0, .none, .none] } }) :=
  .of_wp fun prog w A R s h => by
    obtain ⟨hp, g, d, tk, os⟩ := s; obtain ⟨h1, h⟩ := h
    have hsub := sub_enumerate
    have q1 : ∀ {A' : Around} {E : Value → Shared → Prop} {Q : Value → Shared → Prop}, Q (.ref hp.objs.size) ⟨hp.push o, g, d, tk, os⟩ → wpAny (model prog w) A' (pyIter v) Q E ⟨hp, g, d, tk, os⟩ :=
      fun q => B.iter prog w _ _ ⟨hp, g, d, tk, os⟩ _ h1 q
    wp_walk using q1
    refine wpAny_stack_any fun st => wpAny_pure ?_
    split
    · rename_i c _ _ _ _ _
      cases (c == Value.type "enumerate")
      · wp_walk using q1
        exact ⟨_, rfl, h⟩
      · wp_walk using q1
        exact ⟨_, rfl, h⟩
    · wp_walk using q1
      exact ⟨_, rfl, h⟩
theorem call_enumerate_tuple {prog : Program} {w : World} {A : Around} {E : Value → Shared → Prop} {s : Shared} {l : Addr} {items : Array Value} {Q : Value → Shared → Prop} (hL : s.heap.IsTuple l items)
    (h : ∀ h', IsEnum h' (s.heap.objs.size + 1) s.heap.objs.size 0 .none → h'.IsTupleIter s.heap.objs.size l 0 → h'.objs.size = s.heap.objs.size + 2 →
      (∀ b o, s.heap.get? b = some o → h'.get? b = some o) → Q (.ref (s.heap.objs.size + 1)) { s with heap := h' }) :
    wpAny (model prog w) A (call (.type "enumerate") [.ref l]) Q E s := by
  refine callType_new F.called_enumerate (by decide) (F.typeCall_enumerate_1 _) (F.newCall_enumerate_1 _) (fun obj => F.args_object_init_2 obj _) F.entry_enumerate_new
    (meets_enumerate_newT (begins_tuple l items)) ⟨hL, ?_⟩
  have hz : (s.heap.push { cls := .type "tuple_iterator", data := .fields #[.ref l, .int 0 0] }).objs.size = s.heap.objs.size + 1 := Heap.size_push ..
  show _ ∧ _
  rw [hz]
  have he : IsEnum ((s.heap.push { cls := .type "tuple_iterator", data := .fields #[.ref l, .int 0 0] }).push
      { cls := .type "enumerate", data := .fields #[.none, .bool false, .ref s.heap.objs.size, rawInt 0, .none, .none] }) (s.heap.objs.size + 1) s.heap.objs.size 0 .none := by
    have := Heap.get?_push_size (s.heap.push { cls := .type "tuple_iterator", data := .fields #[.ref l, .int 0 0] })
      (o := { cls := .type "enumerate", data := .fields #[.none, .bool false, .ref s.heap.objs.size, rawInt 0, .none, .none] }) rfl
    rw [hz] at this; exact this
  refine ⟨⟨_, he, rfl⟩, h _ he ⟨_, Heap.get?_push_of_some _ (Heap.get?_push_size _ rfl), rfl, rfl⟩ (by rw [Heap.size_push, hz]) fun b o x => Heap.get?_push_of_some _ (Heap.get?_push_of_some _ x)⟩
end FT

/-! FT4: for i, x in enumerate(tuple). -/
namespace FT
open PySem PySem.Spec PyProof.Rows L2
/-- the tuple at a, each item in a new pair -/
def Iut (K : PySem.W.Frag) (a : Addr) : It :=
  ⟨fun i H => ∃ (xs : List V) (x : V), SqT K H a xs ∧ xs[i]? = some x, fun i H v H' => ∃ T x, v = .ref T ∧ H T = none ∧ H' = upd H T (.tup [.int (i : Nat), x]) ∧ ∀ xs, SqT K H a xs → xs[i]? = some x, fun i H => ∃ xs : List V, SqT K H a xs ∧ xs.length = i⟩
theorem turn_enumT {P : Program} {w : World} {K : PySem.W.Frag} {elts : List Expr} {kk : Nat} {tpos : Pos} (a e it : Addr) :
    Turn P w K (.Tuple elts kk tpos) (Iut K a) [e, it] e (fun i h => (∃ old, IsEnum h e it ((i : Nat) : Int) old) ∧ h.IsTupleIter it a i ∧ e ≠ it ∧ a ≠ it ∧ e ≠ a) where
  mem := by simp
  obj := fun i h st b hb => by
    obtain ⟨⟨old, he⟩, ⟨o, ho, hc, hd⟩, _⟩ := st
    have e' : b = e ∨ b = it := by simpa using hb
    rcases e' with z | z
    · rw [z]; exact ⟨_, he, fun v q => nomatch q⟩
    · rw [z]; exact ⟨o, ho, fun v q => by rw [hd] at q; cases q⟩
  keep := fun i h h' st k => let ⟨⟨old, he⟩, hi, hne⟩ := st; ⟨⟨old, k e (by simp) _ he⟩, hi.at fun o q => k it (by simp) o q, hne⟩
  item := by
    intro X hP hw hK hc i pins s σ H E I hf st hg
    subst hP hw hK
    obtain ⟨⟨old, he⟩, hit, hne, hai, hea⟩ := st
    obtain ⟨xs, x, hq, hx⟩ := hg
    obtain ⟨its, rv, p, hz⟩ := I.tuple hq
    obtain ⟨u, hu, ru⟩ := rv.get hx
    have hel : e < s.heap.objs.size := Heap.lt_size he
    have hil : it < s.heap.objs.size := by obtain ⟨_, q, _⟩ := hit; exact Heap.lt_size q
    have pT : s.heap.IsTuple a its.toArray := p
    have hlt : i < its.toArray.size := by
      have := (List.getElem?_eq_some_iff.mp hu).1
      simpa using this
    refine wpAny_pyNext_enum_itemD (Draws.tuple (prog := X.prog) (w := X.w) (A := X.A.in1) (I.ok.hd hc) it a hai its.toArray) he ⟨hit, pT⟩ hlt hne (by simp [hne, hea]) fun y h' tk hy ho hst hT hsz hk => ?_
    have ey : y = u := by
      have h1 : its[i]? = some y := by simpa using hy
      rw [hu] at h1
      exact (Option.some.inj h1).symm
    subst ey
    refine ⟨_, rfl, wpAny_letOwnedTupleGo_enum (s := { s with heap := h', toks := tk + 1 }) ho fun h'' he' sb => ?_⟩
    have hT2 : h''.get? s.heap.objs.size = some { cls := .type "tuple", data := .seq #[.int i tk, y] } := (sb.2 _ (Nat.ne_of_gt hel)).trans hT
    have new : ObjOk X.prog X.w (upd H s.heap.objs.size (.tup [.int (i : Nat), x])) h'' s.heap.objs.size (.tup [.int (i : Nat), x]) :=
      ⟨by show 2 ≤ sizeLine; decide, [.int i tk, y], .cons ⟨_, rfl⟩ (.cons ru .nil), ⟨_, hT2, rfl, _, rfl⟩⟩
    have I1 : Inv X pins σ (upd H s.heap.objs.size (.tup [.int (i : Nat), x])) { s with heap := h'', toks := tk + 1 } :=
      I.turnedNew (ch := [e, it]) (fun b ob hb q => (sb.2 b (fun z => hb (by simp [z]))).trans (hk b ob (fun z => hb (by simp [z])) (fun z => hb (by simp [z])) q)) hf (Nat.le_refl _) new
    refine ⟨.ref s.heap.objs.size, _, I1, rfl, ⟨_, x, rfl, I.hok.fresh (Nat.le_refl _), rfl, fun ys hy => by rw [I.tuple_inj hy hq]; exact hx⟩, ⟨⟨y, ?_⟩, hst.1.at fun o q => (sb.2 it (Ne.symm hne)).trans q, hne, hai, hea⟩, fun b hb => ?_⟩
    · have e1 : ((i + 1 : Nat) : Int) = (i : Int) + 1 := by omega
      rw [e1]; exact he'
    · have hb' : b < s.heap.objs.size := by
        have e' : b = e ∨ b = it := by simpa using hb
        rcases e' with z | z
        · rw [z]; exact hel
        · rw [z]; exact hil
      rw [upd_ne (Nat.ne_of_lt hb')]
      exact (hf b hb).1
  done := by
    intro X hP hw hK hc i pins s σ H E I hf st hg
    subst hP hw hK
    obtain ⟨⟨old, he⟩, hit, hne, hai, hea⟩ := st
    obtain ⟨xs, hq, hx⟩ := hg
    obtain ⟨its, rv, p, hz⟩ := I.tuple hq
    obtain ⟨f0, f1, f2, f3, f4, f5⟩ := hf it (by simp)
    have hl := rv.length
    have pT : s.heap.IsTuple a its.toArray := p
    have hi : i = its.toArray.size := by simp; omega
    refine wpAny_pyNext_enum_endD (Draws.tuple (prog := X.prog) (w := X.w) (A := X.A.in1) (I.ok.hd hc) it a hai its.toArray) he ⟨by rw [← hi]; exact hit, pT⟩ fun h' eb => ⟨rfl, I.turned (t' := s.toks) (fun b o hb q => eb b o hb q) f0 f1 f3 f4 f5⟩
  self := fun A i s Q E st h => let ⟨⟨_, he⟩, _⟩ := st; wpAny_pyIter_enum he h
def iEnumT (K : PySem.W.Frag) (ta : TA) : TI := fun σ H R => ta σ H fun vs H1 => ∃ a xs, vs = [.ref a] ∧ H1 a = some (.tup xs) ∧ R (Iut K a) H1
theorem pi_enumT {X : Cx} {e : Expr} {ta : TA} {p pos tpos : Pos} {elts : List Expr} {kk : Nat} (hg : Gl X "enumerate") (hm : X.mg "enumerate" = none) (ha : PA X [e] ta) (hs : starEach [e] X.env = [(false, eval e X.env)] := by rfl) :
    PI X (.Tuple elts kk tpos) (.Call (.Name "enumerate" p) [e] [] pos) (iEnumT X.K ta) := by
  refine ⟨fun pins s σ H R I h => ?_⟩
  refine Call_ (ld_blt I hg hm boot_enumerate (PyProof.Rows.callWith_type1 (thn (ha.run pos pins s σ H _ I h) fun us s1 ⟨vs, H1, I1, r1, q1⟩ => ?_) hs rfl))
  obtain ⟨a, xs, ex, hq, q⟩ := q1
  subst ex
  cases r1 with
  | cons r rr =>
    cases rr
    cases r
    obtain ⟨its, rv, p', hz⟩ := I1.tuple (.inl (.inl hq))
    have hal : a < s1.heap.objs.size := I1.hok.lt hq
    have pT : s1.heap.IsTuple a its.toArray := p'
    refine call_enumerate_tuple pT fun h' he hit hsz hk => wpAny_pyIter_enum he ?_
    have I2 : Inv X pins σ H1 { s1 with heap := h' } := I1.kept (t' := s1.toks) hk
    refine ⟨s1.heap.objs.size + 1, [s1.heap.objs.size + 1, s1.heap.objs.size], _, _, H1, rfl, I2, turn_enumT a (s1.heap.objs.size + 1) s1.heap.objs.size, ⟨⟨.none, he⟩, hit, Nat.succ_ne_self _, Nat.ne_of_lt hal, fun z => ?_⟩, fun b hb => ?_, q⟩
    · rw [← z] at hal
      exact absurd hal (Nat.not_lt_of_le (Nat.le_succ _))
    have e' : b = s1.heap.objs.size + 1 ∨ b = s1.heap.objs.size := by simpa using hb
    have hle : s1.heap.objs.size ≤ b := by
      rcases e' with z | z
      · rw [z]; exact Nat.le_add_right _ _
      · rw [z]; exact Nat.le_refl _
    exact I1.fpOk hle (I1.hok.fresh hle)
theorem walk_enumT {K : PySem.W.Frag} {a : Addr} {xs : List V} : Walk (Iut K a) xs.length (fun H => H a = some (.tup xs)) (YPair (fun i => some (.int (i : Nat))) (fun i => xs[i]?)) := by
  refine ⟨fun i _ hi q => ⟨xs, xs[i], .inl (.inl q), by simp [hi]⟩, fun _ q => ⟨xs, .inl (.inl q), rfl⟩, fun i H v H' _ q y => ?_⟩
  obtain ⟨T, x, h1, h2, h3, h4⟩ := y
  exact ⟨T, .int (i : Nat), x, h1, h2, h3, rfl, h4 xs (.inl (.inl q))⟩
end FT

/-! FT5: the text by places; what the top has written; calls by name; readings of comprehensions. -/
namespace FT
open PySem PySem.Spec PyProof.Rows L2
open PySem.W (Datum DatumOrd Tup)

def topS (i : Nat) : Stmt := PySem.Challenge.pw_forcedties_k75_whole_shapes_certified.main.body.getD i (.Pass ⟨0, 0, 0, 0⟩)
abbrev FnP (K : PySem.W.Frag) (x qual : Str) (st : Stmt) (f : Addr) (fd : FuncData) : Prop := FunD K x qual (defArgs st) (defBody st) (defScope st) [] [] f fd
/-- the class Party -/
def CP (K : PySem.W.Frag) : Addr := He.ga K "Party"

section
variable {P : Program} {w : World} {K : PySem.W.Frag} {mg : Str → Option Value} {base : Heap}
/-- a def by its body -/
theorem fn_by {x qual : Str} {params : Arguments} {body : List Stmt} {scope : Scope} {dvs : List V} {kws : List (Str × V)} {f : Addr} {fd : FuncData} {N ps : List Str} {k : Nat} {sp : Sp} (F : FunD K x qual params body scope dvs kws f fd) (S : FnScope N ps scope) (len : ∀ vs H Q E, sp vs H Q E → vs.length = ps.length)
    (hbody : ∀ (cdv : Value) (A : Around) (outer : List Env) (s : Shared) (H : Hp) (vs : List V) (Q : VK) (E : XK), Room k (A.deeper (envOfC qual scope s.heap.objs.size f cdv)) → sp vs H Q E →
      ∃ t, PSs (cxOf CX0 P w K mg base N qual scope f cdv A outer s H E).nox body t ∧ t { nx := fun _ H' => Q .non H', rt := Q } (start N vs) H) : FnOk P w K mg base CX0 (k + 1) f fd ps sp :=
  F.ok S len fun cdv A outer s H vs Q E hr hsp => by
    obtain ⟨t, h, q⟩ := hbody cdv A outer s H vs Q E hr hsp
    exact ⟨t, h.nox, q⟩
/-- a def that may be called by a global name -/
structure Cl (P : Program) (w : World) (K : PySem.W.Frag) (mg : Str → Option Value) (base : Heap) (k : Nat) (x : Str) (sp : Sp) : Prop where
  ex : ∃ (f : Addr) (fd : FuncData) (ps : List Str), FnOk P w K mg base CX0 k f fd ps sp ∧ mg x = some (.ref f) ∧ PySem.W.keepIn K (.ref f) = true ∧ Binds K fd ps []
/-- a property of Party -/
structure PropC (P : Program) (w : World) (K : PySem.W.Frag) (mg : Str → Option Value) (base : Heap) (k : Nat) (f : Str) (sp : Sp) : Prop where
  ex : ∃ (p g : Addr) (fd : FuncData) (ps : List Str), PropOf K (CP K) f p g ∧ FnOk P w K mg base CX0 k g fd ps sp ∧ Binds K fd ps []
/-- str of a Party -/
structure StrC (P : Program) (w : World) (K : PySem.W.Frag) (mg : Str → Option Value) (base : Heap) (k : Nat) (sp : Sp) : Prop where
  ex : ∃ (f : Addr) (fd : FuncData) (ps : List Str), StrOf K (CP K) f ∧ FnOk P w K mg base CX0 k f fd ps sp ∧ Binds K fd ps []
/-- Party(..) -/
structure MakC (P : Program) (w : World) (K : PySem.W.Frag) (mg : Str → Option Value) (base : Heap) (k : Nat) (sp : Sp) : Prop where
  ex : ∃ (f : Addr) (fd : FuncData) (ps : List Str), Mk K (CP K) f ∧ FnOk P w K mg base CX0 k f fd ps sp ∧ Binds K fd ps []
end

/-- what the top has written, beyond the defs -/
structure Top (K : PySem.W.Frag) (mg : Str → Option Value) (w : World) : Prop where
  n_len : mg "len" = none
  n_range : mg "range" = none
  n_enumerate : mg "enumerate" = none
  n_isinstance : mg "isinstance" = none
  n_tuple : mg "tuple" = none
  n_list : mg "list" = none
  n_str : mg "str" = none
  n_int : mg "int" = none
  n_bool : mg "bool" = none
  n_sorted : mg "sorted" = none
  n_min : mg "min" = none
  n_max : mg "max" = none
  n_abs : mg "abs" = none
  n_any : mg "any" = none
  n_all : mg "all" = none
  m_MOST_PEOPLE : ∃ t, mg "MOST_PEOPLE" = some (.int 10 t)
  m_MOST_SHAPED : ∃ t, mg "MOST_SHAPED" = some (.int 6 t)
  m_DIGITS_checker : ∃ t, mg "DIGITS_checker" = some (.str "0123456789" t)
  m_LENGTHS : mg "LENGTHS" = some (.ref (He.ga K "LENGTHS"))
  lengths : ∃ es n, KDict K w (He.ga K "LENGTHS") es n
  l_alike : ∃ t, PySem.W.nsIn K (He.ga K "LENGTHS") "alike" = some (some (.int 3 t))
  l_shape : ∃ t, PySem.W.nsIn K (He.ga K "LENGTHS") "shape" = some (some (.int 3 t))
  m_Party : mg "Party" = some (.ref (CP K))
  cl : Cls K (CP K)
  a_many : NoAttr K (CP K) "many"
  a_held : NoAttr K (CP K) "held"
  isC : C8.InsC K (CP K)

section
variable {X : Cx} {k j : Nat} {x m f : Str} {sp : Sp} {p pos apos : Pos} {e : Expr} {es : List Expr} {te : TE} {t : TA}
theorem pe_cl (c : Cl X.prog X.w X.K X.mg X.base k x sp) (hr : Room j X.A) (hk : k ≤ j) (hg : Gl X x) (ha : PA X (e :: es) t)
    (hdb : (x == ("__debug__" : Str)) = false := by decide) (he : starEach (e :: es) X.env = (false, eval e X.env) :: starEach es X.env := by rfl) (hpl : (backTo pos (starEach es X.env)).any (·.1) = false := by rfl) :
    PE X (.Call (.Name x p) (e :: es) [] pos) (tCall sp [] E0 t) := by
  refine ⟨fun pins s σ H Q I h => ?_⟩
  obtain ⟨f, fd, ps, F, hm, hkp, hb⟩ := c.ex
  exact (pe_call (F.mono hk) hr hg hm hkp hb .nil pass0 ha hdb he hpl).run pins s σ H Q I h
theorem pe_propc (c : PropC X.prog X.w X.K X.mg X.base k f sp) (cl : Cls X.K (CP X.K)) (hr : Room j X.A) (hk : k + 1 ≤ j) (he : PE X e te) (hab : attributeBase e f X.env (eval e X.env) = eval e X.env := by rfl) : PE X (.Attribute e f pos) (tProp (CP X.K) sp [] E0 te) := by
  refine ⟨fun pins s σ H Q I h => ?_⟩
  obtain ⟨p, g, fd, ps, hp, F, hb⟩ := c.ex
  exact (pe_prop he cl hp F (hr.mono hk) hb .nil pass0 hab).run pins s σ H Q I h
theorem call_strC (c : StrC X.prog X.w X.K X.mg X.base k sp) (hr : Room j X.A) (hk : k + 2 ≤ j) : CallR X (.type "str") (rStrOwn (CP X.K) sp) := by
  obtain ⟨f, fd, ps, so, F, hb⟩ := c.ex
  exact call_strOwn so F (hr.mono hk) hb
theorem pe_mkl (c : MakC X.prog X.w X.K X.mg X.base k sp) (hm : X.mg x = some (.ref (CP X.K))) (hr : Room j X.A) (hk : k + 1 ≤ j) (hg : Gl X x) (ha : PA X (e :: es) t)
    (hdb : (x == ("__debug__" : Str)) = false := by decide) (he : starEach (e :: es) X.env = (false, eval e X.env) :: starEach es X.env := by rfl) (hpl : (backTo pos (starEach es X.env)).any (·.1) = false := by rfl) :
    PE X (.Call (.Name x p) (e :: es) [] pos) (tMake (CP X.K) sp [] E0 t) := by
  refine ⟨fun pins s σ H Q I h => ?_⟩
  obtain ⟨f, fd, ps, M, F, hb⟩ := c.ex
  exact (pe_make M F (hr.mono hk) hg hm hb .nil pass0 ha hdb he hpl).run pins s σ H Q I h
/-- a module's constant -/
theorem pe_gi {i : Int} (hg : Gl X x) (hm : ∃ t, X.mg x = some (.int i t)) (hd : (x == ("__debug__" : Str)) = false := by decide) : PE X (.Name x pos) (tC (.int i)) := by
  obtain ⟨t, h⟩ := hm
  exact pe_glob hg h ⟨t, rfl⟩ hd
theorem pe_gs {z : Str} (hg : Gl X x) (hm : ∃ t, X.mg x = some (.str z t)) (hd : (x == ("__debug__" : Str)) = false := by decide) : PE X (.Name x pos) (tC (.str z)) := by
  obtain ⟨t, h⟩ := hm
  exact pe_glob hg h ⟨t, rfl⟩ hd
theorem pe_kgetL {o e f : Expr} {td ty tx : TE} {cpos : Pos} {d : Addr} (D : ∃ es n, KDict X.K X.w d es n) (ho : PE X o td) (he : PE X e ty) (hf : PE X f tx) (m : M2 X o "get" apos e f cpos) :
    PE X (.Call (.Attribute o "get" apos) [e, f] [] cpos) (tKGet2 X.K d td ty tx) := by
  obtain ⟨es, n, D⟩ := D
  exact pe_kget2 D ho he hf m
end

theorem bt_len : bootBuiltins "len" = some (.builtin "len") := PySem.boot_len
theorem bt_isinstance : bootBuiltins "isinstance" = some (.builtin "isinstance") := by decide +kernel
theorem bt_sorted : bootBuiltins "sorted" = some (.builtin "sorted") := by decide +kernel
theorem bt_min : bootBuiltins "min" = some (.builtin "min") := by decide +kernel
theorem bt_max : bootBuiltins "max" = some (.builtin "max") := by decide +kernel
theorem bt_abs : bootBuiltins "abs" = some (.builtin "abs") := by decide +kernel
theorem bt_any : bootBuiltins "any" = some (.builtin "any") := by decide +kernel
theorem bt_all : bootBuiltins "all" = some (.builtin "all") := by decide +kernel
theorem bt_int : bootBuiltins "int" = some (.type "int") := by decide +kernel
theorem bt_bool : bootBuiltins "bool" = some (.type "bool") := by decide +kernel
theorem bt_str : bootBuiltins "str" = some (.type "str") := by decide +kernel
theorem bt_tuple : bootBuiltins "tuple" = some (.type "tuple") := by decide +kernel
theorem bt_list : bootBuiltins "list" = some (.type "list") := by decide +kernel

/-! ### isinstance of data -/
theorem isi_ty {K : PySem.W.Frag} {H : Hp} {Q : VK} {x : V} {a b : String} {r : Bool} (ty : TyX K H x (.type a)) (h : kitB a b = some r) (q : Q (.bl r) H) : rIsi K [x, .ty b] H Q :=
  ⟨x, .ty b, .type a, .type b, r, rfl, .ty b, ty, kit_ty h, q⟩
theorem ty_int {K : PySem.W.Frag} {H : Hp} (i : Int) : TyX K H (.int i) (.type "int") := .base (.int i)
theorem ty_bl {K : PySem.W.Frag} {H : Hp} (i : Bool) : TyX K H (.bl i) (.type "bool") := .base (.bl i)
theorem ty_str {K : PySem.W.Frag} {H : Hp} (i : Str) : TyX K H (.str i) (.type "str") := .base (.str i)
theorem ty_tup {K : PySem.W.Frag} {H : Hp} {a : Addr} {xs : List V} (h : H a = some (.tup xs)) : TyX K H (.ref a) (.type "tuple") := .base (.tup h)
theorem k_int_int : kitB "int" "int" = some true := by decide +kernel
theorem k_int_bool : kitB "int" "bool" = some false := by decide +kernel
theorem k_tup_tup : kitB "tuple" "tuple" = some true := by decide +kernel
theorem k_str_str : kitB "str" "str" = some true := by decide +kernel
theorem k_str_tup : kitB "str" "tuple" = some false := by decide +kernel
theorem k_bool_bool : kitB "bool" "bool" = some true := by decide +kernel
theorem k_str_bool : kitB "str" "bool" = some false := by decide +kernel

theorem sz_lt {n : Nat} (h : n ≤ 100000) : n < sizeLine := Nat.lt_of_le_of_lt h (by rw [sizeLine_eq]; decide)

/-! ### comprehensions whose element is such data -/
/-- [e for ..]: the i-th turn gives what reads as the i-th of xs; nothing that stood is touched -/
theorem lc_map {α : Type} [DecidableEq α] [Datum α] {J : It} {n : Nat} {G : Hp → Prop} {Y : Nat → Hp → V → Hp → Prop} (w : Walk J n G Y) {g : TG} {tt : TT} {te : TE} {vs : List Nat} {σ : L2.St} {H1 : Hp} {Q : VK} (xs : List α) (hn : xs.length = n) (hz : n ≤ 100000)
    (hG : ∀ H, Same H1 H → G H)
    (hs : ∀ (i : Nat) (x : V) (y : α) (H H' : Hp) (R : V → Hp → Prop) (N : Hp → Prop), i < n → xs[i]? = some y → Same H1 H → Y i H x H' → (∀ z H4, Same H H4 → Is H4 z y → R z H4) →
      g x (wipe σ vs) H' fun σ2 H2 => wipe σ2 vs = wipe σ vs ∧ tt σ2 H2 fun b H3 => if b = true then te σ2 H3 R else N H3)
    (hd : ∀ D H, H1 D = none → Same H1 H → Lis H D xs → Q (.ref D) H) :
    ∀ D, H1 D = none → ∃ W : Nat → Nat → Hp → Prop, (∃ m, W 0 m (upd H1 D (.lst []))) ∧ ∀ i m H, W i m H →
      (J.stop i H ∧ Q (.ref D) H) ∨ (J.go i H ∧ ∃ Nx : Hp → Prop, (∀ H', Nx H' → ∃ m', m' < m ∧ W (i + 1) m' H') ∧ ∀ x H', J.yld i H x H' → g x (wipe σ vs) H' fun σ2 H2 => wipe σ2 vs = wipe σ vs ∧ tt σ2 H2 fun b H3 =>
        if b = true then te σ2 H3 fun y H4 => ∃ acc, H4 D = some (.lst acc) ∧ acc.length < sizeLine ∧ Nx (upd H4 D (.lst (acc ++ [y]))) else Nx H3) := by
  intro D hD
  refine lc_it (D := D) (Qd := Q (.ref D)) (H1 := H1) (g := g) (tt := tt) (te := te) (vs := vs) (σ := σ) w (fun i H => Same H1 H ∧ ∃ ws, H D = some (.lst ws) ∧ Are H ws (xs.take i)) ⟨same_new hD, [], upd_same, Are.nil⟩ (fun i H _ p => hG H p.1) ?_ ?_
  · rintro i x H H' hi ⟨sm, ws, eD, ar⟩ y
    have hx : xs[i]? = some (xs[i]'(by omega)) := List.getElem?_eq_getElem (by omega)
    refine hs i x _ H H' _ _ hi hx sm y fun z H4 s4 iz => ?_
    have e4 : H4 D = some (.lst ws) := s4 _ _ eD
    have kT : SameT H4 (upd H4 D (.lst (ws ++ [z]))) := SameT.lst e4
    have hl := ar.length
    refine ⟨ws, e4, ?_, Same.mut (sm.trans s4) hD, ws ++ [z], upd_same, ?_⟩
    · rw [hl, List.length_take]
      exact sz_lt (by omega)
    · rw [List.take_add_one, hx]
      exact ((ar.mono (.of s4)).append (Are.one iz)).mono kT
  · rintro H ⟨sm, ws, eD, ar⟩
    rw [List.take_of_length_le (by omega)] at ar
    exact hd D H hD sm ⟨ws, eD, ar⟩
/-- [e for .. if ..]: a turn is kept where p says so -/
theorem lc_filter {α : Type} [DecidableEq α] [Datum α] {J : It} {n : Nat} {G : Hp → Prop} {Y : Nat → Hp → V → Hp → Prop} (w : Walk J n G Y) {g : TG} {tt : TT} {te : TE} {vs : List Nat} {σ : L2.St} {H1 : Hp} {Q : VK} (xs : List α) (p : α → Bool) (hn : xs.length = n) (hz : n ≤ 100000)
    (hG : ∀ H, Same H1 H → G H)
    (hs : ∀ (i : Nat) (x : V) (y : α) (H H' : Hp) (R : V → Hp → Prop) (N : Hp → Prop), i < n → xs[i]? = some y → Same H1 H → Y i H x H' → (p y = true → ∀ z H4, Same H H4 → Is H4 z y → R z H4) → (p y = false → ∀ H4, Same H H4 → N H4) →
      g x (wipe σ vs) H' fun σ2 H2 => wipe σ2 vs = wipe σ vs ∧ tt σ2 H2 fun b H3 => if b = true then te σ2 H3 R else N H3)
    (hd : ∀ D H, H1 D = none → Same H1 H → Lis H D (xs.filter p) → Q (.ref D) H) :
    ∀ D, H1 D = none → ∃ W : Nat → Nat → Hp → Prop, (∃ m, W 0 m (upd H1 D (.lst []))) ∧ ∀ i m H, W i m H →
      (J.stop i H ∧ Q (.ref D) H) ∨ (J.go i H ∧ ∃ Nx : Hp → Prop, (∀ H', Nx H' → ∃ m', m' < m ∧ W (i + 1) m' H') ∧ ∀ x H', J.yld i H x H' → g x (wipe σ vs) H' fun σ2 H2 => wipe σ2 vs = wipe σ vs ∧ tt σ2 H2 fun b H3 =>
        if b = true then te σ2 H3 fun y H4 => ∃ acc, H4 D = some (.lst acc) ∧ acc.length < sizeLine ∧ Nx (upd H4 D (.lst (acc ++ [y]))) else Nx H3) := by
  intro D hD
  refine lc_it (D := D) (Qd := Q (.ref D)) (H1 := H1) (g := g) (tt := tt) (te := te) (vs := vs) (σ := σ) w (fun i H => Same H1 H ∧ ∃ ws, H D = some (.lst ws) ∧ Are H ws ((xs.take i).filter p)) ⟨same_new hD, [], upd_same, Are.nil⟩ (fun i H _ p => hG H p.1) ?_ ?_
  · rintro i x H H' hi ⟨sm, ws, eD, ar⟩ y
    have hx : xs[i]? = some (xs[i]'(by omega)) := List.getElem?_eq_getElem (by omega)
    refine hs i x _ H H' _ _ hi hx sm y (fun hp z H4 s4 iz => ?_) fun hp H4 s4 => ?_
    · have e4 : H4 D = some (.lst ws) := s4 _ _ eD
      have kT : SameT H4 (upd H4 D (.lst (ws ++ [z]))) := SameT.lst e4
      have hl := ar.length
      have hl2 := List.length_filter_le p (xs.take i)
      rw [List.length_take] at hl2
      refine ⟨ws, e4, ?_, Same.mut (sm.trans s4) hD, ws ++ [z], upd_same, ?_⟩
      · exact sz_lt (by omega)
      · rw [List.take_add_one, hx, List.filter_append]
        show Are _ _ (List.filter p (List.take i xs) ++ List.filter p [xs[i]])
        rw [List.filter_cons_of_pos hp]
        exact ((ar.mono (.of s4)).append (Are.one iz)).mono kT
    · refine ⟨sm.trans s4, ws, s4 _ _ eD, ?_⟩
      rw [List.take_add_one, hx, List.filter_append]
      show Are _ _ (List.filter p (List.take i xs) ++ List.filter p [xs[i]])
      rw [List.filter_cons_of_neg (by rw [hp]; decide), List.filter_nil, List.append_nil]
      exact ar.mono (.of s4)
  · rintro H ⟨sm, ws, eD, ar⟩
    rw [List.take_of_length_le (by omega)] at ar
    exact hd D H hD sm ⟨ws, eD, ar⟩
/-- [e for ..] whose elements are new lists -/
theorem lc_lists {α : Type} [DecidableEq α] [Datum α] {J : It} {n : Nat} {G : Hp → Prop} {Y : Nat → Hp → V → Hp → Prop} (w : Walk J n G Y) {g : TG} {tt : TT} {te : TE} {vs : List Nat} {σ : L2.St} {H1 : Hp} {Q : VK} (xs : List (List α)) (hn : xs.length = n) (hz : n ≤ 100000)
    (hG : ∀ H, Same H1 H → G H)
    (hs : ∀ (i : Nat) (x : V) (y : List α) (H H' : Hp) (R : V → Hp → Prop) (N : Hp → Prop), i < n → xs[i]? = some y → Same H1 H → Y i H x H' → (∀ q H4, H q = none → Same H H4 → Lis H4 q y → R (.ref q) H4) →
      g x (wipe σ vs) H' fun σ2 H2 => wipe σ2 vs = wipe σ vs ∧ tt σ2 H2 fun b H3 => if b = true then te σ2 H3 R else N H3)
    (hd : ∀ D qs H, H1 D = none → Same H1 H → H D = some (.lst (qs.map V.ref)) → Lss H qs xs → qs.Nodup → (∀ q ∈ qs, H1 q = none ∧ q ≠ D) → Q (.ref D) H) :
    ∀ D, H1 D = none → ∃ W : Nat → Nat → Hp → Prop, (∃ m, W 0 m (upd H1 D (.lst []))) ∧ ∀ i m H, W i m H →
      (J.stop i H ∧ Q (.ref D) H) ∨ (J.go i H ∧ ∃ Nx : Hp → Prop, (∀ H', Nx H' → ∃ m', m' < m ∧ W (i + 1) m' H') ∧ ∀ x H', J.yld i H x H' → g x (wipe σ vs) H' fun σ2 H2 => wipe σ2 vs = wipe σ vs ∧ tt σ2 H2 fun b H3 =>
        if b = true then te σ2 H3 fun y H4 => ∃ acc, H4 D = some (.lst acc) ∧ acc.length < sizeLine ∧ Nx (upd H4 D (.lst (acc ++ [y]))) else Nx H3) := by
  intro D hD
  refine lc_it (D := D) (Qd := Q (.ref D)) (H1 := H1) (g := g) (tt := tt) (te := te) (vs := vs) (σ := σ) w (fun i H => Same H1 H ∧ ∃ qs : List Addr, H D = some (.lst (qs.map V.ref)) ∧ Lss H qs (xs.take i) ∧ qs.Nodup ∧ ∀ q ∈ qs, H1 q = none ∧ q ≠ D)
    ⟨same_new hD, [], upd_same, .nil, List.nodup_nil, fun _ h => absurd h List.not_mem_nil⟩ (fun i H _ p => hG H p.1) ?_ ?_
  · rintro i x H H' hi ⟨sm, qs, eD, ls, nd, fr⟩ y
    have hx : xs[i]? = some (xs[i]'(by omega)) := List.getElem?_eq_getElem (by omega)
    refine hs i x _ H H' _ _ hi hx sm y fun q H4 hq s4 iq => ?_
    have e4 : H4 D = some (.lst (qs.map V.ref)) := s4 _ _ eD
    have hqD : q ≠ D := fun e => by
      rw [e, eD] at hq
      cases hq
    have hl := ls.length
    refine ⟨_, e4, ?_, Same.mut (sm.trans s4) hD, qs ++ [q], ?_, ?_, ?_, ?_⟩
    · rw [List.length_map, hl, List.length_take]
      exact sz_lt (by omega)
    · rw [List.map_append]
      exact upd_same
    · have kT : SameT H4 (upd H4 D (.lst (qs.map V.ref ++ [V.ref q]))) := SameT.lst e4
      have up : ∀ {r : Addr} {z : List α}, r ≠ D → Lis H4 r z → Lis (upd H4 D (.lst (qs.map V.ref ++ [V.ref q]))) r z := fun hr h => h.monoT kT fun vs e => by
        rw [upd_ne hr]
        exact e
      have all : ∀ {rs : List Addr} {zs : List (List α)}, Lss H4 rs zs → (∀ r ∈ rs, r ≠ D) → Lss (upd H4 D (.lst (qs.map V.ref ++ [V.ref q]))) rs zs := by
        intro rs zs h
        induction h with
        | nil => exact fun _ => .nil
        | cons h1 _ ih => exact fun hr => .cons (up (hr _ List.mem_cons_self) h1) (ih fun r hm => hr r (List.mem_cons_of_mem _ hm))
      rw [List.take_add_one, hx]
      exact (all (ls.mono s4) fun r hm => (fr r hm).2).append (.cons (up hqD iq) .nil)
    · rw [List.nodup_append]
      refine ⟨nd, by simp, fun a ha b hb => ?_⟩
      have eb : b = q := by simpa using hb
      subst eb
      rintro rfl
      obtain ⟨z, hz⟩ : ∃ z, Lis H a z := by
        obtain ⟨j, hj, e⟩ := List.mem_iff_getElem.mp ha
        obtain ⟨z, _, hz⟩ := ls.at (i := j) (q := a) (by rw [List.getElem?_eq_getElem hj, e])
        exact ⟨z, hz⟩
      obtain ⟨ws, e, _⟩ := hz
      rw [hq] at e
      cases e
    · intro r hr
      rcases List.mem_append.mp hr with hr | hr
      · exact fr r hr
      · have er : r = q := by simpa using hr
        subst er
        exact ⟨sm.free hq, hqD⟩
  · rintro H ⟨sm, qs, eD, ls, nd, fr⟩
    rw [List.take_of_length_le (by omega)] at ls
    exact hd D qs H hD sm eD ls nd fr
end FT

/-! FT6: the defs, their names by slot, their scopes. -/
namespace FT
open PySem PySem.Spec PyProof.Rows L2
abbrev s_is_integer_v : Stmt := topS 17
abbrev N_is_integer_v : List Str := ["value"]
abbrev P_is_integer_v : List Str := ["value"]
theorem sc_is_integer_v : FnScope N_is_integer_v P_is_integer_v (defScope s_is_integer_v) := ⟨rfl, rfl, rfl, by decide +kernel, rfl, by decide +kernel, by decide +kernel⟩
abbrev s_check_people : Stmt := topS 21
abbrev N_check_people : List Str := ["people", "most"]
abbrev P_check_people : List Str := ["people", "most"]
theorem sc_check_people : FnScope N_check_people P_check_people (defScope s_check_people) := ⟨rfl, rfl, rfl, by decide +kernel, rfl, by decide +kernel, by decide +kernel⟩
abbrev s_is_tie : Stmt := topS 26
abbrev N_is_tie : List Str := ["value", "people", "person"]
abbrev P_is_tie : List Str := ["value", "people"]
theorem sc_is_tie : FnScope N_is_tie P_is_tie (defScope s_is_tie) := ⟨rfl, rfl, rfl, by decide +kernel, rfl, by decide +kernel, by decide +kernel⟩
abbrev s_wrong_tie : Stmt := topS 27
abbrev N_wrong_tie : List Str := ["ties", "people", "k", "tie"]
abbrev P_wrong_tie : List Str := ["ties", "people"]
theorem sc_wrong_tie : FnScope N_wrong_tie P_wrong_tie (defScope s_wrong_tie) := ⟨rfl, rfl, rfl, by decide +kernel, rfl, by decide +kernel, by decide +kernel⟩
abbrev s_party_init : Stmt := inClass (topS 29) 0
abbrev N_party_init : List Str := ["self", "people", "ties", "wrong"]
abbrev P_party_init : List Str := ["self", "people", "ties"]
theorem sc_party_init : FnScope N_party_init P_party_init (defScope s_party_init) := ⟨rfl, rfl, rfl, by decide +kernel, rfl, by decide +kernel, by decide +kernel⟩
abbrev s_party_people : Stmt := inClass (topS 29) 3
abbrev N_party_people : List Str := ["self"]
abbrev P_party_people : List Str := ["self"]
theorem sc_party_people : FnScope N_party_people P_party_people (defScope s_party_people) := ⟨rfl, rfl, rfl, by decide +kernel, rfl, by decide +kernel, by decide +kernel⟩
abbrev s_party_ties : Stmt := inClass (topS 29) 4
abbrev N_party_ties : List Str := ["self"]
abbrev P_party_ties : List Str := ["self"]
theorem sc_party_ties : FnScope N_party_ties P_party_ties (defScope s_party_ties) := ⟨rfl, rfl, rfl, by decide +kernel, rfl, by decide +kernel, by decide +kernel⟩
abbrev s_party_str : Stmt := inClass (topS 29) 20
abbrev N_party_str : List Str := ["self", "one", "other"]
abbrev P_party_str : List Str := ["self"]
theorem sc_party_str : FnScope N_party_str P_party_str (defScope s_party_str) := ⟨rfl, rfl, rfl, by decide +kernel, rfl, by decide +kernel, by decide +kernel⟩
abbrev s_check_party : Stmt := topS 31
abbrev N_check_party : List Str := ["party"]
abbrev P_check_party : List Str := ["party"]
theorem sc_check_party : FnScope N_check_party P_check_party (defScope s_check_party) := ⟨rfl, rfl, rfl, by decide +kernel, rfl, by decide +kernel, by decide +kernel⟩
abbrev s_near_of : Stmt := topS 36
abbrev N_near_of : List Str := ["people", "ties", "found", "one", "other", "person", "row"]
abbrev P_near_of : List Str := ["people", "ties"]
theorem sc_near_of : FnScope N_near_of P_near_of (defScope s_near_of) := ⟨rfl, rfl, rfl, by decide +kernel, rfl, by decide +kernel, by decide +kernel⟩
abbrev s_renaming_from : Stmt := topS 37
abbrev N_renaming_from : List Str := ["near", "others", "row", "person", "name", "found", "known"]
abbrev P_renaming_from : List Str := ["near", "others", "row"]
theorem sc_renaming_from : FnScope N_renaming_from P_renaming_from (defScope s_renaming_from) := ⟨rfl, rfl, rfl, by decide +kernel, rfl, by decide +kernel, by decide +kernel⟩
abbrev s_renaming_of : Stmt := topS 38
abbrev N_renaming_of : List Str := ["people", "ties", "others"]
abbrev P_renaming_of : List Str := ["people", "ties", "others"]
theorem sc_renaming_of : FnScope N_renaming_of P_renaming_of (defScope s_renaming_of) := ⟨rfl, rfl, rfl, by decide +kernel, rfl, by decide +kernel, by decide +kernel⟩
abbrev s_renamed_s : Stmt := topS 39
abbrev N_renamed_s : List Str := ["ties", "row", "one", "other"]
abbrev P_renamed_s : List Str := ["ties", "row"]
theorem sc_renamed_s : FnScope N_renamed_s P_renamed_s (defScope s_renamed_s) := ⟨rfl, rfl, rfl, by decide +kernel, rfl, by decide +kernel, by decide +kernel⟩
abbrev s_orders_of_s : Stmt := topS 41
abbrev N_orders_of_s : List Str := ["row", "found", "k", "person", "rest"]
abbrev P_orders_of_s : List Str := ["row"]
theorem sc_orders_of_s : FnScope N_orders_of_s P_orders_of_s (defScope s_orders_of_s) := ⟨rfl, rfl, rfl, by decide +kernel, rfl, by decide +kernel, by decide +kernel⟩
abbrev s_shape_of : Stmt := topS 43
abbrev N_shape_of : List Str := ["people", "ties", "row"]
abbrev P_shape_of : List Str := ["people", "ties"]
theorem sc_shape_of : FnScope N_shape_of P_shape_of (defScope s_shape_of) := ⟨rfl, rfl, rfl, by decide +kernel, rfl, by decide +kernel, by decide +kernel⟩
abbrev s_alike : Stmt := topS 45
abbrev N_alike : List Str := ["party", "other"]
abbrev P_alike : List Str := ["party", "other"]
theorem sc_alike : FnScope N_alike P_alike (defScope s_alike) := ⟨rfl, rfl, rfl, by decide +kernel, rfl, by decide +kernel, by decide +kernel⟩
abbrev s_shape : Stmt := topS 46
abbrev N_shape : List Str := ["party"]
abbrev P_shape : List Str := ["party"]
theorem sc_shape : FnScope N_shape P_shape (defScope s_shape) := ⟨rfl, rfl, rfl, by decide +kernel, rfl, by decide +kernel, by decide +kernel⟩
abbrev s_certify_alike : Stmt := topS 48
abbrev N_certify_alike : List Str := ["party", "other", "found"]
abbrev P_certify_alike : List Str := ["party", "other"]
theorem sc_certify_alike : FnScope N_certify_alike P_certify_alike (defScope s_certify_alike) := ⟨rfl, rfl, rfl, by decide +kernel, rfl, by decide +kernel, by decide +kernel⟩
abbrev s_certify_shape : Stmt := topS 49
abbrev N_certify_shape : List Str := ["party", "found"]
abbrev P_certify_shape : List Str := ["party"]
theorem sc_certify_shape : FnScope N_certify_shape P_certify_shape (defScope s_certify_shape) := ⟨rfl, rfl, rfl, by decide +kernel, rfl, by decide +kernel, by decide +kernel⟩
abbrev s_is_integer_c : Stmt := topS 71
abbrev N_is_integer_c : List Str := ["value"]
abbrev P_is_integer_c : List Str := ["value"]
theorem sc_is_integer_c : FnScope N_is_integer_c P_is_integer_c (defScope s_is_integer_c) := ⟨rfl, rfl, rfl, by decide +kernel, rfl, by decide +kernel, by decide +kernel⟩
abbrev s_is_between_c : Stmt := topS 73
abbrev N_is_between_c : List Str := ["value", "least", "most"]
abbrev P_is_between_c : List Str := ["value", "least", "most"]
theorem sc_is_between_c : FnScope N_is_between_c P_is_between_c (defScope s_is_between_c) := ⟨rfl, rfl, rfl, by decide +kernel, rfl, by decide +kernel, by decide +kernel⟩
abbrev s_accepts : Stmt := topS 75
abbrev N_accepts : List Str := ["claim", "certificate", "word", "more", "thing", "party"]
abbrev P_accepts : List Str := ["claim", "certificate"]
theorem sc_accepts : FnScope N_accepts P_accepts (defScope s_accepts) := ⟨rfl, rfl, rfl, by decide +kernel, rfl, by decide +kernel, by decide +kernel⟩
abbrev s_is_about_parties : Stmt := topS 78
abbrev N_is_about_parties : List Str := ["word", "party", "other", "certificate", "people", "ties", "row"]
abbrev P_is_about_parties : List Str := ["word", "party", "other", "certificate"]
theorem sc_is_about_parties : FnScope N_is_about_parties P_is_about_parties (defScope s_is_about_parties) := ⟨rfl, rfl, rfl, by decide +kernel, rfl, by decide +kernel, by decide +kernel⟩
abbrev s_natural : Stmt := topS 80
abbrev N_natural : List Str := ["text", "most", "sign"]
abbrev P_natural : List Str := ["text", "most"]
theorem sc_natural : FnScope N_natural P_natural (defScope s_natural) := ⟨rfl, rfl, rfl, by decide +kernel, rfl, by decide +kernel, by decide +kernel⟩
abbrev s_party_of : Stmt := topS 82
abbrev N_party_of : List Str := ["text", "head", "mark", "rest", "people", "ties", "piece", "left", "hyphen", "right", "one", "other"]
abbrev P_party_of : List Str := ["text"]
theorem sc_party_of : FnScope N_party_of P_party_of (defScope s_party_of) := ⟨rfl, rfl, rfl, by decide +kernel, rfl, by decide +kernel, by decide +kernel⟩
abbrev s_are_people : Stmt := topS 89
abbrev N_are_people : List Str := ["value", "people", "k", "person"]
abbrev P_are_people : List Str := ["value", "people"]
theorem sc_are_people : FnScope N_are_people P_are_people (defScope s_are_people) := ⟨rfl, rfl, rfl, by decide +kernel, rfl, by decide +kernel, by decide +kernel⟩
abbrev s_renamed_c : Stmt := topS 97
abbrev N_renamed_c : List Str := ["ties", "row", "one", "other"]
abbrev P_renamed_c : List Str := ["ties", "row"]
theorem sc_renamed_c : FnScope N_renamed_c P_renamed_c (defScope s_renamed_c) := ⟨rfl, rfl, rfl, by decide +kernel, rfl, by decide +kernel, by decide +kernel⟩
abbrev s_orders_of_c : Stmt := topS 99
abbrev N_orders_of_c : List Str := ["row", "k", "one", "rest"]
abbrev P_orders_of_c : List Str := ["row"]
theorem sc_orders_of_c : FnScope N_orders_of_c P_orders_of_c (defScope s_orders_of_c) := ⟨rfl, rfl, rfl, by decide +kernel, rfl, by decide +kernel, by decide +kernel⟩
abbrev s_law_stock : Stmt := topS 104
abbrev N_law_stock : List Str := ["_law_script", "_law_k", "_law_cell", "_law_state", "_law_each", "_law_part"]
abbrev P_law_stock : List Str := ["_law_script", "_law_k"]
theorem sc_law_stock : FnScope N_law_stock P_law_stock (defScope s_law_stock) := ⟨rfl, rfl, rfl, by decide +kernel, rfl, by decide +kernel, by decide +kernel⟩
abbrev s_law_take : Stmt := topS 105
abbrev N_law_take : List Str := ["_law_stock_here", "_law_many", "_law_digit", "_law_more"]
abbrev P_law_take : List Str := ["_law_stock_here", "_law_many"]
theorem sc_law_take : FnScope N_law_take P_law_take (defScope s_law_take) := ⟨rfl, rfl, rfl, by decide +kernel, rfl, by decide +kernel, by decide +kernel⟩
abbrev s_law_agrees : Stmt := topS 106
abbrev N_law_agrees : List Str := ["_law_claim", "_law_paper", "_law_due", "_law_told"]
abbrev P_law_agrees : List Str := ["_law_claim", "_law_paper", "_law_due"]
theorem sc_law_agrees : FnScope N_law_agrees P_law_agrees (defScope s_law_agrees) := ⟨rfl, rfl, rfl, by decide +kernel, rfl, by decide +kernel, by decide +kernel⟩
abbrev s_law_is : Stmt := topS 107
abbrev N_law_is : List Str := ["_law_value", "_law_least", "_law_most"]
abbrev P_law_is : List Str := ["_law_value", "_law_least", "_law_most"]
theorem sc_law_is : FnScope N_law_is P_law_is (defScope s_law_is) := ⟨rfl, rfl, rfl, by decide +kernel, rfl, by decide +kernel, by decide +kernel⟩
abbrev s_law_line : Stmt := topS 108
abbrev N_law_line : List Str := ["_law_many", "_law_ties", "_law_tie_here"]
abbrev P_law_line : List Str := ["_law_many", "_law_ties"]
theorem sc_law_line : FnScope N_law_line P_law_line (defScope s_law_line) := ⟨rfl, rfl, rfl, by decide +kernel, rfl, by decide +kernel, by decide +kernel⟩
abbrev s_law_pairs : Stmt := topS 109
abbrev N_law_pairs : List Str := ["_law_many", "_law_found", "_law_one", "_law_other"]
abbrev P_law_pairs : List Str := ["_law_many"]
theorem sc_law_pairs : FnScope N_law_pairs P_law_pairs (defScope s_law_pairs) := ⟨rfl, rfl, rfl, by decide +kernel, rfl, by decide +kernel, by decide +kernel⟩
abbrev s_law_flipped : Stmt := topS 110
abbrev N_law_flipped : List Str := ["_law_ties", "_law_tie_here", "_law_held"]
abbrev P_law_flipped : List Str := ["_law_ties", "_law_tie_here"]
theorem sc_law_flipped : FnScope N_law_flipped P_law_flipped (defScope s_law_flipped) := ⟨rfl, rfl, rfl, by decide +kernel, rfl, by decide +kernel, by decide +kernel⟩
abbrev s_law_some_ties : Stmt := topS 111
abbrev N_law_some_ties : List Str := ["_law_stock_here", "_law_many", "_law_form", "_law_parts", "_law_found", "_law_pairs_here", "_law_one", "_law_other", "_law_held", "_law_turn"]
abbrev P_law_some_ties : List Str := ["_law_stock_here", "_law_many"]
theorem sc_law_some_ties : FnScope N_law_some_ties P_law_some_ties (defScope s_law_some_ties) := ⟨rfl, rfl, rfl, by decide +kernel, rfl, by decide +kernel, by decide +kernel⟩
abbrev s_law_some_order : Stmt := topS 112
abbrev N_law_some_order : List Str := ["_law_stock_here", "_law_many", "_law_left", "_law_found", "_law_turn"]
abbrev P_law_some_order : List Str := ["_law_stock_here", "_law_many"]
theorem sc_law_some_order : FnScope N_law_some_order P_law_some_order (defScope s_law_some_order) := ⟨rfl, rfl, rfl, by decide +kernel, rfl, by decide +kernel, by decide +kernel⟩
abbrev s_law_tie : Stmt := topS 113
abbrev N_law_tie : List Str := ["_law_one", "_law_other"]
abbrev P_law_tie : List Str := ["_law_one", "_law_other"]
theorem sc_law_tie : FnScope N_law_tie P_law_tie (defScope s_law_tie) := ⟨rfl, rfl, rfl, by decide +kernel, rfl, by decide +kernel, by decide +kernel⟩
abbrev s_law_people : Stmt := topS 114
abbrev N_law_people : List Str := ["_law_paper", "_law_many", "_law_k"]
abbrev P_law_people : List Str := ["_law_paper", "_law_many"]
theorem sc_law_people : FnScope N_law_people P_law_people (defScope s_law_people) := ⟨rfl, rfl, rfl, by decide +kernel, rfl, by decide +kernel, by decide +kernel⟩
abbrev s_law_same : Stmt := topS 115
abbrev N_law_same : List Str := ["_law_told", "_law_due", "_law_k"]
abbrev P_law_same : List Str := ["_law_told", "_law_due"]
theorem sc_law_same : FnScope N_law_same P_law_same (defScope s_law_same) := ⟨rfl, rfl, rfl, by decide +kernel, rfl, by decide +kernel, by decide +kernel⟩
abbrev s_law_renamed : Stmt := topS 116
abbrev N_law_renamed : List Str := ["_law_ties", "_law_row", "_law_one", "_law_other"]
abbrev P_law_renamed : List Str := ["_law_ties", "_law_row"]
theorem sc_law_renamed : FnScope N_law_renamed P_law_renamed (defScope s_law_renamed) := ⟨rfl, rfl, rfl, by decide +kernel, rfl, by decide +kernel, by decide +kernel⟩
abbrev s_law_orders : Stmt := topS 117
abbrev N_law_orders : List Str := ["_law_many", "_law_found", "_law_person", "_law_longer", "_law_row", "_law_at"]
abbrev P_law_orders : List Str := ["_law_many"]
theorem sc_law_orders : FnScope N_law_orders P_law_orders (defScope s_law_orders) := ⟨rfl, rfl, rfl, by decide +kernel, rfl, by decide +kernel, by decide +kernel⟩
abbrev s_law_alike_right : Stmt := topS 118
abbrev N_law_alike_right : List Str := ["_law_many", "_law_ties", "_law_others", "_law_is_due", "_law_told"]
abbrev P_law_alike_right : List Str := ["_law_many", "_law_ties", "_law_others", "_law_is_due"]
theorem sc_law_alike_right : FnScope N_law_alike_right P_law_alike_right (defScope s_law_alike_right) := ⟨rfl, rfl, rfl, by decide +kernel, rfl, by decide +kernel, by decide +kernel⟩
abbrev s_law_shape_right : Stmt := topS 119
abbrev N_law_shape_right : List Str := ["_law_many", "_law_ties", "_law_least", "_law_told"]
abbrev P_law_shape_right : List Str := ["_law_many", "_law_ties", "_law_least"]
theorem sc_law_shape_right : FnScope N_law_shape_right P_law_shape_right (defScope s_law_shape_right) := ⟨rfl, rfl, rfl, by decide +kernel, rfl, by decide +kernel, by decide +kernel⟩
abbrev s_law_right : Stmt := topS 120
abbrev N_law_right : List Str := ["_law_stock_here", "_law_many", "_law_ties", "_law_others", "_law_pairs_here", "_law_few", "_law_made", "_law_turn", "_law_row"]
abbrev P_law_right : List Str := ["_law_stock_here"]
theorem sc_law_right : FnScope N_law_right P_law_right (defScope s_law_right) := ⟨rfl, rfl, rfl, by decide +kernel, rfl, by decide +kernel, by decide +kernel⟩
abbrev s_law : Stmt := topS 121
abbrev N_law : List Str := ["_law_script", "_law_five", "_law_two", "_law_ten", "_law_k", "_law_one", "_law_other"]
abbrev P_law : List Str := ["_law_script"]
theorem sc_law : FnScope N_law P_law (defScope s_law) := ⟨rfl, rfl, rfl, by decide +kernel, rfl, by decide +kernel, by decide +kernel⟩
end FT

/-! FM1: orders, ascending lists, the least; ties and their renaming by a permutation. No program here. -/
namespace FT
open PySem PySem.Spec PyProof.Rows L2
open PySem.W (Datum DatumOrd Tup)

structure Lin (α : Type) [DecidableEq α] [DatumOrd α] : Prop where
  ir : ∀ a : α, DatumOrd.lt a a = false
  tr : ∀ a b c : α, DatumOrd.lt a b = true → DatumOrd.lt b c = true → DatumOrd.lt a c = true
  to : ∀ a b : α, DatumOrd.lt a b = false → DatumOrd.lt b a = false → a = b
theorem lt_int (a b : Int) : DatumOrd.lt a b = decide (a < b) := rfl
theorem lt_pair {α β : Type} [DecidableEq α] [DatumOrd α] [DecidableEq β] [DatumOrd β] (p q : α × β) : DatumOrd.lt p q = if p.1 = q.1 then DatumOrd.lt p.2 q.2 else DatumOrd.lt p.1 q.1 := rfl
theorem lin_int : Lin Int where
  ir a := by simp [lt_int]
  tr a b c h1 h2 := by
    simp [lt_int] at *
    omega
  to a b h1 h2 := by
    simp [lt_int] at *
    omega
section
variable {α β : Type} [DecidableEq α] [DatumOrd α] [DecidableEq β] [DatumOrd β]
theorem lin_pair (h : Lin α) (k : Lin β) : Lin (α × β) where
  ir a := by rw [lt_pair, if_pos rfl, k.ir]
  tr a b c h1 h2 := by
    rw [lt_pair] at *
    by_cases e1 : a.1 = b.1
    · rw [if_pos e1] at h1
      by_cases e2 : b.1 = c.1
      · rw [if_pos e2] at h2
        rw [if_pos (e1.trans e2)]
        exact k.tr _ _ _ h1 h2
      · rw [if_neg e2] at h2
        rw [if_neg (by rw [e1]; exact e2), e1]
        exact h2
    · rw [if_neg e1] at h1
      by_cases e2 : b.1 = c.1
      · rw [if_neg (by rw [← e2]; exact e1), ← e2]
        exact h1
      · rw [if_neg e2] at h2
        have h3 := h.tr _ _ _ h1 h2
        by_cases e3 : a.1 = c.1
        · rw [e3, h.ir] at h3
          cases h3
        · rw [if_neg e3]
          exact h3
  to a b h1 h2 := by
    rw [lt_pair] at *
    by_cases e : a.1 = b.1
    · rw [if_pos e] at h1
      rw [if_pos e.symm] at h2
      exact Prod.ext e (k.to _ _ h1 h2)
    · rw [if_neg e] at h1
      rw [if_neg (fun z => e z.symm)] at h2
      exact absurd (h.to _ _ h1 h2) e
theorem listLt_ir (h : Lin α) : ∀ a : List α, PySem.W.listLt a a = false
  | [] => rfl
  | x :: xs => by rw [PySem.W.listLt, if_pos rfl, listLt_ir h xs]
theorem listLt_tr (h : Lin α) : ∀ a b c : List α, PySem.W.listLt a b = true → PySem.W.listLt b c = true → PySem.W.listLt a c = true
  | [], [], _, h1, _ => by cases h1
  | [], _ :: _, [], _, h2 => by cases h2
  | [], _ :: _, _ :: _, _, _ => rfl
  | _ :: _, [], _, h1, _ => by cases h1
  | _ :: _, _ :: _, [], _, h2 => by cases h2
  | x :: xs, y :: ys, z :: zs, h1, h2 => by
    rw [PySem.W.listLt] at *
    by_cases e1 : x = y
    · subst e1
      rw [if_pos rfl] at h1
      by_cases e2 : x = z
      · rw [if_pos e2] at *
        exact listLt_tr h _ _ _ h1 h2
      · rw [if_neg e2] at *
        exact h2
    · rw [if_neg e1] at h1
      by_cases e2 : y = z
      · subst e2
        rw [if_neg e1]
        exact h1
      · rw [if_neg e2] at h2
        have h3 := h.tr _ _ _ h1 h2
        by_cases e3 : x = z
        · rw [e3, h.ir] at h3
          cases h3
        · rw [if_neg e3]
          exact h3
theorem listLt_to (h : Lin α) : ∀ a b : List α, PySem.W.listLt a b = false → PySem.W.listLt b a = false → a = b
  | [], [], _, _ => rfl
  | [], _ :: _, h1, _ => by cases h1
  | _ :: _, [], _, h2 => by cases h2
  | x :: xs, y :: ys, h1, h2 => by
    rw [PySem.W.listLt] at *
    by_cases e : x = y
    · subst e
      rw [if_pos rfl] at *
      rw [listLt_to h _ _ h1 h2]
    · rw [if_neg e] at h1
      rw [if_neg (fun z => e z.symm)] at h2
      exact absurd (h.to _ _ h1 h2) e
theorem lin_list (h : Lin α) : Lin (List α) := ⟨listLt_ir h, listLt_tr h, listLt_to h⟩
theorem lt_tup (a b : Tup α) : DatumOrd.lt a b = DatumOrd.lt a.items b.items := rfl
theorem Lin.asymm (h : Lin α) {a b : α} (e : DatumOrd.lt a b = true) : DatumOrd.lt b a = false := by
  cases q : DatumOrd.lt b a with
  | false => rfl
  | true =>
    have := h.tr _ _ _ e q
    rw [h.ir] at this
    cases this

/-! ### ascending lists -/
def Asc (xs : List α) : Prop := xs.Pairwise fun a b => DatumOrd.lt a b = true
theorem Asc.nodup (h : Lin α) {xs : List α} (a : Asc xs) : xs.Nodup := a.imp fun {x y} e z => by
  subst z
  rw [h.ir] at e
  cases e
theorem leX_eq (a b : α) : leX a b = !DatumOrd.lt b a := rfl
theorem leX_trans (h : Lin α) (a b c : α) : leX a b = true → leX b c = true → leX a c = true := by
  simp only [leX_eq, Bool.not_eq_true']
  intro h1 h2
  cases q : DatumOrd.lt c a with
  | false => rfl
  | true =>
    by_cases e : a = b
    · subst e
      rw [q] at h2
      cases h2
    · have h3 : DatumOrd.lt a b = true := by
        cases z : DatumOrd.lt a b with
        | true => rfl
        | false => exact absurd (h.to _ _ z h1) e
      rw [h.tr _ _ _ q h3] at h2
      cases h2
theorem leX_total (h : Lin α) (a b : α) : (leX a b || leX b a) = true := by
  simp only [leX_eq]
  cases q : DatumOrd.lt b a with
  | false => rfl
  | true => rw [h.asymm q]; rfl
theorem asc_sort (h : Lin α) {xs : List α} (n : xs.Nodup) : Asc (xs.mergeSort leX) := by
  have p := List.pairwise_mergeSort (le := leX) (leX_trans h) (leX_total h) xs
  have n' : (xs.mergeSort leX).Nodup := (List.mergeSort_perm xs leX).nodup_iff.mpr n
  refine (List.Pairwise.and p n').imp fun {a b} e => ?_
  obtain ⟨e1, e2⟩ := e
  rw [leX_eq, Bool.not_eq_true'] at e1
  cases z : DatumOrd.lt a b with
  | true => rfl
  | false => exact absurd (h.to _ _ z e1) e2
theorem mem_sort {xs : List α} {a : α} : a ∈ xs.mergeSort leX ↔ a ∈ xs := (List.mergeSort_perm xs leX).mem_iff
theorem len_sort {xs : List α} : (xs.mergeSort leX).length = xs.length := (List.mergeSort_perm xs leX).length_eq
theorem asc_ext (h : Lin α) : ∀ {xs ys : List α}, Asc xs → Asc ys → (∀ a, a ∈ xs ↔ a ∈ ys) → xs = ys
  | [], [], _, _, _ => rfl
  | [], y :: _, _, _, e => absurd ((e y).mpr List.mem_cons_self) List.not_mem_nil
  | x :: _, [], _, _, e => absurd ((e x).mp List.mem_cons_self) List.not_mem_nil
  | x :: xs, y :: ys, hx, hy, e => by
    have hx1 := List.pairwise_cons.mp hx
    have hy1 := List.pairwise_cons.mp hy
    have exy : x = y := by
      have m1 := (e x).mp List.mem_cons_self
      have m2 := (e y).mpr List.mem_cons_self
      rcases List.mem_cons.mp m1 with m1 | m1
      · exact m1
      · rcases List.mem_cons.mp m2 with m2 | m2
        · exact m2.symm
        · have a1 := hy1.1 _ m1
          have a2 := hx1.1 _ m2
          rw [h.asymm a1] at a2
          cases a2
    subst exy
    rw [asc_ext h hx1.2 hy1.2 fun a => ?_]
    constructor
    · intro m
      rcases List.mem_cons.mp ((e a).mp (List.mem_cons_of_mem _ m)) with q | q
      · subst q
        have := hx1.1 _ m
        rw [h.ir] at this
        cases this
      · exact q
    · intro m
      rcases List.mem_cons.mp ((e a).mpr (List.mem_cons_of_mem _ m)) with q | q
      · subst q
        have := hy1.1 _ m
        rw [h.ir] at this
        cases this
      · exact q
theorem Asc.filter {xs : List α} (h : Asc xs) (p : α → Bool) : Asc (xs.filter p) := List.Pairwise.filter p h

/-! ### the least -/
theorem minOf_mem (x : α) : ∀ xs : List α, PySem.W.minOf x xs ∈ x :: xs := by
  intro xs
  induction xs generalizing x with
  | nil => exact List.mem_cons_self
  | cons y ys ih =>
    show PySem.W.minOf (if DatumOrd.lt y x = true then y else x) ys ∈ _
    have q := ih (if DatumOrd.lt y x = true then y else x)
    rcases List.mem_cons.mp q with q | q
    · rw [q]
      by_cases c : DatumOrd.lt y x = true
      · rw [if_pos c]; simp
      · rw [if_neg c]; simp
    · simp [q]
theorem minOf_le (h : Lin α) (x : α) : ∀ (xs : List α) (y : α), y ∈ x :: xs → DatumOrd.lt y (PySem.W.minOf x xs) = false := by
  intro xs
  induction xs generalizing x with
  | nil =>
    intro y hy
    have e : y = x := by simpa using hy
    subst e
    exact h.ir _
  | cons z zs ih =>
    intro y hy
    show DatumOrd.lt y (PySem.W.minOf (if DatumOrd.lt z x = true then z else x) zs) = false
    by_cases c : DatumOrd.lt z x = true
    · rw [if_pos c]
      rcases List.mem_cons.mp hy with e | e
      · subst e
        have q := ih z z List.mem_cons_self
        cases w : DatumOrd.lt y (PySem.W.minOf z zs) with
        | false => rfl
        | true => rw [h.tr _ _ _ c w] at q; cases q
      · exact ih z y e
    · rw [if_neg c]
      rcases List.mem_cons.mp hy with e | e
      · subst e
        exact ih y y List.mem_cons_self
      · rcases List.mem_cons.mp e with e | e
        · subst e
          have q := ih x x List.mem_cons_self
          have c' : leX x y = true := by rw [leX_eq]; simpa using c
          have q' : leX (PySem.W.minOf x zs) x = true := by rw [leX_eq, q]; rfl
          have r := leX_trans h _ _ _ q' c'
          rw [leX_eq] at r
          simpa using r
        · exact ih x y (List.mem_cons_of_mem _ e)
/-- the least of such as A says -/
structure Least (A : α → Prop) (m : α) : Prop where
  mem : A m
  le : ∀ y, A y → DatumOrd.lt y m = false
theorem Least.uniq (h : Lin α) {A : α → Prop} {m m' : α} (a : Least A m) (b : Least A m') : m = m' := h.to _ _ (b.le _ a.mem) (a.le _ b.mem)
theorem least_minOf (h : Lin α) {A : α → Prop} {x : α} {xs : List α} (e : ∀ y, y ∈ x :: xs ↔ A y) : Least A (PySem.W.minOf x xs) := ⟨(e _).mp (minOf_mem x xs), fun y hy => minOf_le h x xs y ((e y).mpr hy)⟩
end
theorem minOf_map_mk {α : Type} [DecidableEq α] [DatumOrd α] (x : List α) : ∀ xs : List (List α), PySem.W.minOf (Tup.mk x) (xs.map Tup.mk) = Tup.mk (PySem.W.minOf x xs) := by
  intro xs
  induction xs generalizing x with
  | nil => rfl
  | cons y ys ih =>
    show PySem.W.minOf (if DatumOrd.lt (Tup.mk y) (Tup.mk x) = true then Tup.mk y else Tup.mk x) (ys.map Tup.mk) = Tup.mk (PySem.W.minOf (if DatumOrd.lt y x = true then y else x) ys)
    rw [lt_tup]
    by_cases c : DatumOrd.lt y x = true
    · rw [if_pos c, if_pos c]
      exact ih y
    · rw [if_neg c, if_neg c]
      exact ih x

/-! ### ties -/
abbrev Tie := Int × Int
theorem lin_tie : Lin Tie := lin_pair lin_int lin_int
structure Ties (n : Nat) (ps : List Tie) : Prop where
  ok : ∀ p ∈ ps, 0 ≤ p.1 ∧ p.1 < p.2 ∧ p.2 < (n : Int)
  asc : Asc ps
/-- 0, 1, .. -/
def rg (n : Nat) : List Int := (List.range n).map fun (i : Nat) => (i : Int)
theorem rg_len (n : Nat) : (rg n).length = n := by simp [rg]
theorem mem_rg {n : Nat} {x : Int} : x ∈ rg n ↔ 0 ≤ x ∧ x < n := by
  simp only [rg, List.mem_map, List.mem_range]
  constructor
  · rintro ⟨i, h, rfl⟩
    omega
  · rintro ⟨h1, h2⟩
    exact ⟨x.toNat, by omega, by omega⟩
theorem rg_nodup (n : Nat) : (rg n).Nodup := by
  unfold rg
  refine List.Pairwise.map _ (fun a b h => ?_) List.nodup_range
  intro e
  exact h (by omega)
theorem nodup_sub_perm {α : Type} [DecidableEq α] : ∀ {l m : List α}, l.Nodup → (∀ x ∈ l, x ∈ m) → m.length ≤ l.length → l.Perm m
  | [], m, _, _, h => by
    have : m = [] := List.length_eq_zero_iff.mp (by simpa using h)
    rw [this]
  | x :: l, m, n, s, h => by
    have n' := List.nodup_cons.mp n
    have hx := s x List.mem_cons_self
    have p := List.perm_cons_erase hx
    have hl := p.length_eq
    refine List.Perm.trans (List.Perm.cons x (nodup_sub_perm n'.2 (fun y hy => ?_) ?_)) p.symm
    · exact (List.mem_erase_of_ne (fun e => n'.1 (by rw [← e]; exact hy))).mpr (s y (List.mem_cons_of_mem _ hy))
    · simp only [List.length_cons] at h hl
      omega
/-- r renames 0 .. n - 1 -/
def PermN (n : Nat) (r : List Int) : Prop := r.Perm (rg n)
def nth (r : List Int) (i : Nat) : Int := r.getD i 0
section
variable {n : Nat} {r : List Int}
theorem PermN.len (h : PermN n r) : r.length = n := by
  rw [List.Perm.length_eq h, rg_len]
theorem PermN.nodup (h : PermN n r) : r.Nodup := (List.Perm.nodup_iff h).mpr (rg_nodup n)
theorem PermN.range (h : PermN n r) {x : Int} : x ∈ r ↔ 0 ≤ x ∧ x < n := (List.Perm.mem_iff h).trans mem_rg
theorem PermN.of (hl : r.length = n) (hn : r.Nodup) (hr : ∀ x ∈ r, 0 ≤ x ∧ x < n) : PermN n r := nodup_sub_perm hn (fun x hx => mem_rg.mpr (hr x hx)) (by rw [rg_len, hl]; exact Nat.le_refl _)
theorem nth_get {i : Nat} (h : i < r.length) : r[i]? = some (nth r i) := by
  unfold nth
  rw [List.getD_eq_getElem?_getD, List.getElem?_eq_getElem h]
  rfl
theorem nth_mem {i : Nat} (h : i < r.length) : nth r i ∈ r := List.mem_of_getElem? (nth_get h)
theorem PermN.at (h : PermN n r) {i : Nat} (hi : i < n) : 0 ≤ nth r i ∧ nth r i < n := h.range.mp (nth_mem (by rw [h.len]; exact hi))
theorem nodup_inj (h : r.Nodup) {i j : Nat} (hi : i < r.length) (hj : j < r.length) (e : nth r i = nth r j) : i = j := by
  have h1 := nth_get hi
  have h2 := nth_get hj
  rw [e, ← h2] at h1
  exact (List.getElem?_inj hi h).mp h1
theorem PermN.inj (h : PermN n r) {i j : Nat} (hi : i < n) (hj : j < n) (e : nth r i = nth r j) : i = j := nodup_inj h.nodup (by rw [h.len]; exact hi) (by rw [h.len]; exact hj) e
theorem PermN.surj (h : PermN n r) {x : Int} (h0 : 0 ≤ x) (h1 : x < n) : ∃ i, i < n ∧ nth r i = x := by
  obtain ⟨i, hi, e⟩ := List.mem_iff_getElem.mp (h.range.mpr ⟨h0, h1⟩)
  refine ⟨i, by rw [← h.len]; exact hi, ?_⟩
  have := nth_get hi
  rw [List.getElem?_eq_getElem hi, e] at this
  exact (Option.some.inj this).symm
end
/-- as min and max of two numbers answer -/
def mnI (x y : Int) : Int := if y < x then y else x
def mxI (x y : Int) : Int := if y > x then y else x
def prI (x y : Int) : Tie := (mnI x y, mxI x y)
theorem prI_lt {x y : Int} (h : x < y) : prI x y = (x, y) := by
  unfold prI mnI mxI
  rw [if_neg (by omega), if_pos (by omega)]
theorem prI_gt {x y : Int} (h : y < x) : prI x y = (y, x) := by
  unfold prI mnI mxI
  rw [if_pos (by omega), if_neg (by omega)]
theorem prI_comm (x y : Int) : prI x y = prI y x := by
  by_cases h : x < y
  · rw [prI_lt h, prI_gt h]
  · by_cases h' : y < x
    · rw [prI_gt h', prI_lt h']
    · have : x = y := by omega
      rw [this]
/-- the tie p with r's names -/
def tieOf (r : List Int) (p : Tie) : Tie := prI (nth r p.1.toNat) (nth r p.2.toNat)
/-- the ties with r's names, sorted -/
def ren (ps : List Tie) (r : List Int) : List Tie := (ps.map (tieOf r)).mergeSort leX
theorem ren_len (ps : List Tie) (r : List Int) : (ren ps r).length = ps.length := by
  unfold ren
  rw [len_sort, List.length_map]
section
variable {n : Nat} {ps qs : List Tie} {r : List Int}
theorem tieOf_ok (h : PermN n r) {i j : Nat} (hi : i < n) (hj : j < n) (e : i ≠ j) : 0 ≤ (prI (nth r i) (nth r j)).1 ∧ (prI (nth r i) (nth r j)).1 < (prI (nth r i) (nth r j)).2 ∧ (prI (nth r i) (nth r j)).2 < (n : Int) := by
  have a := h.at hi
  have b := h.at hj
  have c : nth r i ≠ nth r j := fun z => e (h.inj hi hj z)
  by_cases q : nth r i < nth r j
  · rw [prI_lt q]
    exact ⟨a.1, q, b.2⟩
  · rw [prI_gt (by omega)]
    exact ⟨b.1, by show nth r j < nth r i; omega, a.2⟩
theorem prI_inj {x y z w : Int} (e : prI x y = prI z w) : (x = z ∧ y = w) ∨ (x = w ∧ y = z) := by
  unfold prI mnI mxI at e
  have e1 := congrArg Prod.fst e
  have e2 := congrArg Prod.snd e
  dsimp only at e1 e2
  split at e1 <;> split at e1 <;> split at e2 <;> split at e2 <;> omega
theorem tieOf_inj (h : PermN n r) {i j k l : Nat} (hi : i < j) (hj : j < n) (hk : k < l) (hl : l < n) (e : prI (nth r i) (nth r j) = prI (nth r k) (nth r l)) : i = k ∧ j = l := by
  rcases prI_inj e with ⟨a, b⟩ | ⟨a, b⟩
  · exact ⟨h.inj (by omega) (by omega) a, h.inj hj hl b⟩
  · have c := h.inj (by omega) hl a
    have d := h.inj hj (by omega) b
    omega
/-- a tie as two places -/
theorem Ties.nat (t : Ties n ps) {p : Tie} (hp : p ∈ ps) : ∃ i j : Nat, p = ((i : Int), (j : Int)) ∧ i < j ∧ j < n := by
  obtain ⟨a, b, c⟩ := t.ok p hp
  obtain ⟨x, y⟩ := p
  dsimp only at a b c
  exact ⟨x.toNat, y.toNat, Prod.ext (by show x = _; omega) (by show y = _; omega), by omega, by omega⟩
theorem tieOf_nat (i j : Nat) : tieOf r ((i : Int), (j : Int)) = prI (nth r i) (nth r j) := by
  show prI (nth r (i : Int).toNat) (nth r (j : Int).toNat) = _
  rw [Int.toNat_natCast, Int.toNat_natCast]
theorem ren_ties (t : Ties n ps) (h : PermN n r) : Ties n (ren ps r) := by
  refine ⟨fun p hp => ?_, asc_sort lin_tie ?_⟩
  · obtain ⟨q, hq, rfl⟩ := List.mem_map.mp (mem_sort.mp hp)
    obtain ⟨i, j, rfl, hij, hj⟩ := t.nat hq
    rw [tieOf_nat]
    exact tieOf_ok h (by omega) hj (by omega)
  · refine List.pairwise_map.mpr (List.Pairwise.imp_of_mem ?_ (t.asc.nodup lin_tie))
    intro p q hp hq ne e
    obtain ⟨i, j, rfl, hij, hj⟩ := t.nat hp
    obtain ⟨k, l, rfl, hkl, hl⟩ := t.nat hq
    rw [tieOf_nat, tieOf_nat] at e
    obtain ⟨a, b⟩ := tieOf_inj h hij hj hkl hl e
    exact ne (by rw [a, b])
theorem mem_ren {p : Tie} : p ∈ ren ps r ↔ ∃ q ∈ ps, tieOf r q = p := by
  unfold ren
  rw [mem_sort, List.mem_map]
/-- tied, either way round -/
def adj (ps : List Tie) (x y : Int) : Prop := (x, y) ∈ ps ∨ (y, x) ∈ ps
theorem adj_comm {x y : Int} : adj ps x y ↔ adj ps y x := Or.comm
theorem Ties.adj_lt (t : Ties n ps) {x y : Int} (h : x < y) : adj ps x y ↔ (x, y) ∈ ps := by
  refine ⟨fun e => e.elim id fun e => ?_, .inl⟩
  have := (t.ok _ e).2.1
  dsimp only at this
  omega
theorem Ties.adj_pr (t : Ties n ps) {x y : Int} (h : x ≠ y) : adj ps x y ↔ prI x y ∈ ps := by
  by_cases q : x < y
  · rw [prI_lt q]
    exact t.adj_lt q
  · have q' : y < x := by omega
    rw [prI_gt q', adj_comm]
    exact t.adj_lt q'
theorem Ties.adj_ir (t : Ties n ps) (x : Int) : ¬ adj ps x x := fun e => by
  have : (x, x) ∈ ps := e.elim id id
  have := (t.ok _ this).2.1
  dsimp only at this
  omega
theorem Ties.adj_rg (t : Ties n ps) {x y : Int} (e : adj ps x y) : (0 ≤ x ∧ x < n) ∧ (0 ≤ y ∧ y < n) := by
  rcases e with e | e
  · have := t.ok _ e
    dsimp only at this
    omega
  · have := t.ok _ e
    dsimp only at this
    omega
/-- the places that are tied are those whose names are tied -/
def Fits (n : Nat) (ps qs : List Tie) (r : List Int) : Prop := ∀ i j : Nat, i < j → j < n → (adj ps i j ↔ adj qs (nth r i) (nth r j))
theorem ren_fits (t : Ties n ps) (h : PermN n r) : Fits n ps (ren ps r) r := by
  intro i j hij hj
  have c : nth r i ≠ nth r j := fun z => by
    have := h.inj (by omega) hj z
    omega
  rw [t.adj_lt (by omega), (ren_ties t h).adj_pr c, mem_ren]
  constructor
  · exact fun e => ⟨_, e, tieOf_nat i j⟩
  · rintro ⟨q, hq, e⟩
    obtain ⟨k, l, rfl, hkl, hl⟩ := t.nat hq
    rw [tieOf_nat] at e
    obtain ⟨a, b⟩ := tieOf_inj h hkl hl hij hj e
    rw [← a, ← b]
    exact hq
theorem fits_all (t : Ties n ps) (u : Ties n qs) (f : Fits n ps qs r) {i j : Nat} (hi : i < n) (hj : j < n) : adj ps i j ↔ adj qs (nth r i) (nth r j) := by
  rcases Nat.lt_trichotomy i j with h | h | h
  · exact f i j h hj
  · subst h
    exact ⟨fun e => absurd e (t.adj_ir _), fun e => absurd e (u.adj_ir _)⟩
  · rw [adj_comm, f j i h hi, adj_comm]
theorem ren_iff (t : Ties n ps) (u : Ties n qs) (h : PermN n r) : ren ps r = qs ↔ Fits n ps qs r := by
  constructor
  · rintro rfl
    exact ren_fits t h
  · intro f
    have t' := ren_ties t h
    refine asc_ext lin_tie t'.asc u.asc fun p => ?_
    have key : ∀ {vs : List Tie}, Ties n vs → p ∈ vs → ∃ i j : Nat, i < n ∧ j < n ∧ nth r i < nth r j ∧ p = (nth r i, nth r j) := by
      intro vs v hp
      obtain ⟨a, b, c⟩ := v.ok p hp
      obtain ⟨i, hi, ei⟩ := h.surj a (by omega)
      obtain ⟨j, hj, ej⟩ := h.surj (x := p.2) (by omega) c
      exact ⟨i, j, hi, hj, by rw [ei, ej]; exact b, by rw [ei, ej]⟩
    constructor
    · intro hp
      obtain ⟨i, j, hi, hj, hl, rfl⟩ := key t' hp
      rw [← u.adj_lt hl, ← fits_all t u f hi hj, fits_all t t' (ren_fits t h) hi hj, t'.adj_lt hl]
      exact hp
    · intro hp
      obtain ⟨i, j, hi, hj, hl, rfl⟩ := key u hp
      rw [← t'.adj_lt hl, ← fits_all t t' (ren_fits t h) hi hj, fits_all t u f hi hj, u.adj_lt hl]
      exact hp
end
end FT

/-! FM2: who is near, the search for a renaming, the orders of a row, a flipped tie, the rings. No program here. -/
namespace FT
open PySem PySem.Spec PyProof.Rows L2
open PySem.W (Datum DatumOrd Tup)

/-! ### who is near -/
def row (ns : List (List Int)) (i : Nat) : List Int := ns.getD i []
structure Near (n : Nat) (ps : List Tie) (ns : List (List Int)) : Prop where
  len : ns.length = n
  nodup : ∀ i, i < n → (row ns i).Nodup
  mem : ∀ i, i < n → ∀ y : Int, y ∈ row ns i ↔ adj ps (i : Int) y
theorem row_get {ns : List (List Int)} {i : Nat} (h : i < ns.length) : ns[i]? = some (row ns i) := by
  unfold row
  rw [List.getD_eq_getElem?_getD, List.getElem?_eq_getElem h]
  rfl
theorem row_of {ns : List (List Int)} {i : Nat} {x : List Int} (h : ns[i]? = some x) : row ns i = x := by
  unfold row
  rw [List.getD_eq_getElem?_getD, h]
  rfl
def push (ns : List (List Int)) (i : Nat) (y : Int) : List (List Int) := ns.set i (row ns i ++ [y])
theorem push_len (ns : List (List Int)) (i : Nat) (y : Int) : (push ns i y).length = ns.length := by simp [push]
theorem row_push {ns : List (List Int)} {i j : Nat} {y : Int} (h : i < ns.length) : row (push ns i y) j = if i = j then row ns i ++ [y] else row ns j := by
  unfold push
  by_cases e : i = j
  · subst e
    rw [if_pos rfl]
    exact row_of (by rw [List.getElem?_set_self h])
  · rw [if_neg e]
    unfold row
    rw [List.getD_eq_getElem?_getD, List.getElem?_set_ne e, ← List.getD_eq_getElem?_getD]
/-- what the loop does with a tie -/
def nstep (ns : List (List Int)) (p : Tie) : List (List Int) := push (push ns p.1.toNat p.2) p.2.toNat p.1
theorem near_nil (n : Nat) : Near n [] (List.replicate n []) := by
  have e : ∀ i, row (List.replicate n []) i = [] := fun i => by
    unfold row
    rw [List.getD_eq_getElem?_getD, List.getElem?_replicate]
    split <;> rfl
  refine ⟨List.length_replicate, fun i _ => by rw [e]; exact List.nodup_nil, fun i _ y => ?_⟩
  rw [e]
  simp [adj]
theorem near_step {n : Nat} {ps : List Tie} {ns : List (List Int)} {i j : Nat} (h : Near n ps ns) (hij : i < j) (hj : j < n) (new : ¬ adj ps (i : Int) (j : Int)) : Near n (ps ++ [((i : Int), (j : Int))]) (nstep ns ((i : Int), (j : Int))) := by
  have e : ∀ k, row (nstep ns ((i : Int), (j : Int))) k = if k = i then row ns i ++ [(j : Int)] else if k = j then row ns j ++ [(i : Int)] else row ns k := fun k => by
    unfold nstep
    rw [Int.toNat_natCast, Int.toNat_natCast, row_push (by rw [push_len, h.len]; exact hj), row_push (by rw [h.len]; omega), row_push (by rw [h.len]; omega)]
    by_cases c1 : j = k
    · subst c1
      rw [if_pos rfl, if_neg (by omega), if_neg (by omega), if_pos rfl]
    · rw [if_neg c1]
      by_cases c2 : i = k
      · subst c2
        rw [if_pos rfl, if_pos rfl]
      · rw [if_neg c2, if_neg (fun z => c2 z.symm), if_neg (fun z => c1 z.symm)]
  have ha : ∀ k : Nat, ∀ y : Int, adj (ps ++ [((i : Int), (j : Int))]) k y ↔ adj ps k y ∨ (k = i ∧ y = j) ∨ (k = j ∧ y = i) := fun k y => by
    unfold adj
    simp only [List.mem_append, List.mem_singleton, Prod.mk.injEq, Int.natCast_inj]
    constructor
    · rintro ((a | ⟨a, b⟩) | (a | ⟨a, b⟩))
      · exact .inl (.inl a)
      · exact .inr (.inl ⟨a, b⟩)
      · exact .inl (.inr a)
      · exact .inr (.inr ⟨b, a⟩)
    · rintro ((a | a) | ⟨a, b⟩ | ⟨a, b⟩)
      · exact .inl (.inl a)
      · exact .inr (.inl a)
      · exact .inl (.inr ⟨a, b⟩)
      · exact .inr (.inr ⟨b, a⟩)
  refine ⟨by unfold nstep; rw [push_len, push_len, h.len], fun k hk => ?_, fun k hk y => ?_⟩
  · rw [e]
    have app : ∀ (l : List Int) (z : Int), l.Nodup → z ∉ l → (l ++ [z]).Nodup := fun l z n1 n2 => List.nodup_append.mpr ⟨n1, by simp, fun a ha b hb q => n2 (by
      have : b = z := by simpa using hb
      rw [← this, ← q]
      exact ha)⟩
    by_cases c1 : k = i
    · rw [if_pos c1]
      exact app _ _ (h.nodup i (by omega)) fun m => new ((h.mem i (by omega) _).mp m)
    · rw [if_neg c1]
      by_cases c2 : k = j
      · rw [if_pos c2]
        exact app _ _ (h.nodup j hj) fun m => new (adj_comm.mp ((h.mem j hj _).mp m))
      · rw [if_neg c2]
        exact h.nodup k hk
  · rw [e, ha]
    by_cases c1 : k = i
    · subst c1
      rw [if_pos rfl, List.mem_append, h.mem k hk, List.mem_singleton]
      constructor
      · rintro (a | a)
        · exact .inl a
        · exact .inr (.inl ⟨rfl, a⟩)
      · rintro (a | ⟨_, a⟩ | ⟨a, _⟩)
        · exact .inl a
        · exact .inr a
        · omega
    · rw [if_neg c1]
      by_cases c2 : k = j
      · subst c2
        rw [if_pos rfl, List.mem_append, h.mem k hk, List.mem_singleton]
        constructor
        · rintro (a | a)
          · exact .inl a
          · exact .inr (.inr ⟨rfl, a⟩)
        · rintro (a | ⟨a, _⟩ | ⟨_, a⟩)
          · exact .inl a
          · omega
          · exact .inr a
      · rw [if_neg c2, h.mem k hk]
        constructor
        · exact .inl
        · rintro (a | ⟨a, _⟩ | ⟨a, _⟩)
          · exact a
          · omega
          · omega
theorem near_fold {n : Nat} {ps : List Tie} (t : Ties n ps) : ∀ k, Near n (ps.take k) ((ps.take k).foldl nstep (List.replicate n [])) := by
  intro k
  induction k with
  | zero => exact near_nil n
  | succ k ih =>
    cases e : ps[k]? with
    | none =>
      have : ps.take (k + 1) = ps.take k := by rw [List.take_add_one, e]; simp
      rw [this]
      exact ih
    | some p =>
      have e2 : ps.take (k + 1) = ps.take k ++ [p] := by rw [List.take_add_one, e]; rfl
      have hm : p ∈ ps := List.mem_of_getElem? e
      rw [e2, List.foldl_append]
      obtain ⟨i, j, rfl, hij, hj⟩ := t.nat hm
      refine near_step ih hij hj fun a => ?_
      have nd := t.asc.nodup lin_tie
      have nd2 : (ps.take (k + 1)).Nodup := List.Sublist.nodup (List.take_sublist _ _) nd
      rw [e2] at nd2
      have nd3 := (List.nodup_append.mp nd2).2.2
      rcases a with a | a
      · exact nd3 _ a _ (by simp) rfl
      · have := (t.ok _ (List.mem_of_mem_take a)).2.1
        dsimp only at this
        omega
theorem near_sorted {n : Nat} {ps : List Tie} {ns : List (List Int)} (h : Near n ps ns) : Near n ps (ns.map fun x => x.mergeSort leX) := by
  have e : ∀ i, i < n → row (ns.map fun x => x.mergeSort leX) i = (row ns i).mergeSort leX := fun i hi => by
    refine row_of ?_
    rw [List.getElem?_map, row_get (by rw [h.len]; exact hi)]
    rfl
  refine ⟨by rw [List.length_map, h.len], fun i hi => ?_, fun i hi y => ?_⟩
  · rw [e i hi]
    exact (List.mergeSort_perm _ _).nodup_iff.mpr (h.nodup i hi)
  · rw [e i hi, mem_sort, h.mem i hi]
/-- what near_of answers -/
def nearL (n : Nat) (ps : List Tie) : List (List Int) := (ps.foldl nstep (List.replicate n [])).map fun x => x.mergeSort leX
theorem nearL_ok {n : Nat} {ps : List Tie} (t : Ties n ps) : Near n ps (nearL n ps) := by
  have h := near_fold t ps.length
  rw [List.take_of_length_le (Nat.le_refl _)] at h
  exact near_sorted h

/-! ### the search -/
structure Part (n : Nat) (ps qs : List Tie) (r : List Int) : Prop where
  len : r.length ≤ n
  nodup : r.Nodup
  rng : ∀ x ∈ r, 0 ≤ x ∧ x < (n : Int)
  fits : ∀ i j : Nat, i < j → j < r.length → (adj ps i j ↔ adj qs (nth r i) (nth r j))
section
variable {n : Nat} {ps qs : List Tie} {r w : List Int} {ns os : List (List Int)}
theorem part_nil : Part n ps qs [] := ⟨Nat.zero_le _, List.nodup_nil, fun _ h => absurd h List.not_mem_nil, fun _ _ _ h => absurd h (Nat.not_lt_zero _)⟩
theorem Part.full (h : Part n ps qs r) (e : r.length = n) : PermN n r ∧ Fits n ps qs r := ⟨PermN.of e h.nodup h.rng, fun i j a b => h.fits i j a (by rw [e]; exact b)⟩
theorem nth_app {i : Nat} {x : Int} (h : i < r.length) : nth (r ++ [x]) i = nth r i := by
  unfold nth
  rw [List.getD_eq_getElem?_getD, List.getElem?_append_left h, ← List.getD_eq_getElem?_getD]
theorem nth_last {x : Int} : nth (r ++ [x]) r.length = x := by
  unfold nth
  rw [List.getD_eq_getElem?_getD, List.getElem?_append_right (Nat.le_refl _)]
  simp
theorem Part.step (h : Part n ps qs r) (hl : r.length < n) {x : Int} (h0 : 0 ≤ x) (h1 : x < n) (hx : x ∉ r) (ht : ∀ i, i < r.length → (adj ps (r.length : Nat) (i : Nat) ↔ adj qs x (nth r i))) : Part n ps qs (r ++ [x]) := by
  refine ⟨by simp; omega, List.nodup_append.mpr ⟨h.nodup, by simp, fun a ha b hb q => hx (by
    have : b = x := by simpa using hb
    rw [← this, ← q]; exact ha)⟩, fun y hy => ?_, fun i j hij hj => ?_⟩
  · rcases List.mem_append.mp hy with hy | hy
    · exact h.rng y hy
    · have : y = x := by simpa using hy
      subst this
      exact ⟨h0, h1⟩
  · simp only [List.length_append, List.length_singleton] at hj
    by_cases c : j = r.length
    · subst c
      rw [nth_app hij, nth_last, adj_comm, ht i hij, adj_comm]
    · rw [nth_app (by omega), nth_app (by omega)]
      exact h.fits i j hij (by omega)
/-- the search's answer from r on: no renaming begins so, or this one is one -/
def RF (n : Nat) (ps qs : List Tie) (w : List Int) : Option (List Int) → Prop
  | none => ∀ r, PermN n r → Fits n ps qs r → r.take w.length ≠ w
  | some r => PermN n r ∧ Fits n ps qs r
theorem take_succ_nth {k : Nat} (h : k < r.length) : r.take (k + 1) = r.take k ++ [nth r k] := by
  rw [List.take_add_one, nth_get h]
  rfl
theorem deg_eq (N : Near n ps ns) (O : Near n qs os) (t : Ties n ps) (u : Ties n qs) (p : PermN n r) (f : Fits n ps qs r) {k : Nat} (hk : k < n) : (row os (nth r k).toNat).length = (row ns k).length := by
  have hr := p.at hk
  have hx : (nth r k).toNat < n := by omega
  have hc : (((nth r k).toNat : Nat) : Int) = nth r k := by omega
  have nd : ((row ns k).map fun y => nth r y.toNat).Nodup := by
    refine List.pairwise_map.mpr (List.Pairwise.imp_of_mem ?_ (N.nodup k hk))
    intro a b ha hb ne e
    have a1 := (t.adj_rg ((N.mem k hk _).mp ha)).2
    have b1 := (t.adj_rg ((N.mem k hk _).mp hb)).2
    have := p.inj (by omega) (by omega) e
    exact ne (by omega)
  have hm : ∀ y, y ∈ row os (nth r k).toNat ↔ y ∈ (row ns k).map fun y => nth r y.toNat := fun y => by
    rw [O.mem _ hx, hc, List.mem_map]
    constructor
    · intro a
      obtain ⟨b0, b1⟩ := (u.adj_rg a).2
      obtain ⟨i, hi, e⟩ := p.surj b0 b1
      refine ⟨(i : Int), (N.mem k hk _).mpr ((fits_all t u f hk hi).mpr ?_), ?_⟩
      · rw [e]
        exact a
      · show nth r (i : Int).toNat = y
        rw [Int.toNat_natCast, e]
    · rintro ⟨z, hz, e⟩
      have a := (N.mem k hk _).mp hz
      have b := (t.adj_rg a).2
      have e2 : ((z.toNat : Nat) : Int) = z := by omega
      rw [← e2] at a
      rw [← e]
      exact (fits_all t u f hk (by omega)).mp a
  have pm := (List.perm_ext_iff_of_nodup (O.nodup _ hx) nd).mpr hm
  rw [pm.length_eq, List.length_map]
/-- a renaming that begins so has its next name among those that pass -/
theorem next_ok (N : Near n ps ns) (O : Near n qs os) (t : Ties n ps) (u : Ties n qs) (p : PermN n r) (f : Fits n ps qs r) (hw : w.length < n) (e : r.take w.length = w) :
    ∃ x : Nat, x < n ∧ ((x : Int) ∉ w) ∧ (row os x).length = (row ns w.length).length ∧ (∀ i, i < w.length → (adj ps (w.length : Nat) (i : Nat) ↔ adj qs (x : Int) (nth w i))) ∧ r.take (w.length + 1) = w ++ [(x : Int)] := by
  have hr := p.at hw
  have hl := p.len
  have hc : (((nth r w.length).toNat : Nat) : Int) = nth r w.length := by omega
  have e2 : r.take (w.length + 1) = w ++ [nth r w.length] := by rw [take_succ_nth (by omega), e]
  have hn : ∀ i, i < w.length → nth w i = nth r i := fun i hi => by
    have : w[i]? = r[i]? := by rw [← e, List.getElem?_take_of_lt (by omega)]
    unfold nth
    rw [List.getD_eq_getElem?_getD, this, ← List.getD_eq_getElem?_getD]
  refine ⟨(nth r w.length).toNat, by omega, ?_, deg_eq N O t u p f hw, fun i hi => ?_, by rw [hc]; exact e2⟩
  · rw [hc]
    have nd : (r.take (w.length + 1)).Nodup := List.Sublist.nodup (List.take_sublist _ _) p.nodup
    rw [e2] at nd
    exact fun m => (List.nodup_append.mp nd).2.2 _ m _ (by simp) rfl
  · rw [hc, hn i hi]
    exact fits_all t u f hw (by omega)
end

/-! ### the orders of a row -/
def fact : Nat → Nat
  | 0 => 1
  | n + 1 => (n + 1) * fact n
theorem erase_perm {α : Type} {xs : List α} {k : Nat} (hk : k < xs.length) : (xs[k] :: xs.eraseIdx k).Perm xs := by
  rw [List.eraseIdx_eq_take_drop_succ]
  refine List.perm_middle.symm.trans ?_
  rw [← List.drop_eq_getElem_cons hk, List.take_append_drop]
theorem perm_pick {α : Type} [DecidableEq α] {r xs : List α} : r.Perm xs ↔ (r = [] ∧ xs = []) ∨ ∃ k x r', xs[k]? = some x ∧ r = x :: r' ∧ r'.Perm (xs.eraseIdx k) := by
  constructor
  · intro p
    cases r with
    | nil => exact .inl ⟨rfl, List.nil_perm.mp p⟩
    | cons x r' =>
      have hx : x ∈ xs := p.subset List.mem_cons_self
      obtain ⟨k, hk, e⟩ := List.mem_iff_getElem.mp hx
      refine .inr ⟨k, x, r', by rw [List.getElem?_eq_getElem hk, e], rfl, ?_⟩
      have q := erase_perm hk
      rw [e] at q
      exact (p.trans q.symm).cons_inv
  · rintro (⟨rfl, rfl⟩ | ⟨k, x, r', e, rfl, p⟩)
    · exact .refl _
    · have hk := (List.getElem?_eq_some_iff.mp e).1
      have ek := (List.getElem?_eq_some_iff.mp e).2
      have q := erase_perm hk
      rw [ek] at q
      exact (List.Perm.cons x p).trans q
theorem rg_succ (n : Nat) : rg (n + 1) = rg n ++ [(n : Int)] := by
  unfold rg
  rw [List.range_succ, List.map_append]
  rfl
theorem perm_put {n : Nat} {r : List Int} : r.Perm (rg (n + 1)) ↔ ∃ (r' : List Int) (k : Nat), r'.Perm (rg n) ∧ k ≤ r'.length ∧ r = r'.take k ++ [(n : Int)] ++ r'.drop k := by
  constructor
  · intro p
    have hm : (n : Int) ∈ r := p.symm.subset (by rw [rg_succ]; simp)
    obtain ⟨k, hk, e⟩ := List.mem_iff_getElem.mp hm
    refine ⟨r.eraseIdx k, k, ?_, ?_, ?_⟩
    · have q := erase_perm hk
      rw [e] at q
      have q2 : (rg (n + 1)).Perm ((n : Int) :: rg n) := by
        rw [rg_succ]
        exact List.perm_append_singleton _ _
      exact ((q.trans p).trans q2).cons_inv
    · rw [List.length_eraseIdx_of_lt hk]
      omega
    · rw [List.eraseIdx_eq_take_drop_succ]
      have l : (r.take k).length = k := by rw [List.length_take]; omega
      rw [List.take_append_of_le_length (by rw [l]; exact Nat.le_refl _), List.take_of_length_le (by rw [l]; exact Nat.le_refl _), List.drop_append_of_le_length (by rw [l]; exact Nat.le_refl _), List.drop_of_length_le (by rw [l]; exact Nat.le_refl _), List.nil_append, List.append_assoc, List.singleton_append, ← e]
      rw [← List.drop_eq_getElem_cons hk, List.take_append_drop]
  · rintro ⟨r', k, p, hk, rfl⟩
    rw [rg_succ]
    have a : (r'.take k ++ [(n : Int)] ++ r'.drop k).Perm ((n : Int) :: (r'.take k ++ r'.drop k)) := by
      rw [List.append_assoc]
      exact List.perm_middle
    rw [List.take_append_drop] at a
    exact a.trans ((List.Perm.cons _ p).trans (List.perm_append_singleton _ _).symm)

/-! ### a flipped tie -/
def flip (ps : List Tie) (t : Tie) : List Tie := ((ps.filter fun p => decide (p ≠ t)) ++ (if t ∈ ps then [] else [t])).mergeSort leX
theorem flip_ties {n : Nat} {ps : List Tie} {t : Tie} (h : Ties n ps) (ht : 0 ≤ t.1 ∧ t.1 < t.2 ∧ t.2 < (n : Int)) : Ties n (flip ps t) := by
  unfold flip
  refine ⟨fun p hp => ?_, asc_sort lin_tie ?_⟩
  · rcases List.mem_append.mp (mem_sort.mp hp) with m | m
    · exact h.ok p (List.mem_filter.mp m).1
    · by_cases c : t ∈ ps
      · rw [if_pos c] at m
        exact absurd m List.not_mem_nil
      · rw [if_neg c] at m
        have : p = t := by simpa using m
        rw [this]
        exact ht
  · have n1 := List.Pairwise.filter (fun p => decide (p ≠ t)) (h.asc.nodup lin_tie)
    by_cases c : t ∈ ps
    · rw [if_pos c, List.append_nil]
      exact n1
    · rw [if_neg c]
      refine List.nodup_append.mpr ⟨n1, by simp, fun a ha b hb q => ?_⟩
      have : b = t := by simpa using hb
      subst this
      subst q
      exact c (List.mem_filter.mp ha).1
theorem filter_ne_len {ps : List Tie} {t : Tie} : ps.Nodup → (ps.filter fun p => decide (p ≠ t)).length + (if t ∈ ps then 1 else 0) = ps.length := by
  induction ps with
  | nil => intro _; simp
  | cons p ps ih =>
    intro nd
    have nd' := List.nodup_cons.mp nd
    have q := ih nd'.2
    by_cases c : p = t
    · subst c
      rw [if_neg nd'.1] at q
      rw [if_pos List.mem_cons_self, List.filter_cons_of_neg (by simp), List.length_cons]
      omega
    · rw [List.filter_cons_of_pos (by simpa using c), List.length_cons, List.length_cons]
      by_cases m : t ∈ ps
      · rw [if_pos m] at q
        rw [if_pos (List.mem_cons_of_mem _ m)]
        omega
      · rw [if_neg m] at q
        rw [if_neg (fun z => (List.mem_cons.mp z).elim (fun e => c e.symm) m)]
        omega
theorem flip_len {n : Nat} {ps : List Tie} {t : Tie} (h : Ties n ps) : (flip ps t).length ≠ ps.length := by
  have q := filter_ne_len (t := t) (h.asc.nodup lin_tie)
  unfold flip
  rw [len_sort, List.length_append]
  by_cases c : t ∈ ps
  · rw [if_pos c] at *
    simp only [List.length_nil]
    omega
  · rw [if_neg c] at *
    simp only [List.length_singleton]
    omega

/-! ### the rings of five and of ten -/
def five : List Tie := [(0, 1), (0, 4), (1, 2), (2, 3), (3, 4)]
def two : List Tie := [(0, 1), (0, 4), (1, 2), (2, 3), (3, 4), (5, 6), (5, 9), (6, 7), (7, 8), (8, 9)]
def ten : List Tie := [(0, 1), (0, 9), (1, 2), (2, 3), (3, 4), (4, 5), (5, 6), (6, 7), (7, 8), (8, 9)]
theorem ties_two : Ties 10 two := ⟨by decide, by unfold Asc; decide⟩
theorem ties_ten : Ties 10 ten := ⟨by decide, by unfold Asc; decide⟩
theorem ten_par {x y : Int} (h : adj ten x y) : (x + y) % 2 = 1 := by
  have k : ∀ p ∈ ten, (p.1 + p.2) % 2 = 1 := by decide
  rcases h with h | h
  · exact k _ h
  · have := k _ h
    dsimp only at this
    omega
theorem two_side {x y : Int} (h : adj two x y) : x < 5 ↔ y < 5 := by
  have k : ∀ p ∈ two, (p.1 < 5 ↔ p.2 < 5) := by decide
  rcases h with h | h
  · exact k _ h
  · exact (k _ h).symm
theorem no_two_ten {r : List Int} (p : PermN 10 r) : ¬ Fits 10 two ten r := fun f => by
  have g : ∀ i j : Nat, i < 10 → j < 10 → adj two i j → (nth r i + nth r j) % 2 = 1 := fun i j hi hj a => ten_par ((fits_all ties_two ties_ten f hi hj).mp a)
  have a1 := g 0 1 (by decide) (by decide) (.inl (by decide))
  have a2 := g 1 2 (by decide) (by decide) (.inl (by decide))
  have a3 := g 2 3 (by decide) (by decide) (.inl (by decide))
  have a4 := g 3 4 (by decide) (by decide) (.inl (by decide))
  have a5 := g 4 0 (by decide) (by decide) (.inr (by decide))
  omega
theorem no_ten_two {r : List Int} (p : PermN 10 r) : ¬ Fits 10 ten two r := fun f => by
  have g : ∀ i j : Nat, i < 10 → j < 10 → adj ten i j → (nth r i < 5 ↔ nth r j < 5) := fun i j hi hj a => two_side ((fits_all ties_ten ties_two f hi hj).mp a)
  have a1 := g 0 1 (by decide) (by decide) (.inl (by decide))
  have a2 := g 1 2 (by decide) (by decide) (.inl (by decide))
  have a3 := g 2 3 (by decide) (by decide) (.inl (by decide))
  have a4 := g 3 4 (by decide) (by decide) (.inl (by decide))
  have a5 := g 4 5 (by decide) (by decide) (.inl (by decide))
  have a6 := g 5 6 (by decide) (by decide) (.inl (by decide))
  have a7 := g 6 7 (by decide) (by decide) (.inl (by decide))
  have a8 := g 7 8 (by decide) (by decide) (.inl (by decide))
  have a9 := g 8 9 (by decide) (by decide) (.inl (by decide))
  have all : ∀ i, i < 10 → (nth r i < 5 ↔ nth r 0 < 5) := by
    intro i hi
    match i, hi with
    | 0, _ => exact Iff.rfl
    | 1, _ => exact a1.symm
    | 2, _ => exact (a1.trans a2).symm
    | 3, _ => exact (a1.trans (a2.trans a3)).symm
    | 4, _ => exact (a1.trans (a2.trans (a3.trans a4))).symm
    | 5, _ => exact (a1.trans (a2.trans (a3.trans (a4.trans a5)))).symm
    | 6, _ => exact (a1.trans (a2.trans (a3.trans (a4.trans (a5.trans a6))))).symm
    | 7, _ => exact (a1.trans (a2.trans (a3.trans (a4.trans (a5.trans (a6.trans a7)))))).symm
    | 8, _ => exact (a1.trans (a2.trans (a3.trans (a4.trans (a5.trans (a6.trans (a7.trans a8))))))).symm
    | 9, _ => exact (a1.trans (a2.trans (a3.trans (a4.trans (a5.trans (a6.trans (a7.trans (a8.trans a9)))))))).symm
    | n + 10, h => omega
  obtain ⟨i, hi, e⟩ := p.surj (x := 0) (by decide) (by decide)
  obtain ⟨j, hj, e'⟩ := p.surj (x := 9) (by decide) (by decide)
  have b1 := all i hi
  have b2 := all j hj
  omega

/-! ### all pairs -/
def prs (n : Nat) : List Tie := (List.range n).flatMap fun (i : Nat) => (List.range' (i + 1) (n - (i + 1))).map fun (j : Nat) => ((i : Int), (j : Int))
theorem prs_ties {n : Nat} (h : n ≤ 10) : Ties n (prs n) := by
  have k : ∀ n ∈ List.range 11, (∀ p ∈ prs n, 0 ≤ p.1 ∧ p.1 < p.2 ∧ p.2 < (n : Int)) ∧ (prs n).Pairwise fun a b => DatumOrd.lt a b = true := by decide +kernel
  have := k n (List.mem_range.mpr (by omega))
  exact ⟨this.1, this.2⟩
theorem prs_len {n : Nat} (h : n ≤ 10) : (prs n).length ≤ 45 ∧ (2 ≤ n → 1 ≤ (prs n).length) := by
  have k : ∀ n ∈ List.range 11, (prs n).length ≤ 45 ∧ (2 ≤ n → 1 ≤ (prs n).length) := by decide +kernel
  exact k n (List.mem_range.mpr (by omega))
theorem Ties.sub {n : Nat} {ps qs : List Tie} (h : Ties n ps) (s : qs.Sublist ps) : Ties n qs := ⟨fun p hp => h.ok p (s.subset hp), List.Pairwise.sublist s h.asc⟩
theorem Ties.mono {n m : Nat} {ps : List Tie} (h : Ties n ps) (k : n ≤ m) : Ties m ps := ⟨fun p hp => by
  have := h.ok p hp
  omega, h.asc⟩
end FT

/-! FM3: a party as a text. No program here. -/
namespace FT
open PySem PySem.Spec PyProof.Rows L2
open PySem.W (Datum DatumOrd Tup)
open SX (S S_len S_cat)
def numT (n : Nat) : List Nat := TL.numL n
/-- a tie's text -/
def tieL (p : Tie) : List Nat := TL.numL p.1.toNat ++ ([45] ++ TL.numL p.2.toNat)
def headL (n : Nat) : List Nat := TL.numL n ++ [58]
def restL (ps : List Tie) : List Nat := TL.joinL [32] ([] :: ps.map tieL)
def lineL (n : Nat) (ps : List Tie) : List Nat := TL.joinL [32] (headL n :: ps.map tieL)
def line (n : Nat) (ps : List Tie) : Str := S (lineL n ps)
theorem lineL_eq (n : Nat) (ps : List Tie) : lineL n ps = TL.numL n ++ ([58] ++ restL ps) := by
  unfold lineL restL headL
  cases ps with
  | nil =>
    show TL.numL n ++ [58] = TL.numL n ++ ([58] ++ [])
    rw [List.append_nil]
  | cons p ps =>
    show (TL.numL n ++ [58]) ++ ([32] ++ TL.joinL [32] (tieL p :: ps.map tieL)) = TL.numL n ++ ([58] ++ ([] ++ ([32] ++ TL.joinL [32] (tieL p :: ps.map tieL))))
    rw [List.nil_append, List.append_assoc]
theorem line_part (n : Nat) (ps : List Tie) : Txt.partition (line n ps) (S [58]) = (S (TL.numL n), S [58], S (restL ps)) := by
  unfold line
  rw [lineL_eq]
  exact SX.partition_some (by simp) (SX.par_head (restL ps) (TL.numL_free (by omega)))
theorem tie_part (p : Tie) : Txt.partition (S (tieL p)) (S [45]) = (S (TL.numL p.1.toNat), S [45], S (TL.numL p.2.toNat)) := by
  unfold tieL
  exact SX.partition_some (by simp) (SX.par_head _ (TL.numL_free (by omega)))
theorem space_free (p : Tie) : 32 ∉ tieL p := by
  unfold tieL
  intro h
  rcases List.mem_append.mp h with h | h
  · exact TL.numL_free (by omega) h
  · rcases List.mem_append.mp h with h | h
    · simp at h
    · exact TL.numL_free (by omega) h
theorem rest_split (ps : List Tie) : Txt.split (S (restL ps)) (S [32]) = S [] :: ps.map fun p => S (tieL p) := by
  rw [SX.split_S (by simp) (by decide)]
  have h : TL.spl [32] 0 [] (restL ps) = [] :: ps.map tieL := by
    unfold restL
    refine SX.spl_join (List.cons_ne_nil _ _) fun p hp => ?_
    rcases List.mem_cons.mp hp with e | e
    · rw [e]
      simp
    · obtain ⟨q, _, rfl⟩ := List.mem_map.mp e
      exact space_free q
  rw [h, List.map_cons, List.map_map]
  rfl
theorem rest_head (ps : List Tie) : (restL ps).take 1 = [] ∨ (restL ps).take 1 = [32] := by
  unfold restL
  cases ps with
  | nil => exact .inl rfl
  | cons p ps =>
    refine .inr ?_
    show (([] : List Nat) ++ ([32] ++ TL.joinL [32] (tieL p :: ps.map tieL))).take 1 = [32]
    rfl
theorem join_line (n : Nat) (ps : List Tie) : Txt.join (S [32]) (S (headL n) :: ps.map fun p => S (tieL p)) = line n ps := by
  have h := SX.join_S [32] (headL n :: ps.map tieL)
  rw [List.map_cons, List.map_map] at h
  exact h
/-! lengths -/
theorem num1 {n : Nat} (h : n < 10) : TL.numL n = [48 + n] := TL.numL_lt h
theorem num_len2 {n : Nat} (h : n < 100) : 1 ≤ (TL.numL n).length ∧ (TL.numL n).length ≤ 2 := by
  refine ⟨?_, TL.numL_len (k := 2) (by decide) (by omega)⟩
  have := TL.numL_ne n
  cases e : TL.numL n with
  | nil => exact absurd e this
  | cons _ _ => simp
theorem tie_len {n : Nat} (hn : n ≤ 10) {p : Tie} (h : 0 ≤ p.1 ∧ p.1 < p.2 ∧ p.2 < (n : Int)) : (tieL p).length = 3 := by
  unfold tieL
  rw [num1 (by omega), num1 (by omega)]
  rfl
theorem joinL_len (ls : List (List Nat)) (c : Nat) (h : ∀ l ∈ ls, l.length ≤ c) : (TL.joinL [32] ls).length ≤ ls.length * (c + 1) := by
  induction ls with
  | nil => exact Nat.zero_le _
  | cons a ls ih =>
    have ha := h a List.mem_cons_self
    cases ls with
    | nil =>
      show a.length ≤ _
      simp only [List.length_cons, List.length_nil]
      omega
    | cons b ls =>
      show (a ++ ([32] ++ TL.joinL [32] (b :: ls))).length ≤ _
      have q := ih fun l hl => h l (List.mem_cons_of_mem _ hl)
      have e : (a :: b :: ls).length * (c + 1) = (b :: ls).length * (c + 1) + (c + 1) := by
        rw [List.length_cons (a := a), Nat.add_mul, Nat.one_mul]
      rw [e, List.length_append, List.length_append, List.length_singleton]
      omega
theorem rest_len {n : Nat} {ps : List Tie} (hn : n ≤ 10) (t : Ties n ps) : (restL ps).length ≤ (ps.length + 1) * 4 := by
  unfold restL
  have q := joinL_len ([] :: ps.map tieL) 3 fun l hl => by
    rcases List.mem_cons.mp hl with e | e
    · rw [e]
      exact Nat.zero_le _
    · obtain ⟨p, hp, rfl⟩ := List.mem_map.mp e
      rw [tie_len hn (t.ok p hp)]
      exact Nat.le_refl _
  rw [List.length_cons, List.length_map] at q
  exact q
theorem line_len {n : Nat} {ps : List Tie} (hn : n ≤ 10) (t : Ties n ps) : (lineL n ps).length ≤ (ps.length + 1) * 4 + 3 := by
  rw [lineL_eq, List.length_append, List.length_append]
  have a := (num_len2 (n := n) (by omega)).2
  have b := rest_len hn t
  simp only [List.length_singleton]
  omega
/-! what natural reads -/
theorem num_dig {n c : Nat} (h : c ∈ TL.numL n) : 48 ≤ c ∧ c ≤ 57 := TL.numL_digits n c h
theorem num_int {n : Nat} (h : n < 100) : intText? (S (TL.numL n)) = some (n : Int) := by
  have e := SX.int_S (a := TL.numL n) (by
    rw [List.all_eq_true]
    intro c hc
    have := num_dig hc
    simp
    omega) (TL.numL_ne n) (by have := (num_len2 h).2; omega)
  rw [TL.numL_val] at e
  exact e
/-- no leading nought -/
theorem num_head {n : Nat} (h : n ≤ 10) : S (TL.numL n) = S [48] ∨ ∃ c r, TL.numL n = c :: r ∧ c ≠ 48 := by
  by_cases h0 : n = 0
  · subst h0
    exact .inl (by rw [num1 (by decide)])
  · by_cases h1 : n < 10
    · exact .inr ⟨48 + n, [], num1 h1, by omega⟩
    · have e : n = 10 := by omega
      subst e
      refine .inr ⟨49, [48], ?_, by decide⟩
      rw [TL.numL_step (by decide), num1 (by decide)]
      rfl
/-- with at most 45 ties there are few -/
theorem Ties.len {n : Nat} {ps : List Tie} (hn : n ≤ 10) (t : Ties n ps) : ps.length ≤ 45 := by
  have s : ∀ p ∈ ps, p ∈ prs n := fun p hp => by
    obtain ⟨i, j, rfl, hij, hj⟩ := t.nat hp
    unfold prs
    refine List.mem_flatMap.mpr ⟨i, List.mem_range.mpr (by omega), List.mem_map.mpr ⟨j, ?_, rfl⟩⟩
    rw [List.mem_range'_1]
    omega
  have nd := t.asc.nodup lin_tie
  have key : ∀ (l m : List Tie), l.Nodup → (∀ x ∈ l, x ∈ m) → l.length ≤ m.length := by
    intro l
    induction l with
    | nil => intro m _ _; exact Nat.zero_le _
    | cons x l ih =>
      intro m n s
      have n' := List.nodup_cons.mp n
      have hx := s x List.mem_cons_self
      have q := ih (m.erase x) n'.2 fun y hy => (List.mem_erase_of_ne (fun e => n'.1 (by rw [← e]; exact hy))).mpr (s y (List.mem_cons_of_mem _ hy))
      have l2 := (List.perm_cons_erase hx).length_eq
      simp only [List.length_cons] at *
      omega
  exact Nat.le_trans (key _ _ nd s) (prs_len hn).1
end FT

/-! FT7: small facts for the readings. -/
namespace FT
open PySem PySem.Spec PyProof.Rows L2
open PySem.W (Datum DatumOrd Tup)
section
variable {H : Hp} {vs : List V} {K : PySem.W.Frag} {a : Addr}
theorem of_bls : ∀ {vs : List V} {ns : List Bool}, Are H vs ns → vs = ns.map V.bl
  | [], [], _ => rfl
  | [], _ :: _, h => by cases h
  | _ :: _, [], h => by cases h
  | _ :: _, n :: _, h => by
    have q := h.head.1
    cases q
    rw [List.map_cons, of_bls h.head.2]
theorem Lis.bls {ns : List Bool} (h : Lis H a ns) : SqL K H a (ns.map V.bl) := by
  obtain ⟨vs, e, t⟩ := h
  rw [of_bls t] at e
  exact .inl (.inl e)
theorem Lis.ints {ns : List Int} (h : Lis H a ns) : H a = some (.lst (ns.map V.int)) := by
  obtain ⟨vs, e, t⟩ := h
  rw [of_ints t] at e
  exact e
theorem Lis.strs {ns : List Str} (h : Lis H a ns) : H a = some (.lst (ns.map V.str)) := by
  obtain ⟨vs, e, t⟩ := h
  rw [of_strs t] at e
  exact e
theorem lis_ints {ns : List Int} (h : H a = some (.lst (ns.map V.int))) : Lis H a ns := ⟨_, h, are_ints ns⟩
theorem sqL {xs : List V} (h : H a = some (.lst xs)) : SqL K H a xs := .inl (.inl h)
theorem sqT {xs : List V} (h : H a = some (.tup xs)) : SqT K H a xs := .inl (.inl h)
/-- a tuple of ints -/
theorem of_tupI {v : V} {r : List Int} (h : Is H v (Tup.mk r)) : ∃ a, v = .ref a ∧ H a = some (.tup (r.map V.int)) := by
  obtain ⟨a, vs, e1, e2, e3⟩ := of_tup h
  rw [of_ints e3] at e2
  exact ⟨a, e1, e2⟩
theorem is_tupI {r : List Int} (h : H a = some (.tup (r.map V.int))) : Is H (.ref a) (Tup.mk r) := is_tup h (are_ints r)
end
theorem atI_int {α : Type} {xs : List α} {i : Int} {v : α} (h0 : 0 ≤ i) (h : xs[i.toNat]? = some v) : atI xs i = some v := by
  have e : ((i.toNat : Nat) : Int) = i := by omega
  rw [← e]
  exact atI_nat h
theorem atI_neg1 {α : Type} {xs : List α} {v : α} (h : xs.getLast? = some v) : atI xs (-1) = some v := by
  obtain ⟨ys, rfl⟩ := List.getLast?_eq_some_iff.mp h
  exact atI_last ys v
theorem inV_int (x : Int) (ns : List Int) : inV (.int x) (ns.map V.int) = decide (x ∈ ns) := by
  unfold inV
  induction ns with
  | nil => rfl
  | cons n ns ih =>
    rw [List.map_cons, List.any_cons, ih]
    have e : eqV (.int n) (.int x) = decide (n = x) := by
      show _ = _
      first
        | rfl
        | (rw [Bool.eq_iff_iff]; simp [eqV])
    rw [e]
    by_cases c : n = x
    · subst c
      simp
    · have c' : ¬ x = n := fun z => c z.symm
      simp [c, c']
theorem flat_ints (ns : List Int) : (ns.map V.int).all flatV = true := by
  induction ns with
  | nil => rfl
  | cons n ns ih =>
    rw [List.map_cons, List.all_cons, ih]
    rfl
theorem cut_from {vs : List V} (n : Nat) : cutV vs (some (n : Int)) none = vs.drop n := by
  unfold cutV
  rw [HT.sIx_none, HT.sIx_nat]
  by_cases h : n ≤ vs.length
  · rw [Nat.min_eq_left h, List.take_of_length_le (by rw [List.length_drop]; exact Nat.le_refl _)]
  · rw [Nat.min_eq_right (by omega), Nat.sub_self, List.take_zero, List.drop_of_length_le (by omega)]
theorem cut_to {vs : List V} (n : Nat) : cutV vs none (some (n : Int)) = vs.take n := by
  unfold cutV
  rw [HT.sIx_none, HT.sIx_nat, List.drop_zero, Nat.sub_zero]
  by_cases h : n ≤ vs.length
  · rw [Nat.min_eq_left h]
  · rw [Nat.min_eq_right (by omega), List.take_of_length_le (Nat.le_refl _), List.take_of_length_le (by omega)]
end FT

/-! FT8: comprehensions and loops, as questions. -/
namespace FT
open PySem PySem.Spec PyProof.Rows L2
open PySem.W (Datum DatumOrd Tup)
def onRef (Qd : Addr → Hp → Prop) : VK := fun v H => match v with
  | .ref D => Qd D H
  | _ => False
section
variable {α : Type} [DecidableEq α] [Datum α] {J : It} {n : Nat} {G : Hp → Prop} {Y : Nat → Hp → V → Hp → Prop} {g : TG} {tt : TT} {te : TE} {tb : TS} {vs : List Nat} {σ : L2.St} {H1 : Hp} {Qd : Addr → Hp → Prop} {NX : L2.St → Hp → Prop} {RT : VK}
theorem c_map (w : Walk J n G Y) (xs : List α) (hn : xs.length = n) (hz : n ≤ 100000) (hG : ∀ H, Same H1 H → G H)
    (hs : ∀ (i : Nat) (x : V) (y : α) (H H' : Hp) (R : V → Hp → Prop) (N : Hp → Prop), i < n → xs[i]? = some y → Same H1 H → Y i H x H' → (∀ z H4, Same H H4 → Is H4 z y → R z H4) →
      g x (wipe σ vs) H' fun σ2 H2 => wipe σ2 vs = wipe σ vs ∧ tt σ2 H2 fun b H3 => if b = true then te σ2 H3 R else N H3)
    (hd : ∀ D H, H1 D = none → Same H1 H → Lis H D xs → Qd D H) :
    ∀ D, H1 D = none → ∃ W : Nat → Nat → Hp → Prop, (∃ m, W 0 m (upd H1 D (.lst []))) ∧ ∀ i m H, W i m H →
      (J.stop i H ∧ Qd D H) ∨ (J.go i H ∧ ∃ Nx : Hp → Prop, (∀ H', Nx H' → ∃ m', m' < m ∧ W (i + 1) m' H') ∧ ∀ x H', J.yld i H x H' → g x (wipe σ vs) H' fun σ2 H2 => wipe σ2 vs = wipe σ vs ∧ tt σ2 H2 fun b H3 =>
        if b = true then te σ2 H3 fun y H4 => ∃ acc, H4 D = some (.lst acc) ∧ acc.length < sizeLine ∧ Nx (upd H4 D (.lst (acc ++ [y]))) else Nx H3) := lc_map (Q := onRef Qd) w xs hn hz hG hs hd
theorem c_filter (w : Walk J n G Y) (xs : List α) (p : α → Bool) (hn : xs.length = n) (hz : n ≤ 100000) (hG : ∀ H, Same H1 H → G H)
    (hs : ∀ (i : Nat) (x : V) (y : α) (H H' : Hp) (R : V → Hp → Prop) (N : Hp → Prop), i < n → xs[i]? = some y → Same H1 H → Y i H x H' → (p y = true → ∀ z H4, Same H H4 → Is H4 z y → R z H4) → (p y = false → ∀ H4, Same H H4 → N H4) →
      g x (wipe σ vs) H' fun σ2 H2 => wipe σ2 vs = wipe σ vs ∧ tt σ2 H2 fun b H3 => if b = true then te σ2 H3 R else N H3)
    (hd : ∀ D H, H1 D = none → Same H1 H → Lis H D (xs.filter p) → Qd D H) :
    ∀ D, H1 D = none → ∃ W : Nat → Nat → Hp → Prop, (∃ m, W 0 m (upd H1 D (.lst []))) ∧ ∀ i m H, W i m H →
      (J.stop i H ∧ Qd D H) ∨ (J.go i H ∧ ∃ Nx : Hp → Prop, (∀ H', Nx H' → ∃ m', m' < m ∧ W (i + 1) m' H') ∧ ∀ x H', J.yld i H x H' → g x (wipe σ vs) H' fun σ2 H2 => wipe σ2 vs = wipe σ vs ∧ tt σ2 H2 fun b H3 =>
        if b = true then te σ2 H3 fun y H4 => ∃ acc, H4 D = some (.lst acc) ∧ acc.length < sizeLine ∧ Nx (upd H4 D (.lst (acc ++ [y]))) else Nx H3) := lc_filter (Q := onRef Qd) w xs p hn hz hG hs hd
theorem c_lists (w : Walk J n G Y) (xs : List (List α)) (hn : xs.length = n) (hz : n ≤ 100000) (hG : ∀ H, Same H1 H → G H)
    (hs : ∀ (i : Nat) (x : V) (y : List α) (H H' : Hp) (R : V → Hp → Prop) (N : Hp → Prop), i < n → xs[i]? = some y → Same H1 H → Y i H x H' → (∀ q H4, H q = none → Same H H4 → Lis H4 q y → R (.ref q) H4) →
      g x (wipe σ vs) H' fun σ2 H2 => wipe σ2 vs = wipe σ vs ∧ tt σ2 H2 fun b H3 => if b = true then te σ2 H3 R else N H3)
    (hd : ∀ D qs H, H1 D = none → Same H1 H → H D = some (.lst (qs.map V.ref)) → Lss H qs xs → qs.Nodup → (∀ q ∈ qs, H1 q = none ∧ q ≠ D) → Qd D H) :
    ∀ D, H1 D = none → ∃ W : Nat → Nat → Hp → Prop, (∃ m, W 0 m (upd H1 D (.lst []))) ∧ ∀ i m H, W i m H →
      (J.stop i H ∧ Qd D H) ∨ (J.go i H ∧ ∃ Nx : Hp → Prop, (∀ H', Nx H' → ∃ m', m' < m ∧ W (i + 1) m' H') ∧ ∀ x H', J.yld i H x H' → g x (wipe σ vs) H' fun σ2 H2 => wipe σ2 vs = wipe σ vs ∧ tt σ2 H2 fun b H3 =>
        if b = true then te σ2 H3 fun y H4 => ∃ acc, H4 D = some (.lst acc) ∧ acc.length < sizeLine ∧ Nx (upd H4 D (.lst (acc ++ [y]))) else Nx H3) := lc_lists (Q := onRef Qd) w xs hn hz hG hs hd
theorem c_for (w : Walk J n G Y) (Pv : Nat → L2.St → Hp → Prop) (h0 : Pv 0 σ H1) (hG : ∀ i σ H, i ≤ n → Pv i σ H → G H)
    (hs : ∀ i x σ H H', i < n → Pv i σ H → Y i H x H' → g x σ H' fun σ2 H2 => tb { nx := Pv (i + 1), rt := RT, ct := Pv (i + 1), bk := NX } σ2 H2) (hd : ∀ σ H, Pv n σ H → NX σ H) :
    ∃ W : Nat → Nat → L2.St → Hp → Prop, (∃ m, W 0 m σ H1) ∧ ∀ i m σ H, W i m σ H →
      (J.stop i H ∧ NX σ H) ∨ (J.go i H ∧ ∃ N : L2.St → Hp → Prop, (∀ σ' H', N σ' H' → ∃ m', m' < m ∧ W (i + 1) m' σ' H') ∧ ∀ x H', J.yld i H x H' → g x σ H' fun σ2 H2 => tb { nx := N, rt := RT, ct := N, bk := NX } σ2 H2) :=
  for_it (D := { nx := NX, rt := RT }) w Pv h0 hG hs hd
end
theorem walk_range0 {n : Nat} : Walk (Itr 0 n) n (fun _ => True) (YFn fun i => .int (i : Nat)) :=
  ⟨fun _ _ hi _ => hi, fun _ _ => Nat.le_refl _, fun i _ _ _ _ _ y => ⟨y.1, by have := y.2; rw [Int.zero_add] at this; exact this⟩⟩
/-- f'..' by name -/
def tJoin (ts : List TE) : TE := fun σ H Q => tJs ts Str.empty σ H fun out H1 => Q (V.str out) H1
theorem pe_joinN {X : Cx} {v1 v2 : Expr} {rest : List Expr} {ts : List TE} {pos : Pos} (h : PJ X (v1 :: v2 :: rest) ts) : PE X (.JoinedStr (v1 :: v2 :: rest) pos) (tJoin ts) := pe_joined h
section
/-! the rules with the written part's name as an argument: within a comprehension the rule's own X.K would carry what is bound there -/
variable {X : Cx} (K : PySem.W.Frag) (hK : X.K = K) {pos : Pos}
include hK
theorem pg_tupK (n : Nat) {es : List Expr} {k : Nat} {t : TGs} (hc : X.calm = true) (h : PGs X es t)
    (hn : (assignEach es X.env).length = n := by rfl) (hst : (assignEach es X.env).findIdx? (·.1) = none := by rfl) : PG X (.Tuple es k pos) (gTup K n t) := by
  subst hK
  exact pg_tup hc h hn hst
theorem ix_listK : IxR X (rIxL K) := by subst hK; exact ix_list
theorem ix_tupK : IxR X (rIxT K) := by subst hK; exact ix_tup
theorem ix_seqK : IxR X (rIx K) := by subst hK; exact ix_seq
theorem call_len_seqK : CallR X (.builtin "len") (fun xs H Q => ∃ p ys, xs = [.ref p] ∧ (SqL K H p ys ∨ SqT K H p ys) ∧ Q (.int ys.length) H) := by subst hK; exact call_len_seq
theorem op_in_seqK : OpR X (compareOp .In) (rIn K false) := by subst hK; exact op_in_seq
theorem op_notIn_seqK : OpR X (compareOp .NotIn) (rIn K true) := by subst hK; exact op_notIn_seq
theorem call_isiK : CallR X (.builtin "isinstance") (rIsi K) := by subst hK; exact call_isi
theorem call_tuple_ofK : CallR X (.type "tuple") (fun xs H Q => ∃ p ys, xs = [.ref p] ∧ ((SqL K H p ys ∧ ∀ l, H l = none → Q (.ref l) (upd H l (.tup ys))) ∨ (SqT K H p ys ∧ Q (.ref p) H))) := by subst hK; exact call_tuple_of
theorem sl_listK : SlR X (rSlL K) := by subst hK; exact sl_list
theorem sl_tupAK : SlR X (rSlA K) := by subst hK; exact sl_tupA
theorem pa_starK {e : Expr} {es : List Expr} {te : TE} {t : TA} {p : Pos} (he : PE X e te) (hr : PA X es t) (hs : starEach (.Starred e p :: es) X.env = (true, eval e X.env) :: starEach es X.env := by rfl) : PA X (.Starred e p :: es) (StX.tStar K te t) := by
  subst hK
  exact StX.pa_star he hr hs
theorem pi_listK {tg l : Expr} {tl : TE} (hl : PE X l tl) : PI X tg l (iList K tl) := by subst hK; exact pi_list hl
theorem pi_tupK {tg l : Expr} {tl : TE} (hl : PE X l tl) : PI X tg l (iTup K tl) := by subst hK; exact pi_tup hl
variable (α : Type) [DecidableEq α]
theorem op_eqXK [Datum α] (hu : X.A.units + 64 < cLine) (hd : Datum.depth α ≤ 60 := by decide) : OpR X (compareOp .Eq) (rEqX α K) := by subst hK; exact op_eqX α hu hd
theorem op_neXK [Datum α] (hu : X.A.units + 64 < cLine) (hd : Datum.depth α ≤ 60 := by decide) : OpR X (compareOp .NotEq) (rNeX α K) := by subst hK; exact op_neX α hu hd
theorem op_inXK [Datum α] (hu : X.A.units + 64 < cLine) (hd : Datum.depth α ≤ 60 := by decide) : OpR X (compareOp .In) (rInX α K) := by subst hK; exact op_inX α hu hd
theorem op_notInXK [Datum α] (hu : X.A.units + 64 < cLine) (hd : Datum.depth α ≤ 60 := by decide) : OpR X (compareOp .NotIn) (rNotInX α K) := by subst hK; exact op_notInX α hu hd
theorem op_ltXK [DatumOrd α] (hu : X.A.units + 64 < cLine) (hd : Datum.depth α ≤ 60 := by decide) : OpR X (compareOp .Lt) (rLtX α K) := by subst hK; exact op_ltX α hu hd
theorem op_leXK [DatumOrd α] (hu : X.A.units + 64 < cLine) (hd : Datum.depth α ≤ 60 := by decide) : OpR X (compareOp .LtE) (rLeX α K) := by subst hK; exact op_leX α hu hd
theorem cr_sortXK [DatumOrd α] (hso : ∀ xs : List α, PySem.W.Sortable (xs.map Datum.toD)) (hu : X.A.units + 64 < cLine) (hd : Datum.depth α ≤ 60 := by decide) : CallR X (.builtin "sorted") (rSortX α K) := by subst hK; exact cr_sortX α hso hu hd
end
end FT

/-! FD1: values and parties. -/
namespace FT
open PySem PySem.Spec PyProof.Rows L2
open PySem.W (Datum DatumOrd Tup)
/-- is_integer of a number; of what is no number is not asked -/
def spInt : Sp := fun vs H Q _ => ∃ i : Int, vs = [.int i] ∧ Q (.bl true) H
/-- check_people(n, most) where it raises nothing -/
def spCheckP : Sp := fun vs H Q _ => ∃ i m : Int, vs = [.int i, .int m] ∧ 0 ≤ i ∧ i ≤ m ∧ Q .non H
/-- is_tie of a tie -/
def spIsTie : Sp := fun vs H Q _ => ∃ (v : V) (p : Tie) (n : Int), vs = [v, .int n] ∧ Is H v p ∧ (0 ≤ p.1 ∧ p.1 < p.2 ∧ p.2 < n) ∧ ∀ H', Same H H' → Q (.bl true) H'
/-- wrong_tie of ties -/
def spWrong : Sp := fun vs H Q _ => ∃ (v : V) (n : Nat) (ps : List Tie), vs = [v, .int (n : Nat)] ∧ Is H v (Tup.mk ps) ∧ Ties n ps ∧ ps.length ≤ 100 ∧ ∀ H', Same H H' → Q (.int (-1)) H'
section
variable {P : Program} {w : World} {K : PySem.W.Frag} {mg : Str → Option Value} {base : Heap} {f : Addr} {fd : FuncData} {x qual : Str}
theorem ok_is_integer_v (T : Top K mg w) (F : FnP K x qual s_is_integer_v f fd) : FnOk P w K mg base CX0 1 f fd P_is_integer_v spInt :=
  fn_by F sc_is_integer_v (fun _ _ _ _ ⟨_, e, _⟩ => e ▸ rfl) fun cdv A outer s H vs Q E hr hsp => by
    obtain ⟨i, rfl, q⟩ := hsp
    refine ⟨_, pss_one (ps_ret (pe_and (pe_callB (call_isi) (by rfl) T.n_isinstance bt_isinstance (pa_cons (pv 0) (pa_cons (pe_bltn (v := .ty "int") (by rfl) T.n_int bt_int rfl) pa_nil))) (pe_one (pe_not (pe_callB (call_isi) (by rfl) T.n_isinstance bt_isinstance (pa_cons (pv 0) (pa_cons (pe_bltn (v := .ty "bool") (by rfl) T.n_bool bt_bool rfl) pa_nil))))))), ?_⟩
    exact ⟨_, rfl, _, _, _, _, _, rfl, .ty _, ty_int i, kit_ty k_int_int, true, rfl, _, rfl, _, _, _, _, _, rfl, .ty _, ty_int i, kit_ty k_int_bool, false, rfl, q⟩
theorem ok_check_people (T : Top K mg w) (c_is_integer_values : Cl P w K mg base 1 "is_integer_values" spInt) (F : FnP K x qual s_check_people f fd) : FnOk P w K mg base CX0 2 f fd P_check_people spCheckP :=
  fn_by F sc_check_people (fun _ _ _ _ ⟨_, _, e, _⟩ => e ▸ rfl) fun cdv A outer s H vs Q E hr hsp => by
    obtain ⟨i, m, rfl, h0, h1, q⟩ := hsp
    refine ⟨_, pss_cons (ps_if (PW.pt (pw_or (pt_not (pt_val (pe_cl c_is_integer_values hr (by decide) (by rfl) (pa_cons (pv 0) pa_nil)))) (pw_or1 (pt_cmpR (op_lt) (pv 0) (pe_int) (nomark _)))))
    (pss_one (ps_never))
    (pss_nil))
    (pss_one (ps_if (pt_cmpR (op_gt) (pv 0) (pv 1) (nomark _))
    (pss_one (ps_never))
    (pss_nil))), ?_⟩
    have e1 : decide (i < 0) = false := by simpa using h0
    have e2 : decide (m < i) = false := by simpa using h1
    refine ⟨_, rfl, i, rfl, _, rfl, _, rfl, _, _, rfl, rfl, _, rfl, ?_⟩
    rw [e1]
    refine ⟨_, rfl, _, rfl, _, _, rfl, rfl, _, rfl, ?_⟩
    rw [e2]
    exact q
theorem ok_is_tie (T : Top K mg w) (c_is_integer_values : Cl P w K mg base 1 "is_integer_values" spInt) (F : FnP K x qual s_is_tie f fd) : FnOk P w K mg base CX0 2 f fd P_is_tie spIsTie :=
  fn_by F sc_is_tie (fun _ _ _ _ ⟨_, _, _, e, _⟩ => e ▸ rfl) fun cdv A outer s H vs Q E hr hsp => by
    obtain ⟨v, p, n, rfl, hv, ⟨h0, h1, h2⟩, q⟩ := hsp
    obtain ⟨a, rfl, ea⟩ := of_tie hv
    refine ⟨_, pss_cons (ps_if (PW.pt (pw_or (pt_not (pt_val (pe_callB (call_isi) (by rfl) T.n_isinstance bt_isinstance (pa_cons (pv 0) (pa_cons (pe_bltn (v := .ty "tuple") (by rfl) T.n_tuple bt_tuple rfl) pa_nil))))) (pw_or (pt_cmpR (op_ne) (pe_callB (call_len_seq) (by rfl) T.n_len bt_len (pa_cons (pv 0) pa_nil)) (pe_int) (nomark _)) (pw_or1 (pt_not (pt_val (pe_callB (cr_all rfl) (by rfl) T.n_all bt_all (pa_cons (pe_lc (own := [("person", 2)]) rfl sc_is_tie.nd (pi_tup (pv 0)) (blkOk_by (own := [("person", 2)]) (N := N_is_tie) (sc := defScope s_is_tie) (by decide +kernel)) (fun _ _ _ _ _ => pg_name (i := 2) sc_is_tie.nd rfl (Or.inl rfl)) (fun _ _ _ _ _ => pts_nil) (fun _ _ _ _ _ => pe_cl c_is_integer_values hr (by decide) (by rfl) (pa_cons (pv 2) pa_nil))) pa_nil))))))))
    (pss_one (ps_ret (pe_bl)))
    (pss_nil))
    (pss_one (ps_ret (pe_chain3 (op_le) (op_lt) (op_lt) (pe_int) (pe_ix ix_tup (pv 0) (pe_int) (fun _ _ => rfl)) (pe_ix ix_tup (pv 0) (pe_int) (fun _ _ => rfl)) (pv 1)))), ?_⟩
    refine ⟨_, rfl, _, _, _, _, _, rfl, .ty _, ty_tup ea, kit_ty k_tup_tup, true, rfl, ?_⟩
    refine ⟨_, rfl, ⟨a, _, rfl, .inr (sqT ea), rfl, _, rfl, ?_⟩⟩
    refine ⟨_, rfl, a, rfl, ⟨_, sqT ea⟩, ?_⟩
    refine c_map (H1 := H) walk_tup [true, true] rfl (by show 2 ≤ 100000; decide) (fun H' sm => sqT (sm _ _ ea)) ?_ ?_
    · rintro i z b H' H'' R N hi hb sm ⟨rfl, hz⟩ hR
      have hb' : b = true := by
        have := List.mem_of_getElem? hb
        simpa using this
      subst hb'
      obtain ⟨m, rfl⟩ : ∃ m, z = .int m := by
        have := List.mem_of_getElem? hz
        rcases List.mem_cons.mp this with e | e
        · exact ⟨_, e⟩
        · exact ⟨_, by simpa using e⟩
      exact ⟨rfl, _, rfl, m, rfl, hR _ _ (fun _ _ h => h) (is_bl true)⟩
    · intro D H' hD sm hl
      refine ⟨D, _, rfl, hl.bls, _, rfl, ?_⟩
      have e' := sm _ _ ea
      have e1 : decide (0 ≤ p.1) = true := by simpa using h0
      have e2 : decide (p.1 < p.2) = true := by simpa using h1
      have e3 : decide (p.2 < n) = true := by simpa using h2
      refine ⟨_, rfl, a, _, 0, _, rfl, rfl, sqT e', rfl, _, _, rfl, rfl, _, rfl, ?_⟩
      rw [e1]
      refine ⟨_, rfl, a, _, 1, _, rfl, rfl, sqT e', rfl, _, _, rfl, rfl, _, rfl, ?_⟩
      rw [e2]
      refine ⟨_, rfl, _, _, rfl, rfl, ?_⟩
      show Q (.bl (decide (p.2 < n))) H'
      rw [e3]
      exact q _ sm
theorem asc_at {α : Type} [DecidableEq α] [DatumOrd α] {xs : List α} (h : Asc xs) {i j : Nat} {x y : α} (hij : i < j) (hx : xs[i]? = some x) (hy : xs[j]? = some y) : DatumOrd.lt x y = true := by
  obtain ⟨h1, e1⟩ := List.getElem?_eq_some_iff.mp hx
  obtain ⟨h2, e2⟩ := List.getElem?_eq_some_iff.mp hy
  rw [← e1, ← e2]
  exact List.pairwise_iff_getElem.mp h i j h1 h2 hij
theorem ok_wrong_tie (T : Top K mg w) (c_is_tie : Cl P w K mg base 2 "is_tie" spIsTie) (F : FnP K x qual s_wrong_tie f fd) : FnOk P w K mg base CX0 3 f fd P_wrong_tie spWrong :=
  fn_by F sc_wrong_tie (fun _ _ _ _ ⟨_, _, _, e, _⟩ => e ▸ rfl) fun cdv A outer s H vs Q E hr hsp => by
    obtain ⟨v, n, ps, rfl, hv, ht, hl, q⟩ := hsp
    obtain ⟨a, ws, rfl, ea, ar⟩ := of_tup hv
    refine ⟨_, pss_cons (ps_if (pt_not (pt_val (pe_callB (call_isi) (by rfl) T.n_isinstance bt_isinstance (pa_cons (pv 0) (pa_cons (pe_bltn (v := .ty "tuple") (by rfl) T.n_tuple bt_tuple rfl) pa_nil)))))
    (pss_one (ps_ret (pe_non)))
    (pss_nil))
    (pss_cons (ps_for PassesOwn.never rfl (pi_enumT (by rfl) T.n_enumerate (pa_cons (pv 0) pa_nil)) (pg_tup rfl (pgs_cons (pg_name (i := 2) sc_wrong_tie.nd rfl (Or.inl rfl)) (pgs_cons (pg_name (i := 3) sc_wrong_tie.nd rfl (Or.inl rfl)) pgs_nil)))
    (pss_one (ps_if (PW.pt (pw_or (pt_not (pt_val (pe_cl c_is_tie hr (by decide) (by rfl) (pa_cons (pv 3) (pa_cons (pv 1) pa_nil))))) (pw_or1 (PW.pt (pw_and (pt_cmpR (op_gt) (pv 2) (pe_int) (nomark _)) (pw_and1 (pt_cmpR (op_leX (Int × Int) hr.units) (pv 3) (pe_ix ix_tup (pv 0) (pe_op op_sub (pv 2) (pe_int)) (fun _ _ => rfl)) (nomark _))))))))
    (pss_one (ps_ret (pv 2)))
    (pss_nil))))
    (pss_one (ps_ret (pe_un un_neg (pe_int))))), ?_⟩
    refine ⟨_, rfl, _, _, _, _, _, rfl, .ty _, ty_tup ea, kit_ty k_tup_tup, true, rfl, ?_⟩
    refine ⟨_, rfl, a, ws, rfl, ea, ?_⟩
    refine c_for walk_enumT (fun i σ H' => Same H H' ∧ ∃ x y, σ = [some (.ref a), some (.int (n : Nat)), x, y]) ⟨fun _ _ h => h, _, _, rfl⟩ (fun _ _ _ _ h => h.1 _ _ ea) ?_ ?_
    · rintro i x σ H1 H2 hi ⟨sm, x0, y0, rfl⟩ ⟨T0, x', y', rfl, hT, rfl, e1, e2⟩
      cases e1
      have sm2 : Same H (upd H1 T0 (.tup [.int (i : Nat), y'])) := Same.mut sm (sm.free hT)
      have sm3 : Same H1 (upd H1 T0 (.tup [.int (i : Nat), y'])) := same_new hT
      obtain ⟨p, hp, ip⟩ := ar.at e2
      have ok := ht.ok p (List.mem_of_getElem? hp)
      refine ⟨T0, _, rfl, sqT upd_same, rfl, _, _, rfl, _, _, rfl, rfl, ?_⟩
      refine ⟨_, rfl, _, rfl, y', p, _, rfl, ip.mono (.of sm2), ok, fun H3 s3 => ⟨true, rfl, ?_⟩⟩
      have sm4 := sm2.trans s3
      refine ⟨_, rfl, _, _, rfl, rfl, _, rfl, ?_⟩
      by_cases c : (0 : Int) < (i : Nat)
      · have e0 : decide ((0 : Int) < (i : Nat)) = true := by simpa using c
        rw [e0]
        have hi1 : i - 1 < ws.length := by omega
        have hpi : ps[i - 1]? = some (ps[i - 1]'(by rw [← ar.length]; exact hi1)) := List.getElem?_eq_getElem _
        obtain ⟨z, hz, iz⟩ := ar.at' hpi
        refine ⟨_, rfl, _, rfl, _, rfl, _, _, rfl, rfl, a, ws, _, z, rfl, rfl, sqT (sm4 _ _ ea), ?_, p, _, (ip.mono (.of sm4)).dv, (iz.mono (.of sm4)).dv, _, rfl, ?_⟩
        · refine atI_int (by omega) ?_
          have : ((i : Nat) - 1 : Int).toNat = i - 1 := by omega
          rw [this]
          exact hz
        · rw [asc_at ht.asc (by omega) hpi hp]
          exact ⟨sm4, _, _, rfl⟩
      · have e0 : decide ((0 : Int) < (i : Nat)) = false := by simpa using c
        rw [e0]
        exact ⟨sm4, _, _, rfl⟩
    · rintro σ H' ⟨sm, x0, y0, rfl⟩
      exact ⟨1, rfl, q _ sm⟩
/-- a Party of n people with the ties ps -/
def Pty (K : PySem.W.Frag) (H : Hp) (v : V) (n : Nat) (ps : List Tie) : Prop := Ties n ps ∧ n ≤ 10 ∧ ∃ a dx t, v = .ref a ∧ H a = some (.ins (CP K) dx [("many", .int (n : Nat)), ("held", .ref t)]) ∧ Is H (.ref t) (Tup.mk ps)
theorem Pty.mono {K : PySem.W.Frag} {H H' : Hp} {v : V} {n : Nat} {ps : List Tie} (h : Pty K H v n ps) (s : Same H H') : Pty K H' v n ps := by
  obtain ⟨t, hn, a, dx, b, e, q, i⟩ := h
  exact ⟨t, hn, a, dx, b, e, s _ _ q, i.mono (.of s)⟩
/-- all but x stands -/
def SameX (H H' : Hp) (x : Addr) : Prop := ∀ b o, b ≠ x → H b = some o → H' b = some o
/-- Party.__init__ where it raises nothing -/
def spInit (K : PySem.W.Frag) : Sp := fun vs H Q _ => ∃ (a dx t : Addr) (n : Nat) (ps : List Tie), vs = [.ref a, .int (n : Nat), .ref t] ∧ H a = some (.ins (CP K) dx []) ∧ Is H (.ref t) (Tup.mk ps) ∧ Ties n ps ∧ n ≤ 10 ∧
  ∀ H', SameX H H' a → H' a = some (.ins (CP K) dx [("many", .int (n : Nat)), ("held", .ref t)]) → Q .non H'
theorem ok_party_init {dvs : List V} {kws : List (Str × V)} (T : Top K mg w) (c_check_people : Cl P w K mg base 2 "check_people" spCheckP) (c_wrong_tie : Cl P w K mg base 3 "wrong_tie" spWrong) (F : FunD K x qual (defArgs s_party_init) (defBody s_party_init) (defScope s_party_init) dvs kws f fd) :
    FnOk P w K mg base CX0 4 f fd P_party_init (spInit K) :=
  fn_by F sc_party_init (fun _ _ _ _ ⟨_, _, _, _, _, e, _⟩ => e ▸ rfl) fun cdv A outer s H vs Q E hr hsp => by
    obtain ⟨a, dx, t, n, ps, rfl, ea, it, ht, hn, q⟩ := hsp
    refine ⟨_, pss_cons (ps_expr (pe_cl c_check_people hr (by decide) (by rfl) (pa_cons (pv 1) (pa_cons (pe_gi (by rfl) T.m_MOST_PEOPLE) pa_nil))))
    (pss_cons (ps_set (i := 3) sc_party_init.nd rfl (Or.inl rfl) (pe_cl c_wrong_tie hr (by decide) (by rfl) (pa_cons (pv 2) (pa_cons (pv 1) pa_nil))))
    (pss_cons (ps_if (pt_cmpR (op_ne) (pv 3) (pe_un un_neg (pe_int)) (nomark _))
    (pss_one (ps_never))
    (pss_nil))
    (pss_cons (ps_fld (pv 0) (pv 1) rfl)
    (pss_one (ps_fld (pv 0) (pv 2) rfl))))), ?_⟩
    refine ⟨_, rfl, _, _, rfl, by omega, by omega, ?_⟩
    have hl := ht.len hn
    refine ⟨_, rfl, _, rfl, _, _, ps, rfl, it, ht, by omega, fun H1 s1 => ?_⟩
    refine ⟨_, rfl, _, rfl, rfl, _, rfl, ?_⟩
    refine ⟨_, rfl, _, rfl, a, _, dx, [], rfl, s1 _ _ ea, T.cl, T.a_many, by show 0 < 1000; decide, ?_⟩
    refine ⟨_, rfl, _, rfl, a, _, dx, _, rfl, upd_same, T.cl, T.a_held, by show 1 < 1000; decide, ?_⟩
    refine q _ (fun b o hb e => ?_) upd_same
    rw [upd_ne hb, upd_ne hb]
    exact s1 _ _ e
/-- Party(n, t): a new party -/
theorem spInit.make {K : PySem.W.Frag} {H : Hp} {Q : VK} {t : V} {n : Nat} {ps : List Tie} (it : Is H t (Tup.mk ps)) (ht : Ties n ps) (hn : n ≤ 10) (q : ∀ v H', Same H H' → Pty K H' v n ps → Q v H') :
    ∀ x dx, H x = none → H dx = none → dx ≠ x → spInit K [.ref x, .int (n : Nat), t] (upd (upd H dx (.own x)) x (.ins (CP K) dx [])) (fun v H2 => v = .non ∧ Q (.ref x) H2) E0 := by
  intro x dx hx hd hne
  obtain ⟨b, vs, rfl, eb, ar⟩ := of_tup it
  have k1 : Same H (upd (upd H dx (.own x)) x (.ins (CP K) dx [])) := Same.mut (same_new hd) hx
  refine ⟨x, dx, b, n, ps, rfl, upd_same, it.mono (.of k1), ht, hn, fun H' sx e => ⟨rfl, ?_⟩⟩
  have k2 : Same H H' := fun c o h => sx c o (ne_of_none h hx) (k1 c o h)
  exact q _ _ k2 ⟨ht, hn, x, dx, b, rfl, e, it.mono (.of k2)⟩
def spPeople (K : PySem.W.Frag) : Sp := fun vs H Q _ => ∃ (v : V) (n : Nat) (ps : List Tie), vs = [v] ∧ Pty K H v n ps ∧ Q (.int (n : Nat)) H
def spTies (K : PySem.W.Frag) : Sp := fun vs H Q _ => ∃ (v : V) (n : Nat) (ps : List Tie), vs = [v] ∧ Pty K H v n ps ∧ ∀ z, Is H z (Tup.mk ps) → Q z H
theorem ok_party_people (T : Top K mg w) (F : FnP K x qual s_party_people f fd) : FnOk P w K mg base CX0 1 f fd P_party_people (spPeople K) :=
  fn_by F sc_party_people (fun _ _ _ _ ⟨_, _, _, e, _⟩ => e ▸ rfl) fun cdv A outer s H vs Q E hr hsp => by
    obtain ⟨v, n, ps, rfl, ⟨_, _, a, dx, t, rfl, e, _⟩, q⟩ := hsp
    refine ⟨_, pss_one (ps_ret (pe_fld (pv 0) rfl)), ?_⟩
    exact ⟨_, rfl, a, _, dx, _, _, rfl, e, T.cl, T.a_many, rfl, q⟩
theorem ok_party_ties (T : Top K mg w) (F : FnP K x qual s_party_ties f fd) : FnOk P w K mg base CX0 1 f fd P_party_ties (spTies K) :=
  fn_by F sc_party_ties (fun _ _ _ _ ⟨_, _, _, e, _⟩ => e ▸ rfl) fun cdv A outer s H vs Q E hr hsp => by
    obtain ⟨v, n, ps, rfl, ⟨_, _, a, dx, t, rfl, e, it⟩, q⟩ := hsp
    refine ⟨_, pss_one (ps_ret (pe_fld (pv 0) rfl)), ?_⟩
    exact ⟨_, rfl, a, _, dx, _, _, rfl, e, T.cl, T.a_held, rfl, q _ it⟩
def spCheckParty (K : PySem.W.Frag) : Sp := fun vs H Q _ => ∃ (v : V) (n : Nat) (ps : List Tie), vs = [v] ∧ Pty K H v n ps ∧ Q .non H
theorem ok_check_party (T : Top K mg w) (F : FnP K x qual s_check_party f fd) : FnOk P w K mg base CX0 1 f fd P_check_party (spCheckParty K) :=
  fn_by F sc_check_party (fun _ _ _ _ ⟨_, _, _, e, _⟩ => e ▸ rfl) fun cdv A outer s H vs Q E hr hsp => by
    obtain ⟨v, n, ps, rfl, ⟨_, _, a, dx, t, rfl, e, it⟩, q⟩ := hsp
    refine ⟨_, pss_one (ps_if (pt_not (pt_val (pe_callB (C8.call_isC T.isC) (by rfl) T.n_isinstance bt_isinstance (pa_cons (pv 0) (pa_cons (pe_glob (v := .ref (CP K)) (by rfl) T.m_Party rfl) pa_nil)))))
    (pss_one (ps_never))
    (pss_nil)), ?_⟩
    exact ⟨_, rfl, a, dx, _, rfl, e, true, rfl, q⟩
def spStr (K : PySem.W.Frag) : Sp := fun vs H Q _ => ∃ (v : V) (n : Nat) (ps : List Tie), vs = [v] ∧ Pty K H v n ps ∧ ∀ H', Same H H' → Q (.str (line n ps)) H'
theorem str_num (n : Nat) : Str.ofString (toString ((n : Nat) : Int)) = SX.S (TL.numL n) := SX.num_S n
theorem empty_cat (x : Str) : Str.empty ++ x = x := by
  have h := SX.S_cat [] x.cps.toList
  rw [SX.S_tl, List.nil_append, SX.S_tl] at h
  exact h
theorem log_small {i : Int} (h0 : 0 ≤ i) (h : i < 100) : i.natAbs.log2 < 1920 := by
  have : i.natAbs < 2 ^ 7 := by omega
  by_cases z : i.natAbs = 0
  · rw [z]
    decide
  · have := (Nat.log2_lt z).mpr this
    omega
theorem sz_le {n : Nat} (h : n ≤ 100000) : n ≤ sizeLine := Nat.le_of_lt (sz_lt h)
theorem str_int {i : Int} (h : 0 ≤ i) : Str.ofString (toString i) = SX.S (TL.numL i.toNat) := by
  have e : i = ((i.toNat : Nat) : Int) := by omega
  rw [e]
  exact SX.num_S i.toNat
theorem S_col : Str.ofString ":" = SX.S [58] := rfl
theorem S_hyp : Str.ofString "-" = SX.S [45] := rfl
theorem S_spc : Str.ofString " " = SX.S [32] := rfl
theorem tie_str {p : Tie} (h0 : 0 ≤ p.1) (h1 : 0 ≤ p.2) : Str.ofString (toString p.1) ++ Str.ofString "-" ++ Str.ofString (toString p.2) = SX.S (tieL p) := by
  rw [str_int h0, str_int h1, S_hyp, SX.S_cat, SX.S_cat, List.append_assoc]
  rfl
theorem head_str (n : Nat) : Str.ofString (toString ((n : Nat) : Int)) ++ Str.ofString ":" = SX.S (headL n) := by
  rw [SX.num_S, S_col, SX.S_cat]
  rfl
theorem sum_map_le {α : Type} (f : α → Nat) (c : Nat) : ∀ l : List α, (∀ x ∈ l, f x ≤ c) → (l.map f).sum ≤ l.length * c
  | [], _ => Nat.zero_le _
  | x :: l, h => by
    have q := sum_map_le f c l fun y hy => h y (List.mem_cons_of_mem _ hy)
    have r := h x List.mem_cons_self
    rw [List.map_cons, List.sum_cons, List.length_cons, Nat.add_mul, Nat.one_mul]
    omega
/-- the texts of a line joined -/
theorem join_ok {n : Nat} {ps : List Tie} (hn : n ≤ 10) (t : Ties n ps) : ((SX.S (headL n) :: ps.map fun p => SX.S (tieL p)).map fun x => x.length).sum + (SX.S (headL n) :: ps.map fun p => SX.S (tieL p)).length * (SX.S [32]).length ≤ 16777216 := by
  have hl := t.len hn
  have a := (num_len2 (n := n) (by omega)).2
  have q := sum_map_le (fun x : Str => x.length) 3 (SX.S (headL n) :: ps.map fun p => SX.S (tieL p)) fun x hx => by
    rcases List.mem_cons.mp hx with e | e
    · rw [e, SX.S_len]
      unfold headL
      rw [List.length_append, List.length_singleton]
      omega
    · obtain ⟨p, hp, rfl⟩ := List.mem_map.mp e
      rw [SX.S_len, tie_len hn (t.ok p hp)]
      exact Nat.le_refl _
  have e : (SX.S [32]).length = 1 := rfl
  rw [e]
  rw [List.length_cons, List.length_map] at *
  omega
theorem ok_party_str (T : Top K mg w) (F : FnP K x qual s_party_str f fd) : FnOk P w K mg base CX0 1 f fd P_party_str (spStr K) :=
  fn_by F sc_party_str (fun _ _ _ _ ⟨_, _, _, e, _⟩ => e ▸ rfl) fun cdv A outer s H vs Q E hr hsp => by
    obtain ⟨v, n, ps, rfl, ⟨ht, hn, a, dx, t, rfl, e, it⟩, q⟩ := hsp
    obtain ⟨b, ws, eb, eb2, ar⟩ := of_tup it
    cases eb
    refine ⟨_, pss_one (ps_ret (pe_join (pe_str) (pe_lst (pa_cons (pe_joinN (PJ.cons (pe_fmt (pe_fld (pv 0) rfl)) (PJ.cons (pe_str) PJ.nil))) (StX.pa_star (pe_lc (own := [("one", 1), ("other", 2)]) rfl sc_party_str.nd (pi_tup (pe_fld (pv 0) rfl)) (blkOk_by (own := [("one", 1), ("other", 2)]) (N := N_party_str) (sc := defScope s_party_str) (by decide +kernel)) (fun _ _ _ _ _ => pg_tupK K rfl 2 rfl (pgs_cons (pg_name (i := 1) sc_party_str.nd rfl (Or.inl rfl)) (pgs_cons (pg_name (i := 2) sc_party_str.nd rfl (Or.inl rfl)) pgs_nil))) (fun _ _ _ _ _ => pts_nil) (fun _ _ _ _ _ => pe_joinN (PJ.cons (pe_fmt (pv 1)) (PJ.cons (pe_str) (PJ.cons (pe_fmt (pv 2)) PJ.nil))))) pa_nil))))), ?_⟩
    have hl := ht.len hn
    have a2 := (num_len2 (n := n) (by omega)).2
    have k1 : (Str.empty ++ Str.ofString (toString ((n : Nat) : Int))).length ≤ sizeLine := by
      rw [empty_cat, SX.num_S, SX.S_len]
      exact sz_le (by omega)
    have k2 : (Str.empty ++ Str.ofString (toString ((n : Nat) : Int)) ++ Str.ofString ":").length ≤ sizeLine := by
      rw [empty_cat, head_str, SX.S_len]
      unfold headL
      rw [List.length_append, List.length_singleton]
      exact sz_le (by omega)
    refine ⟨⟨_, rfl⟩, ?_⟩
    refine ⟨_, rfl, a, _, dx, _, _, rfl, e, T.cl, T.a_many, rfl, .inr ⟨_, rfl, log_small (by omega) (by omega), _, rfl, k1, _, rfl, k2, ?_⟩⟩
    refine ⟨_, rfl, a, _, dx, _, _, rfl, e, T.cl, T.a_held, rfl, t, rfl, ⟨_, sqT eb2⟩, ?_⟩
    refine c_map (H1 := H) walk_tup (ps.map fun p => SX.S (tieL p)) (by rw [List.length_map, ar.length]) (by rw [ar.length]; show ps.length ≤ _; omega) (fun H' sm => sqT (sm _ _ eb2)) ?_ ?_
    · rintro i z y H' H'' R N hi hy sm ⟨rfl, hz⟩ hR
      obtain ⟨p, hp, ip⟩ := ar.at hz
      have ey : y = SX.S (tieL p) := by
        rw [List.getElem?_map, hp] at hy
        exact (Option.some.inj hy).symm
      subst ey
      obtain ⟨c, rfl, ec⟩ := of_tie ip
      have ok := ht.ok p (List.mem_of_getElem? hp)
      have l3 := tie_len hn ok
      have j1 : (Str.empty ++ Str.ofString (toString p.1)).length ≤ sizeLine := by
        rw [empty_cat, str_int ok.1, SX.S_len, num1 (by omega)]
        exact sz_le (by show 1 ≤ 100000; decide)
      have j2 : (Str.empty ++ Str.ofString (toString p.1) ++ Str.ofString "-").length ≤ sizeLine := by
        rw [empty_cat, str_int ok.1, S_hyp, SX.S_cat, SX.S_len, num1 (by omega)]
        exact sz_le (by show 2 ≤ 100000; decide)
      have j3 : (Str.empty ++ Str.ofString (toString p.1) ++ Str.ofString "-" ++ Str.ofString (toString p.2)).length ≤ sizeLine := by
        rw [empty_cat, tie_str ok.1 (by omega), SX.S_len, l3]
        exact sz_le (by decide)
      refine ⟨c, _, rfl, sqT (sm _ _ ec), rfl, _, _, rfl, _, _, rfl, rfl, ?_⟩
      refine ⟨rfl, _, rfl, .inr ⟨_, rfl, log_small ok.1 (by omega), _, rfl, j1, _, rfl, j2, _, rfl, .inr ⟨_, rfl, log_small (by omega) (by omega), _, rfl, j3, ?_⟩⟩⟩
      refine hR _ _ (fun _ _ h => h) ?_
      rw [empty_cat, tie_str ok.1 (by omega)]
      exact is_str _
    · intro D H' hD sm hL
      refine ⟨D, _, rfl, .inr (sqL hL.strs), ?_⟩
      refine ⟨?_, fun p hp => ?_⟩
      · rw [List.length_cons, List.append_nil, List.length_map, List.length_map]
        exact sz_le (by omega)
      · have er : V.str (Str.empty ++ Str.ofString (toString ((n : Nat) : Int)) ++ Str.ofString ":") :: ((ps.map fun p => SX.S (tieL p)).map V.str ++ []) = (SX.S (headL n) :: ps.map fun p => SX.S (tieL p)).map V.str := by
          rw [empty_cat, head_str, List.append_nil]
          rfl
        refine ⟨_, p, _, rfl, rfl, .inl (sqL (upd_same.trans (congrArg _ (congrArg _ er)))), join_ok hn ht, ?_⟩
        rw [S_spc, join_line]
        exact q _ (Same.mut sm (sm.free hp))
end
end FT

/-! FD2: near_of. -/
namespace FT
open PySem PySem.Spec PyProof.Rows L2
open PySem.W (Datum DatumOrd Tup)
/-- the list at p of lists -/
def Lls {α : Type} [DecidableEq α] [Datum α] (H : Hp) (p : Addr) (xss : List (List α)) : Prop := ∃ qs : List Addr, H p = some (.lst (qs.map V.ref)) ∧ Lss H qs xss
theorem Lls.mono {α : Type} [DecidableEq α] [Datum α] {H H' : Hp} {p : Addr} {xss : List (List α)} (h : Lls H p xss) (s : Same H H') : Lls H' p xss := by
  obtain ⟨qs, e, l⟩ := h
  exact ⟨qs, s _ _ e, l.mono s⟩
section
variable {α : Type} [DecidableEq α] [Datum α] {H : Hp}
/-- a store into a list that is none of these -/
theorem Lss.off {qs : List Addr} {xss : List (List α)} {q : Addr} {vs ws : List V} (h : Lss H qs xss) (e : H q = some (.lst vs)) (n : q ∉ qs) : Lss (upd H q (.lst ws)) qs xss := by
  induction h with
  | nil => exact .nil
  | cons h1 _ ih =>
    rename_i r _ _ _ _
    have hr : r ≠ q := fun z => n (by rw [← z]; exact List.mem_cons_self)
    exact .cons (h1.monoT (SameT.lst e) fun us eu => by rw [upd_ne hr]; exact eu) (ih fun m => n (List.mem_cons_of_mem _ m))
/-- a store into the i-th of these -/
theorem Lss.put {q : Addr} {vs ws : List V} {x : List α} (e : H q = some (.lst vs)) (ha : Are H ws x) : ∀ {qs : List Addr} {xss : List (List α)} {i : Nat}, Lss H qs xss → qs.Nodup → qs[i]? = some q → Lss (upd H q (.lst ws)) qs (xss.set i x)
  | [], _, _, _, _, hi => by simp at hi
  | r :: qs, _, 0, .cons h1 t, nd, hi => by
    have er : r = q := Option.some.inj (show some r = some q from hi)
    subst er
    exact .cons ⟨ws, upd_same, ha.mono (SameT.lst e)⟩ (t.off e (List.nodup_cons.mp nd).1)
  | r :: qs, _, i + 1, .cons h1 t, nd, hi => by
    have hi' : qs[i]? = some q := hi
    have hr : r ≠ q := fun z => (List.nodup_cons.mp nd).1 (by rw [z]; exact List.mem_of_getElem? hi')
    exact .cons (h1.monoT (SameT.lst e) fun us eu => by rw [upd_ne hr]; exact eu) (Lss.put e ha t (List.nodup_cons.mp nd).2 hi')
end
theorem map_ref_get {qs : List Addr} {i : Nat} {v : V} (h : (qs.map V.ref)[i]? = some v) : ∃ q, v = .ref q ∧ qs[i]? = some q := by
  rw [List.getElem?_map] at h
  obtain ⟨q, h1, h2⟩ := Option.map_eq_some_iff.mp h
  exact ⟨q, h2.symm, h1⟩
theorem push_eq (ns : List (List Int)) (i : Nat) (y : Int) : push ns i y = ns.set i (row ns i ++ [y]) := rfl
/-- near_of -/
def spNear : Sp := fun vs H Q _ => ∃ (v : V) (n : Nat) (ps : List Tie), vs = [.int (n : Nat), v] ∧ Is H v (Tup.mk ps) ∧ Ties n ps ∧ n ≤ 10 ∧ ∀ p H', Same H H' → Lls H' p (nearL n ps) → Q (.ref p) H'
section
variable {P : Program} {w : World} {K : PySem.W.Frag} {mg : Str → Option Value} {base : Heap} {f : Addr} {fd : FuncData} {x qual : Str}
theorem row_append {H : Hp} {qs : List Addr} {ns : List (List Int)} {i : Nat} {y : Int} {q : Addr} {vs : List V} (h : Lss H qs ns) (nd : qs.Nodup) (hi : qs[i]? = some q) (e : H q = some (.lst vs)) : Lss (upd H q (.lst (vs ++ [.int y]))) qs (push ns i y) ∧ vs.length = (row ns i).length := by
  obtain ⟨z, hz, ⟨us, eu, ar⟩⟩ := h.at hi
  have ev : us = vs := by
    rw [e] at eu
    cases eu
    rfl
  subst ev
  have er : row ns i = z := row_of hz
  rw [push_eq, er]
  exact ⟨h.put e (ar.append (Are.one (is_int y))) nd hi, ar.length⟩
theorem foldl_len (l : List Tie) : ∀ ns : List (List Int), (l.foldl nstep ns).length = ns.length := by
  induction l with
  | nil => intro _; rfl
  | cons p l ih =>
    intro ns
    rw [List.foldl_cons, ih]
    unfold nstep
    rw [push_len, push_len]
theorem row_push_len (ns : List (List Int)) (i j : Nat) (y : Int) : (row (push ns i y) j).length ≤ (row ns j).length + 1 := by
  by_cases h : i < ns.length
  · rw [row_push h]
    by_cases c : i = j
    · subst c
      rw [if_pos rfl, List.length_append, List.length_singleton]
      exact Nat.le_refl _
    · rw [if_neg c]
      omega
  · unfold push
    rw [List.set_eq_of_length_le (by omega)]
    omega
theorem fold_row_len (l : List Tie) : ∀ (ns : List (List Int)) (j : Nat), (row (l.foldl nstep ns) j).length ≤ (row ns j).length + 2 * l.length := by
  induction l with
  | nil => intro ns j; exact Nat.le_add_right _ _
  | cons p l ih =>
    intro ns j
    rw [List.foldl_cons]
    have a := ih (nstep ns p) j
    have b := row_push_len (push ns p.1.toNat p.2) p.2.toNat j p.1
    have c := row_push_len ns p.1.toNat j p.2
    have e : nstep ns p = push (push ns p.1.toNat p.2) p.2.toNat p.1 := rfl
    rw [← e] at b
    rw [List.length_cons]
    omega
theorem ok_near_of (T : Top K mg w) (F : FnP K x qual s_near_of f fd) : FnOk P w K mg base CX0 1 f fd P_near_of spNear :=
  fn_by F sc_near_of (fun _ _ _ _ ⟨_, _, _, e, _⟩ => e ▸ rfl) fun cdv A outer s H vs Q E hr hsp => by
    obtain ⟨v, n, ps, rfl, hv, ht, hn, q⟩ := hsp
    obtain ⟨b, ws, rfl, eb, ar⟩ := of_tup hv
    have hl := ht.len hn
    refine ⟨_, pss_cons (ps_setLc (i := 2) (own := [("person", 5)]) rfl sc_near_of.nd rfl rfl (sw_true rfl rfl rfl (by decide +kernel)) (pi_range1 (by rfl) T.n_range (pa_cons (pv 0) pa_nil)) (blkOk_by (own := [("person", 5)]) (N := N_near_of) (sc := defScope s_near_of) (by decide +kernel)) (fun _ _ _ _ _ => pg_name (i := 5) sc_near_of.nd rfl (Or.inl rfl)) (fun _ _ _ _ _ => pts_nil) (fun _ _ _ _ _ => pe_lst pa_nil))
    (pss_cons (ps_for PassesOwn.never rfl (pi_tup (pv 1)) (pg_tup rfl (pgs_cons (pg_name (i := 3) sc_near_of.nd rfl (Or.inl rfl)) (pgs_cons (pg_name (i := 4) sc_near_of.nd rfl (Or.inl rfl)) pgs_nil)))
    (pss_cons (ps_expr (pe_bm PySem.F.plainAttrs_list PySem.F.slot_list_append PySem.F.type_list_append mt_append (pe_ix ix_list (pv 2) (pv 3) (fun _ _ => rfl)) (pa_cons (pv 4) pa_nil)))
    (pss_one (ps_expr (pe_bm PySem.F.plainAttrs_list PySem.F.slot_list_append PySem.F.type_list_append mt_append (pe_ix ix_list (pv 2) (pv 4) (fun _ _ => rfl)) (pa_cons (pv 3) pa_nil))))))
    (pss_one (ps_ret (pe_lc (own := [("row", 6)]) rfl sc_near_of.nd (pi_list (pv 2)) (blkOk_by (own := [("row", 6)]) (N := N_near_of) (sc := defScope s_near_of) (by decide +kernel)) (fun _ _ _ _ _ => pg_name (i := 6) sc_near_of.nd rfl (Or.inl rfl)) (fun _ _ _ _ _ => pts_nil) (fun _ _ _ _ _ => pe_callB (cr_sortXK K rfl Int sortable_int hr.units) (by rfl) T.n_sorted bt_sorted (pa_cons (pv 6) pa_nil)))))), ?_⟩
    refine ⟨_, rfl, _, rfl, by omega, by omega, ?_⟩
    refine c_lists (H1 := H) (α := Int) walk_range (List.replicate n []) (by rw [List.length_replicate]; rfl) (by show n ≤ 100000; omega) (fun _ _ => trivial) ?_ ?_
    · rintro i z y H1 H2 R N hi hy sm ⟨rfl, rfl⟩ hR
      have ey : y = [] := by
        have := List.mem_of_getElem? hy
        exact List.eq_of_mem_replicate this
      subst ey
      exact ⟨rfl, Nat.zero_le _, fun p hp => hR p _ hp (same_new hp) ⟨[], upd_same, Are.nil⟩⟩
    · intro D qs H1 hD sm eD ls nd fr
      have nr := near_fold ht
      have e0 : (List.replicate n []) = ((ps.take 0).foldl nstep (List.replicate n [])) := rfl
      refine ⟨_, rfl, b, rfl, ⟨ws, sqT (sm _ _ eb)⟩, ?_⟩
      refine c_for walk_tup (fun i σ H' => Same H H' ∧ H' D = some (.lst (qs.map V.ref)) ∧ Lss H' qs ((ps.take i).foldl nstep (List.replicate n [])) ∧ ∃ x0 y0, σ = [some (.int (n : Nat)), some (.ref b), some (.ref D), x0, y0, none, none]) ⟨sm, eD, ls, _, _, rfl⟩ (fun _ _ _ _ h => sqT (h.1 _ _ eb)) ?_ ?_
      · rintro i z σ H3 H2 hi ⟨s2, eD2, ls2, x0, y0, rfl⟩ ⟨rfl, hz⟩
        obtain ⟨p, hp, ip⟩ := ar.at hz
        obtain ⟨c, rfl, ec⟩ := of_tie ip
        have hm : p ∈ ps := List.mem_of_getElem? hp
        have ok := ht.ok p hm
        have hlq : qs.length = n := by
          have := ls2.length
          rw [foldl_len, List.length_replicate] at this
          exact this
        have g1 : qs[p.1.toNat]? = some (qs[p.1.toNat]'(by omega)) := List.getElem?_eq_getElem _
        have g2 : qs[p.2.toNat]? = some (qs[p.2.toNat]'(by omega)) := List.getElem?_eq_getElem _
        generalize hq1 : qs[p.1.toNat]'(by omega) = q1 at g1
        generalize hq2 : qs[p.2.toNat]'(by omega) = q2 at g2
        obtain ⟨z1, _, us1, e1, a1⟩ := ls2.at g1
        obtain ⟨l1, k1⟩ := row_append (y := p.2) ls2 nd g1 e1
        have b1 := fold_row_len (ps.take i) (List.replicate n []) p.1.toNat
        have b2 := fold_row_len (ps.take i) (List.replicate n []) p.2.toNat
        have br : ∀ j, row (List.replicate n ([] : List Int)) j = [] := fun j => by
          unfold row
          rw [List.getD_eq_getElem?_getD, List.getElem?_replicate]
          split <;> rfl
        rw [br, List.length_nil, List.length_take] at b1 b2
        have d1 := fr q1 (List.mem_of_getElem? g1)
        have d2 := fr q2 (List.mem_of_getElem? g2)
        have n1 : D ≠ q1 := fun z => d1.2 z.symm
        have n2 : D ≠ q2 := fun z => d2.2 z.symm
        have s3 : Same H (upd H2 q1 (.lst (us1 ++ [.int p.2]))) := Same.mut s2 d1.1
        have eD3 : (upd H2 q1 (.lst (us1 ++ [.int p.2]))) D = some (.lst (qs.map V.ref)) := by rw [upd_ne n1]; exact eD2
        obtain ⟨z2, _, us2, e2, a2⟩ := l1.at g2
        obtain ⟨l2, k2⟩ := row_append (y := p.1) l1 nd g2 e2
        have b3 := row_push_len ((ps.take i).foldl nstep (List.replicate n [])) p.1.toNat p.2.toNat p.2
        have f1 : (qs.map V.ref)[p.1.toNat]? = some (.ref q1) := by rw [List.getElem?_map, g1]; rfl
        have f2 : (qs.map V.ref)[p.2.toNat]? = some (.ref q2) := by rw [List.getElem?_map, g2]; rfl
        refine ⟨c, _, rfl, sqT (s2 _ _ ec), rfl, _, _, rfl, _, _, rfl, rfl, ?_⟩
        refine ⟨_, rfl, _, rfl, D, _, _, _, rfl, rfl, sqL eD2, atI_int ok.1 f1, .inl ⟨rfl, _, sqL e1⟩, ?_⟩
        refine ⟨_, rfl, q1, us1, _, rfl, rfl, e1, sz_lt (by omega), ?_⟩
        refine ⟨_, rfl, _, rfl, D, _, _, _, rfl, rfl, sqL eD3, atI_int (by omega) f2, .inl ⟨rfl, _, sqL e2⟩, ?_⟩
        refine ⟨_, rfl, q2, us2, _, rfl, rfl, e2, sz_lt (by omega), ?_⟩
        refine ⟨Same.mut s3 d2.1, by rw [upd_ne n2]; exact eD3, ?_, _, _, rfl⟩
        rw [List.take_add_one, hp, List.foldl_append]
        exact l2
      · rintro σ H2 ⟨s2, eD2, ls2, x0, y0, rfl⟩
        have hlen : ws.length = ps.length := ar.length
        rw [hlen, List.take_of_length_le (Nat.le_refl _)] at ls2
        have hlq : qs.length = n := by
          have := ls2.length
          rw [foldl_len, List.length_replicate] at this
          exact this
        refine ⟨_, rfl, D, rfl, ⟨_, sqL eD2⟩, ?_⟩
        refine c_lists (H1 := H2) (α := Int) walk_list (nearL n ps) (by unfold nearL; rw [List.length_map, foldl_len, List.length_replicate, List.length_map, hlq]) (by rw [List.length_map, hlq]; omega) (fun H3 s3 => sqL (s3 _ _ eD2)) ?_ ?_
        · rintro i z y H3' H3 R N hi hy s3 ⟨rfl, hz⟩ hR
          obtain ⟨r, rfl, hr'⟩ := map_ref_get hz
          obtain ⟨zs, hzs, us, eu, au⟩ := (ls2.mono s3).at hr'
          have ey : y = zs.mergeSort leX := by
            unfold nearL at hy
            rw [List.getElem?_map, hzs] at hy
            exact (Option.some.inj hy).symm
          subst ey
          exact ⟨rfl, _, rfl, r, us, zs, rfl, sqL eu, au, fun p' ws' hp' aw => hR _ _ hp' (same_new hp') ⟨ws', upd_same, aw.mono (SameT.new hp')⟩⟩
        · intro D2 qs2 H3 hD2 s3 e3 l3 _ _
          exact q _ _ (s2.trans s3) ⟨qs2, e3, l3⟩
end
end FT

/-! FD3: renaming_from, renaming_of. -/
namespace FT
open PySem PySem.Spec PyProof.Rows L2
open PySem.W (Datum DatumOrd Tup)
/-- nothing, or a tuple of ints -/
def OptI (H : Hp) (v : V) : Option (List Int) → Prop
  | none => v = .non
  | some r => Is H v (Tup.mk r)
theorem take_pre {r w : List Int} {x : Int} (e : r.take (w.length + 1) = w ++ [x]) : r.take w.length = w := by
  have h := congrArg (List.take w.length) e
  rw [List.take_take, Nat.min_eq_left (Nat.le_succ _), List.take_append_of_le_length (Nat.le_refl _), List.take_of_length_le (Nat.le_refl _)] at h
  exact h
/-- a renaming that begins with w, x: x passes every test -/
theorem ext_ok {n : Nat} {ps qs : List Tie} {ns os : List (List Int)} {r w : List Int} {x : Nat} (N : Near n ps ns) (O : Near n qs os) (t : Ties n ps) (u : Ties n qs) (p : PermN n r) (f : Fits n ps qs r) (hw : w.length < n) (e : r.take (w.length + 1) = w ++ [(x : Int)]) :
    ((x : Int) ∉ w) ∧ (row os x).length = (row ns w.length).length ∧ (∀ i, i < w.length → (adj ps (w.length : Nat) (i : Nat) ↔ adj qs (x : Int) (nth w i))) := by
  obtain ⟨y, hy, a, b, c, d⟩ := next_ok N O t u p f hw (take_pre e)
  rw [e] at d
  have exy : (x : Int) = y := by
    have := List.append_inj_right d rfl
    simpa using this
  have : x = y := by omega
  subst this
  exact ⟨a, b, c⟩
/-- the tests of a name -/
def tests (ns os : List (List Int)) (w : List Int) (x : Nat) : List Bool := (List.range w.length).map fun (k : Nat) => decide (V.bl (decide ((k : Int) ∈ row ns w.length)) = V.bl (decide (nth w k ∈ row os x)))
theorem tests_all {n : Nat} {ps qs : List Tie} {ns os : List (List Int)} {w : List Int} {x : Nat} (N : Near n ps ns) (O : Near n qs os) (hw : w.length < n) (hx : x < n) :
    ((tests ns os w x).all id = true) ↔ ∀ i, i < w.length → (adj ps (w.length : Nat) (i : Nat) ↔ adj qs (x : Int) (nth w i)) := by
  unfold tests
  rw [List.all_map, List.all_eq_true]
  constructor
  · intro h i hi
    have := h i (List.mem_range.mpr hi)
    simp only [Function.comp, id, decide_eq_true_eq, V.bl.injEq, decide_eq_decide] at this
    rw [← N.mem w.length hw, ← O.mem x hx]
    exact this
  · intro h i hi
    have := h i (List.mem_range.mp hi)
    rw [← N.mem w.length hw, ← O.mem x hx] at this
    simp only [Function.comp, id, decide_eq_true_eq, V.bl.injEq, decide_eq_decide]
    exact this
def spRF (M : Nat) : Sp := fun vs H Q _ => ∃ (a b : Addr) (v : V) (n : Nat) (ps qs : List Tie) (ns os : List (List Int)) (r : List Int), vs = [.ref a, .ref b, v] ∧ Lls H a ns ∧ Lls H b os ∧ Is H v (Tup.mk r) ∧
  (Near n ps ns ∧ Near n qs os ∧ Ties n ps ∧ Ties n qs ∧ Part n ps qs r ∧ n ≤ 10 ∧ n < r.length + M) ∧ ∀ v' H' res, Same H H' → RF n ps qs r res → OptI H' v' res → Q v' H'
section
variable {P : Program} {w : World} {K : PySem.W.Frag} {mg : Str → Option Value} {base : Heap} {f : Addr} {fd : FuncData} {x qual : Str}
theorem Lss.row {H : Hp} {qs : List Addr} {ns : List (List Int)} {i : Nat} (h : Lss H qs ns) (hi : i < ns.length) : ∃ q, (qs.map V.ref)[i]? = some (.ref q) ∧ H q = some (.lst ((row ns i).map V.int)) := by
  obtain ⟨q, hq, l⟩ := h.at' (row_get hi)
  exact ⟨q, by rw [List.getElem?_map, hq]; rfl, l.ints⟩
theorem ok_RF (T : Top K mg w) (mk : ∀ k sp, FnOk P w K mg base CX0 k f fd P_renaming_from sp → Cl P w K mg base k "renaming_from" sp) (F : FnP K x qual s_renaming_from f fd) : ∀ M, FnOk P w K mg base CX0 (M + 1) f fd P_renaming_from (spRF M) := by
  intro M
  induction M with
  | zero =>
    exact fn_by F sc_renaming_from (fun _ _ _ _ ⟨_, _, _, _, _, _, _, _, _, e, _⟩ => e ▸ rfl) fun cdv A outer s H vs Q E hr hsp => by
      obtain ⟨_, _, _, _, _, _, _, _, _, _, _, _, _, ⟨_, _, _, _, p, _, h⟩, _⟩ := hsp
      have := p.len
      omega
  | succ M ih =>
    have c_renaming_from := mk _ _ ih
    exact fn_by F sc_renaming_from (fun _ _ _ _ ⟨_, _, _, _, _, _, _, _, _, e, _⟩ => e ▸ rfl) fun cdv A outer s H vs Q E hr hsp => by
      obtain ⟨a, b, v, n, ps, qs, ns, os, r, rfl, ⟨as, ea, la⟩, ⟨bs, eb, lb⟩, iv, ⟨N, O, t, u, p, hn, hM⟩, q⟩ := hsp
      obtain ⟨c, rfl, ec⟩ := of_tupI iv
      have hpl := p.len
      have hal : as.length = n := by rw [la.length, N.len]
      have hbl : bs.length = n := by rw [lb.length, O.len]
      refine ⟨_, pss_cons (ps_if (pt_cmpR (op_eq) (pe_callB (call_len_seq) (by rfl) T.n_len bt_len (pa_cons (pv 2) pa_nil)) (pe_callB (call_len_seq) (by rfl) T.n_len bt_len (pa_cons (pv 0) pa_nil)) (nomark _))
    (pss_one (ps_ret (pv 2)))
    (pss_nil))
    (pss_cons (ps_set (i := 3) sc_renaming_from.nd rfl (Or.inr rfl) (pe_callB (call_len_seq) (by rfl) T.n_len bt_len (pa_cons (pv 2) pa_nil)))
    (pss_cons (ps_for PassesOwn.never rfl (pi_range1 (by rfl) T.n_range (pa_cons (pe_callB (call_len_seq) (by rfl) T.n_len bt_len (pa_cons (pv 1) pa_nil)) pa_nil)) (pg_name (i := 4) sc_renaming_from.nd rfl (Or.inr rfl))
    (pss_one (ps_if (PW.pt (pw_and (pt_cmpR (op_notIn_seq) (pv 4) (pv 2) (by rfl)) (pw_and1 (pt_cmpR (op_eq) (pe_callB (call_len_seq) (by rfl) T.n_len bt_len (pa_cons (pe_ix ix_list (pv 1) (pv 4) (fun _ _ => rfl)) pa_nil)) (pe_callB (call_len_seq) (by rfl) T.n_len bt_len (pa_cons (pe_ix ix_list (pv 0) (pv 3) (fun _ _ => rfl)) pa_nil)) (nomark _)))))
    (pss_one (ps_if (pt_val (pe_callB (cr_all rfl) (by rfl) T.n_all bt_all (pa_cons (pe_lc (own := [("known", 6)]) rfl sc_renaming_from.nd (pi_range1 (by rfl) T.n_range (pa_cons (pv 3) pa_nil)) (blkOk_by (own := [("known", 6)]) (N := N_renaming_from) (sc := defScope s_renaming_from) (by decide +kernel)) (fun _ _ _ _ _ => pg_name (i := 6) sc_renaming_from.nd rfl (Or.inl rfl)) (fun _ _ _ _ _ => pts_nil) (fun _ _ _ _ _ => pe_cmpR (op_eq) (pe_cmpR ((op_in_seqK K rfl)) (pv 6) (pe_ix (ix_listK K rfl) (pv 0) (pv 3) (fun _ _ => rfl)) (by rfl)) (pe_cmpR ((op_in_seqK K rfl)) (pe_ix (ix_tupK K rfl) (pv 2) (pv 6) (fun _ _ => rfl)) (pe_ix (ix_listK K rfl) (pv 1) (pv 4) (fun _ _ => rfl)) (by rfl)) (nomark _))) pa_nil)))
    (pss_cons (ps_set (i := 5) sc_renaming_from.nd rfl (Or.inl rfl) (pe_cl c_renaming_from hr (Nat.le_refl _) (by rfl) (pa_cons (pv 0) (pa_cons (pv 1) (pa_cons (pe_tup (StX.pa_star (pv 2) (pa_cons (pv 4) pa_nil))) pa_nil)))))
    (pss_one (ps_if (pt_cmpR (op_notN) (pv 5) (pe_non) (nomark _))
    (pss_one (ps_ret (pv 5)))
    (pss_nil))))
    (pss_nil)))
    (pss_nil))))
    (pss_one (ps_ret (pe_non))))), ?_⟩
      refine ⟨_, rfl, c, _, rfl, .inr (sqT ec), _, rfl, a, _, rfl, .inl (sqL ea), rfl, _, rfl, ?_⟩
      rw [List.length_map, List.length_map, hal, dec_int]
      by_cases hfull : r.length = n
      · rw [hfull, show (((n : Nat) : Int) == ((n : Nat) : Int)) = true from by simp]
        exact ⟨_, rfl, q _ _ (some r) (fun _ _ h => h) (p.full hfull) iv⟩
      · rw [show (((r.length : Nat) : Int) == ((n : Nat) : Int)) = false from by simp; omega]
        have hlt : r.length < n := by omega
        refine ⟨_, rfl, c, _, rfl, .inr (sqT ec), ?_⟩
        rw [List.length_map]
        refine ⟨_, rfl, b, _, rfl, .inl (sqL eb), _, rfl, ?_⟩
        rw [List.length_map, hbl]
        refine ⟨by omega, by omega, ?_⟩
        refine c_for walk_range0 (fun i σ H' => Same H H' ∧ (∀ y : Nat, y < i → ∀ r', PermN n r' → Fits n ps qs r' → r'.take (r.length + 1) ≠ r ++ [(y : Int)]) ∧ ∃ x0 y0, σ = [some (.ref a), some (.ref b), some (.ref c), some (.int (r.length : Nat)), x0, y0, none])
          ⟨fun _ _ h => h, fun _ h => absurd h (Nat.not_lt_zero _), _, _, rfl⟩ (fun _ _ _ _ _ => trivial) ?_ ?_
        · rintro i z σ H2 H1 hi ⟨sm, none_, x0, y0, rfl⟩ ⟨rfl, rfl⟩
          have hi' : i < n := by
            rw [Int.toNat_natCast] at hi
            exact hi
          have next : (∀ r', PermN n r' → Fits n ps qs r' → r'.take (r.length + 1) ≠ r ++ [(i : Int)]) → ∀ y : Nat, y < i + 1 → ∀ r', PermN n r' → Fits n ps qs r' → r'.take (r.length + 1) ≠ r ++ [(y : Int)] := fun h y hy => by
            by_cases c : y = i
            · rw [c]
              exact h
            · exact none_ y (by omega)
          have ea1 := sm _ _ ea
          have eb1 := sm _ _ eb
          have ec1 := sm _ _ ec
          obtain ⟨qo, go, eo⟩ := (lb.mono sm).row (i := i) (by rw [O.len]; exact hi')
          obtain ⟨qn, gn, en⟩ := (la.mono sm).row (i := r.length) (by rw [N.len]; exact hlt)
          refine ⟨_, rfl, _, rfl, c, _, rfl, .inr (sqT ec1), rfl, flat_ints _, _, rfl, ?_⟩
          simp only [if_true, inV_int]
          by_cases hin : (i : Int) ∈ r
          · rw [decide_eq_true hin]
            refine ⟨sm, next fun r' p' f' e => (ext_ok N O t u p' f' hlt e).1 hin, _, _, rfl⟩
          · rw [decide_eq_false hin]
            refine ⟨_, rfl, _, rfl, b, _, _, _, rfl, rfl, sqL eb1, atI_nat go, qo, _, rfl, .inl (sqL eo), ?_⟩
            refine ⟨_, rfl, _, rfl, a, _, _, _, rfl, rfl, sqL ea1, atI_nat gn, qn, _, rfl, .inl (sqL en), rfl, _, rfl, ?_⟩
            simp only [List.length_map, dec_int]
            by_cases hd : (row os i).length = (row ns r.length).length
            · rw [hd, show ((((row ns r.length).length : Nat) : Int) == (((row ns r.length).length : Nat) : Int)) = true from by simp]
              refine ⟨_, rfl, _, rfl, by omega, by omega, ?_⟩
              refine c_map (H1 := H1) walk_range0 (tests ns os r i) (by unfold tests; rw [List.length_map, List.length_range, Int.toNat_natCast]) (by rw [Int.toNat_natCast]; omega) (fun _ _ => trivial) ?_ ?_
              · rintro k z y H4 H3 R N' hk hy s3 ⟨rfl, rfl⟩ hR
                have hk' : k < r.length := by
                  rw [Int.toNat_natCast] at hk
                  exact hk
                have ey : y = decide (V.bl (decide ((k : Int) ∈ row ns r.length)) = V.bl (decide (nth r k ∈ row os i))) := by
                  unfold tests at hy
                  rw [List.getElem?_map, List.getElem?_range hk'] at hy
                  exact (Option.some.inj hy).symm
                subst ey
                refine ⟨rfl, _, rfl, _, rfl, _, rfl, a, _, _, _, rfl, rfl, sqL (s3 _ _ ea1), atI_nat gn, qn, _, rfl, .inl (sqL (s3 _ _ en)), rfl, flat_ints _, ?_⟩
                refine ⟨_, rfl, _, rfl, c, _, _, .int (nth r k), rfl, rfl, sqT (s3 _ _ ec1), atI_nat (by rw [List.getElem?_map, nth_get hk']; rfl), ?_⟩
                refine ⟨_, rfl, _, rfl, b, _, _, _, rfl, rfl, sqL (s3 _ _ eb1), atI_nat go, qo, _, rfl, .inl (sqL (s3 _ _ eo)), rfl, flat_ints _, rfl, ?_⟩
                simp only [Bool.false_eq_true, if_false, inV_int]
                exact hR _ _ (fun _ _ h => h) (is_bl _)
              · intro D H3 hD s3 hL
                refine ⟨D, _, rfl, hL.bls, _, rfl, ?_⟩
                have s4 := sm.trans s3
                cases hall : (tests ns os r i).all id with
                | false =>
                  refine ⟨s4, next fun r' p' f' e => ?_, _, _, rfl⟩
                  have := (tests_all N O hlt hi').mpr (ext_ok N O t u p' f' hlt e).2.2
                  rw [hall] at this
                  cases this
                | true =>
                  have hstep := p.step hlt (x := (i : Int)) (by omega) (by omega) hin ((tests_all N O hlt hi').mp hall)
                  refine ⟨_, rfl, _, rfl, _, rfl, c, _, rfl, .inl (sqT (s4 _ _ ec)), _, rfl, by rw [List.length_append, List.length_map]; exact sz_le (by show r.length + 1 ≤ 100000; omega), fun g hg => ?_⟩
                  have s5 := s4.trans (same_new (o := .tup (r.map V.int ++ [.int (i : Int)])) hg)
                  refine ⟨a, b, _, n, ps, qs, ns, os, r ++ [(i : Int)], rfl, Lls.mono ⟨as, ea, la⟩ s5, Lls.mono ⟨bs, eb, lb⟩ s5, is_tupI (upd_same.trans (by rw [List.map_append]; rfl)), ⟨N, O, t, u, hstep, hn, by rw [List.length_append, List.length_singleton]; omega⟩, fun v' H4 res s6 hRF ho => ?_⟩
                  have s7 := s5.trans s6
                  cases res with
                  | none =>
                    have ev : v' = .non := ho
                    subst ev
                    refine ⟨_, rfl, rfl, _, rfl, ?_⟩
                    refine ⟨s7, next fun r' p' f' e => ?_, _, _, rfl⟩
                    refine hRF r' p' f' ?_
                    rw [List.length_append, List.length_singleton]
                    exact e
                  | some r' =>
                    obtain ⟨g', ev, _⟩ := of_tupI ho
                    refine ⟨_, rfl, rfl, true, by rw [ev]; rfl, ?_⟩
                    exact ⟨_, rfl, q _ _ (some r') s7 hRF ho⟩
            · rw [show ((((row os i).length : Nat) : Int) == (((row ns r.length).length : Nat) : Int)) = false from by simp; omega]
              exact ⟨sm, next fun r' p' f' e => hd (ext_ok N O t u p' f' hlt e).2.1, _, _, rfl⟩
        · rintro σ H1 ⟨sm, none_, x0, y0, rfl⟩
          refine q _ _ none sm (fun r' p' f' e => ?_) rfl
          obtain ⟨y, hy, _, _, _, d⟩ := next_ok N O t u p' f' hlt e
          exact none_ y (by rw [Int.toNat_natCast]; exact hy) r' p' f' d
end
end FT

/-! FD4: renaming_of, renamed, orders_of, shape_of (searching). -/
namespace FT
open PySem PySem.Spec PyProof.Rows L2
open PySem.W (Datum DatumOrd Tup)
/-- the answer to: is qs ps renamed? -/
def AL (n : Nat) (ps qs : List Tie) : Option (List Int) → Prop
  | none => ∀ r, PermN n r → ren ps r ≠ qs
  | some r => PermN n r ∧ ren ps r = qs
theorem RF.al {n : Nat} {ps qs : List Tie} (t : Ties n ps) (u : Ties n qs) {res : Option (List Int)} (h : RF n ps qs [] res) : AL n ps qs res := by
  cases res with
  | none => exact fun r p e => h r p ((ren_iff t u p).mp e) rfl
  | some r => exact ⟨h.1, (ren_iff t u h.1).mpr h.2⟩
def spRenOf : Sp := fun vs H Q _ => ∃ (n : Nat) (u v : V) (ps qs : List Tie), vs = [.int (n : Nat), u, v] ∧ Is H u (Tup.mk ps) ∧ Is H v (Tup.mk qs) ∧ (Ties n ps ∧ Ties n qs ∧ n ≤ 10) ∧ ∀ v' H' res, Same H H' → AL n ps qs res → OptI H' v' res → Q v' H'
/-- row names the people -/
def spRenS : Sp := fun vs H Q _ => ∃ (u v : V) (n : Nat) (ps : List Tie) (r : List Int), vs = [u, v] ∧ Is H u (Tup.mk ps) ∧ Is H v (Tup.mk r) ∧ (Ties n ps ∧ PermN n r ∧ n ≤ 10) ∧ ∀ v' H', Same H H' → Is H' v' (Tup.mk (ren ps r)) → Q v' H'
theorem leX_int (x y : Int) : leX x y = !decide (y < x) := rfl
theorem sort_two (x y : Int) : [x, y].mergeSort leX = [mnI x y, mxI x y] := by
  have two : ∀ a b : Int, a ≤ b → [a, b].mergeSort leX = [a, b] := fun a b h => by
    refine List.mergeSort_of_pairwise ?_
    refine List.pairwise_cons.mpr ⟨fun z hz => ?_, List.pairwise_singleton _ _⟩
    have : z = b := by simpa using hz
    rw [this, leX_int]
    simp
    exact h
  by_cases h : x ≤ y
  · rw [two x y h]
    unfold mnI mxI
    rw [if_neg (by omega)]
    by_cases e : y > x
    · rw [if_pos e]
    · rw [if_neg e]
      have : x = y := by omega
      rw [this]
  · unfold mnI mxI
    rw [if_pos (by omega), if_neg (by omega)]
    have nd1 : [x, y].Nodup := by
      rw [List.nodup_cons]
      refine ⟨fun m => ?_, by simp⟩
      have : x = y := by simpa using m
      omega
    refine asc_ext lin_int (asc_sort lin_int nd1) ?_ fun a => ?_
    · refine List.pairwise_cons.mpr ⟨fun z hz => ?_, List.pairwise_singleton _ _⟩
      have : z = x := by simpa using hz
      rw [this, lt_int]
      simp
      omega
    · rw [mem_sort]
      simp [or_comm]
section
variable {P : Program} {w : World} {K : PySem.W.Frag} {mg : Str → Option Value} {base : Heap} {f : Addr} {fd : FuncData} {x qual : Str}
theorem ok_renaming_of (T : Top K mg w) (c_renaming_from : Cl P w K mg base 12 "renaming_from" (spRF 11)) (c_near_of : Cl P w K mg base 1 "near_of" spNear) (F : FnP K x qual s_renaming_of f fd) : FnOk P w K mg base CX0 13 f fd P_renaming_of spRenOf :=
  fn_by F sc_renaming_of (fun _ _ _ _ ⟨_, _, _, _, _, e, _⟩ => e ▸ rfl) fun cdv A outer s H vs Q E hr hsp => by
    obtain ⟨n, u, v, ps, qs, rfl, iu, iv, ⟨tp, tq, hn⟩, q⟩ := hsp
    obtain ⟨b, us, rfl, eb, ar⟩ := of_tup iu
    obtain ⟨c, ws, rfl, ec, cr⟩ := of_tup iv
    have l1 : us.length = ps.length := ar.length
    have l2 : ws.length = qs.length := cr.length
    refine ⟨_, pss_cons (ps_if (pt_cmpR (op_ne) (pe_callB (call_len_seq) (by rfl) T.n_len bt_len (pa_cons (pv 1) pa_nil)) (pe_callB (call_len_seq) (by rfl) T.n_len bt_len (pa_cons (pv 2) pa_nil)) (nomark _))
    (pss_one (ps_ret (pe_non)))
    (pss_nil))
    (pss_one (ps_ret (pe_cl c_renaming_from hr (by decide) (by rfl) (pa_cons (pe_cl c_near_of hr (by decide) (by rfl) (pa_cons (pv 0) (pa_cons (pv 1) pa_nil))) (pa_cons (pe_cl c_near_of hr (by decide) (by rfl) (pa_cons (pv 0) (pa_cons (pv 2) pa_nil))) (pa_cons (pe_tup pa_nil) pa_nil)))))), ?_⟩
    refine ⟨_, rfl, b, _, rfl, .inr (sqT eb), _, rfl, c, _, rfl, .inr (sqT ec), rfl, _, rfl, ?_⟩
    rw [l1, l2, dec_int]
    by_cases hl : ps.length = qs.length
    · rw [hl, show (!(((qs.length : Nat) : Int) == ((qs.length : Nat) : Int))) = false from by simp]
      refine ⟨_, rfl, _, rfl, _, n, ps, rfl, iu, tp, hn, fun p1 H1 s1 L1 => ?_⟩
      refine ⟨_, rfl, _, rfl, _, n, qs, rfl, iv.mono (.of s1), tq, hn, fun p2 H2 s2 L2 => ?_⟩
      refine ⟨Nat.zero_le _, fun g hg => ?_⟩
      have s3 := same_new (o := .tup []) hg
      exact ⟨p1, p2, _, n, ps, qs, _, _, [], rfl, (L1.mono s2).mono s3, L2.mono s3, is_tupI upd_same, ⟨nearL_ok tp, nearL_ok tq, tp, tq, part_nil, hn, by show n < 0 + 11; omega⟩, fun v' H3 res s4 hRF ho => q v' H3 res (((s1.trans s2).trans s3).trans s4) (hRF.al tp tq) ho⟩
    · rw [show (!(((ps.length : Nat) : Int) == ((qs.length : Nat) : Int))) = true from by simp; omega]
      exact q _ _ none (fun _ _ h => h) (fun r p e => hl (by rw [← e, ren_len])) rfl
theorem ok_renamed_s (T : Top K mg w) (F : FnP K x qual s_renamed_s f fd) : FnOk P w K mg base CX0 1 f fd P_renamed_s spRenS :=
  fn_by F sc_renamed_s (fun _ _ _ _ ⟨_, _, _, _, _, e, _⟩ => e ▸ rfl) fun cdv A outer s H vs Q E hr hsp => by
    obtain ⟨u, v, n, ps, r, rfl, iu, iv, ⟨t, p, hn⟩, q⟩ := hsp
    obtain ⟨b, us, rfl, eb, ar⟩ := of_tup iu
    obtain ⟨c, rfl, ec⟩ := of_tupI iv
    have l1 : us.length = ps.length := ar.length
    have hl := t.len hn
    refine ⟨_, pss_one (ps_ret (pe_callTy (call_tuple_of) (by rfl) T.n_tuple bt_tuple (pa_cons (pe_callB (cr_sortX (Int × Int) sortable_pair hr.units) (by rfl) T.n_sorted bt_sorted (pa_cons (pe_lc (own := [("one", 2), ("other", 3)]) rfl sc_renamed_s.nd (pi_tup (pv 0)) (blkOk_by (own := [("one", 2), ("other", 3)]) (N := N_renamed_s) (sc := defScope s_renamed_s) (by decide +kernel)) (fun _ _ _ _ _ => pg_tupK K rfl 2 rfl (pgs_cons (pg_name (i := 2) sc_renamed_s.nd rfl (Or.inl rfl)) (pgs_cons (pg_name (i := 3) sc_renamed_s.nd rfl (Or.inl rfl)) pgs_nil))) (fun _ _ _ _ _ => pts_nil) (fun _ _ _ _ _ => pe_callTy ((call_tuple_ofK K rfl)) (by rfl) T.n_tuple bt_tuple (pa_cons (pe_callB (cr_sortXK K rfl Int sortable_int hr.units) (by rfl) T.n_sorted bt_sorted (pa_cons (pe_lst (pa_cons (pe_ix (ix_tupK K rfl) (pv 1) (pv 2) (fun _ _ => rfl)) (pa_cons (pe_ix (ix_tupK K rfl) (pv 1) (pv 3) (fun _ _ => rfl)) pa_nil))) pa_nil)) pa_nil))) pa_nil)) pa_nil))), ?_⟩
    refine ⟨_, rfl, b, rfl, ⟨us, sqT eb⟩, ?_⟩
    refine c_map (H1 := H) walk_tup (ps.map (tieOf r)) (by rw [List.length_map, l1]) (by rw [l1]; omega) (fun H' sm => sqT (sm _ _ eb)) ?_ ?_
    · rintro i z y H1' H1 R N hi hy sm ⟨rfl, hz⟩ hR
      obtain ⟨p0, hp, ip⟩ := ar.at hz
      have ey : y = tieOf r p0 := by
        rw [List.getElem?_map, show ps[i]? = some p0 from hp] at hy
        exact (Option.some.inj hy).symm
      subst ey
      obtain ⟨d, rfl, ed⟩ := of_tie ip
      obtain ⟨i0, j0, rfl, hij, hj⟩ := t.nat (List.mem_of_getElem? hp)
      have g1 : (r.map V.int)[i0]? = some (.int (nth r i0)) := by rw [List.getElem?_map, nth_get (by rw [p.len]; omega)]; rfl
      have g2 : (r.map V.int)[j0]? = some (.int (nth r j0)) := by rw [List.getElem?_map, nth_get (by rw [p.len]; omega)]; rfl
      have ec1 := sm _ _ ec
      refine ⟨d, _, rfl, sqT (sm _ _ ed), rfl, _, _, rfl, _, _, rfl, rfl, ?_⟩
      refine ⟨rfl, _, rfl, _, rfl, c, _, _, _, rfl, rfl, sqT ec1, atI_nat g1, _, rfl, _, rfl, c, _, _, _, rfl, rfl, sqT ec1, atI_nat g2, sz_le (by show 2 ≤ 100000; decide), fun m hm => ?_⟩
      refine ⟨m, _, [nth r i0, nth r j0], rfl, sqL upd_same, are_ints [nth r i0, nth r j0], fun m2 ws hm2 aw => ?_⟩
      have ew := of_ints aw
      rw [sort_two] at ew
      have s2 := (same_new (o := .lst [.int (nth r i0), .int (nth r j0)]) hm)
      refine ⟨m2, ws, rfl, .inl ⟨sqL upd_same, fun m3 hm3 => ?_⟩⟩
      refine hR _ _ ((s2.trans (same_new hm2)).trans (same_new hm3)) ?_
      rw [tieOf_nat]
      subst ew
      exact is_tie upd_same
    · intro D H1 hD sm hL
      obtain ⟨vs1, e1, a1⟩ := hL
      refine ⟨D, vs1, _, rfl, sqL e1, a1, fun m ws hm aw => ?_⟩
      refine ⟨m, ws, rfl, .inl ⟨sqL upd_same, fun m2 hm2 => ?_⟩⟩
      have s2 := same_new (o := .lst ws) hm
      refine q _ _ ((sm.trans s2).trans (same_new hm2)) (is_tup upd_same ?_)
      exact aw.mono (.of (s2.trans (same_new hm2)))
end
end FT

/-! FD5: orders_of, shape_of (searching). -/
namespace FT
open PySem PySem.Spec PyProof.Rows L2
open PySem.W (Datum DatumOrd Tup)
theorem fact_pos : ∀ n, 1 ≤ fact n
  | 0 => Nat.le_refl _
  | n + 1 => Nat.le_trans (fact_pos n) (Nat.le_mul_of_pos_left _ (Nat.succ_pos _))
theorem fact_mono {n m : Nat} (h : n ≤ m) : fact n ≤ fact m := by
  induction h with
  | refl => exact Nat.le_refl _
  | step _ ih => exact Nat.le_trans ih (Nat.le_mul_of_pos_left _ (Nat.succ_pos _))
theorem fact_small {n : Nat} (h : n ≤ 6) : fact n ≤ 720 := fact_mono h
/-- the orders of xs, as tuples -/
def spOS (M : Nat) : Sp := fun vs H Q _ => ∃ (a : Addr) (xs : List Int), vs = [.ref a] ∧ Lis H a xs ∧ xs.length ≤ 6 ∧ xs.length < M ∧
  ∀ (p : Addr) (H' : Hp) (rs : List (List Int)), Same H H' → Lis H' p (rs.map Tup.mk) → (∀ r : List Int, r ∈ rs ↔ r.Perm xs) → rs.length = fact xs.length → Q (.ref p) H'
/-- those that begin with one of the first i -/
def Firsts (xs : List Int) (i : Nat) (r : List Int) : Prop := ∃ j x r', j < i ∧ xs[j]? = some x ∧ r = x :: r' ∧ r'.Perm (xs.eraseIdx j)
theorem firsts_all {xs r : List Int} (h : xs ≠ []) : Firsts xs xs.length r ↔ r.Perm xs := by
  rw [perm_pick]
  constructor
  · rintro ⟨j, x, r', _, a, b, c⟩
    exact .inr ⟨j, x, r', a, b, c⟩
  · rintro (⟨_, e⟩ | ⟨j, x, r', a, b, c⟩)
    · exact absurd e h
    · exact ⟨j, x, r', (List.getElem?_eq_some_iff.mp a).1, a, b, c⟩
theorem firsts_step {xs r : List Int} {i : Nat} {x : Int} (hx : xs[i]? = some x) : Firsts xs (i + 1) r ↔ Firsts xs i r ∨ ∃ r', r = x :: r' ∧ r'.Perm (xs.eraseIdx i) := by
  constructor
  · rintro ⟨j, y, r', hj, a, b, c⟩
    by_cases e : j = i
    · subst e
      rw [hx] at a
      cases a
      exact .inr ⟨r', b, c⟩
    · exact .inl ⟨j, y, r', by omega, a, b, c⟩
  · rintro (⟨j, y, r', hj, a, b, c⟩ | ⟨r', b, c⟩)
    · exact ⟨j, y, r', by omega, a, b, c⟩
    · exact ⟨i, x, r', Nat.lt_succ_self _, hx, b, c⟩
theorem of_nil_list {H : Hp} {a : Addr} {xs : List Int} (h : Lis H a xs) : ∃ vs, H a = some (.lst vs) ∧ Are H vs xs ∧ vs = xs.map V.int := by
  obtain ⟨vs, e, t⟩ := h
  exact ⟨vs, e, t, of_ints t⟩
section
variable {P : Program} {w : World} {K : PySem.W.Frag} {mg : Str → Option Value} {base : Heap} {f : Addr} {fd : FuncData} {x qual : Str}
theorem ok_OS (T : Top K mg w) (mk : ∀ k sp, FnOk P w K mg base CX0 k f fd P_orders_of_s sp → Cl P w K mg base k "orders_of_searching" sp) (F : FnP K x qual s_orders_of_s f fd) : ∀ M, FnOk P w K mg base CX0 (M + 1) f fd P_orders_of_s (spOS M) := by
  intro M
  induction M with
  | zero =>
    exact fn_by F sc_orders_of_s (fun _ _ _ _ ⟨_, _, e, _⟩ => e ▸ rfl) fun cdv A outer s H vs Q E hr hsp => by
      obtain ⟨_, _, _, _, _, h, _⟩ := hsp
      exact absurd h (Nat.not_lt_zero _)
  | succ M ih =>
    have c_orders_of_searching := mk _ _ ih
    exact fn_by F sc_orders_of_s (fun _ _ _ _ ⟨_, _, e, _⟩ => e ▸ rfl) fun cdv A outer s H vs Q E hr hsp => by
      obtain ⟨a, xs, rfl, lx, h6, hM, q⟩ := hsp
      have ea := lx.ints
      refine ⟨_, pss_cons (ps_if (pt_cmpR (op_eqX (List Int) hr.units) (pv 0) (pe_lst pa_nil) (nomark _))
    (pss_one (ps_ret (pe_lst (pa_cons (pe_tup pa_nil) pa_nil))))
    (pss_nil))
    (pss_cons (ps_set (i := 1) sc_orders_of_s.nd rfl (Or.inl rfl) (pe_lst pa_nil))
    (pss_cons (ps_for PassesOwn.never rfl (pi_enum (by rfl) T.n_enumerate (pa_cons (pv 0) pa_nil)) (pg_tup rfl (pgs_cons (pg_name (i := 2) sc_orders_of_s.nd rfl (Or.inl rfl)) (pgs_cons (pg_name (i := 3) sc_orders_of_s.nd rfl (Or.inr rfl)) pgs_nil)))
    (pss_one (ps_expr (pe_bm PySem.F.plainAttrs_list PySem.F.slot_list_extend PySem.F.type_list_extend mt_extend (pv 1) (pa_cons (pe_lc (own := [("rest", 4)]) rfl sc_orders_of_s.nd (pi_list (pe_cl c_orders_of_searching hr (Nat.le_refl _) (by rfl) (pa_cons (pe_op op_cat (pe_slice sl_list (pv 0) (po_none) (po_some (pv 2))) (pe_slice sl_list (pv 0) (po_some (pe_op op_add (pv 2) (pe_int))) (po_none))) pa_nil))) (blkOk_by (own := [("rest", 4)]) (N := N_orders_of_s) (sc := defScope s_orders_of_s) (by decide +kernel)) (fun _ _ _ _ _ => pg_name (i := 4) sc_orders_of_s.nd rfl (Or.inl rfl)) (fun _ _ _ _ _ => pts_nil) (fun _ _ _ _ _ => pe_tup (pa_cons (pv 3) (pa_starK K rfl (pv 4) pa_nil)))) pa_nil)))))
    (pss_one (ps_ret (pv 1))))), ?_⟩
      refine ⟨_, rfl, Nat.zero_le _, fun p0 hp0 => ?_⟩
      have s0 := same_new (o := .lst []) hp0
      refine ⟨xs, [], (lx.mono s0).dv, (show Lis _ p0 ([] : List Int) from ⟨[], upd_same, Are.nil⟩).dv, _, rfl, ?_⟩
      by_cases hnil : xs = []
      · rw [decide_eq_true hnil]
        refine ⟨Nat.zero_le _, fun p1 hp1 => ⟨sz_le (by show 1 ≤ 100000; decide), fun p2 hp2 => ?_⟩⟩
        have s1 := same_new (o := .tup []) hp1
        have s2 := same_new (o := .lst [.ref p1]) hp2
        refine q p2 _ [[]] ((s0.trans s1).trans s2) ⟨_, upd_same, Are.one (is_tup (s2 _ _ upd_same) Are.nil)⟩ (fun r => ?_) (by rw [hnil]; rfl)
        rw [hnil, List.perm_nil]
        simp
      · rw [decide_eq_false hnil]
        refine ⟨Nat.zero_le _, fun D hD => ?_⟩
        have sD := s0.trans (same_new (o := .lst []) hD)
        have hDH : H D = none := s0.free hD
        refine ⟨_, rfl, a, _, rfl, sqL (sD _ _ ea), ?_⟩
        have hlen : (xs.map V.int).length = xs.length := List.length_map _
        refine c_for walk_enum (fun i σ H' => Same H H' ∧ (∃ rs : List (List Int), Lis H' D (rs.map Tup.mk) ∧ (∀ r, r ∈ rs ↔ Firsts xs i r) ∧ rs.length = i * fact (xs.length - 1)) ∧ ∃ x0 y0, σ = [some (.ref a), some (.ref D), x0, y0, none])
          ⟨sD, ⟨[], ⟨[], upd_same, Are.nil⟩, fun r => ⟨fun h => absurd h List.not_mem_nil, fun ⟨_, _, _, h, _⟩ => absurd h (Nat.not_lt_zero _)⟩, by rw [Nat.zero_mul]; rfl⟩, _, _, rfl⟩ (fun i σ H' _ h => sqL (h.1 _ _ ea)) ?_ ?_
        · rintro i z σ H2 H2' hi ⟨sm, ⟨rs, lr, hrs, hlr⟩, x0, y0, rfl⟩ ⟨g, x', y', rfl, hg, rfl, e1, e2⟩
          cases e1
          rw [hlen] at hi
          obtain ⟨y, rfl, hy⟩ : ∃ y, y' = .int y ∧ xs[i]? = some y := by
            have e2' : (xs.map V.int)[i]? = some y' := e2
            rw [List.getElem?_map] at e2'
            obtain ⟨y, h1, h2⟩ := Option.map_eq_some_iff.mp e2'
            exact ⟨y, h2.symm, h1⟩
          have sg : Same H2 (upd H2 g (.tup [.int (i : Nat), .int y])) := same_new hg
          refine ⟨g, _, rfl, sqT upd_same, rfl, _, _, rfl, _, _, rfl, rfl, ?_⟩
          have s3 := sm.trans sg
          obtain ⟨ds, eD, aD⟩ := lr
          refine ⟨_, rfl, .inl ⟨rfl, _, sqL (sg _ _ eD)⟩, ?_⟩
          -- the two slices and the call
          refine ⟨_, rfl, _, rfl, _, rfl, a, _, rfl, sqL (s3 _ _ ea), fun p1 hp1 => ?_⟩
          have t1 := same_new (o := .lst (cutV (xs.map V.int) none (some ((i : Nat) : Int)))) hp1
          refine ⟨_, rfl, _, rfl, _, _, rfl, rfl, _, rfl, a, _, rfl, sqL ((s3.trans t1) _ _ ea), fun p2 hp2 => ?_⟩
          have t2 := same_new (o := .lst (cutV (xs.map V.int) (some (((i : Nat) : Int) + 1)) none)) hp2
          have c1 : cutV (xs.map V.int) none (some ((i : Nat) : Int)) = (xs.take i).map V.int := by rw [cut_to, List.map_take]
          have c2 : cutV (xs.map V.int) (some (((i : Nat) : Int) + 1)) none = (xs.drop (i + 1)).map V.int := by rw [show ((i : Nat) : Int) + 1 = ((i + 1 : Nat) : Int) from by omega, cut_from, List.map_drop]
          refine ⟨p1, p2, _, _, rfl, rfl, t2 _ _ upd_same, upd_same, ?_, fun p3 hp3 => ?_⟩
          · rw [c1, c2, List.length_map, List.length_map, List.length_take, List.length_drop]
            exact sz_le (by omega)
          have t3 := same_new (o := .lst (cutV (xs.map V.int) none (some ((i : Nat) : Int)) ++ cutV (xs.map V.int) (some (((i : Nat) : Int) + 1)) none)) hp3
          have s4 := ((s3.trans t1).trans t2).trans t3
          have el : (xs.eraseIdx i).length = xs.length - 1 := by rw [List.length_eraseIdx_of_lt hi]
          refine ⟨p3, xs.eraseIdx i, rfl, lis_ints (upd_same.trans ?_), by rw [el]; omega, by rw [el]; omega, fun p4 H3 rs' s5 L5 hm5 hl5 => ?_⟩
          · rw [c1, c2, ← List.map_append, ← List.eraseIdx_eq_take_drop_succ]
          rw [el] at hl5
          have f1 : fact (xs.length - 1) ≤ 720 := fact_small (by omega)
          obtain ⟨vs5, e5, a5⟩ := L5
          have l5 := a5.length
          rw [List.length_map] at l5
          refine ⟨p4, rfl, ⟨_, sqL e5⟩, ?_⟩
          refine c_map (H1 := H3) walk_list (rs'.map fun r => Tup.mk (y :: r)) (by rw [List.length_map, l5]) (by rw [l5]; omega) (fun H' s6 => sqL (s6 _ _ e5)) ?_ ?_
          · rintro k z yy H4' H4 R N hk hy' s6 ⟨rfl, hz⟩ hR
            obtain ⟨t, ht, it⟩ := a5.at hz
            obtain ⟨r, hr', et⟩ : ∃ r, rs'[k]? = some r ∧ t = Tup.mk r := by
              rw [List.getElem?_map] at ht
              obtain ⟨r, h1, h2⟩ := Option.map_eq_some_iff.mp ht
              exact ⟨r, h1, h2.symm⟩
            subst et
            have ey : yy = Tup.mk (y :: r) := by
              rw [List.getElem?_map, hr'] at hy'
              exact (Option.some.inj hy').symm
            subst ey
            obtain ⟨b, rfl, eb⟩ := of_tupI (it.mono (.of s6))
            have hrl : r.length = xs.length - 1 := by
              rw [← el]
              exact ((hm5 r).mp (List.mem_of_getElem? hr')).length_eq
            refine ⟨rfl, _, rfl, _, rfl, b, _, rfl, .inl (sqT eb), ?_⟩
            refine ⟨by rw [List.append_nil, List.length_cons, List.length_map]; exact sz_le (by omega), fun m hm => ?_⟩
            refine hR _ _ (same_new hm) (is_tupI (upd_same.trans ?_))
            rw [List.append_nil]
            rfl
          · intro D2 H4 hD2 s6 L6
            obtain ⟨vs6, e6, a6⟩ := L6
            have s7 := sg.trans (t1.trans (t2.trans (t3.trans (s5.trans s6))))
            have eD7 := s7 _ _ eD
            have l6 := a6.length
            rw [List.length_map] at l6
            have l7 := aD.length
            rw [List.length_map, hlr] at l7
            have hb : i * fact (xs.length - 1) ≤ 6 * 720 := Nat.mul_le_mul (by omega) f1
            refine ⟨D, D2, _, _, rfl, rfl, eD7, e6, sz_le (by omega), ?_⟩
            have kT : SameT H4 (upd H4 D (.lst (ds ++ vs6))) := SameT.lst eD7
            refine ⟨Same.mut (sm.trans s7) hDH, ⟨rs ++ rs'.map (fun r => y :: r), ⟨ds ++ vs6, upd_same, ?_⟩, fun r => ?_, ?_⟩, _, _, rfl⟩
            · have a8 := ((aD.mono (.of s7)).append a6).mono kT
              rw [List.map_append, List.map_map]
              exact a8
            · rw [List.mem_append, hrs, firsts_step hy]
              refine or_congr Iff.rfl ?_
              rw [List.mem_map]
              constructor
              · rintro ⟨r', m, rfl⟩
                exact ⟨r', rfl, (hm5 r').mp m⟩
              · rintro ⟨r', rfl, m⟩
                exact ⟨r', (hm5 r').mpr m, rfl⟩
            · rw [List.length_append, List.length_map, hlr, hl5, Nat.add_mul, Nat.one_mul]
        · rintro σ H2 ⟨sm, ⟨rs, lr, hrs, hlr⟩, x0, y0, rfl⟩
          rw [hlen] at hrs hlr
          refine ⟨_, rfl, q D H2 rs sm lr (fun r => (hrs r).trans (firsts_all hnil)) ?_⟩
          rw [hlr]
          cases hx : xs.length with
          | zero => exact absurd (List.length_eq_zero_iff.mp hx) hnil
          | succ m => rfl
end
end FT

/-! FD6: shape_of, alike, shape, certify_alike, certify_shape. -/
namespace FT
open PySem PySem.Spec PyProof.Rows L2
open PySem.W (Datum DatumOrd Tup)
/-- the parties that ps renames to -/
def Img (n : Nat) (ps : List Tie) (q : List Tie) : Prop := ∃ r, PermN n r ∧ q = ren ps r
def spShapeOf : Sp := fun vs H Q _ => ∃ (u : V) (n : Nat) (ps : List Tie), vs = [.int (n : Nat), u] ∧ Is H u (Tup.mk ps) ∧ Ties n ps ∧ n ≤ 6 ∧ ∀ (v : V) (H' : Hp) (m : List Tie), Same H H' → Is H' v (Tup.mk m) → Least (Img n ps) m → Q v H'
/-- alike's answer -/
def ALK (n m : Nat) (ps qs : List Tie) (res : Option (List Int)) : Prop := (n ≠ m → res = none) ∧ (n = m → AL n ps qs res)
def spAlike (K : PySem.W.Frag) : Sp := fun vs H Q _ => ∃ (u v : V) (n m : Nat) (ps qs : List Tie), vs = [u, v] ∧ Pty K H u n ps ∧ Pty K H v m qs ∧ ∀ v' H' res, Same H H' → ALK n m ps qs res → OptI H' v' res → Q v' H'
def spShape (K : PySem.W.Frag) : Sp := fun vs H Q _ => ∃ (u : V) (n : Nat) (ps : List Tie), vs = [u] ∧ Pty K H u n ps ∧ n ≤ 6 ∧ ∀ v H' m, Same H H' → Pty K H' v n m → Least (Img n ps) m → Q v H'
/-- a claim with its certificate -/
def Cert (H : Hp) (v : V) (word l1 l2 : Str) (r : List Int) : Prop := ∃ (a c : Addr) (z : V), v = .ref a ∧ H a = some (.tup [.ref c, z]) ∧ H c = some (.tup [.str word, .str l1, .str l2]) ∧ Is H z (Tup.mk r)
def OptC (H : Hp) (v : V) (l1 l2 : Str) : Option (List Int) → Prop
  | none => v = .non
  | some r => Cert H v "alike" l1 l2 r
def spCertA (K : PySem.W.Frag) : Sp := fun vs H Q _ => ∃ (u v : V) (n m : Nat) (ps qs : List Tie), vs = [u, v] ∧ Pty K H u n ps ∧ Pty K H v m qs ∧ ∀ v' H' res, Same H H' → ALK n m ps qs res → OptC H' v' (line n ps) (line m qs) res → Q v' H'
def spCertS (K : PySem.W.Frag) : Sp := fun vs H Q _ => ∃ (u : V) (n : Nat) (ps : List Tie), vs = [u] ∧ Pty K H u n ps ∧ n ≤ 6 ∧ ∀ v' H' m r, Same H H' → Least (Img n ps) m → (PermN n r ∧ ren ps r = m) → Cert H' v' "shape" (line n ps) (line n m) r → Q v' H'
section
variable {P : Program} {w : World} {K : PySem.W.Frag} {mg : Str → Option Value} {base : Heap} {f : Addr} {fd : FuncData} {x qual : Str}
theorem rgV_eq (n : Nat) : rgV 0 ((n : Nat) : Int) = (rg n).map V.int := by
  unfold rgV rg
  rw [List.map_map, Int.sub_zero, Int.toNat_natCast]
  refine List.map_congr_left fun i _ => ?_
  show V.int (0 + (i : Int)) = V.int (i : Int)
  rw [Int.zero_add]
theorem ok_shape_of (T : Top K mg w) (c_orders_of_searching : Cl P w K mg base 8 "orders_of_searching" (spOS 7)) (c_renamed_searching : Cl P w K mg base 1 "renamed_searching" spRenS) (F : FnP K x qual s_shape_of f fd) : FnOk P w K mg base CX0 9 f fd P_shape_of spShapeOf :=
  fn_by F sc_shape_of (fun _ _ _ _ ⟨_, _, _, e, _⟩ => e ▸ rfl) fun cdv A outer s H vs Q E hr hsp => by
    obtain ⟨u, n, ps, rfl, iu, t, hn, q⟩ := hsp
    refine ⟨_, pss_one (ps_ret (pe_callB (cr_minX (PySem.W.Tup (Int × Int)) rfl hr.units) (by rfl) T.n_min bt_min (pa_cons (pe_lc (own := [("row", 2)]) rfl sc_shape_of.nd (pi_list (pe_cl c_orders_of_searching hr (by decide) (by rfl) (pa_cons (pe_listRg rfl (by rfl) T.n_list (prg_1 (by rfl) T.n_range (pv 0))) pa_nil))) (blkOk_by (own := [("row", 2)]) (N := N_shape_of) (sc := defScope s_shape_of) (by decide +kernel)) (fun _ _ _ _ _ => pg_name (i := 2) sc_shape_of.nd rfl (Or.inl rfl)) (fun _ _ _ _ _ => pts_nil) (fun _ _ _ _ _ => pe_cl c_renamed_searching hr (by decide) (by rfl) (pa_cons (pv 1) (pa_cons (pv 2) pa_nil)))) pa_nil))), ?_⟩
    refine ⟨_, rfl, _, rfl, RgOk.of_le (by decide) (by omega) (by decide) (by omega), fun p1 hp1 => ?_⟩
    have s1 := same_new (o := .lst (rgV 0 ((n : Nat) : Int))) hp1
    refine ⟨p1, rg n, rfl, lis_ints (upd_same.trans (by rw [rgV_eq])), by rw [rg_len]; exact hn, by rw [rg_len]; omega, fun p2 H2 rs s2 L2 hm hl => ?_⟩
    rw [rg_len] at hl
    have f1 := fact_small hn
    have f0 := fact_pos n
    obtain ⟨vs2, e2, a2⟩ := L2
    have l2 : vs2.length = rs.length := by rw [a2.length, List.length_map]
    have s12 := s1.trans s2
    refine ⟨p2, rfl, ⟨_, sqL e2⟩, ?_⟩
    refine c_map (H1 := H2) walk_list (rs.map fun r => Tup.mk (ren ps r)) (by rw [List.length_map, l2]) (by rw [l2]; omega) (fun H' s6 => sqL (s6 _ _ e2)) ?_ ?_
    · rintro k z y H4' H4 R N hk hy s6 ⟨rfl, hz⟩ hR
      obtain ⟨t0, ht, it⟩ := a2.at hz
      obtain ⟨r, hr', et⟩ : ∃ r, rs[k]? = some r ∧ t0 = Tup.mk r := by
        rw [List.getElem?_map] at ht
        obtain ⟨r, h1, h2⟩ := Option.map_eq_some_iff.mp ht
        exact ⟨r, h1, h2.symm⟩
      subst et
      have ey : y = Tup.mk (ren ps r) := by
        rw [List.getElem?_map, hr'] at hy
        exact (Option.some.inj hy).symm
      subst ey
      exact ⟨rfl, _, rfl, _, rfl, u, z, n, ps, r, rfl, iu.mono (.of (s12.trans s6)), it.mono (.of s6), ⟨t, (hm r).mp (List.mem_of_getElem? hr'), by omega⟩, fun v' H5 s7 iv => hR _ _ s7 iv⟩
    · intro D H3 hD s3 L3
      obtain ⟨vs3, e3, a3⟩ := L3
      cases hrs : rs with
      | nil =>
        rw [hrs] at hl
        simp at hl
        omega
      | cons r0 rt =>
        rw [hrs] at a3
        have a3' : Are H3 vs3 (Tup.mk (ren ps r0) :: (rt.map fun r => ren ps r).map Tup.mk) := by
          rw [List.map_cons, show (rt.map fun r => Tup.mk (ren ps r)) = (rt.map fun r => ren ps r).map Tup.mk from by rw [List.map_map]; rfl] at a3
          exact a3
        refine ⟨D, vs3, _, _, rfl, sqL e3, TdAll.dp _ _ a3', fun i v hv hi => ?_⟩
        obtain ⟨v0, hv0, iv⟩ := a3'.at' hi
        rw [hv] at hv0
        cases hv0
        rw [minOf_map_mk] at iv
        refine q _ _ _ (s12.trans s3) iv (least_minOf (lin_list lin_tie) fun y => ?_)
        have hm' : ∀ r, r ∈ r0 :: rt ↔ PermN n r := fun r => by rw [← hrs]; exact hm r
        rw [show (ren ps r0 :: rt.map fun r => ren ps r) = (r0 :: rt).map fun r => ren ps r from rfl, List.mem_map]
        constructor
        · rintro ⟨r, h1, h2⟩
          exact ⟨r, (hm' r).mp h1, h2.symm⟩
        · rintro ⟨r, h1, h2⟩
          exact ⟨r, (hm' r).mpr h1, h2.symm⟩
theorem ok_alike (T : Top K mg w) (c_check_party : Cl P w K mg base 1 "check_party" (spCheckParty K)) (c_party_people : PropC P w K mg base 1 "people" (spPeople K)) (c_party_ties : PropC P w K mg base 1 "ties" (spTies K)) (c_renaming_of : Cl P w K mg base 13 "renaming_of" spRenOf)
    (F : FnP K x qual s_alike f fd) : FnOk P w K mg base CX0 14 f fd P_alike (spAlike K) :=
  fn_by F sc_alike (fun _ _ _ _ ⟨_, _, _, _, _, _, e, _⟩ => e ▸ rfl) fun cdv A outer s H vs Q E hr hsp => by
    obtain ⟨u, v, n, m, ps, qs, rfl, pu, pv', q⟩ := hsp
    obtain ⟨tp, hn, a, dx, b, eu, ea, ib⟩ := pu
    obtain ⟨tq, hm, a', dx', b', ev, ea', ib'⟩ := pv'
    have pu : Pty K H u n ps := ⟨tp, hn, a, dx, b, eu, ea, ib⟩
    have pv2 : Pty K H v m qs := ⟨tq, hm, a', dx', b', ev, ea', ib'⟩
    refine ⟨_, pss_cons (ps_expr (pe_cl c_check_party hr (by decide) (by rfl) (pa_cons (pv 0) pa_nil)))
    (pss_cons (ps_expr (pe_cl c_check_party hr (by decide) (by rfl) (pa_cons (pv 1) pa_nil)))
    (pss_one (ps_ret (pe_ifExp (pt_cmpR (op_eq) (pe_propc c_party_people T.cl hr (by decide) (pv 0)) (pe_propc c_party_people T.cl hr (by decide) (pv 1)) (nomark _)) (pe_cl c_renaming_of hr (by decide) (by rfl) (pa_cons (pe_propc c_party_people T.cl hr (by decide) (pv 0)) (pa_cons (pe_propc c_party_ties T.cl hr (by decide) (pv 0)) (pa_cons (pe_propc c_party_ties T.cl hr (by decide) (pv 1)) pa_nil)))) (pe_non))))), ?_⟩
    refine ⟨_, rfl, u, n, ps, rfl, pu, _, rfl, v, m, qs, rfl, pv2, ?_⟩
    refine ⟨_, rfl, a, dx, _, eu, ea, .ref a, n, ps, rfl, eu ▸ pu, _, rfl, a', dx', _, ev, ea', .ref a', m, qs, rfl, ev ▸ pv2, rfl, _, rfl, ?_⟩
    rw [dec_int]
    by_cases h : n = m
    · subst h
      rw [show ((((n : Nat) : Int) == ((n : Nat) : Int))) = true from by simp]
      refine ⟨_, rfl, a, dx, _, eu, ea, .ref a, n, ps, rfl, eu ▸ pu, _, rfl, a, dx, _, eu, ea, .ref a, n, ps, rfl, eu ▸ pu, fun z1 iz1 => ?_⟩
      refine ⟨_, rfl, a', dx', _, ev, ea', .ref a', n, qs, rfl, ev ▸ pv2, fun z2 iz2 => ?_⟩
      exact ⟨n, z1, z2, ps, qs, rfl, iz1, iz2, ⟨tp, tq, hn⟩, fun v' H' res s1 al ho => q v' H' res s1 ⟨fun h => absurd rfl h, fun _ => al⟩ ho⟩
    · rw [show ((((n : Nat) : Int) == ((m : Nat) : Int))) = false from by simp; omega]
      exact q _ _ none (fun _ _ h => h) ⟨fun _ => rfl, fun e => absurd e h⟩ rfl
theorem ok_shape (T : Top K mg w) (c_check_party : Cl P w K mg base 1 "check_party" (spCheckParty K)) (c_party_people : PropC P w K mg base 1 "people" (spPeople K)) (c_party_ties : PropC P w K mg base 1 "ties" (spTies K)) (c_shape_of : Cl P w K mg base 9 "shape_of" spShapeOf)
    (c_party : MakC P w K mg base 4 (spInit K)) (F : FnP K x qual s_shape f fd) : FnOk P w K mg base CX0 10 f fd P_shape (spShape K) :=
  fn_by F sc_shape (fun _ _ _ _ ⟨_, _, _, e, _⟩ => e ▸ rfl) fun cdv A outer s H vs Q E hr hsp => by
    obtain ⟨u, n, ps, rfl, pu, hn, q⟩ := hsp
    obtain ⟨tp, h10, a, dx, b, eu, ea, ib⟩ := pu
    have pu : Pty K H u n ps := ⟨tp, h10, a, dx, b, eu, ea, ib⟩
    refine ⟨_, pss_cons (ps_expr (pe_cl c_check_party hr (by decide) (by rfl) (pa_cons (pv 0) pa_nil)))
    (pss_cons (ps_if (pt_cmpR (op_gt) (pe_propc c_party_people T.cl hr (by decide) (pv 0)) (pe_gi (by rfl) T.m_MOST_SHAPED) (nomark _))
    (pss_one (ps_never))
    (pss_nil))
    (pss_one (ps_ret (pe_mkl c_party T.m_Party hr (by decide) (by rfl) (pa_cons (pe_propc c_party_people T.cl hr (by decide) (pv 0)) (pa_cons (pe_cl c_shape_of hr (by decide) (by rfl) (pa_cons (pe_propc c_party_people T.cl hr (by decide) (pv 0)) (pa_cons (pe_propc c_party_ties T.cl hr (by decide) (pv 0)) pa_nil))) pa_nil)))))), ?_⟩
    refine ⟨_, rfl, u, n, ps, rfl, pu, ?_⟩
    have e1 : decide ((6 : Int) < (n : Nat)) = false := by simp; omega
    refine ⟨_, rfl, a, dx, _, eu, ea, .ref a, n, ps, rfl, eu ▸ pu, _, _, rfl, rfl, _, rfl, ?_⟩
    rw [e1]
    refine ⟨_, rfl, a, dx, _, eu, ea, .ref a, n, ps, rfl, eu ▸ pu, ?_⟩
    refine ⟨_, rfl, a, dx, _, eu, ea, .ref a, n, ps, rfl, eu ▸ pu, ?_⟩
    refine ⟨_, rfl, a, dx, _, eu, ea, .ref a, n, ps, rfl, eu ▸ pu, fun z iz => ?_⟩
    refine ⟨z, n, ps, rfl, iz, tp, hn, fun v H1 m s1 im lm => ?_⟩
    obtain ⟨r, pr, em⟩ := lm.mem
    have tm : Ties n m := by
      rw [em]
      exact ren_ties tp pr
    exact spInit.make im tm h10 fun v2 H2 s2 p2 => q _ _ m (s1.trans s2) p2 lm
theorem ok_certify_alike (T : Top K mg w) (c_alike : Cl P w K mg base 14 "alike" (spAlike K)) (c_party_str : StrC P w K mg base 1 (spStr K)) (F : FnP K x qual s_certify_alike f fd) : FnOk P w K mg base CX0 15 f fd P_certify_alike (spCertA K) :=
  fn_by F sc_certify_alike (fun _ _ _ _ ⟨_, _, _, _, _, _, e, _⟩ => e ▸ rfl) fun cdv A outer s H vs Q E hr hsp => by
    obtain ⟨u, v, n, m, ps, qs, rfl, pu, pv', q⟩ := hsp
    refine ⟨_, pss_cons (ps_set (i := 2) sc_certify_alike.nd rfl (Or.inl rfl) (pe_cl c_alike hr (by decide) (by rfl) (pa_cons (pv 0) (pa_cons (pv 1) pa_nil))))
    (pss_one (ps_ret (pe_ifExp (pt_cmpR (op_isN) (pv 2) (pe_non) (nomark _)) (pe_non) (pe_tup (pa_cons (pe_tup (pa_cons (pe_str) (pa_cons (pe_callTy (call_strC c_party_str hr (by decide)) (by rfl) T.n_str bt_str (pa_cons (pv 0) pa_nil)) (pa_cons (pe_callTy (call_strC c_party_str hr (by decide)) (by rfl) T.n_str bt_str (pa_cons (pv 1) pa_nil)) pa_nil)))) (pa_cons (pv 2) pa_nil)))))), ?_⟩
    refine ⟨_, rfl, _, rfl, u, v, n, m, ps, qs, rfl, pu, pv', fun v1 H1 res s1 al ho => ?_⟩
    cases res with
    | none =>
      have ev : v1 = .non := ho
      subst ev
      exact ⟨_, rfl, rfl, true, rfl, q _ _ none s1 al rfl⟩
    | some r =>
      obtain ⟨g, rfl, eg⟩ := of_tupI ho
      have pu1 := pu.mono s1
      have pv1 := pv'.mono s1
      obtain ⟨_, _, a, dx, b, rfl, ea, _⟩ := id pu1
      obtain ⟨_, _, a', dx', b', rfl, ea', _⟩ := id pv1
      refine ⟨_, rfl, rfl, false, rfl, ?_⟩
      refine ⟨_, rfl, a, dx, _, rfl, ea, _, n, ps, rfl, pu1, fun H2 s2 => ⟨_, rfl, ?_⟩⟩
      refine ⟨_, rfl, a', dx', _, rfl, s2 _ _ ea', _, m, qs, rfl, pv1.mono s2, fun H3 s3 => ⟨_, rfl, ?_⟩⟩
      refine ⟨sz_le (by show 3 ≤ 100000; decide), fun c hc => ?_⟩
      have s4 := same_new (o := .tup [.str "alike", .str (line n ps), .str (line m qs)]) hc
      refine ⟨_, rfl, sz_le (by show 2 ≤ 100000; decide), fun d hd => ?_⟩
      have s5 := same_new (o := .tup [.ref c, .ref g]) hd
      exact q _ _ (some r) ((((s1.trans s2).trans s3).trans s4).trans s5) al ⟨d, c, .ref g, rfl, upd_same, s5 _ _ upd_same, ho.mono (.of (((s2.trans s3).trans s4).trans s5))⟩
theorem ok_certify_shape (T : Top K mg w) (c_alike : Cl P w K mg base 14 "alike" (spAlike K)) (c_shape : Cl P w K mg base 10 "shape" (spShape K)) (c_party_str : StrC P w K mg base 1 (spStr K)) (F : FnP K x qual s_certify_shape f fd) : FnOk P w K mg base CX0 15 f fd P_certify_shape (spCertS K) :=
  fn_by F sc_certify_shape (fun _ _ _ _ ⟨_, _, _, e, _⟩ => e ▸ rfl) fun cdv A outer s H vs Q E hr hsp => by
    obtain ⟨u, n, ps, rfl, pu, hn, q⟩ := hsp
    refine ⟨_, pss_cons (ps_set (i := 1) sc_certify_shape.nd rfl (Or.inl rfl) (pe_cl c_shape hr (by decide) (by rfl) (pa_cons (pv 0) pa_nil)))
    (pss_one (ps_ret (pe_tup (pa_cons (pe_tup (pa_cons (pe_str) (pa_cons (pe_callTy (call_strC c_party_str hr (by decide)) (by rfl) T.n_str bt_str (pa_cons (pv 0) pa_nil)) (pa_cons (pe_callTy (call_strC c_party_str hr (by decide)) (by rfl) T.n_str bt_str (pa_cons (pv 1) pa_nil)) pa_nil)))) (pa_cons (pe_cl c_alike hr (by decide) (by rfl) (pa_cons (pv 0) (pa_cons (pv 1) pa_nil))) pa_nil))))), ?_⟩
    refine ⟨_, rfl, u, n, ps, rfl, pu, hn, fun v1 H1 m s1 pm lm => ?_⟩
    have pu1 := pu.mono s1
    obtain ⟨_, _, a, dx, b, rfl, ea, _⟩ := id pu1
    obtain ⟨_, _, a', dx', b', rfl, ea', _⟩ := id pm
    refine ⟨_, rfl, a, dx, _, rfl, ea, _, n, ps, rfl, pu1, fun H2 s2 => ⟨_, rfl, ?_⟩⟩
    refine ⟨_, rfl, a', dx', _, rfl, s2 _ _ ea', _, n, m, rfl, pm.mono s2, fun H3 s3 => ⟨_, rfl, ?_⟩⟩
    refine ⟨sz_le (by show 3 ≤ 100000; decide), fun c hc => ?_⟩
    have s4 := same_new (o := .tup [.str "shape", .str (line n ps), .str (line n m)]) hc
    have s24 := (s2.trans s3).trans s4
    refine ⟨_, rfl, _, rfl, _, _, n, n, ps, m, rfl, pu1.mono s24, pm.mono s24, fun v2 H5 res s5 al ho => ?_⟩
    cases res with
    | none =>
      obtain ⟨r, pr, em⟩ := lm.mem
      exact absurd em.symm (al.2 rfl r pr)
    | some r =>
      refine ⟨sz_le (by show 2 ≤ 100000; decide), fun d hd => ?_⟩
      have s6 := same_new (o := .tup [.ref c, v2]) hd
      exact q _ _ m r (((s1.trans s24).trans s5).trans s6) lm (al.2 rfl) ⟨d, c, v2, rfl, upd_same, (s5.trans s6) _ _ upd_same, ho.mono (.of s6)⟩
end
end FT

/-! FD7: the checker's numbers, people and renamed. -/
namespace FT
open PySem PySem.Spec PyProof.Rows L2
open PySem.W (Datum DatumOrd Tup)
def spBtw : Sp := fun vs H Q _ => ∃ i lo hi : Int, vs = [.int i, .int lo, .int hi] ∧ lo ≤ i ∧ i ≤ hi ∧ Q (.bl true) H
def spAreP : Sp := fun vs H Q _ => ∃ (v : V) (n : Nat) (r : List Int), vs = [v, .int (n : Nat)] ∧ Is H v (Tup.mk r) ∧ PermN n r ∧ n ≤ 10 ∧ ∀ H', Same H H' → Q (.bl true) H'
def spNat : Sp := fun vs H Q _ => ∃ (k : Nat) (m : Int), vs = [.str (SX.S (TL.numL k)), .int m] ∧ k ≤ 10 ∧ ((TL.numL k).length : Int) ≤ m ∧ ∀ H', Same H H' → Q (.int (k : Nat)) H'
/-- ints in a list or in a tuple -/
def SeqI (H : Hp) (v : V) (r : List Int) : Prop := ∃ a, v = .ref a ∧ (H a = some (.lst (r.map V.int)) ∨ H a = some (.tup (r.map V.int)))
theorem SeqI.mono {H H' : Hp} {v : V} {r : List Int} (h : SeqI H v r) (s : Same H H') : SeqI H' v r := by
  obtain ⟨a, e, h⟩ := h
  exact ⟨a, e, h.imp (s _ _) (s _ _)⟩
theorem SeqI.ix {K : PySem.W.Frag} {H : Hp} {v : V} {r : List Int} {i : Nat} {Q : VK} (h : SeqI H v r) (hi : i < r.length) (q : Q (.int (nth r i)) H) : rIx K v (.int (i : Nat)) H Q := by
  obtain ⟨a, rfl, h⟩ := h
  have g : (r.map V.int)[i]? = some (.int (nth r i)) := by rw [List.getElem?_map, nth_get hi]; rfl
  rcases h with h | h
  · exact .inl ⟨a, _, _, _, rfl, rfl, sqL h, atI_nat g, q⟩
  · exact .inr (.inl ⟨a, _, _, _, rfl, rfl, sqT h, atI_nat g, q⟩)
def spRenC : Sp := fun vs H Q _ => ∃ (a : Addr) (v : V) (n : Nat) (ps : List Tie) (r : List Int), vs = [.ref a, v] ∧ Lis H a ps ∧ SeqI H v r ∧ (Ties n ps ∧ PermN n r ∧ n ≤ 10) ∧ ∀ p H', H p = none → Same H H' → Lis H' p (ren ps r) → Q (.ref p) H'
section
variable {P : Program} {w : World} {K : PySem.W.Frag} {mg : Str → Option Value} {base : Heap} {f : Addr} {fd : FuncData} {x qual : Str}
theorem ok_is_integer_c (T : Top K mg w) (F : FnP K x qual s_is_integer_c f fd) : FnOk P w K mg base CX0 1 f fd P_is_integer_c spInt :=
  fn_by F sc_is_integer_c (fun _ _ _ _ ⟨_, e, _⟩ => e ▸ rfl) fun cdv A outer s H vs Q E hr hsp => by
    obtain ⟨i, rfl, q⟩ := hsp
    refine ⟨_, pss_one (ps_ret (pe_and (pe_callB (call_isi) (by rfl) T.n_isinstance bt_isinstance (pa_cons (pv 0) (pa_cons (pe_bltn (v := .ty "int") (by rfl) T.n_int bt_int rfl) pa_nil))) (pe_one (pe_not (pe_callB (call_isi) (by rfl) T.n_isinstance bt_isinstance (pa_cons (pv 0) (pa_cons (pe_bltn (v := .ty "bool") (by rfl) T.n_bool bt_bool rfl) pa_nil))))))), ?_⟩
    exact ⟨_, rfl, _, _, _, _, _, rfl, .ty _, ty_int i, kit_ty k_int_int, true, rfl, _, rfl, _, _, _, _, _, rfl, .ty _, ty_int i, kit_ty k_int_bool, false, rfl, q⟩
theorem ok_is_between_c (T : Top K mg w) (c_is_integer_checker : Cl P w K mg base 1 "is_integer_checker" spInt) (F : FnP K x qual s_is_between_c f fd) : FnOk P w K mg base CX0 2 f fd P_is_between_c spBtw :=
  fn_by F sc_is_between_c (fun _ _ _ _ ⟨_, _, _, e, _⟩ => e ▸ rfl) fun cdv A outer s H vs Q E hr hsp => by
    obtain ⟨i, lo, hi, rfl, h1, h2, q⟩ := hsp
    refine ⟨_, pss_one (ps_ret (pe_and (pe_cl c_is_integer_checker hr (by decide) (by rfl) (pa_cons (pv 0) pa_nil)) (pe_one (pe_chain (op_le) (op_le) (pv 1) (pv 0) (pv 2))))), ?_⟩
    refine ⟨_, rfl, i, rfl, true, rfl, _, rfl, _, rfl, _, _, rfl, rfl, _, rfl, ?_⟩
    rw [show decide (lo ≤ i) = true from by simpa using h1]
    refine ⟨_, rfl, _, _, rfl, rfl, ?_⟩
    show Q (.bl (decide (i ≤ hi))) H
    rw [show decide (i ≤ hi) = true from by simpa using h2]
    exact q
theorem ok_are_people (T : Top K mg w) (c_is_between_checker : Cl P w K mg base 2 "is_between_checker" spBtw) (F : FnP K x qual s_are_people f fd) : FnOk P w K mg base CX0 3 f fd P_are_people spAreP :=
  fn_by F sc_are_people (fun _ _ _ _ ⟨_, _, _, e, _⟩ => e ▸ rfl) fun cdv A outer s H vs Q E hr hsp => by
    obtain ⟨v, n, r, rfl, iv, p, hn, q⟩ := hsp
    obtain ⟨a, rfl, ea⟩ := of_tupI iv
    have hlen : (r.map V.int).length = n := by rw [List.length_map, p.len]
    refine ⟨_, pss_cons (ps_if (pt_not (pt_val (pe_callB (call_isi) (by rfl) T.n_isinstance bt_isinstance (pa_cons (pv 0) (pa_cons (pe_bltn (v := .ty "tuple") (by rfl) T.n_tuple bt_tuple rfl) pa_nil)))))
    (pss_one (ps_ret (pe_bl)))
    (pss_nil))
    (pss_cons (ps_for PassesOwn.never rfl (pi_enumT (by rfl) T.n_enumerate (pa_cons (pv 0) pa_nil)) (pg_tup rfl (pgs_cons (pg_name (i := 2) sc_are_people.nd rfl (Or.inl rfl)) (pgs_cons (pg_name (i := 3) sc_are_people.nd rfl (Or.inl rfl)) pgs_nil)))
    (pss_one (ps_if (PW.pt (pw_or (pt_not (pt_val (pe_cl c_is_between_checker hr (by decide) (by rfl) (pa_cons (pv 3) (pa_cons (pe_int) (pa_cons (pe_op op_sub (pv 1) (pe_int)) pa_nil)))))) (pw_or1 (pt_cmpR (op_in_seq) (pv 3) (pe_slice sl_tupA (pv 0) (po_none) (po_some (pv 2))) (by rfl)))))
    (pss_one (ps_ret (pe_bl)))
    (pss_nil))))
    (pss_one (ps_ret (pe_bl)))), ?_⟩
    refine ⟨_, rfl, _, _, _, _, _, rfl, .ty _, ty_tup ea, kit_ty k_tup_tup, true, rfl, ?_⟩
    refine ⟨_, rfl, a, _, rfl, ea, ?_⟩
    refine c_for walk_enumT (fun i σ H' => Same H H' ∧ ∃ x y, σ = [some (.ref a), some (.int (n : Nat)), x, y]) ⟨fun _ _ h => h, _, _, rfl⟩ (fun _ _ _ _ h => h.1 _ _ ea) ?_ ?_
    · rintro i x σ H1 H2 hi ⟨sm, x0, y0, rfl⟩ ⟨g, x', y', rfl, hg, rfl, e1, e2⟩
      cases e1
      rw [hlen] at hi
      have hir : i < r.length := by rw [p.len]; exact hi
      have ey : y' = .int (nth r i) := by
        have e2' : (r.map V.int)[i]? = some y' := e2
        rw [List.getElem?_map, nth_get hir] at e2'
        exact (Option.some.inj e2').symm
      subst ey
      have hr' := p.at hi
      have s2 := sm.trans (same_new (o := .tup [.int (i : Nat), .int (nth r i)]) hg)
      refine ⟨g, _, rfl, sqT upd_same, rfl, _, _, rfl, _, _, rfl, rfl, ?_⟩
      refine ⟨_, rfl, _, rfl, _, _, rfl, rfl, nth r i, 0, _, rfl, hr'.1, by omega, true, rfl, ?_⟩
      have hnot : nth r i ∉ r.take i := by
        have e3 := take_succ_nth hir
        have nd : (r.take (i + 1)).Nodup := List.Sublist.nodup (List.take_sublist _ _) p.nodup
        rw [e3] at nd
        exact fun m => (List.nodup_append.mp nd).2.2 _ m _ (by simp) rfl
      refine ⟨_, rfl, _, rfl, _, rfl, _, rfl, a, _, rfl, sqT (s2 _ _ ea), fun h => ?_, fun _ m hm => ?_⟩
      · have := h.2
        rw [HT.sIx_nat, hlen] at this
        omega
      · refine ⟨m, _, rfl, .inr (sqT upd_same), rfl, ?_, _, rfl, ?_⟩
        · rw [cut_to, ← List.map_take]
          exact flat_ints _
        · rw [cut_to, ← List.map_take]
          simp only [Bool.false_eq_true, if_false, inV_int]
          rw [decide_eq_false hnot]
          exact ⟨s2.trans (same_new hm), _, _, rfl⟩
    · rintro σ H' ⟨sm, x0, y0, rfl⟩
      exact q _ sm
theorem ok_renamed_c (T : Top K mg w) (F : FnP K x qual s_renamed_c f fd) : FnOk P w K mg base CX0 1 f fd P_renamed_c spRenC :=
  fn_by F sc_renamed_c (fun _ _ _ _ ⟨_, _, _, _, _, e, _⟩ => e ▸ rfl) fun cdv A outer s H vs Q E hr hsp => by
    obtain ⟨a, v, n, ps, r, rfl, ⟨us, ea, ar⟩, iv, ⟨t, p, hn⟩, q⟩ := hsp
    have l1 : us.length = ps.length := ar.length
    have hl := t.len hn
    refine ⟨_, pss_one (ps_ret (pe_callB (cr_sortX (Int × Int) sortable_pair hr.units) (by rfl) T.n_sorted bt_sorted (pa_cons (pe_lc (own := [("one", 2), ("other", 3)]) rfl sc_renamed_c.nd (pi_list (pv 0)) (blkOk_by (own := [("one", 2), ("other", 3)]) (N := N_renamed_c) (sc := defScope s_renamed_c) (by decide +kernel)) (fun _ _ _ _ _ => pg_tupK K rfl 2 rfl (pgs_cons (pg_name (i := 2) sc_renamed_c.nd rfl (Or.inl rfl)) (pgs_cons (pg_name (i := 3) sc_renamed_c.nd rfl (Or.inl rfl)) pgs_nil))) (fun _ _ _ _ _ => pts_nil) (fun _ _ _ _ _ => pe_tup (pa_cons (pe_callB (call_min2 rfl) (by rfl) T.n_min bt_min (pa_cons (pe_ix (ix_seqK K rfl) (pv 1) (pv 2) (fun _ _ => rfl)) (pa_cons (pe_ix (ix_seqK K rfl) (pv 1) (pv 3) (fun _ _ => rfl)) pa_nil))) (pa_cons (pe_callB (call_max2 rfl) (by rfl) T.n_max bt_max (pa_cons (pe_ix (ix_seqK K rfl) (pv 1) (pv 2) (fun _ _ => rfl)) (pa_cons (pe_ix (ix_seqK K rfl) (pv 1) (pv 3) (fun _ _ => rfl)) pa_nil))) pa_nil)))) pa_nil))), ?_⟩
    refine ⟨_, rfl, a, rfl, ⟨us, sqL ea⟩, ?_⟩
    refine c_map (H1 := H) walk_list (ps.map (tieOf r)) (by rw [List.length_map, l1]) (by rw [l1]; omega) (fun H' sm => sqL (sm _ _ ea)) ?_ ?_
    · rintro i z y H1' H1 R N hi hy sm ⟨rfl, hz⟩ hR
      obtain ⟨p0, hp, ip⟩ := ar.at hz
      have ey : y = tieOf r p0 := by
        rw [List.getElem?_map, hp] at hy
        exact (Option.some.inj hy).symm
      subst ey
      obtain ⟨d, rfl, ed⟩ := of_tie ip
      obtain ⟨i0, j0, rfl, hij, hj⟩ := t.nat (List.mem_of_getElem? hp)
      have h1 : i0 < r.length := by rw [p.len]; omega
      have h2 : j0 < r.length := by rw [p.len]; omega
      have iv1 := iv.mono sm
      refine ⟨d, _, rfl, sqT (sm _ _ ed), rfl, _, _, rfl, _, _, rfl, rfl, ?_⟩
      refine ⟨rfl, _, rfl, _, rfl, iv1.ix h1 ⟨_, rfl, _, rfl, iv1.ix h2 ⟨_, _, rfl, _, rfl, _, rfl, iv1.ix h1 ⟨_, rfl, _, rfl, iv1.ix h2 ⟨_, _, rfl, sz_le (by show 2 ≤ 100000; decide), fun m hm => ?_⟩⟩⟩⟩⟩
      refine hR _ _ (same_new hm) ?_
      rw [tieOf_nat]
      exact is_tie upd_same
    · intro D H1 hD sm hL
      obtain ⟨vs1, e1, a1⟩ := hL
      refine ⟨D, vs1, _, rfl, sqL e1, a1, fun m ws hm aw => ?_⟩
      have s2 := same_new (o := .lst ws) hm
      exact q _ _ (sm.free hm) (sm.trans s2) ⟨ws, upd_same, aw.mono (.of s2)⟩
theorem digits_list : (Str.ofString "0123456789").cps.toList = [48, 49, 50, 51, 52, 53, 54, 55, 56, 57] := by decide +kernel
theorem ok_natural (T : Top K mg w) (F : FnP K x qual s_natural f fd) : FnOk P w K mg base CX0 1 f fd P_natural spNat :=
  fn_by F sc_natural (fun _ _ _ _ ⟨_, _, e, _⟩ => e ▸ rfl) fun cdv A outer s H vs Q E hr hsp => by
    obtain ⟨k, m, rfl, hk, hm, q⟩ := hsp
    obtain ⟨g1, g2⟩ := num_len2 (n := k) (by omega)
    have hsz : (SX.S (TL.numL k)).length ≤ sizeLine := by rw [SX.S_len]; exact sz_le (by omega)
    refine ⟨_, pss_cons (ps_if (PW.pt (pw_or (pt_not (pt_chain (op_le) (op_le) (pe_int) (pe_callB (call_len_str) (by rfl) T.n_len bt_len (pa_cons (pv 0) pa_nil)) (pv 1))) (pw_or1 (pt_val (pe_callB (cr_any rfl) (by rfl) T.n_any bt_any (pa_cons (pe_lc (own := [("sign", 2)]) rfl sc_natural.nd (pi_str (pv 0)) (blkOk_by (own := [("sign", 2)]) (N := N_natural) (sc := defScope s_natural) (by decide +kernel)) (fun _ _ _ _ _ => pg_name (i := 2) sc_natural.nd rfl (Or.inl rfl)) (fun _ _ _ _ _ => pts_nil) (fun _ _ _ _ _ => pe_cmpR (op_notIn_sign) (pv 2) (pe_gs (by rfl) T.m_DIGITS_checker) (by rfl))) pa_nil))))))
    (pss_one (ps_ret (pe_non)))
    (pss_nil))
    (pss_one (ps_ret (pe_ifExp (PW.pt (pw_or (pt_cmpR (op_eq) (pv 0) (pe_str) (nomark _)) (pw_or1 (pt_cmpR (op_ne) (pe_ix ix_str (pv 0) (pe_int) (fun _ _ => rfl)) (pe_str) (nomark _))))) (pe_callTy (call_int_str) (by rfl) T.n_int bt_int (pa_cons (pv 0) pa_nil)) (pe_non)))), ?_⟩
    refine ⟨_, rfl, _, rfl, hsz, ?_⟩
    rw [SX.S_len]
    refine ⟨_, _, rfl, rfl, _, rfl, ?_⟩
    rw [show decide ((1 : Int) ≤ ((TL.numL k).length : Nat)) = true from by simp; omega]
    refine ⟨_, rfl, _, _, rfl, rfl, _, rfl, ?_⟩
    rw [show decide (((TL.numL k).length : Int) ≤ m) = true from by simpa using hm]
    refine ⟨_, rfl, _, rfl, ?_⟩
    have hcs : (SX.S (TL.numL k)).cps.size = (TL.numL k).length := SX.S_len _
    refine c_map (H1 := H) walk_str ((TL.numL k).map fun _ => false) (by rw [List.length_map, hcs]) (by rw [hcs]; omega) (fun _ _ => trivial) ?_ ?_
    · rintro i z y H1' H1 R N hi hy sm ⟨rfl, c, hc, rfl⟩ hR
      have ey : y = false := by
        have := List.mem_of_getElem? hy
        simpa using (List.mem_map.mp this).elim fun _ h => h.2.symm
      subst ey
      have hd : 48 ≤ c ∧ c ≤ 57 := by
        refine num_dig (n := k) ?_
        have hc' : (TL.numL k)[i]? = some c := by
          have : (TL.numL k).toArray[i]? = some c := hc
          simpa using this
        exact List.mem_of_getElem? hc'
      refine ⟨rfl, _, rfl, c, _, rfl, rfl, ?_⟩
      refine hR _ _ (fun _ _ h => h) ?_
      have : decide (c ∈ (Str.ofString "0123456789").cps.toList) = true := by
        rw [digits_list]
        simp
        omega
      rw [this]
      exact is_bl false
    · intro D H1 hD sm hL
      refine ⟨D, _, rfl, hL.bls, ?_⟩
      have hany : ((TL.numL k).map fun _ => false).any id = false := by
        rw [List.any_map]
        induction TL.numL k with
        | nil => rfl
        | cons _ _ ih => rw [List.any_cons, ih]; rfl
      rw [hany]
      refine ⟨_, rfl, _, rfl, rfl, _, rfl, ?_⟩
      have fin : Q (.int (k : Nat)) H1 := q _ sm
      rcases num_head hk with e | ⟨c, r, e, hc⟩
      · rw [show decide (V.str (SX.S (TL.numL k)) = V.str (Str.ofString "0")) = true from by rw [e]; rfl]
        exact ⟨_, rfl, _, _, rfl, num_int (by omega), by rw [SX.S_len]; omega, fin⟩
      · have hne : decide (V.str (SX.S (TL.numL k)) = V.str (Str.ofString "0")) = false := by
          rw [decide_eq_false_iff_not]
          intro h
          have h2 : SX.S (TL.numL k) = SX.S [48] := V.str.inj h
          have h3 := SX.S_inj h2
          rw [e] at h3
          cases h3
          exact hc rfl
        rw [hne]
        have hne2 : decide (V.str (⟨#[c]⟩ : Str) = V.str (Str.ofString "0")) = false := by
          rw [decide_eq_false_iff_not]
          intro h
          have h2 : SX.S [c] = SX.S [48] := V.str.inj h
          have h3 := SX.S_inj h2
          cases h3
          exact hc rfl
        refine ⟨_, rfl, _, _, c, rfl, rfl, hsz, atI_int (by decide) (by show (TL.numL k)[0]? = some c; rw [e]; rfl), rfl, _, rfl, ?_⟩
        rw [hne2]
        exact ⟨_, rfl, _, _, rfl, num_int (by omega), by rw [SX.S_len]; omega, fin⟩
end
end FT

/-! FD8: party_of. -/
namespace FT
open PySem PySem.Spec PyProof.Rows L2
open PySem.W (Datum DatumOrd Tup)
/-- people and a list of ties -/
def PO (H : Hp) (v : V) (n : Nat) (ps : List Tie) : Prop := ∃ a b, v = .ref a ∧ H a = some (.tup [.int (n : Nat), .ref b]) ∧ Lis H b ps
theorem PO.mono {H H' : Hp} {v : V} {n : Nat} {ps : List Tie} (h : PO H v n ps) (s : Same H H') : PO H' v n ps := by
  obtain ⟨a, b, e, q, l⟩ := h
  exact ⟨a, b, e, s _ _ q, l.mono s⟩
def spPartyOf : Sp := fun vs H Q _ => ∃ (n : Nat) (ps : List Tie), vs = [.str (line n ps)] ∧ Ties n ps ∧ n ≤ 10 ∧ ∀ v H', Same H H' → PO H' v n ps → Q v H'
section
variable {P : Program} {w : World} {K : PySem.W.Frag} {mg : Str → Option Value} {base : Heap} {f : Addr} {fd : FuncData} {x qual : Str}
theorem ok_party_of (T : Top K mg w) (c_natural : Cl P w K mg base 1 "natural" spNat) (F : FnP K x qual s_party_of f fd) : FnOk P w K mg base CX0 2 f fd P_party_of spPartyOf :=
  fn_by F sc_party_of (fun _ _ _ _ ⟨_, _, e, _⟩ => e ▸ rfl) fun cdv A outer s H vs Q E hr hsp => by
    obtain ⟨n, ps, rfl, t, hn, q⟩ := hsp
    have hl := t.len hn
    have hll := line_len hn t
    have hrl := rest_len hn t
    have g2 := (num_len2 (n := n) (by omega)).2
    have hline : (line n ps).length = (lineL n ps).length := SX.S_len _
    have hrest : (SX.S (restL ps)).length = (restL ps).length := SX.S_len _
    refine ⟨_, pss_cons (ps_if (pt_not (pt_val (pe_callB (call_isi) (by rfl) T.n_isinstance bt_isinstance (pa_cons (pv 0) (pa_cons (pe_bltn (v := .ty "str") (by rfl) T.n_str bt_str rfl) pa_nil)))))
    (pss_one (ps_ret (pe_non)))
    (pss_nil))
    (pss_cons (ps_asg (pe_partition (pv 0) (pe_str)) (pg_tup rfl (pgs_cons (pg_name (i := 1) sc_party_of.nd rfl (Or.inl rfl)) (pgs_cons (pg_name (i := 2) sc_party_of.nd rfl (Or.inl rfl)) (pgs_cons (pg_name (i := 3) sc_party_of.nd rfl (Or.inl rfl)) pgs_nil)))))
    (pss_cons (ps_par (i := 4) (j := 5) rfl sc_party_of.nd rfl rfl (by decide) rfl rfl (pa_cons (pe_cl c_natural hr (by decide) (by rfl) (pa_cons (pv 1) (pa_cons (pe_int) pa_nil))) (pa_cons (pe_lst pa_nil) pa_nil)) rfl)
    (pss_cons (ps_if (PW.pt (pw_or (pt_cmpR (op_eq) (pv 2) (pe_str) (nomark _)) (pw_or (pt_cmpR (op_isN) (pv 4) (pe_non) (nomark _)) (pw_or (pt_cmpR (op_gt) (pv 4) (pe_gi (by rfl) T.m_MOST_PEOPLE) (nomark _)) (pw_or1 (pt_cmpR (op_notIn_seq) (pe_slice C8.sl_txt (pv 3) (po_none) (po_some (pe_int))) (pe_tup (pa_cons (pe_str) (pa_cons (pe_str) pa_nil))) (by rfl)))))))
    (pss_one (ps_ret (pe_non)))
    (pss_nil))
    (pss_cons (ps_for PassesOwn.never rfl (pi_list (pe_slice sl_list (pe_split (pv 3) (pe_str)) (po_some (pe_int)) (po_none))) (pg_name (i := 6) sc_party_of.nd rfl (Or.inl rfl))
    (pss_cons (ps_asg (pe_partition (pv 6) (pe_str)) (pg_tup rfl (pgs_cons (pg_name (i := 7) sc_party_of.nd rfl (Or.inl rfl)) (pgs_cons (pg_name (i := 8) sc_party_of.nd rfl (Or.inl rfl)) (pgs_cons (pg_name (i := 9) sc_party_of.nd rfl (Or.inl rfl)) pgs_nil)))))
    (pss_cons (ps_par (i := 10) (j := 11) rfl sc_party_of.nd rfl rfl (by decide) rfl rfl (pa_cons (pe_cl c_natural hr (by decide) (by rfl) (pa_cons (pv 7) (pa_cons (pe_int) pa_nil))) (pa_cons (pe_cl c_natural hr (by decide) (by rfl) (pa_cons (pv 9) (pa_cons (pe_int) pa_nil))) pa_nil)) rfl)
    (pss_cons (ps_if (PW.pt (pw_or (pt_cmpR (op_isN) (pv 10) (pe_non) (nomark _)) (pw_or (pt_cmpR (op_isN) (pv 11) (pe_non) (nomark _)) (pw_or (pt_not (pt_chain (op_lt) (op_lt) (pv 10) (pv 11) (pv 4))) (pw_or1 (PW.pt (pw_and (pt_cmpR (op_neX (List (Int × Int)) hr.units) (pv 5) (pe_lst pa_nil) (nomark _)) (pw_and1 (pt_cmpR (op_leX (Int × Int) hr.units) (pe_tup (pa_cons (pv 10) (pa_cons (pv 11) pa_nil))) (pe_ix ix_list (pv 5) (pe_un un_neg (pe_int)) (fun _ _ => rfl)) (nomark _))))))))))
    (pss_one (ps_ret (pe_non)))
    (pss_nil))
    (pss_one (ps_expr (pe_bm PySem.F.plainAttrs_list PySem.F.slot_list_append PySem.F.type_list_append mt_append (pv 5) (pa_cons (pe_tup (pa_cons (pv 10) (pa_cons (pv 11) pa_nil))) pa_nil))))))))
    (pss_one (ps_ret (pe_tup (pa_cons (pv 4) (pa_cons (pv 5) pa_nil))))))))), ?_⟩
    refine ⟨_, rfl, _, _, _, _, _, rfl, .ty _, ty_str _, kit_ty k_str_str, true, rfl, ?_⟩
    refine ⟨_, rfl, ⟨_, rfl⟩, _, _, rfl, rfl, rfl, by rw [hline]; exact sz_le (by omega), fun p1 hp1 => ?_⟩
    rw [S_col, line_part]
    have s1 := same_new (o := .tup [.str (SX.S (TL.numL n)), .str (SX.S [58]), .str (SX.S (restL ps))]) hp1
    refine ⟨p1, _, rfl, sqT upd_same, rfl, _, _, rfl, _, _, rfl, _, _, rfl, rfl, ?_⟩
    refine ⟨_, rfl, n, 2, rfl, hn, by omega, fun H2 s2 => ⟨Nat.zero_le _, fun B hB => ⟨_, _, rfl, ?_⟩⟩⟩
    have s12 := s1.trans s2
    have hBH : H B = none := s12.free hB
    have s3 := Same.mut (o := .lst []) s12 hBH
    refine ⟨_, rfl, rfl, false, rfl, ?_⟩
    refine ⟨_, rfl, rfl, false, rfl, ?_⟩
    refine ⟨_, rfl, _, _, rfl, rfl, _, rfl, ?_⟩
    rw [show decide ((10 : Int) < (n : Nat)) = false from by simp; omega]
    refine ⟨_, rfl, _, rfl, _, rfl, by rw [hrest]; exact sz_le (by omega), ?_⟩
    refine ⟨sz_le (by show 2 ≤ 100000; decide), fun p3 hp3 => ?_⟩
    have hp3H := s3.free hp3
    have s4 := Same.mut (o := .tup [.str (Str.ofString ""), .str (Str.ofString " ")]) s3 hp3H
    have eB4 : (upd (upd H2 B (.lst [])) p3 (.tup [.str (Str.ofString ""), .str (Str.ofString " ")])) B = some (.lst []) := by
      rw [upd_ne (ne_of_none upd_same hp3)]
      exact upd_same
    have hin : inV (.str (Txt.slice (SX.S (restL ps)) none (some 1))) [.str (Str.ofString ""), .str (Str.ofString " ")] = true := by
      rw [SX.slice_to (by decide)]
      rcases rest_head ps with e | e
      · rw [show ((1 : Int).toNat) = 1 from rfl, e]
        decide +kernel
      · rw [show ((1 : Int).toNat) = 1 from rfl, e]
        decide +kernel
    refine ⟨p3, _, rfl, .inr (sqT upd_same), rfl, rfl, _, rfl, ?_⟩
    simp only [if_true, hin]
    refine ⟨_, rfl, ⟨_, rfl⟩, _, _, rfl, rfl, rfl, by rw [hrest]; exact sz_le (by omega), fun p4 hp4 => ?_⟩
    rw [show Txt.split (SX.S (restL ps)) (Str.ofString " ") = SX.S [] :: ps.map (fun p => SX.S (tieL p)) from rest_split ps]
    have s5 := s4.trans (same_new (o := .lst ((SX.S [] :: ps.map fun p => SX.S (tieL p)).map V.str)) hp4)
    refine ⟨_, rfl, p4, _, rfl, sqL upd_same, fun p5 hp5 => ?_⟩
    have ec : cutV ((SX.S [] :: ps.map fun p => SX.S (tieL p)).map V.str) (some 1) none = (ps.map fun p => SX.S (tieL p)).map V.str := by
      rw [show (1 : Int) = ((1 : Nat) : Int) from rfl, cut_from, List.map_cons]
      rfl
    rw [ec]
    have hp5H := s5.free hp5
    have s6 := Same.mut (o := .lst ((ps.map fun p => SX.S (tieL p)).map V.str)) s5 hp5H
    refine ⟨p5, rfl, ⟨_, sqL upd_same⟩, ?_⟩
    have nB4 : B ≠ p4 := ne_of_none eB4 hp4
    have nB5 : B ≠ p5 := ne_of_none (by rw [upd_ne nB4]; exact eB4) hp5
    generalize hHL : upd _ p5 (.lst ((ps.map fun p => SX.S (tieL p)).map V.str)) = HL at *
    have e5 : HL p5 = some (.lst ((ps.map fun p => SX.S (tieL p)).map V.str)) := by
      rw [← hHL]
      exact upd_same
    have eBL : HL B = some (.lst []) := by
      rw [← hHL, upd_ne nB5, upd_ne nB4]
      exact eB4
    have hlen : ((ps.map fun p => SX.S (tieL p)).map V.str).length = ps.length := by rw [List.length_map, List.length_map]
    refine c_for walk_list (fun i σ H' => (Same H H' ∧ H' p5 = some (.lst ((ps.map fun p => SX.S (tieL p)).map V.str)) ∧ Lis H' B (ps.take i)) ∧ ∃ y0 y1 y2 y3 x6 x7 x8 x9 x10 x11, σ = [y0, y1, y2, y3, some (.int (n : Nat)), some (.ref B), x6, x7, x8, x9, x10, x11])
      ⟨⟨s6, e5, [], eBL, Are.nil⟩, _, _, _, _, _, _, _, _, _, _, rfl⟩ (fun _ _ _ _ h => sqL h.1.2.1) ?_ ?_
    · rintro i z σ H3' H3 hi ⟨⟨sm, e53, L3⟩, y0, y1, y2, y3, x6, x7, x8, x9, x10, x11, rfl⟩ ⟨rfl, hz⟩
      rw [hlen] at hi
      have hpi : ps[i]? = some ps[i] := List.getElem?_eq_getElem hi
      have hm : ps[i] ∈ ps := List.getElem_mem hi
      have hasc := @asc_at _ _ _ ps t.asc
      generalize hpe : ps[i] = p at hpi hm
      have ez : z = .str (SX.S (tieL p)) := by
        rw [List.getElem?_map, List.getElem?_map, hpi] at hz
        exact (Option.some.inj hz).symm
      subst ez
      have l3 := tie_len hn (t.ok p hm)
      obtain ⟨i0, j0, rfl, hij, hj⟩ := t.nat hm
      have hS : (SX.S (tieL ((i0 : Int), (j0 : Int)))).length = 3 := by rw [SX.S_len, l3]
      refine ⟨_, rfl, ⟨_, rfl⟩, _, _, rfl, rfl, rfl, by rw [hS]; exact sz_le (by decide), fun q1 hq1 => ?_⟩
      rw [S_hyp, tie_part]
      have u1 := same_new (o := .tup [.str (SX.S (TL.numL (i0 : Int).toNat)), .str (SX.S [45]), .str (SX.S (TL.numL (j0 : Int).toNat))]) hq1
      refine ⟨q1, _, rfl, sqT upd_same, rfl, _, _, rfl, _, _, rfl, _, _, rfl, rfl, ?_⟩
      have k1 : (TL.numL i0).length = 1 := by rw [num1 (by omega)]; rfl
      have k2 : (TL.numL j0).length = 1 := by rw [num1 (by omega)]; rfl
      refine ⟨_, rfl, i0, 1, rfl, by omega, by rw [k1]; decide, fun H4 u2 => ?_⟩
      refine ⟨_, rfl, j0, 1, rfl, by omega, by rw [k2]; decide, fun H5 u3 => ⟨_, _, rfl, ?_⟩⟩
      have u := (u1.trans u2).trans u3
      refine ⟨_, rfl, rfl, false, rfl, ?_⟩
      refine ⟨_, rfl, rfl, false, rfl, ?_⟩
      refine ⟨_, rfl, _, rfl, _, _, rfl, rfl, _, rfl, ?_⟩
      rw [show decide (((i0 : Nat) : Int) < (j0 : Nat)) = true from by simp; omega]
      refine ⟨_, rfl, _, _, rfl, rfl, _, rfl, ?_⟩
      rw [show decide (((j0 : Nat) : Int) < (n : Nat)) = true from by simp; omega]
      have L5 := L3.mono u
      have sm5 := sm.trans u
      have e55 := u _ _ e53
      refine ⟨_, rfl, Nat.zero_le _, fun q2 hq2 => ?_⟩
      have w1 := same_new (o := .lst []) hq2
      have L6 := L5.mono w1
      have sm6 := sm5.trans w1
      have e56 := w1 _ _ e55
      -- the append at the end
      have last : ∀ H7, Same H H7 → H7 p5 = some (.lst ((ps.map fun p => SX.S (tieL p)).map V.str)) → Lis H7 B (ps.take i) →
          ∀ m, H7 m = none → ∃ l xs y, V.ref B = V.ref l ∧ [V.ref m] = [y] ∧ upd H7 m (.tup [.int (i0 : Nat), .int (j0 : Nat)]) l = some (.lst xs) ∧ xs.length < sizeLine ∧
          ((Same H (upd (upd H7 m (.tup [.int (i0 : Nat), .int (j0 : Nat)])) l (.lst (xs ++ [y]))) ∧ upd (upd H7 m (.tup [.int (i0 : Nat), .int (j0 : Nat)])) l (.lst (xs ++ [y])) p5 = some (.lst ((ps.map fun p => SX.S (tieL p)).map V.str)) ∧ Lis (upd (upd H7 m (.tup [.int (i0 : Nat), .int (j0 : Nat)])) l (.lst (xs ++ [y]))) B (ps.take (i + 1)))) := by
        intro H7 s7 e7 L7 m hm7
        have v1 := same_new (o := .tup [.int (i0 : Nat), .int (j0 : Nat)]) hm7
        obtain ⟨ws, eW, aW⟩ := L7
        have kT : SameT _ (upd (upd H7 m (.tup [.int (i0 : Nat), .int (j0 : Nat)])) B (.lst (ws ++ [.ref m]))) := SameT.lst (v1 _ _ eW)
        have lw := aW.length
        rw [List.length_take] at lw
        refine ⟨B, ws, .ref m, rfl, rfl, v1 _ _ eW, sz_lt (by omega), Same.mut (s7.trans v1) hBH, by rw [upd_ne (Ne.symm nB5)]; exact v1 _ _ e7, ws ++ [.ref m], upd_same, ?_⟩
        rw [List.take_add_one, hpi]
        exact ((aW.mono (.of v1)).append (Are.one (is_tie upd_same))).mono kT
      refine ⟨ps.take i, [], L6.dv, (show Lis _ q2 ([] : List Tie) from ⟨[], upd_same, Are.nil⟩).dv, _, rfl, ?_⟩
      have tail : ∀ H7, Same H H7 → H7 p5 = some (.lst ((ps.map fun p => SX.S (tieL p)).map V.str)) → Lis H7 B (ps.take i) → ∀ (y0 y1 y2 y3 x6 x7 x8 x9 : Option V), 
          tDrop (tBM K "list" rAppend (tVar 5) (tCons (tTup (tCons (tVar 10) (tCons (tVar 11) tNil))) tNil)) { nx := fun σ H' => (Same H H' ∧ H' p5 = some (.lst ((ps.map fun p => SX.S (tieL p)).map V.str)) ∧ Lis H' B (ps.take (i + 1))) ∧ ∃ y0 y1 y2 y3 x6 x7 x8 x9 x10 x11, σ = [y0, y1, y2, y3, some (.int (n : Nat)), some (.ref B), x6, x7, x8, x9, x10, x11], rt := Q }
            [y0, y1, y2, y3, some (.int (n : Nat)), some (.ref B), x6, x7, x8, x9, some (.int (i0 : Nat)), some (.int (j0 : Nat))] H7 := by
        intro H7 s7 e7 L7 y0 y1 y2 y3 x6 x7 x8 x9
        obtain ⟨ws, eW, aW⟩ := id L7
        refine ⟨_, rfl, .inl ⟨rfl, _, sqL eW⟩, _, rfl, _, rfl, sz_le (by show 2 ≤ 100000; decide), fun m hm7 => ?_⟩
        obtain ⟨l, xs, y, h1, h2, h3, h4, h5⟩ := last H7 s7 e7 L7 m hm7
        exact ⟨l, xs, y, h1, h2, h3, h4, h5, _, _, _, _, _, _, _, _, _, _, rfl⟩
      by_cases hz0 : ps.take i = []
      · rw [show decide (ps.take i ≠ []) = false from by simp only [hz0]; rfl]
        exact tail _ sm6 e56 L6 _ _ _ _ _ _ _ _
      · rw [show decide (ps.take i ≠ []) = true from by simpa using hz0]
        have hi0 : 0 < i := Nat.pos_of_ne_zero fun z => hz0 (by rw [z]; rfl)
        refine ⟨_, rfl, _, rfl, sz_le (by show 2 ≤ 100000; decide), fun q3 hq3 => ?_⟩
        have w2 := same_new (o := .tup [.int (i0 : Nat), .int (j0 : Nat)]) hq3
        obtain ⟨ws, eW, aW⟩ := id L6
        have hpi1 : ps[i - 1]? = some (ps[i - 1]'(by omega)) := List.getElem?_eq_getElem _
        have hti : (ps.take i)[i - 1]? = some (ps[i - 1]'(by omega)) := by rw [List.getElem?_take_of_lt (by omega)]; exact hpi1
        obtain ⟨v, hv, iv⟩ := aW.at' hti
        have lw := aW.length
        rw [List.length_take, Nat.min_eq_left (by omega)] at lw
        have hlast : ws.getLast? = some v := by rw [List.getLast?_eq_getElem?, lw]; exact hv
        refine ⟨_, rfl, _, rfl, B, ws, _, v, rfl, rfl, sqL (w2 _ _ eW), atI_neg1 hlast, ?_⟩
        refine ⟨((i0 : Int), (j0 : Int)), _, (is_tie upd_same).dv, (iv.mono (.of w2)).dv, _, rfl, ?_⟩
        rw [hasc (by omega) hpi1 hpi]
        exact tail _ (sm6.trans w2) (w2 _ _ e56) (L6.mono w2) _ _ _ _ _ _ _ _
    · rintro σ H3 ⟨⟨sm, e53, L3⟩, y0, y1, y2, y3, x6, x7, x8, x9, x10, x11, rfl⟩
      rw [hlen, List.take_of_length_le (Nat.le_refl _)] at L3
      refine ⟨_, rfl, _, rfl, sz_le (by show 2 ≤ 100000; decide), fun m hm => ?_⟩
      have v1 := same_new (o := .tup [.int (n : Nat), .ref B]) hm
      exact q _ _ (sm.trans v1) ⟨m, B, rfl, upd_same, L3.mono v1⟩
end
end FT

/-! FD9: the checker's orders. -/
namespace FT
open PySem PySem.Spec PyProof.Rows L2
open PySem.W (Datum DatumOrd Tup)
section
variable {J : It} {n : Nat} {G : Hp → Prop} {Y : Nat → Hp → V → Hp → Prop} {g g1 : TG} {tt tt1 : TT} {te : TE} {wi1 : TI} {vs vs1 : List Nat} {σ : L2.St} {H1 : Hp} {Qd : Addr → Hp → Prop}
/-- a comprehension of two walks -/
theorem c_lc2 (w : Walk J n G Y) (Pv : Addr → Nat → Hp → Prop) (h0 : ∀ D, H1 D = none → Pv D 0 (upd H1 D (.lst []))) (hG : ∀ D i H, i ≤ n → Pv D i H → G H)
    (hs : ∀ D i x H H', H1 D = none → i < n → Pv D i H → Y i H x H' → g x (wipe σ vs) H' fun σ2 H2 => wipe σ2 vs = wipe σ vs ∧ tt σ2 H2 fun b H3 => if b = true then wi1 σ2 H3 fun J1 H4 => ∃ W1 : Nat → Nat → Hp → Prop, (∃ m, W1 0 m H4) ∧ ∀ j k H, W1 j k H →
      (J1.stop j H ∧ Pv D (i + 1) H) ∨ (J1.go j H ∧ ∃ Nx1 : Hp → Prop, (∀ H', Nx1 H' → ∃ k', k' < k ∧ W1 (j + 1) k' H') ∧ ∀ x H', J1.yld j H x H' → g1 x (wipe σ2 vs1) H' fun σ3 H5 => wipe σ3 vs1 = wipe σ2 vs1 ∧ tt1 σ3 H5 fun b H6 =>
        if b = true then te σ3 H6 fun y H7 => ∃ acc, H7 D = some (.lst acc) ∧ acc.length < sizeLine ∧ Nx1 (upd H7 D (.lst (acc ++ [y]))) else Nx1 H6) else Pv D (i + 1) H3)
    (hd : ∀ D H, H1 D = none → Pv D n H → Qd D H) :
    ∀ D, H1 D = none → ∃ W : Nat → Nat → Hp → Prop, (∃ m, W 0 m (upd H1 D (.lst []))) ∧ ∀ i m H, W i m H →
      (J.stop i H ∧ Qd D H) ∨ (J.go i H ∧ ∃ Nx : Hp → Prop, (∀ H', Nx H' → ∃ m', m' < m ∧ W (i + 1) m' H') ∧ ∀ x H', J.yld i H x H' → g x (wipe σ vs) H' fun σ2 H2 => wipe σ2 vs = wipe σ vs ∧ tt σ2 H2 fun b H3 =>
        if b = true then wi1 σ2 H3 fun J1 H4 => ∃ W1 : Nat → Nat → Hp → Prop, (∃ m, W1 0 m H4) ∧ ∀ j k H, W1 j k H →
          (J1.stop j H ∧ Nx H) ∨ (J1.go j H ∧ ∃ Nx1 : Hp → Prop, (∀ H', Nx1 H' → ∃ k', k' < k ∧ W1 (j + 1) k' H') ∧ ∀ x H', J1.yld j H x H' → g1 x (wipe σ2 vs1) H' fun σ3 H5 => wipe σ3 vs1 = wipe σ2 vs1 ∧ tt1 σ3 H5 fun b H6 =>
            if b = true then te σ3 H6 fun y H7 => ∃ acc, H7 D = some (.lst acc) ∧ acc.length < sizeLine ∧ Nx1 (upd H7 D (.lst (acc ++ [y]))) else Nx1 H6) else Nx H3) := by
  intro D hD
  refine ⟨fun i m H => m = n - i ∧ i ≤ n ∧ Pv D i H, ⟨n, by simp, Nat.zero_le _, h0 D hD⟩, ?_⟩
  rintro i m H ⟨rfl, hi, p⟩
  have q := hG D i H hi p
  by_cases hlt : i < n
  · exact .inr ⟨w.goes i H hlt q, Pv D (i + 1), fun H' p' => ⟨n - (i + 1), by omega, rfl, hlt, p'⟩, fun x H' y => hs D i x H H' hD hlt p (w.yields i H x H' hlt q y)⟩
  · have e : i = n := by omega
    subst e
    exact .inl ⟨w.stops H q, hd D H hD p⟩
/-- .. the inner walk -/
theorem c_in {σ2 : L2.St} {D : Addr} {H4 : Hp} {NX : Hp → Prop} (w : Walk J n G Y) (Pv : Nat → Hp → Prop) (h0 : Pv 0 H4) (hG : ∀ i H, i ≤ n → Pv i H → G H)
    (hs : ∀ i x H H', i < n → Pv i H → Y i H x H' → g1 x (wipe σ2 vs1) H' fun σ3 H5 => wipe σ3 vs1 = wipe σ2 vs1 ∧ tt1 σ3 H5 fun b H6 => if b = true then te σ3 H6 fun y H7 => ∃ acc, H7 D = some (.lst acc) ∧ acc.length < sizeLine ∧ Pv (i + 1) (upd H7 D (.lst (acc ++ [y]))) else Pv (i + 1) H6)
    (hd : ∀ H, Pv n H → NX H) : ∃ W1 : Nat → Nat → Hp → Prop, (∃ m, W1 0 m H4) ∧ ∀ j k H, W1 j k H →
      (J.stop j H ∧ NX H) ∨ (J.go j H ∧ ∃ Nx1 : Hp → Prop, (∀ H', Nx1 H' → ∃ k', k' < k ∧ W1 (j + 1) k' H') ∧ ∀ x H', J.yld j H x H' → g1 x (wipe σ2 vs1) H' fun σ3 H5 => wipe σ3 vs1 = wipe σ2 vs1 ∧ tt1 σ3 H5 fun b H6 =>
        if b = true then te σ3 H6 fun y H7 => ∃ acc, H7 D = some (.lst acc) ∧ acc.length < sizeLine ∧ Nx1 (upd H7 D (.lst (acc ++ [y]))) else Nx1 H6) := by
  refine ⟨fun i m H => m = n - i ∧ i ≤ n ∧ Pv i H, ⟨n, by simp, Nat.zero_le _, h0⟩, ?_⟩
  rintro i m H ⟨rfl, hi, p⟩
  have q := hG i H hi p
  by_cases hlt : i < n
  · exact .inr ⟨w.goes i H hlt q, Pv (i + 1), fun H' p' => ⟨n - (i + 1), by omega, rfl, hlt, p'⟩, fun x H' y => hs i x H H' hlt p (w.yields i H x H' hlt q y)⟩
  · have e : i = n := by omega
    subst e
    exact .inl ⟨w.stops H q, hd H p⟩
end
/-- the orders of xs, as lists -/
def spOC (M : Nat) : Sp := fun vs H Q _ => ∃ (a : Addr) (xs : List Int), vs = [.ref a] ∧ Lis H a xs ∧ xs.length ≤ 6 ∧ xs.length < M ∧
  ∀ (p : Addr) (H' : Hp) (qs : List Addr) (rs : List (List Int)), Same H H' → H' p = some (.lst (qs.map V.ref)) → Lss H' qs rs → (H p = none ∧ ∀ q ∈ qs, H q = none) → (∀ r ∈ rs, r.Perm xs) → rs.length = fact xs.length → Q (.ref p) H'
/-- the list of lists at D, while it grows -/
structure Grow (H H' : Hp) (D : Addr) (qs : List Addr) (rs : List (List Int)) : Prop where
  same : Same H H'
  at_ : H' D = some (.lst (qs.map V.ref))
  all : Lss H' qs rs
  off : D ∉ qs
  new : ∀ q ∈ qs, H q = none
theorem Grow.same' {H H' H'' : Hp} {D : Addr} {qs : List Addr} {rs : List (List Int)} (h : Grow H H' D qs rs) (s : Same H' H'') : Grow H H'' D qs rs := ⟨h.same.trans s, s _ _ h.at_, h.all.mono s, h.off, h.new⟩
theorem Grow.add {H H' : Hp} {D : Addr} {qs : List Addr} {rs : List (List Int)} {q : Addr} {r : List Int} (h : Grow H H' D qs rs) (hD : H D = none) (lq : Lis H' q r) (hq : q ≠ D) (hn : H q = none) : Grow H (upd H' D (.lst (qs.map V.ref ++ [V.ref q]))) D (qs ++ [q]) (rs ++ [r]) := by
  refine ⟨Same.mut h.same hD, by rw [List.map_append]; exact upd_same, ?_, ?_, ?_⟩
  · refine (h.all.off h.at_ h.off).append (.cons ?_ .nil)
    exact lq.monoT (SameT.lst h.at_) fun vs e => by rw [upd_ne hq]; exact e
  · intro m
    rcases List.mem_append.mp m with m | m
    · exact h.off m
    · exact hq (by simpa using m : D = q).symm
  · intro r hr
    rcases List.mem_append.mp hr with m | m
    · exact h.new r m
    · have e : r = q := by simpa using m
      rw [e]
      exact hn
section
variable {P : Program} {w : World} {K : PySem.W.Frag} {mg : Str → Option Value} {base : Heap} {f : Addr} {fd : FuncData} {x qual : Str}
theorem ok_OC (T : Top K mg w) (mk : ∀ k sp, FnOk P w K mg base CX0 k f fd P_orders_of_c sp → Cl P w K mg base k "orders_of_checker" sp) (F : FnP K x qual s_orders_of_c f fd) : ∀ M, FnOk P w K mg base CX0 (M + 1) f fd P_orders_of_c (spOC M) := by
  intro M
  induction M with
  | zero =>
    exact fn_by F sc_orders_of_c (fun _ _ _ _ ⟨_, _, e, _⟩ => e ▸ rfl) fun cdv A outer s H vs Q E hr hsp => by
      obtain ⟨_, _, _, _, _, h, _⟩ := hsp
      exact absurd h (Nat.not_lt_zero _)
  | succ M ih =>
    have c_orders_of_checker := mk _ _ ih
    exact fn_by F sc_orders_of_c (fun _ _ _ _ ⟨_, _, e, _⟩ => e ▸ rfl) fun cdv A outer s H vs Q E hr hsp => by
      obtain ⟨a, xs, rfl, lx, h6, hM, q⟩ := hsp
      have ea := lx.ints
      refine ⟨_, pss_cons (ps_if (pt_cmpR (op_eqX (List Int) hr.units) (pv 0) (pe_lst pa_nil) (nomark _))
    (pss_one (ps_ret (pe_lst (pa_cons (pe_lst pa_nil) pa_nil))))
    (pss_nil))
    (pss_one (ps_ret (pe_lc2 (own := [("k", 1), ("one", 2), ("rest", 3)]) (vs1 := [3]) rfl sc_orders_of_c.nd (pi_enum (by rfl) T.n_enumerate (pa_cons (pv 0) pa_nil)) (blkOk_by (own := [("k", 1), ("one", 2), ("rest", 3)]) (N := N_orders_of_c) (sc := defScope s_orders_of_c) (by decide +kernel)) (by decide) (fun _ _ _ _ _ => pg_tupK K rfl 2 rfl (pgs_cons (pg_name (i := 1) sc_orders_of_c.nd rfl (Or.inl rfl)) (pgs_cons (pg_name (i := 2) sc_orders_of_c.nd rfl (Or.inl rfl)) pgs_nil))) (fun _ _ _ _ _ => pts_nil) (fun _ _ _ _ _ => pi_listK K rfl (pe_cl c_orders_of_checker hr (Nat.le_refl _) (by rfl) (pa_cons (pe_op op_cat (pe_slice (sl_listK K rfl) (pv 0) (po_none) (po_some (pv 1))) (pe_slice (sl_listK K rfl) (pv 0) (po_some (pe_op op_add (pv 1) (pe_int))) (po_none))) pa_nil))) (fun _ _ _ _ _ => pg_name (i := 3) sc_orders_of_c.nd rfl (Or.inl rfl)) (fun _ _ _ _ _ => pts_nil) (fun _ _ _ _ _ => pe_lst (pa_cons (pv 2) (pa_starK K rfl (pv 3) pa_nil)))))), ?_⟩
      refine ⟨_, rfl, Nat.zero_le _, fun p0 hp0 => ?_⟩
      have s0 := same_new (o := .lst []) hp0
      refine ⟨xs, [], (lx.mono s0).dv, (show Lis _ p0 ([] : List Int) from ⟨[], upd_same, Are.nil⟩).dv, _, rfl, ?_⟩
      by_cases hnil : xs = []
      · rw [decide_eq_true hnil]
        refine ⟨Nat.zero_le _, fun p1 hp1 => ⟨sz_le (by show 1 ≤ 100000; decide), fun p2 hp2 => ?_⟩⟩
        have s1 := same_new (o := .lst []) hp1
        have s2 := same_new (o := .lst [.ref p1]) hp2
        refine q p2 _ [p1] [[]] ((s0.trans s1).trans s2) upd_same (.cons ⟨[], s2 _ _ upd_same, Are.nil⟩ .nil) ⟨(s0.trans s1).free hp2, fun q hq => ?_⟩ (fun r hr' => ?_) (by rw [hnil]; rfl)
        · have : q = p1 := by simpa using hq
          rw [this]
          exact s0.free hp1
        have : r = [] := by simpa using hr'
        rw [this, hnil]
      · rw [decide_eq_false hnil]
        have ea0 := s0 _ _ ea
        refine ⟨_, rfl, a, _, rfl, sqL ea0, ?_⟩
        have hlen : (xs.map V.int).length = xs.length := List.length_map _
        have f1 : fact (xs.length - 1) ≤ 720 := fact_small (by omega)
        refine c_lc2 walk_enum (fun D i H' => ∃ qs rs, Grow H H' D qs rs ∧ (∀ r ∈ rs, r.Perm xs) ∧ rs.length = i * fact (xs.length - 1)) (fun D hD => ⟨[], [], ⟨s0.trans (same_new hD), upd_same, .nil, List.not_mem_nil, fun _ h => absurd h List.not_mem_nil⟩, fun _ h => absurd h List.not_mem_nil, by rw [Nat.zero_mul]; rfl⟩)
          (fun D i H' _ ⟨qs, rs, gr, _⟩ => sqL (gr.same _ _ ea)) ?_ ?_
        · rintro D i z H2 H2' hD hi ⟨qs, rs, gr, hrs, hlr⟩ ⟨g, x', y', rfl, hg, rfl, e1, e2⟩
          cases e1
          have hDH : H D = none := s0.free hD
          rw [hlen] at hi
          obtain ⟨y, rfl, hy⟩ : ∃ y, y' = .int y ∧ xs[i]? = some y := by
            have e2' : (xs.map V.int)[i]? = some y' := e2
            rw [List.getElem?_map] at e2'
            obtain ⟨y, h1, h2⟩ := Option.map_eq_some_iff.mp e2'
            exact ⟨y, h2.symm, h1⟩
          have sg : Same H2 (upd H2 g (.tup [.int (i : Nat), .int y])) := same_new hg
          have s3 := gr.same.trans sg
          refine ⟨g, _, rfl, sqT upd_same, rfl, _, _, rfl, _, _, rfl, rfl, rfl, ?_⟩
          refine ⟨_, rfl, _, rfl, _, rfl, a, _, rfl, sqL (s3 _ _ ea), fun p1 hp1 => ?_⟩
          have t1 := same_new (o := .lst (cutV (xs.map V.int) none (some ((i : Nat) : Int)))) hp1
          refine ⟨_, rfl, _, rfl, _, _, rfl, rfl, _, rfl, a, _, rfl, sqL ((s3.trans t1) _ _ ea), fun p2 hp2 => ?_⟩
          have t2 := same_new (o := .lst (cutV (xs.map V.int) (some (((i : Nat) : Int) + 1)) none)) hp2
          have c1 : cutV (xs.map V.int) none (some ((i : Nat) : Int)) = (xs.take i).map V.int := by rw [cut_to, List.map_take]
          have c2 : cutV (xs.map V.int) (some (((i : Nat) : Int) + 1)) none = (xs.drop (i + 1)).map V.int := by rw [show ((i : Nat) : Int) + 1 = ((i + 1 : Nat) : Int) from by omega, cut_from, List.map_drop]
          refine ⟨p1, p2, _, _, rfl, rfl, t2 _ _ upd_same, upd_same, ?_, fun p3 hp3 => ?_⟩
          · rw [c1, c2, List.length_map, List.length_map, List.length_take, List.length_drop]
            exact sz_le (by omega)
          have t3 := same_new (o := .lst (cutV (xs.map V.int) none (some ((i : Nat) : Int)) ++ cutV (xs.map V.int) (some (((i : Nat) : Int) + 1)) none)) hp3
          have el : (xs.eraseIdx i).length = xs.length - 1 := by rw [List.length_eraseIdx_of_lt hi]
          refine ⟨p3, xs.eraseIdx i, rfl, lis_ints (upd_same.trans ?_), by rw [el]; omega, by rw [el]; omega, fun p4 H3 qs' rs' s5 e5 L5 ⟨n4, nq⟩ hm5 hl5 => ?_⟩
          · rw [c1, c2, ← List.map_append, ← List.eraseIdx_eq_take_drop_succ]
          rw [el] at hl5
          have l5 := L5.length
          have sall := sg.trans (t1.trans (t2.trans (t3.trans s5)))
          have gr3 := gr.same' sall
          have eD3 := (sg.trans (t1.trans (t2.trans t3))) _ _ gr.at_
          have nD4 : D ≠ p4 := ne_of_none eD3 n4
          have nDq : D ∉ qs' := fun m => ne_of_none eD3 (nq _ m) rfl
          have hlb : i * fact (xs.length - 1) ≤ 6 * 720 := Nat.mul_le_mul (by omega) f1
          refine ⟨p4, rfl, ⟨_, sqL e5⟩, ?_⟩
          refine c_in walk_list (fun j H' => (∃ qs rs, Grow H H' D qs rs ∧ (∀ r ∈ rs, r.Perm xs) ∧ rs.length = i * fact (xs.length - 1) + j) ∧ H' p4 = some (.lst (qs'.map V.ref)) ∧ Lss H' qs' rs') ⟨⟨qs, rs, gr3, hrs, hlr⟩, e5, L5⟩ (fun j H' _ h => sqL h.2.1) ?_ ?_
          · rintro j z H5' H5 hj ⟨⟨qs5, rs5, gr5, hrs5, hlr5⟩, e55, L55⟩ ⟨rfl, hz⟩
            obtain ⟨b, rfl, hb⟩ := map_ref_get hz
            obtain ⟨r, hr', lr⟩ := L55.at hb
            have er := lr.ints
            have hrp := hm5 r (List.mem_of_getElem? hr')
            have hrl : r.length = xs.length - 1 := by rw [← el]; exact hrp.length_eq
            refine ⟨rfl, _, rfl, _, rfl, b, _, rfl, .inr (sqL er), ?_⟩
            refine ⟨by rw [List.append_nil, List.length_cons, List.length_map]; exact sz_le (by omega), fun m hm => ?_⟩
            have s6 := same_new (o := .lst (.int y :: (r.map V.int ++ []))) hm
            have gr6 := gr5.same' s6
            have lm : Lis (upd H5 m (.lst (.int y :: (r.map V.int ++ [])))) m (y :: r) := lis_ints (upd_same.trans (by rw [List.append_nil]; rfl))
            have nmD : m ≠ D := fun z => by
              rw [z, gr5.at_] at hm
              cases hm
            have l5' := gr5.all.length
            rw [List.length_map] at hj
            have gr7 := gr6.add hDH lm nmD (gr5.same.free hm)
            refine ⟨_, gr6.at_, by rw [List.length_map, l5', hlr5]; exact sz_lt (by omega), ⟨_, _, gr7, fun r2 h2 => ?_, by rw [List.length_append, hlr5]; rfl⟩, ?_, ?_⟩
            · rcases List.mem_append.mp h2 with h2 | h2
              · exact hrs5 r2 h2
              · have e2 : r2 = y :: r := by simpa using h2
                rw [e2]
                exact perm_pick.mpr (.inr ⟨i, y, r, hy, rfl, hrp⟩)
            · rw [upd_ne (Ne.symm nD4)]
              exact s6 _ _ e55
            · exact (L55.mono s6).off gr6.at_ nDq
          · rintro H5 ⟨⟨qs5, rs5, gr5, hrs5, hlr5⟩, _, _⟩
            rw [List.length_map, l5, hl5] at hlr5
            exact ⟨qs5, rs5, gr5, hrs5, by rw [hlr5, Nat.add_mul, Nat.one_mul]⟩
        · rintro D H' hD ⟨qs, rs, gr, hrs, hlr⟩
          rw [hlen] at hlr
          refine q D H' qs rs gr.same gr.at_ gr.all ⟨s0.free hD, gr.new⟩ hrs ?_
          rw [hlr]
          cases hx : xs.length with
          | zero => exact absurd (List.length_eq_zero_iff.mp hx) hnil
          | succ m => rfl
end
end FT

/-! FD10: is_about_parties, accepts. -/
namespace FT
open PySem PySem.Spec PyProof.Rows L2
open PySem.W (Datum DatumOrd Tup)
/-- what the checker accepts -/
structure Good (word : Str) (n : Nat) (ps qs : List Tie) (r : List Int) : Prop where
  tp : Ties n ps
  tq : Ties n qs
  hn : n ≤ 10
  perm : PermN n r
  eq : ren ps r = qs
  word : word = "alike" ∨ (word = "shape" ∧ n ≤ 6 ∧ Least (Img n ps) qs)
def spAbout : Sp := fun vs H Q _ => ∃ (word : Str) (u v z : V) (n : Nat) (ps qs : List Tie) (r : List Int), vs = [.str word, u, v, z] ∧ PO H u n ps ∧ PO H v n qs ∧ Is H z (Tup.mk r) ∧ Good word n ps qs r ∧ ∀ H', Same H H' → Q (.bl true) H'
def spAccepts : Sp := fun vs H Q _ => ∃ (word : Str) (c : Addr) (z : V) (n : Nat) (ps qs : List Tie) (r : List Int), vs = [.ref c, z] ∧ H c = some (.tup [.str word, .str (line n ps), .str (line n qs)]) ∧ Is H z (Tup.mk r) ∧ Good word n ps qs r ∧ ∀ H', Same H H' → Q (.bl true) H'
theorem int_eq_self (n : Int) : decide (V.int n = V.int n) = true := by simp
theorem shape_ne : decide (V.str (Str.ofString "shape") = V.str (Str.ofString "alike")) = false := by decide +kernel
section
variable {P : Program} {w : World} {K : PySem.W.Frag} {mg : Str → Option Value} {base : Heap} {f : Addr} {fd : FuncData} {x qual : Str}
theorem ok_is_about_parties (T : Top K mg w) (c_are_people : Cl P w K mg base 3 "are_people" spAreP) (c_renamed_checker : Cl P w K mg base 1 "renamed_checker" spRenC) (c_orders_of_checker : Cl P w K mg base 8 "orders_of_checker" (spOC 7)) (F : FnP K x qual s_is_about_parties f fd) :
    FnOk P w K mg base CX0 9 f fd P_is_about_parties spAbout :=
  fn_by F sc_is_about_parties (fun _ _ _ _ ⟨_, _, _, _, _, _, _, _, e, _⟩ => e ▸ rfl) fun cdv A outer s H vs Q E hr hsp => by
    obtain ⟨word, u, v, z, n, ps, qs, r, rfl, ⟨a, b, rfl, ea, lb⟩, ⟨a', b', rfl, ea', lb'⟩, iz, G, q⟩ := hsp
    obtain ⟨c, rfl, ec⟩ := of_tupI iz
    have hlen : (r.map V.int).length = n := by rw [List.length_map, G.perm.len]
    have hn := G.hn
    refine ⟨_, pss_cons (ps_if (PW.pt (pw_or (pt_cmpR (op_isN) (pv 1) (pe_non) (nomark _)) (pw_or (pt_cmpR (op_isN) (pv 2) (pe_non) (nomark _)) (pw_or1 (pt_cmpR (op_ne) (pe_ix ix_tup (pv 1) (pe_int) (fun _ _ => rfl)) (pe_ix ix_tup (pv 2) (pe_int) (fun _ _ => rfl)) (nomark _))))))
    (pss_one (ps_ret (pe_bl)))
    (pss_nil))
    (pss_cons (ps_asg (pv 1) (pg_tup rfl (pgs_cons (pg_name (i := 4) sc_is_about_parties.nd rfl (Or.inl rfl)) (pgs_cons (pg_name (i := 5) sc_is_about_parties.nd rfl (Or.inr rfl)) pgs_nil))))
    (pss_cons (ps_if (PW.pt (pw_or (pt_not (pt_val (pe_cl c_are_people hr (by decide) (by rfl) (pa_cons (pv 3) (pa_cons (pv 4) pa_nil))))) (pw_or (pt_cmpR (op_ne) (pe_callB (call_len_seq) (by rfl) T.n_len bt_len (pa_cons (pv 3) pa_nil)) (pv 4) (nomark _)) (pw_or1 (pt_cmpR (op_neX (List (Int × Int)) hr.units) (pe_cl c_renamed_checker hr (by decide) (by rfl) (pa_cons (pv 5) (pa_cons (pv 3) pa_nil))) (pe_ix ix_tup (pv 2) (pe_int) (fun _ _ => rfl)) (nomark _))))))
    (pss_one (ps_ret (pe_bl)))
    (pss_nil))
    (pss_cons (ps_if (pt_cmpR (op_eq) (pv 0) (pe_str) (nomark _))
    (pss_one (ps_ret (pe_bl)))
    (pss_nil))
    (pss_cons (ps_if (pt_cmpR (op_gt) (pv 4) (pe_gi (by rfl) T.m_MOST_SHAPED) (nomark _))
    (pss_one (ps_ret (pe_bl)))
    (pss_nil))
    (pss_one (ps_ret (pe_not (pe_callB (cr_any rfl) (by rfl) T.n_any bt_any (pa_cons (pe_lc (own := [("row", 6)]) rfl sc_is_about_parties.nd (pi_list (pe_cl c_orders_of_checker hr (by decide) (by rfl) (pa_cons (pe_listRg rfl (by rfl) T.n_list (prg_1 (by rfl) T.n_range (pv 4))) pa_nil))) (blkOk_by (own := [("row", 6)]) (N := N_is_about_parties) (sc := defScope s_is_about_parties) (by decide +kernel)) (fun _ _ _ _ _ => pg_name (i := 6) sc_is_about_parties.nd rfl (Or.inl rfl)) (fun _ _ _ _ _ => pts_nil) (fun _ _ _ _ _ => pe_cmpR (op_ltXK K rfl (List (Int × Int)) hr.units) (pe_cl c_renamed_checker hr (by decide) (by rfl) (pa_cons (pv 5) (pa_cons (pv 6) pa_nil))) (pe_ix (ix_tupK K rfl) (pv 2) (pe_int) (fun _ _ => rfl)) (nomark _))) pa_nil))))))))), ?_⟩
    refine ⟨_, rfl, rfl, false, rfl, ?_⟩
    refine ⟨_, rfl, rfl, false, rfl, ?_⟩
    refine ⟨_, rfl, a, _, 0, _, rfl, rfl, sqT ea, rfl, _, rfl, a', _, 0, _, rfl, rfl, sqT ea', rfl, rfl, _, rfl, ?_⟩
    rw [int_eq_self]
    refine ⟨_, rfl, a, _, rfl, sqT ea, rfl, _, _, rfl, _, _, rfl, rfl, ?_⟩
    refine ⟨_, rfl, _, rfl, _, n, r, rfl, iz, G.perm, hn, fun H1 s1 => ⟨true, rfl, ?_⟩⟩
    refine ⟨_, rfl, c, _, rfl, .inr (sqT (s1 _ _ ec)), _, rfl, rfl, _, rfl, ?_⟩
    rw [hlen, int_eq_self]
    refine ⟨_, rfl, _, rfl, b, _, n, ps, r, rfl, lb.mono s1, ⟨c, rfl, .inr (s1 _ _ ec)⟩, ⟨G.tp, G.perm, hn⟩, fun p H2 hp s2 L2 => ?_⟩
    have s12 := s1.trans s2
    refine ⟨_, rfl, a', _, 1, _, rfl, rfl, sqT (s12 _ _ ea'), rfl, _, _, L2.dv, (lb'.mono s12).dv, _, rfl, ?_⟩
    rw [show decide (ren ps r ≠ qs) = false from by simp [G.eq]]
    rcases G.word with hw | ⟨hw, h6, hL⟩
    · subst hw
      exact ⟨_, rfl, rfl, true, by simp, q _ s12⟩
    · subst hw
      refine ⟨_, rfl, rfl, _, rfl, ?_⟩
      rw [shape_ne]
      refine ⟨_, rfl, _, _, rfl, rfl, _, rfl, ?_⟩
      rw [show decide ((6 : Int) < (n : Nat)) = false from by simp; omega]
      refine ⟨_, rfl, _, rfl, RgOk.of_le (by decide) (by omega) (by decide) (by omega), fun p1 hp1 => ?_⟩
      have t1 := same_new (o := .lst (rgV 0 ((n : Nat) : Int))) hp1
      refine ⟨p1, rg n, rfl, lis_ints (upd_same.trans (by rw [rgV_eq])), by rw [rg_len]; exact h6, by rw [rg_len]; omega, fun p2 H3 qs3 rs t2 e3 L3 _ hm hl => ?_⟩
      rw [rg_len] at hl
      have f1 := fact_small h6
      have s13 := s12.trans (t1.trans t2)
      have l3 := L3.length
      refine ⟨p2, rfl, ⟨_, sqL e3⟩, ?_⟩
      refine c_map (H1 := H3) walk_list (rs.map fun _ => false) (by rw [List.length_map, List.length_map, l3]) (by rw [List.length_map, l3]; omega) (fun H' s6 => sqL (s6 _ _ e3)) ?_ ?_
      · rintro k y bb H4' H4 R N hk hy s6 ⟨rfl, hz⟩ hR
        obtain ⟨d, rfl, hd⟩ := map_ref_get hz
        obtain ⟨r', hr', lr⟩ := (L3.mono s6).at hd
        have ey : bb = false := by
          rw [List.getElem?_map, hr'] at hy
          exact (Option.some.inj hy).symm
        subst ey
        have s14 := s13.trans s6
        have pr := hm r' (List.mem_of_getElem? hr')
        refine ⟨rfl, _, rfl, _, rfl, b, _, n, ps, r', rfl, lb.mono s14, ⟨d, rfl, .inl lr.ints⟩, ⟨G.tp, pr, hn⟩, fun p5 H5 hp5 s5 L5 => ?_⟩
        refine ⟨_, rfl, a', _, 1, _, rfl, rfl, sqT ((s14.trans s5) _ _ ea'), rfl, _, _, L5.dv, (lb'.mono (s14.trans s5)).dv, ?_⟩
        refine hR _ _ s5 ?_
        rw [hL.le _ ⟨r', pr, rfl⟩]
        exact is_bl false
      · intro D H4 hD s4 hB
        refine ⟨D, _, rfl, hB.bls, _, rfl, ?_⟩
        have hany : ∀ l : List (List Int), (l.map fun _ => false).any id = false := fun l => by
          rw [List.any_map]
          induction l with
          | nil => rfl
          | cons _ _ ih => rw [List.any_cons, ih]; rfl
        rw [hany]
        exact q _ (s13.trans s4)
theorem ok_accepts (T : Top K mg w) (c_is_about_parties : Cl P w K mg base 9 "is_about_parties" spAbout) (c_party_of : Cl P w K mg base 2 "party_of" spPartyOf) (F : FnP K x qual s_accepts f fd) : FnOk P w K mg base CX0 10 f fd P_accepts spAccepts :=
  fn_by F sc_accepts (fun _ _ _ _ ⟨_, _, _, _, _, _, _, e, _⟩ => e ▸ rfl) fun cdv A outer s H vs Q E hr hsp => by
    obtain ⟨word, c, z, n, ps, qs, r, rfl, ec, iz, G, q⟩ := hsp
    refine ⟨_, pss_cons (ps_if (PW.pt (pw_or (pt_not (pt_val (pe_callB (call_isi) (by rfl) T.n_isinstance bt_isinstance (pa_cons (pv 0) (pa_cons (pe_bltn (v := .ty "tuple") (by rfl) T.n_tuple bt_tuple rfl) pa_nil))))) (pw_or (pt_cmpR (op_lt) (pe_callB (call_len_seq) (by rfl) T.n_len bt_len (pa_cons (pv 0) pa_nil)) (pe_int) (nomark _)) (pw_or1 (pt_not (pt_val (pe_callB (call_isi) (by rfl) T.n_isinstance bt_isinstance (pa_cons (pe_ix ix_tup (pv 0) (pe_int) (fun _ _ => rfl)) (pa_cons (pe_bltn (v := .ty "str") (by rfl) T.n_str bt_str rfl) pa_nil)))))))))
    (pss_one (ps_ret (pe_bl)))
    (pss_nil))
    (pss_cons (ps_par (i := 2) (j := 3) rfl sc_accepts.nd rfl rfl (by decide) rfl rfl (pa_cons (pe_ix ix_tup (pv 0) (pe_int) (fun _ _ => rfl)) (pa_cons (pe_slice sl_tupA (pv 0) (po_some (pe_int)) (po_none)) pa_nil)) rfl)
    (pss_cons (ps_if (pt_cmpR (op_ne) (pe_kgetL T.lengths (pe_glob (v := .ref (He.ga K "LENGTHS")) (by rfl) T.m_LENGTHS rfl) (pv 2) (pe_int) ⟨rfl, rfl, rfl, rfl⟩) (pe_callB (call_len_seq) (by rfl) T.n_len bt_len (pa_cons (pv 0) pa_nil)) (nomark _))
    (pss_one (ps_ret (pe_bl)))
    (pss_nil))
    (pss_cons (ps_if (pt_cmpR (op_in_seq) (pv 2) (pe_tup (pa_cons (pe_str) (pa_cons (pe_str) pa_nil))) (by rfl))
    (pss_one (ps_ret (pe_cl c_is_about_parties hr (by decide) (by rfl) (pa_cons (pv 2) (pa_cons (pe_cl c_party_of hr (by decide) (by rfl) (pa_cons (pe_ix ix_tup (pv 0) (pe_int) (fun _ _ => rfl)) pa_nil)) (pa_cons (pe_cl c_party_of hr (by decide) (by rfl) (pa_cons (pe_ix ix_tup (pv 0) (pe_int) (fun _ _ => rfl)) pa_nil)) (pa_cons (pv 1) pa_nil)))))))
    (pss_nil))
    (pss_never)))), ?_⟩
    have hlen : ∃ t, PySem.W.nsIn K (He.ga K "LENGTHS") word = some (some (.int 3 t)) := by
      rcases G.word with e | ⟨e, _⟩
      · rw [e]; exact T.l_alike
      · rw [e]; exact T.l_shape
    obtain ⟨tk, hns⟩ := hlen
    have hin : inV (.str word) [.str (Str.ofString "alike"), .str (Str.ofString "shape")] = true := by
      rcases G.word with e | ⟨e, _⟩
      · rw [e]; decide +kernel
      · rw [e]; decide +kernel
    refine ⟨_, rfl, _, _, _, _, _, rfl, .ty _, ty_tup ec, kit_ty k_tup_tup, true, rfl, ?_⟩
    refine ⟨_, rfl, c, _, rfl, .inr (sqT ec), _, _, rfl, rfl, false, rfl, ?_⟩
    refine ⟨_, rfl, c, _, 0, _, rfl, rfl, sqT ec, rfl, _, _, _, _, _, rfl, .ty _, ty_str _, kit_ty k_str_str, true, rfl, ?_⟩
    refine ⟨_, rfl, c, _, 0, _, rfl, rfl, sqT ec, rfl, _, rfl, _, rfl, c, _, rfl, sqT ec, fun h => ?_, fun _ m hm => ⟨_, _, rfl, ?_⟩⟩
    · have := h.1
      rw [show (3 : Int) = ((3 : Nat) : Int) from rfl, HT.sIx_nat] at this
      cases this
    have s1 := same_new (o := .tup (cutV [.str word, .str (line n ps), .str (line n qs)] (some 3) none)) hm
    have ec1 := s1 _ _ ec
    refine ⟨rfl, _, rfl, _, _, .int 3, rfl, hns, ⟨_, rfl⟩, _, rfl, c, _, rfl, .inr (sqT ec1), rfl, false, rfl, ?_⟩
    refine ⟨_, rfl, sz_le (by show 2 ≤ 100000; decide), fun m2 hm2 => ?_⟩
    have s2 := s1.trans (same_new (o := .tup [.str (Str.ofString "alike"), .str (Str.ofString "shape")]) hm2)
    refine ⟨m2, _, rfl, .inr (sqT upd_same), rfl, rfl, _, rfl, ?_⟩
    simp only [Bool.false_eq_true, if_false, hin]
    refine ⟨_, rfl, _, rfl, c, _, 1, _, rfl, rfl, sqT (s2 _ _ ec), rfl, n, ps, rfl, G.tp, G.hn, fun v1 H3 s3 P1 => ?_⟩
    refine ⟨_, rfl, c, _, 2, _, rfl, rfl, sqT ((s2.trans s3) _ _ ec), rfl, n, qs, rfl, G.tq, G.hn, fun v2 H4 s4 P2 => ?_⟩
    have s24 := (s2.trans s3).trans s4
    exact ⟨_, rfl, word, v1, v2, z, n, ps, qs, r, rfl, P1.mono s4, P2, iz.mono (.of s24), G, fun H5 s5 => q _ (s24.trans s5)⟩
end
end FT

/-! FD11: the law's small defs. -/
namespace FT
open PySem PySem.Spec PyProof.Rows L2
open PySem.W (Datum DatumOrd Tup)
/-- a stock of numbers, to be drawn from -/
def Stk (H : Hp) (a : Addr) : Prop := ∃ c s n : Int, H a = some (.lst [.int c, .int s, .int n])
theorem Stk.lst {H : Hp} {a : Addr} (h : Stk H a) : ∃ vs, H a = some (.lst vs) := by
  obtain ⟨c, s, n, e⟩ := h
  exact ⟨_, e⟩
theorem SameX.refl (H : Hp) (a : Addr) : SameX H H a := fun _ _ _ h => h
theorem SameX.trans {H H1 H2 : Hp} {a : Addr} (h : SameX H H1 a) (k : SameX H1 H2 a) : SameX H H2 a := fun b o n e => k b o n (h b o n e)
theorem Same.x {H H' : Hp} (h : Same H H') (a : Addr) : SameX H H' a := fun b o _ e => h b o e
theorem SameX.upd {H H' : Hp} {a : Addr} {o : HO} (h : SameX H H' a) : SameX H (upd H' a o) a := fun b u n e => by
  rw [upd_ne n]
  exact h b u n e
theorem SameX.tup {H H' : Hp} {a : Addr} (h : SameX H H' a) (s : Stk H a) : SameT H H' := fun b vs e => by
  obtain ⟨_, es⟩ := s.lst
  exact h b _ (fun z => by rw [z, es] at e; cases e) e
theorem SameX.free {H H' : Hp} {a p : Addr} (h : SameX H H' a) (s : Stk H a) (e : H' p = none) (e' : Stk H' a) : H p = none := by
  obtain ⟨_, es⟩ := e'.lst
  have n : p ≠ a := fun z => by rw [z, es] at e; cases e
  cases q : H p with
  | none => rfl
  | some o =>
    rw [h p o n q] at e
    cases e
theorem Stk.ne {H : Hp} {a p : Addr} (s : Stk H a) (e : H p = none) : p ≠ a := fun z => by
  obtain ⟨_, es⟩ := s.lst
  rw [z, es] at e
  cases e
theorem Stk.mono {H H' : Hp} {a : Addr} (s : Stk H a) (h : Same H H') : Stk H' a := by
  obtain ⟨c, s, n, e⟩ := s
  exact ⟨c, s, n, h _ _ e⟩
theorem Lis.x {α : Type} [DecidableEq α] [Datum α] {H H' : Hp} {a b : Addr} {xs : List α} (l : Lis H b xs) (h : SameX H H' a) (s : Stk H a) (n : b ≠ a) : Lis H' b xs := l.monoT (h.tup s) fun vs e => h b _ n e
theorem Is.x {α : Type} [DecidableEq α] [Datum α] {H H' : Hp} {a : Addr} {v : V} {x : α} (l : Is H v x) (h : SameX H H' a) (s : Stk H a) : Is H' v x := l.mono (h.tup s)
/-- a list, tracked, frozen or written, stands -/
theorem sq_same {K : PySem.W.Frag} {H H' : Hp} {a : Addr} {xs : List V} (h : SqL K H a xs) (s : Same H H') : SqL K H' a xs := by
  rcases h with (h | ⟨o, h⟩) | h
  · exact .inl (.inl (s _ _ h))
  · exact .inl (.inr ⟨o, s _ _ h⟩)
  · exact .inr h
theorem sq_x {K : PySem.W.Frag} {H H1 H2 : Hp} {a p : Addr} {xs : List V} (h : SqL K H a xs) (s : Same H H1) (x : SameX H1 H2 p) (hp : H p = none) : SqL K H2 a xs := by
  rcases h with (h | ⟨o, h⟩) | h
  · exact .inl (.inl (x _ _ (ne_of_none h hp) (s _ _ h)))
  · exact .inl (.inr ⟨o, x _ _ (ne_of_none h hp) (s _ _ h)⟩)
  · exact .inr h
def spStock (K : PySem.W.Frag) : Sp := fun vs H Q _ => ∃ (a : Addr) (ns : List Int) (k : Nat), vs = [.ref a, .int (k : Nat)] ∧ SqL K H a (ns.map V.int) ∧ ns.length ≤ 100 ∧ k ≤ 100 ∧ ∀ p H', H p = none → Same H H' → Stk H' p → Q (.ref p) H'
def spTake : Sp := fun vs H Q _ => ∃ (a : Addr) (m : Int), vs = [.ref a, .int m] ∧ Stk H a ∧ 0 < m ∧ m < 1000000 ∧ ∀ (d : Int) H', 0 ≤ d → d < m → SameX H H' a → Stk H' a → Q (.int d) H'
def spAgrees : Sp := fun vs H Q _ => ∃ (word : Str) (c : Addr) (z : V) (n : Nat) (ps qs : List Tie) (r : List Int), vs = [.ref c, z, .bl true] ∧ H c = some (.tup [.str word, .str (line n ps), .str (line n qs)]) ∧ Is H z (Tup.mk r) ∧ Good word n ps qs r ∧ ∀ H', Same H H' → Q (.bl true) H'
def spTie : Sp := fun vs H Q _ => ∃ (x y : Int), vs = [.int x, .int y] ∧ ∀ v H', Same H H' → Is H' v (prI x y) → Q v H'
def spLine : Sp := fun vs H Q _ => ∃ (a : Addr) (n : Nat) (ps : List Tie), vs = [.int (n : Nat), .ref a] ∧ Lis H a ps ∧ Ties n ps ∧ n ≤ 10 ∧ ∀ H', Same H H' → Q (.str (line n ps)) H'
section
variable {P : Program} {w : World} {K : PySem.W.Frag} {mg : Str → Option Value} {base : Heap} {f : Addr} {fd : FuncData} {x qual : Str}
theorem ok_law_take (T : Top K mg w) (F : FnP K x qual s_law_take f fd) : FnOk P w K mg base CX0 1 f fd P_law_take spTake :=
  fn_by F sc_law_take (fun _ _ _ _ ⟨_, _, e, _⟩ => e ▸ rfl) fun cdv A outer s H vs Q E hr hsp => by
    obtain ⟨a, m, rfl, ⟨c, st, n, ea⟩, h0, h1, q⟩ := hsp
    refine ⟨_, pss_cons (ps_if (pt_cmpR (op_gt) (pe_ix ix_list (pv 0) (pe_int) (fun _ _ => rfl)) (pe_int) (nomark _))
    (pss_cons (ps_set (i := 2) sc_law_take.nd rfl (Or.inl rfl) (pe_op op_mod (pe_callTy (call_int1) (by rfl) T.n_int bt_int (pa_cons (pe_ix ix_list (pv 0) (pe_int) (fun _ _ => rfl)) pa_nil)) (pv 1)))
    (pss_cons (ps_asg (pe_op op_fdiv (pe_ix ix_list (pv 0) (pe_int) (fun _ _ => rfl)) (pv 1)) (pg_sub (pv 0) (pe_int) set_list))
    (pss_one (ps_ret (pv 2)))))
    (pss_nil))
    (pss_cons (ps_asg (pe_op op_add (pe_ix ix_list (pv 0) (pe_int) (fun _ _ => rfl)) (pe_int)) (pg_sub (pv 0) (pe_int) set_list))
    (pss_cons (ps_set (i := 3) sc_law_take.nd rfl (Or.inl rfl) (pe_op op_add (pe_op op_mul (pe_ix ix_list (pv 0) (pe_int) (fun _ _ => rfl)) (pe_int)) (pe_int)))
    (pss_cons (ps_asg (pe_op op_mod (pe_callTy (call_int1) (by rfl) T.n_int bt_int (pa_cons (pe_op op_add (pe_op op_mul (pe_ix ix_list (pv 0) (pe_int) (fun _ _ => rfl)) (pe_int)) (pv 3)) pa_nil)) (pe_int)) (pg_sub (pv 0) (pe_int) set_list))
    (pss_one (ps_ret (pe_op op_mod (pe_callTy (call_int1) (by rfl) T.n_int bt_int (pa_cons (pe_op op_fdiv (pe_ix ix_list (pv 0) (pe_int) (fun _ _ => rfl)) (pe_int)) pa_nil)) (pv 1))))))), ?_⟩
    refine ⟨_, rfl, a, _, 0, _, rfl, rfl, sqL ea, rfl, _, _, rfl, rfl, _, rfl, ?_⟩
    by_cases hc : (0 : Int) < c
    · rw [show decide ((0 : Int) < c) = true from by simpa using hc]
      refine ⟨_, rfl, a, _, 0, _, rfl, rfl, sqL ea, rfl, .inl ⟨_, rfl, _, rfl, _, _, rfl, rfl, h0, ?_⟩⟩
      refine ⟨_, rfl, a, _, 0, _, rfl, rfl, sqL ea, rfl, _, rfl, _, _, rfl, rfl, ⟨h0, by omega⟩, ?_⟩
      refine ⟨_, rfl, a, _, 0, 0, rfl, rfl, ea, rfl, ?_⟩
      refine ⟨_, rfl, q _ _ (Int.emod_nonneg _ (by omega)) (Int.emod_lt_of_pos _ h0) (SameX.refl H a).upd ⟨_, _, _, upd_same⟩⟩
    · rw [show decide ((0 : Int) < c) = false from by simpa using hc]
      refine ⟨_, rfl, a, _, 2, _, rfl, rfl, sqL ea, rfl, _, _, rfl, rfl, ?_⟩
      refine ⟨_, rfl, a, _, 2, 2, rfl, rfl, ea, rfl, ?_⟩
      refine ⟨_, rfl, a, _, 2, _, rfl, rfl, sqL upd_same, rfl, _, _, rfl, rfl, .inr ⟨by decide, by decide⟩, _, _, rfl, rfl, ?_⟩
      refine ⟨_, rfl, a, _, 1, _, rfl, rfl, sqL upd_same, rfl, _, _, rfl, rfl, .inr ⟨by decide, by decide⟩, _, rfl, _, _, rfl, rfl, .inl ⟨_, rfl, _, _, rfl, rfl, by show (0 : Int) < 9223372036854775783; decide, ?_⟩⟩
      refine ⟨_, rfl, a, _, 1, 1, rfl, rfl, upd_same, rfl, ?_⟩
      refine ⟨_, rfl, a, _, 1, _, rfl, rfl, sqL upd_same, rfl, _, _, rfl, rfl, ⟨by decide, by decide⟩, .inl ⟨_, rfl, _, rfl, _, _, rfl, rfl, h0, ?_⟩⟩
      exact q _ _ (Int.emod_nonneg _ (by omega)) (Int.emod_lt_of_pos _ h0) (SameX.refl H a).upd.upd ⟨_, _, _, upd_same⟩
theorem ok_law_tie (T : Top K mg w) (F : FnP K x qual s_law_tie f fd) : FnOk P w K mg base CX0 1 f fd P_law_tie spTie :=
  fn_by F sc_law_tie (fun _ _ _ _ ⟨_, _, e, _⟩ => e ▸ rfl) fun cdv A outer s H vs Q E hr hsp => by
    obtain ⟨y, z, rfl, q⟩ := hsp
    refine ⟨_, pss_one (ps_ret (pe_tup (pa_cons (pe_callB (call_min2 rfl) (by rfl) T.n_min bt_min (pa_cons (pv 0) (pa_cons (pv 1) pa_nil))) (pa_cons (pe_callB (call_max2 rfl) (by rfl) T.n_max bt_max (pa_cons (pv 0) (pa_cons (pv 1) pa_nil))) pa_nil)))), ?_⟩
    refine ⟨_, rfl, _, rfl, _, _, rfl, _, rfl, _, rfl, _, _, rfl, sz_le (by show 2 ≤ 100000; decide), fun m hm => ?_⟩
    exact q _ _ (same_new hm) (is_tie upd_same)
theorem ok_law_agrees (T : Top K mg w) (c_accepts : Cl P w K mg base 10 "accepts" spAccepts) (F : FnP K x qual s_law_agrees f fd) : FnOk P w K mg base CX0 11 f fd P_law_agrees spAgrees :=
  fn_by F sc_law_agrees (fun _ _ _ _ ⟨_, _, _, _, _, _, _, e, _⟩ => e ▸ rfl) fun cdv A outer s H vs Q E hr hsp => by
    obtain ⟨word, c, z, n, ps, qs, r, rfl, ec, iz, G, q⟩ := hsp
    refine ⟨_, pss_cons (ps_set (i := 3) sc_law_agrees.nd rfl (Or.inl rfl) (pe_cl c_accepts hr (by decide) (by rfl) (pa_cons (pv 0) (pa_cons (pv 1) pa_nil))))
    (pss_one (ps_ret (pe_and (pe_callB (call_isi) (by rfl) T.n_isinstance bt_isinstance (pa_cons (pv 3) (pa_cons (pe_bltn (v := .ty "bool") (by rfl) T.n_bool bt_bool rfl) pa_nil))) (pe_one (pe_cmpR (op_eq) (pv 3) (pv 2) (nomark _)))))), ?_⟩
    refine ⟨_, rfl, _, rfl, word, c, z, n, ps, qs, r, rfl, ec, iz, G, fun H1 s1 => ?_⟩
    exact ⟨_, rfl, _, _, _, _, _, rfl, .ty _, ty_bl true, kit_ty k_bool_bool, true, rfl, _, rfl, _, rfl, rfl, q _ s1⟩
/-- the bounds of a number -/
theorem ok_law_is (T : Top K mg w) (F : FnP K x qual s_law_is f fd) : FnOk P w K mg base CX0 1 f fd P_law_is spBtw :=
  fn_by F sc_law_is (fun _ _ _ _ ⟨_, _, _, e, _⟩ => e ▸ rfl) fun cdv A outer s H vs Q E hr hsp => by
    obtain ⟨i, lo, hi, rfl, h1, h2, q⟩ := hsp
    refine ⟨_, pss_one (ps_ret (pe_and (pe_callB (call_isi) (by rfl) T.n_isinstance bt_isinstance (pa_cons (pv 0) (pa_cons (pe_bltn (v := .ty "int") (by rfl) T.n_int bt_int rfl) pa_nil))) (pe_and (pe_not (pe_callB (call_isi) (by rfl) T.n_isinstance bt_isinstance (pa_cons (pv 0) (pa_cons (pe_bltn (v := .ty "bool") (by rfl) T.n_bool bt_bool rfl) pa_nil)))) (pe_and (pe_cmpR (op_le) (pv 1) (pv 0) (nomark _)) (pe_one (pe_cmpR (op_le) (pv 0) (pv 2) (nomark _))))))), ?_⟩
    refine ⟨_, rfl, _, _, _, _, _, rfl, .ty _, ty_int i, kit_ty k_int_int, true, rfl, ?_⟩
    refine ⟨_, rfl, _, _, _, _, _, rfl, .ty _, ty_int i, kit_ty k_int_bool, false, rfl, true, rfl, ?_⟩
    refine ⟨_, rfl, _, rfl, _, _, rfl, rfl, _, rfl, ?_⟩
    rw [show decide (lo ≤ i) = true from by simpa using h1]
    refine ⟨_, rfl, _, rfl, _, _, rfl, rfl, ?_⟩
    show Q (.bl (decide (i ≤ hi))) H
    rw [show decide (i ≤ hi) = true from by simpa using h2]
    exact q
theorem ok_law_people (T : Top K mg w) (c_law_is : Cl P w K mg base 1 "_law_is" spBtw) (F : FnP K x qual s_law_people f fd) : FnOk P w K mg base CX0 2 f fd P_law_people spAreP :=
  fn_by F sc_law_people (fun _ _ _ _ ⟨_, _, _, e, _⟩ => e ▸ rfl) fun cdv A outer s H vs Q E hr hsp => by
    obtain ⟨v, n, r, rfl, iv, p, hn, q⟩ := hsp
    obtain ⟨a, rfl, ea⟩ := of_tupI iv
    have hlen : (r.map V.int).length = n := by rw [List.length_map, p.len]
    refine ⟨_, pss_cons (ps_if (pt_not (pt_val (pe_callB (call_isi) (by rfl) T.n_isinstance bt_isinstance (pa_cons (pv 0) (pa_cons (pe_bltn (v := .ty "tuple") (by rfl) T.n_tuple bt_tuple rfl) pa_nil)))))
    (pss_one (ps_ret (pe_bl)))
    (pss_nil))
    (pss_cons (ps_for PassesOwn.never rfl (pi_range1 (by rfl) T.n_range (pa_cons (pe_callB (call_len_seq) (by rfl) T.n_len bt_len (pa_cons (pv 0) pa_nil)) pa_nil)) (pg_name (i := 2) sc_law_people.nd rfl (Or.inl rfl))
    (pss_one (ps_if (PW.pt (pw_or (pt_not (pt_val (pe_cl c_law_is hr (by decide) (by rfl) (pa_cons (pe_ix ix_tup (pv 0) (pv 2) (fun _ _ => rfl)) (pa_cons (pe_int) (pa_cons (pe_op op_sub (pv 1) (pe_int)) pa_nil)))))) (pw_or1 (pt_cmpR (op_in_seq) (pe_ix ix_tup (pv 0) (pv 2) (fun _ _ => rfl)) (pe_slice sl_tupA (pv 0) (po_none) (po_some (pv 2))) (by rfl)))))
    (pss_one (ps_ret (pe_bl)))
    (pss_nil))))
    (pss_one (ps_ret (pe_bl)))), ?_⟩
    refine ⟨_, rfl, _, _, _, _, _, rfl, .ty _, ty_tup ea, kit_ty k_tup_tup, true, rfl, ?_⟩
    refine ⟨_, rfl, a, _, rfl, .inr (sqT ea), ?_⟩
    rw [hlen]
    refine ⟨_, rfl, by omega, by omega, ?_⟩
    refine c_for walk_range0 (fun i σ H' => Same H H' ∧ ∃ x, σ = [some (.ref a), some (.int (n : Nat)), x]) ⟨fun _ _ h => h, _, rfl⟩ (fun _ _ _ _ h => trivial) ?_ ?_
    · rintro i x σ H2 H1 hi ⟨sm, x0, rfl⟩ ⟨rfl, rfl⟩
      rw [Int.toNat_natCast] at hi
      have hir : i < r.length := by rw [p.len]; exact hi
      have g : (r.map V.int)[i]? = some (.int (nth r i)) := by rw [List.getElem?_map, nth_get hir]; rfl
      have hr' := p.at hi
      have ea1 := sm _ _ ea
      refine ⟨_, rfl, _, rfl, a, _, _, _, rfl, rfl, sqT ea1, atI_nat g, _, rfl, _, _, rfl, rfl, nth r i, 0, _, rfl, hr'.1, by omega, true, rfl, ?_⟩
      have hnot : nth r i ∉ r.take i := by
        have e3 := take_succ_nth hir
        have nd : (r.take (i + 1)).Nodup := List.Sublist.nodup (List.take_sublist _ _) p.nodup
        rw [e3] at nd
        exact fun m => (List.nodup_append.mp nd).2.2 _ m _ (by simp) rfl
      refine ⟨_, rfl, _, rfl, a, _, _, _, rfl, rfl, sqT ea1, atI_nat g, _, rfl, _, rfl, _, rfl, a, _, rfl, sqT ea1, fun h => ?_, fun _ m hm => ?_⟩
      · have := h.2
        rw [HT.sIx_nat, hlen] at this
        omega
      · refine ⟨m, _, rfl, .inr (sqT upd_same), rfl, ?_, _, rfl, ?_⟩
        · rw [cut_to, ← List.map_take]
          exact flat_ints _
        · rw [cut_to, ← List.map_take]
          simp only [Bool.false_eq_true, if_false, inV_int]
          rw [decide_eq_false hnot]
          exact ⟨sm.trans (same_new hm), _, rfl⟩
    · rintro σ H' ⟨sm, x0, rfl⟩
      exact q _ sm
theorem ok_law_renamed (T : Top K mg w) (c_law_tie : Cl P w K mg base 1 "_law_tie" spTie) (F : FnP K x qual s_law_renamed f fd) : FnOk P w K mg base CX0 2 f fd P_law_renamed spRenC :=
  fn_by F sc_law_renamed (fun _ _ _ _ ⟨_, _, _, _, _, e, _⟩ => e ▸ rfl) fun cdv A outer s H vs Q E hr hsp => by
    obtain ⟨a, v, n, ps, r, rfl, ⟨us, ea, ar⟩, iv, ⟨t, p, hn⟩, q⟩ := hsp
    have l1 : us.length = ps.length := ar.length
    have hl := t.len hn
    refine ⟨_, pss_one (ps_ret (pe_callB (cr_sortX (Int × Int) sortable_pair hr.units) (by rfl) T.n_sorted bt_sorted (pa_cons (pe_lc (own := [("_law_one", 2), ("_law_other", 3)]) rfl sc_law_renamed.nd (pi_list (pv 0)) (blkOk_by (own := [("_law_one", 2), ("_law_other", 3)]) (N := N_law_renamed) (sc := defScope s_law_renamed) (by decide +kernel)) (fun _ _ _ _ _ => pg_tupK K rfl 2 rfl (pgs_cons (pg_name (i := 2) sc_law_renamed.nd rfl (Or.inl rfl)) (pgs_cons (pg_name (i := 3) sc_law_renamed.nd rfl (Or.inl rfl)) pgs_nil))) (fun _ _ _ _ _ => pts_nil) (fun _ _ _ _ _ => pe_cl c_law_tie hr (by decide) (by rfl) (pa_cons (pe_ix (ix_seqK K rfl) (pv 1) (pv 2) (fun _ _ => rfl)) (pa_cons (pe_ix (ix_seqK K rfl) (pv 1) (pv 3) (fun _ _ => rfl)) pa_nil)))) pa_nil))), ?_⟩
    refine ⟨_, rfl, a, rfl, ⟨us, sqL ea⟩, ?_⟩
    refine c_map (H1 := H) walk_list (ps.map (tieOf r)) (by rw [List.length_map, l1]) (by rw [l1]; omega) (fun H' sm => sqL (sm _ _ ea)) ?_ ?_
    · rintro i z y H1' H1 R N hi hy sm ⟨rfl, hz⟩ hR
      obtain ⟨p0, hp, ip⟩ := ar.at hz
      have ey : y = tieOf r p0 := by
        rw [List.getElem?_map, hp] at hy
        exact (Option.some.inj hy).symm
      subst ey
      obtain ⟨d, rfl, ed⟩ := of_tie ip
      obtain ⟨i0, j0, rfl, hij, hj⟩ := t.nat (List.mem_of_getElem? hp)
      have h1 : i0 < r.length := by rw [p.len]; omega
      have h2 : j0 < r.length := by rw [p.len]; omega
      have iv1 := iv.mono sm
      refine ⟨d, _, rfl, sqT (sm _ _ ed), rfl, _, _, rfl, _, _, rfl, rfl, ?_⟩
      refine ⟨rfl, _, rfl, _, rfl, iv1.ix h1 ⟨_, rfl, _, rfl, iv1.ix h2 ⟨_, _, rfl, fun v H2 s2 iv2 => ?_⟩⟩⟩
      refine hR _ _ s2 ?_
      rw [tieOf_nat]
      exact iv2
    · intro D H1 hD sm hL
      obtain ⟨vs1, e1, a1⟩ := hL
      refine ⟨D, vs1, _, rfl, sqL e1, a1, fun m ws hm aw => ?_⟩
      have s2 := same_new (o := .lst ws) hm
      exact q _ _ (sm.free hm) (sm.trans s2) ⟨ws, upd_same, aw.mono (.of s2)⟩
theorem ok_law_stock (T : Top K mg w) (F : FnP K x qual s_law_stock f fd) : FnOk P w K mg base CX0 1 f fd P_law_stock (spStock K) :=
  fn_by F sc_law_stock (fun _ _ _ _ ⟨_, _, _, e, _⟩ => e ▸ rfl) fun cdv A outer s H vs Q E hr hsp => by
    obtain ⟨a, ns, k, rfl, la, hl, hk, q⟩ := hsp
    refine ⟨_, C8.pss_cut (ps_set (i := 2) sc_law_stock.nd rfl (Or.inl rfl) (pe_ifExp (pt_cmpR (op_lt) (pv 1) (pe_callB (call_len_seq) (by rfl) T.n_len bt_len (pa_cons (pv 0) pa_nil)) (nomark _)) (pe_callTy (call_int1) (by rfl) T.n_int bt_int (pa_cons (pe_ix ix_list (pv 0) (pv 1) (fun _ _ => rfl)) pa_nil)) (pe_op op_mul (pe_int) (pe_op op_add (pv 1) (pe_int)))))
    (pss_cons (ps_set (i := 3) sc_law_stock.nd rfl (Or.inl rfl) (pe_op op_add (pe_int) (pe_op op_mul (pe_int) (pv 1))))
    (pss_cons (ps_for PassesOwn.never rfl (pi_list (pe_op op_cat (pe_slice sl_list (pv 0) (po_none) (po_some (pe_int))) (pe_lst (pa_cons (pv 2) pa_nil)))) (pg_name (i := 4) sc_law_stock.nd rfl (Or.inl rfl))
    (pss_cons (ps_set (i := 5) sc_law_stock.nd rfl (Or.inl rfl) (pe_op op_add (pe_op op_mul (pe_op op_mod (pe_callTy (call_int1) (by rfl) T.n_int bt_int (pa_cons (pe_callB (call_abs) (by rfl) T.n_abs bt_abs (pa_cons (pv 4) pa_nil)) pa_nil)) (pe_int)) (pe_int)) (pe_callTy (call_int1) (by rfl) T.n_int bt_int (pa_cons (pe_cmpR (op_lt) (pv 4) (pe_int) (nomark _)) pa_nil))))
    (pss_one (ps_set (i := 3) sc_law_stock.nd rfl (Or.inl rfl) (pe_op op_mod (pe_callTy (call_int1) (by rfl) T.n_int bt_int (pa_cons (pe_op op_add (pe_op op_add (pe_op op_mul (pv 3) (pe_int)) (pv 5)) (pe_int)) pa_nil)) (pe_int))))))
    (pss_one (ps_ret (pe_lst (pa_cons (pe_ifExp (pt_cmpR (op_ge) (pe_callB (call_abs) (by rfl) T.n_abs bt_abs (pa_cons (pv 2) pa_nil)) (pe_op op_pow (pe_int) (pe_int)) (nomark _)) (pe_callB (call_abs) (by rfl) T.n_abs bt_abs (pa_cons (pv 2) pa_nil)) (pe_int)) (pa_cons (pv 3) (pa_cons (pe_int) pa_nil)))))))), ?_⟩
    refine ⟨fun σ' H' => H' = H ∧ ∃ c : Int, σ' = [some (.ref a), some (.int (k : Nat)), some (.int c), none, none, none], ?_, ?_⟩
    · refine ⟨_, rfl, _, rfl, a, _, rfl, .inl (la), _, _, rfl, rfl, _, rfl, ?_⟩
      by_cases hc : ((k : Nat) : Int) < ((ns.map V.int).length : Nat)
      · rw [show decide (((k : Nat) : Int) < ((ns.map V.int).length : Nat)) = true from by simpa using hc]
        have hk' : k < ns.length := by rw [List.length_map] at hc; omega
        refine ⟨_, rfl, _, rfl, a, _, _, _, rfl, rfl, la, atI_nat (by rw [List.getElem?_map, List.getElem?_eq_getElem hk']; rfl), .inl ⟨_, rfl, rfl, _, rfl⟩⟩
      · rw [show decide (((k : Nat) : Int) < ((ns.map V.int).length : Nat)) = false from by simpa using hc]
        exact ⟨_, rfl, _, _, rfl, rfl, _, _, rfl, rfl, .inl ⟨by decide, by decide⟩, rfl, _, rfl⟩
    · rintro σ' H' ⟨rfl, c, rfl⟩
      refine ⟨_, rfl, _, _, rfl, rfl, .inl ⟨by decide, by decide⟩, _, _, rfl, rfl, ?_⟩
      refine ⟨_, rfl, _, rfl, a, _, rfl, la, fun p1 hp1 => ?_⟩
      have s1 := same_new (o := .lst (cutV (ns.map V.int) none (some 8))) hp1
      refine ⟨_, rfl, sz_le (by show 1 ≤ 100000; decide), fun p2 hp2 => ?_⟩
      have s2 := same_new (o := .lst [.int c]) hp2
      have ec : cutV (ns.map V.int) none (some 8) = (ns.take 8).map V.int := by rw [show (8 : Int) = ((8 : Nat) : Int) from rfl, cut_to, List.map_take]
      refine ⟨p1, p2, _, _, rfl, rfl, s2 _ _ upd_same, upd_same, by rw [ec, List.length_map, List.length_take]; exact sz_le (by show min 8 ns.length + 1 ≤ 100000; omega), fun p3 hp3 => ?_⟩
      rw [ec]
      have em : (ns.take 8).map V.int ++ [.int c] = (ns.take 8 ++ [c]).map V.int := by rw [List.map_append]; rfl
      rw [em]
      have s3 := same_new (o := .lst ((ns.take 8 ++ [c]).map V.int)) hp3
      have s13 := (s1.trans s2).trans s3
      rw [ec] at s13
      refine ⟨p3, rfl, ⟨_, sqL upd_same⟩, ?_⟩
      refine c_for walk_list (fun i σ H2 => (Same _ H2 ∧ H2 p3 = some (.lst ((ns.take 8 ++ [c]).map V.int))) ∧ ∃ (st : Int) (x0 x1 : Option V), σ = [some (.ref a), some (.int (k : Nat)), some (.int c), some (.int st), x0, x1]) ⟨⟨s13, upd_same⟩, _, _, _, rfl⟩ (fun _ _ _ _ h => sqL h.1.2) ?_ ?_
      · rintro i z σ H3' H3 hi ⟨⟨sm, e3⟩, st, x0, x1, rfl⟩ ⟨rfl, hz⟩
        obtain ⟨y, rfl⟩ : ∃ y, z = .int y := by
          obtain ⟨y, _, e⟩ := List.mem_map.mp (List.mem_of_getElem? hz)
          exact ⟨y, e.symm⟩
        refine ⟨_, rfl, _, rfl, .inl ⟨_, rfl, _, _, rfl, rfl, by show (0 : Int) < 999999999989; decide, _, _, rfl, rfl, .inr ⟨by decide, by decide⟩, ?_⟩⟩
        refine ⟨_, rfl, _, _, rfl, rfl, .inr ⟨_, rfl, _, _, rfl, rfl, ?_⟩⟩
        refine ⟨_, rfl, _, _, rfl, rfl, .inr ⟨by decide, by decide⟩, _, rfl, _, _, rfl, rfl, _, _, rfl, rfl, .inl ⟨_, rfl, _, _, rfl, rfl, by show (0 : Int) < 9223372036854775783; decide, ?_⟩⟩
        exact ⟨⟨sm, e3⟩, _, _, _, rfl⟩
      · rintro σ H3 ⟨⟨sm, e3⟩, st, x0, x1, rfl⟩
        refine ⟨_, rfl, _, rfl, _, _, rfl, rfl, ⟨by decide, by decide, by decide⟩, _, _, rfl, rfl, _, rfl, ?_⟩
        generalize decide ((_ : Int) ≤ _) = bb
        cases bb with
        | true =>
          refine ⟨_, rfl, _, rfl, _, rfl, sz_le (by show 3 ≤ 100000; decide), fun m hm => ?_⟩
          exact q _ _ (sm.free hm) (sm.trans (same_new hm)) ⟨_, _, _, upd_same⟩
        | false =>
          refine ⟨_, rfl, sz_le (by show 3 ≤ 100000; decide), fun m hm => ?_⟩
          exact q _ _ (sm.free hm) (sm.trans (same_new hm)) ⟨_, _, _, upd_same⟩
theorem ok_law_line (T : Top K mg w) (F : FnP K x qual s_law_line f fd) : FnOk P w K mg base CX0 1 f fd P_law_line spLine :=
  fn_by F sc_law_line (fun _ _ _ _ ⟨_, _, _, e, _⟩ => e ▸ rfl) fun cdv A outer s H vs Q E hr hsp => by
    obtain ⟨a, n, ps, rfl, ⟨us, ea, ar⟩, t, hn, q⟩ := hsp
    have l1 : us.length = ps.length := ar.length
    have hl := t.len hn
    have a2 := (num_len2 (n := n) (by omega)).2
    refine ⟨_, pss_one (ps_ret (pe_join (pe_str) (pe_op op_cat (pe_lst (pa_cons (pe_op op_add_str (pe_callTy (call_str_int) (by rfl) T.n_str bt_str (pa_cons (pv 0) pa_nil)) (pe_str)) pa_nil)) (pe_lc (own := [("_law_tie_here", 2)]) rfl sc_law_line.nd (pi_list (pv 1)) (blkOk_by (own := [("_law_tie_here", 2)]) (N := N_law_line) (sc := defScope s_law_line) (by decide +kernel)) (fun _ _ _ _ _ => pg_name (i := 2) sc_law_line.nd rfl (Or.inl rfl)) (fun _ _ _ _ _ => pts_nil) (fun _ _ _ _ _ => pe_op op_add_str (pe_op op_add_str (pe_callTy (call_str_int) (by rfl) T.n_str bt_str (pa_cons (pe_ix (ix_tupK K rfl) (pv 2) (pe_int) (fun _ _ => rfl)) pa_nil)) (pe_str)) (pe_callTy (call_str_int) (by rfl) T.n_str bt_str (pa_cons (pe_ix (ix_tupK K rfl) (pv 2) (pe_int) (fun _ _ => rfl)) pa_nil))))))), ?_⟩
    refine ⟨⟨_, rfl⟩, ?_⟩
    refine ⟨_, rfl, _, rfl, log_small (by omega) (by omega), _, _, rfl, rfl, ?_, ?_⟩
    · rw [SX.num_S, SX.S_len]
      exact sz_le (by show (TL.numL n).length + 1 ≤ 100000; omega)
    rw [head_str]
    refine ⟨sz_le (by show 1 ≤ 100000; decide), fun p1 hp1 => ?_⟩
    have s1 := same_new (o := .lst [.str (SX.S (headL n))]) hp1
    refine ⟨_, rfl, a, rfl, ⟨us, sqL (s1 _ _ ea)⟩, ?_⟩
    refine c_map (H1 := upd H p1 (.lst [.str (SX.S (headL n))])) walk_list (ps.map fun p => SX.S (tieL p)) (by rw [List.length_map, l1]) (by rw [l1]; omega) (fun H' sm => sqL (sm _ _ (s1 _ _ ea))) ?_ ?_
    · rintro i z y H1' H1 R N hi hy sm ⟨rfl, hz⟩ hR
      obtain ⟨p, hp, ip⟩ := ar.at hz
      have ey : y = SX.S (tieL p) := by
        rw [List.getElem?_map, hp] at hy
        exact (Option.some.inj hy).symm
      subst ey
      obtain ⟨d, rfl, ed⟩ := of_tie ip
      have ok := t.ok p (List.mem_of_getElem? hp)
      have ed1 := (s1.trans sm) _ _ ed
      have j1 : (Str.ofString (toString p.1)).length + (Str.ofString "-").length ≤ sizeLine := by
        rw [str_int ok.1, SX.S_len, num1 (by omega)]
        exact sz_le (by show 2 ≤ 100000; decide)
      have j2 : (Str.ofString (toString p.1) ++ Str.ofString "-").length + (Str.ofString (toString p.2)).length ≤ sizeLine := by
        rw [str_int ok.1, str_int (i := p.2) (by omega), S_hyp, SX.S_cat, SX.S_len, SX.S_len, num1 (by omega), num1 (by omega)]
        exact sz_le (by show 3 ≤ 100000; decide)
      refine ⟨rfl, _, rfl, d, _, 0, _, rfl, rfl, sqT ed1, rfl, _, rfl, log_small ok.1 (by omega), _, _, rfl, rfl, j1, ?_⟩
      refine ⟨_, rfl, d, _, 1, _, rfl, rfl, sqT ed1, rfl, _, rfl, log_small (by omega) (by omega), _, _, rfl, rfl, j2, ?_⟩
      refine hR _ _ (fun _ _ h => h) ?_
      rw [tie_str ok.1 (by omega)]
      exact is_str _
    · intro D H2 hD s2 hL
      have e2 := hL.strs
      refine ⟨p1, D, _, _, rfl, rfl, s2 _ _ upd_same, e2, by rw [List.length_map, List.length_map]; exact sz_le (by show 1 + ps.length ≤ 100000; omega), fun m hm => ?_⟩
      have er : [V.str (SX.S (headL n))] ++ (ps.map fun p => SX.S (tieL p)).map V.str = (SX.S (headL n) :: ps.map fun p => SX.S (tieL p)).map V.str := rfl
      refine ⟨_, m, _, rfl, rfl, .inl (sqL (upd_same.trans (congrArg _ (congrArg _ er)))), join_ok hn t, ?_⟩
      rw [S_spc, join_line]
      exact q _ ((s1.trans s2).trans (same_new hm))
end
end FT

/-! FD12: _law_same, _law_pairs, _law_flipped, _law_orders. -/
namespace FT
open PySem PySem.Spec PyProof.Rows L2
open PySem.W (Datum DatumOrd Tup)
theorem dec_t {p : Prop} {i : Decidable p} (h : p) : @decide p i = true := decide_eq_true h
theorem dec_f {p : Prop} {i : Decidable p} (h : ¬ p) : @decide p i = false := decide_eq_false h
/-- the same text, or tuples of the same texts -/
def spSame : Nat → Sp
  | 0 => fun _ _ _ _ => False
  | M + 1 => fun vs H Q _ => (∃ s : Str, vs = [.str s, .str s] ∧ Q (.bl true) H) ∨ (M ≠ 0 ∧ ∃ (a b : Addr) (ss : List Str), vs = [.ref a, .ref b] ∧ H a = some (.tup (ss.map V.str)) ∧ H b = some (.tup (ss.map V.str)) ∧ ss.length ≤ 100 ∧ ∀ H', Same H H' → Q (.bl true) H')
def spPairs : Sp := fun vs H Q _ => ∃ (n : Nat), vs = [.int (n : Nat)] ∧ n ≤ 10 ∧ ∀ p H', H p = none → Same H H' → Lis H' p (prs n) → Q (.ref p) H'
def spFlip : Sp := fun vs H Q _ => ∃ (a : Addr) (v : V) (ps : List Tie) (t : Tie), vs = [.ref a, v] ∧ Lis H a ps ∧ Is H v t ∧ ps.length ≤ 100 ∧ ∀ p H', H p = none → Same H H' → Lis H' p (flip ps t) → Q (.ref p) H'
def spOrders : Sp := fun vs H Q _ => ∃ (n : Nat), vs = [.int (n : Nat)] ∧ n ≤ 6 ∧ ∀ (p : Addr) (H' : Hp) (qs : List Addr) (rs : List (List Int)), Same H H' → H' p = some (.lst (qs.map V.ref)) → Lss H' qs rs → (H p = none ∧ ∀ q ∈ qs, H q = none) → (∀ r, r ∈ rs ↔ PermN n r) → rs.length = fact n → Q (.ref p) H'
/-- the pairs whose first is below i -/
def rowP (n i : Nat) (j : Nat) : List Tie := (List.range' (i + 1) j).map fun (k : Nat) => ((i : Int), (k : Int))
def prsI (n i : Nat) : List Tie := (List.range i).flatMap fun k => rowP n k (n - (k + 1))
theorem prsI_all (n : Nat) : prsI n n = prs n := rfl
theorem prsI_step (n i : Nat) : prsI n (i + 1) = prsI n i ++ rowP n i (n - (i + 1)) := by
  unfold prsI
  rw [List.range_succ, List.flatMap_append]
  simp
theorem rowP_step (n i j : Nat) : rowP n i (j + 1) = rowP n i j ++ [((i : Int), ((i + 1 + j : Nat) : Int))] := by
  unfold rowP
  rw [List.range'_concat, List.map_append]
  simp
theorem prsI_len (n i j : Nat) (hn : n ≤ 10) (hi : i ≤ n) (hj : j ≤ 10) : (prsI n i ++ rowP n i j).length ≤ 110 := by
  have a : ∀ i, i ≤ n → (prsI n i).length ≤ 10 * i := by
    intro i
    induction i with
    | zero => intro _; exact Nat.le_refl _
    | succ i ih =>
      intro h
      have := ih (by omega)
      rw [prsI_step, List.length_append]
      unfold rowP
      rw [List.length_map, List.length_range']
      omega
  have := a i hi
  rw [List.length_append]
  unfold rowP
  rw [List.length_map, List.length_range']
  omega
section
variable {P : Program} {w : World} {K : PySem.W.Frag} {mg : Str → Option Value} {base : Heap} {f : Addr} {fd : FuncData} {x qual : Str}
theorem ok_law_pairs (T : Top K mg w) (F : FnP K x qual s_law_pairs f fd) : FnOk P w K mg base CX0 1 f fd P_law_pairs spPairs :=
  fn_by F sc_law_pairs (fun _ _ _ _ ⟨_, e, _⟩ => e ▸ rfl) fun cdv A outer s H vs Q E hr hsp => by
    obtain ⟨n, rfl, hn, q⟩ := hsp
    refine ⟨_, pss_cons (ps_set (i := 1) sc_law_pairs.nd rfl (Or.inl rfl) (pe_lst pa_nil))
    (pss_cons (ps_for PassesOwn.never rfl (pi_range1 (by rfl) T.n_range (pa_cons (pv 0) pa_nil)) (pg_name (i := 2) sc_law_pairs.nd rfl (Or.inl rfl))
    (pss_one (ps_for PassesOwn.never rfl (pi_range2 (by rfl) T.n_range (pa_cons (pe_op op_add (pv 2) (pe_int)) (pa_cons (pv 0) pa_nil))) (pg_name (i := 3) sc_law_pairs.nd rfl (Or.inl rfl))
    (pss_one (ps_expr (pe_bm PySem.F.plainAttrs_list PySem.F.slot_list_append PySem.F.type_list_append mt_append (pv 1) (pa_cons (pe_tup (pa_cons (pv 2) (pa_cons (pv 3) pa_nil))) pa_nil)))))))
    (pss_one (ps_ret (pv 1)))), ?_⟩
    refine ⟨Nat.zero_le _, fun D hD => ?_⟩
    refine ⟨_, rfl, _, rfl, by omega, by omega, ?_⟩
    refine c_for walk_range0 (fun i σ H' => (Same H H' ∧ Lis H' D (prsI n i)) ∧ ∃ x0 x1, σ = [some (.int (n : Nat)), some (.ref D), x0, x1]) ⟨⟨same_new hD, [], upd_same, Are.nil⟩, _, _, rfl⟩ (fun _ _ _ _ _ => trivial) ?_ ?_
    · rintro i z σ H2 H1 hi ⟨⟨sm, lD⟩, x0, x1, rfl⟩ ⟨rfl, rfl⟩
      rw [Int.toNat_natCast] at hi
      refine ⟨_, rfl, _, _, rfl, rfl, _, rfl, _, _, rfl, by omega, ?_⟩
      refine c_for walk_range (fun j σ H' => (Same H H' ∧ Lis H' D (prsI n i ++ rowP n i j)) ∧ ∃ x1, σ = [some (.int (n : Nat)), some (.ref D), some (.int (i : Nat)), x1]) ⟨⟨sm, by
        have e : rowP n i 0 = [] := rfl
        rw [e, List.append_nil]
        exact lD⟩, _, rfl⟩ (fun _ _ _ _ _ => trivial) ?_ ?_
      · rintro j z σ H2 H1 hj ⟨⟨sm, lD⟩, x1, rfl⟩ ⟨rfl, rfl⟩
        have hjn : j < n - (i + 1) := by omega
        refine ⟨_, rfl, ?_⟩
        obtain ⟨ws, eW, aW⟩ := lD
        refine ⟨.inl ⟨rfl, _, sqL eW⟩, _, rfl, _, rfl, sz_le (by show 2 ≤ 100000; decide), fun m hm => ?_⟩
        have v1 := same_new (o := .tup [.int (i : Nat), .int (((i : Nat) : Int) + 1 + (j : Nat))]) hm
        have kT : SameT _ (upd (upd H1 m (.tup [.int (i : Nat), .int (((i : Nat) : Int) + 1 + (j : Nat))])) D (.lst (ws ++ [.ref m]))) := SameT.lst (v1 _ _ eW)
        have lw := aW.length
        have lb := prsI_len n i j hn (by omega) (by omega)
        refine ⟨D, ws, _, rfl, rfl, v1 _ _ eW, sz_lt (by omega), ⟨Same.mut (sm.trans v1) hD, ws ++ [.ref m], upd_same, ?_⟩, _, rfl⟩
        rw [rowP_step, ← List.append_assoc]
        refine ((aW.mono (.of v1)).append (Are.one ?_)).mono kT
        have e : ((i + 1 + j : Nat) : Int) = ((i : Nat) : Int) + 1 + (j : Nat) := by omega
        rw [e]
        exact is_tie upd_same
      · rintro σ H1 ⟨⟨sm, lD⟩, x1, rfl⟩
        refine ⟨⟨sm, ?_⟩, _, _, rfl⟩
        rw [prsI_step]
        have e : (((n : Nat) : Int) - (((i : Nat) : Int) + 1)).toNat = n - (i + 1) := by omega
        rw [e] at lD
        exact lD
    · rintro σ H1 ⟨⟨sm, lD⟩, x0, x1, rfl⟩
      rw [Int.toNat_natCast, prsI_all] at lD
      exact ⟨_, rfl, q _ _ hD sm lD⟩
theorem ok_law_flipped (T : Top K mg w) (F : FnP K x qual s_law_flipped f fd) : FnOk P w K mg base CX0 1 f fd P_law_flipped spFlip :=
  fn_by F sc_law_flipped (fun _ _ _ _ ⟨_, _, _, _, e, _⟩ => e ▸ rfl) fun cdv A outer s H vs Q E hr hsp => by
    obtain ⟨a, v, ps, t, rfl, lp, iv, hl, q⟩ := hsp
    obtain ⟨us, ea, ar⟩ := id lp
    have l1 : us.length = ps.length := ar.length
    refine ⟨_, pss_one (ps_ret (pe_callB (cr_sortX (Int × Int) sortable_pair hr.units) (by rfl) T.n_sorted bt_sorted (pa_cons (pe_op op_cat (pe_lc (own := [("_law_held", 2)]) rfl sc_law_flipped.nd (pi_list (pv 0)) (blkOk_by (own := [("_law_held", 2)]) (N := N_law_flipped) (sc := defScope s_law_flipped) (by decide +kernel)) (fun _ _ _ _ _ => pg_name (i := 2) sc_law_flipped.nd rfl (Or.inl rfl)) (fun _ _ _ _ _ => pts_one (pt_cmpR (op_neXK K rfl (Int × Int) hr.units) (pv 2) (pv 1) (nomark _))) (fun _ _ _ _ _ => pv 2)) (pe_ifExp (pt_cmpR (op_inX (Int × Int) hr.units) (pv 1) (pv 0) (by rfl)) (pe_lst pa_nil) (pe_lst (pa_cons (pv 1) pa_nil)))) pa_nil))), ?_⟩
    refine ⟨_, rfl, a, rfl, ⟨us, sqL ea⟩, ?_⟩
    refine c_filter (H1 := H) walk_list ps (fun p => decide (p ≠ t)) l1.symm (by rw [l1]; omega) (fun H' sm => sqL (sm _ _ ea)) ?_ ?_
    · rintro i z y H1' H1 R N hi hy sm ⟨rfl, hz⟩ hR hN
      obtain ⟨p, hp, ip⟩ := ar.at hz
      have ey : p = y := by
        rw [hp] at hy
        exact Option.some.inj hy
      subst ey
      refine ⟨rfl, _, rfl, _, rfl, p, t, (ip.mono (.of sm)).dv, (iv.mono (.of sm)).dv, _, rfl, ?_⟩
      cases hc : decide (p ≠ t) with
      | true => exact ⟨_, rfl, hR hc _ _ (fun _ _ h => h) (ip.mono (.of sm))⟩
      | false => exact hN hc _ (fun _ _ h => h)
    · intro D H1 hD s1 hL
      refine ⟨_, rfl, _, rfl, t, ps, (iv.mono (.of s1)).dv, (lp.mono s1).dv, _, rfl, ?_⟩
      obtain ⟨vs1, e1, a1⟩ := hL
      have l2 := a1.length
      have l3 := List.length_filter_le (fun p => decide (p ≠ t)) ps
      by_cases hm : t ∈ ps
      · rw [dec_t hm]
        refine ⟨Nat.zero_le _, fun p2 hp2 => ?_⟩
        have s2 := same_new (o := .lst []) hp2
        refine ⟨D, p2, _, _, rfl, rfl, s2 _ _ e1, upd_same, sz_le (by show vs1.length + 0 ≤ 100000; omega), fun p3 hp3 => ?_⟩
        have s3 := same_new (o := .lst (vs1 ++ [])) hp3
        have s13 := (s1.trans s2).trans s3
        refine ⟨p3, _, (ps.filter fun p => decide (p ≠ t)) ++ [], rfl, sqL upd_same, (a1.mono (.of (s2.trans s3))).append Are.nil, fun m ws hm' aw => ?_⟩
        have s4 := same_new (o := .lst ws) hm'
        refine q _ _ (s13.free hm') (s13.trans s4) ⟨ws, upd_same, ?_⟩
        unfold flip
        rw [if_pos hm]
        exact aw.mono (.of s4)
      · rw [dec_f hm]
        refine ⟨_, rfl, sz_le (by show 1 ≤ 100000; decide), fun p2 hp2 => ?_⟩
        have s2 := same_new (o := .lst [v]) hp2
        refine ⟨D, p2, _, _, rfl, rfl, s2 _ _ e1, upd_same, sz_le (by show vs1.length + 1 ≤ 100000; omega), fun p3 hp3 => ?_⟩
        have s3 := same_new (o := .lst (vs1 ++ [v])) hp3
        have s13 := (s1.trans s2).trans s3
        refine ⟨p3, _, (ps.filter fun p => decide (p ≠ t)) ++ [t], rfl, sqL upd_same, (a1.mono (.of (s2.trans s3))).append (Are.one (iv.mono (.of s13))), fun m ws hm' aw => ?_⟩
        have s4 := same_new (o := .lst ws) hm'
        refine q _ _ (s13.free hm') (s13.trans s4) ⟨ws, upd_same, ?_⟩
        unfold flip
        rw [if_neg hm]
        exact aw.mono (.of s4)
theorem ok_same (T : Top K mg w) (mk : ∀ k sp, FnOk P w K mg base CX0 k f fd P_law_same sp → Cl P w K mg base k "_law_same" sp) (F : FnP K x qual s_law_same f fd) : ∀ M, FnOk P w K mg base CX0 (M + 1) f fd P_law_same (spSame M) := by
  intro M
  induction M with
  | zero =>
    exact fn_by F sc_law_same (fun _ _ _ _ h => h.elim) fun cdv A outer s H vs Q E hr hsp => hsp.elim
  | succ M ih =>
    have c_law_same := mk _ _ ih
    refine fn_by F sc_law_same (fun vs H Q E h => ?_) fun cdv A outer s H vs Q E hr hsp => ?_
    · rcases h with ⟨_, e, _⟩ | ⟨_, _, _, _, e, _⟩
      · rw [e]; rfl
      · rw [e]; rfl
    refine ⟨_, pss_cons (ps_if (pt_val (pe_callB (call_isi) (by rfl) T.n_isinstance bt_isinstance (pa_cons (pv 1) (pa_cons (pe_bltn (v := .ty "tuple") (by rfl) T.n_tuple bt_tuple rfl) pa_nil))))
    (pss_cons (ps_if (PW.pt (pw_or (pt_not (pt_val (pe_callB (call_isi) (by rfl) T.n_isinstance bt_isinstance (pa_cons (pv 0) (pa_cons (pe_bltn (v := .ty "tuple") (by rfl) T.n_tuple bt_tuple rfl) pa_nil))))) (pw_or1 (pt_cmpR (op_ne) (pe_callB (call_len_seq) (by rfl) T.n_len bt_len (pa_cons (pv 0) pa_nil)) (pe_callB (call_len_seq) (by rfl) T.n_len bt_len (pa_cons (pv 1) pa_nil)) (nomark _)))))
    (pss_one (ps_ret (pe_bl)))
    (pss_nil))
    (pss_one (ps_ret (pe_cmpR (op_eqX (List Int) hr.units) (pe_lc (own := [("_law_k", 2)]) rfl sc_law_same.nd (pi_range1 (by rfl) T.n_range (pa_cons (pe_callB (call_len_seq) (by rfl) T.n_len bt_len (pa_cons (pv 1) pa_nil)) pa_nil)) (blkOk_by (own := [("_law_k", 2)]) (N := N_law_same) (sc := defScope s_law_same) (by decide +kernel)) (fun _ _ _ _ _ => pg_name (i := 2) sc_law_same.nd rfl (Or.inl rfl)) (fun _ _ _ _ _ => pts_one (pt_not (pt_val (pe_cl c_law_same hr (Nat.le_refl _) (by rfl) (pa_cons (pe_ix (ix_tupK K rfl) (pv 0) (pv 2) (fun _ _ => rfl)) (pa_cons (pe_ix (ix_tupK K rfl) (pv 1) (pv 2) (fun _ _ => rfl)) pa_nil)))))) (fun _ _ _ _ _ => pv 2)) (pe_lst pa_nil) (nomark _)))))
    (pss_nil))
    (pss_one (ps_ret (pe_and (pe_cmpR (op_eq) (pe_callB (call_isi) (by rfl) T.n_isinstance bt_isinstance (pa_cons (pv 0) (pa_cons (pe_bltn (v := .ty "bool") (by rfl) T.n_bool bt_bool rfl) pa_nil))) (pe_callB (call_isi) (by rfl) T.n_isinstance bt_isinstance (pa_cons (pv 1) (pa_cons (pe_bltn (v := .ty "bool") (by rfl) T.n_bool bt_bool rfl) pa_nil))) (nomark _)) (pe_one (pe_cmpR (op_eq) (pv 0) (pv 1) (nomark _)))))), ?_⟩
    rcases hsp with ⟨t, rfl, q⟩ | ⟨hM, a, b, ss, rfl, ea, eb, hl, q⟩
    · refine ⟨_, rfl, _, _, _, _, _, rfl, .ty _, ty_str t, kit_ty k_str_tup, false, rfl, ?_⟩
      refine ⟨_, rfl, _, _, _, _, _, rfl, .ty _, ty_str t, kit_ty k_str_bool, _, rfl, _, _, _, _, _, rfl, .ty _, ty_str t, kit_ty k_str_bool, rfl, true, rfl, ?_⟩
      refine ⟨_, rfl, _, rfl, rfl, ?_⟩
      rw [show decide (V.str t = V.str t) = true from by simp]
      exact q
    · obtain ⟨M, rfl⟩ := Nat.exists_eq_succ_of_ne_zero hM
      refine ⟨_, rfl, _, _, _, _, _, rfl, .ty _, ty_tup eb, kit_ty k_tup_tup, true, rfl, ?_⟩
      refine ⟨_, rfl, _, _, _, _, _, rfl, .ty _, ty_tup ea, kit_ty k_tup_tup, true, rfl, ?_⟩
      refine ⟨_, rfl, a, _, rfl, .inr (sqT ea), _, rfl, b, _, rfl, .inr (sqT eb), rfl, _, rfl, ?_⟩
      rw [show (!decide (V.int (((ss.map V.str).length : Nat) : Int) = V.int (((ss.map V.str).length : Nat) : Int))) = false from by simp]
      refine ⟨_, rfl, b, _, rfl, .inr (sqT eb), _, rfl, by rw [List.length_map]; omega, by rw [List.length_map]; omega, ?_⟩
      refine c_filter (H1 := H) (α := Int) walk_range0 ((List.range ss.length).map fun (i : Nat) => (i : Int)) (fun _ => false) (by rw [List.length_map, List.length_range, List.length_map, Int.toNat_natCast]) (by rw [List.length_map, Int.toNat_natCast]; omega) (fun _ _ => trivial) ?_ ?_
      · rintro i z y H1' H1 R N hi hy sm ⟨rfl, rfl⟩ hR hN
        have hi' : i < ss.length := by
          rw [List.length_map, Int.toNat_natCast] at hi
          exact hi
        have g : (ss.map V.str)[i]? = some (.str ss[i]) := by rw [List.getElem?_map, List.getElem?_eq_getElem hi']; rfl
        refine ⟨rfl, _, rfl, _, rfl, a, _, _, _, rfl, rfl, sqT (sm _ _ ea), atI_nat g, _, rfl, _, rfl, b, _, _, _, rfl, rfl, sqT (sm _ _ eb), atI_nat g, .inl ⟨_, rfl, true, rfl, ?_⟩⟩
        exact hN rfl _ (fun _ _ h => h)
      · intro D H1 hD s1 hL
        have e0 : ((List.range ss.length).map fun (i : Nat) => (i : Int)).filter (fun _ => false) = [] := by simp
        rw [e0] at hL
        refine ⟨Nat.zero_le _, fun p2 hp2 => ?_⟩
        have s2 := same_new (o := .lst []) hp2
        exact ⟨[], [], (hL.mono s2).dv, (show Lis _ p2 ([] : List Int) from ⟨[], upd_same, Are.nil⟩).dv, q _ (s1.trans s2)⟩
end
end FT

/-! FD13: _law_orders. -/
namespace FT
open PySem PySem.Spec PyProof.Rows L2
open PySem.W (Datum DatumOrd Tup)
/-- m put into r0 at place k -/
def ins (m : Int) (r0 : List Int) (k : Nat) : List Int := r0.take k ++ [m] ++ r0.drop k
def inss (m : Int) (r0 : List Int) : List (List Int) := (List.range (r0.length + 1)).map (ins m r0)
theorem mem_inss {n : Nat} {rs : List (List Int)} (h : ∀ r, r ∈ rs ↔ PermN n r) (r : List Int) : r ∈ rs.flatMap (inss (n : Int)) ↔ PermN (n + 1) r := by
  unfold PermN
  rw [perm_put, List.mem_flatMap]
  constructor
  · rintro ⟨r0, h0, h1⟩
    obtain ⟨k, hk, e⟩ := List.mem_map.mp h1
    exact ⟨r0, k, (h r0).mp h0, by have := List.mem_range.mp hk; omega, e.symm⟩
  · rintro ⟨r0, k, h0, hk, e⟩
    exact ⟨r0, (h r0).mpr h0, List.mem_map.mpr ⟨k, List.mem_range.mpr (by omega), e.symm⟩⟩
theorem len_inss {n : Nat} {m : Int} : ∀ {rs : List (List Int)}, (∀ r ∈ rs, r.length = n) → (rs.flatMap (inss m)).length = rs.length * (n + 1)
  | [], _ => by simp
  | r :: rs, h => by
    rw [List.flatMap_cons, List.length_append, len_inss fun r hr => h r (List.mem_cons_of_mem _ hr), List.length_cons, Nat.add_mul, Nat.one_mul]
    unfold inss
    rw [List.length_map, List.length_range, h r List.mem_cons_self]
    omega
section
variable {P : Program} {w : World} {K : PySem.W.Frag} {mg : Str → Option Value} {base : Heap} {f : Addr} {fd : FuncData} {x qual : Str}
theorem ok_law_orders (T : Top K mg w) (F : FnP K x qual s_law_orders f fd) : FnOk P w K mg base CX0 1 f fd P_law_orders spOrders :=
  fn_by F sc_law_orders (fun _ _ _ _ ⟨_, e, _⟩ => e ▸ rfl) fun cdv A outer s H vs Q E hr hsp => by
    obtain ⟨n, rfl, hn, q⟩ := hsp
    refine ⟨_, pss_cons (ps_set (i := 1) sc_law_orders.nd rfl (Or.inl rfl) (pe_lst (pa_cons (pe_lst pa_nil) pa_nil)))
    (pss_cons (ps_for PassesOwn.never rfl (pi_range1 (by rfl) T.n_range (pa_cons (pv 0) pa_nil)) (pg_name (i := 2) sc_law_orders.nd rfl (Or.inl rfl))
    (pss_cons (ps_set (i := 3) sc_law_orders.nd rfl (Or.inl rfl) (pe_lst pa_nil))
    (pss_cons (ps_for PassesOwn.never rfl (pi_list (pv 1)) (pg_name (i := 4) sc_law_orders.nd rfl (Or.inl rfl))
    (pss_one (ps_for PassesOwn.never rfl (pi_range1 (by rfl) T.n_range (pa_cons (pe_op op_add (pe_callB (call_len_seq) (by rfl) T.n_len bt_len (pa_cons (pv 4) pa_nil)) (pe_int)) pa_nil)) (pg_name (i := 5) sc_law_orders.nd rfl (Or.inl rfl))
    (pss_one (ps_expr (pe_bm PySem.F.plainAttrs_list PySem.F.slot_list_append PySem.F.type_list_append mt_append (pv 3) (pa_cons (pe_op op_cat (pe_op op_cat (pe_slice sl_list (pv 4) (po_none) (po_some (pv 5))) (pe_lst (pa_cons (pv 2) pa_nil))) (pe_slice sl_list (pv 4) (po_some (pv 5)) (po_none))) pa_nil)))))))
    (pss_one (ps_set (i := 1) sc_law_orders.nd rfl (Or.inl rfl) (pv 3))))))
    (pss_one (ps_ret (pv 1)))), ?_⟩
    refine ⟨Nat.zero_le _, fun p0 hp0 => ⟨sz_le (by show 1 ≤ 100000; decide), fun D0 hD0 => ?_⟩⟩
    have s0 := same_new (o := .lst []) hp0
    have s1 := same_new (o := .lst [.ref p0]) hD0
    refine ⟨_, rfl, _, rfl, by omega, by omega, ?_⟩
    refine c_for walk_range0 (fun i σ H' => ∃ D qs rs, H D = none ∧ Grow H H' D qs rs ∧ (∀ r, r ∈ rs ↔ PermN i r) ∧ rs.length = fact i ∧ ∃ x0 x1 x2 x3, σ = [some (.int (n : Nat)), some (.ref D), x0, x1, x2, x3])
      ⟨D0, [p0], [[]], s0.free hD0, ⟨s0.trans s1, upd_same, .cons ⟨[], s1 _ _ upd_same, Are.nil⟩ .nil, fun m => ?_, fun q' hq' => ?_⟩, fun r => ?_, rfl, _, _, _, _, rfl⟩ (fun _ _ _ _ _ => trivial) ?_ ?_
    · have e : D0 = p0 := by simpa using m
      rw [e, upd_same] at hD0
      cases hD0
    · have e : q' = p0 := by simpa using hq'
      rw [e]
      exact hp0
    · unfold PermN rg
      simp
    · rintro i z σ H2 H1 hi ⟨D, qs, rs, hDH, gr, hrs, hlr, x0, x1, x2, x3, rfl⟩ ⟨rfl, rfl⟩
      rw [Int.toNat_natCast] at hi
      have hlen : ∀ r ∈ rs, r.length = i := fun r hr' => PermN.len ((hrs r).mp hr')
      have f1 : fact i ≤ 720 := fact_small (by omega)
      refine ⟨Nat.zero_le _, fun E0 hE => ?_⟩
      have hEH := gr.same.free hE
      have hED : E0 ≠ D := fun z => by
        rw [z, gr.at_] at hE
        cases hE
      have hEq : E0 ∉ qs := fun m => by
        obtain ⟨k, hk, e⟩ := List.mem_iff_getElem.mp m
        obtain ⟨z, _, us, eu, _⟩ := gr.all.at (i := k) (q := E0) (by rw [List.getElem?_eq_getElem hk, e])
        rw [hE] at eu
        cases eu
      have sE := same_new (o := .lst []) hE
      have grE := gr.same' sE
      refine ⟨_, rfl, D, rfl, ⟨_, sqL grE.at_⟩, ?_⟩
      have lqs := gr.all.length
      refine c_for walk_list (fun j σ H' => (H' D = some (.lst (qs.map V.ref)) ∧ Lss H' qs rs ∧ ∃ qs2, Grow H H' E0 qs2 ((rs.take j).flatMap (inss (i : Int)))) ∧ ∃ x2 x3, σ = [some (.int (n : Nat)), some (.ref D), some (.int (i : Nat)), some (.ref E0), x2, x3])
        ⟨⟨grE.at_, grE.all, [], ⟨grE.same, upd_same, .nil, List.not_mem_nil, fun _ h => absurd h List.not_mem_nil⟩⟩, _, _, rfl⟩ (fun _ _ _ _ h => sqL h.1.1) ?_ ?_
      · rintro j z σ H4 H3 hj ⟨⟨eD, lD, qs2, g2⟩, x2, x3, rfl⟩ ⟨rfl, hz⟩
        obtain ⟨b, rfl, hb⟩ := map_ref_get hz
        obtain ⟨r0, hr0, lr0⟩ := lD.at hb
        have m0 : r0 ∈ rs := List.mem_of_getElem? hr0
        have hl0 := hlen r0 m0
        have bE : b ≠ E0 := fun z => hEq (by rw [← z]; exact List.mem_of_getElem? hb)
        have er := lr0.ints
        have htl : (rs.take j).length ≤ 720 := by
          rw [List.length_take]
          omega
        have hbl : ((rs.take j).flatMap (inss (i : Int))).length ≤ 720 * 7 := by
          rw [len_inss fun r hr' => hlen r (List.mem_of_mem_take hr')]
          exact Nat.mul_le_mul htl (by omega)
        refine ⟨_, rfl, b, _, rfl, .inl (sqL er), _, _, rfl, rfl, _, rfl, by rw [List.length_map]; omega, by rw [List.length_map]; omega, ?_⟩
        refine c_for walk_range0 (fun k σ H' => (H' D = some (.lst (qs.map V.ref)) ∧ Lss H' qs rs ∧ H' b = some (.lst (r0.map V.int)) ∧ ∃ qs2, Grow H H' E0 qs2 ((rs.take j).flatMap (inss (i : Int)) ++ (List.range k).map (ins (i : Int) r0))) ∧ ∃ x3, σ = [some (.int (n : Nat)), some (.ref D), some (.int (i : Nat)), some (.ref E0), some (.ref b), x3])
          ⟨⟨eD, lD, er, qs2, by rw [List.range_zero, List.map_nil, List.append_nil]; exact g2⟩, _, rfl⟩ (fun _ _ _ _ _ => trivial) ?_ ?_
        · rintro k z σ H5 H4 hk ⟨⟨eD, lD, er, qs2, g2⟩, x3, rfl⟩ ⟨rfl, rfl⟩
          have hk' : k < i + 1 := by
            rw [List.length_map, hl0] at hk
            omega
          refine ⟨_, rfl, .inl ⟨rfl, _, sqL g2.at_⟩, ?_⟩
          refine ⟨_, rfl, _, rfl, _, rfl, b, _, rfl, sqL er, fun p1 hp1 => ?_⟩
          have c1 : cutV (r0.map V.int) none (some ((k : Nat) : Int)) = (r0.take k).map V.int := by rw [cut_to, List.map_take]
          have c2 : cutV (r0.map V.int) (some ((k : Nat) : Int)) none = (r0.drop k).map V.int := by rw [cut_from, List.map_drop]
          rw [c1]
          have t1 := same_new (o := .lst ((r0.take k).map V.int)) hp1
          refine ⟨_, rfl, sz_le (by show 1 ≤ 100000; decide), fun p2 hp2 => ?_⟩
          have t2 := same_new (o := .lst [.int ((i : Nat) : Int)]) hp2
          refine ⟨p1, p2, _, _, rfl, rfl, t2 _ _ upd_same, upd_same, sz_le (by rw [List.length_map, List.length_take]; show min k r0.length + 1 ≤ 100000; omega), fun p3 hp3 => ?_⟩
          have t3 := same_new (o := .lst ((r0.take k).map V.int ++ [.int ((i : Nat) : Int)])) hp3
          have t13 := (t1.trans t2).trans t3
          refine ⟨_, rfl, _, rfl, _, rfl, b, _, rfl, sqL (t13 _ _ er), fun p4 hp4 => ?_⟩
          rw [c2]
          have t4 := same_new (o := .lst ((r0.drop k).map V.int)) hp4
          refine ⟨p3, p4, _, _, rfl, rfl, t4 _ _ upd_same, upd_same, sz_le (by rw [List.length_append, List.length_map, List.length_map, List.length_take, List.length_drop]; show min k r0.length + 1 + (r0.length - k) ≤ 100000; omega), fun p5 hp5 => ?_⟩
          have t5 := same_new (o := .lst ((r0.take k).map V.int ++ [.int ((i : Nat) : Int)] ++ (r0.drop k).map V.int)) hp5
          have t15 := (t13.trans t4).trans t5
          have g3 := g2.same' t15
          have l5 : ∀ Hx : Hp, Lis (upd Hx p5 (.lst ((r0.take k).map V.int ++ [.int ((i : Nat) : Int)] ++ (r0.drop k).map V.int))) p5 (ins (i : Int) r0 k) := fun Hx => lis_ints (upd_same.trans (by unfold ins; rw [List.map_append, List.map_append]; rfl))
          have n5 : p5 ≠ E0 := fun z => by
            have := (t13.trans t4) _ _ g2.at_
            rw [← z, hp5] at this
            cases this
          have g4 := g3.add hEH (l5 _) n5 ((g2.same.trans (t13.trans t4)).free hp5)
          have lq := g2.all.length
          rw [List.length_append, List.length_map, List.length_range] at lq
          refine ⟨E0, _, _, rfl, rfl, g3.at_, by rw [List.length_map, lq]; exact sz_lt (by omega), ⟨?_, ?_, ?_, qs2 ++ [p5], ?_⟩, _, rfl⟩
          · rw [upd_ne (Ne.symm hED)]
            exact t15 _ _ eD
          · exact (lD.mono t15).off g3.at_ hEq
          · rw [upd_ne bE]
            exact t15 _ _ er
          · rw [List.range_succ, List.map_append, ← List.append_assoc]
            exact g4
        · rintro σ H4 ⟨⟨eD, lD, er, qs2, g2⟩, x3, rfl⟩
          refine ⟨⟨eD, lD, qs2, ?_⟩, _, _, rfl⟩
          have e1 : ((((r0.map V.int).length : Nat) : Int) + 1).toNat = r0.length + 1 := by rw [List.length_map]; omega
          rw [e1] at g2
          rw [List.take_add_one, hr0, List.flatMap_append]
          have e2 : (some r0).toList.flatMap (inss (i : Int)) = (List.range (r0.length + 1)).map (ins (i : Int) r0) := by
            show [r0].flatMap (inss (i : Int)) = _
            rw [List.flatMap_cons, List.flatMap_nil, List.append_nil]
            rfl
          rw [e2]
          exact g2
      · rintro σ H3 ⟨⟨eD, lD, qs2, g2⟩, x2, x3, rfl⟩
        rw [List.length_map, lqs, List.take_of_length_le (Nat.le_refl _)] at g2
        refine ⟨_, rfl, E0, qs2, _, hEH, g2, mem_inss hrs, ?_, _, _, _, _, rfl⟩
        rw [len_inss hlen, hlr]
        show fact i * (i + 1) = (i + 1) * fact i
        exact Nat.mul_comm _ _
    · rintro σ H1 ⟨D, qs, rs, hDH, gr, hrs, hlr, x0, x1, x2, x3, rfl⟩
      rw [Int.toNat_natCast] at hrs hlr
      exact ⟨_, rfl, q D H1 qs rs gr.same gr.at_ gr.all ⟨hDH, gr.new⟩ hrs hlr⟩
end
end FT

/-! FD14: _law_some_ties, _law_some_order. -/
namespace FT
open PySem PySem.Spec PyProof.Rows L2
open PySem.W (Datum DatumOrd Tup)
def spSomeT : Sp := fun vs H Q _ => ∃ (a : Addr) (n : Nat), vs = [.ref a, .int (n : Nat)] ∧ Stk H a ∧ n ≤ 10 ∧ ∀ p H' ps, H p = none → SameX H H' a → Stk H' a → Lis H' p ps → Ties n ps → Q (.ref p) H'
def spSomeO : Sp := fun vs H Q _ => ∃ (a : Addr) (n : Nat), vs = [.ref a, .int (n : Nat)] ∧ Stk H a ∧ n ≤ 10 ∧ ∀ p H' r, H p = none → SameX H H' a → Stk H' a → Lis H' p r → PermN n r → Q (.ref p) H'
/-- what stands while ties are drawn -/
structure ST (H H' : Hp) (a Pp D : Addr) (ws : List V) (n : Nat) (fs : List Tie) : Prop where
  sx : SameX H H' a
  stk : Stk H' a
  ep : H' Pp = some (.lst ws)
  ap : Are H' ws (prs n)
  lf : Lis H' D fs
theorem ST.step {H H' H'' : Hp} {a Pp D : Addr} {ws : List V} {n : Nat} {fs : List Tie} (h : ST H H' a Pp D ws n fs) (hp : Pp ≠ a) (hd : D ≠ a) (s : SameX H' H'' a) (k : Stk H'' a) : ST H H'' a Pp D ws n fs :=
  ⟨h.sx.trans s, k, s _ _ hp h.ep, h.ap.mono (s.tup h.stk), h.lf.x s h.stk hd⟩
theorem ST.same {H H' H'' : Hp} {a Pp D : Addr} {ws : List V} {n : Nat} {fs : List Tie} (h : ST H H' a Pp D ws n fs) (s : Same H' H'') : ST H H'' a Pp D ws n fs :=
  ⟨h.sx.trans (Same.x s a), h.stk.mono s, s _ _ h.ep, h.ap.mono (.of s), h.lf.mono s⟩
section
variable {P : Program} {w : World} {K : PySem.W.Frag} {mg : Str → Option Value} {base : Heap} {f : Addr} {fd : FuncData} {x qual : Str}
theorem ok_law_some_ties (T : Top K mg w) (c_law_take : Cl P w K mg base 1 "_law_take" spTake) (c_law_pairs : Cl P w K mg base 1 "_law_pairs" spPairs) (c_law_flipped : Cl P w K mg base 1 "_law_flipped" spFlip) (F : FnP K x qual s_law_some_ties f fd) : FnOk P w K mg base CX0 2 f fd P_law_some_ties spSomeT :=
  fn_by F sc_law_some_ties (fun _ _ _ _ ⟨_, _, e, _⟩ => e ▸ rfl) fun cdv A outer s H vs Q E hr hsp => by
    obtain ⟨a, n, rfl, hk, hn, q⟩ := hsp
    refine ⟨_, pss_cons (ps_par3 (i := 2) (j := 3) (l := 4) rfl sc_law_some_ties.nd rfl rfl rfl (by decide) (by decide) (by decide) rfl rfl rfl (pa_cons (pe_cl c_law_take hr (by decide) (by rfl) (pa_cons (pv 0) (pa_cons (pe_int) pa_nil))) (pa_cons (pe_op op_add (pe_int) (pe_cl c_law_take hr (by decide) (by rfl) (pa_cons (pv 0) (pa_cons (pe_int) pa_nil)))) (pa_cons (pe_lst pa_nil) pa_nil))) rfl)
    (pss_cons (ps_set (i := 5) sc_law_some_ties.nd rfl (Or.inl rfl) (pe_cl c_law_pairs hr (by decide) (by rfl) (pa_cons (pv 1) pa_nil)))
    (pss_cons (ps_for PassesOwn.never rfl (pi_list (pv 5)) (pg_tup rfl (pgs_cons (pg_name (i := 6) sc_law_some_ties.nd rfl (Or.inl rfl)) (pgs_cons (pg_name (i := 7) sc_law_some_ties.nd rfl (Or.inl rfl)) pgs_nil)))
    (C8.pss_cut (ps_set (i := 8) sc_law_some_ties.nd rfl (Or.inl rfl) (pe_and (pe_cmpR (op_lt) (pv 2) (pe_int) (nomark _)) (pe_one (pe_cmpR (op_le) (pe_cl c_law_take hr (by decide) (by rfl) (pa_cons (pv 0) (pa_cons (pe_int) pa_nil))) (pv 2) (nomark _)))))
    (C8.pss_cut (ps_if (pt_cmpR (op_eq) (pv 2) (pe_int) (nomark _))
    (pss_one (ps_set (i := 8) sc_law_some_ties.nd rfl (Or.inl rfl) (pe_cmpR (op_ne) (pe_op op_mod (pe_callTy (call_int1) (by rfl) T.n_int bt_int (pa_cons (pv 6) pa_nil)) (pv 3)) (pe_op op_mod (pe_callTy (call_int1) (by rfl) T.n_int bt_int (pa_cons (pv 7) pa_nil)) (pv 3)) (nomark _))))
    (pss_nil))
    (C8.pss_cut (ps_if (pt_cmpR (op_eq) (pv 2) (pe_int) (nomark _))
    (pss_one (ps_set (i := 8) sc_law_some_ties.nd rfl (Or.inl rfl) (pe_cmpR (op_eq) (pe_op op_fdiv (pv 6) (pv 3)) (pe_op op_fdiv (pv 7) (pv 3)) (nomark _))))
    (pss_nil))
    (C8.pss_cut (ps_if (pt_cmpR (op_eq) (pv 2) (pe_int) (nomark _))
    (pss_one (ps_set (i := 8) sc_law_some_ties.nd rfl (Or.inl rfl) (pe_or (pe_cmpR (op_eq) (pv 6) (pe_int) (nomark _)) (pe_one (pe_cmpR (op_eq) (pe_op op_fdiv (pe_op op_sub (pv 6) (pe_int)) (pv 3)) (pe_op op_fdiv (pe_op op_sub (pv 7) (pe_int)) (pv 3)) (nomark _))))))
    (pss_nil))
    (C8.pss_cut (ps_if (pt_cmpR (op_eq) (pv 2) (pe_int) (nomark _))
    (pss_one (ps_set (i := 8) sc_law_some_ties.nd rfl (Or.inl rfl) (pe_cmpR (op_lt) (pv 6) (pe_op op_sub (pv 3) (pe_int)) (nomark _))))
    (pss_nil))
    (C8.pss_cut (ps_if (pt_cmpR (op_eq) (pv 2) (pe_int) (nomark _))
    (pss_one (ps_set (i := 8) sc_law_some_ties.nd rfl (Or.inl rfl) (pe_cmpR (op_le) (pe_op op_mod (pe_callTy (call_int1) (by rfl) T.n_int bt_int (pa_cons (pe_op op_add (pe_op op_sub (pv 7) (pv 6)) (pv 3)) pa_nil)) (pv 1)) (pe_op op_mul (pe_int) (pv 3)) (nomark _))))
    (pss_nil))
    (pss_one (ps_if (pt_val (pv 8))
    (pss_one (ps_expr (pe_bm PySem.F.plainAttrs_list PySem.F.slot_list_append PySem.F.type_list_append mt_append (pv 4) (pa_cons (pe_tup (pa_cons (pv 6) (pa_cons (pv 7) pa_nil))) pa_nil))))
    (pss_nil))))))))))
    (pss_cons (ps_for PassesOwn.never rfl (pi_range1 (by rfl) T.n_range (pa_cons (pe_cl c_law_take hr (by decide) (by rfl) (pa_cons (pv 0) (pa_cons (pe_int) pa_nil))) pa_nil)) (pg_name (i := 9) sc_law_some_ties.nd rfl (Or.inl rfl))
    (pss_one (ps_if (pt_cmpR (op_neX (List (Int × Int)) hr.units) (pv 5) (pe_lst pa_nil) (nomark _))
    (pss_one (ps_set (i := 4) sc_law_some_ties.nd rfl (Or.inl rfl) (pe_cl c_law_flipped hr (by decide) (by rfl) (pa_cons (pv 4) (pa_cons (pe_ix ix_list (pv 5) (pe_cl c_law_take hr (by decide) (by rfl) (pa_cons (pv 0) (pa_cons (pe_callB (call_len_seq) (by rfl) T.n_len bt_len (pa_cons (pv 5) pa_nil)) pa_nil))) (fun _ _ => rfl)) pa_nil)))))
    (pss_nil))))
    (pss_one (ps_ret (pv 4)))))), ?_⟩
    refine ⟨_, rfl, a, 9, rfl, hk, by decide, by decide, fun d1 H1 a1 b1 x1 k1 => ?_⟩
    refine ⟨_, rfl, a, 4, rfl, k1, by decide, by decide, fun d2 H2 a2 b2 x2 k2 => ⟨_, _, rfl, rfl, Nat.zero_le _, fun D hD => ⟨_, _, _, rfl, ?_⟩⟩⟩
    have x12 := x1.trans x2
    have sD := same_new (o := .lst []) hD
    have hDH := x12.free hk hD k2
    have nDa : D ≠ a := hk.ne hDH
    have kD := k2.mono sD
    have xD := x12.trans (Same.x sD a)
    refine ⟨_, rfl, n, rfl, hn, fun Pp H3 np s3 lp => ?_⟩
    have npD : Pp ≠ D := fun z => by
      rw [z, upd_same] at np
      cases np
    have nPH := xD.free hk np kD
    have nPa : Pp ≠ a := hk.ne nPH
    obtain ⟨ws, ep, ap⟩ := lp
    have lws := ap.length
    have hpl := (prs_len hn).1
    have hpt := prs_ties hn
    have hp0 : (0 : Int) < 1 + d2 := by omega
    have hp1 : (1 : Int) + d2 < 1073741824 := by omega
    refine ⟨_, rfl, Pp, rfl, ⟨ws, sqL ep⟩, ?_⟩
    refine c_for walk_list (fun i σ H' => (∃ fs, fs.Sublist ((prs n).take i) ∧ ST H H' a Pp D ws n fs) ∧ ∃ x6 x7 x8 x9, σ = [some (.ref a), some (.int (n : Nat)), some (.int d1), some (.int (1 + d2)), some (.ref D), some (.ref Pp), x6, x7, x8, x9])
      ⟨⟨[], List.nil_sublist _, xD.trans (Same.x s3 a), kD.mono s3, ep, ap, [], s3 _ _ upd_same, Are.nil⟩, _, _, _, _, rfl⟩ (fun _ _ _ _ h => by obtain ⟨⟨_, _, h⟩, _⟩ := h; exact sqL h.ep) ?_ ?_
    · rintro i z σ H5 H4 hi ⟨⟨fs, hsub, h4⟩, x6, x7, x8, x9, rfl⟩ ⟨rfl, hz⟩
      obtain ⟨p, hp, ip⟩ := h4.ap.at hz
      obtain ⟨c, rfl, ec⟩ := of_tie ip
      obtain ⟨i0, j0, rfl, hij, hj⟩ := hpt.nat (List.mem_of_getElem? hp)
      refine ⟨c, _, rfl, sqT ec, rfl, _, _, rfl, _, _, rfl, rfl, ?_⟩
      -- held
      refine ⟨fun σ' H' => ST H H' a Pp D ws n fs ∧ ∃ b, σ' = [some (.ref a), some (.int (n : Nat)), some (.int d1), some (.int (1 + d2)), some (.ref D), some (.ref Pp), some (.int (i0 : Nat)), some (.int (j0 : Nat)), some (.bl b), x9], ?_, ?_⟩
      · refine ⟨_, rfl, _, _, rfl, rfl, _, rfl, ?_⟩
        cases hc : decide (d1 < 4) with
        | false => exact ⟨h4, _, rfl⟩
        | true =>
          exact ⟨_, rfl, a, 4, rfl, h4.stk, by decide, by decide, fun d3 H5 a3 b3 x3 k3 => ⟨_, rfl, _, _, rfl, rfl, h4.step nPa nDa x3 k3, _, rfl⟩⟩
      rintro σ' H' ⟨h5, b, rfl⟩
      refine ⟨fun σ' H' => ST H H' a Pp D ws n fs ∧ ∃ b, σ' = [some (.ref a), some (.int (n : Nat)), some (.int d1), some (.int (1 + d2)), some (.ref D), some (.ref Pp), some (.int (i0 : Nat)), some (.int (j0 : Nat)), some (.bl b), x9], ?_, ?_⟩
      · refine ⟨_, rfl, rfl, _, rfl, ?_⟩
        cases hc : decide (V.int d1 = V.int 4) with
        | false => exact ⟨h5, _, rfl⟩
        | true => exact ⟨_, rfl, .inl ⟨_, rfl, _, rfl, _, _, rfl, rfl, hp0, _, rfl, .inl ⟨_, rfl, _, rfl, _, _, rfl, rfl, hp0, rfl, h5, _, rfl⟩⟩⟩
      rintro σ' H' ⟨h5, b, rfl⟩
      refine ⟨fun σ' H' => ST H H' a Pp D ws n fs ∧ ∃ b, σ' = [some (.ref a), some (.int (n : Nat)), some (.int d1), some (.int (1 + d2)), some (.ref D), some (.ref Pp), some (.int (i0 : Nat)), some (.int (j0 : Nat)), some (.bl b), x9], ?_, ?_⟩
      · refine ⟨_, rfl, rfl, _, rfl, ?_⟩
        cases hc : decide (V.int d1 = V.int 5) with
        | false => exact ⟨h5, _, rfl⟩
        | true => exact ⟨_, rfl, _, rfl, _, _, rfl, rfl, ⟨hp0, hp1⟩, _, rfl, _, rfl, _, _, rfl, rfl, ⟨hp0, hp1⟩, rfl, h5, _, rfl⟩
      rintro σ' H' ⟨h5, b, rfl⟩
      refine ⟨fun σ' H' => ST H H' a Pp D ws n fs ∧ ∃ b, σ' = [some (.ref a), some (.int (n : Nat)), some (.int d1), some (.int (1 + d2)), some (.ref D), some (.ref Pp), some (.int (i0 : Nat)), some (.int (j0 : Nat)), some (.bl b), x9], ?_, ?_⟩
      · refine ⟨_, rfl, rfl, _, rfl, ?_⟩
        cases hc : decide (V.int d1 = V.int 6) with
        | false => exact ⟨h5, _, rfl⟩
        | true =>
          refine ⟨_, rfl, rfl, _, rfl, ?_⟩
          cases hc2 : decide (V.int ((i0 : Nat) : Int) = V.int 0) with
          | true => exact ⟨h5, _, rfl⟩
          | false => exact ⟨_, rfl, _, _, rfl, rfl, _, rfl, _, _, rfl, rfl, ⟨hp0, hp1⟩, _, rfl, _, _, rfl, rfl, _, rfl, _, _, rfl, rfl, ⟨hp0, hp1⟩, rfl, h5, _, rfl⟩
      rintro σ' H' ⟨h5, b, rfl⟩
      refine ⟨fun σ' H' => ST H H' a Pp D ws n fs ∧ ∃ b, σ' = [some (.ref a), some (.int (n : Nat)), some (.int d1), some (.int (1 + d2)), some (.ref D), some (.ref Pp), some (.int (i0 : Nat)), some (.int (j0 : Nat)), some (.bl b), x9], ?_, ?_⟩
      · refine ⟨_, rfl, rfl, _, rfl, ?_⟩
        cases hc : decide (V.int d1 = V.int 7) with
        | false => exact ⟨h5, _, rfl⟩
        | true => exact ⟨_, rfl, _, rfl, _, _, rfl, rfl, _, _, rfl, rfl, h5, _, rfl⟩
      rintro σ' H' ⟨h5, b, rfl⟩
      refine ⟨fun σ' H' => ST H H' a Pp D ws n fs ∧ ∃ b, σ' = [some (.ref a), some (.int (n : Nat)), some (.int d1), some (.int (1 + d2)), some (.ref D), some (.ref Pp), some (.int (i0 : Nat)), some (.int (j0 : Nat)), some (.bl b), x9], ?_, ?_⟩
      · refine ⟨_, rfl, rfl, _, rfl, ?_⟩
        cases hc : decide (V.int d1 = V.int 8) with
        | false => exact ⟨h5, _, rfl⟩
        | true => exact ⟨_, rfl, _, rfl, _, _, rfl, rfl, _, rfl, _, _, rfl, rfl, .inl ⟨_, rfl, _, rfl, _, _, rfl, rfl, by show (0 : Int) < (n : Nat); omega, _, rfl, _, _, rfl, rfl, .inl ⟨by decide, by decide⟩, _, _, rfl, rfl, h5, _, rfl⟩⟩
      rintro σ' H' ⟨h5, b, rfl⟩
      refine ⟨_, rfl, b, rfl, ?_⟩
      cases b with
      | false =>
        refine ⟨⟨fs, hsub.trans ?_, h5⟩, _, _, _, _, rfl⟩
        rw [List.take_add_one]
        exact List.sublist_append_left _ _
      | true =>
        obtain ⟨us, eF, aF⟩ := h5.lf
        have lus := aF.length
        have lfs : fs.length ≤ 45 := Nat.le_trans (hsub.trans (List.take_sublist _ _)).length_le hpl
        refine ⟨_, rfl, .inl ⟨rfl, _, sqL eF⟩, _, rfl, _, rfl, sz_le (by show 2 ≤ 100000; decide), fun m hm => ?_⟩
        have v1 := same_new (o := .tup [.int (i0 : Nat), .int (j0 : Nat)]) hm
        have h6 := h5.same v1
        have eF6 := v1 _ _ eF
        have kT : SameT _ (upd (upd H' m (.tup [.int (i0 : Nat), .int (j0 : Nat)])) D (.lst (us ++ [.ref m]))) := SameT.lst eF6
        refine ⟨D, us, _, rfl, rfl, eF6, sz_lt (by omega), ⟨⟨fs ++ [((i0 : Int), (j0 : Int))], ?_, ?_⟩, _, _, _, _, rfl⟩⟩
        · rw [List.take_add_one, hp]
          exact hsub.append (List.Sublist.refl _)
        · obtain ⟨c6, s6, n6, e6⟩ := h6.stk
          refine ⟨fun b o nb e => ?_, ⟨c6, s6, n6, by rw [upd_ne (Ne.symm nDa)]; exact e6⟩, by rw [upd_ne npD]; exact h6.ep, h6.ap.mono kT, us ++ [.ref m], upd_same, ((aF.mono (.of v1)).append (Are.one (is_tie upd_same))).mono kT⟩
          rw [upd_ne (ne_of_none e hDH)]
          exact h6.sx b o nb e
    · rintro σ H4 ⟨⟨fs, hsub, h4⟩, x6, x7, x8, x9, rfl⟩
      refine ⟨_, rfl, a, 3, rfl, h4.stk, by decide, by decide, fun d3 H5 a3 b3 x3 k3 => ⟨_, rfl, by omega, by omega, ?_⟩⟩
      have h5 := h4.step nPa nDa x3 k3
      have tf : Ties n fs := hpt.sub (hsub.trans (List.take_sublist _ _))
      refine c_for walk_range0 (fun i σ H' => (∃ E fs, H E = none ∧ ST H H' a Pp E ws n fs ∧ Ties n fs ∧ ∃ x6 x7 x8 x9, σ = [some (.ref a), some (.int (n : Nat)), some (.int d1), some (.int (1 + d2)), some (.ref E), some (.ref Pp), x6, x7, x8, x9]))
        ⟨D, fs, hDH, h5, tf, _, _, _, _, rfl⟩ (fun _ _ _ _ _ => trivial) ?_ ?_
      · rintro i z σ H7 H6 hi ⟨E, fs, hE, h6, tf, x6, x7, x8, x9, rfl⟩ ⟨rfl, rfl⟩
        have nEa : E ≠ a := hk.ne hE
        refine ⟨_, rfl, Nat.zero_le _, fun p0 hp0 => ?_⟩
        have v0 := same_new (o := .lst []) hp0
        have h7 := h6.same v0
        refine ⟨prs n, [], (show Lis _ Pp (prs n) from ⟨ws, h7.ep, h7.ap⟩).dv, (show Lis _ p0 ([] : List Tie) from ⟨[], upd_same, Are.nil⟩).dv, _, rfl, ?_⟩
        by_cases hne : prs n = []
        · rw [dec_f (fun h => h hne)]
          exact ⟨E, fs, hE, h7, tf, _, _, _, _, rfl⟩
        · rw [dec_t hne]
          have hpos : 0 < ws.length := by
            rw [lws]
            exact Nat.pos_of_ne_zero fun z => hne (List.length_eq_zero_iff.mp z)
          refine ⟨_, rfl, _, rfl, _, rfl, _, rfl, Pp, ws, rfl, .inl (sqL h7.ep), a, _, rfl, h7.stk, by omega, by omega, fun d4 H8 a4 b4 x4 k4 => ?_⟩
          have h8 := h7.step nPa nEa x4 k4
          have hd : d4.toNat < ws.length := by omega
          obtain ⟨t0, ht0, it⟩ := h8.ap.at (List.getElem?_eq_getElem hd)
          have okt := hpt.ok t0 (List.mem_of_getElem? ht0)
          have hfl := tf.len hn
          refine ⟨Pp, ws, _, _, rfl, rfl, sqL h8.ep, atI_int a4 (List.getElem?_eq_getElem hd), E, _, fs, t0, rfl, h8.lf, it, by omega, fun p9 H9 n9 s9 l9 => ?_⟩
          have h9 := h8.same s9
          exact ⟨p9, _, h8.sx.free hk n9 h8.stk, ⟨h9.sx, h9.stk, h9.ep, h9.ap, l9⟩, flip_ties tf okt, _, _, _, _, rfl⟩
      · rintro σ H6 ⟨E, fs, hE, h6, tf, x6, x7, x8, x9, rfl⟩
        exact ⟨_, rfl, q _ _ fs hE h6.sx h6.stk h6.lf tf⟩
end
end FT

/-! FD15: _law_some_order. -/
namespace FT
open PySem PySem.Spec PyProof.Rows L2
open PySem.W (Datum DatumOrd Tup)
theorem erase_map {α β : Type} (f : α → β) : ∀ (l : List α) (k : Nat), (l.map f).eraseIdx k = (l.eraseIdx k).map f
  | [], _ => rfl
  | _ :: _, 0 => rfl
  | x :: l, k + 1 => by
    show f x :: (l.map f).eraseIdx k = f x :: (l.eraseIdx k).map f
    rw [erase_map f l k]
section
variable {P : Program} {w : World} {K : PySem.W.Frag} {mg : Str → Option Value} {base : Heap} {f : Addr} {fd : FuncData} {x qual : Str}
theorem ok_law_some_order (T : Top K mg w) (c_law_take : Cl P w K mg base 1 "_law_take" spTake) (F : FnP K x qual s_law_some_order f fd) : FnOk P w K mg base CX0 2 f fd P_law_some_order spSomeO :=
  fn_by F sc_law_some_order (fun _ _ _ _ ⟨_, _, e, _⟩ => e ▸ rfl) fun cdv A outer s H vs Q E hr hsp => by
    obtain ⟨a, n, rfl, hk, hn, q⟩ := hsp
    refine ⟨_, pss_cons (ps_par (i := 2) (j := 3) rfl sc_law_some_order.nd rfl rfl (by decide) rfl rfl (pa_cons (pe_listRg rfl (by rfl) T.n_list (prg_1 (by rfl) T.n_range (pv 1))) (pa_cons (pe_lst pa_nil) pa_nil)) rfl)
    (pss_cons (ps_for PassesOwn.never rfl (pi_range1 (by rfl) T.n_range (pa_cons (pv 1) pa_nil)) (pg_name (i := 4) sc_law_some_order.nd rfl (Or.inl rfl))
    (pss_one (ps_expr (pe_bm PySem.F.plainAttrs_list PySem.F.slot_list_append PySem.F.type_list_append mt_append (pv 3) (pa_cons (pe_bm PySem.F.plainAttrs_list PySem.F.slot_list_pop PySem.F.type_list_pop mt_popAt (pv 2) (pa_cons (pe_cl c_law_take hr (by decide) (by rfl) (pa_cons (pv 0) (pa_cons (pe_callB (call_len_seq) (by rfl) T.n_len bt_len (pa_cons (pv 2) pa_nil)) pa_nil))) pa_nil)) pa_nil)))))
    (pss_one (ps_ret (pv 3)))), ?_⟩
    refine ⟨_, rfl, _, rfl, RgOk.of_le (by decide) (by omega) (by decide) (by omega), fun L hL => ?_⟩
    rw [rgV_eq]
    have s1 := same_new (o := .lst ((rg n).map V.int)) hL
    refine ⟨Nat.zero_le _, fun D hD => ⟨_, _, rfl, ?_⟩⟩
    have s2 := same_new (o := .lst []) hD
    have s12 := s1.trans s2
    have hDH := s1.free hD
    have nLa := hk.ne hL
    have nDa := hk.ne hDH
    have nDL : D ≠ L := fun z => by
      rw [z, upd_same] at hD
      cases hD
    refine ⟨_, rfl, _, rfl, by omega, by omega, ?_⟩
    refine c_for walk_range0 (fun i σ H' => ∃ fs ls : List Int, (SameX H H' a ∧ Stk H' a ∧ H' L = some (.lst (ls.map V.int)) ∧ H' D = some (.lst (fs.map V.int)) ∧ (fs ++ ls).Perm (rg n) ∧ fs.length = i) ∧ ∃ x4, σ = [some (.ref a), some (.int (n : Nat)), some (.ref L), some (.ref D), x4])
      ⟨[], rg n, ⟨Same.x s12 a, hk.mono s12, s2 _ _ upd_same, upd_same, .refl _, rfl⟩, _, rfl⟩ (fun _ _ _ _ _ => trivial) ?_ ?_
    · rintro i z σ H2 H1 hi ⟨fs, ls, ⟨sx, sk, eL, eD, pm, hl⟩, x4, rfl⟩ ⟨rfl, rfl⟩
      rw [Int.toNat_natCast] at hi
      have hlen := pm.length_eq
      rw [List.length_append, rg_len, hl] at hlen
      refine ⟨_, rfl, .inl ⟨rfl, _, sqL eD⟩, ?_⟩
      refine ⟨_, rfl, .inl ⟨rfl, _, sqL eL⟩, ?_⟩
      refine ⟨_, rfl, _, rfl, L, _, rfl, .inl (sqL eL), a, _, rfl, sk, by rw [List.length_map]; omega, by rw [List.length_map]; omega, fun d H2 h0 h1 x2 k2 => ?_⟩
      rw [List.length_map] at h1
      have hd : d.toNat < ls.length := by omega
      have eL2 := x2 _ _ nLa eL
      have eD2 := x2 _ _ nDa eD
      have ix : ixN (ls.map V.int).length d = some d.toNat := by
        unfold ixN
        rw [if_pos h0, if_pos (by rw [List.length_map]; exact h1)]
      have g : (ls.map V.int)[d.toNat]? = some (.int ls[d.toNat]) := by rw [List.getElem?_map, List.getElem?_eq_getElem hd]; rfl
      refine ⟨L, _, d, d.toNat, _, rfl, rfl, eL2, by omega, by omega, (ixN_seq ix).1, g, ?_⟩
      rw [erase_map]
      have eD3 : upd H2 L (.lst ((ls.eraseIdx d.toNat).map V.int)) D = some (.lst (fs.map V.int)) := by
        rw [upd_ne nDL]
        exact eD2
      refine ⟨D, _, _, rfl, rfl, eD3, by rw [List.length_map]; exact sz_lt (by omega), ?_⟩
      refine ⟨fs ++ [ls[d.toNat]], ls.eraseIdx d.toNat, ⟨fun b o nb e => ?_, ?_, ?_, ?_, ?_, ?_⟩, _, rfl⟩
      · rw [upd_ne (ne_of_none e hDH), upd_ne (ne_of_none e hL)]
        exact x2 _ _ nb (sx _ _ nb e)
      · obtain ⟨c6, s6, n6, e6⟩ := k2
        exact ⟨c6, s6, n6, by rw [upd_ne (Ne.symm nDa), upd_ne (Ne.symm nLa)]; exact e6⟩
      · rw [upd_ne (Ne.symm nDL)]
        exact upd_same
      · rw [upd_same, List.map_append]
        rfl
      · refine List.Perm.trans ?_ pm
        rw [List.append_assoc]
        exact List.Perm.append_left fs (erase_perm hd)
      · rw [List.length_append, hl]
        rfl
    · rintro σ H1 ⟨fs, ls, ⟨sx, sk, eL, eD, pm, hl⟩, x4, rfl⟩
      rw [Int.toNat_natCast] at hl
      have hlen := pm.length_eq
      rw [List.length_append, rg_len, hl] at hlen
      have h0 : ls = [] := List.length_eq_zero_iff.mp (by omega)
      rw [h0, List.append_nil] at pm
      exact ⟨_, rfl, q _ _ fs hDH sx sk (lis_ints eD) pm⟩
end
end FT

/-! FD16: _law_alike_right, _law_shape_right. -/
namespace FT
open PySem PySem.Spec PyProof.Rows L2
open PySem.W (Datum DatumOrd Tup)
theorem init_make {K : PySem.W.Frag} {H : Hp} {Qd : Addr → Hp → Prop} {t : V} {n : Nat} {ps : List Tie} (it : Is H t (Tup.mk ps)) (ht : Ties n ps) (hn : n ≤ 10) (q : ∀ x H', Same H H' → Pty K H' (.ref x) n ps → Qd x H') :
    ∀ x dx, H x = none → H dx = none → dx ≠ x → spInit K [.ref x, .int (n : Nat), t] (upd (upd H dx (.own x)) x (.ins (CP K) dx [])) (fun v H2 => v = .non ∧ Qd x H2) E0 :=
  spInit.make (Q := onRef Qd) it ht hn fun v H' s p => by
    obtain ⟨_, _, a, _, _, rfl, _⟩ := id p
    exact q a H' s p
def spAR : Sp := fun vs H Q _ => ∃ (a b : Addr) (n : Nat) (ps qs : List Tie) (due : Bool), vs = [.int (n : Nat), .ref a, .ref b, .bl due] ∧ Lis H a ps ∧ Lis H b qs ∧ (Ties n ps ∧ Ties n qs ∧ n ≤ 10) ∧ (due = true ↔ ∃ r, PermN n r ∧ ren ps r = qs) ∧ ∀ H', Same H H' → Q (.bl true) H'
def spSR : Sp := fun vs H Q _ => ∃ (a b : Addr) (n : Nat) (ps m : List Tie), vs = [.int (n : Nat), .ref a, .ref b] ∧ Lis H a ps ∧ Lis H b m ∧ (Ties n ps ∧ n ≤ 6 ∧ Least (Img n ps) m) ∧ ∀ H', Same H H' → Q (.bl true) H'
section
variable {P : Program} {w : World} {K : PySem.W.Frag} {mg : Str → Option Value} {base : Heap} {f : Addr} {fd : FuncData} {x qual : Str}
theorem ok_law_alike_right (T : Top K mg w) (c_certify_alike : Cl P w K mg base 15 "certify_alike" (spCertA K)) (c_party : MakC P w K mg base 4 (spInit K)) (c_law_people : Cl P w K mg base 2 "_law_people" spAreP) (c_law_same : Cl P w K mg base 3 "_law_same" (spSame 2)) (c_law_line : Cl P w K mg base 1 "_law_line" spLine)
    (c_law_renamed : Cl P w K mg base 2 "_law_renamed" spRenC) (c_law_agrees : Cl P w K mg base 11 "_law_agrees" spAgrees) (F : FnP K x qual s_law_alike_right f fd) : FnOk P w K mg base CX0 16 f fd P_law_alike_right spAR :=
  fn_by F sc_law_alike_right (fun _ _ _ _ ⟨_, _, _, _, _, _, e, _⟩ => e ▸ rfl) fun cdv A outer s H vs Q E hr hsp => by
    obtain ⟨a, b, n, ps, qs, due, rfl, la, lb, ⟨tp, tq, hn⟩, hdue, q⟩ := hsp
    obtain ⟨us, ea, ar⟩ := id la
    obtain ⟨ws, eb, br⟩ := id lb
    refine ⟨_, pss_cons (ps_set (i := 4) sc_law_alike_right.nd rfl (Or.inl rfl) (pe_cl c_certify_alike hr (by decide) (by rfl) (pa_cons (pe_mkl c_party T.m_Party hr (by decide) (by rfl) (pa_cons (pv 0) (pa_cons (pe_callTy (call_tuple_of) (by rfl) T.n_tuple bt_tuple (pa_cons (pv 1) pa_nil)) pa_nil))) (pa_cons (pe_mkl c_party T.m_Party hr (by decide) (by rfl) (pa_cons (pv 0) (pa_cons (pe_callTy (call_tuple_of) (by rfl) T.n_tuple bt_tuple (pa_cons (pv 2) pa_nil)) pa_nil))) pa_nil))))
    (pss_cons (ps_if (pt_not (pt_val (pv 3)))
    (pss_one (ps_ret (pe_cmpR (op_isN) (pv 4) (pe_non) (nomark _))))
    (pss_nil))
    (pss_cons (ps_if (PW.pt (pw_or (pt_not (pt_val (pe_callB (call_isi) (by rfl) T.n_isinstance bt_isinstance (pa_cons (pv 4) (pa_cons (pe_bltn (v := .ty "tuple") (by rfl) T.n_tuple bt_tuple rfl) pa_nil))))) (pw_or (pt_cmpR (op_ne) (pe_callB (call_len_seq) (by rfl) T.n_len bt_len (pa_cons (pv 4) pa_nil)) (pe_int) (nomark _)) (pw_or (pt_not (pt_val (pe_cl c_law_people hr (by decide) (by rfl) (pa_cons (pe_ix ix_tup (pv 4) (pe_int) (fun _ _ => rfl)) (pa_cons (pv 0) pa_nil))))) (pw_or1 (pt_cmpR (op_ne) (pe_callB (call_len_seq) (by rfl) T.n_len bt_len (pa_cons (pe_ix ix_tup (pv 4) (pe_int) (fun _ _ => rfl)) pa_nil)) (pv 0) (nomark _)))))))
    (pss_one (ps_ret (pe_bl)))
    (pss_nil))
    (pss_cons (ps_if (pt_not (pt_val (pe_cl c_law_same hr (by decide) (by rfl) (pa_cons (pe_ix ix_tup (pv 4) (pe_int) (fun _ _ => rfl)) (pa_cons (pe_tup (pa_cons (pe_str) (pa_cons (pe_cl c_law_line hr (by decide) (by rfl) (pa_cons (pv 0) (pa_cons (pv 1) pa_nil))) (pa_cons (pe_cl c_law_line hr (by decide) (by rfl) (pa_cons (pv 0) (pa_cons (pv 2) pa_nil))) pa_nil)))) pa_nil)))))
    (pss_one (ps_ret (pe_bl)))
    (pss_nil))
    (pss_one (ps_ret (pe_and (pe_cmpR (op_eqX (List (Int × Int)) hr.units) (pe_cl c_law_renamed hr (by decide) (by rfl) (pa_cons (pv 1) (pa_cons (pe_ix ix_tup (pv 4) (pe_int) (fun _ _ => rfl)) pa_nil))) (pv 2) (nomark _)) (pe_one (pe_cl c_law_agrees hr (by decide) (by rfl) (pa_cons (pe_ix ix_tup (pv 4) (pe_int) (fun _ _ => rfl)) (pa_cons (pe_ix ix_tup (pv 4) (pe_int) (fun _ _ => rfl)) (pa_cons (pe_bl) pa_nil))))))))))), ?_⟩
    refine ⟨_, rfl, _, rfl, a, us, rfl, .inl ⟨sqL ea, fun t1 ht1 => ?_⟩⟩
    have s1 := same_new (o := .tup us) ht1
    refine init_make (is_tup upd_same (ar.mono (.of s1))) tp hn fun x1 H1 s2 p1 => ?_
    have s12 := s1.trans s2
    refine ⟨_, rfl, _, rfl, b, ws, rfl, .inl ⟨sqL (s12 _ _ eb), fun t2 ht2 => ?_⟩⟩
    have s3 := same_new (o := .tup ws) ht2
    refine init_make (is_tup upd_same (br.mono (.of (s12.trans s3)))) tq hn fun x2 H2 s4 p2 => ?_
    have s14 := (s12.trans s3).trans s4
    refine ⟨_, _, n, n, ps, qs, rfl, p1.mono (s3.trans s4), p2, fun v H3 res s5 al oc => ?_⟩
    have s15 := s14.trans s5
    have al' := al.2 rfl
    refine ⟨_, rfl, due, rfl, ?_⟩
    cases due with
    | false =>
      cases res with
      | some r =>
        have := hdue.mpr ⟨r, al'⟩
        cases this
      | none =>
        have ev : v = .non := oc
        subst ev
        exact ⟨_, rfl, rfl, q _ s15⟩
    | true =>
      cases res with
      | none =>
        obtain ⟨r, pr, er⟩ := hdue.mp rfl
        exact absurd er (al' r pr)
      | some r =>
        obtain ⟨d, c, z, rfl, ed, ec, iz⟩ := oc
        obtain ⟨pr, er⟩ := al'
        obtain ⟨e, rfl, ee⟩ := of_tupI iz
        refine ⟨_, rfl, _, _, _, _, _, rfl, .ty _, ty_tup ed, kit_ty k_tup_tup, true, rfl, ?_⟩
        refine ⟨_, rfl, d, _, rfl, .inr (sqT ed), rfl, false, rfl, ?_⟩
        refine ⟨_, rfl, d, _, 1, _, rfl, rfl, sqT ed, rfl, _, rfl, _, n, r, rfl, iz, pr, hn, fun H4 s6 => ⟨true, rfl, ?_⟩⟩
        have ed4 := s6 _ _ ed
        refine ⟨_, rfl, d, _, 1, _, rfl, rfl, sqT ed4, rfl, e, _, rfl, .inr (sqT (s6 _ _ ee)), _, rfl, rfl, _, rfl, ?_⟩
        rw [List.length_map, pr.len, int_eq_self]
        have s16 := s15.trans s6
        refine ⟨_, rfl, d, _, 0, _, rfl, rfl, sqT ed4, rfl, ?_⟩
        refine ⟨_, rfl, _, rfl, a, n, ps, rfl, la.mono s16, tp, hn, fun H5 s7 => ?_⟩
        refine ⟨_, rfl, _, rfl, b, n, qs, rfl, lb.mono (s16.trans s7), tq, hn, fun H6 s8 => ⟨sz_le (by show 3 ≤ 100000; decide), fun t3 ht3 => ?_⟩⟩
        have s9 := same_new (o := .tup [.str (Str.ofString "alike"), .str (line n ps), .str (line n qs)]) ht3
        have s69 := ((s6.trans s7).trans s8).trans s9
        refine .inr ⟨by decide, c, t3, [Str.ofString "alike", line n ps, line n qs], rfl, s69 _ _ ec, upd_same, by show 3 ≤ 100; decide, fun H7 s10 => ⟨true, rfl, ?_⟩⟩
        have s610 := s69.trans s10
        have s110 := s15.trans s610
        have ed7 := s610 _ _ ed
        refine ⟨_, rfl, _, rfl, d, _, 1, _, rfl, rfl, sqT ed7, rfl, a, _, n, ps, r, rfl, la.mono s110, ⟨e, rfl, .inr (s610 _ _ ee)⟩, ⟨tp, pr, hn⟩, fun p H8 _ s11 lp => ?_⟩
        refine ⟨_, rfl, _, _, lp.dv, (lb.mono (s110.trans s11)).dv, _, rfl, ?_⟩
        rw [dec_t er]
        have ed8 := s11 _ _ ed7
        refine ⟨_, rfl, d, _, 0, _, rfl, rfl, sqT ed8, rfl, _, rfl, d, _, 1, _, rfl, rfl, sqT ed8, rfl, ?_⟩
        exact ⟨_, c, _, n, ps, qs, r, rfl, (s610.trans s11) _ _ ec, iz.mono (.of (s610.trans s11)), ⟨tp, tq, hn, pr, er, .inl rfl⟩, fun H9 s12 => q _ ((s110.trans s11).trans s12)⟩
theorem ok_law_shape_right (T : Top K mg w) (c_certify_shape : Cl P w K mg base 15 "certify_shape" (spCertS K)) (c_party : MakC P w K mg base 4 (spInit K)) (c_law_people : Cl P w K mg base 2 "_law_people" spAreP) (c_law_same : Cl P w K mg base 3 "_law_same" (spSame 2)) (c_law_line : Cl P w K mg base 1 "_law_line" spLine)
    (c_law_renamed : Cl P w K mg base 2 "_law_renamed" spRenC) (c_law_agrees : Cl P w K mg base 11 "_law_agrees" spAgrees) (F : FnP K x qual s_law_shape_right f fd) : FnOk P w K mg base CX0 16 f fd P_law_shape_right spSR :=
  fn_by F sc_law_shape_right (fun _ _ _ _ ⟨_, _, _, _, _, e, _⟩ => e ▸ rfl) fun cdv A outer s H vs Q E hr hsp => by
    obtain ⟨a, b, n, ps, m, rfl, la, lb, ⟨tp, h6, hm⟩, q⟩ := hsp
    obtain ⟨us, ea, ar⟩ := id la
    have hn : n ≤ 10 := by omega
    refine ⟨_, pss_cons (ps_set (i := 3) sc_law_shape_right.nd rfl (Or.inl rfl) (pe_cl c_certify_shape hr (by decide) (by rfl) (pa_cons (pe_mkl c_party T.m_Party hr (by decide) (by rfl) (pa_cons (pv 0) (pa_cons (pe_callTy (call_tuple_of) (by rfl) T.n_tuple bt_tuple (pa_cons (pv 1) pa_nil)) pa_nil))) pa_nil)))
    (pss_cons (ps_if (PW.pt (pw_or (pt_not (pt_val (pe_callB (call_isi) (by rfl) T.n_isinstance bt_isinstance (pa_cons (pv 3) (pa_cons (pe_bltn (v := .ty "tuple") (by rfl) T.n_tuple bt_tuple rfl) pa_nil))))) (pw_or (pt_cmpR (op_ne) (pe_callB (call_len_seq) (by rfl) T.n_len bt_len (pa_cons (pv 3) pa_nil)) (pe_int) (nomark _)) (pw_or (pt_not (pt_val (pe_cl c_law_people hr (by decide) (by rfl) (pa_cons (pe_ix ix_tup (pv 3) (pe_int) (fun _ _ => rfl)) (pa_cons (pv 0) pa_nil))))) (pw_or1 (pt_cmpR (op_ne) (pe_callB (call_len_seq) (by rfl) T.n_len bt_len (pa_cons (pe_ix ix_tup (pv 3) (pe_int) (fun _ _ => rfl)) pa_nil)) (pv 0) (nomark _)))))))
    (pss_one (ps_ret (pe_bl)))
    (pss_nil))
    (pss_cons (ps_if (pt_not (pt_val (pe_cl c_law_same hr (by decide) (by rfl) (pa_cons (pe_ix ix_tup (pv 3) (pe_int) (fun _ _ => rfl)) (pa_cons (pe_tup (pa_cons (pe_str) (pa_cons (pe_cl c_law_line hr (by decide) (by rfl) (pa_cons (pv 0) (pa_cons (pv 1) pa_nil))) (pa_cons (pe_cl c_law_line hr (by decide) (by rfl) (pa_cons (pv 0) (pa_cons (pv 2) pa_nil))) pa_nil)))) pa_nil)))))
    (pss_one (ps_ret (pe_bl)))
    (pss_nil))
    (pss_one (ps_ret (pe_and (pe_cmpR (op_eqX (List (Int × Int)) hr.units) (pe_cl c_law_renamed hr (by decide) (by rfl) (pa_cons (pv 1) (pa_cons (pe_ix ix_tup (pv 3) (pe_int) (fun _ _ => rfl)) pa_nil))) (pv 2) (nomark _)) (pe_one (pe_cl c_law_agrees hr (by decide) (by rfl) (pa_cons (pe_ix ix_tup (pv 3) (pe_int) (fun _ _ => rfl)) (pa_cons (pe_ix ix_tup (pv 3) (pe_int) (fun _ _ => rfl)) (pa_cons (pe_bl) pa_nil)))))))))), ?_⟩
    refine ⟨_, rfl, _, rfl, a, us, rfl, .inl ⟨sqL ea, fun t1 ht1 => ?_⟩⟩
    have s1 := same_new (o := .tup us) ht1
    refine init_make (is_tup upd_same (ar.mono (.of s1))) tp hn fun x1 H1 s2 p1 => ?_
    have s12 := s1.trans s2
    refine ⟨_, n, ps, rfl, p1, h6, fun v H3 m' r s5 hm' hr' oc => ?_⟩
    have s15 := s12.trans s5
    obtain ⟨pr, er⟩ := hr'
    have em : m' = m := hm'.uniq (lin_list lin_tie) hm
    subst em
    have tq : Ties n m' := by
      rw [← er]
      exact ren_ties tp pr
    obtain ⟨d, c, z, rfl, ed, ec, iz⟩ := oc
    obtain ⟨e, rfl, ee⟩ := of_tupI iz
    refine ⟨_, rfl, _, _, _, _, _, rfl, .ty _, ty_tup ed, kit_ty k_tup_tup, true, rfl, ?_⟩
    refine ⟨_, rfl, d, _, rfl, .inr (sqT ed), rfl, false, rfl, ?_⟩
    refine ⟨_, rfl, d, _, 1, _, rfl, rfl, sqT ed, rfl, _, rfl, _, n, r, rfl, iz, pr, hn, fun H4 s6 => ⟨true, rfl, ?_⟩⟩
    have ed4 := s6 _ _ ed
    refine ⟨_, rfl, d, _, 1, _, rfl, rfl, sqT ed4, rfl, e, _, rfl, .inr (sqT (s6 _ _ ee)), _, rfl, rfl, _, rfl, ?_⟩
    rw [List.length_map, pr.len, int_eq_self]
    have s16 := s15.trans s6
    refine ⟨_, rfl, d, _, 0, _, rfl, rfl, sqT ed4, rfl, ?_⟩
    refine ⟨_, rfl, _, rfl, a, n, ps, rfl, la.mono s16, tp, hn, fun H5 s7 => ?_⟩
    refine ⟨_, rfl, _, rfl, b, n, m', rfl, lb.mono (s16.trans s7), tq, hn, fun H6 s8 => ⟨sz_le (by show 3 ≤ 100000; decide), fun t3 ht3 => ?_⟩⟩
    have s9 := same_new (o := .tup [.str (Str.ofString "shape"), .str (line n ps), .str (line n m')]) ht3
    have s69 := ((s6.trans s7).trans s8).trans s9
    refine .inr ⟨by decide, c, t3, [Str.ofString "shape", line n ps, line n m'], rfl, s69 _ _ ec, upd_same, by show 3 ≤ 100; decide, fun H7 s10 => ⟨true, rfl, ?_⟩⟩
    have s610 := s69.trans s10
    have s110 := s15.trans s610
    have ed7 := s610 _ _ ed
    refine ⟨_, rfl, _, rfl, d, _, 1, _, rfl, rfl, sqT ed7, rfl, a, _, n, ps, r, rfl, la.mono s110, ⟨e, rfl, .inr (s610 _ _ ee)⟩, ⟨tp, pr, hn⟩, fun p H8 _ s11 lp => ?_⟩
    refine ⟨_, rfl, _, _, lp.dv, (lb.mono (s110.trans s11)).dv, _, rfl, ?_⟩
    rw [dec_t er]
    have ed8 := s11 _ _ ed7
    refine ⟨_, rfl, d, _, 0, _, rfl, rfl, sqT ed8, rfl, _, rfl, d, _, 1, _, rfl, rfl, sqT ed8, rfl, ?_⟩
    exact ⟨_, c, _, n, ps, m', r, rfl, (s610.trans s11) _ _ ec, iz.mono (.of (s610.trans s11)), ⟨tp, tq, hn, pr, er, .inr ⟨rfl, h6, hm⟩⟩, fun H9 s12 => q _ ((s110.trans s11).trans s12)⟩
end
end FT

/-! FM4: renaming twice. No program here. -/
namespace FT
open PySem PySem.Spec PyProof.Rows L2
open PySem.W (Datum DatumOrd Tup)
/-- r after r0 -/
def cmp (r r0 : List Int) : List Int := r0.map fun x => nth r x.toNat
theorem nth_map {r0 : List Int} {f : Int → Int} {i : Nat} (h : i < r0.length) : nth (r0.map f) i = f (nth r0 i) := by
  unfold nth
  rw [List.getD_eq_getElem?_getD, List.getElem?_map, nth_get h]
  rfl
theorem perm_map {n : Nat} {r0 : List Int} {f : Int → Int} (h : PermN n r0) (hr : ∀ x : Int, 0 ≤ x → x < (n : Int) → 0 ≤ f x ∧ f x < (n : Int)) (hi : ∀ x y : Int, 0 ≤ x → x < (n : Int) → 0 ≤ y → y < (n : Int) → f x = f y → x = y) : PermN n (r0.map f) := by
  refine PermN.of (by rw [List.length_map, h.len]) ?_ fun x hx => ?_
  · refine List.pairwise_map.mpr (List.Pairwise.imp_of_mem ?_ h.nodup)
    intro a b ha hb ne e
    have a1 := h.range.mp ha
    have b1 := h.range.mp hb
    exact ne (hi a b a1.1 a1.2 b1.1 b1.2 e)
  · obtain ⟨y, hy, rfl⟩ := List.mem_map.mp hx
    have := h.range.mp hy
    exact hr y this.1 this.2
theorem perm_cmp {n : Nat} {r r0 : List Int} (h : PermN n r) (h0 : PermN n r0) : PermN n (cmp r r0) := by
  refine perm_map h0 (fun x a b => ?_) fun x y a b c d e => ?_
  · exact h.at (i := x.toNat) (by omega)
  · have := h.inj (i := x.toNat) (j := y.toNat) (by omega) (by omega) e
    omega
theorem ren_cmp {n : Nat} {ps : List Tie} {r r0 : List Int} (t : Ties n ps) (h : PermN n r) (h0 : PermN n r0) : ren (ren ps r0) r = ren ps (cmp r r0) := by
  have t0 := ren_ties t h0
  have t1 := ren_ties t0 h
  refine ((ren_iff t t1 (perm_cmp h h0)).mpr fun i j hij hj => ?_).symm
  have ni : nth (cmp r r0) i = nth r (nth r0 i).toNat := nth_map (by rw [h0.len]; omega)
  have nj : nth (cmp r r0) j = nth r (nth r0 j).toNat := nth_map (by rw [h0.len]; exact hj)
  have ri := h0.at (i := i) (by omega)
  have rj := h0.at hj
  have ei : (((nth r0 i).toNat : Nat) : Int) = nth r0 i := by omega
  have ej : (((nth r0 j).toNat : Nat) : Int) = nth r0 j := by omega
  rw [ni, nj, ← fits_all t0 t1 (ren_fits t0 h) (i := (nth r0 i).toNat) (j := (nth r0 j).toNat) (by omega) (by omega), ei, ej]
  exact fits_all t t0 (ren_fits t h0) (by omega) hj
/-- back from r0 -/
def inv (n : Nat) (r0 : List Int) : List Int := (rg n).map fun x => ((r0.idxOf x : Nat) : Int)
theorem nth_idx {r0 : List Int} {x : Int} (h : x ∈ r0) : nth r0 (r0.idxOf x) = x := by
  have hl := List.idxOf_lt_length_of_mem h
  have := nth_get hl
  rw [List.getElem?_eq_getElem hl, List.getElem_idxOf] at this
  exact (Option.some.inj this).symm
theorem perm_rg (n : Nat) : PermN n (rg n) := List.Perm.refl _
theorem perm_inv {n : Nat} {r0 : List Int} (h0 : PermN n r0) : PermN n (inv n r0) := by
  refine perm_map (perm_rg n) (fun x a b => ?_) fun x y a b c d e => ?_
  · have := List.idxOf_lt_length_of_mem (h0.range.mpr ⟨a, b⟩)
    rw [h0.len] at this
    omega
  · have e1 := nth_idx (h0.range.mpr ⟨a, b⟩)
    have e2 := nth_idx (h0.range.mpr ⟨c, d⟩)
    have e3 : r0.idxOf x = r0.idxOf y := by omega
    rw [e3] at e1
    rw [← e1, e2]
theorem nth_rg {n i : Nat} (h : i < n) : nth (rg n) i = i := by
  have := nth_get (r := rg n) (i := i) (by rw [rg_len]; exact h)
  unfold rg at this
  rw [List.getElem?_map, List.getElem?_range h] at this
  exact (Option.some.inj this).symm
theorem cmp_inv {n : Nat} {r0 : List Int} (h0 : PermN n r0) {i : Nat} (hi : i < n) : nth (cmp r0 (inv n r0)) i = i := by
  have e1 : nth (inv n r0) i = ((r0.idxOf (i : Int) : Nat) : Int) := by
    unfold inv
    rw [nth_map (by rw [rg_len]; exact hi), nth_rg hi]
  unfold cmp
  rw [nth_map (by unfold inv; rw [List.length_map, rg_len]; exact hi), e1, Int.toNat_natCast]
  exact nth_idx (h0.range.mpr ⟨by omega, by omega⟩)
theorem ext_nth {n : Nat} {r r' : List Int} (h : r.length = n) (h' : r'.length = n) (e : ∀ i, i < n → nth r i = nth r' i) : r = r' := by
  refine List.ext_getElem? fun i => ?_
  by_cases hi : i < n
  · rw [nth_get (by omega), nth_get (by omega), e i hi]
  · rw [List.getElem?_eq_none (by omega), List.getElem?_eq_none (by omega)]
/-- inv is a right inverse, so r0 is its left inverse too -/
theorem inv_cmp {n : Nat} {r0 : List Int} (h0 : PermN n r0) {i : Nat} (hi : i < n) : nth (cmp (inv n r0) r0) i = i := by
  have ri := h0.at hi
  unfold cmp
  rw [nth_map (by rw [h0.len]; exact hi)]
  unfold inv
  rw [nth_map (by rw [rg_len]; omega), nth_rg (by omega)]
  have e : (((nth r0 i).toNat : Nat) : Int) = nth r0 i := by omega
  rw [e]
  have m : nth r0 i ∈ r0 := nth_mem (by rw [h0.len]; exact hi)
  have := nth_idx m
  have l := List.idxOf_lt_length_of_mem m
  have := nodup_inj h0.nodup l (by rw [h0.len]; exact hi) this
  rw [this]
theorem ren_rg {n : Nat} {ps : List Tie} (t : Ties n ps) : ren ps (rg n) = ps :=
  (ren_iff t t (perm_rg n)).mpr fun i j hij hj => by rw [nth_rg (by omega), nth_rg hj]
/-- a renamed party renames to the same parties -/
theorem img_ren {n : Nat} {ps y : List Tie} {r0 : List Int} (t : Ties n ps) (h0 : PermN n r0) : Img n (ren ps r0) y ↔ Img n ps y := by
  constructor
  · rintro ⟨r, hr, e⟩
    exact ⟨cmp r r0, perm_cmp hr h0, by rw [e, ren_cmp t hr h0]⟩
  · rintro ⟨r, hr, e⟩
    have hi := perm_inv h0
    refine ⟨cmp r (inv n r0), perm_cmp hr hi, ?_⟩
    have t0 := ren_ties t h0
    have e1 : ren (ren ps r0) (inv n r0) = ps := by
      rw [ren_cmp t hi h0]
      have : cmp (inv n r0) r0 = rg n := ext_nth (perm_cmp hi h0).len (rg_len n) fun i h => by rw [inv_cmp h0 h, nth_rg h]
      rw [this, ren_rg t]
    rw [← ren_cmp t0 hr hi, e1, e]
theorem least_ren {n : Nat} {ps m : List Tie} {r0 : List Int} (t : Ties n ps) (h0 : PermN n r0) (h : Least (Img n ps) m) : Least (Img n (ren ps r0)) m := ⟨(img_ren t h0).mpr h.mem, fun y hy => h.le y ((img_ren t h0).mp hy)⟩
end FT

/-! FD17: _law_right. -/
namespace FT
open PySem PySem.Spec PyProof.Rows L2
open PySem.W (Datum DatumOrd Tup)
def spRight : Sp := fun vs H Q _ => ∃ (a : Addr), vs = [.ref a] ∧ Stk H a ∧ ∀ H', SameX H H' a → Q (.bl true) H'
theorem dec_iff {p : Prop} {i : Decidable p} : @decide p i = true ↔ p := decide_eq_true_iff
theorem pick6 : ∀ k : Nat, k < 6 → ∃ n : Nat, 5 ≤ n ∧ n ≤ 10 ∧ [V.int 7, .int 8, .int 9, .int 10, .int 6, .int 5][k]? = some (.int (n : Nat)) := by
  intro k hk
  match k, hk with
  | 0, _ => exact ⟨7, by decide, by decide, rfl⟩
  | 1, _ => exact ⟨8, by decide, by decide, rfl⟩
  | 2, _ => exact ⟨9, by decide, by decide, rfl⟩
  | 3, _ => exact ⟨10, by decide, by decide, rfl⟩
  | 4, _ => exact ⟨6, by decide, by decide, rfl⟩
  | 5, _ => exact ⟨5, by decide, by decide, rfl⟩
theorem pick10 : ∀ k : Nat, k < 10 → ∃ n : Nat, n ≤ 6 ∧ [V.int 3, .int 4, .int 4, .int 5, .int 5, .int 5, .int 6, .int 2, .int 1, .int 0][k]? = some (.int (n : Nat)) := by
  intro k hk
  match k, hk with
  | 0, _ => exact ⟨3, by decide, rfl⟩
  | 1, _ => exact ⟨4, by decide, rfl⟩
  | 2, _ => exact ⟨4, by decide, rfl⟩
  | 3, _ => exact ⟨5, by decide, rfl⟩
  | 4, _ => exact ⟨5, by decide, rfl⟩
  | 5, _ => exact ⟨5, by decide, rfl⟩
  | 6, _ => exact ⟨6, by decide, rfl⟩
  | 7, _ => exact ⟨2, by decide, rfl⟩
  | 8, _ => exact ⟨1, by decide, rfl⟩
  | 9, _ => exact ⟨0, by decide, rfl⟩
/-- the lists' addresses, all but the stock's -/
theorem Lss.x {α : Type} [DecidableEq α] [Datum α] {H H' : Hp} {a : Addr} {qs : List Addr} {xs : List (List α)} (l : Lss H qs xs) (h : SameX H H' a) (s : Stk H a) (n : ∀ q ∈ qs, q ≠ a) : Lss H' qs xs := by
  induction l with
  | nil => exact .nil
  | cons h1 _ ih => exact .cons (h1.x h s (n _ List.mem_cons_self)) (ih fun q hq => n q (List.mem_cons_of_mem _ hq))
section
variable {P : Program} {w : World} {K : PySem.W.Frag} {mg : Str → Option Value} {base : Heap} {f : Addr} {fd : FuncData} {x qual : Str}
theorem ok_law_right (T : Top K mg w) (c_law_take : Cl P w K mg base 1 "_law_take" spTake) (c_law_some_ties : Cl P w K mg base 2 "_law_some_ties" spSomeT) (c_law_some_order : Cl P w K mg base 2 "_law_some_order" spSomeO) (c_law_renamed : Cl P w K mg base 2 "_law_renamed" spRenC) (c_law_pairs : Cl P w K mg base 1 "_law_pairs" spPairs)
    (c_law_alike_right : Cl P w K mg base 16 "_law_alike_right" spAR) (c_law_shape_right : Cl P w K mg base 16 "_law_shape_right" spSR) (c_law_flipped : Cl P w K mg base 1 "_law_flipped" spFlip) (c_law_orders : Cl P w K mg base 1 "_law_orders" spOrders) (c_certify_alike : Cl P w K mg base 15 "certify_alike" (spCertA K)) (c_party : MakC P w K mg base 4 (spInit K))
    (F : FnP K x qual s_law_right f fd) : FnOk P w K mg base CX0 17 f fd P_law_right spRight :=
  fn_by F sc_law_right (fun _ _ _ _ ⟨_, e, _⟩ => e ▸ rfl) fun cdv A outer s H vs Q E hr hsp => by
    obtain ⟨a, rfl, hk, q_⟩ := hsp
    refine ⟨_, C8.pss_cut (ps_set (i := 1) sc_law_right.nd rfl (Or.inl rfl) (pe_ix ix_list (pe_lst (pa_cons (pe_int) (pa_cons (pe_int) (pa_cons (pe_int) (pa_cons (pe_int) (pa_cons (pe_int) (pa_cons (pe_int) pa_nil))))))) (pe_cl c_law_take hr (by decide) (by rfl) (pa_cons (pv 0) (pa_cons (pe_int) pa_nil))) (fun _ _ => rfl)))
    (pss_cons (ps_set (i := 2) sc_law_right.nd rfl (Or.inr rfl) (pe_cl c_law_some_ties hr (by decide) (by rfl) (pa_cons (pv 0) (pa_cons (pv 1) pa_nil))))
    (pss_cons (ps_set (i := 3) sc_law_right.nd rfl (Or.inl rfl) (pe_cl c_law_renamed hr (by decide) (by rfl) (pa_cons (pv 2) (pa_cons (pe_cl c_law_some_order hr (by decide) (by rfl) (pa_cons (pv 0) (pa_cons (pv 1) pa_nil))) pa_nil))))
    (pss_cons (ps_set (i := 4) sc_law_right.nd rfl (Or.inl rfl) (pe_cl c_law_pairs hr (by decide) (by rfl) (pa_cons (pv 1) pa_nil)))
    (pss_cons (ps_if (pt_not (pt_val (pe_cl c_law_alike_right hr (by decide) (by rfl) (pa_cons (pv 1) (pa_cons (pv 2) (pa_cons (pv 3) (pa_cons (pe_bl) pa_nil)))))))
    (pss_one (ps_ret (pe_bl)))
    (pss_nil))
    (pss_cons (ps_if (pt_not (pt_val (pe_cl c_law_alike_right hr (by decide) (by rfl) (pa_cons (pv 1) (pa_cons (pv 2) (pa_cons (pe_cl c_law_flipped hr (by decide) (by rfl) (pa_cons (pv 3) (pa_cons (pe_ix ix_list (pv 4) (pe_cl c_law_take hr (by decide) (by rfl) (pa_cons (pv 0) (pa_cons (pe_callB (call_len_seq) (by rfl) T.n_len bt_len (pa_cons (pv 4) pa_nil)) pa_nil))) (fun _ _ => rfl)) pa_nil))) (pa_cons (pe_bl) pa_nil)))))))
    (pss_one (ps_ret (pe_bl)))
    (pss_nil))
    (C8.pss_cut (ps_set (i := 5) sc_law_right.nd rfl (Or.inl rfl) (pe_ix ix_list (pe_lst (pa_cons (pe_int) (pa_cons (pe_int) (pa_cons (pe_int) (pa_cons (pe_int) (pa_cons (pe_int) (pa_cons (pe_int) (pa_cons (pe_int) (pa_cons (pe_int) (pa_cons (pe_int) (pa_cons (pe_int) pa_nil))))))))))) (pe_cl c_law_take hr (by decide) (by rfl) (pa_cons (pv 0) (pa_cons (pe_int) pa_nil))) (fun _ _ => rfl)))
    (pss_cons (ps_asg (pe_tup (pa_cons (pe_cl c_law_some_ties hr (by decide) (by rfl) (pa_cons (pv 0) (pa_cons (pv 5) pa_nil))) (pa_cons (pe_cl c_law_pairs hr (by decide) (by rfl) (pa_cons (pv 5) pa_nil)) pa_nil))) (pg_tup rfl (pgs_cons (pg_name (i := 2) sc_law_right.nd rfl (Or.inr rfl)) (pgs_cons (pg_name (i := 4) sc_law_right.nd rfl (Or.inl rfl)) pgs_nil))))
    (pss_cons (ps_setLc (i := 6) (own := [("_law_row", 8)]) rfl sc_law_right.nd rfl rfl (sw_true rfl rfl rfl (by decide +kernel)) (pi_list (pe_cl c_law_orders hr (by decide) (by rfl) (pa_cons (pv 5) pa_nil))) (blkOk_by (own := [("_law_row", 8)]) (N := N_law_right) (sc := defScope s_law_right) (by decide +kernel)) (fun _ _ _ _ _ => pg_name (i := 8) sc_law_right.nd rfl (Or.inl rfl)) (fun _ _ _ _ _ => pts_nil) (fun _ _ _ _ _ => pe_cl c_law_renamed hr (by decide) (by rfl) (pa_cons (pv 2) (pa_cons (pv 8) pa_nil))))
    (pss_cons (ps_set (i := 3) sc_law_right.nd rfl (Or.inl rfl) (pe_ix ix_list (pv 6) (pe_cl c_law_take hr (by decide) (by rfl) (pa_cons (pv 0) (pa_cons (pe_callB (call_len_seq) (by rfl) T.n_len bt_len (pa_cons (pv 6) pa_nil)) pa_nil))) (fun _ _ => rfl)))
    (pss_cons (ps_if (PW.pt (pw_or (pt_not (pt_val (pe_cl c_law_shape_right hr (by decide) (by rfl) (pa_cons (pv 5) (pa_cons (pv 2) (pa_cons (pe_callB (cr_minX (List (Int × Int)) rfl hr.units) (by rfl) T.n_min bt_min (pa_cons (pv 6) pa_nil)) pa_nil)))))) (pw_or1 (pt_not (pt_val (pe_cl c_law_shape_right hr (by decide) (by rfl) (pa_cons (pv 5) (pa_cons (pv 3) (pa_cons (pe_callB (cr_minX (List (Int × Int)) rfl hr.units) (by rfl) T.n_min bt_min (pa_cons (pv 6) pa_nil)) pa_nil)))))))))
    (pss_one (ps_ret (pe_bl)))
    (pss_nil))
    (pss_cons (ps_for PassesOwn.never rfl (pi_range1 (by rfl) T.n_range (pa_cons (pe_callB (call_min2 rfl) (by rfl) T.n_min bt_min (pa_cons (pe_int) (pa_cons (pe_callB (call_len_seq) (by rfl) T.n_len bt_len (pa_cons (pv 4) pa_nil)) pa_nil))) pa_nil)) (pg_name (i := 7) sc_law_right.nd rfl (Or.inl rfl))
    (pss_one (ps_set (i := 3) sc_law_right.nd rfl (Or.inl rfl) (pe_cl c_law_flipped hr (by decide) (by rfl) (pa_cons (pv 3) (pa_cons (pe_ix ix_list (pv 4) (pe_cl c_law_take hr (by decide) (by rfl) (pa_cons (pv 0) (pa_cons (pe_callB (call_len_seq) (by rfl) T.n_len bt_len (pa_cons (pv 4) pa_nil)) pa_nil))) (fun _ _ => rfl)) pa_nil))))))
    (pss_cons (ps_if (pt_not (pt_val (pe_cl c_law_alike_right hr (by decide) (by rfl) (pa_cons (pv 5) (pa_cons (pv 2) (pa_cons (pv 3) (pa_cons (pe_cmpR (op_inX (List (Int × Int)) hr.units) (pv 3) (pv 6) (by rfl)) pa_nil)))))))
    (pss_one (ps_ret (pe_bl)))
    (pss_nil))
    (pss_one (ps_ret (pe_cmpR (op_isN) (pe_cl c_certify_alike hr (by decide) (by rfl) (pa_cons (pe_mkl c_party T.m_Party hr (by decide) (by rfl) (pa_cons (pv 5) (pa_cons (pe_callTy (call_tuple_of) (by rfl) T.n_tuple bt_tuple (pa_cons (pv 2) pa_nil)) pa_nil))) (pa_cons (pe_mkl c_party T.m_Party hr (by decide) (by rfl) (pa_cons (pe_op op_add (pv 5) (pe_int)) (pa_cons (pe_callTy (call_tuple_of) (by rfl) T.n_tuple bt_tuple (pa_cons (pv 2) pa_nil)) pa_nil))) pa_nil))) (pe_non) (nomark _)))))))))))))))), ?_⟩
    refine ⟨fun σ' H' => SameX H H' a ∧ Stk H' a ∧ ∃ n : Nat, 5 ≤ n ∧ n ≤ 10 ∧ σ' = [some (.ref a), some (.int (n : Nat)), none, none, none, none, none, none, none], ?_, ?_⟩
    · refine ⟨sz_le (by show 6 ≤ 100000; decide), fun p hp => ?_⟩
      have s1 := same_new (o := .lst [.int 7, .int 8, .int 9, .int 10, .int 6, .int 5]) hp
      refine ⟨_, rfl, a, 6, rfl, hk.mono s1, by decide, by decide, fun d H1 h0 h1 x1 k1 => ?_⟩
      have npa : p ≠ a := hk.ne hp
      obtain ⟨n, g1, g2, g3⟩ := pick6 d.toNat (by omega)
      exact ⟨p, _, _, _, rfl, rfl, sqL (x1 _ _ npa upd_same), atI_int h0 g3, (Same.x s1 a).trans x1, k1, n, g1, g2, rfl⟩
    rintro σ' H0 ⟨x0, k0, n, n5, n10, rfl⟩
    refine ⟨_, rfl, _, rfl, a, n, rfl, k0, n10, fun p2 H2 ps e2 x2 k2 l2 t2 => ?_⟩
    have n2 : p2 ≠ a := k0.ne e2
    refine ⟨_, rfl, _, rfl, _, rfl, a, n, rfl, k2, n10, fun p3 H3 r e3 x3 k3 l3 pr => ?_⟩
    have l23 := l2.x x3 k2 n2
    refine ⟨p2, _, n, ps, r, rfl, l23, ⟨p3, rfl, .inl l3.ints⟩, ⟨t2, pr, n10⟩, fun p4 H4 e4 s4 l4 => ?_⟩
    have n4 : p4 ≠ a := k3.ne e4
    have k4 := k3.mono s4
    have l24 := l23.mono s4
    refine ⟨_, rfl, n, rfl, n10, fun p5 H5 e5 s5 l5 => ?_⟩
    have n5' : p5 ≠ a := k4.ne e5
    have k5 := k4.mono s5
    have l25 := l24.mono s5
    have l45 := l4.mono s5
    have tr := ren_ties t2 pr
    have x05 : SameX H H5 a := (((x0.trans x2).trans x3).trans (Same.x s4 a)).trans (Same.x s5 a)
    refine ⟨_, rfl, _, rfl, _, rfl, p2, p4, n, ps, ren ps r, true, rfl, l25, l45, ⟨t2, tr, n10⟩, ⟨fun _ => ⟨r, pr, rfl⟩, fun _ => rfl⟩, fun H6 s6 => ⟨true, rfl, ?_⟩⟩
    have k6 := k5.mono s6
    obtain ⟨ws, e56, a56⟩ := l5.mono s6
    have lws := a56.length
    have hpl := prs_len n10
    have hl5 := tr.len n10
    refine ⟨_, rfl, _, rfl, _, rfl, _, rfl, _, rfl, _, rfl, p5, _, rfl, .inl (sqL e56), a, _, rfl, k6, by omega, by omega, fun d H7 h0 h1 x7 k7 => ?_⟩
    have hd : d.toNat < ws.length := by omega
    have e57 := x7 _ _ n5' e56
    obtain ⟨t0, ht0, it⟩ := (a56.mono (x7.tup k6)).at (List.getElem?_eq_getElem hd)
    have okt := (prs_ties n10).ok t0 (List.mem_of_getElem? ht0)
    have l47 := (l45.mono s6).x x7 k6 n4
    have l27 := (l25.mono s6).x x7 k6 n2
    refine ⟨p5, ws, _, _, rfl, rfl, sqL e57, atI_int h0 (List.getElem?_eq_getElem hd), p4, _, ren ps r, t0, rfl, l47, it, by omega, fun p8 H8 e8 s8 l8 => ?_⟩
    refine ⟨p2, p8, n, ps, flip (ren ps r) t0, false, rfl, l27.mono s8, l8, ⟨t2, flip_ties tr okt, n10⟩, ⟨fun h => (by cases h), fun ⟨r', _, er'⟩ => ?_⟩, fun H9 s9 => ⟨true, rfl, ?_⟩⟩
    · have := flip_len (t := t0) tr
      rw [← er', ren_len, ren_len] at this
      exact absurd rfl this
    have k9 := (k7.mono s8).mono s9
    have x09 : SameX H H9 a := (((x05.trans (Same.x s6 a)).trans x7).trans (Same.x s8 a)).trans (Same.x s9 a)
    refine ⟨fun σ' H' => SameX H H' a ∧ Stk H' a ∧ ∃ m : Nat, m ≤ 6 ∧ ∃ y1 y2 y3 y4 y6 y7 y8, σ' = [some (.ref a), y1, y2, y3, y4, some (.int (m : Nat)), y6, y7, y8], ?_, ?_⟩
    · refine ⟨sz_le (by show 10 ≤ 100000; decide), fun p hp => ?_⟩
      have s1 := same_new (o := .lst [.int 3, .int 4, .int 4, .int 5, .int 5, .int 5, .int 6, .int 2, .int 1, .int 0]) hp
      refine ⟨_, rfl, a, 10, rfl, k9.mono s1, by decide, by decide, fun d H1 h0 h1 x1 k1 => ?_⟩
      have npa : p ≠ a := k9.ne hp
      obtain ⟨m, g1, g3⟩ := pick10 d.toNat (by omega)
      exact ⟨p, _, _, _, rfl, rfl, sqL (x1 _ _ npa upd_same), atI_int h0 g3, (x09.trans (Same.x s1 a)).trans x1, k1, m, g1, _, _, _, _, _, _, _, rfl⟩
    clear x09 k9 x05 k5 k6 k7 l25 l45 l27 l47 it okt ht0 e57 hd a56 e56
    rintro σ' G0 ⟨x0, k0, m, m6, y1, y2, y3, y4, y6, y7, y8, rfl⟩
    have m10 : m ≤ 10 := by omega
    refine ⟨_, rfl, _, rfl, a, m, rfl, k0, m10, fun p1 G1 ps e1 x1 k1 l1 t1 => ?_⟩
    have n1 : p1 ≠ a := k0.ne e1
    refine ⟨_, rfl, m, rfl, m10, fun p2 G2 e2 s2 l2 => ?_⟩
    have n2 : p2 ≠ a := k1.ne e2
    refine ⟨sz_le (by show 2 ≤ 100000; decide), fun tt htt => ?_⟩
    have s3 := same_new (o := .tup [.ref p1, .ref p2]) htt
    have k3 := (k1.mono s2).mono s3
    have x03 : SameX H _ a := ((x0.trans x1).trans (Same.x s2 a)).trans (Same.x s3 a)
    have l13 := (l1.mono s2).mono s3
    have l23 := l2.mono s3
    refine ⟨tt, _, rfl, sqT upd_same, rfl, _, _, rfl, _, _, rfl, rfl, ?_⟩
    refine ⟨_, rfl, m, rfl, m6, fun p3 G3 qs rs s4 e3 l3 _ hrs hlr => ?_⟩
    have l14 := l13.mono s4
    have l24 := l23.mono s4
    have k4 := k3.mono s4
    have x04 := x03.trans (Same.x s4 a)
    have lqs := l3.length
    have f1 := fact_small m6
    have f0 := fact_pos m
    refine ⟨p3, rfl, ⟨_, sqL e3⟩, ?_⟩
    refine c_lists (H1 := G3) (α := Tie) walk_list (rs.map (ren ps)) (by rw [List.length_map, List.length_map, lqs]) (by rw [List.length_map, lqs]; omega) (fun H' s6 => sqL (s6 _ _ e3)) ?_ ?_
    · rintro k z y G4' G4 R N hk' hy s6 ⟨rfl, hz⟩ hR
      obtain ⟨b, rfl, hb⟩ := map_ref_get hz
      obtain ⟨r, hr', lr⟩ := (l3.mono s6).at hb
      have ey : y = ren ps r := by
        rw [List.getElem?_map, hr'] at hy
        exact (Option.some.inj hy).symm
      subst ey
      exact ⟨rfl, _, rfl, _, rfl, p1, _, m, ps, r, rfl, l14.mono s6, ⟨b, rfl, .inl lr.ints⟩, ⟨t1, (hrs r).mp (List.mem_of_getElem? hr'), m10⟩, fun p G5 ep s7 lp => hR p G5 ep s7 lp⟩
    · intro D ds G5 hD s5 eD lD _ fr
      have k5 := k4.mono s5
      have x05 := x04.trans (Same.x s5 a)
      have l15 := l14.mono s5
      have l25 := l24.mono s5
      have nD : D ≠ a := k4.ne hD
      have nds : ∀ q ∈ ds, q ≠ a := fun q hq => k4.ne (fr q hq).1
      have lds := lD.length
      rw [List.length_map] at lds
      have hmade : ∀ y, y ∈ rs.map (ren ps) ↔ Img m ps y := fun y => by
        rw [List.mem_map]
        constructor
        · rintro ⟨r, h1, h2⟩
          exact ⟨r, (hrs r).mp h1, h2.symm⟩
        · rintro ⟨r, h1, h2⟩
          exact ⟨r, (hrs r).mpr h1, h2.symm⟩
      refine ⟨_, rfl, _, rfl, _, rfl, D, _, rfl, .inl (sqL eD), a, _, rfl, k5, by rw [List.length_map]; omega, by rw [List.length_map]; omega, fun d G6 h0 h1 x6 k6 => ?_⟩
      rw [List.length_map] at h1
      have hd : d.toNat < ds.length := by omega
      have eD6 := x6 _ _ nD eD
      have lD6 := lD.x x6 k5 nds
      have l16 := l15.x x6 k5 n1
      have l26 := l25.x x6 k5 n2
      have x06 := x05.trans x6
      obtain ⟨os, hos, lo⟩ := lD6.at (List.getElem?_eq_getElem hd)
      obtain ⟨r0, pr0, eo⟩ := (hmade os).mp (List.mem_of_getElem? hos)
      have no : ds[d.toNat] ≠ a := nds _ (List.getElem_mem hd)
      generalize hq0 : ds[d.toNat] = q0 at lo no
      have gd : (ds.map V.ref)[d.toNat]? = some (.ref q0) := by rw [List.getElem?_map, List.getElem?_eq_getElem hd, hq0]; rfl
      refine ⟨D, _, _, _, rfl, rfl, sqL eD6, atI_int h0 gd, ?_⟩
      have to : Ties m os := by
        rw [eo]
        exact ren_ties t1 pr0
      -- the least
      obtain ⟨y, ys, hy⟩ : ∃ y ys, rs.map (ren ps) = y :: ys := by
        cases hc : rs.map (ren ps) with
        | nil =>
          have := congrArg List.length hc
          rw [List.length_map, hlr] at this
          simp at this
          omega
        | cons y ys => exact ⟨y, ys, rfl⟩
      have hleast : Least (Img m ps) (PySem.W.minOf y ys) := least_minOf (lin_list lin_tie) fun z => by rw [← hy]; exact hmade z
      have minR : ∀ {G : Hp} {Q' : VK}, G D = some (.lst (ds.map V.ref)) → Lss G ds (rs.map (ren ps)) → (∀ q, Lis G q (PySem.W.minOf y ys) → Q' (.ref q) G) → rMinX (List Tie) K [.ref D] G Q' := fun {G Q'} eG lG hq => by
        refine ⟨D, _, y, ys, rfl, sqL eG, by rw [← hy]; exact lG.dpAll, fun i v hv hi => ?_⟩
        rw [← hy] at hi
        obtain ⟨q, hq1, hq2⟩ := lG.at' hi
        rw [List.getElem?_map, hq1] at hv
        have ev : V.ref q = v := Option.some.inj hv
        rw [← ev]
        exact hq q hq2
      refine ⟨_, rfl, _, rfl, _, rfl, minR eD6 lD6 fun q1 lq1 => ?_⟩
      refine ⟨p1, q1, m, ps, _, rfl, l16, lq1, ⟨t1, m6, hleast⟩, fun G7 s7 => ⟨true, rfl, ?_⟩⟩
      have eD7 := s7 _ _ eD6
      have lD7 := lD6.mono s7
      refine ⟨_, rfl, _, rfl, _, rfl, minR eD7 lD7 fun q2 lq2 => ?_⟩
      refine ⟨q0, q2, m, os, _, rfl, lo.mono s7, lq2, ⟨to, m6, by rw [eo]; exact least_ren t1 pr0 hleast⟩, fun G8 s8 => ⟨true, rfl, ?_⟩⟩
      have s68 := s7.trans s8
      have k8 := k6.mono s68
      have x08 := x06.trans (Same.x s68 a)
      obtain ⟨ws, e28, a28⟩ := l26.mono s68
      have lws := a28.length
      have hpl := prs_len m10
      refine ⟨_, rfl, p2, _, rfl, .inl (sqL e28), _, _, rfl, _, rfl, ?_⟩
      refine ⟨by split <;> omega, by split <;> omega, ?_⟩
      refine c_for walk_range0 (fun i σ H' => ∃ q os, q ≠ a ∧ Lis H' q os ∧ Ties m os ∧ (SameX H H' a ∧ Stk H' a ∧ H' D = some (.lst (ds.map V.ref)) ∧ Lss H' ds (rs.map (ren ps)) ∧ Lis H' p1 ps ∧ H' p2 = some (.lst ws) ∧ Are H' ws (prs m)) ∧ ∃ y7 y8, σ = [some (.ref a), y1, some (.ref p1), some (.ref q), some (.ref p2), some (.int (m : Nat)), some (.ref D), y7, y8])
        ⟨q0, os, no, lo.mono s68, to, ⟨x08, k8, s68 _ _ eD6, lD6.mono s68, l16.mono s68, e28, a28⟩, _, _, rfl⟩ (fun _ _ _ _ _ => trivial) ?_ ?_
      · rintro i z σ G9' G9 hi ⟨q, os, nq, lq, tos, ⟨xx, kk, eD9, lD9, l19, e29, a29⟩, y7, y8, rfl⟩ ⟨rfl, rfl⟩
        have hpos : 0 < ws.length := by
          have : (i : Int) < if ((ws.length : Nat) : Int) < 2 then ((ws.length : Nat) : Int) else 2 := by omega
          split at this <;> omega
        refine ⟨_, rfl, _, rfl, _, rfl, _, rfl, p2, _, rfl, .inl (sqL e29), a, _, rfl, kk, by omega, by omega, fun d G10 h0 h1 x10 k10 => ?_⟩
        have hd : d.toNat < ws.length := by omega
        have e210 := x10 _ _ n2 e29
        have a210 := a29.mono (x10.tup kk)
        obtain ⟨t0, ht0, it⟩ := a210.at (List.getElem?_eq_getElem hd)
        have okt := (prs_ties m10).ok t0 (List.mem_of_getElem? ht0)
        have hol := tos.len m10
        refine ⟨p2, ws, _, _, rfl, rfl, sqL e210, atI_int h0 (List.getElem?_eq_getElem hd), q, _, os, t0, rfl, lq.x x10 kk nq, it, by omega, fun p8 G11 e8 s11 l8 => ?_⟩
        exact ⟨p8, _, k10.ne e8, l8, flip_ties tos okt, ⟨(xx.trans x10).trans (Same.x s11 a), k10.mono s11, s11 _ _ (x10 _ _ nD eD9), (lD9.x x10 kk nds).mono s11, (l19.x x10 kk n1).mono s11, s11 _ _ e210, a210.mono (.of s11)⟩, _, _, rfl⟩
      · rintro σ G9 ⟨q, os, nq, lq, tos, ⟨xx, kk, eD9, lD9, l19, e29, a29⟩, y7, y8, rfl⟩
        refine ⟨_, rfl, _, rfl, _, rfl, _, rfl, _, rfl, os, rs.map (ren ps), lq.dv, lD9.dv eD9, ?_⟩
        refine ⟨p1, q, m, ps, os, _, rfl, l19, lq, ⟨t1, tos, m10⟩, ?_, fun G10 s10 => ⟨true, rfl, ?_⟩⟩
        · refine dec_iff.trans ((hmade os).trans ?_)
          constructor
          · rintro ⟨r, h1, h2⟩
            exact ⟨r, h1, h2.symm⟩
          · rintro ⟨r, h1, h2⟩
            exact ⟨r, h1, h2.symm⟩
        obtain ⟨us, e110, a110⟩ := l19.mono s10
        refine ⟨_, rfl, _, rfl, p1, us, rfl, .inl ⟨sqL e110, fun h1 hh1 => ?_⟩⟩
        have v1 := same_new (o := .tup us) hh1
        refine init_make (is_tup upd_same (a110.mono (.of v1))) t1 m10 fun u1 G11 s11 P1 => ?_
        have v12 := v1.trans s11
        refine ⟨_, rfl, _, _, rfl, rfl, _, rfl, p1, us, rfl, .inl ⟨sqL (v12 _ _ e110), fun h2 hh2 => ?_⟩⟩
        have v3 := same_new (o := .tup us) hh2
        refine init_make (n := m + 1) (is_tup upd_same (a110.mono (.of (v12.trans v3)))) (t1.mono (by omega)) (by omega) fun u2 G12 s12 P2 => ?_
        refine ⟨_, _, m, m + 1, ps, ps, rfl, P1.mono (v3.trans s12), P2, fun v G13 res s13 al oc => ?_⟩
        have er := al.1 (by omega)
        subst er
        have ev : v = .non := oc
        subst ev
        refine ⟨rfl, ?_⟩
        exact q_ _ (xx.trans (Same.x ((((s10.trans v12).trans v3).trans s12).trans s13) a))
end
end FT

/-! FD18: law. -/
namespace FT
open PySem PySem.Spec PyProof.Rows L2
open PySem.W (Datum DatumOrd Tup)
def spLaw (K : PySem.W.Frag) : Sp := fun vs H Q _ => ∃ (a : Addr) (ns : List Int), vs = [.ref a] ∧ SqL K H a (ns.map V.int) ∧ ns.length ≤ 100 ∧ ∀ H', Q (.bl true) H'
theorem ten_sorted : (((List.range 9).map fun (i : Nat) => ((i : Int), (i : Int) + 1)) ++ [((0 : Int), (9 : Int))]).mergeSort leX = ten := by
  refine asc_ext lin_tie (asc_sort lin_tie (by decide)) ties_ten.asc fun p => ?_
  rw [mem_sort]
  have h : (((List.range 9).map fun (i : Nat) => ((i : Int), (i : Int) + 1)) ++ [((0 : Int), (9 : Int))]).Perm ten := by decide
  exact h.mem_iff
theorem two_eq : five ++ five.map (fun p => (p.1 + 5, p.2 + 5)) = two := by decide
section
variable {P : Program} {w : World} {K : PySem.W.Frag} {mg : Str → Option Value} {base : Heap} {f : Addr} {fd : FuncData} {x qual : Str}
theorem ok_law (T : Top K mg w) (c_law_alike_right : Cl P w K mg base 16 "_law_alike_right" spAR) (c_law_right : Cl P w K mg base 17 "_law_right" spRight) (c_law_stock : Cl P w K mg base 1 "_law_stock" (spStock K)) (F : FnP K x qual s_law f fd) : FnOk P w K mg base CX0 18 f fd P_law (spLaw K) :=
  fn_by F sc_law (fun _ _ _ _ ⟨_, _, e, _⟩ => e ▸ rfl) fun cdv A outer s H vs Q E hr hsp => by
    obtain ⟨a, ns, rfl, ln, hl, q⟩ := hsp
    refine ⟨_, pss_cons (ps_set (i := 1) sc_law.nd rfl (Or.inl rfl) (pe_lst (pa_cons (pe_tup (pa_cons (pe_int) (pa_cons (pe_int) pa_nil))) (pa_cons (pe_tup (pa_cons (pe_int) (pa_cons (pe_int) pa_nil))) (pa_cons (pe_tup (pa_cons (pe_int) (pa_cons (pe_int) pa_nil))) (pa_cons (pe_tup (pa_cons (pe_int) (pa_cons (pe_int) pa_nil))) (pa_cons (pe_tup (pa_cons (pe_int) (pa_cons (pe_int) pa_nil))) pa_nil)))))))
    (pss_cons (ps_set (i := 2) sc_law.nd rfl (Or.inl rfl) (pe_op op_cat (pv 1) (pe_lc (own := [("_law_one", 5), ("_law_other", 6)]) rfl sc_law.nd (pi_list (pv 1)) (blkOk_by (own := [("_law_one", 5), ("_law_other", 6)]) (N := N_law) (sc := defScope s_law) (by decide +kernel)) (fun _ _ _ _ _ => pg_tupK K rfl 2 rfl (pgs_cons (pg_name (i := 5) sc_law.nd rfl (Or.inl rfl)) (pgs_cons (pg_name (i := 6) sc_law.nd rfl (Or.inl rfl)) pgs_nil))) (fun _ _ _ _ _ => pts_nil) (fun _ _ _ _ _ => pe_tup (pa_cons (pe_op op_add (pv 5) (pe_int)) (pa_cons (pe_op op_add (pv 6) (pe_int)) pa_nil))))))
    (pss_cons (ps_set (i := 3) sc_law.nd rfl (Or.inl rfl) (pe_callB (cr_sortX (Int × Int) sortable_pair hr.units) (by rfl) T.n_sorted bt_sorted (pa_cons (pe_op op_cat (pe_lc (own := [("_law_one", 5)]) rfl sc_law.nd (pi_range1 (by rfl) T.n_range (pa_cons (pe_int) pa_nil)) (blkOk_by (own := [("_law_one", 5)]) (N := N_law) (sc := defScope s_law) (by decide +kernel)) (fun _ _ _ _ _ => pg_name (i := 5) sc_law.nd rfl (Or.inl rfl)) (fun _ _ _ _ _ => pts_nil) (fun _ _ _ _ _ => pe_tup (pa_cons (pv 5) (pa_cons (pe_op op_add (pv 5) (pe_int)) pa_nil)))) (pe_lst (pa_cons (pe_tup (pa_cons (pe_int) (pa_cons (pe_int) pa_nil))) pa_nil))) pa_nil)))
    (pss_cons (ps_if (PW.pt (pw_or (pt_not (pt_val (pe_cl c_law_alike_right hr (by decide) (by rfl) (pa_cons (pe_int) (pa_cons (pv 2) (pa_cons (pv 3) (pa_cons (pe_bl) pa_nil))))))) (pw_or1 (pt_not (pt_val (pe_cl c_law_alike_right hr (by decide) (by rfl) (pa_cons (pe_int) (pa_cons (pv 3) (pa_cons (pv 2) (pa_cons (pe_bl) pa_nil))))))))))
    (pss_one (ps_ret (pe_bl)))
    (pss_nil))
    (pss_cons (ps_for PassesOwn.never rfl (pi_range1 (by rfl) T.n_range (pa_cons (pe_callB (call_max2 rfl) (by rfl) T.n_max bt_max (pa_cons (pe_int) (pa_cons (pe_callB (call_min2 rfl) (by rfl) T.n_min bt_min (pa_cons (pe_callB (call_len_seq) (by rfl) T.n_len bt_len (pa_cons (pv 0) pa_nil)) (pa_cons (pe_int) pa_nil))) pa_nil))) pa_nil)) (pg_name (i := 4) sc_law.nd rfl (Or.inl rfl))
    (pss_one (ps_if (pt_not (pt_val (pe_cl c_law_right hr (by decide) (by rfl) (pa_cons (pe_cl c_law_stock hr (by decide) (by rfl) (pa_cons (pv 0) (pa_cons (pv 4) pa_nil))) pa_nil))))
    (pss_one (ps_ret (pe_bl)))
    (pss_nil))))
    (pss_one (ps_ret (pe_bl))))))), ?_⟩
    refine ⟨sz_le (by show 2 ≤ 100000; decide), fun p1 hp1 => ?_⟩
    refine ⟨sz_le (by show 2 ≤ 100000; decide), fun p2 hp2 => ?_⟩
    refine ⟨sz_le (by show 2 ≤ 100000; decide), fun p3 hp3 => ?_⟩
    refine ⟨sz_le (by show 2 ≤ 100000; decide), fun p4 hp4 => ?_⟩
    refine ⟨sz_le (by show 2 ≤ 100000; decide), fun p5 hp5 => ?_⟩
    have s1 := same_new (o := .tup [.int 0, .int 1]) hp1
    have s2 := same_new (o := .tup [.int 0, .int 4]) hp2
    have s3 := same_new (o := .tup [.int 1, .int 2]) hp3
    have s4 := same_new (o := .tup [.int 2, .int 3]) hp4
    have s5 := same_new (o := .tup [.int 3, .int 4]) hp5
    refine ⟨sz_le (by show 5 ≤ 100000; decide), fun L1 hL1 => ?_⟩
    have s6 := same_new (o := .lst [.ref p1, .ref p2, .ref p3, .ref p4, .ref p5]) hL1
    have t16 := ((((s1.trans s2).trans s3).trans s4).trans s5).trans s6
    generalize hG1 : upd _ L1 (.lst [.ref p1, .ref p2, .ref p3, .ref p4, .ref p5]) = G1 at *
    have aF : Are G1 [.ref p1, .ref p2, .ref p3, .ref p4, .ref p5] five := by
      refine Are.cons (is_tie ((((((s2.trans s3).trans s4).trans s5).trans s6)) _ _ upd_same)) ?_
      refine Are.cons (is_tie (((((s3.trans s4).trans s5).trans s6)) _ _ upd_same)) ?_
      refine Are.cons (is_tie ((((s4.trans s5).trans s6)) _ _ upd_same)) ?_
      refine Are.cons (is_tie (((s5.trans s6)) _ _ upd_same)) ?_
      exact Are.cons (is_tie (s6 _ _ upd_same)) Are.nil
    have eF : G1 L1 = some (.lst [.ref p1, .ref p2, .ref p3, .ref p4, .ref p5]) := by
      rw [← hG1]
      exact upd_same
    clear hG1 s1 s2 s3 s4 s5 s6 hp1 hp2 hp3 hp4 hp5 hL1
    -- two
    refine ⟨_, rfl, _, rfl, L1, rfl, ⟨_, sqL eF⟩, ?_⟩
    refine c_map (H1 := G1) walk_list (five.map fun p => (p.1 + 5, p.2 + 5)) rfl (by show 5 ≤ 100000; decide) (fun H' sm => sqL (sm _ _ eF)) ?_ ?_
    · rintro i z y H1' H1 R N hi hy sm ⟨rfl, hz⟩ hR
      obtain ⟨p, hp, ip⟩ := aF.at hz
      have ey : y = (p.1 + 5, p.2 + 5) := by
        rw [List.getElem?_map, hp] at hy
        exact (Option.some.inj hy).symm
      subst ey
      obtain ⟨c, rfl, ec⟩ := of_tie ip
      refine ⟨c, _, rfl, sqT (sm _ _ ec), rfl, _, _, rfl, _, _, rfl, rfl, ?_⟩
      refine ⟨rfl, _, rfl, _, _, rfl, rfl, _, rfl, _, _, rfl, rfl, sz_le (by show 2 ≤ 100000; decide), fun m hm => ?_⟩
      exact hR _ _ (same_new hm) (is_tie upd_same)
    intro D G2 hD u1 hL
    obtain ⟨v2, e2, a2⟩ := hL
    have l2 := a2.length
    refine ⟨L1, D, _, _, rfl, rfl, u1 _ _ eF, e2, by rw [l2]; exact sz_le (by show 10 ≤ 100000; decide), fun A2 hL2 => ?_⟩
    have u2 := same_new (o := .lst ([.ref p1, .ref p2, .ref p3, .ref p4, .ref p5] ++ v2)) hL2
    have lt2 : Lis (upd G2 A2 (.lst ([.ref p1, .ref p2, .ref p3, .ref p4, .ref p5] ++ v2))) A2 two := ⟨_, upd_same, by
      rw [← two_eq]
      exact ((aF.mono (.of u1)).append a2).mono (.of u2)⟩
    have t2 := (t16.trans u1).trans u2
    generalize upd G2 A2 (.lst ([.ref p1, .ref p2, .ref p3, .ref p4, .ref p5] ++ v2)) = G3 at *
    clear u1 u2 e2 a2 hL2 hD
    -- ten
    refine ⟨_, rfl, by decide, by decide, ?_⟩
    refine c_map (H1 := G3) walk_range0 ((List.range 9).map fun (i : Nat) => ((i : Int), (i : Int) + 1)) rfl (by show 9 ≤ 100000; decide) (fun _ _ => trivial) ?_ ?_
    · rintro i z y H1' H1 R N hi hy sm ⟨rfl, rfl⟩ hR
      have hi' : i < 9 := hi
      have ey : y = ((i : Int), (i : Int) + 1) := by
        rw [List.getElem?_map, List.getElem?_range hi'] at hy
        exact (Option.some.inj hy).symm
      subst ey
      refine ⟨rfl, _, rfl, _, rfl, _, _, rfl, rfl, sz_le (by show 2 ≤ 100000; decide), fun m hm => ?_⟩
      exact hR _ _ (same_new hm) (is_tie upd_same)
    intro D2 G4 hD2 u3 hL
    obtain ⟨v4, e4, a4⟩ := hL
    have l4 := a4.length
    refine ⟨sz_le (by show 2 ≤ 100000; decide), fun p6 hp6 => ?_⟩
    refine ⟨sz_le (by show 1 ≤ 100000; decide), fun p7 hp7 => ?_⟩
    have u4 := same_new (o := .tup [.int 0, .int 9]) hp6
    have u5 := same_new (o := .lst [.ref p6]) hp7
    refine ⟨D2, p7, _, _, rfl, rfl, (u4.trans u5) _ _ e4, upd_same, by rw [l4]; exact sz_le (by show 10 ≤ 100000; decide), fun p8 hp8 => ?_⟩
    have u6 := same_new (o := .lst (v4 ++ [.ref p6])) hp8
    refine ⟨p8, _, _, rfl, sqL upd_same, (a4.mono (.of ((u4.trans u5).trans u6))).append (Are.one (is_tie (i := 0) (j := 9) ((u5.trans u6) _ _ upd_same))), fun L3 ws hL3 aw => ?_⟩
    rw [ten_sorted] at aw
    have u7 := same_new (o := .lst ws) hL3
    have lt3 : Lis (upd (upd (upd (upd G4 p6 (.tup [.int 0, .int 9])) p7 (.lst [.ref p6])) p8 (.lst (v4 ++ [.ref p6]))) L3 (.lst ws)) L3 ten := ⟨ws, upd_same, aw.mono (.of u7)⟩
    have u37 := (((u3.trans u4).trans u5).trans u6).trans u7
    have lt23 := lt2.mono u37
    have t3 := t2.trans u37
    generalize upd (upd (upd (upd G4 p6 (.tup [.int 0, .int 9])) p7 (.lst [.ref p6])) p8 (.lst (v4 ++ [.ref p6]))) L3 (.lst ws) = G5 at *
    refine ⟨_, rfl, _, rfl, A2, L3, 10, two, ten, false, rfl, lt23, lt3, ⟨ties_two, ties_ten, by decide⟩, ⟨fun h => (by cases h), fun ⟨r, pr, er⟩ => absurd ((ren_iff ties_two ties_ten pr).mp er) (no_two_ten pr)⟩, fun G6 s6 => ⟨true, rfl, ?_⟩⟩
    refine ⟨_, rfl, _, rfl, L3, A2, 10, ten, two, false, rfl, lt3.mono s6, lt23.mono s6, ⟨ties_ten, ties_two, by decide⟩, ⟨fun h => (by cases h), fun ⟨r, pr, er⟩ => absurd ((ren_iff ties_ten ties_two pr).mp er) (no_ten_two pr)⟩, fun G7 s7 => ⟨true, rfl, ?_⟩⟩
    have t7 := (t3.trans s6).trans s7
    have ln7 := sq_same ln t7
    refine ⟨_, rfl, a, _, rfl, .inl ln7, _, _, rfl, _, _, rfl, _, rfl, ?_⟩
    generalize hj : (if _ > (2 : Int) then _ else (2 : Int)) = j
    have hj3 : 0 ≤ j ∧ j ≤ 3 := by
      rw [← hj]
      split <;> split <;> omega
    refine ⟨by omega, by omega, ?_⟩
    refine c_for walk_range0 (fun i σ H' => SqL K H' a (ns.map V.int) ∧ ∃ y1 y2 y3 y4 y5 y6, σ = [some (.ref a), y1, y2, y3, y4, y5, y6]) ⟨ln7, _, _, _, _, _, _, rfl⟩ (fun _ _ _ _ _ => trivial) ?_ ?_
    · rintro i z σ H8' H8 hi ⟨l8, y1, y2, y3, y4, y5, y6, rfl⟩ ⟨rfl, rfl⟩
      refine ⟨_, rfl, _, rfl, a, ns, i, rfl, l8, hl, by omega, fun p H9 hp s9 k9 => ?_⟩
      refine ⟨p, rfl, k9, fun H10 x10 => ⟨true, rfl, ?_⟩⟩
      exact ⟨sq_x l8 s9 x10 hp, _, _, _, _, _, _, rfl⟩
    · rintro σ H8 ⟨l8, y1, y2, y3, y4, y5, y6, rfl⟩
      exact q _
end
/-- the law is called with a list of numbers -/
theorem law_start {K : PySem.W.Frag} {H : Hp} {a : Addr} {ns : List Int} {E : XK} (hl : ns.length ≤ 63) (hS : SqL K H a (ns.map V.int)) : spLaw K [.ref a] H (fun v _ => v = .bl true) E := ⟨a, ns, rfl, hS, by omega, fun _ => rfl⟩
end FT

/-! the head: each def as a datum, what the top has written, the run. -/
namespace FT
open PySem PySem.Spec PyProof.Rows L2
abbrev R : PySem.W.OpenRow := PySem.W.OpenLaw.row PySem.Challenge.rw_forcedties_k75_whole_shapes_certified
abbrev qv : Program := PySem.W.view R.prog [121]
def names0 : List PySem.Str := [("_wall" : PySem.Str), ("WrongValue" : PySem.Str), ("NoAnswer" : PySem.Str), ("InvalidText" : PySem.Str), ("InvalidNumber" : PySem.Str), ("InvalidPerson" : PySem.Str), ("NotAParty" : PySem.Str), ("OtherSize" : PySem.Str), ("InvalidTies" : PySem.Str), ("TooMany" : PySem.Str), ("MOST_PEOPLE" : PySem.Str), ("MOST_ASKED" : PySem.Str), ("MOST_OUT" : PySem.Str), ("MOST_SHAPED" : PySem.Str), ("DIGITS_values" : PySem.Str), ("is_integer" : PySem.Str), ("is_integer_values" : PySem.Str), ("is_between" : PySem.Str), ("is_between_values" : PySem.Str), ("check_people" : PySem.Str), ("check_two" : PySem.Str), ("number_of" : PySem.Str), ("tie_of" : PySem.Str), ("is_tie" : PySem.Str), ("wrong_tie" : PySem.Str), ("all_ties" : PySem.Str), ("Party" : PySem.Str), ("beside" : PySem.Str), ("check_party" : PySem.Str), ("check_same" : PySem.Str), ("tie_in" : PySem.Str), ("party_with" : PySem.Str), ("near_of" : PySem.Str), ("renaming_from" : PySem.Str), ("renaming_of" : PySem.Str)]
def names1 : List PySem.Str := [("renamed" : PySem.Str), ("renamed_searching" : PySem.Str), ("orders_of" : PySem.Str), ("orders_of_searching" : PySem.Str), ("shape_of" : PySem.Str), ("alike" : PySem.Str), ("shape" : PySem.Str), ("certify_alike" : PySem.Str), ("certify_shape" : PySem.Str), ("masks_of" : PySem.Str), ("mask_of" : PySem.Str), ("is_in" : PySem.Str), ("count_of" : PySem.Str), ("first_in" : PySem.Str), ("has_crowd" : PySem.Str), ("has_pairs" : PySem.Str), ("last_ones" : PySem.Str), ("has_row" : PySem.Str), ("is_ring_count" : PySem.Str), ("has_ring" : PySem.Str), ("has_core" : PySem.Str), ("hang_together" : PySem.Str), ("is_linked" : PySem.Str), ("is_held" : PySem.Str), ("DIGITS_checker" : PySem.Str), ("LEAST" : PySem.Str), ("RINGS" : PySem.Str), ("LENGTHS" : PySem.Str), ("is_integer_checker" : PySem.Str), ("is_between_checker" : PySem.Str), ("accepts" : PySem.Str), ("is_number" : PySem.Str), ("is_about_things" : PySem.Str), ("is_about_parties" : PySem.Str), ("is_about_party" : PySem.Str)]
def names2 : List PySem.Str := [("natural" : PySem.Str), ("thing_of" : PySem.Str), ("party_of" : PySem.Str), ("pairs_of" : PySem.Str), ("most_ties" : PySem.Str), ("most_without_rings" : PySem.Str), ("least_ties" : PySem.Str), ("greatest_sizes" : PySem.Str), ("is_following" : PySem.Str), ("are_people" : PySem.Str), ("is_ascending" : PySem.Str), ("is_tie_tuple" : PySem.Str), ("is_shown" : PySem.Str), ("is_group" : PySem.Str), ("is_line" : PySem.Str), ("is_freed" : PySem.Str), ("forcing_ties" : PySem.Str), ("renamed_checker" : PySem.Str), ("orders_of_checker" : PySem.Str), ("lots_of" : PySem.Str), ("is_fewest" : PySem.Str), ("_law_stock" : PySem.Str), ("_law_take" : PySem.Str), ("_law_agrees" : PySem.Str), ("_law_is" : PySem.Str), ("_law_line" : PySem.Str), ("_law_pairs" : PySem.Str), ("_law_flipped" : PySem.Str), ("_law_some_ties" : PySem.Str), ("_law_some_order" : PySem.Str), ("_law_tie" : PySem.Str), ("_law_people" : PySem.Str), ("_law_same" : PySem.Str), ("_law_renamed" : PySem.Str), ("_law_orders" : PySem.Str)]
def names3 : List PySem.Str := [("_law_alike_right" : PySem.Str), ("_law_shape_right" : PySem.Str), ("_law_right" : PySem.Str)]
def names : List PySem.Str := names0 ++ names1 ++ names2 ++ names3
def d_is_integer_v : He5.DefA := ⟨fun K => He.ga K "is_integer_values", "is_integer", "is_integer", defArgs s_is_integer_v, defBody s_is_integer_v, defScope s_is_integer_v, [], []⟩
def d_check_people : He5.DefA := ⟨fun K => He.ga K "check_people", "check_people", "check_people", defArgs s_check_people, defBody s_check_people, defScope s_check_people, [], []⟩
def d_is_tie : He5.DefA := ⟨fun K => He.ga K "is_tie", "is_tie", "is_tie", defArgs s_is_tie, defBody s_is_tie, defScope s_is_tie, [], []⟩
def d_wrong_tie : He5.DefA := ⟨fun K => He.ga K "wrong_tie", "wrong_tie", "wrong_tie", defArgs s_wrong_tie, defBody s_wrong_tie, defScope s_wrong_tie, [], []⟩
def d_party_init : He5.DefA := ⟨fun K => He.ma K (CP K) "__init__", "__init__", "Party.__init__", defArgs s_party_init, defBody s_party_init, defScope s_party_init, [.adr (He.dflAt ("Party", some "__init__") 0)], []⟩
def d_party_people : He5.DefA := ⟨fun K => He5.wf K (CP K) "property" "people", "people", "Party.people", defArgs s_party_people, defBody s_party_people, defScope s_party_people, [], []⟩
def d_party_ties : He5.DefA := ⟨fun K => He5.wf K (CP K) "property" "ties", "ties", "Party.ties", defArgs s_party_ties, defBody s_party_ties, defScope s_party_ties, [], []⟩
def d_party_str : He5.DefA := ⟨fun K => He.ma K (CP K) "__str__", "__str__", "Party.__str__", defArgs s_party_str, defBody s_party_str, defScope s_party_str, [], []⟩
def d_check_party : He5.DefA := ⟨fun K => He.ga K "check_party", "check_party", "check_party", defArgs s_check_party, defBody s_check_party, defScope s_check_party, [], []⟩
def d_near_of : He5.DefA := ⟨fun K => He.ga K "near_of", "near_of", "near_of", defArgs s_near_of, defBody s_near_of, defScope s_near_of, [], []⟩
def d_renaming_from : He5.DefA := ⟨fun K => He.ga K "renaming_from", "renaming_from", "renaming_from", defArgs s_renaming_from, defBody s_renaming_from, defScope s_renaming_from, [], []⟩
def d_renaming_of : He5.DefA := ⟨fun K => He.ga K "renaming_of", "renaming_of", "renaming_of", defArgs s_renaming_of, defBody s_renaming_of, defScope s_renaming_of, [], []⟩
def d_renamed_s : He5.DefA := ⟨fun K => He.ga K "renamed_searching", "renamed", "renamed", defArgs s_renamed_s, defBody s_renamed_s, defScope s_renamed_s, [], []⟩
def d_orders_of_s : He5.DefA := ⟨fun K => He.ga K "orders_of_searching", "orders_of", "orders_of", defArgs s_orders_of_s, defBody s_orders_of_s, defScope s_orders_of_s, [], []⟩
def d_shape_of : He5.DefA := ⟨fun K => He.ga K "shape_of", "shape_of", "shape_of", defArgs s_shape_of, defBody s_shape_of, defScope s_shape_of, [], []⟩
def d_alike : He5.DefA := ⟨fun K => He.ga K "alike", "alike", "alike", defArgs s_alike, defBody s_alike, defScope s_alike, [], []⟩
def d_shape : He5.DefA := ⟨fun K => He.ga K "shape", "shape", "shape", defArgs s_shape, defBody s_shape, defScope s_shape, [], []⟩
def d_certify_alike : He5.DefA := ⟨fun K => He.ga K "certify_alike", "certify_alike", "certify_alike", defArgs s_certify_alike, defBody s_certify_alike, defScope s_certify_alike, [], []⟩
def d_certify_shape : He5.DefA := ⟨fun K => He.ga K "certify_shape", "certify_shape", "certify_shape", defArgs s_certify_shape, defBody s_certify_shape, defScope s_certify_shape, [], []⟩
def d_is_integer_c : He5.DefA := ⟨fun K => He.ga K "is_integer_checker", "is_integer", "is_integer", defArgs s_is_integer_c, defBody s_is_integer_c, defScope s_is_integer_c, [], []⟩
def d_is_between_c : He5.DefA := ⟨fun K => He.ga K "is_between_checker", "is_between", "is_between", defArgs s_is_between_c, defBody s_is_between_c, defScope s_is_between_c, [], []⟩
def d_accepts : He5.DefA := ⟨fun K => He.ga K "accepts", "accepts", "accepts", defArgs s_accepts, defBody s_accepts, defScope s_accepts, [], []⟩
def d_is_about_parties : He5.DefA := ⟨fun K => He.ga K "is_about_parties", "is_about_parties", "is_about_parties", defArgs s_is_about_parties, defBody s_is_about_parties, defScope s_is_about_parties, [], []⟩
def d_natural : He5.DefA := ⟨fun K => He.ga K "natural", "natural", "natural", defArgs s_natural, defBody s_natural, defScope s_natural, [], []⟩
def d_party_of : He5.DefA := ⟨fun K => He.ga K "party_of", "party_of", "party_of", defArgs s_party_of, defBody s_party_of, defScope s_party_of, [], []⟩
def d_are_people : He5.DefA := ⟨fun K => He.ga K "are_people", "are_people", "are_people", defArgs s_are_people, defBody s_are_people, defScope s_are_people, [], []⟩
def d_renamed_c : He5.DefA := ⟨fun K => He.ga K "renamed_checker", "renamed", "renamed", defArgs s_renamed_c, defBody s_renamed_c, defScope s_renamed_c, [], []⟩
def d_orders_of_c : He5.DefA := ⟨fun K => He.ga K "orders_of_checker", "orders_of", "orders_of", defArgs s_orders_of_c, defBody s_orders_of_c, defScope s_orders_of_c, [], []⟩
def d_law_stock : He5.DefA := ⟨fun K => He.ga K "_law_stock", "_law_stock", "_law_stock", defArgs s_law_stock, defBody s_law_stock, defScope s_law_stock, [], []⟩
def d_law_take : He5.DefA := ⟨fun K => He.ga K "_law_take", "_law_take", "_law_take", defArgs s_law_take, defBody s_law_take, defScope s_law_take, [], []⟩
def d_law_agrees : He5.DefA := ⟨fun K => He.ga K "_law_agrees", "_law_agrees", "_law_agrees", defArgs s_law_agrees, defBody s_law_agrees, defScope s_law_agrees, [], []⟩
def d_law_is : He5.DefA := ⟨fun K => He.ga K "_law_is", "_law_is", "_law_is", defArgs s_law_is, defBody s_law_is, defScope s_law_is, [], []⟩
def d_law_line : He5.DefA := ⟨fun K => He.ga K "_law_line", "_law_line", "_law_line", defArgs s_law_line, defBody s_law_line, defScope s_law_line, [], []⟩
def d_law_pairs : He5.DefA := ⟨fun K => He.ga K "_law_pairs", "_law_pairs", "_law_pairs", defArgs s_law_pairs, defBody s_law_pairs, defScope s_law_pairs, [], []⟩
def d_law_flipped : He5.DefA := ⟨fun K => He.ga K "_law_flipped", "_law_flipped", "_law_flipped", defArgs s_law_flipped, defBody s_law_flipped, defScope s_law_flipped, [], []⟩
def d_law_some_ties : He5.DefA := ⟨fun K => He.ga K "_law_some_ties", "_law_some_ties", "_law_some_ties", defArgs s_law_some_ties, defBody s_law_some_ties, defScope s_law_some_ties, [], []⟩
def d_law_some_order : He5.DefA := ⟨fun K => He.ga K "_law_some_order", "_law_some_order", "_law_some_order", defArgs s_law_some_order, defBody s_law_some_order, defScope s_law_some_order, [], []⟩
def d_law_tie : He5.DefA := ⟨fun K => He.ga K "_law_tie", "_law_tie", "_law_tie", defArgs s_law_tie, defBody s_law_tie, defScope s_law_tie, [], []⟩
def d_law_people : He5.DefA := ⟨fun K => He.ga K "_law_people", "_law_people", "_law_people", defArgs s_law_people, defBody s_law_people, defScope s_law_people, [], []⟩
def d_law_same : He5.DefA := ⟨fun K => He.ga K "_law_same", "_law_same", "_law_same", defArgs s_law_same, defBody s_law_same, defScope s_law_same, [], []⟩
def d_law_renamed : He5.DefA := ⟨fun K => He.ga K "_law_renamed", "_law_renamed", "_law_renamed", defArgs s_law_renamed, defBody s_law_renamed, defScope s_law_renamed, [], []⟩
def d_law_orders : He5.DefA := ⟨fun K => He.ga K "_law_orders", "_law_orders", "_law_orders", defArgs s_law_orders, defBody s_law_orders, defScope s_law_orders, [], []⟩
def d_law_alike_right : He5.DefA := ⟨fun K => He.ga K "_law_alike_right", "_law_alike_right", "_law_alike_right", defArgs s_law_alike_right, defBody s_law_alike_right, defScope s_law_alike_right, [], []⟩
def d_law_shape_right : He5.DefA := ⟨fun K => He.ga K "_law_shape_right", "_law_shape_right", "_law_shape_right", defArgs s_law_shape_right, defBody s_law_shape_right, defScope s_law_shape_right, [], []⟩
def d_law_right : He5.DefA := ⟨fun K => He.ga K "_law_right", "_law_right", "_law_right", defArgs s_law_right, defBody s_law_right, defScope s_law_right, [], []⟩
def d_law : He5.DefA := ⟨fun K => He.ga K "law", "law", "law", defArgs s_law, defBody s_law, defScope s_law, [], []⟩
def fn : List He5.DefA := [d_is_integer_v, d_check_people, d_is_tie, d_wrong_tie, d_party_init, d_party_people, d_party_ties, d_party_str, d_check_party, d_near_of, d_renaming_from, d_renaming_of, d_renamed_s, d_orders_of_s, d_shape_of, d_alike, d_shape, d_certify_alike, d_certify_shape, d_is_integer_c, d_is_between_c, d_accepts, d_is_about_parties, d_natural, d_party_of, d_are_people, d_renamed_c, d_orders_of_c, d_law_stock, d_law_take, d_law_agrees, d_law_is, d_law_line, d_law_pairs, d_law_flipped, d_law_some_ties, d_law_some_order, d_law_tie, d_law_people, d_law_same, d_law_renamed, d_law_orders, d_law_alike_right, d_law_shape_right, d_law_right, d_law]
def fa : List He.Fa := [.free "len", .free "range", .free "enumerate", .free "isinstance", .free "tuple", .free "list", .free "str", .free "int", .free "bool", .free "sorted", .free "min", .free "max", .free "abs", .free "any", .free "all", .int "MOST_PEOPLE" 10, .int "MOST_SHAPED" 6, .str "DIGITS_checker" "0123456789", .glo "LENGTHS", .glo "Party", .cls "Party", .noat "Party" "many", .noat "Party" "held", .mkr "Party", .glo "is_integer_values", .glo "check_people", .glo "is_tie", .glo "wrong_tie", .glo "check_party", .glo "near_of", .glo "renaming_from", .glo "renaming_of", .glo "renamed_searching", .glo "orders_of_searching", .glo "shape_of", .glo "alike", .glo "shape", .glo "certify_alike", .glo "certify_shape", .glo "is_integer_checker", .glo "is_between_checker", .glo "accepts", .glo "is_about_parties", .glo "natural", .glo "party_of", .glo "are_people", .glo "renamed_checker", .glo "orders_of_checker", .glo "_law_stock", .glo "_law_take", .glo "_law_agrees", .glo "_law_is", .glo "_law_line", .glo "_law_pairs", .glo "_law_flipped", .glo "_law_some_ties", .glo "_law_some_order", .glo "_law_tie", .glo "_law_people", .glo "_law_same", .glo "_law_renamed", .glo "_law_orders", .glo "_law_alike_right", .glo "_law_shape_right", .glo "_law_right", .glo "law"]
def asked0 : List PySem.Str := [("is_integer_values" : PySem.Str), ("check_people" : PySem.Str), ("is_tie" : PySem.Str), ("wrong_tie" : PySem.Str), ("check_party" : PySem.Str), ("near_of" : PySem.Str), ("renaming_from" : PySem.Str), ("renaming_of" : PySem.Str), ("renamed_searching" : PySem.Str), ("orders_of_searching" : PySem.Str), ("shape_of" : PySem.Str), ("alike" : PySem.Str), ("shape" : PySem.Str), ("certify_alike" : PySem.Str), ("certify_shape" : PySem.Str), ("is_integer_checker" : PySem.Str), ("is_between_checker" : PySem.Str), ("accepts" : PySem.Str), ("is_about_parties" : PySem.Str), ("natural" : PySem.Str), ("party_of" : PySem.Str), ("are_people" : PySem.Str)]
def asked1 : List PySem.Str := [("renamed_checker" : PySem.Str), ("orders_of_checker" : PySem.Str), ("_law_stock" : PySem.Str), ("_law_take" : PySem.Str), ("_law_agrees" : PySem.Str), ("_law_is" : PySem.Str), ("_law_line" : PySem.Str), ("_law_pairs" : PySem.Str), ("_law_flipped" : PySem.Str), ("_law_some_ties" : PySem.Str), ("_law_some_order" : PySem.Str), ("_law_tie" : PySem.Str), ("_law_people" : PySem.Str), ("_law_same" : PySem.Str), ("_law_renamed" : PySem.Str), ("_law_orders" : PySem.Str), ("_law_alike_right" : PySem.Str), ("_law_shape_right" : PySem.Str), ("_law_right" : PySem.Str), ("law" : PySem.Str), ("LENGTHS" : PySem.Str), ("Party" : PySem.Str)]
def asked : List PySem.Str := asked0 ++ asked1
def lenKeys : List Str := ["most", "least", "follows", "parted", "alike", "shape", "holds", "free", "forcing", "out"]
/-- a property of Party -/
def propB (K : PySem.W.Frag) (f : Str) : Bool := He.eqO (PySem.W.findIn K (.ref (CP K)) f) (some (some (.ref (He.ma K (CP K) f)))) && (He.eqO (PySem.W.specialIn K (.ref (He.ma K (CP K) f)) "__get__") (some (some (.builtin "property.__get__"))) && (decide (PySem.W.takesIn K (.ref (He.ma K (CP K) f)) = some true) && (match PySem.W.recIn K (He.ma K (CP K) f) "property" with
  | some (.ref _ :: _) => true
  | _ => false)))
theorem propB_ok {K : PySem.W.Frag} {f : Str} (h : propB K f = true) : PropOf K (CP K) f (He.ma K (CP K) f) (He5.wf K (CP K) "property" f) := by
  obtain ⟨h1, h⟩ := He.ba h
  obtain ⟨h2, h⟩ := He.ba h
  obtain ⟨h3, h4⟩ := He.ba h
  refine ⟨He.eqO_ok h1, He.eqO_ok h2, of_decide_eq_true h3, ?_⟩
  unfold He5.wf
  cases e : PySem.W.recIn K (He.ma K (CP K) f) "property" with
  | none =>
    rw [e] at h4
    cases h4
  | some l =>
    rw [e] at h4
    cases l with
    | nil => cases h4
    | cons v r =>
      cases v with
      | ref g => exact ⟨r, rfl⟩
      | _ => cases h4
/-- isinstance(x, Party) -/
def insB (K : PySem.W.Frag) : Bool := He.eqO (PySem.W.findIn K (.ref (CP K)) "__class__") (some (some (.builtin "object.__class__"))) && (He.eqO (PySem.W.specialIn K (.builtin "object.__class__") "__get__") (some (some (.builtin "getset_descriptor.__get__"))) && (decide (PySem.W.takesIn K (.builtin "object.__class__") = some true) && (decide (PySem.W.mroIn K (CP K) (.type "object") = some true) && decide (PySem.W.kitOne K (.ref (CP K)) (.ref (CP K)) = some true))))
theorem insB_ok {K : PySem.W.Frag} (c : Cls K (CP K)) (h : insB K = true) : C8.InsC K (CP K) := by
  obtain ⟨h1, h⟩ := He.ba h
  obtain ⟨h2, h⟩ := He.ba h
  obtain ⟨h3, h⟩ := He.ba h
  obtain ⟨h4, h5⟩ := He.ba h
  exact ⟨c, He.eqO_ok h1, He.eqO_ok h2, of_decide_eq_true h3, of_decide_eq_true h4, of_decide_eq_true h5⟩
def strB (K : PySem.W.Frag) : Bool := He.eqO (PySem.W.findIn K (.ref (CP K)) "__str__") (some (some (.ref (He.ma K (CP K) "__str__")))) && PySem.W.isFn K (.ref (He.ma K (CP K) "__str__"))
theorem strB_ok {K : PySem.W.Frag} (h : strB K = true) : StrOf K (CP K) (He.ma K (CP K) "__str__") := by
  obtain ⟨h1, h2⟩ := He.ba h
  exact ⟨He.eqO_ok h1, h2⟩
def lenVals : List (Str × He.Dv) := [("alike", .int 3), ("shape", .int 3)]
def exB (K : PySem.W.Frag) : Bool := propB K "people" && (propB K "ties" && (insB K && (strB K && He.valsB K (He.ga K "LENGTHS") lenVals)))
abbrev AlF : Type := He.AlD × Bool × Option (List (Option (Str × Int)))
def obsK (K : PySem.W.Frag) : AlF := (He5.obsA fa fn K, exB K, He.dicW K (He.ga K "LENGTHS"))
def valK (w : World) : AlF := (He5.valA fn, true, some (He.keysIn w.params lenKeys))
def SaysF (w : World) (K : PySem.W.Frag) : Prop := obsK K = valK w
/-- what an address names -/
def outs (g : Addr → Option Obj) (as : List Addr) : List Addr := as.flatMap fun a => match g a with
  | some o => He.refsD o
  | none => []
/-- what is looked at: the names that are asked for, what they name, what Party's names reach -/
def seenOf (g : Addr → Option Obj) (f1 : List Addr) (pa : Addr) : PySem.W.Frag :=
  let f3 := outs g (outs g [pa])
  let f4 := outs g f3
  He.frG g (mainGlobals :: (f1 ++ (outs g f1 ++ (f3 ++ (f4 ++ outs g f4)))))
def seen (g : Addr → Option Obj) : PySem.W.Frag :=
  let K0 := He.frG g [mainGlobals]
  seenOf g (asked.map (He.ga K0)) (He.ga K0 "Party")
def hk : PySem.W.Hook where
  α := AlF
  obs := fun s => obsK (seen s.heap.get?)
  val := fun w => valK w
  says := fun w h => ∃ K : PySem.W.Frag, K.In h ∧ SaysF w K
  of := fun _ _ e => ⟨_, He.frG_in, e⟩
  keeps := fun _ _ _ ⟨K, hK, c⟩ k => ⟨K, PySem.W.Frag.In.keeps hK k, c⟩
def ob (s : PySem.W.SharedT) : AlF := obsK (seen (HandSHeadRun.getT s))
theorem ob_eq (s : PySem.W.SharedT) : ob s = hk.obs s.abs := by
  have e : HandSHeadRun.getT s = s.abs.heap.get? := funext (HandSHeadRun.getT_eq s)
  unfold ob
  rw [e] <;> rfl
theorem runF (w : World) : HandSHeadRun.RunEq R qv hk ob 8000 names (w.withFollow "special-get-raises" false) := by
  intro os
  kernel_rfl
theorem runT (w : World) : HandSHeadRun.RunEq R qv hk ob 8000 names (w.withFollow "special-get-raises" true) := by
  intro os
  kernel_rfl
theorem run (w : World) : HandSHeadRun.RunEq R qv hk ob 8000 names w := PySem.W.byRow2 "special-get-raises" (P := fun w => HandSHeadRun.RunEq R qv hk ob 8000 names w) runF runT w
end FT

/-! the end: every def keeps its promise under the names that the top has written. -/
namespace FT
open PySem PySem.Spec PyProof.Rows L2
theorem facts {P : Program} {w : World} {K : PySem.W.Frag} {h : Heap} {mg : Str → Option Value} {f : Addr} (X : K.In h) (G : h.Ns mainGlobals mg) (hfa : mg ("law" : Str) = some (.ref f)) (cc : SaysF w K) :
    ∃ fd : FuncData, (∀ (s : Shared) (v : Value), BindsTo s fd ⟨[v], []⟩ [("_law_script", v)]) ∧ ∀ base : Heap, K.In base → base.Ns mainGlobals mg → FnOk P w K mg base CX0 18 f fd ["_law_script"] (spLaw K) := by
  have c : He5.SaysA fa fn K := congrArg (fun z : AlF => z.1) cc
  have ex : exB K = true := congrArg (fun z : AlF => z.2.1) cc
  have hd : He.dicW K (He.ga K "LENGTHS") = some (He.keysIn w.params lenKeys) := congrArg (fun z : AlF => z.2.2) cc
  obtain ⟨x1, ex⟩ := He.ba ex
  obtain ⟨x2, ex⟩ := He.ba ex
  obtain ⟨x3, ex⟩ := He.ba ex
  obtain ⟨x4, x5⟩ := He.ba ex
  obtain ⟨fd_is_integer_v, F_is_integer_v⟩ := c.def_ 0 (d := d_is_integer_v) rfl
  obtain ⟨fd_check_people, F_check_people⟩ := c.def_ 1 (d := d_check_people) rfl
  obtain ⟨fd_is_tie, F_is_tie⟩ := c.def_ 2 (d := d_is_tie) rfl
  obtain ⟨fd_wrong_tie, F_wrong_tie⟩ := c.def_ 3 (d := d_wrong_tie) rfl
  obtain ⟨fd_party_init, F_party_init⟩ := c.def_ 4 (d := d_party_init) rfl
  obtain ⟨fd_party_people, F_party_people⟩ := c.def_ 5 (d := d_party_people) rfl
  obtain ⟨fd_party_ties, F_party_ties⟩ := c.def_ 6 (d := d_party_ties) rfl
  obtain ⟨fd_party_str, F_party_str⟩ := c.def_ 7 (d := d_party_str) rfl
  obtain ⟨fd_check_party, F_check_party⟩ := c.def_ 8 (d := d_check_party) rfl
  obtain ⟨fd_near_of, F_near_of⟩ := c.def_ 9 (d := d_near_of) rfl
  obtain ⟨fd_renaming_from, F_renaming_from⟩ := c.def_ 10 (d := d_renaming_from) rfl
  obtain ⟨fd_renaming_of, F_renaming_of⟩ := c.def_ 11 (d := d_renaming_of) rfl
  obtain ⟨fd_renamed_s, F_renamed_s⟩ := c.def_ 12 (d := d_renamed_s) rfl
  obtain ⟨fd_orders_of_s, F_orders_of_s⟩ := c.def_ 13 (d := d_orders_of_s) rfl
  obtain ⟨fd_shape_of, F_shape_of⟩ := c.def_ 14 (d := d_shape_of) rfl
  obtain ⟨fd_alike, F_alike⟩ := c.def_ 15 (d := d_alike) rfl
  obtain ⟨fd_shape, F_shape⟩ := c.def_ 16 (d := d_shape) rfl
  obtain ⟨fd_certify_alike, F_certify_alike⟩ := c.def_ 17 (d := d_certify_alike) rfl
  obtain ⟨fd_certify_shape, F_certify_shape⟩ := c.def_ 18 (d := d_certify_shape) rfl
  obtain ⟨fd_is_integer_c, F_is_integer_c⟩ := c.def_ 19 (d := d_is_integer_c) rfl
  obtain ⟨fd_is_between_c, F_is_between_c⟩ := c.def_ 20 (d := d_is_between_c) rfl
  obtain ⟨fd_accepts, F_accepts⟩ := c.def_ 21 (d := d_accepts) rfl
  obtain ⟨fd_is_about_parties, F_is_about_parties⟩ := c.def_ 22 (d := d_is_about_parties) rfl
  obtain ⟨fd_natural, F_natural⟩ := c.def_ 23 (d := d_natural) rfl
  obtain ⟨fd_party_of, F_party_of⟩ := c.def_ 24 (d := d_party_of) rfl
  obtain ⟨fd_are_people, F_are_people⟩ := c.def_ 25 (d := d_are_people) rfl
  obtain ⟨fd_renamed_c, F_renamed_c⟩ := c.def_ 26 (d := d_renamed_c) rfl
  obtain ⟨fd_orders_of_c, F_orders_of_c⟩ := c.def_ 27 (d := d_orders_of_c) rfl
  obtain ⟨fd_law_stock, F_law_stock⟩ := c.def_ 28 (d := d_law_stock) rfl
  obtain ⟨fd_law_take, F_law_take⟩ := c.def_ 29 (d := d_law_take) rfl
  obtain ⟨fd_law_agrees, F_law_agrees⟩ := c.def_ 30 (d := d_law_agrees) rfl
  obtain ⟨fd_law_is, F_law_is⟩ := c.def_ 31 (d := d_law_is) rfl
  obtain ⟨fd_law_line, F_law_line⟩ := c.def_ 32 (d := d_law_line) rfl
  obtain ⟨fd_law_pairs, F_law_pairs⟩ := c.def_ 33 (d := d_law_pairs) rfl
  obtain ⟨fd_law_flipped, F_law_flipped⟩ := c.def_ 34 (d := d_law_flipped) rfl
  obtain ⟨fd_law_some_ties, F_law_some_ties⟩ := c.def_ 35 (d := d_law_some_ties) rfl
  obtain ⟨fd_law_some_order, F_law_some_order⟩ := c.def_ 36 (d := d_law_some_order) rfl
  obtain ⟨fd_law_tie, F_law_tie⟩ := c.def_ 37 (d := d_law_tie) rfl
  obtain ⟨fd_law_people, F_law_people⟩ := c.def_ 38 (d := d_law_people) rfl
  obtain ⟨fd_law_same, F_law_same⟩ := c.def_ 39 (d := d_law_same) rfl
  obtain ⟨fd_law_renamed, F_law_renamed⟩ := c.def_ 40 (d := d_law_renamed) rfl
  obtain ⟨fd_law_orders, F_law_orders⟩ := c.def_ 41 (d := d_law_orders) rfl
  obtain ⟨fd_law_alike_right, F_law_alike_right⟩ := c.def_ 42 (d := d_law_alike_right) rfl
  obtain ⟨fd_law_shape_right, F_law_shape_right⟩ := c.def_ 43 (d := d_law_shape_right) rfl
  obtain ⟨fd_law_right, F_law_right⟩ := c.def_ 44 (d := d_law_right) rfl
  obtain ⟨fd_law, F_law⟩ := c.def_ 45 (d := d_law) rfl
  have g_is_integer_values : mg "is_integer_values" = some (.ref (He.ga K "is_integer_values")) := He.glo_ok X G (c.fact 24 (f := .glo "is_integer_values") rfl)
  have g_check_people : mg "check_people" = some (.ref (He.ga K "check_people")) := He.glo_ok X G (c.fact 25 (f := .glo "check_people") rfl)
  have g_is_tie : mg "is_tie" = some (.ref (He.ga K "is_tie")) := He.glo_ok X G (c.fact 26 (f := .glo "is_tie") rfl)
  have g_wrong_tie : mg "wrong_tie" = some (.ref (He.ga K "wrong_tie")) := He.glo_ok X G (c.fact 27 (f := .glo "wrong_tie") rfl)
  have g_check_party : mg "check_party" = some (.ref (He.ga K "check_party")) := He.glo_ok X G (c.fact 28 (f := .glo "check_party") rfl)
  have g_near_of : mg "near_of" = some (.ref (He.ga K "near_of")) := He.glo_ok X G (c.fact 29 (f := .glo "near_of") rfl)
  have g_renaming_from : mg "renaming_from" = some (.ref (He.ga K "renaming_from")) := He.glo_ok X G (c.fact 30 (f := .glo "renaming_from") rfl)
  have g_renaming_of : mg "renaming_of" = some (.ref (He.ga K "renaming_of")) := He.glo_ok X G (c.fact 31 (f := .glo "renaming_of") rfl)
  have g_renamed_searching : mg "renamed_searching" = some (.ref (He.ga K "renamed_searching")) := He.glo_ok X G (c.fact 32 (f := .glo "renamed_searching") rfl)
  have g_orders_of_searching : mg "orders_of_searching" = some (.ref (He.ga K "orders_of_searching")) := He.glo_ok X G (c.fact 33 (f := .glo "orders_of_searching") rfl)
  have g_shape_of : mg "shape_of" = some (.ref (He.ga K "shape_of")) := He.glo_ok X G (c.fact 34 (f := .glo "shape_of") rfl)
  have g_alike : mg "alike" = some (.ref (He.ga K "alike")) := He.glo_ok X G (c.fact 35 (f := .glo "alike") rfl)
  have g_shape : mg "shape" = some (.ref (He.ga K "shape")) := He.glo_ok X G (c.fact 36 (f := .glo "shape") rfl)
  have g_certify_alike : mg "certify_alike" = some (.ref (He.ga K "certify_alike")) := He.glo_ok X G (c.fact 37 (f := .glo "certify_alike") rfl)
  have g_certify_shape : mg "certify_shape" = some (.ref (He.ga K "certify_shape")) := He.glo_ok X G (c.fact 38 (f := .glo "certify_shape") rfl)
  have g_is_integer_checker : mg "is_integer_checker" = some (.ref (He.ga K "is_integer_checker")) := He.glo_ok X G (c.fact 39 (f := .glo "is_integer_checker") rfl)
  have g_is_between_checker : mg "is_between_checker" = some (.ref (He.ga K "is_between_checker")) := He.glo_ok X G (c.fact 40 (f := .glo "is_between_checker") rfl)
  have g_accepts : mg "accepts" = some (.ref (He.ga K "accepts")) := He.glo_ok X G (c.fact 41 (f := .glo "accepts") rfl)
  have g_is_about_parties : mg "is_about_parties" = some (.ref (He.ga K "is_about_parties")) := He.glo_ok X G (c.fact 42 (f := .glo "is_about_parties") rfl)
  have g_natural : mg "natural" = some (.ref (He.ga K "natural")) := He.glo_ok X G (c.fact 43 (f := .glo "natural") rfl)
  have g_party_of : mg "party_of" = some (.ref (He.ga K "party_of")) := He.glo_ok X G (c.fact 44 (f := .glo "party_of") rfl)
  have g_are_people : mg "are_people" = some (.ref (He.ga K "are_people")) := He.glo_ok X G (c.fact 45 (f := .glo "are_people") rfl)
  have g_renamed_checker : mg "renamed_checker" = some (.ref (He.ga K "renamed_checker")) := He.glo_ok X G (c.fact 46 (f := .glo "renamed_checker") rfl)
  have g_orders_of_checker : mg "orders_of_checker" = some (.ref (He.ga K "orders_of_checker")) := He.glo_ok X G (c.fact 47 (f := .glo "orders_of_checker") rfl)
  have g__law_stock : mg "_law_stock" = some (.ref (He.ga K "_law_stock")) := He.glo_ok X G (c.fact 48 (f := .glo "_law_stock") rfl)
  have g__law_take : mg "_law_take" = some (.ref (He.ga K "_law_take")) := He.glo_ok X G (c.fact 49 (f := .glo "_law_take") rfl)
  have g__law_agrees : mg "_law_agrees" = some (.ref (He.ga K "_law_agrees")) := He.glo_ok X G (c.fact 50 (f := .glo "_law_agrees") rfl)
  have g__law_is : mg "_law_is" = some (.ref (He.ga K "_law_is")) := He.glo_ok X G (c.fact 51 (f := .glo "_law_is") rfl)
  have g__law_line : mg "_law_line" = some (.ref (He.ga K "_law_line")) := He.glo_ok X G (c.fact 52 (f := .glo "_law_line") rfl)
  have g__law_pairs : mg "_law_pairs" = some (.ref (He.ga K "_law_pairs")) := He.glo_ok X G (c.fact 53 (f := .glo "_law_pairs") rfl)
  have g__law_flipped : mg "_law_flipped" = some (.ref (He.ga K "_law_flipped")) := He.glo_ok X G (c.fact 54 (f := .glo "_law_flipped") rfl)
  have g__law_some_ties : mg "_law_some_ties" = some (.ref (He.ga K "_law_some_ties")) := He.glo_ok X G (c.fact 55 (f := .glo "_law_some_ties") rfl)
  have g__law_some_order : mg "_law_some_order" = some (.ref (He.ga K "_law_some_order")) := He.glo_ok X G (c.fact 56 (f := .glo "_law_some_order") rfl)
  have g__law_tie : mg "_law_tie" = some (.ref (He.ga K "_law_tie")) := He.glo_ok X G (c.fact 57 (f := .glo "_law_tie") rfl)
  have g__law_people : mg "_law_people" = some (.ref (He.ga K "_law_people")) := He.glo_ok X G (c.fact 58 (f := .glo "_law_people") rfl)
  have g__law_same : mg "_law_same" = some (.ref (He.ga K "_law_same")) := He.glo_ok X G (c.fact 59 (f := .glo "_law_same") rfl)
  have g__law_renamed : mg "_law_renamed" = some (.ref (He.ga K "_law_renamed")) := He.glo_ok X G (c.fact 60 (f := .glo "_law_renamed") rfl)
  have g__law_orders : mg "_law_orders" = some (.ref (He.ga K "_law_orders")) := He.glo_ok X G (c.fact 61 (f := .glo "_law_orders") rfl)
  have g__law_alike_right : mg "_law_alike_right" = some (.ref (He.ga K "_law_alike_right")) := He.glo_ok X G (c.fact 62 (f := .glo "_law_alike_right") rfl)
  have g__law_shape_right : mg "_law_shape_right" = some (.ref (He.ga K "_law_shape_right")) := He.glo_ok X G (c.fact 63 (f := .glo "_law_shape_right") rfl)
  have g__law_right : mg "_law_right" = some (.ref (He.ga K "_law_right")) := He.glo_ok X G (c.fact 64 (f := .glo "_law_right") rfl)
  have g_law : mg "law" = some (.ref (He.ga K "law")) := He.glo_ok X G (c.fact 65 (f := .glo "law") rfl)
  have g_LENGTHS : mg "LENGTHS" = some (.ref (He.ga K "LENGTHS")) := He.glo_ok X G (c.fact 18 (f := .glo "LENGTHS") rfl)
  have g_Party : mg "Party" = some (.ref (He.ga K "Party")) := He.glo_ok X G (c.fact 19 (f := .glo "Party") rfl)
  have cl : Cls K (CP K) := He.cls_ok (c.fact 20 (f := .cls "Party") rfl)
  have lv : ∀ k : Str, (k, He.Dv.int 3) ∈ lenVals → ∃ t, PySem.W.nsIn K (He.ga K "LENGTHS") k = some (some (.int 3 t)) := fun k hk => by
    obtain ⟨u, e, t, r⟩ := He.valsB_ok x5 hk
    subst r
    exact ⟨t, e⟩
  have T : Top K mg w := {
    n_len := He.free_ok X G (c.fact 0 (f := .free "len") rfl)
    n_range := He.free_ok X G (c.fact 1 (f := .free "range") rfl)
    n_enumerate := He.free_ok X G (c.fact 2 (f := .free "enumerate") rfl)
    n_isinstance := He.free_ok X G (c.fact 3 (f := .free "isinstance") rfl)
    n_tuple := He.free_ok X G (c.fact 4 (f := .free "tuple") rfl)
    n_list := He.free_ok X G (c.fact 5 (f := .free "list") rfl)
    n_str := He.free_ok X G (c.fact 6 (f := .free "str") rfl)
    n_int := He.free_ok X G (c.fact 7 (f := .free "int") rfl)
    n_bool := He.free_ok X G (c.fact 8 (f := .free "bool") rfl)
    n_sorted := He.free_ok X G (c.fact 9 (f := .free "sorted") rfl)
    n_min := He.free_ok X G (c.fact 10 (f := .free "min") rfl)
    n_max := He.free_ok X G (c.fact 11 (f := .free "max") rfl)
    n_abs := He.free_ok X G (c.fact 12 (f := .free "abs") rfl)
    n_any := He.free_ok X G (c.fact 13 (f := .free "any") rfl)
    n_all := He.free_ok X G (c.fact 14 (f := .free "all") rfl)
    m_MOST_PEOPLE := He.int_ok X G (c.fact 15 (f := .int "MOST_PEOPLE" 10) rfl)
    m_MOST_SHAPED := He.int_ok X G (c.fact 16 (f := .int "MOST_SHAPED" 6) rfl)
    m_DIGITS_checker := He.str_ok X G (c.fact 17 (f := .str "DIGITS_checker" "0123456789") rfl)
    m_LENGTHS := g_LENGTHS
    lengths := He.dicW_ok hd
    l_alike := lv "alike" (by exact List.mem_cons_self)
    l_shape := lv "shape" (by exact List.mem_cons_of_mem _ List.mem_cons_self)
    m_Party := g_Party
    cl := cl
    a_many := He.noat_ok (c.fact 21 (f := .noat "Party" "many") rfl)
    a_held := He.noat_ok (c.fact 22 (f := .noat "Party" "held") rfl)
    isC := insB_ok cl x3 }
  have b_is_integer_v : Binds K fd_is_integer_v P_is_integer_v [] := FunD.bindsN F_is_integer_v fun _ _ _ _ _ _ us hl => match us, hl with | [_], _ => rfl
  have b_check_people : Binds K fd_check_people P_check_people [] := FunD.bindsN F_check_people fun _ _ _ _ _ _ us hl => match us, hl with | [_, _], _ => rfl
  have b_is_tie : Binds K fd_is_tie P_is_tie [] := FunD.bindsN F_is_tie fun _ _ _ _ _ _ us hl => match us, hl with | [_, _], _ => rfl
  have b_wrong_tie : Binds K fd_wrong_tie P_wrong_tie [] := FunD.bindsN F_wrong_tie fun _ _ _ _ _ _ us hl => match us, hl with | [_, _], _ => rfl
  have b_party_people : Binds K fd_party_people P_party_people [] := FunD.bindsN F_party_people fun _ _ _ _ _ _ us hl => match us, hl with | [_], _ => rfl
  have b_party_ties : Binds K fd_party_ties P_party_ties [] := FunD.bindsN F_party_ties fun _ _ _ _ _ _ us hl => match us, hl with | [_], _ => rfl
  have b_party_str : Binds K fd_party_str P_party_str [] := FunD.bindsN F_party_str fun _ _ _ _ _ _ us hl => match us, hl with | [_], _ => rfl
  have b_check_party : Binds K fd_check_party P_check_party [] := FunD.bindsN F_check_party fun _ _ _ _ _ _ us hl => match us, hl with | [_], _ => rfl
  have b_near_of : Binds K fd_near_of P_near_of [] := FunD.bindsN F_near_of fun _ _ _ _ _ _ us hl => match us, hl with | [_, _], _ => rfl
  have b_renaming_from : Binds K fd_renaming_from P_renaming_from [] := FunD.bindsN F_renaming_from fun _ _ _ _ _ _ us hl => match us, hl with | [_, _, _], _ => rfl
  have b_renaming_of : Binds K fd_renaming_of P_renaming_of [] := FunD.bindsN F_renaming_of fun _ _ _ _ _ _ us hl => match us, hl with | [_, _, _], _ => rfl
  have b_renamed_s : Binds K fd_renamed_s P_renamed_s [] := FunD.bindsN F_renamed_s fun _ _ _ _ _ _ us hl => match us, hl with | [_, _], _ => rfl
  have b_orders_of_s : Binds K fd_orders_of_s P_orders_of_s [] := FunD.bindsN F_orders_of_s fun _ _ _ _ _ _ us hl => match us, hl with | [_], _ => rfl
  have b_shape_of : Binds K fd_shape_of P_shape_of [] := FunD.bindsN F_shape_of fun _ _ _ _ _ _ us hl => match us, hl with | [_, _], _ => rfl
  have b_alike : Binds K fd_alike P_alike [] := FunD.bindsN F_alike fun _ _ _ _ _ _ us hl => match us, hl with | [_, _], _ => rfl
  have b_shape : Binds K fd_shape P_shape [] := FunD.bindsN F_shape fun _ _ _ _ _ _ us hl => match us, hl with | [_], _ => rfl
  have b_certify_alike : Binds K fd_certify_alike P_certify_alike [] := FunD.bindsN F_certify_alike fun _ _ _ _ _ _ us hl => match us, hl with | [_, _], _ => rfl
  have b_certify_shape : Binds K fd_certify_shape P_certify_shape [] := FunD.bindsN F_certify_shape fun _ _ _ _ _ _ us hl => match us, hl with | [_], _ => rfl
  have b_is_integer_c : Binds K fd_is_integer_c P_is_integer_c [] := FunD.bindsN F_is_integer_c fun _ _ _ _ _ _ us hl => match us, hl with | [_], _ => rfl
  have b_is_between_c : Binds K fd_is_between_c P_is_between_c [] := FunD.bindsN F_is_between_c fun _ _ _ _ _ _ us hl => match us, hl with | [_, _, _], _ => rfl
  have b_accepts : Binds K fd_accepts P_accepts [] := FunD.bindsN F_accepts fun _ _ _ _ _ _ us hl => match us, hl with | [_, _], _ => rfl
  have b_is_about_parties : Binds K fd_is_about_parties P_is_about_parties [] := FunD.bindsN F_is_about_parties fun _ _ _ _ _ _ us hl => match us, hl with | [_, _, _, _], _ => rfl
  have b_natural : Binds K fd_natural P_natural [] := FunD.bindsN F_natural fun _ _ _ _ _ _ us hl => match us, hl with | [_, _], _ => rfl
  have b_party_of : Binds K fd_party_of P_party_of [] := FunD.bindsN F_party_of fun _ _ _ _ _ _ us hl => match us, hl with | [_], _ => rfl
  have b_are_people : Binds K fd_are_people P_are_people [] := FunD.bindsN F_are_people fun _ _ _ _ _ _ us hl => match us, hl with | [_, _], _ => rfl
  have b_renamed_c : Binds K fd_renamed_c P_renamed_c [] := FunD.bindsN F_renamed_c fun _ _ _ _ _ _ us hl => match us, hl with | [_, _], _ => rfl
  have b_orders_of_c : Binds K fd_orders_of_c P_orders_of_c [] := FunD.bindsN F_orders_of_c fun _ _ _ _ _ _ us hl => match us, hl with | [_], _ => rfl
  have b_law_stock : Binds K fd_law_stock P_law_stock [] := FunD.bindsN F_law_stock fun _ _ _ _ _ _ us hl => match us, hl with | [_, _], _ => rfl
  have b_law_take : Binds K fd_law_take P_law_take [] := FunD.bindsN F_law_take fun _ _ _ _ _ _ us hl => match us, hl with | [_, _], _ => rfl
  have b_law_agrees : Binds K fd_law_agrees P_law_agrees [] := FunD.bindsN F_law_agrees fun _ _ _ _ _ _ us hl => match us, hl with | [_, _, _], _ => rfl
  have b_law_is : Binds K fd_law_is P_law_is [] := FunD.bindsN F_law_is fun _ _ _ _ _ _ us hl => match us, hl with | [_, _, _], _ => rfl
  have b_law_line : Binds K fd_law_line P_law_line [] := FunD.bindsN F_law_line fun _ _ _ _ _ _ us hl => match us, hl with | [_, _], _ => rfl
  have b_law_pairs : Binds K fd_law_pairs P_law_pairs [] := FunD.bindsN F_law_pairs fun _ _ _ _ _ _ us hl => match us, hl with | [_], _ => rfl
  have b_law_flipped : Binds K fd_law_flipped P_law_flipped [] := FunD.bindsN F_law_flipped fun _ _ _ _ _ _ us hl => match us, hl with | [_, _], _ => rfl
  have b_law_some_ties : Binds K fd_law_some_ties P_law_some_ties [] := FunD.bindsN F_law_some_ties fun _ _ _ _ _ _ us hl => match us, hl with | [_, _], _ => rfl
  have b_law_some_order : Binds K fd_law_some_order P_law_some_order [] := FunD.bindsN F_law_some_order fun _ _ _ _ _ _ us hl => match us, hl with | [_, _], _ => rfl
  have b_law_tie : Binds K fd_law_tie P_law_tie [] := FunD.bindsN F_law_tie fun _ _ _ _ _ _ us hl => match us, hl with | [_, _], _ => rfl
  have b_law_people : Binds K fd_law_people P_law_people [] := FunD.bindsN F_law_people fun _ _ _ _ _ _ us hl => match us, hl with | [_, _], _ => rfl
  have b_law_same : Binds K fd_law_same P_law_same [] := FunD.bindsN F_law_same fun _ _ _ _ _ _ us hl => match us, hl with | [_, _], _ => rfl
  have b_law_renamed : Binds K fd_law_renamed P_law_renamed [] := FunD.bindsN F_law_renamed fun _ _ _ _ _ _ us hl => match us, hl with | [_, _], _ => rfl
  have b_law_orders : Binds K fd_law_orders P_law_orders [] := FunD.bindsN F_law_orders fun _ _ _ _ _ _ us hl => match us, hl with | [_], _ => rfl
  have b_law_alike_right : Binds K fd_law_alike_right P_law_alike_right [] := FunD.bindsN F_law_alike_right fun _ _ _ _ _ _ us hl => match us, hl with | [_, _, _, _], _ => rfl
  have b_law_shape_right : Binds K fd_law_shape_right P_law_shape_right [] := FunD.bindsN F_law_shape_right fun _ _ _ _ _ _ us hl => match us, hl with | [_, _, _], _ => rfl
  have b_law_right : Binds K fd_law_right P_law_right [] := FunD.bindsN F_law_right fun _ _ _ _ _ _ us hl => match us, hl with | [_], _ => rfl
  have b_law : Binds K fd_law P_law [] := FunD.bindsN F_law fun _ _ _ _ _ _ us hl => match us, hl with | [_], _ => rfl
  have b_party_init : Binds K fd_party_init P_party_init [] := by
    obtain ⟨ds, hv, hb⟩ := FunD.binds1 (ps := P_party_init) F_party_init 3 1 (by exact List.cons_ne_nil _ _) rfl fun T kV doc pm an cdv ct us its hu hi => match us, hu, its, hi with
      | [_, _, _], _, [_], _ => ⟨_, rfl, rfl⟩
    have hv' : Vals [] ds := hv
    cases hv'
    exact hb
  have e := hfa.symm.trans g_law
  cases e
  refine ⟨fd_law, fun s v => (FunD.bindsA (ps := P_law) F_law fun _ _ _ _ _ _ us hl => match us, hl with | [_], _ => rfl) s [v] rfl, fun base _ _ => ?_⟩
  have c_is_integer_values : Cl P w K mg base 1 "is_integer_values" spInt := ⟨⟨_, fd_is_integer_v, P_is_integer_v, ok_is_integer_v T F_is_integer_v, g_is_integer_values, F_is_integer_v.kp, b_is_integer_v⟩⟩
  have c_check_people : Cl P w K mg base 2 "check_people" spCheckP := ⟨⟨_, fd_check_people, P_check_people, ok_check_people T c_is_integer_values F_check_people, g_check_people, F_check_people.kp, b_check_people⟩⟩
  have c_is_tie : Cl P w K mg base 2 "is_tie" spIsTie := ⟨⟨_, fd_is_tie, P_is_tie, ok_is_tie T c_is_integer_values F_is_tie, g_is_tie, F_is_tie.kp, b_is_tie⟩⟩
  have c_wrong_tie : Cl P w K mg base 3 "wrong_tie" spWrong := ⟨⟨_, fd_wrong_tie, P_wrong_tie, ok_wrong_tie T c_is_tie F_wrong_tie, g_wrong_tie, F_wrong_tie.kp, b_wrong_tie⟩⟩
  have c_party : MakC P w K mg base 4 (spInit K) := ⟨⟨_, fd_party_init, P_party_init, He.mkr_ok (c.fact 23 (f := .mkr "Party") rfl), ok_party_init T c_check_people c_wrong_tie F_party_init, b_party_init⟩⟩
  have c_party_people : PropC P w K mg base 1 "people" (spPeople K) := ⟨⟨_, _, fd_party_people, P_party_people, propB_ok x1, ok_party_people T F_party_people, b_party_people⟩⟩
  have c_party_ties : PropC P w K mg base 1 "ties" (spTies K) := ⟨⟨_, _, fd_party_ties, P_party_ties, propB_ok x2, ok_party_ties T F_party_ties, b_party_ties⟩⟩
  have c_party_str : StrC P w K mg base 1 (spStr K) := ⟨⟨_, fd_party_str, P_party_str, strB_ok x4, ok_party_str T F_party_str, b_party_str⟩⟩
  have c_check_party : Cl P w K mg base 1 "check_party" (spCheckParty K) := ⟨⟨_, fd_check_party, P_check_party, ok_check_party T F_check_party, g_check_party, F_check_party.kp, b_check_party⟩⟩
  have c_near_of : Cl P w K mg base 1 "near_of" spNear := ⟨⟨_, fd_near_of, P_near_of, ok_near_of T F_near_of, g_near_of, F_near_of.kp, b_near_of⟩⟩
  have c_renaming_from : Cl P w K mg base 12 "renaming_from" (spRF 11) := ⟨⟨_, fd_renaming_from, P_renaming_from, ok_RF T (fun k sp h => ⟨⟨_, fd_renaming_from, P_renaming_from, h, g_renaming_from, F_renaming_from.kp, b_renaming_from⟩⟩) F_renaming_from 11, g_renaming_from, F_renaming_from.kp, b_renaming_from⟩⟩
  have c_renaming_of : Cl P w K mg base 13 "renaming_of" spRenOf := ⟨⟨_, fd_renaming_of, P_renaming_of, ok_renaming_of T c_renaming_from c_near_of F_renaming_of, g_renaming_of, F_renaming_of.kp, b_renaming_of⟩⟩
  have c_renamed_searching : Cl P w K mg base 1 "renamed_searching" spRenS := ⟨⟨_, fd_renamed_s, P_renamed_s, ok_renamed_s T F_renamed_s, g_renamed_searching, F_renamed_s.kp, b_renamed_s⟩⟩
  have c_orders_of_searching : Cl P w K mg base 8 "orders_of_searching" (spOS 7) := ⟨⟨_, fd_orders_of_s, P_orders_of_s, ok_OS T (fun k sp h => ⟨⟨_, fd_orders_of_s, P_orders_of_s, h, g_orders_of_searching, F_orders_of_s.kp, b_orders_of_s⟩⟩) F_orders_of_s 7, g_orders_of_searching, F_orders_of_s.kp, b_orders_of_s⟩⟩
  have c_shape_of : Cl P w K mg base 9 "shape_of" spShapeOf := ⟨⟨_, fd_shape_of, P_shape_of, ok_shape_of T c_orders_of_searching c_renamed_searching F_shape_of, g_shape_of, F_shape_of.kp, b_shape_of⟩⟩
  have c_alike : Cl P w K mg base 14 "alike" (spAlike K) := ⟨⟨_, fd_alike, P_alike, ok_alike T c_check_party c_party_people c_party_ties c_renaming_of F_alike, g_alike, F_alike.kp, b_alike⟩⟩
  have c_shape : Cl P w K mg base 10 "shape" (spShape K) := ⟨⟨_, fd_shape, P_shape, ok_shape T c_check_party c_party_people c_party_ties c_shape_of c_party F_shape, g_shape, F_shape.kp, b_shape⟩⟩
  have c_certify_alike : Cl P w K mg base 15 "certify_alike" (spCertA K) := ⟨⟨_, fd_certify_alike, P_certify_alike, ok_certify_alike T c_alike c_party_str F_certify_alike, g_certify_alike, F_certify_alike.kp, b_certify_alike⟩⟩
  have c_certify_shape : Cl P w K mg base 15 "certify_shape" (spCertS K) := ⟨⟨_, fd_certify_shape, P_certify_shape, ok_certify_shape T c_alike c_shape c_party_str F_certify_shape, g_certify_shape, F_certify_shape.kp, b_certify_shape⟩⟩
  have c_is_integer_checker : Cl P w K mg base 1 "is_integer_checker" spInt := ⟨⟨_, fd_is_integer_c, P_is_integer_c, ok_is_integer_c T F_is_integer_c, g_is_integer_checker, F_is_integer_c.kp, b_is_integer_c⟩⟩
  have c_is_between_checker : Cl P w K mg base 2 "is_between_checker" spBtw := ⟨⟨_, fd_is_between_c, P_is_between_c, ok_is_between_c T c_is_integer_checker F_is_between_c, g_is_between_checker, F_is_between_c.kp, b_is_between_c⟩⟩
  have c_are_people : Cl P w K mg base 3 "are_people" spAreP := ⟨⟨_, fd_are_people, P_are_people, ok_are_people T c_is_between_checker F_are_people, g_are_people, F_are_people.kp, b_are_people⟩⟩
  have c_renamed_checker : Cl P w K mg base 1 "renamed_checker" spRenC := ⟨⟨_, fd_renamed_c, P_renamed_c, ok_renamed_c T F_renamed_c, g_renamed_checker, F_renamed_c.kp, b_renamed_c⟩⟩
  have c_natural : Cl P w K mg base 1 "natural" spNat := ⟨⟨_, fd_natural, P_natural, ok_natural T F_natural, g_natural, F_natural.kp, b_natural⟩⟩
  have c_party_of : Cl P w K mg base 2 "party_of" spPartyOf := ⟨⟨_, fd_party_of, P_party_of, ok_party_of T c_natural F_party_of, g_party_of, F_party_of.kp, b_party_of⟩⟩
  have c_orders_of_checker : Cl P w K mg base 8 "orders_of_checker" (spOC 7) := ⟨⟨_, fd_orders_of_c, P_orders_of_c, ok_OC T (fun k sp h => ⟨⟨_, fd_orders_of_c, P_orders_of_c, h, g_orders_of_checker, F_orders_of_c.kp, b_orders_of_c⟩⟩) F_orders_of_c 7, g_orders_of_checker, F_orders_of_c.kp, b_orders_of_c⟩⟩
  have c_is_about_parties : Cl P w K mg base 9 "is_about_parties" spAbout := ⟨⟨_, fd_is_about_parties, P_is_about_parties, ok_is_about_parties T c_are_people c_renamed_checker c_orders_of_checker F_is_about_parties, g_is_about_parties, F_is_about_parties.kp, b_is_about_parties⟩⟩
  have c_accepts : Cl P w K mg base 10 "accepts" spAccepts := ⟨⟨_, fd_accepts, P_accepts, ok_accepts T c_is_about_parties c_party_of F_accepts, g_accepts, F_accepts.kp, b_accepts⟩⟩
  have c_law_take : Cl P w K mg base 1 "_law_take" spTake := ⟨⟨_, fd_law_take, P_law_take, ok_law_take T F_law_take, g__law_take, F_law_take.kp, b_law_take⟩⟩
  have c_law_stock : Cl P w K mg base 1 "_law_stock" (spStock K) := ⟨⟨_, fd_law_stock, P_law_stock, ok_law_stock T F_law_stock, g__law_stock, F_law_stock.kp, b_law_stock⟩⟩
  have c_law_tie : Cl P w K mg base 1 "_law_tie" spTie := ⟨⟨_, fd_law_tie, P_law_tie, ok_law_tie T F_law_tie, g__law_tie, F_law_tie.kp, b_law_tie⟩⟩
  have c_law_agrees : Cl P w K mg base 11 "_law_agrees" spAgrees := ⟨⟨_, fd_law_agrees, P_law_agrees, ok_law_agrees T c_accepts F_law_agrees, g__law_agrees, F_law_agrees.kp, b_law_agrees⟩⟩
  have c_law_is : Cl P w K mg base 1 "_law_is" spBtw := ⟨⟨_, fd_law_is, P_law_is, ok_law_is T F_law_is, g__law_is, F_law_is.kp, b_law_is⟩⟩
  have c_law_people : Cl P w K mg base 2 "_law_people" spAreP := ⟨⟨_, fd_law_people, P_law_people, ok_law_people T c_law_is F_law_people, g__law_people, F_law_people.kp, b_law_people⟩⟩
  have c_law_renamed : Cl P w K mg base 2 "_law_renamed" spRenC := ⟨⟨_, fd_law_renamed, P_law_renamed, ok_law_renamed T c_law_tie F_law_renamed, g__law_renamed, F_law_renamed.kp, b_law_renamed⟩⟩
  have c_law_line : Cl P w K mg base 1 "_law_line" spLine := ⟨⟨_, fd_law_line, P_law_line, ok_law_line T F_law_line, g__law_line, F_law_line.kp, b_law_line⟩⟩
  have c_law_pairs : Cl P w K mg base 1 "_law_pairs" spPairs := ⟨⟨_, fd_law_pairs, P_law_pairs, ok_law_pairs T F_law_pairs, g__law_pairs, F_law_pairs.kp, b_law_pairs⟩⟩
  have c_law_flipped : Cl P w K mg base 1 "_law_flipped" spFlip := ⟨⟨_, fd_law_flipped, P_law_flipped, ok_law_flipped T F_law_flipped, g__law_flipped, F_law_flipped.kp, b_law_flipped⟩⟩
  have c_law_same : Cl P w K mg base 3 "_law_same" (spSame 2) := ⟨⟨_, fd_law_same, P_law_same, ok_same T (fun k sp h => ⟨⟨_, fd_law_same, P_law_same, h, g__law_same, F_law_same.kp, b_law_same⟩⟩) F_law_same 2, g__law_same, F_law_same.kp, b_law_same⟩⟩
  have c_law_orders : Cl P w K mg base 1 "_law_orders" spOrders := ⟨⟨_, fd_law_orders, P_law_orders, ok_law_orders T F_law_orders, g__law_orders, F_law_orders.kp, b_law_orders⟩⟩
  have c_law_some_ties : Cl P w K mg base 2 "_law_some_ties" spSomeT := ⟨⟨_, fd_law_some_ties, P_law_some_ties, ok_law_some_ties T c_law_take c_law_pairs c_law_flipped F_law_some_ties, g__law_some_ties, F_law_some_ties.kp, b_law_some_ties⟩⟩
  have c_law_some_order : Cl P w K mg base 2 "_law_some_order" spSomeO := ⟨⟨_, fd_law_some_order, P_law_some_order, ok_law_some_order T c_law_take F_law_some_order, g__law_some_order, F_law_some_order.kp, b_law_some_order⟩⟩
  have c_law_alike_right : Cl P w K mg base 16 "_law_alike_right" spAR := ⟨⟨_, fd_law_alike_right, P_law_alike_right, ok_law_alike_right T c_certify_alike c_party c_law_people c_law_same c_law_line c_law_renamed c_law_agrees F_law_alike_right, g__law_alike_right, F_law_alike_right.kp, b_law_alike_right⟩⟩
  have c_law_shape_right : Cl P w K mg base 16 "_law_shape_right" spSR := ⟨⟨_, fd_law_shape_right, P_law_shape_right, ok_law_shape_right T c_certify_shape c_party c_law_people c_law_same c_law_line c_law_renamed c_law_agrees F_law_shape_right, g__law_shape_right, F_law_shape_right.kp, b_law_shape_right⟩⟩
  have c_law_right : Cl P w K mg base 17 "_law_right" spRight := ⟨⟨_, fd_law_right, P_law_right, ok_law_right T c_law_take c_law_some_ties c_law_some_order c_law_renamed c_law_pairs c_law_alike_right c_law_shape_right c_law_flipped c_law_orders c_certify_alike c_party F_law_right, g__law_right, F_law_right.kp, b_law_right⟩⟩
  exact ok_law T c_law_alike_right c_law_right c_law_stock F_law
end FT

open PySem PySem.W PySem.Calls PyProof.Rows
theorem PySem.Challenge.cw_forcedties_k75_whole_shapes_certified_holds : PySem.Challenge.rw_forcedties_k75_whole_shapes_certified.Holds := by
  w_on; o_law
  refine HandSHeadRun.head_any (r := OpenLaw.row PySem.Challenge.rw_forcedties_k75_whole_shapes_certified) (q := view (OpenLaw.row PySem.Challenge.rw_forcedties_k75_whole_shapes_certified).prog [121]) (H := FT.hk) (ob := FT.ob) (M := 8000) (loose := FT.names) (d := HandSHeadRun.topDef (OpenLaw.row PySem.Challenge.rw_forcedties_k75_whole_shapes_certified).prog 121) (kwd := []) FT.ob_eq
    (by kernel_rfl) (fun s => by kernel_rfl) FT.run (by kernel_rfl) (by kernel_rfl) (by kernel_rfl) (by rfl) (by first | assumption | decide +kernel) (by decide +kernel) ⟨rfl, rfl, rfl, rfl, rfl, by decide +kernel⟩ ?hw ?hc
  case hw => w_witness2
  case hc =>
    refine L2.walk_ofE (l := PySem.Challenge.rw_forcedties_k75_whole_shapes_certified) (n := 63) (k := 18) (x := "_law_script") (CX := C8.CX0) rfl (by decide) (by kernel_rfl) ⟨rfl, by decide, by decide⟩ ?F (fun _ _ _ _ z => z)
    intro w mg fa h Y G hmg0
    obtain ⟨K, KX, c⟩ := Y
    have hmg : mg ("law" : PySem.Str) = some (.ref fa) := by
      have e : (HandSHeadRun.topDef (OpenLaw.row PySem.Challenge.rw_forcedties_k75_whole_shapes_certified).prog 121).name = ("law" : PySem.Str) := by kernel_rfl
      rw [← e]
      exact hmg0
    obtain ⟨fd, hb, hF⟩ := FT.facts (P := (PySem.Challenge.rw_forcedties_k75_whole_shapes_certified).prog) (w := w) KX G hmg c
    exact ⟨K, fd, FT.spLaw K, KX, hb, fun H a ns hl _ hS => FT.law_start hl hS, hF⟩

