import PyProof.Rows.All
import PyKh289
import Wide.All
import OpenK.AllK
import Wide.FinOn
import Open.SpecLaws
import KE.OsGo
import HandS.ForSpec
import HandS.Lambda
import KE.SortKeyHeap
import HandS.Comp
import HandS.SortKw
import HandS.Iter
import HandS.NoneIn
import PySem.Challenge.RW_heldstill_s01_answers
import HandS.Steps
import HandS.Evl
set_option Elab.async false
set_option maxRecDepth 100000
set_option maxHeartbeats 4000000
/-! The plain law: no program in sight. -/
namespace Hs

/-! ### the rows of a picture, and parts of them -/
def rowsOf (p : Kh288.Pic) : List (List Int) := (List.range p.h).map fun y => ((p.b.drop (p.w * y)).take p.w).map Int.ofNat
def part (rows : List (List Int)) (x y w h : Nat) : List Int := ((rows.drop y).take h).flatMap fun row => (row.drop x).take w

theorem rowsOf_length (p : Kh288.Pic) : (rowsOf p).length = p.h := by
  unfold rowsOf
  rw [List.length_map, List.length_range]
theorem rowsOf_row {p : Kh288.Pic} {row : List Int} (h : row ∈ rowsOf p) : row.length ≤ p.w := by
  unfold rowsOf at h
  obtain ⟨y, _, rfl⟩ := List.mem_map.mp h
  rw [List.length_map, List.length_take]
  exact Nat.min_le_left _ _

theorem row_cut {p : Kh288.Pic} (hb : p.b.length = p.w * p.h) {x y w : Nat} (hx : x + w ≤ p.w) (hy : y < p.h) :
    ((((p.b.drop (p.w * y)).take p.w).map Int.ofNat).drop x).take w = (List.range w).map fun (i : Nat) => ((p.at_ ((x : Int) + (i : Int)) (y : Int) : Nat) : Int) := by
  have hm : p.w * y + p.w ≤ p.w * p.h := by
    rw [← Nat.mul_succ]
    exact Nat.mul_le_mul_left _ hy
  apply List.ext_getElem
  · rw [List.length_take, List.length_drop, List.length_map, List.length_take, List.length_drop, List.length_map, List.length_range]
    omega
  · intro i h1 h2
    rw [List.length_map, List.length_range] at h2
    rw [List.getElem_take, List.getElem_drop, List.getElem_map, List.getElem_take, List.getElem_drop, List.getElem_map, List.getElem_range]
    unfold Kh288.Pic.at_
    rw [if_pos (by omega), List.getD_eq_getElem?_getD]
    have e : (y : Int).toNat * p.w + ((x : Int) + (i : Int)).toNat = p.w * y + (x + i) := by
      have e1 : ((x : Int) + (i : Int)).toNat = x + i := by omega
      rw [e1, Int.toNat_natCast, Nat.mul_comm]
    rw [e, List.getElem?_eq_getElem (by omega)]
    rfl

/-- the places of a part, row by row -/
def places (w h : Nat) : List (Nat × Nat) := (List.range h).flatMap fun j => (List.range w).map fun i => (i, j)
theorem flat_places {α : Type} (w h : Nat) (f : Nat → Nat → α) : ((List.range h).flatMap fun j => (List.range w).map fun i => f i j) = (places w h).map fun q => f q.1 q.2 := by
  unfold places
  rw [List.map_flatMap]
  congr 1
  funext j
  rw [List.map_map]
  rfl

theorem part_rows {p : Kh288.Pic} (hb : p.b.length = p.w * p.h) {x y w h : Nat} (hx : x + w ≤ p.w) (hy : y + h ≤ p.h) :
    part (rowsOf p) x y w h = (List.range h).flatMap fun (j : Nat) => (List.range w).map fun (i : Nat) => ((p.at_ ((x : Int) + (i : Int)) ((y : Int) + (j : Int)) : Nat) : Int) := by
  have e : ((rowsOf p).drop y).take h = (List.range h).map fun (j : Nat) => ((p.b.drop (p.w * (y + j))).take p.w).map Int.ofNat := by
    apply List.ext_getElem
    · rw [List.length_take, List.length_drop, rowsOf_length, List.length_map, List.length_range]
      omega
    · intro j h1 h2
      rw [List.getElem_take, List.getElem_drop]
      simp only [rowsOf, List.getElem_map, List.getElem_range]
  unfold part
  rw [e, List.flatMap_map]
  have e2 : ∀ (l : List Nat), (∀ j ∈ l, y + j < p.h) → (l.flatMap fun j => ((((p.b.drop (p.w * (y + j))).take p.w).map Int.ofNat).drop x).take w) =
      l.flatMap fun (j : Nat) => (List.range w).map fun (i : Nat) => ((p.at_ ((x : Int) + (i : Int)) ((y : Int) + (j : Int)) : Nat) : Int) := by
    intro l
    induction l with
    | nil => intro _; rfl
    | cons j r ih =>
      intro hl
      rw [List.flatMap_cons, List.flatMap_cons, ih fun k hk => hl k (List.mem_cons_of_mem _ hk), row_cut hb hx (hl j List.mem_cons_self)]
      rw [show ((y + j : Nat) : Int) = (y : Int) + (j : Int) from by omega]
  exact e2 _ fun j hj => by
    have := List.mem_range.mp hj
    omega

theorem part_length {rows : List (List Int)} {x y w h : Nat} : (part rows x y w h).length ≤ w * h := by
  unfold part
  have e : ∀ l : List (List Int), (l.flatMap fun row => (row.drop x).take w).length ≤ w * l.length := by
    intro l
    induction l with
    | nil => exact Nat.zero_le _
    | cons a r ih =>
      rw [List.flatMap_cons, List.length_append, List.length_cons, Nat.mul_succ]
      have h1 : ((a.drop x).take w).length ≤ w := by
        rw [List.length_take]
        exact Nat.min_le_left _ _
      omega
  refine Nat.le_trans (e _) (Nat.mul_le_mul_left _ ?_)
  rw [List.length_take]
  exact Nat.min_le_left _ _

/-- what is shown, by the specification's word -/
theorem shown_part {z : Kh289.Set_} {p : Kh288.Pic} (hb : p.b.length = p.w * p.h) (hw : p.w = z.w) (hh : p.h = z.h) {x y : Nat} (hx : x ≤ 2 * z.m) (hy : y ≤ 2 * z.m) (hmw : 2 * z.m ≤ z.w) (hmh : 2 * z.m ≤ z.h) :
    part (rowsOf p) x y (z.w - 2 * z.m) (z.h - 2 * z.m) = (Kh289.shown z p x y).map Int.ofNat := by
  rw [part_rows hb (by omega) (by omega)]
  unfold Kh289.shown
  rw [List.map_flatMap]
  congr 1
  funext j
  rw [List.map_map]
  rfl

/-! ### what a shift costs -/
def absI (i : Int) : Int := if i < 0 then -i else i
def costI (xs ys : List Int) : Int := ((xs.zip ys).map fun q => absI (q.1 - q.2)).sum
theorem absI_nat (i : Int) : absI i = (i.natAbs : Int) := by
  unfold absI
  split <;> omega
theorem sum_cast : ∀ l : List Nat, (l.map Int.ofNat).sum = (l.sum : Nat)
  | [] => rfl
  | a :: r => by
    rw [List.map_cons, List.sum_cons, List.sum_cons, sum_cast r]
    show (a : Int) + (r.sum : Int) = ((a + r.sum : Nat) : Int)
    omega
theorem costI_maps {α : Type} (f g : α → Nat) (l : List α) : costI (l.map fun q => ((f q : Nat) : Int)) (l.map fun q => ((g q : Nat) : Int)) = ((l.map fun q => ((f q : Int) - (g q : Int)).natAbs).sum : Nat) := by
  unfold costI
  rw [← sum_cast, List.map_map]
  congr 1
  induction l with
  | nil => rfl
  | cons a r ih =>
    rw [List.map_cons, List.map_cons, List.map_cons, List.zip_cons_cons, List.map_cons, ih]
    congr 1
    exact absI_nat _

theorem cost_part {a b : Kh288.Pic} {r : Nat} {d : Int × Int} (ha : a.b.length = a.w * a.h) (hb : b.b.length = b.w * b.h) (hw : b.w = a.w) (hh : b.h = a.h) (h1 : d.1.natAbs ≤ r) (h2 : d.2.natAbs ≤ r) (hrw : 2 * r ≤ a.w) (hrh : 2 * r ≤ a.h) :
    costI (part (rowsOf a) r r (a.w - 2 * r) (a.h - 2 * r)) (part (rowsOf b) ((r : Int) + d.1).toNat ((r : Int) + d.2).toNat (b.w - 2 * r) (b.h - 2 * r)) = ((Kh288.cost a b r d : Nat) : Int) := by
  rw [hw, hh, part_rows ha (by omega) (by omega), part_rows hb (by rw [hw]; omega) (by rw [hh]; omega)]
  rw [flat_places (a.w - 2 * r) (a.h - 2 * r) (fun (i j : Nat) => ((a.at_ ((r : Int) + (i : Int)) ((r : Int) + (j : Int)) : Nat) : Int)), flat_places (a.w - 2 * r) (a.h - 2 * r) (fun (i j : Nat) => ((b.at_ (((((r : Int) + d.1).toNat : Nat) : Int) + (i : Int)) (((((r : Int) + d.2).toNat : Nat) : Int) + (j : Int)) : Nat) : Int))]
  rw [costI_maps (fun q : Nat × Nat => a.at_ ((r : Int) + (q.1 : Int)) ((r : Int) + (q.2 : Int))) (fun q : Nat × Nat => b.at_ (((((r : Int) + d.1).toNat : Nat) : Int) + (q.1 : Int)) (((((r : Int) + d.2).toNat : Nat) : Int) + (q.2 : Int)))]
  unfold Kh288.cost Kh288.middle
  rw [flat_places (a.w - 2 * r) (a.h - 2 * r) (fun i j => (r + i, r + j)), List.map_map]
  congr 3
  funext q
  have e1 : ((((r : Int) + d.1).toNat : Nat) : Int) + (q.1 : Int) = ((r + q.1 : Nat) : Int) + d.1 := by omega
  have e2 : ((((r : Int) + d.2).toNat : Nat) : Int) + (q.2 : Int) = ((r + q.2 : Nat) : Int) + d.2 := by omega
  have e3 : (r : Int) + (q.1 : Int) = ((r + q.1 : Nat) : Int) := by omega
  have e4 : (r : Int) + (q.2 : Int) = ((r + q.2 : Nat) : Int) := by omega
  rw [e1, e2, e3, e4]
  rfl

/-! ### the shift that is found -/
def far (d : Int × Int) : Int := d.1 * d.1 + d.2 * d.2
/-- the order of the shifts: nearer, higher, further left -/
def klt (d e : Int × Int) : Prop := far d < far e ∨ (far d = far e ∧ (d.2 < e.2 ∨ (d.2 = e.2 ∧ d.1 < e.1)))
theorem before_iff (x y : Nat × (Int × Int)) : Kh288.before x y = true ↔ x.1 < y.1 ∨ (x.1 = y.1 ∧ klt x.2 y.2) := by
  unfold Kh288.before klt far
  simp only [Bool.or_eq_true, Bool.and_eq_true, decide_eq_true_eq, beq_iff_eq]
def better (x y : Nat × (Int × Int)) : Nat × (Int × Int) := if Kh288.before y x then y else x
theorem before_total {x y : Nat × (Int × Int)} (h1 : ¬ Kh288.before x y = true) (h2 : ¬ Kh288.before y x = true) : x = y := by
  rw [before_iff] at h1 h2
  unfold klt at h1 h2
  have e1 : x.1 = y.1 := by omega
  have e2 : x.2.2 = y.2.2 := by omega
  have e3 : x.2.1 = y.2.1 := by omega
  exact Prod.ext e1 (Prod.ext e3 e2)
theorem before_trans {x y z : Nat × (Int × Int)} (h1 : Kh288.before x y = true) (h2 : Kh288.before y z = true) : Kh288.before x z = true := by
  rw [before_iff] at h1 h2 ⊢
  unfold klt at h1 h2 ⊢
  omega
theorem before_asymm {x y : Nat × (Int × Int)} (h1 : Kh288.before x y = true) : ¬ Kh288.before y x = true := by
  rw [before_iff] at h1 ⊢
  unfold klt at h1 ⊢
  omega
theorem before_not_trans {x y z : Nat × (Int × Int)} (h1 : ¬ Kh288.before x y = true) (h2 : ¬ Kh288.before y z = true) : ¬ Kh288.before x z = true := by
  rw [before_iff] at h1 h2 ⊢
  unfold klt at h1 h2 ⊢
  omega
theorem better_comm (z x y : Nat × (Int × Int)) : better (better z x) y = better (better z y) x := by
  unfold better
  by_cases a : Kh288.before x z = true <;> by_cases b : Kh288.before y z = true <;> by_cases c : Kh288.before x y = true <;> by_cases d : Kh288.before y x = true
  · exact absurd d (before_asymm c)
  · simp only [if_pos a, if_pos b, if_pos c, if_neg d]
  · simp only [if_pos a, if_pos b, if_neg c, if_pos d]
  · simp only [if_pos a, if_pos b, if_neg c, if_neg d]
    exact before_total c d
  · exact absurd d (before_asymm c)
  · simp only [if_pos a, if_neg b, if_neg d]
  · exact absurd (before_trans d a) b
  · simp only [if_pos a, if_neg b, if_neg d]
  · exact absurd (before_trans c b) a
  · exact absurd (before_trans c b) a
  · simp only [if_neg a, if_pos b, if_neg c]
  · simp only [if_neg a, if_pos b, if_neg c]
  · simp only [if_neg a, if_neg b]
  · simp only [if_neg a, if_neg b]
  · simp only [if_neg a, if_neg b]
  · simp only [if_neg a, if_neg b]

/-- one turn of the loop that finds: the best so far, and what it costs -/
def turn (c : Int × Int → Nat) (s : (Int × Int) × Nat) (d : Int × Int) : (Int × Int) × Nat := if c d < s.2 then (d, c d) else s
theorem turn_better {c : Int × Int → Nat} : ∀ (l : List (Int × Int)) (s : (Int × Int) × Nat), s.2 = c s.1 → (∀ d ∈ l, ¬ klt d s.1) → l.Pairwise (fun d e => ¬ klt e d) →
    ((l.foldl (turn c) s).2, (l.foldl (turn c) s).1) = (l.map fun d => (c d, d)).foldl better (s.2, s.1)
  | [], _, _, _, _ => rfl
  | d :: r, s, hs, hk, hp => by
    have hp' := List.pairwise_cons.mp hp
    rw [List.foldl_cons, List.map_cons, List.foldl_cons]
    have hd := hk d List.mem_cons_self
    by_cases h : c d < s.2
    · have e1 : turn c s d = (d, c d) := if_pos h
      have e2 : better (s.2, s.1) (c d, d) = (c d, d) := if_pos ((before_iff _ _).mpr (.inl h))
      rw [e1, e2]
      exact turn_better r (d, c d) rfl hp'.1 hp'.2
    · have e1 : turn c s d = s := if_neg h
      have e2 : better (s.2, s.1) (c d, d) = (s.2, s.1) := if_neg fun z => by
        rcases (before_iff _ _).mp z with z | ⟨_, z⟩
        · exact h z
        · exact hd z
      rw [e1, e2]
      exact turn_better r s hs (fun e he => hk e (List.mem_cons_of_mem _ he)) hp'.2

/-- all pairs of numbers from -r to r, as the program makes them -/
def pairs (r : Nat) : List (Int × Int) := (List.range (2 * r + 1)).flatMap fun (i : Nat) => (List.range (2 * r + 1)).map fun (j : Nat) => (-(r : Int) + (i : Int), -(r : Int) + (j : Int))
theorem pairs_perm9 : ((List.range 9).all fun r => (pairs r).isPerm (Kh288.shifts r)) = true := by decide +kernel
theorem pairs_perm {r : Nat} (h : r ≤ 8) : (pairs r).Perm (Kh288.shifts r) := by
  have h1 := List.all_eq_true.mp pairs_perm9 r (List.mem_range.mpr (by omega))
  exact List.isPerm_iff.mp h1
theorem pairs_mem {r : Nat} {d : Int × Int} (h : d ∈ pairs r) : d.1.natAbs ≤ r ∧ d.2.natAbs ≤ r := by
  unfold pairs at h
  obtain ⟨i, hi, h⟩ := List.mem_flatMap.mp h
  obtain ⟨j, hj, rfl⟩ := List.mem_map.mp h
  have := List.mem_range.mp hi
  have := List.mem_range.mp hj
  constructor
  · show (-(r : Int) + (i : Int)).natAbs ≤ r
    omega
  · show (-(r : Int) + (j : Int)).natAbs ≤ r
    omega
theorem far_nonneg (d : Int × Int) : 0 ≤ far d := by
  unfold far
  have h1 : 0 ≤ d.1 * d.1 := by
    rcases Int.le_total 0 d.1 with h | h
    · exact Int.mul_nonneg h h
    · exact Int.mul_nonneg_of_nonpos_of_nonpos h h
  have h2 : 0 ≤ d.2 * d.2 := by
    rcases Int.le_total 0 d.2 with h | h
    · exact Int.mul_nonneg h h
    · exact Int.mul_nonneg_of_nonpos_of_nonpos h h
  omega
theorem far_pos {d : Int × Int} (h : far d = 0) : d = (0, 0) := by
  unfold far at h
  have h1 : 0 ≤ d.1 * d.1 := by
    rcases Int.le_total 0 d.1 with h | h
    · exact Int.mul_nonneg h h
    · exact Int.mul_nonneg_of_nonpos_of_nonpos h h
  have h2 : 0 ≤ d.2 * d.2 := by
    rcases Int.le_total 0 d.2 with h | h
    · exact Int.mul_nonneg h h
    · exact Int.mul_nonneg_of_nonpos_of_nonpos h h
  have e1 : d.1 * d.1 = 0 := by omega
  have e2 : d.2 * d.2 = 0 := by omega
  have f1 : d.1 = 0 := by
    rcases Int.mul_eq_zero.mp e1 with z | z <;> exact z
  have f2 : d.2 = 0 := by
    rcases Int.mul_eq_zero.mp e2 with z | z <;> exact z
  exact Prod.ext f1 f2
theorem klt_zero (d : Int × Int) : ¬ klt d (0, 0) := by
  intro h
  unfold klt at h
  have e0 : far ((0 : Int), (0 : Int)) = 0 := rfl
  rw [e0] at h
  have h0 := far_nonneg d
  rcases h with h | ⟨h, h2⟩
  · omega
  · have e := far_pos h
    subst e
    have h2' : (0 : Int) < 0 ∨ ((0 : Int) = 0 ∧ (0 : Int) < 0) := h2
    omega

/-- **the loop over the sorted shifts finds what the specification finds** -/
theorem find_eq {a b : Kh288.Pic} {r : Nat} {l : List (Int × Int)} (hr : r ≤ 8) (hl : l.Perm (pairs r)) (hp : l.Pairwise fun d e => ¬ klt e d) :
    (l.foldl (turn (Kh288.cost a b r)) ((0, 0), Kh288.cost a b r (0, 0))).1 = (Kh288.find a b r).2 := by
  have h1 := turn_better (c := Kh288.cost a b r) l ((0, 0), Kh288.cost a b r (0, 0)) rfl (fun d _ => klt_zero d) hp
  have h2 : ((l.map fun d => (Kh288.cost a b r d, d)).foldl better (Kh288.cost a b r (0, 0), (0, 0))) = Kh288.find a b r := by
    unfold Kh288.find
    refine List.Perm.foldl_eq' ((hl.trans (pairs_perm hr)).map _) (fun x _ y _ z => better_comm z x y) _
  rw [← h2, ← h1]
theorem find_mem {a b : Kh288.Pic} {r : Nat} : (Kh288.find a b r).2.1.natAbs ≤ r ∧ (Kh288.find a b r).2.2.natAbs ≤ r := by
  have e : ∀ (l : List (Nat × (Int × Int))) (s : Nat × (Int × Int)), (∀ x ∈ l, x.2.1.natAbs ≤ r ∧ x.2.2.natAbs ≤ r) → (s.2.1.natAbs ≤ r ∧ s.2.2.natAbs ≤ r) → ((l.foldl better s).2.1.natAbs ≤ r ∧ (l.foldl better s).2.2.natAbs ≤ r) := by
    intro l
    induction l with
    | nil => intro s _ hs; exact hs
    | cons x l ih =>
      intro s hl hs
      rw [List.foldl_cons]
      refine ih _ (fun y hy => hl y (List.mem_cons_of_mem _ hy)) ?_
      unfold better
      split
      · exact hl x List.mem_cons_self
      · exact hs
  refine e _ _ (fun x hx => ?_) ⟨Nat.zero_le _, Nat.zero_le _⟩
  obtain ⟨d, hd, rfl⟩ := List.mem_map.mp hx
  unfold Kh288.shifts at hd
  obtain ⟨j, hj, hd⟩ := List.mem_flatMap.mp hd
  obtain ⟨i, hi, rfl⟩ := List.mem_map.mp hd
  have := List.mem_range.mp hi
  have := List.mem_range.mp hj
  constructor
  · show ((i : Int) - (r : Int)).natAbs ≤ r
    omega
  · show ((j : Int) - (r : Int)).natAbs ≤ r
    omega
end Hs
set_option Elab.async false
set_option maxRecDepth 100000
set_option maxHeartbeats 4000000
/-! The plain law, second part: the steps of the object, the calls in one list. -/
namespace Hs
open Kh289 (Abs Set_)

/-! ### the steps of a holder, as the program takes them -/
def b2 (b : Bool) : Int := if b then 1 else 0
def followed (s : Abs) (d : Int × Int) : Abs := { s with dx := s.dx + d.1, dy := s.dy + d.2, x := s.x + d.1, y := s.y + d.2 }
def goes (s : Abs) : Bool := s.set.slow != 0 && s.many % s.set.slow == 0
def nearTo (m v : Int) : Int := v + b2 (decide (v < m)) - b2 (decide (m < v))
def withinOf (m v : Int) : Int := if (if v < 2 * m then v else 2 * m) > 0 then (if v < 2 * m then v else 2 * m) else 0
def gaveTo (s : Abs) : Abs := { s with x := nearTo s.set.m s.x, y := nearTo s.set.m s.y }
def gave (s : Abs) : Abs × Bool := if goes s = true then (gaveTo s, !decide (s.x = (gaveTo s).x ∧ s.y = (gaveTo s).y)) else (s, false)
def stayedTo (s : Abs) : Abs := { s with x := withinOf s.set.m s.x, y := withinOf s.set.m s.y }
def stayed (s : Abs) : Abs × Bool := (stayedTo s, !decide (s.x = (stayedTo s).x ∧ s.y = (stayedTo s).y))
theorem nearTo_eq (m v : Int) : nearTo m v = Kh289.nearer m v := by
  unfold nearTo Kh289.nearer b2
  by_cases h1 : v < m
  · have h2 : ¬ m < v := by omega
    simp only [h1, h2, decide_true, decide_false, if_true, if_false, Bool.false_eq_true]
    omega
  · by_cases h2 : m < v
    · simp only [h1, h2, decide_true, decide_false, if_true, if_false, Bool.false_eq_true]
      omega
    · simp only [h1, h2, decide_false, if_false, Bool.false_eq_true]
      omega
theorem withinOf_eq {m : Int} (v : Int) (hm : 0 ≤ m) : withinOf m v = Kh289.clamped m v := by
  unfold withinOf Kh289.clamped
  by_cases h1 : v < 0
  · rw [if_pos (show v < 2 * m by omega), if_neg (by omega), if_pos h1]
  · rw [if_neg h1]
    by_cases h2 : 2 * m < v
    · rw [if_neg (show ¬ v < 2 * m by omega), if_pos h2]
      split <;> omega
    · rw [if_neg h2]
      by_cases h3 : v < 2 * m
      · rw [if_pos h3]
        split <;> omega
      · rw [if_neg h3]
        split <;> omega
theorem within_range {m : Int} (v : Int) (hm : 0 ≤ m) : 0 ≤ withinOf m v ∧ withinOf m v ≤ 2 * m := by
  unfold withinOf
  split <;> split <;> omega

/-- the holder behind a picture that isn't the first -/
def after (s : Abs) (q p : Kh288.Pic) : Abs := (stayed (gave (followed s (Kh288.find q p s.set.r).2)).1).1
def word (s : Abs) (q p : Kh288.Pic) : Int := b2 (gave (followed s (Kh288.find q p s.set.r).2)).2 + 2 * b2 (stayed (gave (followed s (Kh288.find q p s.set.r).2)).1).2
theorem gave_set (s : Abs) : (gave s).1.set = s.set := by
  unfold gave
  split <;> rfl
theorem gave_many (s : Abs) : (gave s).1.many = s.many := by
  unfold gave
  split <;> rfl
theorem gave_last (s : Abs) : (gave s).1.last = s.last := by
  unfold gave
  split <;> rfl
theorem not_and_or' {A B : Prop} [Decidable A] [Decidable B] : b2 (!decide (A ∧ B)) = if ¬ A ∨ ¬ B then 1 else 0 := by
  by_cases a : A <;> by_cases b : B <;> simp [a, b, b2]
theorem next_none {s : Abs} {p : Kh288.Pic} (h : s.last = none) (hm : s.many = 0) : Kh289.next s p = ({ s with last := some p, many := s.many + 1 }, ⟨0, Kh289.shown s.set p s.x s.y, [s.x, s.y]⟩) := by
  unfold Kh289.next
  rw [h, hm]
theorem next_some {s : Abs} {q p : Kh288.Pic} (h : s.last = some q) :
    Kh289.next s p = ({ after s q p with last := some p, many := s.many + 1 }, ⟨word s q p, Kh289.shown s.set p (after s q p).x (after s q p).y, [(after s q p).x, (after s q p).y]⟩) := by
  unfold Kh289.next after word
  rw [h]
  dsimp only
  generalize (Kh288.find q p s.set.r).2 = d
  unfold stayed stayedTo
  have hm : (0 : Int) ≤ (s.set.m : Int) := Int.natCast_nonneg _
  simp only [gave_set]
  rw [show (followed s d).set = s.set from rfl]
  by_cases hg : goes (followed s d) = true
  · have hg' : (s.set.slow != 0 && s.many % s.set.slow == 0) = true := hg
    have e : gave (followed s d) = (gaveTo (followed s d), !decide ((followed s d).x = (gaveTo (followed s d)).x ∧ (followed s d).y = (gaveTo (followed s d)).y)) := if_pos hg
    rw [e]
    dsimp only
    simp only [hg', if_true, not_and_or', withinOf_eq _ hm]
    unfold gaveTo followed
    dsimp only
    simp only [nearTo_eq]
    refine Prod.ext rfl ?_
    dsimp only
    congr 1
    generalize Kh289.nearer (s.set.m : Int) (s.x + d.1) = u
    generalize Kh289.nearer (s.set.m : Int) (s.y + d.2) = v
    generalize Kh289.clamped (s.set.m : Int) u = u'
    generalize Kh289.clamped (s.set.m : Int) v = v'
    have c1 : (u ≠ s.x + d.1 ∨ v ≠ s.y + d.2) ↔ (¬ s.x + d.1 = u ∨ ¬ s.y + d.2 = v) := by
      constructor <;> (intro z; omega)
    have c2 : (u' ≠ u ∨ v' ≠ v) ↔ (¬ u = u' ∨ ¬ v = v') := by
      constructor <;> (intro z; omega)
    simp only [c1, c2]
    split <;> split <;> rfl
  · have hg' : ¬ (s.set.slow != 0 && s.many % s.set.slow == 0) = true := hg
    have e : gave (followed s d) = (followed s d, false) := if_neg hg
    rw [e]
    dsimp only
    simp only [hg', Bool.false_eq_true, if_false, not_and_or', withinOf_eq _ hm]
    unfold followed
    dsimp only
    refine Prod.ext rfl ?_
    dsimp only
    congr 1
    generalize Kh289.clamped (s.set.m : Int) (s.x + d.1) = u'
    generalize Kh289.clamped (s.set.m : Int) (s.y + d.2) = v'
    have c2 : (u' ≠ s.x + d.1 ∨ v' ≠ s.y + d.2) ↔ (¬ s.x + d.1 = u' ∨ ¬ s.y + d.2 = v') := by
      constructor <;> (intro z; omega)
    simp only [c2]
    unfold b2
    simp only [Bool.false_eq_true, if_false, ne_eq, not_true_eq_false, or_self]
    split <;> rfl
/-! ### what is known of a holder -/
structure Wf (s : Abs) : Prop where
  ok : Kh289.okSet s.set = true
  last : ∀ p, s.last = some p → p.w = s.set.w ∧ p.h = s.set.h ∧ p.b.length = p.w * p.h
  first : s.last = none → s.many = 0
  x0 : 0 ≤ s.x
  x1 : s.x ≤ 2 * (s.set.m : Int)
  y0 : 0 ≤ s.y
  y1 : s.y ≤ 2 * (s.set.m : Int)
theorem okSet_iff {z : Set_} : Kh289.okSet z = true ↔ z.r ≤ 8 ∧ 2 * z.r + 1 ≤ z.w ∧ z.w ≤ 256 ∧ 2 * z.r + 1 ≤ z.h ∧ z.h ≤ 256 ∧ 2 * z.m < z.w ∧ 2 * z.m < z.h ∧ z.slow ≤ 65535 := by
  unfold Kh289.okSet Kh288.okSize
  simp only [Bool.and_eq_true, decide_eq_true_eq]
  constructor
  · rintro ⟨⟨h1, h2, h3, h4, h5⟩, h6, h7, h8⟩
    exact ⟨h1, h2, h3, h4, h5, h6, h7, h8⟩
  · rintro ⟨h1, h2, h3, h4, h5, h6, h7, h8⟩
    exact ⟨⟨h1, h2, h3, h4, h5⟩, h6, h7, h8⟩
theorem wf_begun {z : Set_} (h : Kh289.okSet z = true) : Wf (Kh289.begun z) := by
  refine ⟨h, fun p q => ?_, fun _ => rfl, ?_, ?_, ?_, ?_⟩
  · cases q
  · show (0 : Int) ≤ (z.m : Int)
    omega
  · show (z.m : Int) ≤ 2 * (z.m : Int)
    omega
  · show (0 : Int) ≤ (z.m : Int)
    omega
  · show (z.m : Int) ≤ 2 * (z.m : Int)
    omega
theorem wf_next {s : Abs} {p : Kh288.Pic} (w : Wf s) (hw : p.w = s.set.w) (hh : p.h = s.set.h) (hb : p.b.length = p.w * p.h) : Wf (Kh289.next s p).1 := by
  cases e : s.last with
  | none =>
    rw [next_none e (w.first e)]
    refine ⟨w.ok, fun q hq => ?_, fun z => ?_, w.x0, w.x1, w.y0, w.y1⟩
    · have hq' : p = q := Option.some.inj hq
      subst hq'
      exact ⟨hw, hh, hb⟩
    · cases z
  | some q0 =>
    rw [next_some e]
    have es : (after s q0 p).set = s.set := by
      unfold after
      show (gave (followed s (Kh288.find q0 p s.set.r).2)).1.set = s.set
      rw [gave_set]
      rfl
    have hm : (0 : Int) ≤ ((gave (followed s (Kh288.find q0 p s.set.r).2)).1.set.m : Int) := Int.natCast_nonneg _
    have rx := within_range (gave (followed s (Kh288.find q0 p s.set.r).2)).1.x hm
    have ry := within_range (gave (followed s (Kh288.find q0 p s.set.r).2)).1.y hm
    have em : (gave (followed s (Kh288.find q0 p s.set.r).2)).1.set.m = s.set.m := by
      rw [gave_set]
      rfl
    refine ⟨?_, fun q hq => ?_, fun z => ?_, rx.1, ?_, ry.1, ?_⟩
    · show Kh289.okSet (after s q0 p).set = true
      rw [es]
      exact w.ok
    · have hq' : p = q := Option.some.inj hq
      subst hq'
      show p.w = (after s q0 p).set.w ∧ p.h = (after s q0 p).set.h ∧ _
      rw [es]
      exact ⟨hw, hh, hb⟩
    · cases z
    · exact rx.2
    · exact ry.2

/-! ### a step, call by call -/
theorem step_begin (s : Option Abs) (w h r m sl : Nat) : Kh289Neutral.step s [[0, (w : Int), (h : Int), (r : Int), (m : Int), (sl : Int)]] =
    if Kh289.okSet ⟨w, h, r, m, sl⟩ = true then (some (Kh289.begun ⟨w, h, r, m, sl⟩), [0]) else (s, [-22]) := by
  show (let r' := Kh289.doing s (.begin_ ⟨w, h, r, m, sl⟩); (r'.1, r'.2.value :: (r'.2.nums ++ r'.2.out.map Int.ofNat))) = _
  unfold Kh289.doing
  dsimp only
  split <;> rfl
theorem nats_of (b : List Nat) : Kh289Neutral.nats (b.map Int.ofNat) = b := by
  unfold Kh289Neutral.nats
  rw [List.map_map]
  conv => rhs; rw [← List.map_id b]
  congr 1
theorem step_frame (a : Abs) (w h m : Nat) (b : List Nat) : Kh289Neutral.step (some a) [[1, (w : Int), (h : Int), (m : Int)], b.map Int.ofNat] =
    if w = a.set.w ∧ h = a.set.h ∧ m = a.set.m then (some (Kh289.next a ⟨w, h, b⟩).1, (Kh289.next a ⟨w, h, b⟩).2.value :: ((Kh289.next a ⟨w, h, b⟩).2.nums ++ (Kh289.next a ⟨w, h, b⟩).2.out.map Int.ofNat)) else (some a, [-22]) := by
  show (let r' := Kh289.doing (some a) (.frame ⟨w, h, Kh289Neutral.nats (b.map Int.ofNat)⟩ m); (r'.1, r'.2.value :: (r'.2.nums ++ r'.2.out.map Int.ofNat))) = _
  rw [nats_of]
  unfold Kh289.doing
  dsimp only
  split <;> rfl
theorem step_where (a : Abs) : Kh289Neutral.step (some a) [[2]] = (some a, [0, a.dx, a.dy, (a.many : Int)]) := rfl

/-! ### the calls in one list -/
/-- what is asked of the calls from a state on -/
def okFrom : Option Abs → List (List (List Int)) → Prop
  | _, [] => True
  | s, c :: r => Kh289Neutral.asked1 c = true ∧ (s.isSome = true ∨ (c.getD 0 []).headD 9 = 0) ∧ okFrom (Kh289Neutral.step s c).1 r
theorem okFrom_of : ∀ (l : List (List (List Int))) (b : Bool) (s : Option Abs), (∀ c ∈ l, Kh289Neutral.asked1 c = true) →
    (l.foldl (fun (x : Bool × Kh289Neutral.S) c => (x.1 && (x.2.isSome || (c.getD 0 []).headD 9 == 0), (Kh289Neutral.step x.2 c).1)) (b, s)).1 = true → b = true ∧ okFrom s l
  | [], b, s, _, h => ⟨h, trivial⟩
  | c :: r, b, s, ha, h => by
    rw [List.foldl_cons] at h
    obtain ⟨h1, h2⟩ := okFrom_of r _ _ (fun c hc => ha c (List.mem_cons_of_mem _ hc)) h
    rw [Bool.and_eq_true, Bool.or_eq_true, beq_iff_eq] at h1
    exact ⟨h1.1, ha c List.mem_cons_self, h1.2, h2⟩
theorem whole_id (c : List (List Int)) : PyKh289.whole c = c := by
  unfold PyKh289.whole
  split <;> rfl
theorem asked_parts {l : List Int} (h : PyKh289.answers_asked l = true) : ∃ cs, PyFlat.calls PyKh289.shape l.length l = some cs ∧ okFrom none cs ∧
    PyKh289.answers l = PyFlat.told (PyFlat.played Kh289Neutral.step none cs) ∧ (PyFlat.told (PyFlat.played Kh289Neutral.step none cs)).length ≤ 10000000 := by
  unfold PyKh289.answers_asked at h
  cases e : PyFlat.calls PyKh289.shape l.length l with
  | none =>
    rw [e] at h
    exact absurd h Bool.false_ne_true
  | some cs =>
    rw [e] at h
    have hm : cs.map PyKh289.whole = cs := by
      conv => rhs; rw [← List.map_id cs]
      congr 1
      funext c
      exact whole_id c
    have h' : (!cs.isEmpty && PyFlat.atMost 400 cs && PyInside.calls PyKh289.bound cs && Kh289Neutral.asked (cs.map PyKh289.whole) && PyFlat.short 10000000 (PyKh289.answers l)) = true := h
    rw [hm] at h'
    simp only [Bool.and_eq_true] at h'
    obtain ⟨⟨⟨⟨_, _⟩, _⟩, ha⟩, hs⟩ := h'
    have ea : PyKh289.answers l = PyFlat.told (PyFlat.played Kh289Neutral.step none cs) := by
      unfold PyKh289.answers PyKh289.calls
      rw [e]
      show PyFlat.told (PyFlat.played Kh289Neutral.step none (cs.map PyKh289.whole)) = _
      rw [hm]
    unfold Kh289Neutral.asked at ha
    simp only [Bool.and_eq_true] at ha
    obtain ⟨⟨⟨_, _⟩, h1⟩, h2⟩ := ha
    have h3 := (okFrom_of cs true none (fun c hc => List.all_eq_true.mp h1 c hc) h2).2
    refine ⟨cs, rfl, h3, ea, ?_⟩
    rw [← ea]
    unfold PyFlat.short at hs
    exact of_decide_eq_true hs

/-- one call at the head of the list -/
inductive Call1 : List Int → List (List Int) → List Int → Prop
  | begin (a0 a1 a2 a3 a4 : Int) (t : List Int) : Call1 (0 :: a0 :: a1 :: a2 :: a3 :: a4 :: t) [[0, a0, a1, a2, a3, a4]] t
  | frame (a0 a1 a2 n : Int) (r : List Int) (h0 : 0 ≤ n) (h1 : n.toNat ≤ r.length) : Call1 (1 :: a0 :: a1 :: a2 :: n :: r) [[1, a0, a1, a2], r.take n.toNat] (r.drop n.toNat)
  | look (t : List Int) : Call1 (2 :: t) [[2]] t
theorem len5 {l : List Int} (h : ¬ l.length < 5) : ∃ a0 a1 a2 a3 a4 t, l = a0 :: a1 :: a2 :: a3 :: a4 :: t := by
  match l, h with
  | a0 :: a1 :: a2 :: a3 :: a4 :: t, _ => exact ⟨a0, a1, a2, a3, a4, t, rfl⟩
  | [], h => exact absurd (by decide) h
  | [_], h => exact absurd (by simp) h
  | [_, _], h => exact absurd (by simp) h
  | [_, _, _], h => exact absurd (by simp) h
  | [_, _, _, _], h => exact absurd (by simp) h
theorem len3 {l : List Int} (h : ¬ l.length < 3) : ∃ a0 a1 a2 t, l = a0 :: a1 :: a2 :: t := by
  match l, h with
  | a0 :: a1 :: a2 :: t, _ => exact ⟨a0, a1, a2, t, rfl⟩
  | [], h => exact absurd (by decide) h
  | [_], h => exact absurd (by simp) h
  | [_, _], h => exact absurd (by simp) h
theorem call1 {p : Int} {r t : List Int} {c : List (List Int)} (h : PyFlat.call PyKh289.shape (p :: r) = some (c, t)) : Call1 (p :: r) c t := by
  unfold PyFlat.call at h
  dsimp only at h
  unfold PyKh289.shape at h
  by_cases h0 : p = 0
  · rw [if_pos h0] at h
    dsimp only at h
    by_cases hl : r.length < 5
    · rw [if_pos hl] at h
      cases h
    · rw [if_neg hl] at h
      obtain ⟨a0, a1, a2, a3, a4, t', rfl⟩ := len5 hl
      subst h0
      have h' : some ([[0, a0, a1, a2, a3, a4]], t') = some (c, t) := h
      cases h'
      exact .begin ..
  · rw [if_neg h0] at h
    by_cases h1 : p = 1
    · rw [if_pos h1] at h
      dsimp only at h
      by_cases hl : r.length < 3
      · rw [if_pos hl] at h
        cases h
      · rw [if_neg hl] at h
        obtain ⟨a0, a1, a2, t', rfl⟩ := len3 hl
        subst h1
        cases t' with
        | nil => cases h
        | cons n r' =>
          by_cases hn : 0 ≤ n ∧ n.toNat ≤ r'.length
          · have e : PyFlat.rows 1 ((a0 :: a1 :: a2 :: n :: r').drop 3) = some ([r'.take n.toNat], r'.drop n.toNat) := by
              show (match (if 0 ≤ n ∧ n.toNat ≤ r'.length then some (r'.take n.toNat, r'.drop n.toNat) else none) with
                | none => none
                | some (x, s) => match PyFlat.rows 0 s with
                  | none => none
                  | some (xs, t) => some (x :: xs, t)) = _
              rw [if_pos hn]
              rfl
            rw [e] at h
            have h' : some ([[1, a0, a1, a2], r'.take n.toNat], r'.drop n.toNat) = some (c, t) := h
            cases h'
            exact .frame _ _ _ _ _ hn.1 hn.2
          · have e : PyFlat.rows 1 ((a0 :: a1 :: a2 :: n :: r').drop 3) = none := by
              show (match (if 0 ≤ n ∧ n.toNat ≤ r'.length then some (r'.take n.toNat, r'.drop n.toNat) else none) with
                | none => none
                | some (x, s) => match PyFlat.rows 0 s with
                  | none => none
                  | some (xs, t) => some (x :: xs, t)) = _
              rw [if_neg hn]
            rw [e] at h
            cases h
    · rw [if_neg h1] at h
      by_cases h2 : p = 2
      · rw [if_pos h2] at h
        dsimp only at h
        subst h2
        have h' : some ([[2]], r) = some (c, t) := by
          rw [if_neg (by omega)] at h
          exact h
        cases h'
        exact .look _
      · rw [if_neg h2] at h
        cases h
theorem calls_cons {f : Nat} {p : Int} {r : List Int} {cs : List (List (List Int))} (h : PyFlat.calls PyKh289.shape f (p :: r) = some cs) :
    ∃ f' c t cs', Call1 (p :: r) c t ∧ PyFlat.calls PyKh289.shape f' t = some cs' ∧ cs = c :: cs' := by
  cases f with
  | zero => cases h
  | succ f =>
    unfold PyFlat.calls at h
    cases e : PyFlat.call PyKh289.shape (p :: r) with
    | none =>
      rw [e] at h
      cases h
    | some ct =>
      obtain ⟨c, t⟩ := ct
      rw [e] at h
      dsimp only at h
      cases e2 : PyFlat.calls PyKh289.shape f t with
      | none =>
        rw [e2] at h
        cases h
      | some cs' =>
        rw [e2] at h
        cases h
        exact ⟨f, c, t, cs', call1 e, e2, rfl⟩
theorem calls_nil {f : Nat} {cs : List (List (List Int))} (h : PyFlat.calls PyKh289.shape f [] = some cs) : cs = [] := by
  cases f <;> (cases h; rfl)

/-! ### what the bounds say of one call -/
theorem natural_of {z : Int} (h : Kh289Neutral.natural z 32 = true) : ∃ n : Nat, z = (n : Int) ∧ n < 4294967296 := by
  unfold Kh289Neutral.natural at h
  simp only [Bool.and_eq_true, decide_eq_true_eq] at h
  obtain ⟨h1, h2⟩ := h
  exact ⟨z.toNat, by omega, by omega⟩
theorem asked_begin {a0 a1 a2 a3 a4 : Int} (h : Kh289Neutral.asked1 [[0, a0, a1, a2, a3, a4]] = true) : ∃ w h r m s : Nat, a0 = w ∧ a1 = h ∧ a2 = r ∧ a3 = m ∧ a4 = s ∧ w < 4294967296 ∧ h < 4294967296 ∧ r < 4294967296 ∧ m < 4294967296 ∧ s < 4294967296 := by
  have h' : (Kh289Neutral.natural a0 32 && (Kh289Neutral.natural a1 32 && (Kh289Neutral.natural a2 32 && (Kh289Neutral.natural a3 32 && Kh289Neutral.natural a4 32)))) = true := h
  simp only [Bool.and_eq_true] at h'
  obtain ⟨h0, h1, h2, h3, h4⟩ := h'
  obtain ⟨n0, e0, l0⟩ := natural_of h0
  obtain ⟨n1, e1, l1⟩ := natural_of h1
  obtain ⟨n2, e2, l2⟩ := natural_of h2
  obtain ⟨n3, e3, l3⟩ := natural_of h3
  obtain ⟨n4, e4, l4⟩ := natural_of h4
  exact ⟨n0, n1, n2, n3, n4, e0, e1, e2, e3, e4, l0, l1, l2, l3, l4⟩
theorem below_of : ∀ {l : List Int}, Kh289Neutral.below 256 l = true → l = (l.map Int.toNat).map Int.ofNat
  | [], _ => rfl
  | z :: r, h => by
    unfold Kh289Neutral.below at h
    rw [List.all_cons, Bool.and_eq_true, Bool.and_eq_true, decide_eq_true_eq] at h
    have ih := below_of (l := r) h.2
    rw [List.map_cons, List.map_cons, ← ih]
    congr 1
    have := h.1.1
    show z = (z.toNat : Int)
    omega
/-- a frame: its row has just w h greys, or the sizes are none that a holder has -/
theorem asked_frame {a0 a1 a2 : Int} {b : List Int} (h : Kh289Neutral.asked1 [[1, a0, a1, a2], b] = true) : ∃ w h m : Nat, ∃ g : List Nat, a0 = w ∧ a1 = h ∧ a2 = m ∧ b = g.map Int.ofNat ∧
    (1 ≤ w → w ≤ 256 → 1 ≤ h → h ≤ 256 → g.length = w * h) ∧ w < 4294967296 ∧ h < 4294967296 ∧ m < 4294967296 := by
  have h' : ((Kh289Neutral.natural a0 32 && (Kh289Neutral.natural a1 32 && Kh289Neutral.natural a2 32)) && Kh289Neutral.okPic a0 a1 b) = true := h
  simp only [Bool.and_eq_true] at h'
  obtain ⟨⟨h0, h1, h2⟩, h3⟩ := h'
  obtain ⟨n0, rfl, l0⟩ := natural_of h0
  obtain ⟨n1, rfl, l1⟩ := natural_of h1
  obtain ⟨n2, rfl, l2⟩ := natural_of h2
  unfold Kh289Neutral.okPic at h3
  by_cases hc : 1 ≤ (n0 : Int) ∧ (n0 : Int) ≤ 256 ∧ 1 ≤ (n1 : Int) ∧ (n1 : Int) ≤ 256
  · rw [if_pos hc, Bool.and_eq_true, beq_iff_eq] at h3
    refine ⟨n0, n1, n2, b.map Int.toNat, rfl, rfl, rfl, below_of h3.2, fun _ _ _ _ => ?_, l0, l1, l2⟩
    rw [List.length_map]
    exact h3.1
  · rw [if_neg hc] at h3
    have e : b = [] := by
      cases b with
      | nil => rfl
      | cons z r => cases h3
    subst e
    refine ⟨n0, n1, n2, [], rfl, rfl, rfl, rfl, fun c1 c2 c3 c4 => ?_, l0, l1, l2⟩
    exact absurd ⟨by omega, by omega, by omega, by omega⟩ hc
end Hs
set_option Elab.async false
set_option maxRecDepth 100000
set_option maxHeartbeats 4000000
/-! The end of a Spec row where one def of the top makes a lambda: its table of code objects is tracked from the call on, and grows. -/
namespace HsE
open L2 LamX PySem PySem.Spec PyProof.Rows
open PySem.W (WData Codec OpenSpec WellAll ReadsW)

/-- a table of code objects is none of the parts that are written out -/
theorem noTabs_none {K : PySem.W.Frag} {h : Heap} {tb : Addr} {ps : Array Value} (KX : K.In h) (hn : PySem.W.noTabs K = true) (hT : h.get? tb = some { cls := .none, data := .fields ps }) : K.lookup tb = none := by
  cases e : K.lookup tb with
  | none => rfl
  | some o =>
    have e1 := KX tb o e
    rw [hT] at e1
    cases e1
    have e2 := List.all_eq_true.mp hn _ (PySem.W.mem_of_lookupK e)
    exact absurd (show false = true from e2) Bool.false_ne_true

/-- an empty table -/
abbrev emptyT : Obj := { cls := .none, data := .fields #[] }

/-! ### the heap ahead of the call -/
structure Ahead (K : PySem.W.Frag) (mg mb : Str → Option Value) (s : Shared) (c tb : Addr) : Prop where
  parts : K.In s.heap
  names : s.heap.Ns mainGlobals mg
  built : s.heap.Ns builtinsNs mb
  boot : ∀ y : Str, y ≠ "__name__" → mb y = bootBuiltins y
  limit : s.heap.NoLimit
  quiet : s.gens = #[]
  code : PySem.W.CodeHd s.heap c tb
  table : s.heap.get? tb = some emptyT
  apart : K.lookup tb = none
  mod : ∃ (m : Addr) (o : Obj), mg "__builtins__" = some (.ref m) ∧ m ≠ builtinsNs ∧
    s.heap.get? m = some o ∧ o.cls = .type "module" ∧ o.dict = some builtinsNs ∧ o.data = .plain

/-- what is tracked: the table, and the lists and tuples that are handed in -/
structure Track (P : Program) (w : World) (K : PySem.W.Frag) (h : Heap) (H : Hp) (tb : Addr) : Prop where
  ok : HOk P w H h
  tab : H tb = some (.tbl #[])
  none_of : ∀ b o, K.lookup b = some o → H b = none
  rest : ∀ b u, H b = some u → b ≠ tb → ∃ (o : Obj) (v : HO) (its : Array Value) (n : Nat), u = .frz o v ∧ h.get? b = some o ∧ o.data = .seq its n

section
variable {P : Program} {w : World} {K : PySem.W.Frag} {mg mb : Str → Option Value} {H : Hp} {h : Heap} {s : Shared} {c tb : Addr} {A : List Addr}

theorem arg_seq (ar : ∀ a ∈ A, ArgOb h A a) {b : Addr} {u : HO} (q : argH K h A b = some u) :
    K.lookup b = none ∧ ∃ (o : Obj) (v : HO) (its : Array Value) (n : Nat), u = .frz o v ∧ h.get? b = some o ∧ o.data = .seq its n := by
  obtain ⟨l, vs, _, _, z⟩ := argH_is ar q
  refine ⟨l, ?_⟩
  rcases z with z | z
  · exact ⟨_, _, _, _, z.2, z.1, rfl⟩
  · exact ⟨_, _, _, _, z.2, z.1, rfl⟩

theorem arg_free (ar : ∀ a ∈ A, ArgOb h A a) (hT : h.get? tb = some emptyT) : argH K h A tb = none :=
  Option.eq_none_iff_forall_ne_some.mpr fun u q => by
    obtain ⟨_, o, _, _, _, _, e, d⟩ := arg_seq ar q
    rw [hT] at e
    cases e
    cases d

/-- the arguments' heap, and the table beside it -/
theorem track_of (ar : ∀ a ∈ A, ArgOb h A a) (hT : h.get? tb = some emptyT) (nT : K.lookup tb = none) : Track P w K h (upd (argH K h A) tb (.tbl #[])) tb where
  ok := fun b u q => by
    by_cases z : b = tb
    · subst z
      rw [upd_same] at q
      cases q
      exact hT
    · rw [upd_ne z] at q
      have frz : ∀ {d : Addr} {x : HO}, argH K h A d = some x → ∃ o v, x = .frz o v := fun q2 => by
        obtain ⟨_, o, v, _, _, e, _⟩ := arg_seq ar q2
        exact ⟨o, v, e⟩
      refine (argH_ok ar b u q).stay (fun _ _ _ e => e) (fun d e => ?_) fun d xs e => ?_
      · obtain ⟨_, _, e2⟩ := frz e
        cases e2
      · obtain ⟨_, _, e2⟩ := frz e
        cases e2
  tab := upd_same
  none_of := fun b o e => by
    have z : b ≠ tb := fun z => by
      subst z
      cases e.symm.trans nT
    rw [upd_ne z]
    exact Option.eq_none_iff_forall_ne_some.mpr fun u q => by
      cases e.symm.trans (arg_seq ar q).1
  rest := fun b u q z => by
    rw [upd_ne z] at q
    exact (arg_seq ar q).2

/-- an object that is neither a list, nor a tuple, nor an empty table is not tracked -/
theorem Track.free (t : Track P w K h H tb) (hT : h.get? tb = some emptyT) {b : Addr} {o : Obj} (e : h.get? b = some o) (d1 : ∀ its n, o.data ≠ .seq its n) (d2 : o.data ≠ .fields #[]) : H b = none :=
  Option.eq_none_iff_forall_ne_some.mpr fun u q => by
    by_cases z : b = tb
    · subst z
      rw [hT] at e
      cases e
      exact d2 rfl
    · obtain ⟨o', _, its, n, _, e', d⟩ := t.rest b u q z
      rw [e] at e'
      cases e'
      exact d1 _ _ d

/-- what is not tracked lies in the base -/
theorem Track.low (t : Track P w K h H tb) (hT : h.get? tb = some emptyT) {b : Addr} {o : Obj} (e : h.get? b = some o) (d1 : ∀ its n, o.data ≠ .seq its n) (d2 : o.data ≠ .fields #[]) : (hidT h H).get? b = some o :=
  hidT_get e (t.free hT e d1 d2)

theorem Track.space (t : Track P w K h H tb) (hT : h.get? tb = some emptyT) {b : Addr} {m : Str → Option Value} : h.Ns b m → (hidT h H).Ns b m
  | ⟨o, es, ep, e, d, r⟩ => ⟨o, es, ep, t.low hT e (fun its n z => nomatch d.symm.trans z) (fun z => nomatch d.symm.trans z), d, r⟩

theorem Track.parts (t : Track P w K h H tb) (k : K.In h) : K.In (hidT h H) := fun b o e => hidT_get (k b o e) (t.none_of b o e)

theorem Track.env (t : Track P w K s.heap H tb) (a : Ahead K mg mb s c tb) : Env0 P w K mg (hidT s.heap H) callerA [] s H where
  frames := rfl
  mod := by
    obtain ⟨ml, l1, l2⟩ := a.limit
    exact ⟨t.parts a.parts, t.space a.table a.names, ⟨mb, t.space a.table a.built, a.boot⟩, ⟨ml, t.space a.table l1, l2⟩⟩
  bs := fun _ _ e => of_hidT e
  bsz := Nat.le_of_eq (hidT_size _ _)
  funs := trivial
  frf := fun b hb => nomatch (show b ∈ ([] : List Addr) from hb)
  hok := t.ok
  bare := .of_eq a.quiet

theorem Track.tabB (t : Track P w K s.heap H tb) (a : Ahead K mg mb s c tb) : TabB (hidT s.heap H) mg c tb := by
  have names := a.names
  obtain ⟨og, es, ep, eg, dg, _⟩ := names
  refine ⟨?_, ?_, fun z => ?_⟩
  · obtain ⟨o, us, file, tf, flags, tg, inF, text, tt, e1, r1, r2, r3, r⟩ := a.code
    refine ⟨o, us, file, tf, flags, tg, inF, text, tt, t.low a.table e1 (fun its n z => nomatch r2.symm.trans z) (fun z => ?_), r1, r2, r3, r⟩
    have z2 := r2.symm.trans z
    cases z2
    cases r3
  · obtain ⟨m, o, m1, m2, m3, m4, m5, m6⟩ := a.mod
    refine ⟨m, o, m1, m2, fun z => ?_, fun z => ?_, t.low a.table m3 (fun its n z => nomatch m6.symm.trans z) (fun z => nomatch m6.symm.trans z), m4, m5, m6⟩
    · rw [z, eg] at m3
      cases m3
      cases dg.symm.trans m6
    · rw [z, a.table] at m3
      cases m3
      cases m6
  · rw [z, a.table] at eg
    cases eg
    cases dg

/-! ### the heap behind the call -/
variable {H' : Hp} {h' : Heap}
theorem Track.keeps (t : Track P w K h H tb) (un : Un [] [] H H' h h') (ok : HOk P w H' h') {b : Addr} {o : Obj} (z : b ≠ tb) (e : h.get? b = some o) : h'.get? b = some o := by
  cases q : H b with
  | none => exact un.keep b o e q List.not_mem_nil List.not_mem_nil
  | some u =>
    obtain ⟨o', v, its, n, rfl, e', _⟩ := t.rest b u q z
    rw [e] at e'
    cases e'
    exact (ok b _ (un.frzs b _ v q)).1

theorem Track.grown (t : Track P w K h H tb) (un : Un [] [] H H' h h') (ok : HOk P w H' h') : ∃ more : Array Value, h'.get? tb = some { cls := .none, data := .fields (#[] ++ more) } := by
  obtain ⟨more, q⟩ := un.tbls tb #[] t.tab
  exact ⟨more, ok tb _ q⟩

theorem Track.old (t : Track P w K s.heap H tb) (a : Ahead K mg mb s c tb) (un : Un [] [] H H' s.heap h') (ok : HOk P w H' h') : OldK s.heap h' := by
  obtain ⟨more, g⟩ := t.grown un ok
  constructor
  · intro b o e
    by_cases z : b = tb
    · subst z
      rw [a.table] at e
      cases e
      exact .inr (.inl ⟨(a.code.tab a.table).isCodeTable, rfl, #[], more, rfl, g⟩)
    · exact .inl (t.keeps un ok z e)
  · intro b o e
    by_cases z : b = tb
    · subst z
      exact ⟨_, g⟩
    · exact ⟨o, t.keeps un ok z e⟩

theorem Track.parts' (t : Track P w K s.heap H tb) (a : Ahead K mg mb s c tb) (un : Un [] [] H H' s.heap h') (ok : HOk P w H' h') : K.In h' := fun b o e =>
  t.keeps un ok (fun z => nomatch (z ▸ e).symm.trans a.apart) (a.parts b o e)
end

/-! ### the call -/
/-- what a call from outside is to give: a value that reads as d, and the rest as it was -/
def Gives (R : PySem.W.WRecords) (cl : Str → Option Addr) (d : WData) (s : Shared) (r : Result) (s' : Shared) : Prop :=
  ∃ u as, r = .ok (.ret u) ∧ ReadsW R cl s'.heap u d as ∧ OldK s.heap s'.heap ∧ s'.os = s.os ∧ AllBare s'.gens

/-- the def fd keeps sp over any base that has the table -/
def Keeps (P : Program) (w : World) (K : PySem.W.Frag) (mg : Str → Option Value) (c tb : Addr) (k : Nat) (fa : Addr) (fd : FuncData) (ps : List Str) (sp : Sp) : Prop :=
  ∀ base : Heap, K.In base → base.Ns mainGlobals mg → TabB base mg c tb → FnOk P w K mg base CX0 k fa fd ps sp

theorem call_tab {P : Program} {w : World} {K : PySem.W.Frag} {mg mb : Str → Option Value} {k : Nat} {fa c tb : Addr} {fd : FuncData} {ps : List Str} {sp : Sp} {s : Shared}
    {vals : List Value} {ds : List WData} {R : PySem.W.WRecords} {cl : Str → Option Addr} {d : WData} (a : Ahead K mg mb s c tb) (hr : Room k callerA)
    (well : WellAll w.params s.heap vals ds) (plain : plWs ds = true) (light : ∀ x ∈ ds, x.weight ≤ 1048576) (len : ds.length = ps.length)
    (F : Keeps P w K mg c tb k fa fd ps sp) (binds : BindsTo s fd ⟨vals, []⟩ (ps.zip vals))
    (asks : ∀ (H0 H : Hp) (xs : List V), DwAll K H0 xs ds → Same H0 H → H tb = some (.tbl #[]) → sp xs H (fun v H' => Dw K H' v d) fun _ _ _ => False) :
    codeAny (model P w) callerA (.call (.ref fa) ⟨vals, []⟩) (Gives R cl d s) s := by
  obtain ⟨A, mine, ar⟩ := area_all ds vals well plain light
  have t : Track P w K s.heap (upd (argH K s.heap A) tb (.tbl #[])) tb := track_of ar a.table a.apart
  have said := asks _ _ _ (dw_all a.parts ar ds vals well plain mine) (fun b o e => by rw [upd_ne (ne_of_none e (arg_free ar a.table))]; exact e) t.tab
  generalize upd (argH K s.heap A) tb (.tbl #[]) = H at t said
  have ran := (F _ (t.parts a.parts) (t.space a.table a.names) (t.tabB a)).run callerA [] s H ⟨vals, []⟩ vals _ _ _ hr (t.env a) binds (vals_toV mine) said
  refine codeAny_mono ran fun r s' x => ?_
  match r, x with
  | .error e, x => exact x.elim
  | .ok .next, x => exact False.elim x
  | .ok .brk, x => exact False.elim x
  | .ok .cont, x => exact False.elim x
  | .ok (.ret u), x =>
    obtain ⟨v, H', os, bare, un, ok, rel, q⟩ := x
    obtain ⟨as, reads⟩ := Dw.reads (R := R) (cl := cl) ok (t.parts' a un ok) d v u q rel
    exact ⟨u, as, rfl, reads, t.old a un ok, os, bare⟩

/-! ### the row -/
/-- the goal that the head leaves, from the promise of the row's def; nm: the def that makes the lambda -/
theorem walk_tab {r : OpenSpec} {k : Nat} {q : Program} {loose : List Str} {XP : (Str → Option Value) → Heap → Prop} {YP : World → Heap → Prop} {d dt : DefRec} {K : Params → PySem.W.Frag} {ps : List Str} {sp : PySem.W.Frag → Addr → Sp} {nm : Str}
    (said : r.wellSaid = true) (len : r.args.length = ps.length) (room : Room k callerA) (hY : ∀ (w : World) (h : Heap), YP w h → (K w.params).In h) (hnt : ∀ p : Params, PySem.W.noTabs (K p) = true)
    (hdt : (recsOf q).find? (fun e => e.name == nm) = some dt)
    (F : ∀ (w : World) (mg : Str → Option Value) (fa ft c tb : Addr) (ot : Obj) (fdt : FuncData) (h : Heap), YP w h → (K w.params).In h → h.Ns mainGlobals mg → mg d.name = some (.ref fa) → mg nm = some (.ref ft) → h.get? ft = some ot → ot.data = .func fdt → fdt.code = .ref c →
      ∃ fd : FuncData, (∀ (s : Shared) (us : List Value), us.length = ps.length → BindsTo s fd ⟨us, []⟩ (ps.zip us)) ∧ Keeps r.prog w (K w.params) mg c tb k fa fd ps (sp (K w.params) tb))
    (asks : ∀ (K : PySem.W.Frag) (tb : Addr) (H0 H : Hp) (xs : List V) (a : Codec.denoteAll r.args), Codec.withinAll r.args a = true → Codec.app r.args r.asked a = true → DwAll K H0 xs (Codec.encAll r.args a) → Same H0 H → H tb = some (.tbl #[]) →
      sp K tb xs H (fun v H' => Dw K H' v (r.ret.enc (Codec.app r.args r.f a))) fun _ _ _ => False) :
    PySem.W.WalkOS q loose XP YP r d [] fun f vs => PySem.call f vs := by
  intro w s0 s mg mb G Y fa o pm cd doc dV kV _ _ _ _ named quiet args vals as0 pre lay _ well _
  obtain ⟨x, e1, asked⟩ := PySem.W.os_pre_some pre
  obtain ⟨rfl, within⟩ := Codec.encAll_of_decAll r.args args x e1
  obtain ⟨ft, ot, fdt, c, tb, t1, t2, t3, t4, hd, tab⟩ := G.T.tab dt (List.mem_of_find?_eq_some hdt)
  have isNm : dt.name = nm := beq_iff_eq.mp (List.find?_some (p := fun e : DefRec => e.name == nm) hdt)
  rw [isNm] at t1
  have K0 := hY w _ Y
  have a : Ahead (K w.params) mg mb s c tb := { parts := K0, names := G.T.g, built := G.T.b, boot := G.T.builtins, limit := G.T.nolimit, quiet := quiet, code := PySem.W.CodeHd.of hd tab, table := tab.2, apart := noTabs_none K0 (hnt _) tab.2, mod := G.T.bmain }
  obtain ⟨fd, binds, keeps⟩ := F w mg fa ft c tb ot fdt _ Y K0 G.T.g named t1 t2 t3 t4
  have n1 : (Codec.encAll r.args x).length = ps.length := (encAll_len r.args x).trans len
  have n2 : vals.length = ps.length := (wellAll_len well).trans n1
  have ran := call_tab (R := []) (cl := classAt s0.heap) (d := r.ret.enc (Codec.app r.args r.f x)) a room well (pl_encAll _ _) (layable_weight lay) n1 keeps (binds s vals n2) fun H0 H xs => asks (K w.params) tb H0 H xs x within asked
  refine PySem.W.enter_call (codeAny_mono ran ?_)
  rintro _ s' ⟨u, as, rfl, reads, old, os, bare⟩
  refine ⟨.inl ?_, old, os, bare⟩
  exact ⟨u, r.ret.enc (Codec.app r.args r.f x), as, rfl, fun _ => rfl, reads, (OpenSpec.post_iff said within _ _).mpr rfl, Bool.noConfusion⟩
end HsE
set_option Elab.async false
set_option maxRecDepth 100000
set_option maxHeartbeats 4000000
/-! sorted(pairs, key=lambda d: (d[0] * d[0] + d[1] * d[1], d[1], d[0])) over the layer. -/
namespace HsS
open PySem PySem.Spec PyProof.Rows L2 LamX
open PySem.W (KeyPure kla_obj kla_fn)

/-! ### the key, and its order -/
def keyD (d : Int × Int) : PyData := .tuple [.int (d.1 * d.1 + d.2 * d.2), .int d.2, .int d.1]
theorem lt_iii (x y z x' y' z' : Int) : PySem.W.dataLt (.tuple [.int x, .int y, .int z]) (.tuple [.int x', .int y', .int z']) = decide (x < x' ∨ (x = x' ∧ (y < y' ∨ (y = y' ∧ z < z')))) := by
  have e0 : PyProof.Rows.lexLt PyProof.Rows.itemOrd (PySem.W.keyToksAll []) (PySem.W.keyToksAll []) = false := PyProof.Rows.lex_irrefl _
  rw [PySem.W.dataLt_tuple, PySem.W.dataLt_cons (by simp [PySem.W.alike]), PySem.W.dataLt_cons (by simp [PySem.W.alike]), PySem.W.dataLt_cons (by simp [PySem.W.alike]), e0, PySem.W.dataLt_int, PySem.W.dataLt_int, PySem.W.dataLt_int]
  simp only [PyData.eqv, beq_iff_eq]
  by_cases h1 : x = x' <;> by_cases h2 : y = y' <;> by_cases h3 : z = z' <;> simp [h1, h2, h3]
theorem lt_key (d e : Int × Int) : PySem.W.dataLt (keyD d) (keyD e) = true ↔ Hs.klt d e := by
  unfold keyD
  rw [lt_iii, decide_eq_true_eq]
  exact Iff.rfl
theorem klt_trans {a b c : Int × Int} (h1 : ¬ Hs.klt b a) (h2 : ¬ Hs.klt c b) : ¬ Hs.klt c a := by
  unfold Hs.klt at h1 h2 ⊢
  omega
theorem klt_total (a b : Int × Int) : ¬ Hs.klt b a ∨ ¬ Hs.klt a b := by
  unfold Hs.klt
  omega
/-- an item: the address of its tuple, the pair -/
abbrev It2 := Addr × (Int × Int)
theorem le_iff (a b : It2) : PySem.W.dataLe false (fun b : It2 => keyD b.2) a b = true ↔ ¬ Hs.klt b.2 a.2 := by
  rw [PySem.W.dataLe_eq]
  show (!PySem.W.dataLt (keyD b.2) (keyD a.2)) = true ↔ _
  rw [← lt_key]
  simp
theorem sorted_pairs (bs : List It2) : (bs.mergeSort (PySem.W.dataLe false fun b : It2 => keyD b.2)).Perm bs ∧ ((bs.mergeSort (PySem.W.dataLe false fun b : It2 => keyD b.2)).map (·.2)).Pairwise fun d e => ¬ Hs.klt e d := by
  refine ⟨List.mergeSort_perm _ _, ?_⟩
  have h := List.pairwise_mergeSort (le := PySem.W.dataLe false fun b : It2 => keyD b.2) (fun a b c h1 h2 => by
    rw [le_iff] at h1 h2 ⊢
    exact klt_trans h1 h2) (fun a b => by
    rw [Bool.or_eq_true_iff, le_iff, le_iff]
    exact klt_total a.2 b.2) bs
  rw [List.pairwise_map]
  exact h.imp fun {a b} q => (le_iff a b).mp q

/-! ### the lambda's body, over the heap -/
section
variable {prog : Program} {w : World} {A : Around} {E : Value → Shared → Prop} {s : Shared} {env : Env} {m : Str → Option Value} {t : Addr} {x : Str}
theorem lm_item {items : Array Value} {k : Int} {j : Nat} {v : Value} {p1 p2 p3 : Pos} {i : Nat} {Q : Value → Shared → Prop} (hk : env.scope.kind = .function) (hl : env.kindOf x = some .local) (hn : s.heap.Ns env.locals m) (hv : m x = some (.ref t)) (hd : (x == ("__debug__" : Str)) = false)
    (ht : IsTup s.heap t items) (h0 : 0 ≤ k) (h1 : k < 1000) (hj : seqIndex? k items.size = some j) (hx : items[j]? = some v) (h : ∀ tk, Q v { s with toks := tk }) :
    wpAny (model prog w) A (eval (.Subscript (.Name x p1) (.Constant (.int k) i p2) p3) env) Q E s := by
  refine Subscript_ (wpAny_Name (wpAny_loadName_local hk hl hn hv ?_) hd)
  refine wpAny_Constant_int ?_
  exact subscriptTail_builtinR (x := v) (ht.typeIs (s := { s with toks := s.toks + 1 })) slot_tuple_getitem.lookup
    (getItem_tuple (j := j) (Q := fun r s' => r = v ∧ Q r s') (s := { s with toks := s.toks + 1 }) ht (by omega) (by omega) hj hx ⟨rfl, h _⟩) rfl

/-- the key of a pair: the sum of the squares, then the second, then the first -/
theorem lm_body {a b : Int} {ta tb : Tok} {n1 n2 n3 n4 n5 n6 : Nat} {p1 p2 p3 p4 p5 p6 p7 p8 p9 p10 p11 p12 p13 p14 p15 p16 p17 p18 p19 p20 p21 p22 : Pos} {k0 : Nat} {Q : Value → Shared → Prop}
    (hk : env.scope.kind = .function) (hl : env.kindOf x = some .local) (hn : s.heap.Ns env.locals m) (hv : m x = some (.ref t)) (hd : (x == ("__debug__" : Str)) = false)
    (ht : IsTup s.heap t #[.int a ta, .int b tb]) (ha : a.natAbs < 1000) (hb : b.natAbs < 1000)
    (h : ∀ (h' : Heap) (tk : Nat) (v : Value), (∀ c o, s.heap.get? c = some o → h'.get? c = some o) → Reads h' v (keyD (a, b)) [] → Q v { s with heap := h', toks := tk }) :
    wpAny (model prog w) A (eval (.Tuple [.BinOp (.BinOp (.Subscript (.Name x p1) (.Constant (.int 0) n1 p2) p3) .Mult (.Subscript (.Name x p4) (.Constant (.int 0) n2 p5) p6) p7) .Add
      (.BinOp (.Subscript (.Name x p8) (.Constant (.int 1) n3 p9) p10) .Mult (.Subscript (.Name x p11) (.Constant (.int 1) n4 p12) p13) p14) p15,
      .Subscript (.Name x p16) (.Constant (.int 1) n5 p17) p18, .Subscript (.Name x p19) (.Constant (.int 0) n6 p20) p21] k0 p22) env) Q E s := by
  have i0 : ∀ {p1 p2 p3 : Pos} {i : Nat} {tk0 : Nat} {Q : Value → Shared → Prop}, (∀ tk, Q (.int a ta) { s with toks := tk }) → wpAny (model prog w) A (eval (.Subscript (.Name x p1) (.Constant (.int 0) i p2) p3) env) Q E { s with toks := tk0 } :=
    fun {p1 p2 p3 i tk0 Q} q => lm_item (s := { s with toks := tk0 }) (j := 0) hk hl hn hv hd ht (by omega) (by omega) rfl rfl q
  have i1 : ∀ {p1 p2 p3 : Pos} {i : Nat} {tk0 : Nat} {Q : Value → Shared → Prop}, (∀ tk, Q (.int b tb) { s with toks := tk }) → wpAny (model prog w) A (eval (.Subscript (.Name x p1) (.Constant (.int 1) i p2) p3) env) Q E { s with toks := tk0 } :=
    fun {p1 p2 p3 i tk0 Q} q => lm_item (s := { s with toks := tk0 }) (j := 1) hk hl hn hv hd ht (by omega) (by omega) rfl rfl q
  have ma : IntMulOk a a := .of_left (intBits_le_64 (by omega) (by omega))
  have mb : IntMulOk b b := .of_left (intBits_le_64 (by omega) (by omega))
  refine wpAny_Tuple_spliced ?_
  show wpAny _ _ (spliced ((false, eval _ env) :: (false, eval _ env) :: (false, eval _ env) :: [])) _ _ s
  refine Calls.spliced_cons (wpAny_BinOp (wpAny_BinOp (i0 (tk0 := s.toks) fun tk1 => i0 fun tk2 => mul_int ?_ ma)))
  refine wpAny_BinOp (i1 fun tk3 => i1 fun tk4 => mul_int (add_int ?_) mb)
  refine Calls.spliced_cons (i1 fun tk5 => Calls.spliced_cons (i0 fun tk6 => Calls.spliced_nil ⟨by show 3 ≤ sizeLine; decide, ?_⟩))
  refine h _ _ _ (fun c o e => Heap.get?_push_of_some _ e) ?_
  exact .tuple (n := 0) (as := []) (Heap.get?_push_size _ rfl) rfl rfl (.cons (as := []) (bs := []) (.int _ _) (.cons (as := []) (bs := []) (.int _ _) (.cons (as := []) (bs := []) (.int _ _) .nil)))
/-- what a lambda's body over one pair gives -/
def KeyBody (x : Str) (body : Expr) : Prop := ∀ {prog : Program} {w : World} {A : Around} {E : Value → Shared → Prop} {s : Shared} {env : Env} {m : Str → Option Value} {t : Addr} {a b : Int} {ta tb : Tok} {Q : Value → Shared → Prop},
    env.scope.kind = .function → env.kindOf x = some .local → s.heap.Ns env.locals m → m x = some (.ref t) → IsTup s.heap t #[.int a ta, .int b tb] → a.natAbs < 1000 → b.natAbs < 1000 →
    (∀ (h' : Heap) (tk : Nat) (v : Value), (∀ c o, s.heap.get? c = some o → h'.get? c = some o) → Reads h' v (keyD (a, b)) [] → Q v { s with heap := h', toks := tk }) → wpAny (model prog w) A (eval body env) Q E s
/-- a lambda over one name of its own, called -/
structure LamOne (x : Str) (params : Arguments) (body : Expr) (scope : Scope) : Prop where
  key : KeyBody x body
  co : scope.isCoroutine = false
  gen : scope.isGenerator = false
  kind : scope.kind = .function
  loc : scope.names.lookup x = some .local
  own : ∀ y ∈ scope.names, y.2 ≠ .cell ∧ y.2 ≠ .free
  clo : ∀ cells, cloFrom cells scope.names [] = []
  bind : ∀ (q : Str) (pm cv ctv v : Value), bindArgs (kla_fn "<lambda>" q params body scope [] pm cv ctv) ⟨[v], []⟩ = pure [(x, v)]
theorem lm_call {f t c' : Addr} {q : Str} {params : Arguments} {body : Expr} {scope : Scope} {pm ctv : Value} {a b : Int} {ta tb : Tok} (L : LamOne x params body scope)
    (hf : s.heap.get? f = some (kla_obj "<lambda>" q params body scope [] pm c' ctv)) (hcd : s.heap.CodeRec (.ref c') q) (lim : s.heap.NoLimit) (hroom : A.depth < recursionLimit)
    (ht : IsTup s.heap t #[.int a ta, .int b tb]) (ha : a.natAbs < 1000) (hb : b.natAbs < 1000) :
    wpAny (model prog w) A (call (.ref f) [.ref t]) (KeyPure (keyD (a, b)) s) (fun _ _ => False) s := by
  refine wpAny_call (PySem.W.kla_callFunE hroom hf rfl L.co L.gen rfl hcd ?_)
  rw [L.bind]
  refine wpAny_pure (wpAny_newFunctionEnv (fun y hy => (L.own y hy).1) (fun y hy => ?_) (fun h₁ hns hsb => ⟨lim.fresh _ hsb, ?_⟩) L.kind)
  · have e : y = (x, Value.ref t) := by simpa using hy
    rw [e]
    exact L.loc
  · show codeAny _ _ (.expr body (PySem.W.envX q scope s.heap.objs.size f (.ref c') [])) _ _
    have kp : ∀ c o, s.heap.get? c = some o → h₁.get? c = some o := fun c o e => hsb.extBut c o (Nat.ne_of_lt (Heap.lt_size e)) (Heap.get?_push_of_some _ e)
    refine PySem.W.kla_codeExpr (L.key (ta := ta) (tb := tb) (t := t) L.kind L.loc hns ?_ (ht.keeps kp) ha hb fun h' tk v keep rd => ?_)
    · show List.lookup x [(x, Value.ref t)] = some (.ref t)
      rw [List.lookup_cons, beq_self_eq_true]
    · exact ⟨h', tk, rfl, fun c o e => keep c o (kp c o e), rd⟩
end

/-! ### the rule -/
def refs (bs : List It2) : List V := bs.map fun b => V.ref b.1
def PairAt (H : Hp) (b : It2) : Prop := H b.1 = some (.tup [.int b.2.1, .int b.2.2])
def tSortLam (tb : Addr) (q : Str) (te : TE) : TE := fun σ H Q => te σ H fun v H1 => ∃ (l : Addr) (bs : List It2), v = .ref l ∧ H1 l = some (.lst (refs bs)) ∧ (∀ b ∈ bs, PairAt H1 b) ∧ (∀ b ∈ bs, b.2.1.natAbs < 1000 ∧ b.2.2.natAbs < 1000) ∧ bs.length ≤ 1000 ∧ TabS H1 tb q ∧
  ∀ (H2 : Hp) (p : Addr) (bs' : List It2), ExtN H1 H2 → TabS H2 tb q → H2 p = some (.lst (refs bs')) → bs'.Perm bs → ((bs'.map (·.2)).Pairwise fun d e => ¬ Hs.klt e d) → Q (.ref p) H2
theorem refs_vals : ∀ {bs : List It2} {us : List Value}, Vals (refs bs) us → us = bs.map fun b => Value.ref b.1
  | [], _, h => by
    cases h
    rfl
  | b :: bs, _, h => by
    cases h with
    | cons h1 h2 =>
      cases h1
      rw [refs_vals (bs := bs) h2]
      rfl
theorem vals_refs : ∀ bs : List It2, Vals (refs bs) (bs.map fun b => Value.ref b.1)
  | [] => .nil
  | _ :: bs => .cons rfl (vals_refs bs)
open PySem.W in
theorem each_refs {R : Value → It2 → Prop} (h : ∀ b, R (.ref b.1) b) : ∀ bs : List It2, EachIs R (bs.map fun b => Value.ref b.1) bs
  | [] => .nil
  | b :: bs => .cons (h b) (each_refs h bs)
open PySem.W in
theorem refs_each {R : Value → It2 → Prop} (h : ∀ v b, R v b → v = .ref b.1) : ∀ {vs : List Value} {bs : List It2}, EachIs R vs bs → vs = bs.map fun b => Value.ref b.1
  | _, _, .nil => rfl
  | _, _, .cons h1 t => by
    rw [h _ _ h1, refs_each h t]
    rfl
theorem pe_sortLam {X : Cx} {e : Expr} {te : TE} {c tb : Addr} {x : Str} {params : Arguments} {body : Expr} {scope : Scope} {p pos lpos kpos : Pos} (ha : PE X e te) (hg : Gl X "sorted") (hm : X.mg "sorted" = none) (TB : TabB X.base X.mg c tb) (hcode : X.env.code = .ref c) (hr : Room 1 X.A)
    (L : LamOne x params body scope) (hdef : defaultsOf params X.env = ([], [])) (hes : starEach [e] X.env = [(false, eval e X.env)] := by rfl) :
    PE X (.Call (.Name "sorted" p) [e] [⟨some "key", .Lambda params body scope lpos, kpos⟩] pos) (tSortLam tb (X.env.qual ++ "<lambda>") te) := by
  refine ⟨fun pins s σ H Q I h => ?_⟩
  refine wpAny_Call_Name_kw (ld_blt I hg hm (show bootBuiltins "sorted" = some (.builtin "sorted") by decide +kernel) ?_)
  refine PyProof.Rows.callWith_kw ?_ (by rw [hes]; rfl) (by rw [hes]; rfl) rfl rfl
  rw [hes]
  show wpAny _ _ (spliced ((false, eval e X.env) :: [])) _ _ s
  refine Calls.spliced_cons (thn (ha.run pins s σ H _ I h) fun u s1 ⟨v, H1, I1, r1, q1⟩ => Calls.spliced_nil ?_)
  obtain ⟨l, bs, rfl, hl, hP, hbd, hlen, hT, q⟩ := q1
  obtain rfl : u = Value.ref l := r1
  show wpAny _ _ (evalAll ((do let v ← eval (.Lambda params body scope lpos) X.env; standAt pos; pure v) :: [])) _ _ s1
  refine wpAny_evalAll_cons (wpAny_bind (lam_make2 (T := [(tb, X.env.qual ++ "<lambda>")]) I1 TB hcode (by simp) (fun p hp _ => by
    have e : p = (tb, X.env.qual ++ "<lambda>") := by simpa using hp
    rw [e]) (fun p hp => by
    have e : p = (tb, X.env.qual ++ "<lambda>") := by simpa using hp
    rw [e]
    exact hT) hdef (fun y hy e => absurd e (L.own y hy).2) fun f c' pm ctv H2 s2 I2 eN T2 hf hfn hfr hco => wpAny_bind (wpAny_standAt (wpAny_pure (wpAny_evalAll_nil ?_)))))
  rw [L.clo] at hf
  have hT2 : TabS H2 tb (X.env.qual ++ "<lambda>") := T2 _ (List.mem_singleton.mpr rfl)
  have hl2 : H2 l = some (.lst (refs bs)) := eN _ _ hl fun ps z => by cases z
  obtain ⟨its, rv, pl, hz⟩ := I2.list (SqL.of hl2)
  have eits := refs_vals rv
  subst eits
  obtain ⟨⟨oc, vs, tk, hoc, hdc, hvc⟩, _, _⟩ := I2.hok c' _ hco
  have hR : ∀ b ∈ bs, ∃ t1 t2, IsTup s2.heap b.1 #[.int b.2.1 t1, .int b.2.2 t2] := fun b hb => by
    have hb2 : H2 b.1 = some (.tup [.int b.2.1, .int b.2.2]) := eN _ _ (hP b hb) fun ps z => by cases z
    obtain ⟨its, rv, ht, _⟩ := I2.tuple (SqT.of hb2)
    obtain ⟨t1, t2, rfl⟩ := Vals.int2 rv
    exact ⟨t1, t2, ht⟩
  have hin : ∀ b ∈ bs, ∀ (h : Heap) (tk : Nat), (∀ d o, s2.heap.get? d = some o → h.get? d = some o) →
      wpAny (model X.prog X.w) X.A.in1.in1 (call (.ref f) [.ref b.1]) (KeyPure (keyD b.2) { s2 with heap := h, toks := tk }) (fun _ _ => False) { s2 with heap := h, toks := tk } := fun b hb h tk kp => by
    obtain ⟨t1, t2, ht⟩ := hR b hb
    exact lm_call (s := { s2 with heap := h, toks := tk }) (a := b.2.1) (b := b.2.2) L (kp _ _ hf) ⟨c', oc, vs, _, rfl, kp _ _ hoc, hdc, hvc⟩ (I2.nolimit.keeps kp) hr.depth (ht.keeps kp) (hbd b hb).1 (hbd b hb).2
  have hline : bs.length ≤ sizeLine := Nat.le_trans hlen (by decide)
  show wpAny _ _ (call (.builtin "sorted") [.ref l] [(Str.ofString "key", .ref f)]) _ _ s2
  refine PySem.W.sorted_key_data (β := It2) (b := false) (R := fun v b => v = .ref b.1) (fun b => keyD b.2) pl.isList (each_refs (fun _ => rfl) bs) (PySem.W.AllAlike.of fun _ _ => by simp [keyD, PySem.W.alike, PySem.W.alikeAll]) (PySem.W.Sortable.tuples fun _ => ⟨_, _, rfl⟩) hline
    (fun b _ => ?_) (ksk_s1 _ _) (fun _ => ksk_l1 _ _) (fun _ => ksk_t1 _ _) (fun v b hv hb h tk kp => by rw [hv]; exact hin b hb h tk kp) fun out cc h' tk kp _ hD hlo eo => ?_
  · have hd : (keyD b.2).depth = 1 := by simp [keyD, PyData.depth, PyData.depthAll]
    have := hr.units
    omega
  · have eout := refs_each (fun _ _ z => z) eo
    obtain ⟨hperm, hpw⟩ := sorted_pairs bs
    generalize bs.mergeSort (PySem.W.dataLe false fun b : It2 => keyD b.2) = bs' at eout hperm hpw
    subst eout
    have n2 : H2 (s2.heap.objs.size + 1) = none := I2.hok.fresh (Nat.le_succ _)
    have hlen' : (refs bs').length ≤ sizeLine := by
      unfold refs
      rw [List.length_map, hperm.length_eq]
      exact hline
    have I3 := I2.laid (a := s2.heap.objs.size + 1) (o := .lst (refs bs')) (h' := h') (t' := tk) kp (Nat.le_succ _) ⟨hlen', _, cc, vals_refs bs', hD⟩
    exact ⟨.ref (s2.heap.objs.size + 1), _, I3, rfl, q _ _ bs' (fun b o e n => by
      rw [upd_ne (ne_of_none (eN b o e n) n2)]
      exact eN b o e n) (hT2.ext fun b o e => by
      rw [upd_ne (ne_of_none e n2)]
      exact e) upd_same hperm hpw⟩
end HsS
set_option Elab.async false
set_option maxRecDepth 100000
set_option maxHeartbeats 4000000
/-! The walk: the text by places, heaps, what the top has written. -/
namespace HsW
open PySem PySem.Spec PyProof.Rows L2 LamX

def topS (i : Nat) : Stmt := PySem.Challenge.pw_heldstill_s01_answers.main.body.getD i (.Pass ⟨0, 0, 0, 0⟩)

/-! ### heaps -/
theorem same_new {H : Hp} {p : Addr} {o : HO} (h : H p = none) : Same H (upd H p o) := fun b x e => by
  rw [upd_ne (ne_of_none e h)]
  exact e
theorem same_put {H H1 : Hp} {p : Addr} {o : HO} (s : Same H H1) (h : H p = none) : Same H (upd H1 p o) := fun b x e => by
  rw [upd_ne (ne_of_none e h)]
  exact s b x e
theorem same_none {H H1 : Hp} {p : Addr} (s : Same H H1) (h : H1 p = none) : H p = none := s.free h
theorem same_tup {K : PySem.W.Frag} {H H' : Hp} {a : Addr} {xs : List V} (e : Same H H') (h : SqT K H a xs) : SqT K H' a xs := by
  rcases h with (h | ⟨o, h⟩) | h
  · exact .inl (.inl (e _ _ h))
  · exact .inl (.inr ⟨o, e _ _ h⟩)
  · exact .inr h
theorem ext_same {H H' : Hp} (e : Same H H') : ExtN H H' := fun b o h _ => e b o h
theorem ext_seq {K : PySem.W.Frag} {H H' : Hp} {a : Addr} {xs : List V} (e : ExtN H H') (h : SqL K H a xs) : SqL K H' a xs := by
  rcases h with (h | ⟨o, h⟩) | h
  · exact .inl (.inl (e _ _ h fun ps z => by cases z))
  · exact .inl (.inr ⟨o, e _ _ h fun ps z => by cases z⟩)
  · exact .inr h
/-- all but the object at x and the tables stay -/
def Kept (x : Addr) (H H' : Hp) : Prop := ∀ b o, H b = some o → b ≠ x → (∀ ps, o ≠ .tbl ps) → H' b = some o
theorem Kept.refl {x : Addr} (H : Hp) : Kept x H H := fun _ _ h _ _ => h
theorem Kept.trans {x : Addr} {H H1 H2 : Hp} (a : Kept x H H1) (b : Kept x H1 H2) : Kept x H H2 := fun c o h n t => b c o (a c o h n t) n t
theorem Kept.ext {x : Addr} {H H1 H2 : Hp} (a : Kept x H H1) (b : ExtN H1 H2) : Kept x H H2 := fun c o h n t => b c o (a c o h n t) t
theorem Kept.upd {x : Addr} {H H1 : Hp} {o : HO} (a : Kept x H H1) : Kept x H (upd H1 x o) := fun c u h n t => by
  rw [upd_ne n]
  exact a c u h n t
theorem Kept.put {x p : Addr} {H H1 : Hp} {o : HO} (a : Kept x H H1) (hp : H p = none) : Kept x H (L2.upd H1 p o) := fun c u h n t => by
  rw [upd_ne (ne_of_none h hp)]
  exact a c u h n t
theorem kept_seq {K : PySem.W.Frag} {x : Addr} {H H' : Hp} {a C dx : Addr} {fs : List (Str × V)} {xs : List V} (e : Kept x H H') (hx : H x = some (.ins C dx fs)) (h : SqL K H a xs) : SqL K H' a xs := by
  rcases h with (h | ⟨o, h⟩) | h
  · exact .inl (.inl (e _ _ h (ne_of h hx fun z => by cases z) fun ps z => by cases z))
  · exact .inl (.inr ⟨o, e _ _ h (ne_of h hx fun z => by cases z) fun ps z => by cases z⟩)
  · exact .inr h

/-- a plain object: no table, no code -/
def plainO : HO → Prop
  | .tbl _ => False
  | .ext _ => False
  | _ => True
theorem tab_upd {H : Hp} {tb x : Addr} {q : Str} {o : HO} (t : TabS H tb q) (hx : ∀ u, H x = some u → plainO u) : TabS (upd H x o) tb q := by
  obtain ⟨ps, h1, h2, h3⟩ := t
  refine ⟨ps, ?_, h2, fun pos cv hc => ?_⟩
  · rw [upd_ne fun z => (hx (.tbl ps) (by rw [← z]; exact h1) : plainO (.tbl ps))]
    exact h1
  · obtain ⟨c, e1, e2⟩ := h3 pos cv hc
    refine ⟨c, e1, ?_⟩
    rw [upd_ne fun z => (hx _ (by rw [← z]; exact e2) : plainO (CodeO c q))]
    exact e2
theorem tab_new {H : Hp} {tb p : Addr} {q : Str} {o : HO} (t : TabS H tb q) (hp : H p = none) : TabS (upd H p o) tb q := tab_upd t fun u e => by
  rw [hp] at e
  cases e
theorem tab_ins {H : Hp} {tb p C dx : Addr} {q : Str} {o : HO} {fs : List (Str × V)} (t : TabS H tb q) (hp : H p = some (.ins C dx fs)) : TabS (upd H p o) tb q := tab_upd t fun u e => by
  rw [hp] at e
  cases e
  exact trivial
theorem tab_lst {H : Hp} {tb p : Addr} {q : Str} {o : HO} {xs : List V} (t : TabS H tb q) (hp : H p = some (.lst xs)) : TabS (upd H p o) tb q := tab_upd t fun u e => by
  rw [hp] at e
  cases e
  exact trivial

/-! ### lists -/
def vI (l : List Int) : List V := l.map V.int
theorem vI_length (l : List Int) : (vI l).length = l.length := List.length_map _
theorem vI_append (l m : List Int) : vI (l ++ m) = vI l ++ vI m := List.map_append
theorem cut_nat (xs : List V) (m n : Nat) : cutV xs (some (m : Int)) (some (n : Int)) = (xs.drop m).take (n - m) := by
  unfold cutV
  rw [HT.sIx_nat, HT.sIx_nat]
  by_cases h : m ≤ xs.length
  · rw [show min m xs.length = m from Nat.min_eq_left h]
    by_cases h2 : n ≤ xs.length
    · rw [show min n xs.length = n from Nat.min_eq_left h2]
    · rw [show min n xs.length = xs.length from Nat.min_eq_right (by omega), List.take_of_length_le (by rw [List.length_drop]; omega), List.take_of_length_le (by rw [List.length_drop]; omega)]
  · rw [show min m xs.length = xs.length from Nat.min_eq_right (by omega), List.drop_eq_nil_of_le (Nat.le_refl _), List.drop_eq_nil_of_le (show xs.length ≤ m by omega), List.take_nil, List.take_nil]
theorem cut_at {xs : List V} {a b : Int} (m k : Nat) (ha : a = (m : Int)) (hb : b = ((m + k : Nat) : Int)) : cutV xs (some a) (some b) = (xs.drop m).take k := by
  rw [ha, hb, cut_nat, Nat.add_sub_cancel_left]

/-! ### what the top has written -/
structure Txt (K : PySem.W.Frag) (mg : Str → Option Value) (CP CH CD : Addr) : Prop where
  clP : Cls K CP
  pw : NoAttr K CP "w"
  ph : NoAttr K CP "h"
  pr : NoAttr K CP "rows"
  clH : Cls K CH
  hw : NoAttr K CH "w"
  hh : NoAttr K CH "h"
  hr : NoAttr K CH "r"
  hm : NoAttr K CH "m"
  hs : NoAttr K CH "slow"
  hb : NoAttr K CH "before"
  hn : NoAttr K CH "many"
  hx : NoAttr K CH "x"
  hy : NoAttr K CH "y"
  hdx : NoAttr K CH "dx"
  hdy : NoAttr K CH "dy"
  clD : Cls K CD
  dh : NoAttr K CD "holder"
  gP : mg "Picture" = some (.ref CP)
  gH : mg "Holder" = some (.ref CH)
  gD : mg "Hand" = some (.ref CD)
  range : mg "range" = none
  max : mg "max" = none
  min : mg "min" = none
  int : mg "int" = none
  abs : mg "abs" = none
  sum : mg "sum" = none
  zip : mg "zip" = none
  len : mg "len" = none
  sorted : mg "sorted" = none
  reach : ∃ t, mg "MOST_REACH" = some (.int 8 t)
  side : ∃ t, mg "MOST_SIDE" = some (.int 256 t)
  slow : ∃ t, mg "MOST_SLOW" = some (.int 65535 t)
  begin : ∃ t, mg "BEGIN" = some (.int 0 t)
  frame : ∃ t, mg "FRAME" = some (.int 1 t)
  sizes : ∃ a, mg "SIZES" = some (.ref a) ∧ ∀ H, SqT K H a [.int 6, .int 4, .int 1]
end HsW
set_option Elab.async false
set_option maxRecDepth 100000
set_option maxHeartbeats 4000000
/-! Pictures. -/
namespace HsW
open PySem PySem.Spec PyProof.Rows L2 LamX

abbrev sPInit : Stmt := inClass (topS 1) 0
abbrev sPart : Stmt := inClass (topS 1) 1
theorem scPI : FnScope ["self", "w", "h", "greys", "y"] ["self", "w", "h", "greys"] (defScope sPInit) := ⟨rfl, rfl, rfl, by decide +kernel, rfl, by decide +kernel, by decide +kernel⟩
theorem scPart : FnScope ["self", "x", "y", "w", "h", "found", "row"] ["self", "x", "y", "w", "h"] (defScope sPart) := ⟨rfl, rfl, rfl, by decide +kernel, rfl, by decide +kernel, by decide +kernel⟩

/-! ### how a picture lies in the heap -/
def picF (w h : Int) (ra : Addr) : List (Str × V) := [("w", .int w), ("h", .int h), ("rows", .ref ra)]
/-- rows by their addresses -/
abbrev Row2 := Addr × List Int
def rrefs (rb : List Row2) : List V := rb.map fun b => V.ref b.1
/-- a picture at a, its lists apart from t -/
def PicAt (C : Addr) (H : Hp) (t a : Addr) (p : Kh288.Pic) : Prop := ∃ (dx ra : Addr) (rb : List Row2), H a = some (.ins C dx (picF p.w p.h ra)) ∧ H ra = some (.lst (rrefs rb)) ∧ (∀ b ∈ rb, H b.1 = some (.lst (vI b.2))) ∧ rb.map (·.2) = Hs.rowsOf p ∧ ra ≠ t ∧ ∀ b ∈ rb, b.1 ≠ t
theorem PicAt.ext {C t a : Addr} {H H' : Hp} {p : Kh288.Pic} (h : PicAt C H t a p) (e : ExtN H H') : PicAt C H' t a p := by
  obtain ⟨dx, ra, rb, h1, h2, h3, h4, h5, h6⟩ := h
  exact ⟨dx, ra, rb, e _ _ h1 (fun _ z => nomatch z), e _ _ h2 (fun _ z => nomatch z), fun b hb => e _ _ (h3 b hb) (fun _ z => nomatch z), h4, h5, h6⟩
theorem PicAt.kept {C t a x C' dx' : Addr} {fs : List (Str × V)} {H H' : Hp} {p : Kh288.Pic} (h : PicAt C H t a p) (e : Kept x H H') (hx : H x = some (.ins C' dx' fs)) (hl : fs.length ≠ 3) : PicAt C H' t a p := by
  obtain ⟨dx, ra, rb, h1, h2, h3, h4, h5, h6⟩ := h
  refine ⟨dx, ra, rb, e _ _ h1 (ne_of h1 hx fun z => ?_) (fun _ z => nomatch z), e _ _ h2 (ne_of h2 hx fun z => nomatch z) (fun _ z => nomatch z), fun b hb => e _ _ (h3 b hb) (ne_of (h3 b hb) hx fun z => nomatch z) (fun _ z => nomatch z), h4, h5, h6⟩
  injection z with _ _ z3
  rw [← z3] at hl
  exact hl rfl

/-- a comprehension without a test -/
theorem lc_yes {σ : L2.St} {H : Hp} {A B : Hp → Prop} (h : A H) : tYes σ H fun b H3 => if b = true then A H3 else B H3 := by
  show (if true = true then A H else B H)
  rw [if_pos rfl]
  exact h
/-! ### Picture.__init__ -/
def rMul : R2 := rI CMul fun i j => .int (i * j)
def rPlus : R2 := rI0 fun i j => .int (i + j)
def spPicInit (K : PySem.W.Frag) (C : Addr) : Sp := fun vs H Q _ => ∃ (p dx g : Addr) (pic : Kh288.Pic), vs = [.ref p, .int pic.w, .int pic.h, .ref g] ∧ H p = some (.ins C dx []) ∧ SqL K H g (vI (pic.b.map Int.ofNat)) ∧ pic.w ≤ 256 ∧ pic.h ≤ 256 ∧
  ∀ H' : Hp, (∀ b o, H b = some o → b ≠ p → H' b = some o) → (∀ t, t ≠ p → (∃ o, H t = some o) → PicAt C H' t p pic) → Q .non H'
section
variable {P : Program} {w : World} {K : PySem.W.Frag} {mg : Str → Option Value} {base : Heap} {CP CH CD : Addr}
theorem picF_new (w h : Int) (ra : Addr) : putF "rows" (.ref ra) (putF "h" (.int h) (putF "w" (.int w) [])) = picF w h ra := by
  rfl
theorem row_of {p : Kh288.Pic} {i : Nat} (hi : i < p.h) : (Hs.rowsOf p)[i]? = some (((p.b.map Int.ofNat).drop (p.w * i)).take p.w) := by
  unfold Hs.rowsOf
  rw [List.getElem?_map, List.getElem?_range hi, Option.map_some, List.map_take, List.map_drop]
theorem ok_picInit {f : Addr} {fd : FuncData} (F : Fun K "__init__" "Picture.__init__" sPInit f fd) (T : Txt K mg CP CH CD) : FnOk P w K mg base CX0 1 f fd ["self", "w", "h", "greys"] (spPicInit K CP) := by
  refine F.ok scPI (fun vs H Q E h => ?_) (fun cdv A outer s H vs Q E hr h => ?_)
  · obtain ⟨p, dx, g, pic, rfl, _⟩ := h
    rfl
  · obtain ⟨p, dx, g, pic, rfl, hp, hg, hw, hh, k⟩ := h
    refine ⟨_, pss_cons (ps_fld (pv 0) (pv 1) rfl) (pss_cons (ps_fld (pv 0) (pv 2) rfl) (pss_one (ps_fld (pv 0)
      (pe_lc (own := [("y", 4)]) (g := gName 4) (te := tSl (rSlL K) (tVar 3) (tPart (tOp rMul (tVar 1) (tVar 4))) (tPart (tOp rPlus (tOp rMul (tVar 1) (tVar 4)) (tVar 1)))) rfl scPI.nd (pi_range1 (by rfl) T.range (pa_cons (pv 2) pa_nil)) (blkOk_by (N := ["self", "w", "h", "greys", "y"]) (sc := defScope sPInit) (by decide +kernel))
        (fun _ _ _ _ _ => pg_name (i := 4) scPI.nd rfl (Or.inl rfl)) (fun _ _ _ _ _ => pts_nil)
        (fun _ _ _ _ _ => pe_slice sl_list (pv 3) (po_some (pe_op op_mul (pv 1) (pv 4))) (po_some (pe_op op_add (pe_op op_mul (pv 1) (pv 4)) (pv 1))))) rfl))), ?_⟩
    -- the sizes
    refine ⟨_, rfl, _, rfl, p, CP, dx, [], rfl, hp, T.clP, T.pw, (by show 0 < 1000; decide), ?_⟩
    refine ⟨_, rfl, _, rfl, p, CP, dx, _, rfl, upd_same, T.clP, T.ph, (by show 1 < 1000; decide), ?_⟩
    rw [upd_upd]
    generalize eH2 : upd H p (.ins CP dx (putF "h" (.int pic.h) (putF "w" (.int pic.w) []))) = H2
    have kH2 : ∀ b o, H b = some o → b ≠ p → H2 b = some o := fun b o e n => by
      rw [← eH2, upd_ne n]
      exact e
    have gH2 : H2 p = some (.ins CP dx (putF "h" (.int pic.h) (putF "w" (.int pic.w) []))) := by
      rw [← eH2, upd_same]
    have hg2 : SqL K H2 g (vI (pic.b.map Int.ofNat)) := by
      rcases hg with (q | ⟨o, q⟩) | q
      · exact .inl (.inl (kH2 _ _ q (ne_of q hp fun z => by cases z)))
      · exact .inl (.inr ⟨o, kH2 _ _ q (ne_of q hp fun z => by cases z)⟩)
      · exact .inr q
    have fresh : ∀ c, H2 c = none → ∀ t, (∃ o, H t = some o) → t ≠ p → c ≠ t := fun c n t ⟨o, e⟩ np z => by
      subst z
      rw [kH2 _ _ e np] at n
      cases n
    -- the rows
    refine ⟨_, rfl, (pic.h : Int), rfl, by omega, by omega, fun D hD => ?_⟩
    refine lc_range (lo := 0) (n := (pic.h : Int).toNat) (fun i Hc => ∃ rb : List Row2, Hc D = some (.lst (rrefs rb)) ∧ (∀ b ∈ rb, Hc b.1 = some (.lst (vI b.2)) ∧ H2 b.1 = none ∧ b.1 ≠ D) ∧ rb.map (·.2) = (Hs.rowsOf pic).take i ∧ ∀ b o, H2 b = some o → Hc b = some o)
      ⟨[], upd_same, fun b hb => absurd hb (by simp), rfl, fun b o e => by
        rw [upd_ne (ne_of_none e hD)]
        exact e⟩ ?_ ?_
    · rintro i Hc hi ⟨rb, eD, hrb, erb, kc⟩
      rw [Int.toNat_natCast] at hi
      refine ⟨rfl, lc_yes ?_⟩
      have hgc : SqL K Hc g (vI (pic.b.map Int.ofNat)) := Same.seq kc hg2
      refine ⟨_, rfl, ⟨_, rfl, _, rfl, (pic.w : Int), (0 : Int) + (i : Int), rfl, rfl, .inl ⟨by omega, by omega⟩, _, rfl, ?_⟩⟩
      refine ⟨_, rfl, _, rfl, (pic.w : Int), (0 : Int) + (i : Int), rfl, rfl, .inl ⟨by omega, by omega⟩, _, rfl, _, _, rfl, rfl, _, rfl, ?_⟩
      refine ⟨g, _, rfl, hgc, fun c nc => ?_⟩
      have ncD : D ≠ c := fun z => by
        rw [← z, eD] at nc
        cases nc
      have nc2 : H2 c = none := by
        cases q : H2 c with
        | none => rfl
        | some o =>
          rw [kc _ _ q] at nc
          cases nc
      refine ⟨rrefs rb, by rw [upd_ne ncD]; exact eD, ?_, ?_⟩
      · have h1 : rb.length = ((Hs.rowsOf pic).take i).length := by rw [← erb, List.length_map]
        rw [List.length_take, Hs.rowsOf_length] at h1
        show (rb.map fun b => V.ref b.1).length < sizeLine
        rw [List.length_map]
        exact small1000 (by omega)
      · have ecut : cutV (vI (pic.b.map Int.ofNat)) (some ((pic.w : Int) * ((0 : Int) + (i : Int)))) (some ((pic.w : Int) * ((0 : Int) + (i : Int)) + (pic.w : Int))) = vI (((pic.b.map Int.ofNat).drop (pic.w * i)).take pic.w) := by
          rw [cut_at (pic.w * i) pic.w (by rw [Int.zero_add, Int.natCast_mul]) (by rw [Int.zero_add, Int.natCast_add, Int.natCast_mul])]
          unfold vI
          rw [List.map_take, List.map_drop]
        refine ⟨rb ++ [(c, ((pic.b.map Int.ofNat).drop (pic.w * i)).take pic.w)], ?_, fun b hb => ?_, ?_, fun b o e => ?_⟩
        · rw [upd_same]
          unfold rrefs
          rw [List.map_append]
          rfl
        · rcases List.mem_append.mp hb with hb | hb
          · obtain ⟨q1, q2, q3⟩ := hrb b hb
            refine ⟨?_, q2, q3⟩
            rw [upd_ne q3, upd_ne (ne_of_none q1 nc)]
            exact q1
          · have e : b = (c, ((pic.b.map Int.ofNat).drop (pic.w * i)).take pic.w) := by simpa using hb
            subst e
            refine ⟨?_, nc2, ncD.symm⟩
            show upd _ D _ c = _
            rw [upd_ne ncD.symm, upd_same, ecut]
        · rw [List.map_append, erb, List.take_add_one, row_of hi]
          rfl
        · rw [upd_ne (ne_of_none e hD), upd_ne (ne_of_none e nc2)]
          exact kc _ _ e
    · rintro Hc ⟨rb, eD, hrb, erb, kc⟩
      refine ⟨_, rfl, p, CP, dx, _, rfl, kc _ _ gH2, T.clP, T.pr, (by show 2 < 1000; decide), ?_⟩
      refine k _ (fun b o e n => ?_) fun t nt ht => ?_
      · rw [upd_ne n]
        exact kc _ _ (kH2 _ _ e n)
      · have nDp : D ≠ p := fun z => by
          rw [z, gH2] at hD
          cases hD
        refine ⟨dx, D, rb, ?_, ?_, fun b hb => ?_, ?_, fresh D hD t ht nt, fun b hb => fresh b.1 (hrb b hb).2.1 t ht nt⟩
        · rw [upd_same, picF_new]
        · rw [upd_ne nDp]
          exact eD
        · have nb : b.1 ≠ p := fun z => by
            have := (hrb b hb).2.1
            rw [z, gH2] at this
            cases this
          rw [upd_ne nb]
          exact (hrb b hb).1
        · rw [erb, Int.toNat_natCast, List.take_of_length_le (by rw [Hs.rowsOf_length]; exact Nat.le_refl _)]

/-! ### Picture.part -/
def spPart (C : Addr) : Sp := fun vs H Q _ => ∃ (t a : Addr) (pic : Kh288.Pic) (x y w h : Nat), vs = [.ref a, .int x, .int y, .int w, .int h] ∧ PicAt C H t a pic ∧ pic.w ≤ 256 ∧ pic.h ≤ 256 ∧
  ∀ (H' : Hp) (r : Addr), Same H H' → H r = none → H' r = some (.lst (vI (Hs.part (Hs.rowsOf pic) x y w h))) → Q (.ref r) H'
theorem flat_le {l : List (List Int)} {x w : Nat} : (∀ r ∈ l, r.length ≤ 256) → (l.flatMap fun row => (row.drop x).take w).length ≤ 256 * l.length := by
  induction l with
  | nil => intro _; exact Nat.zero_le _
  | cons a r ih =>
    intro h
    rw [List.flatMap_cons, List.length_append, List.length_cons, Nat.mul_succ]
    have h1 : ((a.drop x).take w).length ≤ 256 := by
      rw [List.length_take, List.length_drop]
      have := h a List.mem_cons_self
      omega
    have := ih fun q hq => h q (List.mem_cons_of_mem _ hq)
    omega
theorem picF_w (w h : Int) (ra : Addr) : (picF w h ra).lookup ("w" : Str) = some (.int w) := by
  unfold picF
  rfl
theorem picF_h (w h : Int) (ra : Addr) : (picF w h ra).lookup ("h" : Str) = some (.int h) := by
  unfold picF
  rfl
theorem picF_rows (w h : Int) (ra : Addr) : (picF w h ra).lookup ("rows" : Str) = some (.ref ra) := by
  unfold picF
  rfl
theorem picF_part (w h : Int) (ra : Addr) : (picF w h ra).lookup ("part" : Str) = none := by
  unfold picF
  rfl
theorem ok_part {f : Addr} {fd : FuncData} (F : Fun K "part" "Picture.part" sPart f fd) (T : Txt K mg CP CH CD) : FnOk P w K mg base CX0 1 f fd ["self", "x", "y", "w", "h"] (spPart CP) := by
  refine F.ok scPart (fun vs H Q E h => ?_) (fun cdv A outer s H vs Q E hr h => ?_)
  · obtain ⟨t, a, pic, x, y, w, h, rfl, _⟩ := h
    rfl
  · obtain ⟨t, a, pic, x, y, w', h', rfl, ⟨dx, ra, rb, ha, hra, hrb, erb, _, _⟩, hw, hh, k⟩ := h
    refine ⟨_, pss_cons (ps_set (i := 5) scPart.nd rfl (.inl rfl) (pe_lst pa_nil))
      (pss_cons (ps_for PassesOwn.never rfl (pi_list (pe_slice sl_list (pe_fld (pv 0) rfl) (po_some (pv 2)) (po_some (pe_op op_add (pv 2) (pv 4))))) (pg_name (i := 6) scPart.nd rfl (.inl rfl))
        (pss_one (ps_expr (pe_bm PySem.F.plainAttrs_list PySem.F.slot_list_extend PySem.F.type_list_extend mt_extend (pv 5) (pa_cons (pe_slice sl_list (pv 6) (po_some (pv 1)) (po_some (pe_op op_add (pv 1) (pv 3)))) pa_nil)))))
      (pss_one (ps_ret (pv 5)))), ?_⟩
    -- the list to fill
    refine ⟨Nat.zero_le _, fun fo nfo => ?_⟩
    have s1 : Same H (upd H fo (.lst [])) := same_new nfo
    -- the rows that are cut out
    refine ⟨_, rfl, a, CP, dx, _, _, rfl, s1 _ _ ha, T.clP, T.pr, picF_rows _ _ _, ⟨_, rfl, _, rfl, ⟨_, rfl, _, rfl, _, _, rfl, rfl, _, rfl, ?_⟩⟩⟩
    refine ⟨ra, _, rfl, SqL.of (s1 _ _ hra), fun c nc => ?_⟩
    have nfc : fo ≠ c := fun z => by
      rw [← z, upd_same] at nc
      cases nc
    have s2 : Same H (upd (upd H fo (.lst [])) c (.lst (cutV (rrefs rb) (some (y : Int)) (some ((y : Int) + (h' : Int)))))) := same_put s1 (same_none s1 nc)
    generalize erb' : (rb.drop y).take h' = rb'
    have ecut : cutV (rrefs rb) (some (y : Int)) (some ((y : Int) + (h' : Int))) = rrefs rb' := by
      rw [cut_at y h' rfl (by rw [Int.natCast_add]), ← erb']
      unfold rrefs
      rw [List.map_take, List.map_drop]
    rw [ecut] at s2 ⊢
    have hmem : ∀ b ∈ rb', b ∈ rb := fun b hb => by
      rw [← erb'] at hb
      exact List.mem_of_mem_drop (List.mem_of_mem_take hb)
    have erows : rb'.map (·.2) = ((Hs.rowsOf pic).drop y).take h' := by rw [← erb', List.map_take, List.map_drop, erb]
    have hrow : ∀ r ∈ rb'.map (·.2), r.length ≤ 256 := fun r hr => by
      rw [erows] at hr
      have := Hs.rowsOf_row (List.mem_of_mem_drop (List.mem_of_mem_take hr))
      omega
    have hlen : rb'.length ≤ 256 := by
      have e := congrArg List.length erows
      rw [List.length_map, List.length_take, List.length_drop, Hs.rowsOf_length] at e
      omega
    refine ⟨c, rfl, ⟨_, SqL.of upd_same⟩, for_list (K := K) (a := c) (xs := rrefs rb')
      (fun i σ H' => ∃ v6, σ = [some (.ref a), some (.int x), some (.int y), some (.int w'), some (.int h'), some (.ref fo), v6] ∧ Same H H' ∧ H' c = some (.lst (rrefs rb')) ∧ H' fo = some (.lst (vI (((rb'.map (·.2)).take i).flatMap fun row => (row.drop x).take w'))))
      ⟨none, rfl, s2, upd_same, by rw [upd_ne nfc, upd_same]; rfl⟩ (fun i σ H' _ ⟨_, _, _, e, _⟩ => SqL.of e) ?_ ?_⟩
    · rintro i y6 σ H' hi ⟨v6, rfl, s5, ec, ef⟩
      obtain ⟨b, hb, rfl⟩ : ∃ b, rb'[i]? = some b ∧ y6 = V.ref b.1 := by
        unfold rrefs at hi
        rw [List.getElem?_map] at hi
        cases e : rb'[i]? with
        | none =>
          rw [e] at hi
          cases hi
        | some b =>
          rw [e] at hi
          exact ⟨b, rfl, (Option.some.inj hi).symm⟩
      have hbm : b ∈ rb' := List.mem_of_getElem? hb
      have hil : i < rb'.length := (List.getElem?_eq_some_iff.mp hb).1
      have eb : H' b.1 = some (.lst (vI b.2)) := s5 _ _ (hrb b (hmem b hbm))
      refine ⟨_, rfl, .inl ⟨rfl, _, SqL.of ef⟩, ⟨_, rfl, ⟨_, rfl, _, rfl, ⟨_, rfl, _, rfl, _, _, rfl, rfl, _, rfl, ?_⟩⟩⟩⟩
      refine ⟨b.1, _, rfl, SqL.of eb, fun d nd => ?_⟩
      have nfd : fo ≠ d := fun z => by
        rw [← z, ef] at nd
        cases nd
      have ncd : c ≠ d := fun z => by
        rw [← z, ec] at nd
        cases nd
      have ecut2 : cutV (vI b.2) (some (x : Int)) (some ((x : Int) + (w' : Int))) = vI ((b.2.drop x).take w') := by
        rw [cut_at x w' rfl (by rw [Int.natCast_add])]
        unfold vI
        rw [List.map_take, List.map_drop]
      rw [ecut2]
      have hrb2 : b.2.length ≤ 256 := hrow _ (List.mem_map.mpr ⟨b, hbm, rfl⟩)
      refine ⟨fo, d, _, _, rfl, rfl, by rw [upd_ne nfd]; exact ef, upd_same, ?_, ?_⟩
      · rw [vI_length, vI_length, List.length_take, List.length_drop]
        have h1 := flat_le (l := (rb'.map (·.2)).take i) (x := x) (w := w') fun r hr => hrow r (List.mem_of_mem_take hr)
        rw [List.length_take, List.length_map] at h1
        have h2 : 256 * min i rb'.length ≤ 256 * 256 := Nat.mul_le_mul_left _ (by omega)
        rw [sizeLine_eq]
        omega
      · refine ⟨some (.ref b.1), rfl, ?_, ?_, ?_⟩
        · exact same_put (same_put s5 (same_none s5 nd)) nfo
        · rw [upd_ne nfc.symm, upd_ne ncd]
          exact ec
        · rw [upd_same, ← vI_append, List.take_add_one, List.getElem?_map, hb, List.flatMap_append]
          congr 3
          show _ ++ _ = _ ++ List.flatMap _ [b.2]
          simp
    · rintro σ H' ⟨v6, rfl, s5, _, ef⟩
      refine ⟨_, rfl, k H' fo s5 nfo ?_⟩
      rw [ef]
      unfold rrefs Hs.part
      rw [List.length_map, ← erows, List.take_of_length_le (by rw [List.length_map]; exact Nat.le_refl _)]
end
end HsW
set_option Elab.async false
set_option maxRecDepth 100000
set_option maxHeartbeats 4000000
/-! Shifts. -/
namespace HsW
open PySem PySem.Spec PyProof.Rows L2 LamX HsS

abbrev sRight : Stmt := topS 5
abbrev sAll : Stmt := topS 6
abbrev sPairs : Stmt := topS 7
abbrev sMiddle : Stmt := topS 8
abbrev sCost : Stmt := topS 9
abbrev sFound : Stmt := topS 10
theorem scRight : FnScope ["w", "h", "r"] ["w", "h", "r"] (defScope sRight) := ⟨rfl, rfl, rfl, by decide +kernel, rfl, by decide +kernel, by decide +kernel⟩
theorem scAll : FnScope ["r", "some", "dx", "dy"] ["r"] (defScope sAll) := ⟨rfl, rfl, rfl, by decide +kernel, rfl, by decide +kernel, by decide +kernel⟩
theorem scPairs : FnScope ["r", "found", "one", "other"] ["r"] (defScope sPairs) := ⟨rfl, rfl, rfl, by decide +kernel, rfl, by decide +kernel, by decide +kernel⟩
theorem scMiddle : FnScope ["picture", "r"] ["picture", "r"] (defScope sMiddle) := ⟨rfl, rfl, rfl, by decide +kernel, rfl, by decide +kernel, by decide +kernel⟩
theorem scCost : FnScope ["greys", "picture", "r", "shift", "others", "one", "other"] ["greys", "picture", "r", "shift"] (defScope sCost) := ⟨rfl, rfl, rfl, by decide +kernel, rfl, by decide +kernel, by decide +kernel⟩
theorem scFound : FnScope ["before", "after", "r", "greys", "best", "least", "shift", "here"] ["before", "after", "r"] (defScope sFound) := ⟨rfl, rfl, rfl, by decide +kernel, rfl, by decide +kernel, by decide +kernel⟩

/-- how the lambda is called -/
def qL : Str := ("all_shifts" ++ ".<locals>." : Str) ++ "<lambda>"

def rMinus : R2 := rI0 fun i j => .int (i - j)
def rAbs : List V → Hp → VK → Prop := fun xs H Q => ∃ i, xs = [.int i] ∧ Q (.int (if i < 0 then -i else i)) H
section
variable {P : Program} {w : World} {K : PySem.W.Frag} {mg : Str → Option Value} {base : Heap} {CP CH CD : Addr}

/-! ### are_right -/
def spRight : Sp := fun vs H Q _ => ∃ (w h r : Nat), vs = [.int w, .int h, .int r] ∧ Q (.bl (Kh288.okSize w h r)) H
theorem okSize_iff {w h r : Nat} : Kh288.okSize w h r = true ↔ r ≤ 8 ∧ 2 * r + 1 ≤ w ∧ w ≤ 256 ∧ 2 * r + 1 ≤ h ∧ h ≤ 256 := by
  unfold Kh288.okSize
  simp only [Bool.and_eq_true, decide_eq_true_eq]
theorem ok_right {f : Addr} {fd : FuncData} (F : Fun K "are_right" "are_right" sRight f fd) (T : Txt K mg CP CH CD) : FnOk P w K mg base CX0 1 f fd ["w", "h", "r"] spRight := by
  refine F.ok scRight (fun vs H Q E h => ?_) (fun cdv A outer s H vs Q E hr h => ?_)
  · obtain ⟨w, h, r, rfl, _⟩ := h
    rfl
  · obtain ⟨w', h', r', rfl, k⟩ := h
    obtain ⟨t1, g1⟩ := T.reach
    obtain ⟨t2, g2⟩ := T.side
    refine ⟨_, pss_cons (ps_if (PW.pt (pw_or (pt_cmpR op_gt (pv 2) (pe_glob (by rfl) g1 (v := .int 8) ⟨_, rfl⟩) (nomark _))
        (pw_or1 (pt_cmpR op_gt (pe_callB (call_max2 rfl) (by rfl) T.max (by decide +kernel) (pa_cons (pv 0) (pa_cons (pv 1) pa_nil))) (pe_glob (by rfl) g2 (v := .int 256) ⟨_, rfl⟩) (nomark _)))))
        (pss_one (ps_ret pe_bl)) pss_nil)
      (pss_one (ps_ret (pe_cmpR op_ge (pe_callB (call_min2 rfl) (by rfl) T.min (by decide +kernel) (pa_cons (pv 0) (pa_cons (pv 1) pa_nil))) (pe_op op_add (pe_op op_mul pe_int (pv 2)) pe_int) (nomark _)))), ?_⟩
    by_cases c1 : (8 : Int) < (r' : Int)
    · refine st_yes (ans_or1 (Ans.to (b := decide ((8 : Int) < (r' : Int))) (fun Q q => ⟨_, rfl, _, _, rfl, rfl, _, rfl, q⟩) (decide_eq_true c1))) ?_
      have e : Kh288.okSize w' h' r' = false := by
        rw [Bool.eq_false_iff, ne_eq, okSize_iff]
        omega
      rw [e] at k
      exact k
    · have a1 := decide_eq_false c1
      by_cases c2 : (256 : Int) < (if (h' : Int) > (w' : Int) then (h' : Int) else (w' : Int))
      · refine st_yes (ans_or (Ans.to (b := decide ((8 : Int) < (r' : Int))) (fun Q q => ⟨_, rfl, _, _, rfl, rfl, _, rfl, q⟩) a1) (Ans.to (b := decide ((256 : Int) < (if (h' : Int) > (w' : Int) then (h' : Int) else (w' : Int)))) (fun Q q => ⟨_, rfl, _, rfl, _, _, rfl, _, _, rfl, rfl, _, rfl, q⟩) (decide_eq_true c2))) ?_
        have e : Kh288.okSize w' h' r' = false := by
          rw [Bool.eq_false_iff, ne_eq, okSize_iff]
          split at c2 <;> omega
        rw [e] at k
        exact k
      · refine st_no (ans_or (Ans.to (b := decide ((8 : Int) < (r' : Int))) (fun Q q => ⟨_, rfl, _, _, rfl, rfl, _, rfl, q⟩) a1) (Ans.to (b := decide ((256 : Int) < (if (h' : Int) > (w' : Int) then (h' : Int) else (w' : Int)))) (fun Q q => ⟨_, rfl, _, rfl, _, _, rfl, _, _, rfl, rfl, _, rfl, q⟩) (decide_eq_false c2))) ?_
        refine ⟨_, rfl, _, rfl, _, _, rfl, _, rfl, 2, _, rfl, rfl, .inl ⟨by decide, by decide⟩, _, _, rfl, rfl, _, _, rfl, rfl, ?_⟩
        have e : Kh288.okSize w' h' r' = decide ((2 : Int) * (r' : Int) + 1 ≤ (if (h' : Int) < (w' : Int) then (h' : Int) else (w' : Int))) := by
          rw [Bool.eq_iff_iff, okSize_iff, decide_eq_true_eq]
          split at c2 <;> split <;> omega
        rw [e] at k
        exact k

/-! ### pairs_to -/
def spPairs : Sp := fun vs H Q _ => ∃ (r : Nat), vs = [.int r] ∧ r ≤ 8 ∧ ∀ (H' : Hp) (p : Addr) (bs : List It2), Same H H' → H p = none → H' p = some (.lst (refs bs)) → (∀ b ∈ bs, PairAt H' b) → bs.map (·.2) = Hs.pairs r → Q (.ref p) H'
/-- the pairs behind i turns of the outer loop -/
def pre (r i : Nat) : List (Int × Int) := (List.range i).flatMap fun (i : Nat) => (List.range (2 * r + 1)).map fun (j : Nat) => (-(r : Int) + (i : Int), -(r : Int) + (j : Int))
def preJ (r i j : Nat) : List (Int × Int) := pre r i ++ (List.range j).map fun (j : Nat) => (-(r : Int) + (i : Int), -(r : Int) + (j : Int))
theorem pre_succ (r i : Nat) : preJ r i (2 * r + 1) = pre r (i + 1) := by
  unfold preJ pre
  rw [List.range_succ (n := i), List.flatMap_append]
  simp
theorem preJ_zero (r i : Nat) : preJ r i 0 = pre r i := by
  unfold preJ
  simp
theorem preJ_succ (r i j : Nat) : preJ r i (j + 1) = preJ r i j ++ [(-(r : Int) + (i : Int), -(r : Int) + (j : Int))] := by
  unfold preJ
  rw [List.range_succ, List.map_append, List.append_assoc]
  rfl
theorem pre_length (r i : Nat) : (pre r i).length = (2 * r + 1) * i := by
  induction i with
  | zero => rfl
  | succ i ih =>
    rw [← pre_succ]
    unfold preJ
    rw [List.length_append, ih, List.length_map, List.length_range, Nat.mul_succ]
theorem ok_pairs {f : Addr} {fd : FuncData} (F : Fun K "pairs_to" "pairs_to" sPairs f fd) (T : Txt K mg CP CH CD) : FnOk P w K mg base CX0 1 f fd ["r"] spPairs := by
  refine F.ok scPairs (fun vs H Q E h => ?_) (fun cdv A outer s H vs Q E hr h => ?_)
  · obtain ⟨r, rfl, _⟩ := h
    rfl
  · obtain ⟨r, rfl, hr8, k⟩ := h
    refine ⟨_, pss_cons (ps_set (i := 1) scPairs.nd rfl (.inl rfl) (pe_lst pa_nil))
      (pss_cons (ps_for PassesOwn.never rfl (pi_range2 (by rfl) T.range (pa_cons (pe_un un_neg (pv 0)) (pa_cons (pe_op op_add (pv 0) pe_int) pa_nil))) (pg_name (i := 2) scPairs.nd rfl (.inl rfl))
        (pss_one (ps_for PassesOwn.never rfl (pi_range2 (by rfl) T.range (pa_cons (pe_un un_neg (pv 0)) (pa_cons (pe_op op_add (pv 0) pe_int) pa_nil))) (pg_name (i := 3) scPairs.nd rfl (.inl rfl))
          (pss_one (ps_expr (pe_bm PySem.F.plainAttrs_list PySem.F.slot_list_append PySem.F.type_list_append mt_append (pv 1) (pa_cons (pe_tup (pa_cons (pv 2) (pa_cons (pv 3) pa_nil))) pa_nil)))))))
      (pss_one (ps_ret (pv 1)))), ?_⟩
    refine ⟨Nat.zero_le _, fun fo nfo => ?_⟩
    have en : ((r : Int) + 1 - -(r : Int)).toNat = 2 * r + 1 := by omega
    refine ⟨_, rfl, _, rfl, _, rfl, _, _, rfl, rfl, -(r : Int), (r : Int) + 1, rfl, ⟨by omega, by omega, by omega, by omega⟩, ?_⟩
    refine for_range (lo := -(r : Int)) (n := ((r : Int) + 1 - -(r : Int)).toNat) (fun i σ H' => ∃ v2 v3 bs, σ = [some (.int r), some (.ref fo), v2, v3] ∧ Same H H' ∧ H' fo = some (.lst (refs bs)) ∧ (∀ b ∈ bs, PairAt H' b) ∧ bs.map (·.2) = pre r i)
      ⟨none, none, [], rfl, same_new nfo, upd_same, fun b hb => absurd hb (by simp), rfl⟩ ?_ ?_
    · rintro i σ H' hi ⟨v2, v3, bs, rfl, s1, ef, hb, eb⟩
      rw [en] at hi
      refine ⟨_, rfl, _, rfl, _, rfl, _, _, rfl, rfl, -(r : Int), (r : Int) + 1, rfl, ⟨by omega, by omega, by omega, by omega⟩, ?_⟩
      refine for_range (lo := -(r : Int)) (n := ((r : Int) + 1 - -(r : Int)).toNat) (fun j σ H' => ∃ v3 bs, σ = [some (.int r), some (.ref fo), some (.int (-(r : Int) + (i : Int))), v3] ∧ Same H H' ∧ H' fo = some (.lst (refs bs)) ∧ (∀ b ∈ bs, PairAt H' b) ∧ bs.map (·.2) = preJ r i j)
        ⟨v3, bs, rfl, s1, ef, hb, by rw [eb, preJ_zero]⟩ ?_ ?_
      · rintro j σ H1 hj ⟨v3, cs, rfl, s2, ef, hb, eb⟩
        rw [en] at hj
        refine ⟨_, rfl, .inl ⟨rfl, _, SqL.of ef⟩, _, rfl, _, rfl, (by show 2 ≤ sizeLine; decide), fun d nd => ?_⟩
        have nfd : fo ≠ d := fun z => by
          rw [← z, ef] at nd
          cases nd
        refine ⟨fo, _, _, rfl, rfl, by rw [upd_ne nfd]; exact ef, ?_, ?_⟩
        · have h1 : cs.length = (preJ r i j).length := by rw [← eb, List.length_map]
          unfold preJ at h1
          rw [List.length_append, pre_length, List.length_map, List.length_range] at h1
          have h2 : (2 * r + 1) * i ≤ 17 * 17 := Nat.mul_le_mul (by omega) (by omega)
          unfold refs
          rw [List.length_map]
          exact small1000 (by omega)
        · refine ⟨some (.int (-(r : Int) + (j : Int))), cs ++ [(d, (-(r : Int) + (i : Int), -(r : Int) + (j : Int)))], rfl, same_put (same_put s2 (same_none s2 nd)) nfo, ?_, fun b hb' => ?_, ?_⟩
          · rw [upd_same]
            unfold refs
            rw [List.map_append]
            rfl
          · show upd _ _ _ b.1 = _
            rcases List.mem_append.mp hb' with hb' | hb'
            · have q : H1 b.1 = _ := hb b hb'
              rw [upd_ne (ne_of q ef fun z => nomatch z), upd_ne (ne_of_none q nd)]
              exact q
            · have e : b = (d, (-(r : Int) + (i : Int), -(r : Int) + (j : Int))) := by simpa using hb'
              subst e
              show upd _ _ _ d = _
              rw [upd_ne nfd.symm, upd_same]
          · rw [List.map_append, eb, preJ_succ]
            rfl
      · rintro σ H1 ⟨v3, cs, rfl, s2, ef, hb, eb⟩
        rw [en, pre_succ] at eb
        exact ⟨_, v3, cs, rfl, s2, ef, hb, eb⟩
    · rintro σ H' ⟨v2, v3, bs, rfl, s1, ef, hb, eb⟩
      rw [en] at eb
      exact ⟨_, rfl, k H' fo bs s1 nfo ef hb eb⟩

/-! ### all_shifts -/
def spAll (tb : Addr) : Sp := fun vs H Q _ => ∃ (r : Nat), vs = [.int r] ∧ r ≤ 8 ∧ TabS H tb qL ∧
  ∀ (H' : Hp) (p : Addr) (bs : List It2), ExtN H H' → TabS H' tb qL → H' p = some (.lst (refs bs)) → (∀ b ∈ bs, PairAt H' b) → (bs.map (·.2)).Perm (Hs.pairs r) → ((bs.map (·.2)).Pairwise fun d e => ¬ Hs.klt e d) → Q (.ref p) H'
theorem ok_all {f fp c tb : Addr} {fdp : FuncData} {oc kV doc pm ct : Value} {od an : Option Addr} {osl : Array (Option Value)}
    (lk : K.lookup f = some ⟨oc, od, .func (PySem.W.fnOf "all_shifts" "all_shifts" (defArgs sAll) (defBody sAll) (defScope sAll) .none kV doc pm an (.ref c) ct), osl⟩) (hcd : PySem.W.codeIn K (.ref c) "all_shifts" = true) (T : Txt K mg CP CH CD)
    (FP : Fun K "pairs_to" "pairs_to" sPairs fp fdp) (bP : Binds K fdp ["r"] []) (gP : mg "pairs_to" = some (.ref fp)) (TB : TabB base mg c tb) :
    FnOk P w K mg base CX0 2 f (PySem.W.fnOf "all_shifts" "all_shifts" (defArgs sAll) (defBody sAll) (defScope sAll) .none kV doc pm an (.ref c) ct) ["r"] (spAll tb) := by
  have GP : FnOk P w K mg base CX0 1 fp fdp ["r"] spPairs := ok_pairs FP T
  refine fn_of lk hcd scAll (fun vs H Q E h => ?_) fun A outer s H vs Q E hr h => ?_
  · obtain ⟨r, rfl, _⟩ := h
    rfl
  · obtain ⟨r, rfl, hr8, hT, k⟩ := h
    have L : ∀ {p1 p2 p3 p4 p5 p6 p7 p8 p9 p10 p11 p12 p13 p14 p15 p16 p17 p18 p19 p20 p21 p22 : Pos} {params : Arguments} {scope : Scope}, scope.isCoroutine = false → scope.isGenerator = false → scope.kind = .function → scope.names = [(PySem.Str.ofString "shift", PySem.NameKind.local)] →
        (∀ (q : Str) (body : Expr) (pm cv ctv v : Value), bindArgs (PySem.W.kla_fn "<lambda>" q params body scope [] pm cv ctv) ⟨[v], []⟩ = pure [(PySem.Str.ofString "shift", v)]) →
        LamOne "shift" params (.Tuple [.BinOp (.BinOp (.Subscript (.Name "shift" p1) (.Constant (.int 0) 0 p2) p3) .Mult (.Subscript (.Name "shift" p4) (.Constant (.int 0) 0 p5) p6) p7) .Add
      (.BinOp (.Subscript (.Name "shift" p8) (.Constant (.int 1) 0 p9) p10) .Mult (.Subscript (.Name "shift" p11) (.Constant (.int 1) 0 p12) p13) p14) p15,
      .Subscript (.Name "shift" p16) (.Constant (.int 1) 0 p17) p18, .Subscript (.Name "shift" p19) (.Constant (.int 0) 0 p20) p21] 0 p22) scope := fun {_ _ _ _ _ _ _ _ _ _ _ _ _ _ _ _ _ _ _ _ _ _ params scope} h1 h2 h3 h4 h5 =>
      ⟨fun a1 a2 a3 a4 a5 a6 a7 a8 => lm_body a1 a2 a3 a4 (by decide) a5 a6 a7 a8, h1, h2, h3, by rw [h4]; rfl, fun y hy => by
        rw [h4] at hy
        have e : y = (PySem.Str.ofString "shift", PySem.NameKind.local) := by simpa using hy
        rw [e]
        exact ⟨by decide, by decide⟩, fun cells => by
        rw [h4]
        rfl, fun q pm cv ctv v => h5 q _ pm cv ctv v⟩
    refine ⟨_, (pss_cons (ps_setLc (i := 1) (own := [("dx", 2), ("dy", 3)]) (g := gTup K 2 (gCons (gName 2) (gCons (gName 3) gNil))) (te := tTup (tCons (tVar 2) (tCons (tVar 3) tNil))) rfl scAll.nd rfl rfl (sw_true rfl rfl rfl (by decide +kernel))
        (pi_list (pe_call GP hr (by rfl) gP FP.kp bP .nil pass0 (pa_cons (pv 0) pa_nil))) (blkOk_by (N := ["r", "some", "dx", "dy"]) (sc := defScope sAll) (by decide +kernel))
        (fun _ _ _ _ _ => pg_tup rfl (pgs_cons (pg_name (i := 2) scAll.nd rfl (Or.inl rfl)) (pgs_cons (pg_name (i := 3) scAll.nd rfl (Or.inl rfl)) pgs_nil))) (fun _ _ _ _ _ => pts_nil)
        (fun _ _ _ _ _ => pe_tup (pa_cons (pv 2) (pa_cons (pv 3) pa_nil))))
      (pss_one (ps_ret (pe_sortLam (pv 1) (by rfl) T.sorted TB rfl hr (L rfl rfl rfl rfl (fun _ _ _ _ _ _ => rfl)) rfl)))).nox, ?_⟩
    -- the comprehension over the pairs
    refine ⟨_, rfl, r, rfl, hr8, fun H1 p bs s1 np ep hb eb => ?_⟩
    have hblen : bs.length ≤ 1000 := by
      have e := congrArg List.length eb
      rw [List.length_map, show Hs.pairs r = pre r (2 * r + 1) from rfl, pre_length] at e
      have : (2 * r + 1) * (2 * r + 1) ≤ 17 * 17 := Nat.mul_le_mul (by omega) (by omega)
      omega
    have hT1 : TabS H1 tb qL := hT.ext s1
    refine ⟨p, rfl, ⟨_, SqL.of ep⟩, fun D hD => ?_⟩
    refine lc_list (K := K) (a := p) (xs := refs bs) (fun i Hc => ∃ cs : List It2, Hc D = some (.lst (refs cs)) ∧ (∀ b ∈ cs, PairAt Hc b) ∧ cs.map (·.2) = (bs.map (·.2)).take i ∧ Same H1 Hc ∧ TabS Hc tb qL)
      ⟨[], upd_same, fun b hb => absurd hb (by simp), rfl, same_new hD, tab_new hT1 hD⟩ (fun i Hc _ ⟨_, _, _, _, s2, _⟩ => SqL.of (s2 _ _ ep)) ?_ ?_
    · rintro i x Hc hi ⟨cs, eD, hcs, ecs, s2, hT2⟩
      obtain ⟨b, hbi, rfl⟩ : ∃ b, bs[i]? = some b ∧ x = V.ref b.1 := by
        unfold refs at hi
        rw [List.getElem?_map] at hi
        cases e : bs[i]? with
        | none =>
          rw [e] at hi
          cases hi
        | some b =>
          rw [e] at hi
          exact ⟨b, rfl, (Option.some.inj hi).symm⟩
      have hbm : b ∈ bs := List.mem_of_getElem? hbi
      have hil : i < bs.length := (List.getElem?_eq_some_iff.mp hbi).1
      have eb1 : Hc b.1 = some (.tup [.int b.2.1, .int b.2.2]) := s2 _ _ (hb b hbm)
      refine ⟨b.1, _, rfl, SqT.of eb1, rfl, _, _, rfl, _, _, rfl, rfl, ⟨rfl, lc_yes ?_⟩⟩
      refine ⟨_, rfl, _, rfl, (by show 2 ≤ sizeLine; decide), fun d nd => ?_⟩
      have nDd : D ≠ d := fun z => by
        rw [← z, eD] at nd
        cases nd
      refine ⟨refs cs, by rw [upd_ne nDd]; exact eD, ?_, ?_⟩
      · have e := congrArg List.length ecs
        rw [List.length_map, List.length_take, List.length_map] at e
        unfold refs
        rw [List.length_map]
        exact small1000 (by omega)
      · refine ⟨cs ++ [(d, b.2)], ?_, fun b' hb' => ?_, ?_, same_put (same_put s2 (same_none s2 nd)) hD, tab_lst (tab_new hT2 nd) (by rw [upd_ne nDd]; exact eD)⟩
        · rw [upd_same]
          unfold refs
          rw [List.map_append]
          rfl
        · show upd _ _ _ b'.1 = _
          rcases List.mem_append.mp hb' with hb' | hb'
          · have q : Hc b'.1 = _ := hcs b' hb'
            rw [upd_ne (ne_of q eD fun z => nomatch z), upd_ne (ne_of_none q nd)]
            exact q
          · have e : b' = (d, b.2) := by simpa using hb'
            subst e
            show upd _ _ _ d = _
            rw [upd_ne nDd.symm, upd_same]
        · rw [List.map_append, ecs, List.take_add_one, List.getElem?_map, hbi]
          rfl
    · rintro Hc ⟨cs, eD, hcs, ecs, s2, hT2⟩
      have ecs' : cs.map (·.2) = Hs.pairs r := by
        rw [ecs, ← eb, List.take_of_length_le]
        unfold refs
        rw [List.length_map, List.length_map]
        exact Nat.le_refl _
      have hclen : cs.length ≤ 1000 := by
        have e := congrArg List.length (ecs'.trans eb.symm)
        rw [List.length_map, List.length_map] at e
        omega
      -- the list is sorted
      refine ⟨_, rfl, D, cs, rfl, eD, hcs, fun b hb => ?_, hclen, hT2, fun H2 p' bs' e2 hT3 ep' hperm hpw => ?_⟩
      · have := Hs.pairs_mem (r := r) (d := b.2) (by rw [← ecs']; exact List.mem_map.mpr ⟨b, hb, rfl⟩)
        omega
      · refine k H2 p' bs' (fun b o e n => e2 b o (s2 b o (s1 b o e)) n) hT3 ep' (fun b hb => ?_) ?_ hpw
        · exact e2 _ _ (hcs b (hperm.mem_iff.mp hb)) fun _ z => nomatch z
        · rw [← ecs']
          exact hperm.map _
end
end HsW
set_option Elab.async false
set_option maxRecDepth 100000
set_option maxHeartbeats 4000000
/-! What shifts cost, and the one that is found. -/
namespace HsW
open PySem PySem.Spec PyProof.Rows L2 LamX HsS

/-- a comprehension over zip of two lists that the block leaves as they are -/
theorem lc_zip {K : PySem.W.Frag} {a b : Addr} {xs ys : List V} {g : TG} {tt : TT} {te : TE} {vs : List Nat} {σ : L2.St} {H1 : Hp} {D : Addr} {Qd : Hp → Prop} (Pv : Nat → Hp → Prop) (h0 : Pv 0 (upd H1 D (.lst []))) (hq : ∀ i H, Pv i H → SqL K H a xs ∧ SqL K H b ys)
    (hs : ∀ (i : Nat) (x y : V) (T : Addr) (H : Hp), xs[i]? = some x → ys[i]? = some y → Pv i H → H T = none → g (.ref T) (wipe σ vs) (upd H T (.tup [x, y])) fun σ2 H2 => wipe σ2 vs = wipe σ vs ∧ tt σ2 H2 fun b H3 =>
      if b = true then te σ2 H3 fun y H4 => ∃ acc, H4 D = some (.lst acc) ∧ acc.length < sizeLine ∧ Pv (i + 1) (upd H4 D (.lst (acc ++ [y]))) else Pv (i + 1) H3) (hd : ∀ H, Pv (min xs.length ys.length) H → Qd H) :
    ∃ At : Nat → Nat → Hp → Prop, (∃ n, At 0 n (upd H1 D (.lst []))) ∧ ∀ i n H, At i n H →
      ((Itz K a b).stop i H ∧ Qd H) ∨ ((Itz K a b).go i H ∧ ∃ Nx : Hp → Prop, (∀ H', Nx H' → ∃ n', n' < n ∧ At (i + 1) n' H') ∧ ∀ x H', (Itz K a b).yld i H x H' → g x (wipe σ vs) H' fun σ2 H2 => wipe σ2 vs = wipe σ vs ∧ tt σ2 H2 fun b H3 =>
        if b = true then te σ2 H3 fun y H4 => ∃ got, H4 D = some (.lst got) ∧ got.length < sizeLine ∧ Nx (upd H4 D (.lst (got ++ [y]))) else Nx H3) := by
  refine ⟨fun i m H => m = min xs.length ys.length - i ∧ i ≤ min xs.length ys.length ∧ Pv i H, ⟨_, rfl, Nat.zero_le _, h0⟩, ?_⟩
  rintro i m H ⟨rfl, hi, p⟩
  obtain ⟨qx, qy⟩ := hq i H p
  by_cases hlt : i < min xs.length ys.length
  · have h1 : i < xs.length := by omega
    have h2 : i < ys.length := by omega
    refine .inr ⟨⟨xs, ys, _, _, qx, qy, List.getElem?_eq_getElem h1, List.getElem?_eq_getElem h2⟩, Pv (i + 1), fun H' p' => ⟨min xs.length ys.length - (i + 1), by omega, rfl, hlt, p'⟩, fun v H' hy => ?_⟩
    obtain ⟨T, x, y, rfl, nT, rfl, f1, f2⟩ := hy
    exact hs i x y T H (f1 xs qx) (f2 ys qy) p nT
  · have e : i = min xs.length ys.length := by omega
    subst e
    exact .inl ⟨⟨xs, ys, qx, qy, by omega⟩, hd H p⟩

section
variable {P : Program} {w : World} {K : PySem.W.Frag} {mg : Str → Option Value} {base : Heap} {CP CH CD : Addr}

/-! ### middle -/
def spMiddle (C : Addr) : Sp := fun vs H Q _ => ∃ (t a : Addr) (pic : Kh288.Pic) (r : Nat), vs = [.ref a, .int r] ∧ PicAt C H t a pic ∧ pic.w ≤ 256 ∧ pic.h ≤ 256 ∧ 2 * r ≤ pic.w ∧ 2 * r ≤ pic.h ∧
  ∀ (H' : Hp) (p : Addr), Same H H' → H p = none → H' p = some (.lst (vI (Hs.part (Hs.rowsOf pic) r r (pic.w - 2 * r) (pic.h - 2 * r)))) → Q (.ref p) H'
theorem ok_middle {f fp : Addr} {fd fdp : FuncData} (F : Fun K "middle" "middle" sMiddle f fd) (T : Txt K mg CP CH CD) (FP : Fun K "part" "Picture.part" sPart fp fdp) (bP : Binds K fdp ["self", "x", "y", "w", "h"] []) (mP : Meth K CP "part" fp) :
    FnOk P w K mg base CX0 2 f fd ["picture", "r"] (spMiddle CP) := by
  have GP : FnOk P w K mg base CX0 1 fp fdp ["self", "x", "y", "w", "h"] (spPart CP) := ok_part FP T
  refine F.ok scMiddle (fun vs H Q E h => ?_) (fun cdv A outer s H vs Q E hr h => ?_)
  · obtain ⟨t, a, pic, r, rfl, _⟩ := h
    rfl
  · obtain ⟨t, a, pic, r, rfl, hp, hw, hh, hrw, hrh, k⟩ := h
    refine ⟨_, pss_one (ps_ret (pe_meth (pv 0) T.clP mP GP hr bP .nil pass0 (pa_cons (pv 1) (pa_cons (pv 1) (pa_cons (pe_op op_sub (pe_fld (pv 0) rfl) (pe_op op_mul pe_int (pv 1))) (pa_cons (pe_op op_sub (pe_fld (pv 0) rfl) (pe_op op_mul pe_int (pv 1))) pa_nil)))))), ?_⟩
    obtain ⟨dx, ra, rb, h1, hrest⟩ := id hp
    refine ⟨_, rfl, a, dx, _, rfl, h1, picF_part _ _ _, _, rfl, _, rfl, _, rfl, a, CP, dx, _, _, rfl, h1, T.clP, T.pw, picF_w _ _ _, _, rfl, 2, _, rfl, rfl, .inl ⟨by decide, by decide⟩, _, _, rfl, rfl, ?_⟩
    refine ⟨_, rfl, a, CP, dx, _, _, rfl, h1, T.clP, T.ph, picF_h _ _ _, _, rfl, 2, _, rfl, rfl, .inl ⟨by decide, by decide⟩, _, _, rfl, rfl, ?_⟩
    refine ⟨t, a, pic, r, r, pic.w - 2 * r, pic.h - 2 * r, ?_, hp, hw, hh, fun H' p s1 np ep => k H' p s1 np ep⟩
    show [V.ref a, V.int r, V.int r, V.int ((pic.w : Int) - 2 * (r : Int)), V.int ((pic.h : Int) - 2 * (r : Int))] = _
    rw [show (pic.w : Int) - 2 * (r : Int) = ((pic.w - 2 * r : Nat) : Int) by omega, show (pic.h : Int) - 2 * (r : Int) = ((pic.h - 2 * r : Nat) : Int) by omega]

/-! ### cost -/
def spCost (C : Addr) : Sp := fun vs H Q _ => ∃ (t g a d : Addr) (xs : List Int) (pic : Kh288.Pic) (r : Nat) (dx dy : Int), vs = [.ref g, .ref a, .int r, .ref d] ∧ H g = some (.lst (vI xs)) ∧ xs.length ≤ 65536 ∧ PicAt C H t a pic ∧ pic.w ≤ 256 ∧ pic.h ≤ 256 ∧ 2 * r ≤ pic.w ∧ 2 * r ≤ pic.h ∧
  H d = some (.tup [.int dx, .int dy]) ∧ dx.natAbs ≤ r ∧ dy.natAbs ≤ r ∧
  ∀ H' : Hp, Same H H' → Q (.int (Hs.costI xs (Hs.part (Hs.rowsOf pic) ((r : Int) + dx).toNat ((r : Int) + dy).toNat (pic.w - 2 * r) (pic.h - 2 * r)))) H'
theorem ok_cost {f fp : Addr} {fd fdp : FuncData} (F : Fun K "cost" "cost" sCost f fd) (T : Txt K mg CP CH CD) (FP : Fun K "part" "Picture.part" sPart fp fdp) (bP : Binds K fdp ["self", "x", "y", "w", "h"] []) (mP : Meth K CP "part" fp) :
    FnOk P w K mg base CX0 2 f fd ["greys", "picture", "r", "shift"] (spCost CP) := by
  have GP : FnOk P w K mg base CX0 1 fp fdp ["self", "x", "y", "w", "h"] (spPart CP) := ok_part FP T
  refine F.ok scCost (fun vs H Q E h => ?_) (fun cdv A outer s H vs Q E hr h => ?_)
  · obtain ⟨t, g, a, d, xs, pic, r, dx, dy, rfl, _⟩ := h
    rfl
  · obtain ⟨t, g, a, d, xs, pic, r, dx, dy, rfl, hg, hxs, hp, hw, hh, hrw, hrh, hd, hdx, hdy, k⟩ := h
    refine ⟨_, pss_cons (ps_set (i := 4) scCost.nd rfl (.inl rfl) (pe_meth (pv 1) T.clP mP GP hr bP .nil pass0 (pa_cons (pe_op op_add (pv 2) (pe_ix ix_tup (pv 3) pe_int (fun _ _ => rfl))) (pa_cons (pe_op op_add (pv 2) (pe_ix ix_tup (pv 3) pe_int (fun _ _ => rfl)))
        (pa_cons (pe_op op_sub (pe_fld (pv 1) rfl) (pe_op op_mul pe_int (pv 2))) (pa_cons (pe_op op_sub (pe_fld (pv 1) rfl) (pe_op op_mul pe_int (pv 2))) pa_nil))))))
      (pss_one (ps_ret (pe_callB (cr_sum rfl) (by rfl) T.sum (by decide +kernel) (pa_cons (pe_lc (own := [("one", 5), ("other", 6)]) (g := gTup K 2 (gCons (gName 5) (gCons (gName 6) gNil))) (te := tCB rAbs (tCons (tOp rMinus (tVar 5) (tVar 6)) tNil)) rfl scCost.nd
        (pi_zip (by rfl) T.zip (pa_cons (pv 0) (pa_cons (pv 4) pa_nil))) (blkOk_by (N := ["greys", "picture", "r", "shift", "others", "one", "other"]) (sc := defScope sCost) (by decide +kernel))
        (fun _ _ _ _ _ => pg_tup rfl (pgs_cons (pg_name (i := 5) scCost.nd rfl (Or.inl rfl)) (pgs_cons (pg_name (i := 6) scCost.nd rfl (Or.inl rfl)) pgs_nil))) (fun _ _ _ _ _ => pts_nil)
        (fun _ _ _ _ _ => pe_callB call_abs (by rfl) T.abs (by decide +kernel) (pa_cons (pe_op op_sub (pv 5) (pv 6)) pa_nil))) pa_nil)))), ?_⟩
    obtain ⟨dxo, ra, rb, h1, hrest⟩ := id hp
    -- the part of the other picture
    refine ⟨_, rfl, a, dxo, _, rfl, h1, picF_part _ _ _, ?_⟩
    refine ⟨_, rfl, _, rfl, d, _, 0, .int dx, rfl, rfl, SqT.of hd, atI_nat (j := 0) rfl, _, _, rfl, rfl, ?_⟩
    refine ⟨_, rfl, _, rfl, d, _, 1, .int dy, rfl, rfl, SqT.of hd, atI_nat (j := 1) rfl, _, _, rfl, rfl, ?_⟩
    refine ⟨_, rfl, a, CP, dxo, _, _, rfl, h1, T.clP, T.pw, picF_w _ _ _, _, rfl, 2, _, rfl, rfl, .inl ⟨by decide, by decide⟩, _, _, rfl, rfl, ?_⟩
    refine ⟨_, rfl, a, CP, dxo, _, _, rfl, h1, T.clP, T.ph, picF_h _ _ _, _, rfl, 2, _, rfl, rfl, .inl ⟨by decide, by decide⟩, _, _, rfl, rfl, ?_⟩
    refine ⟨t, a, pic, ((r : Int) + dx).toNat, ((r : Int) + dy).toNat, pic.w - 2 * r, pic.h - 2 * r, ?_, hp, hw, hh, fun H1 o s1 no eo => ?_⟩
    · show [V.ref a, V.int ((r : Int) + dx), V.int ((r : Int) + dy), V.int ((pic.w : Int) - 2 * (r : Int)), V.int ((pic.h : Int) - 2 * (r : Int))] = _
      rw [show (pic.w : Int) - 2 * (r : Int) = ((pic.w - 2 * r : Nat) : Int) by omega, show (pic.h : Int) - 2 * (r : Int) = ((pic.h - 2 * r : Nat) : Int) by omega, show (((r : Int) + dx).toNat : Int) = (r : Int) + dx by omega, show (((r : Int) + dy).toNat : Int) = (r : Int) + dy by omega]
    generalize Hs.part (Hs.rowsOf pic) ((r : Int) + dx).toNat ((r : Int) + dy).toNat (pic.w - 2 * r) (pic.h - 2 * r) = ys at eo k
    have hg1 : H1 g = some (.lst (vI xs)) := s1 _ _ hg
    -- the differences
    refine ⟨_, rfl, _, rfl, g, o, vI xs, vI ys, rfl, SqL.of hg1, SqL.of eo, fun D hD => ?_⟩
    refine lc_zip (K := K) (a := g) (b := o) (xs := vI xs) (ys := vI ys) (fun i Hc => Hc D = some (.lst (vI (((xs.zip ys).map fun q => Hs.absI (q.1 - q.2)).take i))) ∧ Same H1 Hc)
      ⟨by rw [upd_same]; rfl, same_new hD⟩ (fun i Hc ⟨_, s2⟩ => ⟨SqL.of (s2 _ _ hg1), SqL.of (s2 _ _ eo)⟩) ?_ ?_
    · rintro i x y Tp Hc hx hy ⟨eD, s2⟩ nT
      obtain ⟨xi, hxi, rfl⟩ : ∃ z, xs[i]? = some z ∧ x = V.int z := by
        unfold vI at hx
        rw [List.getElem?_map] at hx
        cases e : xs[i]? with
        | none =>
          rw [e] at hx
          cases hx
        | some z =>
          rw [e] at hx
          exact ⟨z, rfl, (Option.some.inj hx).symm⟩
      obtain ⟨yi, hyi, rfl⟩ : ∃ z, ys[i]? = some z ∧ y = V.int z := by
        unfold vI at hy
        rw [List.getElem?_map] at hy
        cases e : ys[i]? with
        | none =>
          rw [e] at hy
          cases hy
        | some z =>
          rw [e] at hy
          exact ⟨z, rfl, (Option.some.inj hy).symm⟩
      have nDT : D ≠ Tp := fun z => by
        rw [← z, eD] at nT
        cases nT
      refine ⟨Tp, _, rfl, SqT.of upd_same, rfl, _, _, rfl, _, _, rfl, rfl, ⟨rfl, lc_yes ?_⟩⟩
      refine ⟨_, rfl, _, rfl, xi, yi, rfl, rfl, xi - yi, rfl, ?_⟩
      refine ⟨_, by rw [upd_ne nDT]; exact eD, ?_, ?_, same_put (same_put s2 (same_none s2 nT)) hD⟩
      · rw [vI_length, List.length_take, List.length_map, List.length_zip]
        rw [sizeLine_eq]
        omega
      · rw [upd_same, List.take_add_one, List.getElem?_map, show (xs.zip ys)[i]? = some (xi, yi) from List.getElem?_zip_eq_some.mpr ⟨hxi, hyi⟩, vI_append]
        rfl
    · rintro Hc ⟨eD, s2⟩
      have e : ((xs.zip ys).map fun q => Hs.absI (q.1 - q.2)).take (min (vI xs).length (vI ys).length) = (xs.zip ys).map fun q => Hs.absI (q.1 - q.2) := by
        rw [List.take_of_length_le]
        rw [List.length_map, List.length_zip, vI_length, vI_length]
        exact Nat.le_refl _
      rw [e] at eD
      exact ⟨D, _, rfl, SqL.of eD, k Hc (s1.trans s2)⟩

/-! ### found_shift -/
def spFound (C tb : Addr) : Sp := fun vs H Q _ => ∃ (t t' a b : Addr) (pa pb : Kh288.Pic) (r : Nat), vs = [.ref a, .ref b, .int r] ∧ PicAt C H t a pa ∧ PicAt C H t' b pb ∧ pb.w = pa.w ∧ pb.h = pa.h ∧ pa.b.length = pa.w * pa.h ∧ pb.b.length = pb.w * pb.h ∧
  r ≤ 8 ∧ 2 * r + 1 ≤ pa.w ∧ pa.w ≤ 256 ∧ 2 * r + 1 ≤ pa.h ∧ pa.h ≤ 256 ∧ TabS H tb qL ∧
  ∀ (H' : Hp) (d : Addr), ExtN H H' → TabS H' tb qL → H' d = some (.tup [.int (Kh288.find pa pb r).2.1, .int (Kh288.find pa pb r).2.2]) → Q (.ref d) H'
theorem ok_found {f fm fc fs fp tb : Addr} {fd fdm fdc fds fdp : FuncData} (F : Fun K "found_shift" "found_shift" sFound f fd) (T : Txt K mg CP CH CD) (FP : Fun K "part" "Picture.part" sPart fp fdp) (bP : Binds K fdp ["self", "x", "y", "w", "h"] []) (mP : Meth K CP "part" fp)
    (FM : Fun K "middle" "middle" sMiddle fm fdm) (bM : Binds K fdm ["picture", "r"] []) (gM : mg "middle" = some (.ref fm)) (FC : Fun K "cost" "cost" sCost fc fdc) (bC : Binds K fdc ["greys", "picture", "r", "shift"] []) (gC : mg "cost" = some (.ref fc))
    (GS : FnOk P w K mg base CX0 2 fs fds ["r"] (spAll tb)) (kS : PySem.W.keepIn K (.ref fs) = true) (bS : Binds K fds ["r"] []) (gS : mg "all_shifts" = some (.ref fs)) :
    FnOk P w K mg base CX0 3 f fd ["before", "after", "r"] (spFound CP tb) := by
  have GM : FnOk P w K mg base CX0 2 fm fdm ["picture", "r"] (spMiddle CP) := ok_middle FM T FP bP mP
  have GC : FnOk P w K mg base CX0 2 fc fdc ["greys", "picture", "r", "shift"] (spCost CP) := ok_cost FC T FP bP mP
  refine F.ok scFound (fun vs H Q E h => ?_) (fun cdv A outer s H vs Q E hr h => ?_)
  · obtain ⟨t, t', a, b, pa, pb, r, rfl, _⟩ := h
    rfl
  · obtain ⟨t, t', a, b, pa, pb, r, rfl, ha, hb, hww, hhh, la, lb, hr8, hrw, hw, hrh, hh, hT, k⟩ := h
    refine ⟨_, pss_cons (ps_set (i := 3) scFound.nd rfl (.inl rfl) (pe_call GM hr (by rfl) gM FM.kp bM .nil pass0 (pa_cons (pv 0) (pa_cons (pv 2) pa_nil))))
      (pss_cons (ps_set (i := 4) scFound.nd rfl (.inl rfl) (pe_tup (pa_cons pe_int (pa_cons pe_int pa_nil))))
      (pss_cons (ps_set (i := 5) scFound.nd rfl (.inl rfl) (pe_call GC hr (by rfl) gC FC.kp bC .nil pass0 (pa_cons (pv 3) (pa_cons (pv 1) (pa_cons (pv 2) (pa_cons (pv 4) pa_nil))))))
      (pss_cons (ps_for PassesOwn.never rfl (pi_list (pe_call GS hr (by rfl) gS kS bS .nil pass0 (pa_cons (pv 2) pa_nil))) (pg_name (i := 6) scFound.nd rfl (.inl rfl))
        (pss_cons (ps_set (i := 7) scFound.nd rfl (.inl rfl) (pe_call GC hr (by rfl) gC FC.kp bC .nil pass0 (pa_cons (pv 3) (pa_cons (pv 1) (pa_cons (pv 2) (pa_cons (pv 6) pa_nil))))))
        (pss_one (ps_if (pt_cmpR op_lt (pv 7) (pv 5) (nomark _)) (pss_one (ps_par (i := 4) (j := 5) rfl scFound.nd rfl rfl (by decide) rfl rfl (pa_cons (pv 6) (pa_cons (pv 7) pa_nil)) (by rfl))) pss_nil))))
      (pss_one (ps_ret (pv 4)))))), ?_⟩
    -- the middle
    refine ⟨_, rfl, _, rfl, t, a, pa, r, rfl, ha, hw, hh, by omega, by omega, fun H1 g s1 ng eg => ?_⟩
    -- the pair of zeros
    refine ⟨(by show 2 ≤ sizeLine; decide), fun z nz => ?_⟩
    have s2 : Same H (upd H1 z (.tup [.int 0, .int 0])) := same_put s1 (same_none s1 nz)
    have ngz : g ≠ z := fun e => by
      rw [← e, eg] at nz
      cases nz
    have lenG : (Hs.part (Hs.rowsOf pa) r r (pa.w - 2 * r) (pa.h - 2 * r)).length ≤ 65536 := by
      refine Nat.le_trans Hs.part_length ?_
      exact Nat.le_trans (Nat.mul_le_mul (show pa.w - 2 * r ≤ 256 by omega) (show pa.h - 2 * r ≤ 256 by omega)) (by decide)
    have hcost : ∀ d : Int × Int, d.1.natAbs ≤ r → d.2.natAbs ≤ r → Hs.costI (Hs.part (Hs.rowsOf pa) r r (pa.w - 2 * r) (pa.h - 2 * r)) (Hs.part (Hs.rowsOf pb) ((r : Int) + d.1).toNat ((r : Int) + d.2).toNat (pb.w - 2 * r) (pb.h - 2 * r)) = ((Kh288.cost pa pb r d : Nat) : Int) := fun d h1 h2 =>
      Hs.cost_part la lb hww hhh h1 h2 (by omega) (by omega)
    generalize Hs.part (Hs.rowsOf pa) r r (pa.w - 2 * r) (pa.h - 2 * r) = gs at eg lenG hcost
    have eg2 : (upd H1 z (.tup [.int 0, .int 0])) g = some (.lst (vI gs)) := by
      rw [upd_ne ngz]
      exact eg
    -- what it costs
    refine ⟨_, rfl, _, rfl, _, rfl, _, rfl, t', g, b, z, gs, pb, r, 0, 0, rfl, eg2, lenG, hb.ext (ext_same s2), by omega, by omega, by omega, by omega, upd_same, by omega, by omega, fun H3 s3 => ?_⟩
    rw [show Hs.costI gs (Hs.part (Hs.rowsOf pb) ((r : Int) + 0).toNat ((r : Int) + 0).toNat (pb.w - 2 * r) (pb.h - 2 * r)) = ((Kh288.cost pa pb r (0, 0) : Nat) : Int) from hcost (0, 0) (Nat.zero_le _) (Nat.zero_le _)]
    have eg3 : H3 g = some (.lst (vI gs)) := s3 _ _ eg2
    have ez3 : H3 z = some (.tup [.int 0, .int 0]) := s3 _ _ upd_same
    have s4 : Same H H3 := s2.trans s3
    -- the loop over the shifts
    refine ⟨_, rfl, r, rfl, hr8, hT.ext s4, fun H4 l bs e4 hT4 el hbs hperm hpw => ?_⟩
    have e5 : ExtN H H4 := (ext_same s4).trans e4
    refine ⟨l, rfl, ⟨_, SqL.of el⟩, for_list (K := K) (a := l) (xs := refs bs) (fun i σ H' => ∃ (z : Addr) (v6 v7 : Option V) (m : (Int × Int) × Nat), σ = [some (.ref a), some (.ref b), some (.int r), some (.ref g), some (.ref z), some (.int (m.2 : Int)), v6, v7] ∧
        m = ((bs.map (·.2)).take i).foldl (Hs.turn (Kh288.cost pa pb r)) ((0, 0), Kh288.cost pa pb r (0, 0)) ∧ H' z = some (.tup [.int m.1.1, .int m.1.2]) ∧ Same H4 H')
      ⟨z, none, none, ((0, 0), Kh288.cost pa pb r (0, 0)), rfl, rfl, e4 _ _ ez3 (fun _ z => nomatch z), Same.refl _⟩ (fun i σ H' _ ⟨_, _, _, _, _, _, _, s5⟩ => SqL.of (s5 _ _ el)) ?_ ?_⟩
    · rintro i x σ H' hi ⟨z', v6, v7, m, rfl, em, ez, s5⟩
      obtain ⟨bb, hbi, rfl⟩ : ∃ b, bs[i]? = some b ∧ x = V.ref b.1 := by
        unfold refs at hi
        rw [List.getElem?_map] at hi
        cases e : bs[i]? with
        | none =>
          rw [e] at hi
          cases hi
        | some b =>
          rw [e] at hi
          exact ⟨b, rfl, (Option.some.inj hi).symm⟩
      have hbm : bb ∈ bs := List.mem_of_getElem? hbi
      have hbd := Hs.pairs_mem (r := r) (d := bb.2) (hperm.mem_iff.mp (List.mem_map.mpr ⟨bb, hbm, rfl⟩))
      have ebb : H' bb.1 = some (.tup [.int bb.2.1, .int bb.2.2]) := s5 _ _ (hbs bb hbm)
      have step : ((bs.map (·.2)).take (i + 1)).foldl (Hs.turn (Kh288.cost pa pb r)) ((0, 0), Kh288.cost pa pb r (0, 0)) = Hs.turn (Kh288.cost pa pb r) m bb.2 := by
        rw [List.take_add_one, List.getElem?_map, hbi, List.foldl_append, ← em]
        rfl
      -- what this shift costs
      refine ⟨_, rfl, _, rfl, _, rfl, _, rfl, t', g, b, bb.1, gs, pb, r, bb.2.1, bb.2.2, rfl, s5 _ _ (e4 _ _ eg3 fun _ z => nomatch z), lenG, hb.ext (e5.trans (ext_same s5)), by omega, by omega, by omega, by omega, ebb, hbd.1, hbd.2, fun H6 s6 => ?_⟩
      rw [hcost bb.2 hbd.1 hbd.2]
      -- whether it is less
      refine ⟨_, rfl, _, rfl, _, _, rfl, rfl, _, rfl, ?_⟩
      by_cases hlt : Kh288.cost pa pb r bb.2 < m.2
      · have hlt' : ((Kh288.cost pa pb r bb.2 : Nat) : Int) < (m.2 : Int) := by omega
        rw [decide_eq_true hlt']
        refine iteT ?_
        refine ⟨_, rfl, _, rfl, _, _, rfl, ?_⟩
        refine ⟨bb.1, some (.ref bb.1), some (.int ((Kh288.cost pa pb r bb.2 : Nat) : Int)), (bb.2, Kh288.cost pa pb r bb.2), rfl, ?_, s6 _ _ ebb, s5.trans s6⟩
        rw [step]
        exact (if_pos hlt).symm
      · have hlt' : ¬ ((Kh288.cost pa pb r bb.2 : Nat) : Int) < (m.2 : Int) := by omega
        rw [decide_eq_false hlt']
        refine iteF ?_
        refine ⟨z', some (.ref bb.1), some (.int ((Kh288.cost pa pb r bb.2 : Nat) : Int)), m, rfl, ?_, s6 _ _ ez, s5.trans s6⟩
        rw [step]
        exact (if_neg hlt).symm
    · rintro σ H' ⟨z', v6, v7, m, rfl, em, ez, s5⟩
      have efold : m.1 = (Kh288.find pa pb r).2 := by
        rw [em, List.take_of_length_le (by unfold refs; rw [List.length_map, List.length_map]; exact Nat.le_refl _)]
        exact Hs.find_eq hr8 hperm hpw
      rw [efold] at ez
      exact ⟨_, rfl, k H' z' (e5.trans (ext_same s5)) (hT4.ext s5) ez⟩
end
end HsW
set_option Elab.async false
set_option maxRecDepth 100000
set_option maxHeartbeats 4000000
/-! Holders: their fields, and all of their methods but frame. -/
namespace HsW
open PySem PySem.Spec PyProof.Rows L2 LamX HsS
open Kh289 (Abs Set_)

abbrev sTold : Stmt := topS 13
abbrev sNearer : Stmt := topS 14
abbrev sWithin : Stmt := topS 15
abbrev sHInit : Stmt := inClass (topS 16) 0
abbrev sFollow : Stmt := inClass (topS 16) 1
abbrev sGive : Stmt := inClass (topS 16) 2
abbrev sStay : Stmt := inClass (topS 16) 3
abbrev sShown : Stmt := inClass (topS 16) 4
abbrev sFrame : Stmt := inClass (topS 16) 5
abbrev sWhere : Stmt := inClass (topS 16) 6
theorem scTold : FnScope ["w", "h", "r", "m", "slow"] ["w", "h", "r", "m", "slow"] (defScope sTold) := ⟨rfl, rfl, rfl, by decide +kernel, rfl, by decide +kernel, by decide +kernel⟩
theorem scNearer : FnScope ["number", "m"] ["number", "m"] (defScope sNearer) := ⟨rfl, rfl, rfl, by decide +kernel, rfl, by decide +kernel, by decide +kernel⟩
theorem scWithin : FnScope ["number", "m"] ["number", "m"] (defScope sWithin) := ⟨rfl, rfl, rfl, by decide +kernel, rfl, by decide +kernel, by decide +kernel⟩
theorem scHInit : FnScope ["self", "w", "h", "r", "m", "slow"] ["self", "w", "h", "r", "m", "slow"] (defScope sHInit) := ⟨rfl, rfl, rfl, by decide +kernel, rfl, by decide +kernel, by decide +kernel⟩
theorem scFollow : FnScope ["self", "picture", "dx", "dy"] ["self", "picture"] (defScope sFollow) := ⟨rfl, rfl, rfl, by decide +kernel, rfl, by decide +kernel, by decide +kernel⟩
theorem scGive : FnScope ["self", "was"] ["self"] (defScope sGive) := ⟨rfl, rfl, rfl, by decide +kernel, rfl, by decide +kernel, by decide +kernel⟩
theorem scStay : FnScope ["self", "was"] ["self"] (defScope sStay) := ⟨rfl, rfl, rfl, by decide +kernel, rfl, by decide +kernel, by decide +kernel⟩
theorem scShown : FnScope ["self", "picture"] ["self", "picture"] (defScope sShown) := ⟨rfl, rfl, rfl, by decide +kernel, rfl, by decide +kernel, by decide +kernel⟩
theorem scWhere : FnScope ["self"] ["self"] (defScope sWhere) := ⟨rfl, rfl, rfl, by decide +kernel, rfl, by decide +kernel, by decide +kernel⟩

/-! ### the fields -/
def hA (s : Abs) (bv : V) : List (Str × V) := [("w", .int s.set.w), ("h", .int s.set.h), ("r", .int s.set.r), ("m", .int s.set.m), ("slow", .int s.set.slow), ("before", bv), ("many", .int s.many), ("x", .int s.x), ("y", .int s.y), ("dx", .int s.dx), ("dy", .int s.dy)]
theorem hA_len (s : Abs) (bv : V) : (hA s bv).length < 1000 := by
  show 11 < 1000
  decide
theorem hA_w (s : Abs) (bv : V) : (hA s bv).lookup ("w" : Str) = some (.int s.set.w) := rfl
theorem hA_h (s : Abs) (bv : V) : (hA s bv).lookup ("h" : Str) = some (.int s.set.h) := rfl
theorem hA_r (s : Abs) (bv : V) : (hA s bv).lookup ("r" : Str) = some (.int s.set.r) := rfl
theorem hA_m (s : Abs) (bv : V) : (hA s bv).lookup ("m" : Str) = some (.int s.set.m) := rfl
theorem hA_slow (s : Abs) (bv : V) : (hA s bv).lookup ("slow" : Str) = some (.int s.set.slow) := rfl
theorem hA_before (s : Abs) (bv : V) : (hA s bv).lookup ("before" : Str) = some bv := rfl
theorem hA_many (s : Abs) (bv : V) : (hA s bv).lookup ("many" : Str) = some (.int s.many) := rfl
theorem hA_x (s : Abs) (bv : V) : (hA s bv).lookup ("x" : Str) = some (.int s.x) := rfl
theorem hA_y (s : Abs) (bv : V) : (hA s bv).lookup ("y" : Str) = some (.int s.y) := rfl
theorem hA_dx (s : Abs) (bv : V) : (hA s bv).lookup ("dx" : Str) = some (.int s.dx) := rfl
theorem hA_dy (s : Abs) (bv : V) : (hA s bv).lookup ("dy" : Str) = some (.int s.dy) := rfl
theorem hA_pdx (s : Abs) (bv : V) (v : Int) : putF "dx" (.int v) (hA s bv) = hA { s with dx := v } bv := rfl
theorem hA_pdy (s : Abs) (bv : V) (v : Int) : putF "dy" (.int v) (hA s bv) = hA { s with dy := v } bv := rfl
theorem hA_px (s : Abs) (bv : V) (v : Int) : putF "x" (.int v) (hA s bv) = hA { s with x := v } bv := rfl
theorem hA_py (s : Abs) (bv : V) (v : Int) : putF "y" (.int v) (hA s bv) = hA { s with y := v } bv := rfl
theorem hA_pb (s : Abs) (bv v : V) : putF "before" v (hA s bv) = hA s v := rfl
theorem hA_pn (s : Abs) (bv : V) (n : Nat) : putF "many" (.int n) (hA s bv) = hA { s with many := n } bv := rfl

def rCmp (g : Int → Int → Bool) : R2 := rI0 fun i j => .bl (g i j)
section
variable {P : Program} {w : World} {K : PySem.W.Frag} {mg : Str → Option Value} {base : Heap} {CP CH CD : Addr}

/-! ### is_told, nearer, within -/
def spTold : Sp := fun vs H Q _ => ∃ (z : Set_), vs = [.int z.w, .int z.h, .int z.r, .int z.m, .int z.slow] ∧ Q (.bl (Kh289.okSet z)) H
theorem ok_told {f fr : Addr} {fd fdr : FuncData} (F : Fun K "is_told" "is_told" sTold f fd) (T : Txt K mg CP CH CD) (FR : Fun K "are_right" "are_right" sRight fr fdr) (bR : Binds K fdr ["w", "h", "r"] []) (gR : mg "are_right" = some (.ref fr)) :
    FnOk P w K mg base CX0 2 f fd ["w", "h", "r", "m", "slow"] spTold := by
  have GR : FnOk P w K mg base CX0 1 fr fdr ["w", "h", "r"] spRight := ok_right FR T
  refine F.ok scTold (fun vs H Q E h => ?_) (fun cdv A outer s H vs Q E hr h => ?_)
  · obtain ⟨z, rfl, _⟩ := h
    rfl
  · obtain ⟨z, rfl, k⟩ := h
    obtain ⟨t1, g1⟩ := T.slow
    refine ⟨_, pss_one (ps_ret (pe_and (pe_call GR hr (by rfl) gR FR.kp bR .nil pass0 (pa_cons (pv 0) (pa_cons (pv 1) (pa_cons (pv 2) pa_nil))))
      (pe_and (pe_cmpR op_lt (pe_op op_mul pe_int (pv 3)) (pe_callB (call_min2 rfl) (by rfl) T.min (by decide +kernel) (pa_cons (pv 0) (pa_cons (pv 1) pa_nil))) (nomark _))
        (pe_one (pe_cmpR op_le (pv 4) (pe_glob (by rfl) g1 (v := .int 65535) ⟨_, rfl⟩) (nomark _)))))), ?_⟩
    refine ⟨_, rfl, _, rfl, _, rfl, z.w, z.h, z.r, rfl, _, rfl, ?_⟩
    unfold Kh289.okSet at k
    cases e : Kh288.okSize z.w z.h z.r with
    | false =>
      rw [e] at k
      exact iteF k
    | true =>
      rw [e] at k
      refine iteT ⟨_, rfl, 2, _, rfl, rfl, .inl ⟨by decide, by decide⟩, _, rfl, _, rfl, _, _, rfl, _, _, rfl, rfl, _, rfl, ?_⟩
      by_cases c : (2 : Int) * (z.m : Int) < (if (z.h : Int) < (z.w : Int) then (z.h : Int) else (z.w : Int))
      · rw [decide_eq_true c]
        refine iteT ⟨_, rfl, _, _, rfl, rfl, ?_⟩
        have e1 : (true && (decide (2 * z.m < z.w) && (decide (2 * z.m < z.h) && decide (z.slow ≤ 65535)))) = decide ((z.slow : Int) ≤ 65535) := by
          rw [decide_eq_true (show 2 * z.m < z.w by split at c <;> omega), decide_eq_true (show 2 * z.m < z.h by split at c <;> omega)]
          rw [Bool.eq_iff_iff]
          simp only [Bool.true_and, decide_eq_true_eq]
          omega
        rw [e1] at k
        exact k
      · rw [decide_eq_false c]
        refine iteF ?_
        have e1 : (true && (decide (2 * z.m < z.w) && (decide (2 * z.m < z.h) && decide (z.slow ≤ 65535)))) = false := by
          rw [Bool.eq_false_iff]
          simp only [Bool.true_and, ne_eq, Bool.and_eq_true, decide_eq_true_eq]
          split at c <;> omega
        rw [e1] at k
        exact k
def spNearer : Sp := fun vs H Q _ => ∃ (v m : Int), vs = [.int v, .int m] ∧ Q (.int (Hs.nearTo m v)) H
theorem ok_nearer {f : Addr} {fd : FuncData} (F : Fun K "nearer" "nearer" sNearer f fd) (T : Txt K mg CP CH CD) : FnOk P w K mg base CX0 1 f fd ["number", "m"] spNearer := by
  refine F.ok scNearer (fun vs H Q E h => ?_) (fun cdv A outer s H vs Q E hr h => ?_)
  · obtain ⟨v, m, rfl, _⟩ := h
    rfl
  · obtain ⟨v, m, rfl, k⟩ := h
    refine ⟨_, pss_one (ps_ret (pe_op op_sub (pe_op op_add (pv 0) (pe_callTy call_int1 (by rfl) T.int (by decide +kernel) (pa_cons (pe_cmpR op_lt (pv 0) (pv 1) (nomark _)) pa_nil)))
      (pe_callTy call_int1 (by rfl) T.int (by decide +kernel) (pa_cons (pe_cmpR op_gt (pv 0) (pv 1) (nomark _)) pa_nil)))), ?_⟩
    exact ⟨_, rfl, _, rfl, _, rfl, _, _, rfl, rfl, .inr ⟨_, rfl, _, _, rfl, rfl, _, rfl, _, rfl, _, _, rfl, rfl, .inr ⟨_, rfl, _, _, rfl, rfl, k⟩⟩⟩
def spWithin : Sp := fun vs H Q _ => ∃ (v : Int) (m : Nat), vs = [.int v, .int m] ∧ Q (.int (Hs.withinOf m v)) H
theorem ok_within {f : Addr} {fd : FuncData} (F : Fun K "within" "within" sWithin f fd) (T : Txt K mg CP CH CD) : FnOk P w K mg base CX0 1 f fd ["number", "m"] spWithin := by
  refine F.ok scWithin (fun vs H Q E h => ?_) (fun cdv A outer s H vs Q E hr h => ?_)
  · obtain ⟨v, m, rfl, _⟩ := h
    rfl
  · obtain ⟨v, m, rfl, k⟩ := h
    refine ⟨_, pss_one (ps_ret (pe_callB (call_max2 rfl) (by rfl) T.max (by decide +kernel) (pa_cons pe_int (pa_cons (pe_callB (call_min2 rfl) (by rfl) T.min (by decide +kernel) (pa_cons (pe_op op_mul pe_int (pv 1)) (pa_cons (pv 0) pa_nil))) pa_nil)))), ?_⟩
    exact ⟨_, rfl, 2, _, rfl, rfl, .inl ⟨by decide, by decide⟩, _, rfl, _, _, rfl, _, _, rfl, k⟩

/-! ### Holder.__init__ -/
def spHInit (C : Addr) : Sp := fun vs H Q _ => ∃ (p dx : Addr) (z : Set_), vs = [.ref p, .int z.w, .int z.h, .int z.r, .int z.m, .int z.slow] ∧ H p = some (.ins C dx []) ∧
  ∀ H' : Hp, H' p = some (.ins C dx (hA (Kh289.begun z) .non)) → (∀ b o, H b = some o → b ≠ p → H' b = some o) → Q .non H'
theorem ok_hinit {f : Addr} {fd : FuncData} (F : Fun K "__init__" "Holder.__init__" sHInit f fd) (T : Txt K mg CP CH CD) : FnOk P w K mg base CX0 1 f fd ["self", "w", "h", "r", "m", "slow"] (spHInit CH) := by
  refine F.ok scHInit (fun vs H Q E h => ?_) (fun cdv A outer s H vs Q E hr h => ?_)
  · obtain ⟨p, dx, z, rfl, _⟩ := h
    rfl
  · obtain ⟨p, dx, z, rfl, hp, k⟩ := h
    refine ⟨_, pss_cons (ps_fld (pv 0) (pv 1) rfl) (pss_cons (ps_fld (pv 0) (pv 2) rfl) (pss_cons (ps_fld (pv 0) (pv 3) rfl) (pss_cons (ps_fld (pv 0) (pv 4) rfl) (pss_cons (ps_fld (pv 0) (pv 5) rfl)
      (pss_cons (ps_fld (pv 0) pe_non rfl) (pss_cons (ps_fld (pv 0) pe_int rfl) (pss_cons (ps_fld (pv 0) (pv 4) rfl) (pss_cons (ps_fld (pv 0) (pv 4) rfl) (pss_cons (ps_fld (pv 0) pe_int rfl) (pss_one (ps_fld (pv 0) pe_int rfl))))))))))), ?_⟩
    refine ⟨_, rfl, _, rfl, p, CH, dx, _, rfl, hp, T.clH, T.hw, (by show 0 < 1000; decide), ?_⟩
    refine ⟨_, rfl, _, rfl, p, CH, dx, _, rfl, upd_same, T.clH, T.hh, (by show 1 < 1000; decide), ?_⟩
    refine ⟨_, rfl, _, rfl, p, CH, dx, _, rfl, upd_same, T.clH, T.hr, (by show 2 < 1000; decide), ?_⟩
    refine ⟨_, rfl, _, rfl, p, CH, dx, _, rfl, upd_same, T.clH, T.hm, (by show 3 < 1000; decide), ?_⟩
    refine ⟨_, rfl, _, rfl, p, CH, dx, _, rfl, upd_same, T.clH, T.hs, (by show 4 < 1000; decide), ?_⟩
    refine ⟨_, rfl, p, CH, dx, _, rfl, upd_same, T.clH, T.hb, (by show 5 < 1000; decide), ?_⟩
    refine ⟨_, rfl, p, CH, dx, _, rfl, upd_same, T.clH, T.hn, (by show 6 < 1000; decide), ?_⟩
    refine ⟨_, rfl, _, rfl, p, CH, dx, _, rfl, upd_same, T.clH, T.hx, (by show 7 < 1000; decide), ?_⟩
    refine ⟨_, rfl, _, rfl, p, CH, dx, _, rfl, upd_same, T.clH, T.hy, (by show 8 < 1000; decide), ?_⟩
    refine ⟨_, rfl, p, CH, dx, _, rfl, upd_same, T.clH, T.hdx, (by show 9 < 1000; decide), ?_⟩
    refine ⟨_, rfl, p, CH, dx, _, rfl, upd_same, T.clH, T.hdy, (by show 10 < 1000; decide), ?_⟩
    refine k _ upd_same fun b o e n => ?_
    simp only [upd_ne n]
    exact e

/-! ### Holder.follow -/
def spFollow (CP CH tb : Addr) : Sp := fun vs H Q _ => ∃ (t t' a b q dx : Addr) (s : Abs) (pq p : Kh288.Pic), vs = [.ref a, .ref b] ∧ H a = some (.ins CH dx (hA s (.ref q))) ∧ PicAt CP H t q pq ∧ PicAt CP H t' b p ∧
  pq.w = s.set.w ∧ pq.h = s.set.h ∧ pq.b.length = pq.w * pq.h ∧ p.w = s.set.w ∧ p.h = s.set.h ∧ p.b.length = p.w * p.h ∧ Kh289.okSet s.set = true ∧ TabS H tb qL ∧
  ∀ H' : Hp, Kept a H H' → TabS H' tb qL → H' a = some (.ins CH dx (hA (Hs.followed s (Kh288.find pq p s.set.r).2) (.ref q))) → Q .non H'
theorem ok_follow {f ff tb : Addr} {fd fdf : FuncData} (F : Fun K "follow" "Holder.follow" sFollow f fd) (T : Txt K mg CP CH CD) (GF : FnOk P w K mg base CX0 3 ff fdf ["before", "after", "r"] (spFound CP tb)) (kF : PySem.W.keepIn K (.ref ff) = true) (bF : Binds K fdf ["before", "after", "r"] []) (gF : mg "found_shift" = some (.ref ff)) :
    FnOk P w K mg base CX0 4 f fd ["self", "picture"] (spFollow CP CH tb) := by
  refine F.ok scFollow (fun vs H Q E h => ?_) (fun cdv A outer s H vs Q E hr h => ?_)
  · obtain ⟨t, t', a, b, q, dx, s, pq, p, rfl, _⟩ := h
    rfl
  · obtain ⟨t, t', a, b, q, dx, s, pq, p, rfl, ha, hq, hp, h1, h2, h3, h4, h5, h6, hok, hT, k⟩ := h
    refine ⟨_, pss_cons (ps_asg (pe_call GF hr (by rfl) gF kF bF .nil pass0 (pa_cons (pe_fld (pv 0) rfl) (pa_cons (pv 1) (pa_cons (pe_fld (pv 0) rfl) pa_nil)))) (pg_tup rfl (pgs_cons (pg_name (i := 2) scFollow.nd rfl (.inl rfl)) (pgs_cons (pg_name (i := 3) scFollow.nd rfl (.inl rfl)) pgs_nil))))
      (pss_cons (ps_fld (pv 0) (pe_op op_add (pe_fld (pv 0) rfl) (pv 2)) rfl) (pss_cons (ps_fld (pv 0) (pe_op op_add (pe_fld (pv 0) rfl) (pv 3)) rfl)
      (pss_cons (ps_fld (pv 0) (pe_op op_add (pe_fld (pv 0) rfl) (pv 2)) rfl) (pss_one (ps_fld (pv 0) (pe_op op_add (pe_fld (pv 0) rfl) (pv 3)) rfl))))), ?_⟩
    obtain ⟨o1, o2, o3, o4, o5, o6, o7, o8⟩ := Hs.okSet_iff.mp hok
    refine ⟨_, rfl, a, CH, dx, _, _, rfl, ha, T.clH, T.hb, hA_before _ _, _, rfl, _, rfl, a, CH, dx, _, _, rfl, ha, T.clH, T.hr, hA_r _ _, ?_⟩
    refine ⟨t, t', q, b, pq, p, s.set.r, rfl, hq, hp, by omega, by omega, h3, h6, o1, by omega, by omega, by omega, by omega, hT, fun H1 d e1 hT1 ed => ?_⟩
    have ha1 : H1 a = some (.ins CH dx (hA s (.ref q))) := e1 _ _ ha fun _ z => nomatch z
    have k1 : Kept a H H1 := (Kept.refl H).ext e1
    refine ⟨d, _, rfl, SqT.of ed, rfl, _, _, rfl, _, _, rfl, rfl, ?_⟩
    refine ⟨_, rfl, a, CH, dx, _, _, rfl, ha1, T.clH, T.hdx, hA_dx _ _, _, rfl, _, _, rfl, rfl, _, rfl, a, CH, dx, _, rfl, ha1, T.clH, T.hdx, hA_len _ _, ?_⟩
    rw [hA_pdx]
    refine ⟨_, rfl, a, CH, dx, _, _, rfl, upd_same, T.clH, T.hdy, hA_dy _ _, _, rfl, _, _, rfl, rfl, _, rfl, a, CH, dx, _, rfl, upd_same, T.clH, T.hdy, hA_len _ _, ?_⟩
    rw [hA_pdy]
    refine ⟨_, rfl, a, CH, dx, _, _, rfl, upd_same, T.clH, T.hx, hA_x _ _, _, rfl, _, _, rfl, rfl, _, rfl, a, CH, dx, _, rfl, upd_same, T.clH, T.hx, hA_len _ _, ?_⟩
    rw [hA_px]
    refine ⟨_, rfl, a, CH, dx, _, _, rfl, upd_same, T.clH, T.hy, hA_y _ _, _, rfl, _, _, rfl, rfl, _, rfl, a, CH, dx, _, rfl, upd_same, T.clH, T.hy, hA_len _ _, ?_⟩
    rw [hA_py]
    exact k _ k1.upd.upd.upd.upd (tab_ins (tab_ins (tab_ins (tab_ins hT1 ha1) upd_same) upd_same) upd_same) upd_same

/-! ### Holder.give_way, Holder.stay_within -/
def spGive (CH tb : Addr) (stp : Abs → Abs × Bool) : Sp := fun vs H Q _ => ∃ (a dx : Addr) (s : Abs) (bv : V), vs = [.ref a] ∧ H a = some (.ins CH dx (hA s bv)) ∧ TabS H tb qL ∧
  ∀ H' : Hp, Kept a H H' → TabS H' tb qL → H' a = some (.ins CH dx (hA (stp s).1 bv)) → Q (.bl (stp s).2) H'
theorem eqv_two (a b c d : Int) : PyData.eqv (.tuple [.int a, .int b]) (.tuple [.int c, .int d]) = decide (a = c ∧ b = d) := by
  simp only [PyData.eqv, PyData.eqvAll, Bool.and_true]
  rw [Bool.eq_iff_iff]
  simp only [Bool.and_eq_true, beq_iff_eq, decide_eq_true_eq]
theorem shaped_two (a b : Int) : SeqAt.shaped (.tuple [.int a, .int b]) = true := by
  simp [SeqAt.shaped, PyData.canLay0, PyData.canLayAll0, PyData.depth, PyData.depthAll]
theorem dp_two {K : PySem.W.Frag} {H : Hp} {p : Addr} {a b : Int} (h : H p = some (.tup [.int a, .int b])) : Dp K H (.ref p) (.tuple [.int a, .int b]) := .tup (SqT.of h) (.cons (.int a) (.cons (.int b) .nil))
theorem ok_give {f fn tb : Addr} {fd fdn : FuncData} (F : Fun K "give_way" "Holder.give_way" sGive f fd) (T : Txt K mg CP CH CD) (FN : Fun K "nearer" "nearer" sNearer fn fdn) (bN : Binds K fdn ["number", "m"] []) (gN : mg "nearer" = some (.ref fn)) :
    FnOk P w K mg base CX0 2 f fd ["self"] (spGive CH tb Hs.gave) := by
  have GN : FnOk P w K mg base CX0 1 fn fdn ["number", "m"] spNearer := ok_nearer FN T
  refine F.ok scGive (fun vs H Q E h => ?_) (fun cdv A outer s H vs Q E hr h => ?_)
  · obtain ⟨a, dx, s, bv, rfl, _⟩ := h
    rfl
  · obtain ⟨a, dx, s, bv, rfl, ha, hT, k⟩ := h
    refine ⟨_, pss_cons (ps_if (PW.pt (pw_or (pt_cmpR op_eq (pe_fld (pv 0) rfl) pe_int (nomark _)) (pw_or1 (pt_cmpR op_ne (pe_op op_mod (pe_fld (pv 0) rfl) (pe_fld (pv 0) rfl)) pe_int (nomark _))))) (pss_one (ps_ret pe_bl)) pss_nil)
      (pss_cons (ps_set (i := 1) scGive.nd rfl (.inl rfl) (pe_tup (pa_cons (pe_fld (pv 0) rfl) (pa_cons (pe_fld (pv 0) rfl) pa_nil))))
      (pss_cons (ps_fld (pv 0) (pe_call GN hr (by rfl) gN FN.kp bN .nil pass0 (pa_cons (pe_fld (pv 0) rfl) (pa_cons (pe_fld (pv 0) rfl) pa_nil))) rfl)
      (pss_cons (ps_fld (pv 0) (pe_call GN hr (by rfl) gN FN.kp bN .nil pass0 (pa_cons (pe_fld (pv 0) rfl) (pa_cons (pe_fld (pv 0) rfl) pa_nil))) rfl)
      (pss_one (ps_ret (pe_cmpR (op_neD hr.units) (pv 1) (pe_tup (pa_cons (pe_fld (pv 0) rfl) (pa_cons (pe_fld (pv 0) rfl) pa_nil))) (nomark _)))))))
, ?_⟩
    have a1 : Ans (tTest (tOp rEq (tFld K (tVar 0) "slow") (tC (.int 0)))) (L2.start ["self", "was"] [.ref a]) H (decide (V.int s.set.slow = V.int 0)) := fun Q q =>
      ⟨_, rfl, a, CH, dx, _, _, rfl, ha, T.clH, T.hs, hA_slow _ _, rfl, _, rfl, q⟩
    by_cases c1 : s.set.slow = 0
    · have e1 : decide (V.int s.set.slow = V.int 0) = true := decide_eq_true (by rw [c1]; rfl)
      refine st_yes (ans_or1 (a1.to e1)) ?_
      have e : Hs.gave s = (s, false) := by
        unfold Hs.gave Hs.goes
        rw [if_neg]
        simp [c1]
      rw [e] at k
      exact k H (Kept.refl H) hT ha
    · have e1 : decide (V.int s.set.slow = V.int 0) = false := decide_eq_false fun z => c1 (by
        injection z with z
        omega)
      have a2 : Ans (tTest (tOp rNe (tOp (rI (fun _ j => 0 < j) fun i j => .int (i % j)) (tFld K (tVar 0) "many") (tFld K (tVar 0) "slow")) (tC (.int 0)))) (L2.start ["self", "was"] [.ref a]) H (!decide (V.int ((s.many : Int) % (s.set.slow : Int)) = V.int 0)) := fun Q q =>
        ⟨_, rfl, a, CH, dx, _, _, rfl, ha, T.clH, T.hn, hA_many _ _, _, rfl, a, CH, dx, _, _, rfl, ha, T.clH, T.hs, hA_slow _ _, _, _, rfl, rfl, by omega, rfl, _, rfl, q⟩
      have em : decide (V.int ((s.many : Int) % (s.set.slow : Int)) = V.int 0) = (s.many % s.set.slow == 0) := by
        rw [Bool.eq_iff_iff, decide_eq_true_eq, beq_iff_eq]
        constructor
        · intro z
          injection z with z
          omega
        · intro z
          congr 1
          omega
      by_cases c2 : s.many % s.set.slow = 0
      · have e2 : (!decide (V.int ((s.many : Int) % (s.set.slow : Int)) = V.int 0)) = false := by rw [em, beq_iff_eq.mpr c2]; rfl
        refine st_no (ans_or (a1.to e1) (a2.to e2)) ?_
        have hg : Hs.goes s = true := by
          unfold Hs.goes
          simp [c1, c2]
        have e : Hs.gave s = (Hs.gaveTo s, !decide (s.x = (Hs.gaveTo s).x ∧ s.y = (Hs.gaveTo s).y)) := if_pos hg
        rw [e] at k
        -- the pair of before
        refine ⟨_, rfl, a, CH, dx, _, _, rfl, ha, T.clH, T.hx, hA_x _ _, _, rfl, a, CH, dx, _, _, rfl, ha, T.clH, T.hy, hA_y _ _, (by show 2 ≤ sizeLine; decide), fun wa nwa => ?_⟩
        have na : a ≠ wa := fun z => by
          rw [← z, ha] at nwa
          cases nwa
        have ha1 : (upd H wa (.tup [.int s.x, .int s.y])) a = some (.ins CH dx (hA s bv)) := by
          rw [upd_ne na]
          exact ha
        have hw1 : (upd H wa (.tup [.int s.x, .int s.y])) wa = some (.tup [.int s.x, .int s.y]) := upd_same
        have k1 : Kept a H (upd H wa (.tup [.int s.x, .int s.y])) := (Kept.refl H).put nwa
        have hT1 := tab_new (o := .tup [.int s.x, .int s.y]) hT nwa
        refine ⟨_, rfl, a, CH, dx, _, _, rfl, ha1, T.clH, T.hx, hA_x _ _, _, rfl, a, CH, dx, _, _, rfl, ha1, T.clH, T.hm, hA_m _ _, s.x, (s.set.m : Int), rfl, _, rfl, a, CH, dx, _, rfl, ha1, T.clH, T.hx, hA_len _ _, ?_⟩
        rw [hA_px]
        refine ⟨_, rfl, a, CH, dx, _, _, rfl, upd_same, T.clH, T.hy, hA_y _ _, _, rfl, a, CH, dx, _, _, rfl, upd_same, T.clH, T.hm, hA_m _ _, s.y, (s.set.m : Int), rfl, _, rfl, a, CH, dx, _, rfl, upd_same, T.clH, T.hy, hA_len _ _, ?_⟩
        rw [hA_py, upd_upd]
        -- whether it differs
        refine ⟨_, rfl, _, rfl, a, CH, dx, _, _, rfl, upd_same, T.clH, T.hx, hA_x _ _, _, rfl, a, CH, dx, _, _, rfl, upd_same, T.clH, T.hy, hA_y _ _, (by show 2 ≤ sizeLine; decide), fun p np => ?_⟩
        have nap : a ≠ p := fun z => by
          rw [← z, upd_same] at np
          cases np
        have nwp : wa ≠ p := fun z => by
          rw [← z, upd_ne (Ne.symm na), hw1] at np
          cases np
        refine ⟨_, _, dp_two (a := s.x) (b := s.y) (by rw [upd_ne nwp, upd_ne (Ne.symm na)]; exact hw1), dp_two upd_same, shaped_two _ _, shaped_two _ _, ?_⟩
        rw [eqv_two]
        have npH : H p = none := by
          have q := np
          rw [upd_ne (Ne.symm nap), upd_ne (Ne.symm nwp)] at q
          exact q
        refine k _ (Kept.put (Kept.upd k1) npH) (tab_new (tab_ins hT1 ha1) np) ?_
        rw [upd_ne nap, upd_same]
        rfl
      · have e2 : (!decide (V.int ((s.many : Int) % (s.set.slow : Int)) = V.int 0)) = true := by
          rw [em, beq_eq_false_iff_ne.mpr c2]
          rfl
        refine st_yes (ans_or (a1.to e1) (a2.to e2)) ?_
        have e : Hs.gave s = (s, false) := by
          unfold Hs.gave Hs.goes
          rw [if_neg]
          simp [c1, c2]
        rw [e] at k
        exact k H (Kept.refl H) hT ha
theorem ok_stay {f fn tb : Addr} {fd fdn : FuncData} (F : Fun K "stay_within" "Holder.stay_within" sStay f fd) (T : Txt K mg CP CH CD) (FN : Fun K "within" "within" sWithin fn fdn) (bN : Binds K fdn ["number", "m"] []) (gN : mg "within" = some (.ref fn)) :
    FnOk P w K mg base CX0 2 f fd ["self"] (spGive CH tb Hs.stayed) := by
  have GN : FnOk P w K mg base CX0 1 fn fdn ["number", "m"] spWithin := ok_within FN T
  refine F.ok scStay (fun vs H Q E h => ?_) (fun cdv A outer s H vs Q E hr h => ?_)
  · obtain ⟨a, dx, s, bv, rfl, _⟩ := h
    rfl
  · obtain ⟨a, dx, s, bv, rfl, ha, hT, k⟩ := h
    refine ⟨_, pss_cons (ps_set (i := 1) scStay.nd rfl (.inl rfl) (pe_tup (pa_cons (pe_fld (pv 0) rfl) (pa_cons (pe_fld (pv 0) rfl) pa_nil))))
      (pss_cons (ps_fld (pv 0) (pe_call GN hr (by rfl) gN FN.kp bN .nil pass0 (pa_cons (pe_fld (pv 0) rfl) (pa_cons (pe_fld (pv 0) rfl) pa_nil))) rfl)
      (pss_cons (ps_fld (pv 0) (pe_call GN hr (by rfl) gN FN.kp bN .nil pass0 (pa_cons (pe_fld (pv 0) rfl) (pa_cons (pe_fld (pv 0) rfl) pa_nil))) rfl)
      (pss_one (ps_ret (pe_cmpR (op_neD hr.units) (pv 1) (pe_tup (pa_cons (pe_fld (pv 0) rfl) (pa_cons (pe_fld (pv 0) rfl) pa_nil))) (nomark _)))))), ?_⟩
    refine ⟨_, rfl, a, CH, dx, _, _, rfl, ha, T.clH, T.hx, hA_x _ _, _, rfl, a, CH, dx, _, _, rfl, ha, T.clH, T.hy, hA_y _ _, (by show 2 ≤ sizeLine; decide), fun wa nwa => ?_⟩
    have na : a ≠ wa := fun z => by
      rw [← z, ha] at nwa
      cases nwa
    have ha1 : (upd H wa (.tup [.int s.x, .int s.y])) a = some (.ins CH dx (hA s bv)) := by
      rw [upd_ne na]
      exact ha
    have hw1 : (upd H wa (.tup [.int s.x, .int s.y])) wa = some (.tup [.int s.x, .int s.y]) := upd_same
    have k1 : Kept a H (upd H wa (.tup [.int s.x, .int s.y])) := (Kept.refl H).put nwa
    have hT1 := tab_new (o := .tup [.int s.x, .int s.y]) hT nwa
    refine ⟨_, rfl, a, CH, dx, _, _, rfl, ha1, T.clH, T.hx, hA_x _ _, _, rfl, a, CH, dx, _, _, rfl, ha1, T.clH, T.hm, hA_m _ _, s.x, s.set.m, rfl, _, rfl, a, CH, dx, _, rfl, ha1, T.clH, T.hx, hA_len _ _, ?_⟩
    rw [hA_px]
    refine ⟨_, rfl, a, CH, dx, _, _, rfl, upd_same, T.clH, T.hy, hA_y _ _, _, rfl, a, CH, dx, _, _, rfl, upd_same, T.clH, T.hm, hA_m _ _, s.y, s.set.m, rfl, _, rfl, a, CH, dx, _, rfl, upd_same, T.clH, T.hy, hA_len _ _, ?_⟩
    rw [hA_py, upd_upd]
    refine ⟨_, rfl, _, rfl, a, CH, dx, _, _, rfl, upd_same, T.clH, T.hx, hA_x _ _, _, rfl, a, CH, dx, _, _, rfl, upd_same, T.clH, T.hy, hA_y _ _, (by show 2 ≤ sizeLine; decide), fun p np => ?_⟩
    have nap : a ≠ p := fun z => by
      rw [← z, upd_same] at np
      cases np
    have nwp : wa ≠ p := fun z => by
      rw [← z, upd_ne (Ne.symm na), hw1] at np
      cases np
    refine ⟨_, _, dp_two (a := s.x) (b := s.y) (by rw [upd_ne nwp, upd_ne (Ne.symm na)]; exact hw1), dp_two upd_same, shaped_two _ _, shaped_two _ _, ?_⟩
    rw [eqv_two]
    have npH : H p = none := by
      have q := np
      rw [upd_ne (Ne.symm nap), upd_ne (Ne.symm nwp)] at q
      exact q
    refine k _ (Kept.put (Kept.upd k1) npH) (tab_new (tab_ins hT1 ha1) np) ?_
    rw [upd_ne nap, upd_same]
    rfl
end
end HsW
set_option Elab.async false
set_option maxRecDepth 100000
set_option maxHeartbeats 4000000
/-! Holder.shown, frame, where. -/
namespace HsW
open PySem PySem.Spec PyProof.Rows L2 LamX HsS
open Kh289 (Abs Set_)

theorem scFrame : FnScope ["self", "w", "h", "m", "greys", "picture", "answer"] ["self", "w", "h", "m", "greys"] (defScope sFrame) := ⟨rfl, rfl, rfl, by decide +kernel, rfl, by decide +kernel, by decide +kernel⟩
theorem hA_part (s : Abs) (bv : V) : (hA s bv).lookup ("part" : Str) = none := rfl
theorem hA_follow (s : Abs) (bv : V) : (hA s bv).lookup ("follow" : Str) = none := rfl
theorem hA_give (s : Abs) (bv : V) : (hA s bv).lookup ("give_way" : Str) = none := rfl
theorem hA_stay (s : Abs) (bv : V) : (hA s bv).lookup ("stay_within" : Str) = none := rfl
theorem hA_shown (s : Abs) (bv : V) : (hA s bv).lookup ("shown" : Str) = none := rfl
theorem hA_frame (s : Abs) (bv : V) : (hA s bv).lookup ("frame" : Str) = none := rfl
theorem hA_where (s : Abs) (bv : V) : (hA s bv).lookup ("where" : Str) = none := rfl
section
variable {P : Program} {w : World} {K : PySem.W.Frag} {mg : Str → Option Value} {base : Heap} {CP CH CD : Addr}

/-! ### Holder.shown -/
def spShown (CP CH : Addr) : Sp := fun vs H Q _ => ∃ (t a b dx : Addr) (s : Abs) (bv : V) (p : Kh288.Pic), vs = [.ref a, .ref b] ∧ H a = some (.ins CH dx (hA s bv)) ∧ PicAt CP H t b p ∧ p.w = s.set.w ∧ p.h = s.set.h ∧ p.b.length = p.w * p.h ∧ s.set.w ≤ 256 ∧ s.set.h ≤ 256 ∧ 2 * s.set.m < s.set.w ∧ 2 * s.set.m < s.set.h ∧
  0 ≤ s.x ∧ s.x ≤ 2 * (s.set.m : Int) ∧ 0 ≤ s.y ∧ s.y ≤ 2 * (s.set.m : Int) ∧
  ∀ (H' : Hp) (r : Addr), Same H H' → H r = none → H' r = some (.lst (vI (s.x :: s.y :: (Kh289.shown s.set p s.x s.y).map Int.ofNat))) → Q (.ref r) H'
theorem ok_shown {f fp : Addr} {fd fdp : FuncData} (F : Fun K "shown" "Holder.shown" sShown f fd) (T : Txt K mg CP CH CD) (FP : Fun K "part" "Picture.part" sPart fp fdp) (bP : Binds K fdp ["self", "x", "y", "w", "h"] []) (mP : Meth K CP "part" fp) :
    FnOk P w K mg base CX0 2 f fd ["self", "picture"] (spShown CP CH) := by
  have GP : FnOk P w K mg base CX0 1 fp fdp ["self", "x", "y", "w", "h"] (spPart CP) := ok_part FP T
  refine F.ok scShown (fun vs H Q E h => ?_) (fun cdv A outer s H vs Q E hr h => ?_)
  · obtain ⟨t, a, b, dx, s, bv, p, rfl, _⟩ := h
    rfl
  · obtain ⟨t, a, b, dx, s, bv, p, rfl, ha, hp, h1, h2, h3, h4, h5, h6, h7, x0, x1, y0, y1, k⟩ := h
    refine ⟨_, pss_one (ps_ret (pe_op op_cat (pe_lst (pa_cons (pe_fld (pv 0) rfl) (pa_cons (pe_fld (pv 0) rfl) pa_nil)))
      (pe_meth (pv 1) T.clP mP GP hr bP .nil pass0 (pa_cons (pe_fld (pv 0) rfl) (pa_cons (pe_fld (pv 0) rfl) (pa_cons (pe_op op_sub (pe_fld (pv 0) rfl) (pe_op op_mul pe_int (pe_fld (pv 0) rfl))) (pa_cons (pe_op op_sub (pe_fld (pv 0) rfl) (pe_op op_mul pe_int (pe_fld (pv 0) rfl))) pa_nil))))))), ?_⟩
    refine ⟨_, rfl, a, CH, dx, _, _, rfl, ha, T.clH, T.hx, hA_x _ _, _, rfl, a, CH, dx, _, _, rfl, ha, T.clH, T.hy, hA_y _ _, (by show 2 ≤ sizeLine; decide), fun l nl => ?_⟩
    have s1 : Same H (upd H l (.lst [.int s.x, .int s.y])) := same_new nl
    have ha1 := s1 _ _ ha
    obtain ⟨dxp, ra, rb, hp1, hrest⟩ := hp.ext (ext_same s1)
    refine ⟨_, rfl, b, dxp, _, rfl, hp1, picF_part _ _ _, ?_⟩
    refine ⟨_, rfl, a, CH, dx, _, _, rfl, ha1, T.clH, T.hx, hA_x _ _, _, rfl, a, CH, dx, _, _, rfl, ha1, T.clH, T.hy, hA_y _ _, ?_⟩
    refine ⟨_, rfl, a, CH, dx, _, _, rfl, ha1, T.clH, T.hw, hA_w _ _, _, rfl, a, CH, dx, _, _, rfl, ha1, T.clH, T.hm, hA_m _ _, 2, _, rfl, rfl, .inl ⟨by decide, by decide⟩, _, _, rfl, rfl, ?_⟩
    refine ⟨_, rfl, a, CH, dx, _, _, rfl, ha1, T.clH, T.hh, hA_h _ _, _, rfl, a, CH, dx, _, _, rfl, ha1, T.clH, T.hm, hA_m _ _, 2, _, rfl, rfl, .inl ⟨by decide, by decide⟩, _, _, rfl, rfl, ?_⟩
    refine ⟨t, b, p, s.x.toNat, s.y.toNat, s.set.w - 2 * s.set.m, s.set.h - 2 * s.set.m, ?_, hp.ext (ext_same s1), by omega, by omega, fun H2 r s2 nr er => ?_⟩
    · show [V.ref b, V.int s.x, V.int s.y, V.int ((s.set.w : Int) - 2 * (s.set.m : Int)), V.int ((s.set.h : Int) - 2 * (s.set.m : Int))] = _
      rw [show (s.set.w : Int) - 2 * (s.set.m : Int) = ((s.set.w - 2 * s.set.m : Nat) : Int) by omega, show (s.set.h : Int) - 2 * (s.set.m : Int) = ((s.set.h - 2 * s.set.m : Nat) : Int) by omega, Int.toNat_of_nonneg x0, Int.toNat_of_nonneg y0]
    · have es := Hs.shown_part (z := s.set) h3 h1 h2 (x := s.x.toNat) (y := s.y.toNat) (by omega) (by omega) (by omega) (by omega)
      rw [Int.toNat_of_nonneg x0, Int.toNat_of_nonneg y0] at es
      have hlen : (Hs.part (Hs.rowsOf p) s.x.toNat s.y.toNat (s.set.w - 2 * s.set.m) (s.set.h - 2 * s.set.m)).length ≤ 65536 := by
        refine Nat.le_trans Hs.part_length ?_
        exact Nat.le_trans (Nat.mul_le_mul (show s.set.w - 2 * s.set.m ≤ 256 by omega) (show s.set.h - 2 * s.set.m ≤ 256 by omega)) (by decide)
      refine ⟨l, r, _, _, rfl, rfl, s2 _ _ upd_same, er, ?_, fun q nq => ?_⟩
      · rw [vI_length, sizeLine_eq]
        show 2 + _ ≤ _
        omega
      · refine k _ q (same_put (s1.trans s2) (same_none (s1.trans s2) nq)) (same_none (s1.trans s2) nq) ?_
        rw [upd_same, es]
        rfl

/-! ### Holder.where -/
def spWhere (CH : Addr) : Sp := fun vs H Q _ => ∃ (a dx : Addr) (s : Abs) (bv : V), vs = [.ref a] ∧ H a = some (.ins CH dx (hA s bv)) ∧
  ∀ (H' : Hp) (r : Addr), Same H H' → H r = none → H' r = some (.lst (vI [0, s.dx, s.dy, (s.many : Int)])) → Q (.ref r) H'
theorem ok_where {f : Addr} {fd : FuncData} (F : Fun K "where" "Holder.where" sWhere f fd) (T : Txt K mg CP CH CD) : FnOk P w K mg base CX0 1 f fd ["self"] (spWhere CH) := by
  refine F.ok scWhere (fun vs H Q E h => ?_) (fun cdv A outer s H vs Q E hr h => ?_)
  · obtain ⟨a, dx, s, bv, rfl, _⟩ := h
    rfl
  · obtain ⟨a, dx, s, bv, rfl, ha, k⟩ := h
    refine ⟨_, pss_one (ps_ret (pe_lst (pa_cons pe_int (pa_cons (pe_fld (pv 0) rfl) (pa_cons (pe_fld (pv 0) rfl) (pa_cons (pe_fld (pv 0) rfl) pa_nil)))))), ?_⟩
    refine ⟨_, rfl, a, CH, dx, _, _, rfl, ha, T.clH, T.hdx, hA_dx _ _, _, rfl, a, CH, dx, _, _, rfl, ha, T.clH, T.hdy, hA_dy _ _, _, rfl, a, CH, dx, _, _, rfl, ha, T.clH, T.hn, hA_many _ _, (by show 4 ≤ sizeLine; decide), fun l nl => ?_⟩
    exact k _ l (same_new nl) nl upd_same

/-! ### Holder.frame -/
/-- a holder at a, its pictures' lists apart from t -/
def HolAt (CP CH : Addr) (H : Hp) (t a : Addr) (s : Abs) : Prop := ∃ (dx : Addr) (bv : V), H a = some (.ins CH dx (hA s bv)) ∧ ((s.last = none ∧ bv = .non) ∨ ∃ (q : Addr) (p : Kh288.Pic), s.last = some p ∧ bv = .ref q ∧ PicAt CP H t q p)
theorem HolAt.kept {H H' : Hp} {t a : Addr} {s : Abs} {x C' dx' : Addr} {fs : List (Str × V)} (h : HolAt CP CH H t a s) (e : Kept x H H') (hx : H x = some (.ins C' dx' fs)) (h3 : fs.length ≠ 3) (h11 : fs.length ≠ 11) : HolAt CP CH H' t a s := by
  obtain ⟨dx, bv, ha, h⟩ := h
  refine ⟨dx, bv, e _ _ ha (ne_of ha hx fun z => ?_) (fun _ z => nomatch z), ?_⟩
  · injection z with _ _ z3
    rw [← z3] at h11
    exact h11 rfl
  · rcases h with h | ⟨q, p, h1, h2, hp⟩
    · exact .inl h
    · exact .inr ⟨q, p, h1, h2, hp.kept e hx h3⟩
theorem HolAt.ext {H H' : Hp} {t a : Addr} {s : Abs} (h : HolAt CP CH H t a s) (e : ExtN H H') : HolAt CP CH H' t a s := by
  obtain ⟨dx, bv, ha, h⟩ := h
  refine ⟨dx, bv, e _ _ ha (fun _ z => nomatch z), ?_⟩
  rcases h with h | ⟨q, p, h1, h2, hp⟩
  · exact .inl h
  · exact .inr ⟨q, p, h1, h2, hp.ext e⟩
/-- what a frame answers -/
def frameAns (s : Abs) (p : Kh288.Pic) : List Int := (Kh289.next s p).2.value :: ((Kh289.next s p).2.nums ++ (Kh289.next s p).2.out.map Int.ofNat)
def spFrame (K : PySem.W.Frag) (CP CH tb : Addr) : Sp := fun vs H Q _ => ∃ (t a g : Addr) (s : Abs) (m : Nat) (p : Kh288.Pic), vs = [.ref a, .int p.w, .int p.h, .int m, .ref g] ∧ HolAt CP CH H t a s ∧ Hs.Wf s ∧ SqL K H g (vI (p.b.map Int.ofNat)) ∧ (p.w = s.set.w → p.h = s.set.h → p.b.length = p.w * p.h) ∧ (∃ xs, H t = some (.lst xs)) ∧ TabS H tb qL ∧
  (¬ (p.w = s.set.w ∧ p.h = s.set.h ∧ m = s.set.m) → ∀ (H' : Hp) (r : Addr), Kept a H H' → TabS H' tb qL → HolAt CP CH H' t a s → r ≠ t → H' r = some (.lst (vI [-22])) → Q (.ref r) H') ∧
  (p.w = s.set.w ∧ p.h = s.set.h ∧ m = s.set.m → ∀ (H' : Hp) (r : Addr), Kept a H H' → TabS H' tb qL → HolAt CP CH H' t a (Kh289.next s p).1 → r ≠ t → H' r = some (.lst (vI (frameAns s p))) → Q (.ref r) H')
theorem eqv_three (a b c d e f : Int) : PyData.eqv (.tuple [.int a, .int b, .int c]) (.tuple [.int d, .int e, .int f]) = decide (a = d ∧ b = e ∧ c = f) := by
  simp only [PyData.eqv, PyData.eqvAll, Bool.and_true]
  rw [Bool.eq_iff_iff]
  simp only [Bool.and_eq_true, beq_iff_eq, decide_eq_true_eq]
theorem shaped_three (a b c : Int) : SeqAt.shaped (.tuple [.int a, .int b, .int c]) = true := by
  simp [SeqAt.shaped, PyData.canLay0, PyData.canLayAll0, PyData.depth, PyData.depthAll]
theorem dp_three {K : PySem.W.Frag} {H : Hp} {p : Addr} {a b c : Int} (h : H p = some (.tup [.int a, .int b, .int c])) : Dp K H (.ref p) (.tuple [.int a, .int b, .int c]) := .tup (SqT.of h) (.cons (.int a) (.cons (.int b) (.cons (.int c) .nil)))
theorem gave_x (s : Abs) (d : Int × Int) : (Hs.gave (Hs.followed s d)).1.set = s.set := by
  rw [Hs.gave_set]
  rfl
theorem ok_frame {f fi ff fg fs fh fp tb : Addr} {fd fdi fdf fdg fds fdh fdp : FuncData} (F : Fun K "frame" "Holder.frame" sFrame f fd) (T : Txt K mg CP CH CD)
    (M : Mk K CP fi) (FI : Fun K "__init__" "Picture.__init__" sPInit fi fdi) (bI : Binds K fdi ["self", "w", "h", "greys"] [])
    (GF : FnOk P w K mg base CX0 4 ff fdf ["self", "picture"] (spFollow CP CH tb)) (bF : Binds K fdf ["self", "picture"] []) (mF : Meth K CH "follow" ff)
    (GG : FnOk P w K mg base CX0 2 fg fdg ["self"] (spGive CH tb Hs.gave)) (bG : Binds K fdg ["self"] []) (mG : Meth K CH "give_way" fg)
    (GS : FnOk P w K mg base CX0 2 fs fds ["self"] (spGive CH tb Hs.stayed)) (bS : Binds K fds ["self"] []) (mS : Meth K CH "stay_within" fs)
    (FH : Fun K "shown" "Holder.shown" sShown fh fdh) (bH : Binds K fdh ["self", "picture"] []) (mH : Meth K CH "shown" fh) (FP : Fun K "part" "Picture.part" sPart fp fdp) (bP : Binds K fdp ["self", "x", "y", "w", "h"] []) (mP : Meth K CP "part" fp) :
    FnOk P w K mg base CX0 5 f fd ["self", "w", "h", "m", "greys"] (spFrame K CP CH tb) := by
  have GI : FnOk P w K mg base CX0 1 fi fdi ["self", "w", "h", "greys"] (spPicInit K CP) := ok_picInit FI T
  have GH : FnOk P w K mg base CX0 2 fh fdh ["self", "picture"] (spShown CP CH) := ok_shown FH T FP bP mP
  refine F.ok scFrame (fun vs H Q E h => ?_) (fun cdv A outer s H vs Q E hr h => ?_)
  · obtain ⟨t, a, g, s, m, p, rfl, _⟩ := h
    rfl
  · obtain ⟨t, a, g, s, m, p, rfl, ⟨dx, bv, ha, hbv⟩, hwf, hg, hlen, ⟨xs, ht⟩, hT, kN, kY⟩ := h
    have hr2 : Room 2 _ := hr.mono (by decide)
    refine ⟨_, pss_cons (ps_if (pt_cmpR (op_neD hr.units) (pe_tup (pa_cons (pv 1) (pa_cons (pv 2) (pa_cons (pv 3) pa_nil)))) (pe_tup (pa_cons (pe_fld (pv 0) rfl) (pa_cons (pe_fld (pv 0) rfl) (pa_cons (pe_fld (pv 0) rfl) pa_nil)))) (nomark _))
        (pss_one (ps_ret (pe_lst (pa_cons (pe_un un_neg pe_int) pa_nil)))) pss_nil)
      (pss_cons (ps_set (i := 5) scFrame.nd rfl (.inl rfl) (pe_make M GI hr2 (by rfl) T.gP bI .nil pass0 (pa_cons (pv 1) (pa_cons (pv 2) (pa_cons (pv 4) pa_nil)))))
      (pss_cons (ps_set (i := 6) scFrame.nd rfl (.inl rfl) pe_int)
      (pss_cons (ps_if (pt_cmpR op_notN (pe_fld (pv 0) rfl) pe_non (nomark _))
        (pss_cons (ps_expr (pe_meth (pv 0) T.clH mF GF hr bF .nil pass0 (pa_cons (pv 5) pa_nil)))
        (pss_cons (ps_set (i := 6) scFrame.nd rfl (.inl rfl) (pe_callTy call_int1 (by rfl) T.int (by decide +kernel) (pa_cons (pe_meth0 (pv 0) T.clH mG GG hr2 bG .nil pass0) pa_nil)))
        (pss_one (ps_set (i := 6) scFrame.nd rfl (.inl rfl) (pe_op op_add (pv 6) (pe_op op_mul pe_int (pe_callTy call_int1 (by rfl) T.int (by decide +kernel) (pa_cons (pe_meth0 (pv 0) T.clH mS GS hr2 bS .nil pass0) pa_nil)))))))) pss_nil)
      (pss_cons (ps_fld (pv 0) (pv 5) rfl)
      (pss_cons (ps_fldaug (pv 0) pe_int in_add)
      (pss_one (ps_ret (pe_op op_cat (pe_lst (pa_cons (pv 6) pa_nil)) (pe_meth (pv 0) T.clH mH GH hr2 bH .nil pass0 (pa_cons (pv 5) pa_nil)))))))))), ?_⟩
    -- whether the sizes differ
    refine ⟨_, rfl, _, rfl, _, rfl, (by show 3 ≤ sizeLine; decide), fun c1 nc1 => ?_⟩
    have s1 : Same H (upd H c1 (.tup [.int p.w, .int p.h, .int m])) := same_new nc1
    have ha1 := s1 _ _ ha
    refine ⟨_, rfl, a, CH, dx, _, _, rfl, ha1, T.clH, T.hw, hA_w _ _, _, rfl, a, CH, dx, _, _, rfl, ha1, T.clH, T.hh, hA_h _ _, _, rfl, a, CH, dx, _, _, rfl, ha1, T.clH, T.hm, hA_m _ _, (by show 3 ≤ sizeLine; decide), fun c2 nc2 => ?_⟩
    have n12 : c1 ≠ c2 := fun z => by
      rw [← z, upd_same] at nc2
      cases nc2
    refine ⟨_, _, dp_three (a := (p.w : Int)) (b := (p.h : Int)) (c := (m : Int)) (by rw [upd_ne n12, upd_same]), dp_three upd_same, shaped_three _ _ _, shaped_three _ _ _, _, rfl, ?_⟩
    rw [eqv_three]
    have s2 : Same H (upd (upd H c1 (.tup [.int p.w, .int p.h, .int m])) c2 (.tup [.int s.set.w, .int s.set.h, .int s.set.m])) := same_put s1 (same_none s1 nc2)
    have hT2 : TabS (upd (upd H c1 (.tup [.int p.w, .int p.h, .int m])) c2 (.tup [.int s.set.w, .int s.set.h, .int s.set.m])) tb qL := hT.ext s2
    generalize upd (upd H c1 (.tup [.int p.w, .int p.h, .int m])) c2 (.tup [.int s.set.w, .int s.set.h, .int s.set.m]) = H2 at s2 hT2
    clear s1 ha1 n12 nc1 nc2
    by_cases hc : p.w = s.set.w ∧ p.h = s.set.h ∧ m = s.set.m
    · have hci : ((p.w : Int) = (s.set.w : Int) ∧ (p.h : Int) = (s.set.h : Int) ∧ (m : Int) = (s.set.m : Int)) := by omega
      rw [decide_eq_true hci]
      refine iteF ?_
      have kY' := kY hc
      have hlen' := hlen hc.1 hc.2.1
      obtain ⟨o1, o2, o3, o4, o5, o6, o7, o8⟩ := Hs.okSet_iff.mp hwf.ok
      have ha2 := s2 _ _ ha
      -- the picture is made
      refine ⟨_, rfl, _, rfl, _, rfl, fun b dxb nb ndb neb => ?_⟩
      refine ⟨b, dxb, g, p, rfl, upd_same, ?_, by omega, by omega, fun H3 kp3 hp3 => ⟨rfl, ?_⟩⟩
      · have nown : Same H2 (upd (upd H2 dxb (.own b)) b (.ins CP dxb [])) := same_put (same_new ndb) nb
        exact Same.seq (s2.trans nown) hg
      have s3 : Same H2 H3 := fun c o e => kp3 c o (by rw [upd_ne (ne_of_none e nb), upd_ne (ne_of_none e ndb)]; exact e) (ne_of_none e nb)
      have sH3 : Same H H3 := s2.trans s3
      have nbH : H b = none := same_none s2 nb
      have hT3 : TabS H3 tb qL := hT2.ext s3
      have hpic : PicAt CP H3 t b p := hp3 t (ne_of_none ht nbH) ⟨.lst xs, by rw [upd_ne (ne_of_none (s2 _ _ ht) nb), upd_ne (ne_of_none (s2 _ _ ht) ndb)]; exact s2 _ _ ht⟩
      have ha3 := sH3 _ _ ha
      have k3 : Kept a H H3 := (Kept.refl H).ext (ext_same sH3)
      -- the end, from any state behind the if
      have fin : ∀ (H5 : Hp) (s5 : Abs) (bv5 : V) (v : Int), Kept a H H5 → TabS H5 tb qL → H5 a = some (.ins CH dx (hA s5 bv5)) → PicAt CP H5 t b p → s5.set = s.set → s5.many = s.many → 0 ≤ s5.x → s5.x ≤ 2 * (s.set.m : Int) → 0 ≤ s5.y → s5.y ≤ 2 * (s.set.m : Int) →
          Kh289.next s p = ({ s5 with last := some p, many := s.many + 1 }, ⟨v, Kh289.shown s.set p s5.x s5.y, [s5.x, s5.y]⟩) →
          tSeq (sFld K (tVar 0) (tVar 5) "before") (tSeq (sFldAug K (tVar 0) (tC (.int 1)) rAdd "many") (tRet (tOp rCat (tLst (tCons (tVar 6) tNil)) (tMeth CH "shown" (spShown CP CH) [] E0 (tVar 0) (tCons (tVar 5) tNil)))))
            { nx := fun _ H' => Q .non H', rt := Q } [some (.ref a), some (.int p.w), some (.int p.h), some (.int m), some (.ref g), some (.ref b), some (.int v)] H5 := by
        intro H5 s5 bv5 v k5 hT5 ha5 hpic5 es em x0 x1 y0 y1 en
        refine ⟨_, rfl, _, rfl, a, CH, dx, _, rfl, ha5, T.clH, T.hb, hA_len _ _, ?_⟩
        rw [hA_pb]
        refine ⟨_, rfl, a, CH, dx, _, _, rfl, upd_same, T.clH, T.hn, hA_many _ _, _, _, rfl, rfl, dx, _, upd_same, hA_len _ _, ?_⟩
        rw [show ((s5.many : Int) + 1) = ((s5.many + 1 : Nat) : Int) by omega, hA_pn, upd_upd]
        have k6 : Kept a H5 (upd H5 a (.ins CH dx (hA { s5 with many := s5.many + 1 } (.ref b)))) := (Kept.refl H5).upd
        have hT6 : TabS (upd H5 a (.ins CH dx (hA { s5 with many := s5.many + 1 } (.ref b)))) tb qL := tab_ins hT5 ha5
        have hpic6 := hpic5.kept k6 ha5 (by show 11 ≠ 3; decide)
        have ha6 : (upd H5 a (.ins CH dx (hA { s5 with many := s5.many + 1 } (.ref b)))) a = some (.ins CH dx (hA { s5 with many := s5.many + 1 } (.ref b))) := upd_same
        have k6' : Kept a H (upd H5 a (.ins CH dx (hA { s5 with many := s5.many + 1 } (.ref b)))) := k5.trans k6
        generalize upd H5 a (.ins CH dx (hA { s5 with many := s5.many + 1 } (.ref b))) = H6 at k6 hT6 hpic6 ha6 k6'
        refine ⟨_, rfl, (by show 1 ≤ sizeLine; decide), fun l nl => ?_⟩
        have s7 : Same H6 (upd H6 l (.lst [.int v])) := same_new nl
        refine ⟨_, rfl, a, dx, _, rfl, s7 _ _ ha6, hA_shown _ _, ?_⟩
        refine ⟨_, rfl, t, a, b, dx, { s5 with many := s5.many + 1 }, .ref b, p, rfl, s7 _ _ ha6, hpic6.ext (ext_same s7), by rw [es]; exact hc.1, by rw [es]; exact hc.2.1, hlen', by rw [es]; exact o3, by rw [es]; exact o5, by rw [es]; exact o6, by rw [es]; exact o7, x0, by rw [es]; exact x1, y0, by rw [es]; exact y1, fun H8 r s8 nr er => ?_⟩
        have e8 : Same H6 H8 := s7.trans s8
        have hsl : (Kh289.shown s5.set p s5.x s5.y).length ≤ 65536 := by
          have e := Hs.shown_part (z := s5.set) (p := p) hlen' (by rw [es]; exact hc.1) (by rw [es]; exact hc.2.1) (x := s5.x.toNat) (y := s5.y.toNat) (by rw [es]; omega) (by rw [es]; omega) (by rw [es]; omega) (by rw [es]; omega)
          rw [Int.toNat_of_nonneg x0, Int.toNat_of_nonneg y0] at e
          have e2 := congrArg List.length e
          rw [List.length_map] at e2
          rw [← e2]
          refine Nat.le_trans Hs.part_length ?_
          exact Nat.le_trans (Nat.mul_le_mul (show s5.set.w - 2 * s5.set.m ≤ 256 by rw [es]; omega) (show s5.set.h - 2 * s5.set.m ≤ 256 by rw [es]; omega)) (by decide)
        refine ⟨l, r, _, _, rfl, rfl, s8 _ _ upd_same, er, ?_, fun q nq => ?_⟩
        · show 1 + (vI (s5.x :: s5.y :: (Kh289.shown s5.set p s5.x s5.y).map Int.ofNat)).length ≤ sizeLine
          rw [vI_length, sizeLine_eq]
          simp only [List.length_cons, List.length_map]
          omega
        · have nqH6 : H6 q = none := same_none e8 nq
          have e9 : Same H6 (upd H8 q (.lst ([.int v] ++ vI (s5.x :: s5.y :: (Kh289.shown s5.set p s5.x s5.y).map Int.ofNat)))) := same_put e8 nqH6
          refine kY' _ q (k6'.ext (ext_same e9)) (hT6.ext e9) ?_ (Ne.symm (ne_of_none (k6' _ _ ht (ne_of ht ha fun z => nomatch z) fun _ z => nomatch z) nqH6)) ?_
          · rw [en]
            have hho : HolAt CP CH H6 t a { s5 with last := some p, many := s.many + 1 } := by
              refine ⟨dx, .ref b, ?_, .inr ⟨b, p, rfl, rfl, hpic6⟩⟩
              rw [ha6, em]
              rfl
            exact hho.ext (ext_same e9)
          · show upd _ _ _ q = _
            rw [upd_same]
            unfold frameAns
            rw [en, es]
            rfl
      -- whether a picture came before
      refine ⟨_, rfl, a, CH, dx, _, _, rfl, ha3, T.clH, T.hb, hA_before _ _, rfl, _, rfl, ?_⟩
      rcases hbv with ⟨hl, rfl⟩ | ⟨q, pq, hl, rfl, hq⟩
      · refine iteF ?_
        exact fin H3 s .non 0 k3 hT3 ha3 hpic rfl rfl hwf.x0 hwf.x1 hwf.y0 hwf.y1 (Hs.next_none hl (hwf.first hl))
      · refine iteT ?_
        obtain ⟨l1, l2, l3⟩ := hwf.last pq hl
        -- the scene is followed
        refine ⟨_, rfl, a, dx, _, rfl, ha3, hA_follow _ _, ?_⟩
        refine ⟨_, rfl, t, t, a, b, q, dx, s, pq, p, rfl, ha3, hq.ext (ext_same sH3), hpic, l1, l2, l3, hc.1, hc.2.1, hlen', hwf.ok, hT3, fun H4 k4 hT4 ha4 => ?_⟩
        have hpic4 : PicAt CP H4 t b p := hpic.kept k4 ha3 (by show 11 ≠ 3; decide)
        -- the bit of giving way
        refine ⟨_, rfl, a, dx, _, rfl, ha4, hA_give _ _, ?_⟩
        refine ⟨a, dx, _, _, rfl, ha4, hT4, fun H5 k5 hT5 ha5 => ?_⟩
        have hpic5 : PicAt CP H5 t b p := hpic4.kept k5 ha4 (by show 11 ≠ 3; decide)
        refine .inr ⟨_, rfl, ?_⟩
        -- the bit of staying within
        refine ⟨_, rfl, _, rfl, a, dx, _, rfl, ha5, hA_stay _ _, ?_⟩
        refine ⟨a, dx, _, _, rfl, ha5, hT5, fun H6 k6 hT6 ha6 => ?_⟩
        have hpic6 : PicAt CP H6 t b p := hpic5.kept k6 ha5 (by show 11 ≠ 3; decide)
        refine .inr ⟨_, rfl, 2, _, rfl, rfl, .inl ⟨by decide, by decide⟩, _, _, rfl, rfl, ?_⟩
        have eset := gave_x s (Kh288.find pq p s.set.r).2
        have rx := Hs.within_range (m := (s.set.m : Int)) (Hs.gave (Hs.followed s (Kh288.find pq p s.set.r).2)).1.x (Int.natCast_nonneg _)
        have ry := Hs.within_range (m := (s.set.m : Int)) (Hs.gave (Hs.followed s (Kh288.find pq p s.set.r).2)).1.y (Int.natCast_nonneg _)
        refine fin H6 (Hs.after s pq p) (.ref q) (Hs.word s pq p) (((k3.trans k4).trans k5).trans k6) hT6 ha6 hpic6 eset ?_ ?_ ?_ ?_ ?_ (Hs.next_some hl)
        · show (Hs.gave (Hs.followed s (Kh288.find pq p s.set.r).2)).1.many = s.many
          rw [Hs.gave_many]
          rfl
        · show 0 ≤ Hs.withinOf _ _
          rw [eset]
          exact rx.1
        · show Hs.withinOf _ _ ≤ _
          rw [eset]
          exact rx.2
        · show 0 ≤ Hs.withinOf _ _
          rw [eset]
          exact ry.1
        · show Hs.withinOf _ _ ≤ _
          rw [eset]
          exact ry.2
    · have hci : ¬ ((p.w : Int) = (s.set.w : Int) ∧ (p.h : Int) = (s.set.h : Int) ∧ (m : Int) = (s.set.m : Int)) := by omega
      rw [decide_eq_false hci]
      refine iteT ?_
      refine ⟨_, rfl, (by show 1 ≤ sizeLine; decide), fun l nl => ?_⟩
      have s3 : Same H (upd H2 l (.lst [.int (-22)])) := same_put s2 (same_none s2 nl)
      exact kN hc _ l ((Kept.refl H).ext (ext_same s3)) (hT.ext s3) (HolAt.ext ⟨dx, bv, ha, hbv⟩ (ext_same s3)) (Ne.symm (ne_of_none (s2 _ _ ht) nl)) upd_same
end
end HsW
set_option Elab.async false
set_option maxRecDepth 100000
set_option maxHeartbeats 4000000
/-! The hand, and the calls on it. -/
namespace HsW
open PySem PySem.Spec PyProof.Rows L2 LamX HsS
open Kh289 (Abs Set_)

abbrev sDInit : Stmt := inClass (topS 21) 0
abbrev sBegin : Stmt := inClass (topS 21) 1
abbrev sAnsTo : Stmt := topS 22
abbrev sAns : Stmt := topS 23
theorem scDInit : FnScope ["self"] ["self"] (defScope sDInit) := ⟨rfl, rfl, rfl, by decide +kernel, rfl, by decide +kernel, by decide +kernel⟩
theorem scBegin : FnScope ["self", "wholes", "w", "h", "r", "m", "slow"] ["self", "wholes"] (defScope sBegin) := ⟨rfl, rfl, rfl, by decide +kernel, rfl, by decide +kernel, by decide +kernel⟩
theorem scAnsTo : FnScope ["hand", "word", "wholes", "row"] ["hand", "word", "wholes", "row"] (defScope sAnsTo) := ⟨rfl, rfl, rfl, by decide +kernel, rfl, by decide +kernel, by decide +kernel⟩
theorem scAns : FnScope ["calls", "hand", "told", "at", "word", "behind", "wholes", "row", "answer"] ["calls"] (defScope sAns) := ⟨rfl, rfl, rfl, by decide +kernel, rfl, by decide +kernel, by decide +kernel⟩

def dF (hv : V) : List (Str × V) := [("holder", hv)]
theorem dF_holder (hv : V) : (dF hv).lookup ("holder" : Str) = some hv := rfl
theorem dF_begin (hv : V) : (dF hv).lookup ("begin" : Str) = none := rfl
theorem dF_put (hv v : V) : putF "holder" v (dF hv) = dF v := rfl
section
variable {P : Program} {w : World} {K : PySem.W.Frag} {mg : Str → Option Value} {base : Heap} {CP CH CD : Addr}

/-! ### Hand.__init__, Hand.begin -/
def spDInit (CD : Addr) : Sp := fun vs H Q _ => ∃ (p dx : Addr), vs = [.ref p] ∧ H p = some (.ins CD dx []) ∧ ∀ H' : Hp, H' p = some (.ins CD dx (dF .non)) → (∀ b o, H b = some o → b ≠ p → H' b = some o) → Q .non H'
theorem ok_dinit {f : Addr} {fd : FuncData} (F : Fun K "__init__" "Hand.__init__" sDInit f fd) (T : Txt K mg CP CH CD) : FnOk P w K mg base CX0 1 f fd ["self"] (spDInit CD) := by
  refine F.ok scDInit (fun vs H Q E h => ?_) (fun cdv A outer s H vs Q E hr h => ?_)
  · obtain ⟨p, dx, rfl, _⟩ := h
    rfl
  · obtain ⟨p, dx, rfl, hp, k⟩ := h
    refine ⟨_, pss_one (ps_fld (pv 0) pe_non rfl), ?_⟩
    refine ⟨_, rfl, p, CD, dx, _, rfl, hp, T.clD, T.dh, (by show 0 < 1000; decide), ?_⟩
    exact k _ upd_same fun b o e n => by
      rw [upd_ne n]
      exact e
def spBegin (K : PySem.W.Frag) (CH CD : Addr) : Sp := fun vs H Q _ => ∃ (d l dx : Addr) (hv : V) (z : Set_), vs = [.ref d, .ref l] ∧ H d = some (.ins CD dx (dF hv)) ∧ SqL K H l (vI [(z.w : Int), (z.h : Int), (z.r : Int), (z.m : Int), (z.slow : Int)]) ∧
  (Kh289.okSet z = false → ∀ (H' : Hp) (r : Addr), Same H H' → H r = none → H' r = some (.lst (vI [-22])) → Q (.ref r) H') ∧
  (Kh289.okSet z = true → ∀ (H' : Hp) (r ad dxa : Addr), (∀ b o, H b = some o → b ≠ d → H' b = some o) → H' d = some (.ins CD dx (dF (.ref ad))) → H' ad = some (.ins CH dxa (hA (Kh289.begun z) .non)) → H r = none → H' r = some (.lst (vI [0])) → Q (.ref r) H')
theorem ok_begin {f ft fi : Addr} {fd fdt fdi : FuncData} (F : Fun K "begin" "Hand.begin" sBegin f fd) (T : Txt K mg CP CH CD)
    (GT : FnOk P w K mg base CX0 2 ft fdt ["w", "h", "r", "m", "slow"] spTold) (kT : PySem.W.keepIn K (.ref ft) = true) (bT : Binds K fdt ["w", "h", "r", "m", "slow"] []) (gT : mg "is_told" = some (.ref ft))
    (M : Mk K CH fi) (FI : Fun K "__init__" "Holder.__init__" sHInit fi fdi) (bI : Binds K fdi ["self", "w", "h", "r", "m", "slow"] []) :
    FnOk P w K mg base CX0 3 f fd ["self", "wholes"] (spBegin K CH CD) := by
  have GI : FnOk P w K mg base CX0 1 fi fdi ["self", "w", "h", "r", "m", "slow"] (spHInit CH) := ok_hinit FI T
  refine F.ok scBegin (fun vs H Q E h => ?_) (fun cdv A outer s H vs Q E hr h => ?_)
  · obtain ⟨d, l, dx, hv, z, rfl, _⟩ := h
    rfl
  · obtain ⟨d, l, dx, hv, z, rfl, hd, hl, kN, kY⟩ := h
    refine ⟨_, pss_cons (ps_asg (pv 1) (pg_unl rfl (pgs_cons (pg_name (i := 2) scBegin.nd rfl (.inl rfl)) (pgs_cons (pg_name (i := 3) scBegin.nd rfl (.inl rfl)) (pgs_cons (pg_name (i := 4) scBegin.nd rfl (.inl rfl)) (pgs_cons (pg_name (i := 5) scBegin.nd rfl (.inl rfl)) (pgs_cons (pg_name (i := 6) scBegin.nd rfl (.inl rfl)) pgs_nil)))))))
      (pss_cons (ps_if (pt_not (pt_val (pe_call GT hr (by rfl) gT kT bT .nil pass0 (pa_cons (pv 2) (pa_cons (pv 3) (pa_cons (pv 4) (pa_cons (pv 5) (pa_cons (pv 6) pa_nil)))))))) (pss_one (ps_ret (pe_lst (pa_cons (pe_un un_neg pe_int) pa_nil)))) pss_nil)
      (pss_cons (ps_fld (pv 0) (pe_make M GI hr (by rfl) T.gH bI .nil pass0 (pa_cons (pv 2) (pa_cons (pv 3) (pa_cons (pv 4) (pa_cons (pv 5) (pa_cons (pv 6) pa_nil)))))) rfl)
      (pss_one (ps_ret (pe_lst (pa_cons pe_int pa_nil)))))), ?_⟩
    refine ⟨_, rfl, l, _, rfl, hl, rfl, _, _, rfl, _, _, rfl, _, _, rfl, _, _, rfl, _, _, rfl, rfl, ?_⟩
    refine ⟨_, rfl, _, rfl, _, rfl, _, rfl, _, rfl, z, rfl, _, rfl, ?_⟩
    cases e : Kh289.okSet z with
    | false =>
      refine iteT ?_
      refine ⟨_, rfl, (by show 1 ≤ sizeLine; decide), fun r nr => ?_⟩
      exact kN e _ r (same_new nr) nr upd_same
    | true =>
      refine iteF ?_
      refine ⟨_, rfl, _, rfl, _, rfl, _, rfl, _, rfl, fun x dxx nx nd ne => ?_⟩
      refine ⟨x, dxx, z, rfl, upd_same, fun H1 hx1 kp => ⟨rfl, ?_⟩⟩
      have s1 : Same H H1 := Same.made nx nd kp
      have hd1 := s1 _ _ hd
      have ndx : d ≠ x := ne_of_none hd nx
      refine ⟨_, rfl, d, CD, dx, _, rfl, hd1, T.clD, T.dh, (by show 1 < 1000; decide), ?_⟩
      rw [dF_put]
      refine ⟨(by show 1 ≤ sizeLine; decide), fun r nr => ?_⟩
      have nrd : d ≠ r := fun z => by
        rw [← z, upd_same] at nr
        cases nr
      have nrx : x ≠ r := fun z => by
        rw [← z, upd_ne (Ne.symm ndx), hx1] at nr
        cases nr
      have nrH : H r = none := by
        cases q : H r with
        | none => rfl
        | some o =>
          rw [upd_ne (Ne.symm nrd), s1 _ _ q] at nr
          cases nr
      refine kY e _ r x dxx (fun b o e n => ?_) ?_ ?_ nrH upd_same
      · rw [upd_ne (ne_of_none e nrH), upd_ne n]
        exact s1 _ _ e
      · rw [upd_ne nrd, upd_same]
      · rw [upd_ne nrx, upd_ne (Ne.symm ndx)]
        exact hx1

/-! ### answer_to -/
/-- the hand at d, its pictures' lists apart from t -/
def HandAt (CP CH CD : Addr) (H : Hp) (t d : Addr) (s : Option Abs) : Prop := ∃ (dx : Addr) (hv : V), H d = some (.ins CD dx (dF hv)) ∧ ((s = none ∧ hv = .non) ∨ ∃ (ad : Addr) (ab : Abs), s = some ab ∧ hv = .ref ad ∧ HolAt CP CH H t ad ab ∧ Hs.Wf ab)
theorem HandAt.ext {H H' : Hp} {t d : Addr} {s : Option Abs} (h : HandAt CP CH CD H t d s) (e : ExtN H H') : HandAt CP CH CD H' t d s := by
  obtain ⟨dx, hv, hd, h⟩ := h
  refine ⟨dx, hv, e _ _ hd (fun _ z => nomatch z), ?_⟩
  rcases h with h | ⟨ad, ab, h1, h2, h3, h4⟩
  · exact .inl h
  · exact .inr ⟨ad, ab, h1, h2, h3.ext e, h4⟩
/-- all stays but instances and tables -/
def KeptL (H H' : Hp) : Prop := ∀ b o, H b = some o → (∀ C dx fs, o ≠ .ins C dx fs) → (∀ ps, o ≠ .tbl ps) → H' b = some o
theorem KeptL.of_ext {H H' : Hp} (e : ExtN H H') : KeptL H H' := fun b o h _ t => e b o h t
theorem KeptL.of_kept {x C dx : Addr} {fs : List (Str × V)} {H H' : Hp} (e : Kept x H H') (hx : H x = some (.ins C dx fs)) : KeptL H H' := fun b o h n t => e b o h (ne_of h hx fun z => n _ _ _ z) t
theorem KeptL.seq {H H' : Hp} {a : Addr} {xs : List V} (e : KeptL H H') (h : SqL K H a xs) : SqL K H' a xs := by
  rcases h with (h | ⟨o, h⟩) | h
  · exact .inl (.inl (e _ _ h (fun _ _ _ z => nomatch z) fun _ z => nomatch z))
  · exact .inl (.inr ⟨o, e _ _ h (fun _ _ _ z => nomatch z) fun _ z => nomatch z⟩)
  · exact .inr h
/-- a call as its parts: the word, the whole numbers, the row -/
inductive CallOk : Option Abs → Int → List Int → List Int → List (List Int) → Prop
  | begin (s : Option Abs) (z : Set_) (rw : List Int) : CallOk s 0 [(z.w : Int), (z.h : Int), (z.r : Int), (z.m : Int), (z.slow : Int)] rw [[0, (z.w : Int), (z.h : Int), (z.r : Int), (z.m : Int), (z.slow : Int)]]
  | frame (a : Abs) (p : Kh288.Pic) (m : Nat) (h : p.w = a.set.w → p.h = a.set.h → p.b.length = p.w * p.h) : CallOk (some a) 1 [(p.w : Int), (p.h : Int), (m : Int)] (p.b.map Int.ofNat) [[1, (p.w : Int), (p.h : Int), (m : Int)], p.b.map Int.ofNat]
  | look (a : Abs) (wl rw : List Int) : CallOk (some a) 2 wl rw [[2]]
def spAnsTo (K : PySem.W.Frag) (CP CH CD tb : Addr) : Sp := fun vs H Q _ => ∃ (t d lw lr : Addr) (s : Option Abs) (wd : Int) (wl rw : List Int) (c : List (List Int)), vs = [.ref d, .int wd, .ref lw, .ref lr] ∧ HandAt CP CH CD H t d s ∧ (∃ xs, H t = some (.lst xs)) ∧ TabS H tb qL ∧ SqL K H lw (vI wl) ∧ SqL K H lr (vI rw) ∧ CallOk s wd wl rw c ∧
  ∀ (H' : Hp) (r : Addr), KeptL H H' → TabS H' tb qL → HandAt CP CH CD H' t d (Kh289Neutral.step s c).1 → r ≠ t → H' r = some (.lst (vI (Kh289Neutral.step s c).2)) → Q (.ref r) H'
theorem ok_ansTo {f fb ff fw tb : Addr} {fd fdb fdf fdw : FuncData} (F : Fun K "answer_to" "answer_to" sAnsTo f fd) (T : Txt K mg CP CH CD)
    (GB : FnOk P w K mg base CX0 3 fb fdb ["self", "wholes"] (spBegin K CH CD)) (bB : Binds K fdb ["self", "wholes"] []) (mB : Meth K CD "begin" fb)
    (GF : FnOk P w K mg base CX0 5 ff fdf ["self", "w", "h", "m", "greys"] (spFrame K CP CH tb)) (bF : Binds K fdf ["self", "w", "h", "m", "greys"] []) (mF : Meth K CH "frame" ff)
    (FW : Fun K "where" "Holder.where" sWhere fw fdw) (bW : Binds K fdw ["self"] []) (mW : Meth K CH "where" fw) :
    FnOk P w K mg base CX0 6 f fd ["hand", "word", "wholes", "row"] (spAnsTo K CP CH CD tb) := by
  have GW : FnOk P w K mg base CX0 1 fw fdw ["self"] (spWhere CH) := ok_where FW T
  refine F.ok scAnsTo (fun vs H Q E h => ?_) (fun cdv A outer s H vs Q E hr h => ?_)
  · obtain ⟨t, d, lw, lr, s, wd, wl, rw, c, rfl, _⟩ := h
    rfl
  · obtain ⟨t, d, lw, lr, s, wd, wl, rw, c, rfl, hH, ⟨xs, ht⟩, hT, hlw, hlr, hc, k⟩ := h
    obtain ⟨t1, g1⟩ := T.begin
    obtain ⟨t2, g2⟩ := T.frame
    refine ⟨_, pss_cons (ps_if (pt_cmpR op_eq (pv 1) (pe_glob (by rfl) g1 (v := .int 0) ⟨_, rfl⟩) (nomark _)) (pss_one (ps_ret (pe_meth (pv 0) T.clD mB GB (hr.mono (by decide)) bB .nil pass0 (pa_cons (pv 2) pa_nil)))) pss_nil)
      (pss_cons (ps_if (pt_cmpR op_eq (pv 1) (pe_glob (by rfl) g2 (v := .int 1) ⟨_, rfl⟩) (nomark _)) (pss_one (ps_ret (pe_meth (pe_fld (pv 0) rfl) T.clH mF GF hr bF .nil pass0
          (pa_cons (pe_ix ix_list (pv 2) pe_int (fun _ _ => rfl)) (pa_cons (pe_ix ix_list (pv 2) pe_int (fun _ _ => rfl)) (pa_cons (pe_ix ix_list (pv 2) pe_int (fun _ _ => rfl)) (pa_cons (pv 3) pa_nil))))))) pss_nil)
      (pss_one (ps_ret (pe_meth0 (pe_fld (pv 0) rfl) T.clH mW GW (hr.mono (by decide)) bW .nil pass0)))), ?_⟩
    cases hc with
    | begin s z rw =>
      refine st_yes (Ans.to (b := decide (V.int 0 = V.int 0)) (fun Q q => ⟨_, rfl, rfl, _, rfl, q⟩) rfl) ?_
      obtain ⟨dx, hv, hd, hs⟩ := id hH
      refine ⟨_, rfl, d, dx, _, rfl, hd, dF_begin _, _, rfl, d, lw, dx, hv, z, rfl, hd, hlw, fun e H' r s1 nr er => ?_, fun e H' r ad dxa kp hd' had nr er => ?_⟩
      · rw [Hs.step_begin, e] at k
        exact k H' r (.of_ext (ext_same s1)) (hT.ext s1) (hH.ext (ext_same s1)) (Ne.symm (ne_of_none ht nr)) er
      · rw [Hs.step_begin, e] at k
        refine k H' r (fun b o h n _ => kp b o h (ne_of h hd fun z => n _ _ _ z)) ?_ ?_ (Ne.symm (ne_of_none ht nr)) er
        · obtain ⟨ps, q1, q2, q3⟩ := hT
          refine ⟨ps, kp _ _ q1 (ne_of q1 hd fun z => nomatch z), q2, fun pos cv hc => ?_⟩
          obtain ⟨c, e1, e2⟩ := q3 pos cv hc
          exact ⟨c, e1, kp _ _ e2 (ne_of e2 hd fun z => by
            unfold CodeO at z
            cases z)⟩
        · exact ⟨dx, .ref ad, hd', .inr ⟨ad, _, rfl, rfl, ⟨dxa, .non, had, .inl ⟨rfl, rfl⟩⟩, Hs.wf_begun e⟩⟩
    | frame a p m hlen =>
      refine ⟨_, rfl, rfl, _, rfl, ?_⟩
      rw [show decide (V.int 1 = V.int 0) = false from rfl]
      refine iteF ?_
      refine ⟨_, rfl, rfl, _, rfl, ?_⟩
      rw [show decide (V.int 1 = V.int 1) = true from rfl]
      refine iteT ?_
      obtain ⟨dx, hv, hd, hs⟩ := id hH
      obtain ⟨ad, rfl, hol, hwf⟩ : ∃ ad, hv = .ref ad ∧ HolAt CP CH H t ad a ∧ Hs.Wf a := by
        rcases hs with ⟨z, _⟩ | ⟨ad, ab, h1, h2, h3, h4⟩
        · cases z
        · cases h1
          exact ⟨ad, h2, h3, h4⟩
      obtain ⟨dxa, bv, had, _⟩ := id hol
      have nda : d ≠ ad := ne_of hd had fun z => by
        injection z with _ _ z3
        cases z3
      refine ⟨_, rfl, d, CD, dx, _, _, rfl, hd, T.clD, T.dh, dF_holder _, ad, dxa, _, rfl, had, hA_frame _ _, ?_⟩
      refine ⟨_, rfl, lw, _, 0, _, rfl, rfl, hlw, atI_nat (j := 0) rfl, ?_⟩
      refine ⟨_, rfl, lw, _, 1, _, rfl, rfl, hlw, atI_nat (j := 1) rfl, ?_⟩
      refine ⟨_, rfl, lw, _, 2, _, rfl, rfl, hlw, atI_nat (j := 2) rfl, ?_⟩
      rw [Hs.step_frame] at k
      refine ⟨_, rfl, t, ad, lr, a, m, p, rfl, hol, hwf, hlr, hlen, ⟨xs, ht⟩, hT, fun hn H' r kp hT' hol' nrt er => ?_, fun hy H' r kp hT' hol' nrt er => ?_⟩
      · rw [if_neg hn] at k
        exact k H' r (.of_kept kp had) hT' ⟨dx, _, kp _ _ hd nda (fun _ z => nomatch z), .inr ⟨ad, a, rfl, rfl, hol', hwf⟩⟩ nrt er
      · rw [if_pos hy] at k
        exact k H' r (.of_kept kp had) hT' ⟨dx, _, kp _ _ hd nda (fun _ z => nomatch z), .inr ⟨ad, _, rfl, rfl, hol', Hs.wf_next hwf hy.1 hy.2.1 (hlen hy.1 hy.2.1)⟩⟩ nrt er
    | look a wl rw =>
      refine ⟨_, rfl, rfl, _, rfl, ?_⟩
      rw [show decide (V.int 2 = V.int 0) = false from rfl]
      refine iteF ?_
      refine ⟨_, rfl, rfl, _, rfl, ?_⟩
      rw [show decide (V.int 2 = V.int 1) = false from rfl]
      refine iteF ?_
      obtain ⟨dx, hv, hd, hs⟩ := id hH
      obtain ⟨ad, rfl, hol⟩ : ∃ ad, hv = .ref ad ∧ HolAt CP CH H t ad a := by
        rcases hs with ⟨z, _⟩ | ⟨ad, ab, h1, h2, h3, h4⟩
        · cases z
        · cases h1
          exact ⟨ad, h2, h3⟩
      obtain ⟨dxa, bv, had, _⟩ := id hol
      refine ⟨_, rfl, d, CD, dx, _, _, rfl, hd, T.clD, T.dh, dF_holder _, ad, dxa, _, rfl, had, hA_where _ _, ad, dxa, a, bv, rfl, had, fun H' r s1 nr er => ?_⟩
      exact k H' r (.of_ext (ext_same s1)) (hT.ext s1) (hH.ext (ext_same s1)) (Ne.symm (ne_of_none ht nr)) er
end
end HsW
set_option Elab.async false
set_option maxRecDepth 100000
set_option maxHeartbeats 4000000
/-! answers. -/
namespace HsW
open PySem PySem.Spec PyProof.Rows L2 LamX HsS
open Kh289 (Abs Set_)

section
variable {P : Program} {w : World} {K : PySem.W.Frag} {mg : Str → Option Value} {base : Heap} {CP CH CD : Addr}
/-- the list that is told is written: what the hand has stands apart from it -/
theorem HandAt.told {H : Hp} {t d : Addr} {s : Option Abs} {xs ys : List V} (h : HandAt CP CH CD H t d s) (ht : H t = some (.lst xs)) : HandAt CP CH CD (upd H t (.lst ys)) t d s := by
  have ins : ∀ {b C dx : Addr} {fs : List (Str × V)}, H b = some (.ins C dx fs) → upd H t (.lst ys) b = some (.ins C dx fs) := fun {b C dx fs} e => by
    rw [upd_ne (ne_of e ht fun z => nomatch z)]
    exact e
  obtain ⟨dx, hv, hd, h⟩ := h
  refine ⟨dx, hv, ins hd, ?_⟩
  rcases h with h | ⟨ad, ab, h1, h2, ⟨dxa, bv, ha, hb⟩, h4⟩
  · exact .inl h
  · refine .inr ⟨ad, ab, h1, h2, ⟨dxa, bv, ins ha, ?_⟩, h4⟩
    rcases hb with hb | ⟨q, p, g1, g2, dxp, ra, rb, p1, p2, p3, p4, p5, p6⟩
    · exact .inl hb
    · refine .inr ⟨q, p, g1, g2, dxp, ra, rb, ins p1, ?_, fun b hb => ?_, p4, p5, p6⟩
      · rw [upd_ne p5]
        exact p2
      · rw [upd_ne (p6 b hb)]
        exact p3 b hb

/-- the end of a turn: the call is answered, the size and the numbers are told, the place moves on -/
def tRest (K : PySem.W.Frag) (CP CH CD tb : Addr) : TS :=
  tSeq (tAsg (tCall (spAnsTo K CP CH CD tb) [] E0 (tCons (tVar 1) (tCons (tVar 4) (tCons (tVar 6) (tCons (tVar 7) tNil))))) (gName 8))
    (tSeq (tDrop (tBM K "list" rAppend (tVar 2) (tCons (tCB (Evl.rLenS K) (tCons (tVar 8) tNil)) tNil)))
    (tSeq (tDrop (tBM K "list" rExtend (tVar 2) (tCons (tVar 8) tNil))) (tAsg (tVar 5) (gName 3))))
/-- what holds ahead of each turn -/
def Loop (K : PySem.W.Frag) (CP CH CD tb a d t : Addr) (ns : List Int) (m : Nat) (σ : L2.St) (H : Hp) : Prop := ∃ (at_ : Nat) (v4 v5 v6 v7 v8 : Option V) (s : Option Abs) (f : Nat) (cs : List (List (List Int))) (told : List Int),
  m = ns.length - at_ ∧ σ = [some (.ref a), some (.ref d), some (.ref t), some (.int (at_ : Int)), v4, v5, v6, v7, v8] ∧ at_ ≤ ns.length ∧ SqL K H a (vI ns) ∧ HandAt CP CH CD H t d s ∧ H t = some (.lst (vI told)) ∧ TabS H tb qL ∧
  PyFlat.calls PyKh289.shape f (ns.drop at_) = some cs ∧ Hs.okFrom s cs ∧ told ++ PyFlat.told (PyFlat.played Kh289Neutral.step s cs) = PyKh289.answers ns
theorem rest_ok {tb a d t : Addr} {ns : List Int} {H : Hp} {D : Ends} {m at_ bh f : Nat} {lw lr : Addr} {wd : Int} {wl rw : List Int} {c : List (List Int)} {cs : List (List (List Int))} {v8 : Option V} {s : Option Abs} {told : List Int}
    (hm : m = ns.length - at_) (hat : at_ < bh) (hbh : bh ≤ ns.length) (hA : SqL K H a (vI ns)) (hAt : (∀ H', SqL K H' a (vI ns)) ∨ a ≠ t) (hH : HandAt CP CH CD H t d s) (ht : H t = some (.lst (vI told))) (hT : TabS H tb qL)
    (hlw : SqL K H lw (vI wl)) (hlr : SqL K H lr (vI rw)) (hc : CallOk s wd wl rw c) (hcs : PyFlat.calls PyKh289.shape f (ns.drop bh) = some cs) (hok : Hs.okFrom (Kh289Neutral.step s c).1 cs)
    (heq : told ++ PyFlat.told (PyFlat.played Kh289Neutral.step s (c :: cs)) = PyKh289.answers ns) (hlen : (PyKh289.answers ns).length ≤ 10000000)
    (hD : ∀ m' σ' H', m' < m → Loop K CP CH CD tb a d t ns m' σ' H' → D.nx σ' H') :
    tRest K CP CH CD tb D [some (.ref a), some (.ref d), some (.ref t), some (.int (at_ : Int)), some (.int wd), some (.int (bh : Int)), some (.ref lw), some (.ref lr), v8] H := by
  have e1 : PyFlat.told (PyFlat.played Kh289Neutral.step s (c :: cs)) = ((Kh289Neutral.step s c).2.length : Int) :: (Kh289Neutral.step s c).2 ++ PyFlat.told (PyFlat.played Kh289Neutral.step (Kh289Neutral.step s c).1 cs) := rfl
  rw [e1] at heq
  have hle : told.length + 1 + (Kh289Neutral.step s c).2.length ≤ 10000000 := by
    have e := congrArg List.length heq
    rw [List.length_append, List.length_append, List.length_cons] at e
    omega
  refine ⟨_, rfl, _, rfl, _, rfl, _, rfl, t, d, lw, lr, s, wd, wl, rw, c, rfl, hH, ⟨_, ht⟩, hT, hlw, hlr, hc, fun H6 r kL hT6 hH6 nrt er => ?_⟩
  have ht6 : H6 t = some (.lst (vI told)) := kL _ _ ht (fun _ _ _ z => nomatch z) fun _ z => nomatch z
  have hA6 : SqL K H6 a (vI ns) := kL.seq hA
  -- the size is told
  refine ⟨_, rfl, .inl ⟨rfl, _, SqL.of ht6⟩, _, rfl, r, _, rfl, .inl (SqL.of er), t, _, _, rfl, rfl, ht6, ?_, ?_⟩
  · rw [vI_length, sizeLine_eq]
    omega
  -- the numbers are told
  have ht7 : (upd H6 t (.lst (vI told ++ [.int ((vI (Kh289Neutral.step s c).2).length : Int)]))) t = some (.lst (vI (told ++ [((Kh289Neutral.step s c).2.length : Int)]))) := by
    rw [upd_same, vI_append, vI_length]
    rfl
  refine ⟨_, rfl, .inl ⟨rfl, _, SqL.of ht7⟩, _, rfl, t, r, _, _, rfl, rfl, ht7, by rw [upd_ne nrt]; exact er, ?_, ?_⟩
  · rw [vI_length, vI_length, sizeLine_eq, List.length_append, List.length_singleton]
    omega
  -- the place moves on
  rw [upd_upd]
  refine ⟨_, rfl, hD (ns.length - bh) _ _ (by omega) ?_⟩
  refine ⟨bh, some (.int wd), some (.int (bh : Int)), some (.ref lw), some (.ref lr), some (.ref r), (Kh289Neutral.step s c).1, f, cs, told ++ [((Kh289Neutral.step s c).2.length : Int)] ++ (Kh289Neutral.step s c).2, rfl, rfl, hbh, ?_, hH6.told ht6, ?_, tab_lst hT6 ht6, hcs, hok, ?_⟩
  · rcases hAt with h | h
    · exact h _
    · rcases hA6 with (q | ⟨o, q⟩) | q
      · exact .inl (.inl (by rw [upd_ne h]; exact q))
      · exact .inl (.inr ⟨o, by rw [upd_ne h]; exact q⟩)
      · exact .inr q
  · rw [upd_same, ← vI_append]
  · rw [← heq, List.append_assoc, List.append_assoc]
    rfl

def spAns (K : PySem.W.Frag) (tb : Addr) : Sp := fun vs H Q _ => ∃ (a : Addr) (ns : List Int), vs = [.ref a] ∧ SqL K H a (vI ns) ∧ PyKh289.answers_asked ns = true ∧ TabS H tb qL ∧ ∀ (H' : Hp) (r : Addr), H' r = some (.lst (vI (PyKh289.answers ns))) → Q (.ref r) H'
theorem at_vI {ns : List Int} {i : Nat} {z : Int} (h : ns[i]? = some z) : atI (vI ns) (i : Int) = some (.int z) := atI_nat (by
  unfold vI
  rw [List.getElem?_map, h]
  rfl)
theorem drop_get {ns : List Int} {i : Nat} {z : Int} {r : List Int} (h : ns.drop i = z :: r) : ns[i]? = some z ∧ ns.drop (i + 1) = r ∧ i < ns.length := by
  have hl : i < ns.length := by
    have e := congrArg List.length h
    rw [List.length_drop, List.length_cons] at e
    omega
  rw [List.drop_eq_getElem_cons hl] at h
  injection h with h1 h2
  exact ⟨by rw [List.getElem?_eq_getElem hl, h1], h2, hl⟩
theorem cut_vI {ns : List Int} {x y : Int} (m k : Nat) (hx : x = (m : Int)) (hy : y = ((m + k : Nat) : Int)) : cutV (vI ns) (some x) (some y) = vI ((ns.drop m).take k) := by
  rw [cut_at m k hx hy]
  unfold vI
  rw [List.map_take, List.map_drop]
theorem ok_ans {f fi fa tb : Addr} {fd fdi fda : FuncData} (F : Fun K "answers" "answers" sAns f fd) (T : Txt K mg CP CH CD) (M : Mk K CD fi) (FI : Fun K "__init__" "Hand.__init__" sDInit fi fdi) (bI : Binds K fdi ["self"] [])
    (GA : FnOk P w K mg base CX0 6 fa fda ["hand", "word", "wholes", "row"] (spAnsTo K CP CH CD tb)) (kA : PySem.W.keepIn K (.ref fa) = true) (bA : Binds K fda ["hand", "word", "wholes", "row"] []) (gA : mg "answer_to" = some (.ref fa)) :
    FnOk P w K mg base CX0 7 f fd ["calls"] (spAns K tb) := by
  have GI : FnOk P w K mg base CX0 1 fi fdi ["self"] (spDInit CD) := ok_dinit FI T
  refine F.ok scAns (fun vs H Q E h => ?_) (fun cdv A outer s H vs Q E hr h => ?_)
  · obtain ⟨a, ns, rfl, _⟩ := h
    rfl
  · obtain ⟨a, ns, rfl, hA, hask, hT, k⟩ := h
    obtain ⟨t2, g2⟩ := T.frame
    obtain ⟨az, g3, hz⟩ := T.sizes
    refine ⟨_, pss_cons (ps_set (i := 1) scAns.nd rfl (.inl rfl) (pe_make0 M GI (hr.mono (by decide)) (by rfl) T.gD bI .nil pass0))
      (pss_cons (ps_set (i := 2) scAns.nd rfl (.inl rfl) (pe_lst pa_nil))
      (pss_cons (ps_set (i := 3) scAns.nd rfl (.inl rfl) pe_int)
      (pss_cons (ps_while PassesOwn.never (pt_cmpR op_lt (pv 3) (pe_callB call_len_seq (by rfl) T.len PySem.boot_len (pa_cons (pv 0) pa_nil)) (nomark _))
        (pss_cons (ps_set (i := 4) scAns.nd rfl (.inl rfl) (pe_ix ix_list (pv 0) (pv 3) (fun _ _ => rfl)))
        (pss_cons (ps_set (i := 5) scAns.nd rfl (.inl rfl) (pe_op op_add (pv 3) (pe_ix ix_tup (pe_glob (by rfl) g3 (v := .ref az) rfl) (pv 4) (fun _ _ => rfl))))
        (pss_cons (ps_set (i := 6) scAns.nd rfl (.inl rfl) (pe_slice sl_list (pv 0) (po_some (pe_op op_add (pv 3) pe_int)) (po_some (pv 5))))
        (pss_cons (ps_set (i := 7) scAns.nd rfl (.inl rfl) (pe_lst pa_nil))
        (pss_cons (ps_if (pt_cmpR op_eq (pv 4) (pe_glob (by rfl) g2 (v := .int 1) ⟨_, rfl⟩) (nomark _))
          (pss_cons (ps_set (i := 7) scAns.nd rfl (.inl rfl) (pe_slice sl_list (pv 0) (po_some (pe_op op_add (pv 5) pe_int)) (po_some (pe_op op_add (pe_op op_add (pv 5) pe_int) (pe_ix ix_list (pv 0) (pv 5) (fun _ _ => rfl))))))
          (pss_one (ps_set (i := 5) scAns.nd rfl (.inl rfl) (pe_op op_add (pe_op op_add (pv 5) pe_int) (pe_callB call_len_seq (by rfl) T.len PySem.boot_len (pa_cons (pv 7) pa_nil)))))) pss_nil)
        (pss_cons (ps_set (i := 8) scAns.nd rfl (.inl rfl) (pe_call GA hr (by rfl) gA kA bA .nil pass0 (pa_cons (pv 1) (pa_cons (pv 4) (pa_cons (pv 6) (pa_cons (pv 7) pa_nil))))))
        (pss_cons (ps_expr (pe_bm PySem.F.plainAttrs_list PySem.F.slot_list_append PySem.F.type_list_append mt_append (pv 2) (pa_cons (pe_callB call_len_seq (by rfl) T.len PySem.boot_len (pa_cons (pv 8) pa_nil)) pa_nil)))
        (pss_cons (ps_expr (pe_bm PySem.F.plainAttrs_list PySem.F.slot_list_extend PySem.F.type_list_extend mt_extend (pv 2) (pa_cons (pv 8) pa_nil)))
        (pss_one (ps_set (i := 3) scAns.nd rfl (.inl rfl) (pv 5))))))))))))
      (pss_one (ps_ret (pv 2)))))), ?_⟩
    obtain ⟨cs0, hcs0, hok0, hans, hlen0⟩ := Hs.asked_parts hask
    have hlen : (PyKh289.answers ns).length ≤ 10000000 := by rw [hans]; exact hlen0
    -- the hand is made
    intro d dxd nd ndd nde
    refine ⟨d, dxd, rfl, upd_same, fun H1 hd1 kp1 => ⟨rfl, ?_⟩⟩
    have s1 : Same H H1 := Same.made nd ndd kp1
    -- nothing is told yet
    refine ⟨Nat.zero_le _, fun t nt => ?_⟩
    have s2 : Same H (upd H1 t (.lst [])) := same_put s1 (same_none s1 nt)
    have hAt : (∀ H', SqL K H' a (vI ns)) ∨ a ≠ t := by
      rcases hA with (q | ⟨o, q⟩) | q
      · exact .inr (ne_of_none (s1 _ _ q) nt)
      · exact .inr (ne_of_none (s1 _ _ q) nt)
      · exact .inl fun H' => .inr q
    refine ⟨Loop K CP CH CD tb a d t ns, ⟨ns.length - 0, 0, none, none, none, none, none, none, ns.length, cs0, [], rfl, rfl, Nat.zero_le _, s2.seq hA, ⟨dxd, .non, by rw [upd_ne (ne_of_none hd1 nt)]; exact hd1, .inl ⟨rfl, rfl⟩⟩, upd_same, hT.ext s2, hcs0, hok0, by rw [List.nil_append]; exact hans.symm⟩, ?_⟩
    rintro m σ Hc ⟨at_, v4, v5, v6, v7, v8, st, fu, cs, told, hm, rfl, hle, hA', hH, ht, hT', hcs, hok, heq⟩
    refine ⟨_, rfl, _, rfl, a, _, rfl, .inl hA', _, _, rfl, rfl, _, rfl, ?_⟩
    by_cases hlt : at_ < ns.length
    · have hlt' : (at_ : Int) < ((vI ns).length : Int) := by
        rw [vI_length]
        omega
      rw [decide_eq_true hlt']
      refine iteT ⟨fun σ' H' => ∃ m', m' < m ∧ Loop K CP CH CD tb a d t ns m' σ' H', fun σ' H' n => n, ?_⟩
      have hdrop := List.drop_eq_getElem_cons hlt
      rw [hdrop] at hcs
      obtain ⟨f', c, tl, cs', h1, hcs', rfl⟩ := Hs.calls_cons hcs
      obtain ⟨ha1, ha2, ha3⟩ := hok
      have hgo : ∀ {D : Ends} {Hx : Hp} {bh : Nat} {lw lr : Addr} {wd : Int} {wl rw : List Int} {v8 : Option V}, (∀ m' σ' H', m' < m → Loop K CP CH CD tb a d t ns m' σ' H' → D.nx σ' H') → at_ < bh → bh ≤ ns.length → Same Hc Hx → SqL K Hx lw (vI wl) → SqL K Hx lr (vI rw) → CallOk st wd wl rw c → ns.drop bh = tl →
          tRest K CP CH CD tb D [some (.ref a), some (.ref d), some (.ref t), some (.int (at_ : Int)), some (.int wd), some (.int (bh : Int)), some (.ref lw), some (.ref lr), v8] Hx :=
        fun {D Hx bh lw lr wd wl rw v8} hD q1 q2 sx hlw hlr hc htl => rest_ok (f := f') hm q1 q2 (sx.seq hA') hAt (hH.ext (ext_same sx)) (sx _ _ ht) (hT'.ext sx) hlw hlr hc (by rw [htl]; exact hcs') ha3 heq hlen hD
      generalize hp : ns[at_] = p at hdrop h1
      generalize hrs : ns.drop (at_ + 1) = rs at hdrop h1
      have hget : ns[at_]? = some p := by rw [List.getElem?_eq_getElem hlt, hp]
      cases h1 with
      | begin a0 a1 a2 a3 a4 tl =>
        obtain ⟨w', h', r', m', sl, rfl, rfl, rfl, rfl, rfl, _⟩ := Hs.asked_begin ha1
        obtain ⟨_, d1, l1⟩ := drop_get hrs
        obtain ⟨_, d2, l2⟩ := drop_get d1
        obtain ⟨_, d3, l3⟩ := drop_get d2
        obtain ⟨_, d4, l4⟩ := drop_get d3
        obtain ⟨_, d5, l5⟩ := drop_get d4
        refine ⟨_, rfl, _, rfl, a, _, _, _, rfl, rfl, hA', at_vI hget, ?_⟩
        refine ⟨_, rfl, _, rfl, az, _, 0, .int 6, rfl, rfl, hz Hc, atI_nat (j := 0) rfl, _, _, rfl, rfl, ?_⟩
        refine ⟨_, rfl, ⟨_, rfl, _, _, rfl, rfl, _, rfl, _, rfl, _, rfl, a, _, rfl, hA', fun lw nlw => ?_⟩⟩
        rw [cut_vI (at_ + 1) 5 (by omega) (by omega), hrs]
        have sw : Same Hc (upd Hc lw (.lst (vI (((w' : Int) :: (h' : Int) :: (r' : Int) :: (m' : Int) :: (sl : Int) :: tl).take 5)))) := same_new nlw
        refine ⟨Nat.zero_le _, fun lr nlr => ?_⟩
        have sr := same_put (o := .lst []) sw (same_none sw nlr)
        refine ⟨_, rfl, rfl, _, rfl, ?_⟩
        rw [show decide (V.int 0 = V.int 1) = false from rfl]
        refine iteF ?_
        have el : lw ≠ lr := fun z => by
          rw [← z, upd_same] at nlr
          cases nlr
        exact hgo (bh := at_ + 6) (wl := [(w' : Int), (h' : Int), (r' : Int), (m' : Int), (sl : Int)]) (rw := []) (fun m' σ' H' l q => ⟨m', l, q⟩) (by omega) (by omega) sr (SqL.of (by rw [upd_ne el, upd_same]; rfl)) (SqL.of upd_same) (.begin st ⟨w', h', r', m', sl⟩ []) d5
      | frame a0 a1 a2 n r h0 h1 =>
        obtain ⟨w', h', m', g, rfl, rfl, rfl, hb, hl, _⟩ := Hs.asked_frame ha1
        obtain ⟨_, d1, l1⟩ := drop_get hrs
        obtain ⟨_, d2, l2⟩ := drop_get d1
        obtain ⟨_, d3, l3⟩ := drop_get d2
        obtain ⟨gn, d4, l4⟩ := drop_get d3
        obtain ⟨ab, rfl⟩ : ∃ ab, st = some ab := by
          rcases ha2 with z | z
          · exact Option.isSome_iff_exists.mp z
          · exact absurd (show (1 : Int) = 0 from z) (by decide)
        have hwf : Hs.Wf ab := by
          obtain ⟨dx, hv, hd, hs⟩ := hH
          rcases hs with ⟨z, _⟩ | ⟨ad, ab', q1, q2, q3, q4⟩
          · cases z
          · cases q1
            exact q4
        have hrl : r.length = ns.length - (at_ + 5) := by
          rw [← d4, List.length_drop]
        refine ⟨_, rfl, _, rfl, a, _, _, _, rfl, rfl, hA', at_vI hget, ?_⟩
        refine ⟨_, rfl, _, rfl, az, _, 1, .int 4, rfl, rfl, hz Hc, atI_nat (j := 1) rfl, _, _, rfl, rfl, ?_⟩
        refine ⟨_, rfl, ⟨_, rfl, _, _, rfl, rfl, _, rfl, _, rfl, _, rfl, a, _, rfl, hA', fun lw nlw => ?_⟩⟩
        rw [cut_vI (at_ + 1) 3 (by omega) (by omega), hrs]
        have sw : Same Hc (upd Hc lw (.lst (vI (((w' : Int) :: (h' : Int) :: (m' : Int) :: n :: r).take 3)))) := same_new nlw
        refine ⟨Nat.zero_le _, fun lr nlr => ?_⟩
        have sr := same_put (o := .lst []) sw (same_none sw nlr)
        refine ⟨_, rfl, rfl, _, rfl, ?_⟩
        rw [show decide (V.int 1 = V.int 1) = true from rfl]
        refine iteT ?_
        have el : lw ≠ lr := fun z => by
          rw [← z, upd_same] at nlr
          cases nlr
        have elw : (upd (upd Hc lw (.lst (vI (((w' : Int) :: (h' : Int) :: (m' : Int) :: n :: r).take 3)))) lr (.lst [])) lw = some (.lst (vI [(w' : Int), (h' : Int), (m' : Int)])) := by
          rw [upd_ne el, upd_same]
          rfl
        generalize upd (upd Hc lw (.lst (vI (((w' : Int) :: (h' : Int) :: (m' : Int) :: n :: r).take 3)))) lr (.lst []) = Hr at sr elw
        have hAr := sr.seq hA'
        -- the greys are cut out
        have en : (n.toNat : Int) = n := Int.toNat_of_nonneg h0
        have gn' : atI (vI ns) ((at_ : Int) + 4) = some (.int n) := by
          have := at_vI gn
          rw [show ((at_ + 1 + 1 + 1 + 1 : Nat) : Int) = (at_ : Int) + 4 by omega] at this
          exact this
        refine ⟨_, rfl, ⟨_, rfl, _, _, rfl, rfl, _, rfl, ⟨_, rfl, _, _, rfl, rfl, _, rfl, _, rfl, a, _, _, _, rfl, rfl, hAr, gn', _, _, rfl, rfl, _, rfl, a, _, rfl, hAr, fun lq nlq => ?_⟩⟩⟩
        rw [cut_vI (at_ + 5) n.toNat (by omega) (by omega), d4]
        have sq := same_put (o := .lst (vI (r.take n.toNat))) sr (same_none sr nlq)
        have elq : lw ≠ lq := fun z => by
          rw [← z, elw] at nlq
          cases nlq
        -- the place behind the greys
        refine ⟨_, rfl, _, _, rfl, rfl, _, rfl, lq, _, rfl, .inl (SqL.of upd_same), _, _, rfl, rfl, ?_⟩
        have eb : (at_ : Int) + 4 + 1 + ((vI (r.take n.toNat)).length : Int) = ((at_ + 5 + n.toNat : Nat) : Int) := by
          rw [vI_length, List.length_take, Nat.min_eq_left h1]
          omega
        dsimp only
        rw [eb]
        refine hgo (bh := at_ + 5 + n.toNat) (wl := [(w' : Int), (h' : Int), (m' : Int)]) (rw := r.take n.toNat) (fun m' σ' H' l q => ⟨m', l, q⟩) (by omega) (by omega) sq (SqL.of (by rw [upd_ne elq]; exact elw)) (SqL.of upd_same) ?_ ?_
        · rw [hb]
          refine .frame ab ⟨w', h', g⟩ m' fun q1 q2 => ?_
          obtain ⟨o1, o2, o3, o4, o5, o6, o7, o8⟩ := Hs.okSet_iff.mp hwf.ok
          have q1' : w' = ab.set.w := q1
          have q2' : h' = ab.set.h := q2
          exact hl (by omega) (by omega) (by omega) (by omega)
        · rw [← List.drop_drop, d4]
      | look tl =>
        obtain ⟨ab, rfl⟩ : ∃ ab, st = some ab := by
          rcases ha2 with z | z
          · exact Option.isSome_iff_exists.mp z
          · exact absurd (show (2 : Int) = 0 from z) (by decide)
        refine ⟨_, rfl, _, rfl, a, _, _, _, rfl, rfl, hA', at_vI hget, ?_⟩
        refine ⟨_, rfl, _, rfl, az, _, 2, .int 1, rfl, rfl, hz Hc, atI_nat (j := 2) rfl, _, _, rfl, rfl, ?_⟩
        refine ⟨_, rfl, ⟨_, rfl, _, _, rfl, rfl, _, rfl, _, rfl, _, rfl, a, _, rfl, hA', fun lw nlw => ?_⟩⟩
        rw [cut_vI (at_ + 1) 0 (by omega) (by omega)]
        have sw : Same Hc (upd Hc lw (.lst (vI ((ns.drop (at_ + 1)).take 0)))) := same_new nlw
        refine ⟨Nat.zero_le _, fun lr nlr => ?_⟩
        have sr := same_put (o := .lst []) sw (same_none sw nlr)
        refine ⟨_, rfl, rfl, _, rfl, ?_⟩
        rw [show decide (V.int 2 = V.int 1) = false from rfl]
        refine iteF ?_
        have el : lw ≠ lr := fun z => by
          rw [← z, upd_same] at nlr
          cases nlr
        exact hgo (bh := at_ + 1) (wl := []) (rw := []) (fun m' σ' H' l q => ⟨m', l, q⟩) (by omega) (by omega) sr (SqL.of (by rw [upd_ne el, upd_same, List.take_zero])) (SqL.of upd_same) (.look ab [] []) hrs
    · have hlt' : ¬ (at_ : Int) < ((vI ns).length : Int) := by
        rw [vI_length]
        omega
      rw [decide_eq_false hlt']
      refine iteF ?_
      have he : ns.drop at_ = [] := List.drop_eq_nil_of_le (by omega)
      rw [he] at hcs
      have := Hs.calls_nil hcs
      subst this
      refine ⟨_, rfl, k Hc t ?_⟩
      rw [ht, ← heq]
      show some (HO.lst (vI told)) = some (HO.lst (vI (told ++ [])))
      rw [List.append_nil]
end
end HsW
set_option Elab.async false
set_option maxRecDepth 100000
set_option maxHeartbeats 8000000
/-! The end: what the top has written, and the chain of the defs. -/
namespace HsW
open PySem PySem.Spec PyProof.Rows L2 LamX HsS
theorem all_mk {P : Program} {w : World} {K : PySem.W.Frag} {h : Heap} {mg : Str → Option Value} {fa ft c tb CP CH CD az f1 f2 f3 f4 f5 f6 f7 f8 f9 f10 f11 f12 f13 f14 f15 f16 f17 f18 f19 f20 f21 f22 : Addr} {ot : Obj} {fdt : FuncData} (X : K.In h) (G : h.Ns mainGlobals mg) (hfa : mg "answers" = some (.ref fa)) (hft : mg "all_shifts" = some (.ref ft)) (hot : h.get? ft = some ot) (hod : ot.data = .func fdt) (hoc : fdt.code = .ref c)
    {odz od1 an1 od2 an2 od3 an3 od4 an4 od5 an5 od6 an6 od7 an7 od8 an8 od9 an9 od10 an10 od11 an11 od12 an12 od13 an13 od14 an14 od15 an15 od16 an16 od17 an17 od18 an18 od19 an19 od20 an20 od21 an21 od22 an22 : Option Addr} {slz sl1 sl2 sl3 sl4 sl5 sl6 sl7 sl8 sl9 sl10 sl11 sl12 sl13 sl14 sl15 sl16 sl17 sl18 sl19 sl20 sl21 sl22 : Array (Option Value)} {nz : Nat} {t_MOST_REACH t_MOST_SIDE t_MOST_SLOW t_BEGIN t_FRAME tz1 tz2 tz3 : Tok} {oc1 kV1 dc1 pm1 cd1 ct1 oc2 kV2 dc2 pm2 cd2 ct2 oc3 kV3 dc3 pm3 cd3 ct3 oc4 kV4 dc4 pm4 cd4 ct4 oc5 kV5 dc5 pm5 cd5 ct5 oc6 kV6 dc6 pm6 cd6 ct6 oc7 kV7 dc7 pm7 cd7 ct7 oc8 kV8 dc8 pm8 cd8 ct8 oc9 kV9 dc9 pm9 cd9 ct9 oc10 kV10 dc10 pm10 cd10 ct10 oc11 kV11 dc11 pm11 cd11 ct11 oc12 kV12 dc12 pm12 cd12 ct12 oc13 kV13 dc13 pm13 cd13 ct13 oc14 kV14 dc14 pm14 cd14 ct14 oc15 kV15 dc15 pm15 cd15 ct15 oc16 kV16 dc16 pm16 cd16 ct16 oc17 kV17 dc17 pm17 cd17 ct17 oc18 kV18 dc18 pm18 cd18 ct18 oc19 kV19 dc19 pm19 cd19 ct19 oc20 kV20 dc20 pm20 cd20 ct20 oc21 kV21 dc21 pm21 cd21 ct21 oc22 kV22 dc22 pm22 cd22 ct22 : Value}
    (aCP : PySem.W.nsIn K mainGlobals "Picture" = some (some (.ref CP)))
    (aCH : PySem.W.nsIn K mainGlobals "Holder" = some (some (.ref CH)))
    (aCD : PySem.W.nsIn K mainGlobals "Hand" = some (some (.ref CD)))
    (a1 : PySem.W.findIn K (.ref CP) "__init__" = some (some (.ref f1)))
    (i1 : PySem.W.isFn K (.ref f1) = true)
    (l1 : K.lookup f1 = some ⟨oc1, od1, .func (PySem.W.fnOf "__init__" "Picture.__init__" (defArgs sPInit) (defBody sPInit) (defScope sPInit) .none kV1 dc1 pm1 an1 cd1 ct1), sl1⟩)
    (c1 : PySem.W.codeIn K cd1 "Picture.__init__" = true)
    (k1 : PySem.W.keepIn K (.ref f1) = true)
    (a2 : PySem.W.findIn K (.ref CP) "part" = some (some (.ref f2)))
    (i2 : PySem.W.isFn K (.ref f2) = true)
    (l2 : K.lookup f2 = some ⟨oc2, od2, .func (PySem.W.fnOf "part" "Picture.part" (defArgs sPart) (defBody sPart) (defScope sPart) .none kV2 dc2 pm2 an2 cd2 ct2), sl2⟩)
    (c2 : PySem.W.codeIn K cd2 "Picture.part" = true)
    (k2 : PySem.W.keepIn K (.ref f2) = true)
    (a3 : PySem.W.nsIn K mainGlobals "are_right" = some (some (.ref f3)))
    (l3 : K.lookup f3 = some ⟨oc3, od3, .func (PySem.W.fnOf "are_right" "are_right" (defArgs sRight) (defBody sRight) (defScope sRight) .none kV3 dc3 pm3 an3 cd3 ct3), sl3⟩)
    (c3 : PySem.W.codeIn K cd3 "are_right" = true)
    (k3 : PySem.W.keepIn K (.ref f3) = true)
    (a4 : PySem.W.nsIn K mainGlobals "all_shifts" = some (some (.ref f4)))
    (l4 : K.lookup f4 = some ⟨oc4, od4, .func (PySem.W.fnOf "all_shifts" "all_shifts" (defArgs sAll) (defBody sAll) (defScope sAll) .none kV4 dc4 pm4 an4 cd4 ct4), sl4⟩)
    (c4 : PySem.W.codeIn K cd4 "all_shifts" = true)
    (k4 : PySem.W.keepIn K (.ref f4) = true)
    (a5 : PySem.W.nsIn K mainGlobals "pairs_to" = some (some (.ref f5)))
    (l5 : K.lookup f5 = some ⟨oc5, od5, .func (PySem.W.fnOf "pairs_to" "pairs_to" (defArgs sPairs) (defBody sPairs) (defScope sPairs) .none kV5 dc5 pm5 an5 cd5 ct5), sl5⟩)
    (c5 : PySem.W.codeIn K cd5 "pairs_to" = true)
    (k5 : PySem.W.keepIn K (.ref f5) = true)
    (a6 : PySem.W.nsIn K mainGlobals "middle" = some (some (.ref f6)))
    (l6 : K.lookup f6 = some ⟨oc6, od6, .func (PySem.W.fnOf "middle" "middle" (defArgs sMiddle) (defBody sMiddle) (defScope sMiddle) .none kV6 dc6 pm6 an6 cd6 ct6), sl6⟩)
    (c6 : PySem.W.codeIn K cd6 "middle" = true)
    (k6 : PySem.W.keepIn K (.ref f6) = true)
    (a7 : PySem.W.nsIn K mainGlobals "cost" = some (some (.ref f7)))
    (l7 : K.lookup f7 = some ⟨oc7, od7, .func (PySem.W.fnOf "cost" "cost" (defArgs sCost) (defBody sCost) (defScope sCost) .none kV7 dc7 pm7 an7 cd7 ct7), sl7⟩)
    (c7 : PySem.W.codeIn K cd7 "cost" = true)
    (k7 : PySem.W.keepIn K (.ref f7) = true)
    (a8 : PySem.W.nsIn K mainGlobals "found_shift" = some (some (.ref f8)))
    (l8 : K.lookup f8 = some ⟨oc8, od8, .func (PySem.W.fnOf "found_shift" "found_shift" (defArgs sFound) (defBody sFound) (defScope sFound) .none kV8 dc8 pm8 an8 cd8 ct8), sl8⟩)
    (c8 : PySem.W.codeIn K cd8 "found_shift" = true)
    (k8 : PySem.W.keepIn K (.ref f8) = true)
    (a9 : PySem.W.nsIn K mainGlobals "is_told" = some (some (.ref f9)))
    (l9 : K.lookup f9 = some ⟨oc9, od9, .func (PySem.W.fnOf "is_told" "is_told" (defArgs sTold) (defBody sTold) (defScope sTold) .none kV9 dc9 pm9 an9 cd9 ct9), sl9⟩)
    (c9 : PySem.W.codeIn K cd9 "is_told" = true)
    (k9 : PySem.W.keepIn K (.ref f9) = true)
    (a10 : PySem.W.nsIn K mainGlobals "nearer" = some (some (.ref f10)))
    (l10 : K.lookup f10 = some ⟨oc10, od10, .func (PySem.W.fnOf "nearer" "nearer" (defArgs sNearer) (defBody sNearer) (defScope sNearer) .none kV10 dc10 pm10 an10 cd10 ct10), sl10⟩)
    (c10 : PySem.W.codeIn K cd10 "nearer" = true)
    (k10 : PySem.W.keepIn K (.ref f10) = true)
    (a11 : PySem.W.nsIn K mainGlobals "within" = some (some (.ref f11)))
    (l11 : K.lookup f11 = some ⟨oc11, od11, .func (PySem.W.fnOf "within" "within" (defArgs sWithin) (defBody sWithin) (defScope sWithin) .none kV11 dc11 pm11 an11 cd11 ct11), sl11⟩)
    (c11 : PySem.W.codeIn K cd11 "within" = true)
    (k11 : PySem.W.keepIn K (.ref f11) = true)
    (a12 : PySem.W.findIn K (.ref CH) "__init__" = some (some (.ref f12)))
    (i12 : PySem.W.isFn K (.ref f12) = true)
    (l12 : K.lookup f12 = some ⟨oc12, od12, .func (PySem.W.fnOf "__init__" "Holder.__init__" (defArgs sHInit) (defBody sHInit) (defScope sHInit) .none kV12 dc12 pm12 an12 cd12 ct12), sl12⟩)
    (c12 : PySem.W.codeIn K cd12 "Holder.__init__" = true)
    (k12 : PySem.W.keepIn K (.ref f12) = true)
    (a13 : PySem.W.findIn K (.ref CH) "follow" = some (some (.ref f13)))
    (i13 : PySem.W.isFn K (.ref f13) = true)
    (l13 : K.lookup f13 = some ⟨oc13, od13, .func (PySem.W.fnOf "follow" "Holder.follow" (defArgs sFollow) (defBody sFollow) (defScope sFollow) .none kV13 dc13 pm13 an13 cd13 ct13), sl13⟩)
    (c13 : PySem.W.codeIn K cd13 "Holder.follow" = true)
    (k13 : PySem.W.keepIn K (.ref f13) = true)
    (a14 : PySem.W.findIn K (.ref CH) "give_way" = some (some (.ref f14)))
    (i14 : PySem.W.isFn K (.ref f14) = true)
    (l14 : K.lookup f14 = some ⟨oc14, od14, .func (PySem.W.fnOf "give_way" "Holder.give_way" (defArgs sGive) (defBody sGive) (defScope sGive) .none kV14 dc14 pm14 an14 cd14 ct14), sl14⟩)
    (c14 : PySem.W.codeIn K cd14 "Holder.give_way" = true)
    (k14 : PySem.W.keepIn K (.ref f14) = true)
    (a15 : PySem.W.findIn K (.ref CH) "stay_within" = some (some (.ref f15)))
    (i15 : PySem.W.isFn K (.ref f15) = true)
    (l15 : K.lookup f15 = some ⟨oc15, od15, .func (PySem.W.fnOf "stay_within" "Holder.stay_within" (defArgs sStay) (defBody sStay) (defScope sStay) .none kV15 dc15 pm15 an15 cd15 ct15), sl15⟩)
    (c15 : PySem.W.codeIn K cd15 "Holder.stay_within" = true)
    (k15 : PySem.W.keepIn K (.ref f15) = true)
    (a16 : PySem.W.findIn K (.ref CH) "shown" = some (some (.ref f16)))
    (i16 : PySem.W.isFn K (.ref f16) = true)
    (l16 : K.lookup f16 = some ⟨oc16, od16, .func (PySem.W.fnOf "shown" "Holder.shown" (defArgs sShown) (defBody sShown) (defScope sShown) .none kV16 dc16 pm16 an16 cd16 ct16), sl16⟩)
    (c16 : PySem.W.codeIn K cd16 "Holder.shown" = true)
    (k16 : PySem.W.keepIn K (.ref f16) = true)
    (a17 : PySem.W.findIn K (.ref CH) "frame" = some (some (.ref f17)))
    (i17 : PySem.W.isFn K (.ref f17) = true)
    (l17 : K.lookup f17 = some ⟨oc17, od17, .func (PySem.W.fnOf "frame" "Holder.frame" (defArgs sFrame) (defBody sFrame) (defScope sFrame) .none kV17 dc17 pm17 an17 cd17 ct17), sl17⟩)
    (c17 : PySem.W.codeIn K cd17 "Holder.frame" = true)
    (k17 : PySem.W.keepIn K (.ref f17) = true)
    (a18 : PySem.W.findIn K (.ref CH) "where" = some (some (.ref f18)))
    (i18 : PySem.W.isFn K (.ref f18) = true)
    (l18 : K.lookup f18 = some ⟨oc18, od18, .func (PySem.W.fnOf "where" "Holder.where" (defArgs sWhere) (defBody sWhere) (defScope sWhere) .none kV18 dc18 pm18 an18 cd18 ct18), sl18⟩)
    (c18 : PySem.W.codeIn K cd18 "Holder.where" = true)
    (k18 : PySem.W.keepIn K (.ref f18) = true)
    (a19 : PySem.W.findIn K (.ref CD) "__init__" = some (some (.ref f19)))
    (i19 : PySem.W.isFn K (.ref f19) = true)
    (l19 : K.lookup f19 = some ⟨oc19, od19, .func (PySem.W.fnOf "__init__" "Hand.__init__" (defArgs sDInit) (defBody sDInit) (defScope sDInit) .none kV19 dc19 pm19 an19 cd19 ct19), sl19⟩)
    (c19 : PySem.W.codeIn K cd19 "Hand.__init__" = true)
    (k19 : PySem.W.keepIn K (.ref f19) = true)
    (a20 : PySem.W.findIn K (.ref CD) "begin" = some (some (.ref f20)))
    (i20 : PySem.W.isFn K (.ref f20) = true)
    (l20 : K.lookup f20 = some ⟨oc20, od20, .func (PySem.W.fnOf "begin" "Hand.begin" (defArgs sBegin) (defBody sBegin) (defScope sBegin) .none kV20 dc20 pm20 an20 cd20 ct20), sl20⟩)
    (c20 : PySem.W.codeIn K cd20 "Hand.begin" = true)
    (k20 : PySem.W.keepIn K (.ref f20) = true)
    (a21 : PySem.W.nsIn K mainGlobals "answer_to" = some (some (.ref f21)))
    (l21 : K.lookup f21 = some ⟨oc21, od21, .func (PySem.W.fnOf "answer_to" "answer_to" (defArgs sAnsTo) (defBody sAnsTo) (defScope sAnsTo) .none kV21 dc21 pm21 an21 cd21 ct21), sl21⟩)
    (c21 : PySem.W.codeIn K cd21 "answer_to" = true)
    (k21 : PySem.W.keepIn K (.ref f21) = true)
    (a22 : PySem.W.nsIn K mainGlobals "answers" = some (some (.ref f22)))
    (l22 : K.lookup f22 = some ⟨oc22, od22, .func (PySem.W.fnOf "answers" "answers" (defArgs sAns) (defBody sAns) (defScope sAns) .none kV22 dc22 pm22 an22 cd22 ct22), sl22⟩)
    (c22 : PySem.W.codeIn K cd22 "answers" = true)
    (k22 : PySem.W.keepIn K (.ref f22) = true)
    (pgCP : PySem.W.plainGet K CP Str.empty = true)
    (hdCP : PySem.W.hasDictIn K CP = true)
    (poCP : PySem.W.plainOver K CP = true)
    (saCP : PySem.W.findIn K (.ref CP) "__setattr__" = some (some (.builtin "object.__setattr__")))
    (mkCP : PySem.W.makesIn K CP = true)
    (kcCP : PySem.W.keepIn K (.ref CP) = true)
    (nCP_w : PySem.W.findIn K (.ref CP) "w" = some none)
    (nCP_h : PySem.W.findIn K (.ref CP) "h" = some none)
    (nCP_rows : PySem.W.findIn K (.ref CP) "rows" = some none)
    (pgCH : PySem.W.plainGet K CH Str.empty = true)
    (hdCH : PySem.W.hasDictIn K CH = true)
    (poCH : PySem.W.plainOver K CH = true)
    (saCH : PySem.W.findIn K (.ref CH) "__setattr__" = some (some (.builtin "object.__setattr__")))
    (mkCH : PySem.W.makesIn K CH = true)
    (kcCH : PySem.W.keepIn K (.ref CH) = true)
    (nCH_w : PySem.W.findIn K (.ref CH) "w" = some none)
    (nCH_h : PySem.W.findIn K (.ref CH) "h" = some none)
    (nCH_r : PySem.W.findIn K (.ref CH) "r" = some none)
    (nCH_m : PySem.W.findIn K (.ref CH) "m" = some none)
    (nCH_slow : PySem.W.findIn K (.ref CH) "slow" = some none)
    (nCH_before : PySem.W.findIn K (.ref CH) "before" = some none)
    (nCH_many : PySem.W.findIn K (.ref CH) "many" = some none)
    (nCH_x : PySem.W.findIn K (.ref CH) "x" = some none)
    (nCH_y : PySem.W.findIn K (.ref CH) "y" = some none)
    (nCH_dx : PySem.W.findIn K (.ref CH) "dx" = some none)
    (nCH_dy : PySem.W.findIn K (.ref CH) "dy" = some none)
    (pgCD : PySem.W.plainGet K CD Str.empty = true)
    (hdCD : PySem.W.hasDictIn K CD = true)
    (poCD : PySem.W.plainOver K CD = true)
    (saCD : PySem.W.findIn K (.ref CD) "__setattr__" = some (some (.builtin "object.__setattr__")))
    (mkCD : PySem.W.makesIn K CD = true)
    (kcCD : PySem.W.keepIn K (.ref CD) = true)
    (nCD_holder : PySem.W.findIn K (.ref CD) "holder" = some none)
    (b_range : PySem.W.nsIn K mainGlobals "range" = some none)
    (b_max : PySem.W.nsIn K mainGlobals "max" = some none)
    (b_min : PySem.W.nsIn K mainGlobals "min" = some none)
    (b_int : PySem.W.nsIn K mainGlobals "int" = some none)
    (b_abs : PySem.W.nsIn K mainGlobals "abs" = some none)
    (b_sum : PySem.W.nsIn K mainGlobals "sum" = some none)
    (b_zip : PySem.W.nsIn K mainGlobals "zip" = some none)
    (b_len : PySem.W.nsIn K mainGlobals "len" = some none)
    (b_sorted : PySem.W.nsIn K mainGlobals "sorted" = some none)
    (v_MOST_REACH : PySem.W.nsIn K mainGlobals "MOST_REACH" = some (some (.int 8 t_MOST_REACH)))
    (v_MOST_SIDE : PySem.W.nsIn K mainGlobals "MOST_SIDE" = some (some (.int 256 t_MOST_SIDE)))
    (v_MOST_SLOW : PySem.W.nsIn K mainGlobals "MOST_SLOW" = some (some (.int 65535 t_MOST_SLOW)))
    (v_BEGIN : PySem.W.nsIn K mainGlobals "BEGIN" = some (some (.int 0 t_BEGIN)))
    (v_FRAME : PySem.W.nsIn K mainGlobals "FRAME" = some (some (.int 1 t_FRAME)))
    (v_SIZES : PySem.W.nsIn K mainGlobals "SIZES" = some (some (.ref az)))
    (l_SIZES : K.lookup az = some ⟨.type "tuple", odz, .seq #[.int 6 tz1, .int 4 tz2, .int 1 tz3] nz, slz⟩)
    : ∃ fd : FuncData, (∀ (s : Shared) (us : List Value), us.length = (["calls"] : List Str).length → BindsTo s fd ⟨us, []⟩ ((["calls"] : List Str).zip us)) ∧
      ∀ base : Heap, K.In base → base.Ns mainGlobals mg → TabB base mg c tb → FnOk P w K mg base CX0 7 fa fd ["calls"] (spAns K tb) := by
  have e := hfa.symm.trans (PySem.W.mg_of X G a22)
  cases e
  have e := hft.symm.trans (PySem.W.mg_of X G a4)
  cases e
  have e := hot.symm.trans (X _ _ l4)
  cases e
  cases hod
  have e : cd4 = .ref c := hoc
  subst e
  have T : Txt K mg CP CH CD := ⟨⟨pgCP, hdCP, poCP, saCP⟩, nCP_w, nCP_h, nCP_rows, ⟨pgCH, hdCH, poCH, saCH⟩, nCH_w, nCH_h, nCH_r, nCH_m, nCH_slow, nCH_before, nCH_many, nCH_x, nCH_y, nCH_dx, nCH_dy, ⟨pgCD, hdCD, poCD, saCD⟩, nCD_holder, PySem.W.mg_of X G aCP, PySem.W.mg_of X G aCH, PySem.W.mg_of X G aCD, PySem.W.mg_none_of X G b_range, PySem.W.mg_none_of X G b_max, PySem.W.mg_none_of X G b_min, PySem.W.mg_none_of X G b_int, PySem.W.mg_none_of X G b_abs, PySem.W.mg_none_of X G b_sum, PySem.W.mg_none_of X G b_zip, PySem.W.mg_none_of X G b_len, PySem.W.mg_none_of X G b_sorted, ⟨_, PySem.W.mg_of X G v_MOST_REACH⟩, ⟨_, PySem.W.mg_of X G v_MOST_SIDE⟩, ⟨_, PySem.W.mg_of X G v_MOST_SLOW⟩, ⟨_, PySem.W.mg_of X G v_BEGIN⟩, ⟨_, PySem.W.mg_of X G v_FRAME⟩, ⟨az, PySem.W.mg_of X G v_SIZES, fun H => .inr ⟨_, _, _, l_SIZES, rfl, rfl, (by decide : (3 : Nat) ≤ sizeLine), .cons ⟨_, rfl⟩ (.cons ⟨_, rfl⟩ (.cons ⟨_, rfl⟩ .nil))⟩⟩⟩
  have F1 := fun_mk (st := sPInit) l1 c1 k1
  have b1 := F1.binds (ps := ["self", "w", "h", "greys"]) fun _ _ _ _ _ _ us hl => match us, hl with | [_, _, _, _], _ => rfl
  have F2 := fun_mk (st := sPart) l2 c2 k2
  have b2 := F2.binds (ps := ["self", "x", "y", "w", "h"]) fun _ _ _ _ _ _ us hl => match us, hl with | [_, _, _, _, _], _ => rfl
  have F3 := fun_mk (st := sRight) l3 c3 k3
  have b3 := F3.binds (ps := ["w", "h", "r"]) fun _ _ _ _ _ _ us hl => match us, hl with | [_, _, _], _ => rfl
  have b4 : Binds K (PySem.W.fnOf "all_shifts" "all_shifts" (defArgs sAll) (defBody sAll) (defScope sAll) .none kV4 dc4 pm4 an4 (.ref c) ct4) ["r"] [] := .all fun us hl => match us, hl with | [_], _ => rfl
  have F5 := fun_mk (st := sPairs) l5 c5 k5
  have b5 := F5.binds (ps := ["r"]) fun _ _ _ _ _ _ us hl => match us, hl with | [_], _ => rfl
  have F6 := fun_mk (st := sMiddle) l6 c6 k6
  have b6 := F6.binds (ps := ["picture", "r"]) fun _ _ _ _ _ _ us hl => match us, hl with | [_, _], _ => rfl
  have F7 := fun_mk (st := sCost) l7 c7 k7
  have b7 := F7.binds (ps := ["greys", "picture", "r", "shift"]) fun _ _ _ _ _ _ us hl => match us, hl with | [_, _, _, _], _ => rfl
  have F8 := fun_mk (st := sFound) l8 c8 k8
  have b8 := F8.binds (ps := ["before", "after", "r"]) fun _ _ _ _ _ _ us hl => match us, hl with | [_, _, _], _ => rfl
  have F9 := fun_mk (st := sTold) l9 c9 k9
  have b9 := F9.binds (ps := ["w", "h", "r", "m", "slow"]) fun _ _ _ _ _ _ us hl => match us, hl with | [_, _, _, _, _], _ => rfl
  have F10 := fun_mk (st := sNearer) l10 c10 k10
  have b10 := F10.binds (ps := ["number", "m"]) fun _ _ _ _ _ _ us hl => match us, hl with | [_, _], _ => rfl
  have F11 := fun_mk (st := sWithin) l11 c11 k11
  have b11 := F11.binds (ps := ["number", "m"]) fun _ _ _ _ _ _ us hl => match us, hl with | [_, _], _ => rfl
  have F12 := fun_mk (st := sHInit) l12 c12 k12
  have b12 := F12.binds (ps := ["self", "w", "h", "r", "m", "slow"]) fun _ _ _ _ _ _ us hl => match us, hl with | [_, _, _, _, _, _], _ => rfl
  have F13 := fun_mk (st := sFollow) l13 c13 k13
  have b13 := F13.binds (ps := ["self", "picture"]) fun _ _ _ _ _ _ us hl => match us, hl with | [_, _], _ => rfl
  have F14 := fun_mk (st := sGive) l14 c14 k14
  have b14 := F14.binds (ps := ["self"]) fun _ _ _ _ _ _ us hl => match us, hl with | [_], _ => rfl
  have F15 := fun_mk (st := sStay) l15 c15 k15
  have b15 := F15.binds (ps := ["self"]) fun _ _ _ _ _ _ us hl => match us, hl with | [_], _ => rfl
  have F16 := fun_mk (st := sShown) l16 c16 k16
  have b16 := F16.binds (ps := ["self", "picture"]) fun _ _ _ _ _ _ us hl => match us, hl with | [_, _], _ => rfl
  have F17 := fun_mk (st := sFrame) l17 c17 k17
  have b17 := F17.binds (ps := ["self", "w", "h", "m", "greys"]) fun _ _ _ _ _ _ us hl => match us, hl with | [_, _, _, _, _], _ => rfl
  have F18 := fun_mk (st := sWhere) l18 c18 k18
  have b18 := F18.binds (ps := ["self"]) fun _ _ _ _ _ _ us hl => match us, hl with | [_], _ => rfl
  have F19 := fun_mk (st := sDInit) l19 c19 k19
  have b19 := F19.binds (ps := ["self"]) fun _ _ _ _ _ _ us hl => match us, hl with | [_], _ => rfl
  have F20 := fun_mk (st := sBegin) l20 c20 k20
  have b20 := F20.binds (ps := ["self", "wholes"]) fun _ _ _ _ _ _ us hl => match us, hl with | [_, _], _ => rfl
  have F21 := fun_mk (st := sAnsTo) l21 c21 k21
  have b21 := F21.binds (ps := ["hand", "word", "wholes", "row"]) fun _ _ _ _ _ _ us hl => match us, hl with | [_, _, _, _], _ => rfl
  have F22 := fun_mk (st := sAns) l22 c22 k22
  have b22 := F22.binds (ps := ["calls"]) fun _ _ _ _ _ _ us hl => match us, hl with | [_], _ => rfl
  have m1 : Meth K CP "__init__" f1 := ⟨a1, i1, k1⟩
  have m2 : Meth K CP "part" f2 := ⟨a2, i2, k2⟩
  have g3 := PySem.W.mg_of X G a3
  have g4 := PySem.W.mg_of X G a4
  have g5 := PySem.W.mg_of X G a5
  have g6 := PySem.W.mg_of X G a6
  have g7 := PySem.W.mg_of X G a7
  have g8 := PySem.W.mg_of X G a8
  have g9 := PySem.W.mg_of X G a9
  have g10 := PySem.W.mg_of X G a10
  have g11 := PySem.W.mg_of X G a11
  have m12 : Meth K CH "__init__" f12 := ⟨a12, i12, k12⟩
  have m13 : Meth K CH "follow" f13 := ⟨a13, i13, k13⟩
  have m14 : Meth K CH "give_way" f14 := ⟨a14, i14, k14⟩
  have m15 : Meth K CH "stay_within" f15 := ⟨a15, i15, k15⟩
  have m16 : Meth K CH "shown" f16 := ⟨a16, i16, k16⟩
  have m17 : Meth K CH "frame" f17 := ⟨a17, i17, k17⟩
  have m18 : Meth K CH "where" f18 := ⟨a18, i18, k18⟩
  have m19 : Meth K CD "__init__" f19 := ⟨a19, i19, k19⟩
  have m20 : Meth K CD "begin" f20 := ⟨a20, i20, k20⟩
  have g21 := PySem.W.mg_of X G a21
  have g22 := PySem.W.mg_of X G a22
  have MCP : Mk K CP f1 := ⟨mkCP, a1, i1, kcCP⟩
  have MCH : Mk K CH f12 := ⟨mkCH, a12, i12, kcCH⟩
  have MCD : Mk K CD f19 := ⟨mkCD, a19, i19, kcCD⟩
  refine ⟨(PySem.W.fnOf "answers" "answers" (defArgs sAns) (defBody sAns) (defScope sAns) .none kV22 dc22 pm22 an22 cd22 ct22), fun s us hu => match us, hu with | [_], _ => .of_eq rfl, fun base _ _ TB => ?_⟩
  have G4 := ok_all (P := P) (w := w) l4 c4 T F5 b5 g5 TB
  have G8 := ok_found F8 T F2 b2 m2 F6 b6 g6 F7 b7 g7 G4 k4 b4 g4
  have G13 := ok_follow F13 T G8 k8 b8 g8
  have G14 := ok_give (P := P) (w := w) (base := base) (tb := tb) F14 T F10 b10 g10
  have G15 := ok_stay (P := P) (w := w) (base := base) (tb := tb) F15 T F11 b11 g11
  have G17 := ok_frame F17 T MCP F1 b1 G13 b13 m13 G14 b14 m14 G15 b15 m15 F16 b16 m16 F2 b2 m2
  have G9 := ok_told (P := P) (w := w) (base := base) F9 T F3 b3 g3
  have G20 := ok_begin F20 T G9 k9 b9 g9 MCH F12 b12
  have G21 := ok_ansTo F21 T G20 b20 m20 G17 b17 m17 F18 b18 m18
  exact ok_ans F22 T MCD F19 b19 G21 k21 b21 g21
end HsW
open PySem PySem.W PyProof.Rows
set_option maxRecDepth 100000 in
set_option maxHeartbeats 8000000 in
theorem PySem.Challenge.cw_heldstill_s01_answers_holds : PySem.Challenge.rw_heldstill_s01_answers.Holds := by
  w_on; k_headS; (case hw => exact ⟨[.list [.int 0, .int 1, .int 1, .int 0, .int 0, .int 0]], by decide +kernel, by decide +kernel⟩)
  k_fillS
  refine HsE.walk_tab (r := PySem.Challenge.rw_heldstill_s01_answers) (k := 7) (ps := ["calls"]) (sp := HsW.spAns) (nm := "all_shifts") (by decide +kernel) rfl ⟨rfl, by decide, by decide⟩ (fun w h Y => PySem.W.kIn_of Y) (fun _ => by kernel_rfl) rfl ?F ?S
  case F =>
    intro w mg fa ft c tb ot fdt h Y KX G hmg hft hot hod hoc
    refine' HsW.all_mk KX G hmg hft hot hod hoc ?aCP ?aCH ?aCD ?a1 ?i1 ?l1 ?c1 ?k1 ?a2 ?i2 ?l2 ?c2 ?k2 ?a3 ?l3 ?c3 ?k3 ?a4 ?l4 ?c4 ?k4 ?a5 ?l5 ?c5 ?k5 ?a6 ?l6 ?c6 ?k6 ?a7 ?l7 ?c7 ?k7 ?a8 ?l8 ?c8 ?k8 ?a9 ?l9 ?c9 ?k9 ?a10 ?l10 ?c10 ?k10 ?a11 ?l11 ?c11 ?k11 ?a12 ?i12 ?l12 ?c12 ?k12 ?a13 ?i13 ?l13 ?c13 ?k13 ?a14 ?i14 ?l14 ?c14 ?k14 ?a15 ?i15 ?l15 ?c15 ?k15 ?a16 ?i16 ?l16 ?c16 ?k16 ?a17 ?i17 ?l17 ?c17 ?k17 ?a18 ?i18 ?l18 ?c18 ?k18 ?a19 ?i19 ?l19 ?c19 ?k19 ?a20 ?i20 ?l20 ?c20 ?k20 ?a21 ?l21 ?c21 ?k21 ?a22 ?l22 ?c22 ?k22 ?pgCP ?hdCP ?poCP ?saCP ?mkCP ?kcCP ?nCP_w ?nCP_h ?nCP_rows ?pgCH ?hdCH ?poCH ?saCH ?mkCH ?kcCH ?nCH_w ?nCH_h ?nCH_r ?nCH_m ?nCH_slow ?nCH_before ?nCH_many ?nCH_x ?nCH_y ?nCH_dx ?nCH_dy ?pgCD ?hdCD ?poCD ?saCD ?mkCD ?kcCD ?nCD_holder ?b_range ?b_max ?b_min ?b_int ?b_abs ?b_sum ?b_zip ?b_len ?b_sorted ?v_MOST_REACH ?v_MOST_SIDE ?v_MOST_SLOW ?v_BEGIN ?v_FRAME ?v_SIZES ?l_SIZES
    (case aCP => k_is)
    (case aCH => k_is)
    (case aCD => k_is)
    (case a1 => k_is)
    (case i1 => k_is)
    (case l1 => k_is)
    (case c1 => k_is)
    (case k1 => k_is)
    (case a2 => k_is)
    (case i2 => k_is)
    (case l2 => k_is)
    (case c2 => k_is)
    (case k2 => k_is)
    (case a3 => k_is)
    (case l3 => k_is)
    (case c3 => k_is)
    (case k3 => k_is)
    (case a4 => k_is)
    (case l4 => k_is)
    (case c4 => k_is)
    (case k4 => k_is)
    (case a5 => k_is)
    (case l5 => k_is)
    (case c5 => k_is)
    (case k5 => k_is)
    (case a6 => k_is)
    (case l6 => k_is)
    (case c6 => k_is)
    (case k6 => k_is)
    (case a7 => k_is)
    (case l7 => k_is)
    (case c7 => k_is)
    (case k7 => k_is)
    (case a8 => k_is)
    (case l8 => k_is)
    (case c8 => k_is)
    (case k8 => k_is)
    (case a9 => k_is)
    (case l9 => k_is)
    (case c9 => k_is)
    (case k9 => k_is)
    (case a10 => k_is)
    (case l10 => k_is)
    (case c10 => k_is)
    (case k10 => k_is)
    (case a11 => k_is)
    (case l11 => k_is)
    (case c11 => k_is)
    (case k11 => k_is)
    (case a12 => k_is)
    (case i12 => k_is)
    (case l12 => k_is)
    (case c12 => k_is)
    (case k12 => k_is)
    (case a13 => k_is)
    (case i13 => k_is)
    (case l13 => k_is)
    (case c13 => k_is)
    (case k13 => k_is)
    (case a14 => k_is)
    (case i14 => k_is)
    (case l14 => k_is)
    (case c14 => k_is)
    (case k14 => k_is)
    (case a15 => k_is)
    (case i15 => k_is)
    (case l15 => k_is)
    (case c15 => k_is)
    (case k15 => k_is)
    (case a16 => k_is)
    (case i16 => k_is)
    (case l16 => k_is)
    (case c16 => k_is)
    (case k16 => k_is)
    (case a17 => k_is)
    (case i17 => k_is)
    (case l17 => k_is)
    (case c17 => k_is)
    (case k17 => k_is)
    (case a18 => k_is)
    (case i18 => k_is)
    (case l18 => k_is)
    (case c18 => k_is)
    (case k18 => k_is)
    (case a19 => k_is)
    (case i19 => k_is)
    (case l19 => k_is)
    (case c19 => k_is)
    (case k19 => k_is)
    (case a20 => k_is)
    (case i20 => k_is)
    (case l20 => k_is)
    (case c20 => k_is)
    (case k20 => k_is)
    (case a21 => k_is)
    (case l21 => k_is)
    (case c21 => k_is)
    (case k21 => k_is)
    (case a22 => k_is)
    (case l22 => k_is)
    (case c22 => k_is)
    (case k22 => k_is)
    (case pgCP => k_is)
    (case hdCP => k_is)
    (case poCP => k_is)
    (case saCP => k_is)
    (case mkCP => k_is)
    (case kcCP => k_is)
    (case nCP_w => k_is)
    (case nCP_h => k_is)
    (case nCP_rows => k_is)
    (case pgCH => k_is)
    (case hdCH => k_is)
    (case poCH => k_is)
    (case saCH => k_is)
    (case mkCH => k_is)
    (case kcCH => k_is)
    (case nCH_w => k_is)
    (case nCH_h => k_is)
    (case nCH_r => k_is)
    (case nCH_m => k_is)
    (case nCH_slow => k_is)
    (case nCH_before => k_is)
    (case nCH_many => k_is)
    (case nCH_x => k_is)
    (case nCH_y => k_is)
    (case nCH_dx => k_is)
    (case nCH_dy => k_is)
    (case pgCD => k_is)
    (case hdCD => k_is)
    (case poCD => k_is)
    (case saCD => k_is)
    (case mkCD => k_is)
    (case kcCD => k_is)
    (case nCD_holder => k_is)
    (case b_range => k_is)
    (case b_max => k_is)
    (case b_min => k_is)
    (case b_int => k_is)
    (case b_abs => k_is)
    (case b_sum => k_is)
    (case b_zip => k_is)
    (case b_len => k_is)
    (case b_sorted => k_is)
    (case v_MOST_REACH => k_is)
    (case v_MOST_SIDE => k_is)
    (case v_MOST_SLOW => k_is)
    (case v_BEGIN => k_is)
    (case v_FRAME => k_is)
    (case v_SIZES => k_is)
    (case l_SIZES => k_is)
  case S =>
    intro K tb H0 H xs a hwi hask hx hs hH
    cases hx with
    | cons h1 h2 =>
      cases h2
      cases h1 with
      | lst hq ha =>
        have e := L2.ints_dw a.1 _ ha
        subst e
        exact ⟨_, a.1, rfl, hs.seq hq, hask, LamX.TabS.nil hH, fun H' p hp => .lst (L2.SqL.of hp) (L2.dw_ints _)⟩
#print axioms PySem.Challenge.cw_heldstill_s01_answers_holds
