import PyProof.Rows.All
import Wide.All
import OpenK.AllK
import Wide.FinOn
import Open.SpecLaws
import KE.OsGo
import HandS.ForSpec
import HandS.ForMost
import HandS.TryMany
import HandS.ExcInit
import HandS.ExcField
import HandS.Flow
import HandS.SortRule
import HandS.Walk
import KE.DatumOrd
import PySem.Challenge.RW_glovepairs_s01_answers
set_option Elab.async false
set_option linter.all false
set_option maxRecDepth 100000
set_option maxHeartbeats 2000000
/-! The plain law: what the program's defs compute, told of the specification's own box; no program here. -/
namespace Gp
open Si90

/-! ### plans one name at a time -/
/-- what may be told next -/
def choices (n : Nat) (p : List Nat) : List Nat := (List.range n).filter (fun t => !p.contains t) ++ [n]
/-- all plans, longer by one at the end each time -/
def grow (n : Nat) (found : List (List Nat)) : List (List Nat) := found.flatMap fun p => (choices n p).map fun t => p ++ [t]
def allPlans (n : Nat) : Nat → List (List Nat)
  | 0 => [[]]
  | k + 1 => grow n (allPlans n k)
/-- the pairs of a plan -/
def pairsOf (n : Nat) (p : List Nat) : List (Nat × Nat) := (List.range p.length).filterMap fun i => if p.getD i 0 = n then none else some (i, p.getD i 0)

/-- the specification's «told twice», by the number of right ones -/
def twice (n : Nat) (l : List Nat) : Option Nat := (List.range l.length).find? fun i => l.getD i 0 != n && (List.range i).any fun j => l.getD j 0 == l.getD i 0
theorem twice_is (b : Box) (l : List Nat) : b.twice l = twice b.none_ l := rfl

theorem getD_app_left {l r : List Nat} {i : Nat} (h : i < l.length) : (l ++ r).getD i 0 = l.getD i 0 := by
  simp [List.getD_eq_getElem?_getD, List.getElem?_append_left h]
theorem getD_app_last {l : List Nat} {t : Nat} : (l ++ [t]).getD l.length 0 = t := by
  simp [List.getD_eq_getElem?_getD]

theorem any_range_getD (l : List Nat) (t : Nat) : ((List.range l.length).any fun j => l.getD j 0 == t) = l.contains t := by
  rw [Bool.eq_iff_iff]
  simp only [List.any_eq_true, List.mem_range, beq_iff_eq, List.contains_iff_mem]
  constructor
  · rintro ⟨j, hj, rfl⟩
    simp [List.getD_eq_getElem?_getD, hj]
  · intro h
    obtain ⟨j, hj, e⟩ := List.mem_iff_getElem.mp h
    exact ⟨j, hj, by simp [List.getD_eq_getElem?_getD, hj, e]⟩

theorem find_congr {α : Type} {p q : α → Bool} : ∀ {l : List α}, (∀ x ∈ l, p x = q x) → l.find? p = l.find? q
  | [], _ => rfl
  | a :: l, h => by
    simp only [List.find?_cons]
    rw [h a (by simp), find_congr fun x hx => h x (by simp [hx])]

theorem twice_app (n : Nat) (l : List Nat) (t : Nat) : (twice n (l ++ [t])).isNone = ((twice n l).isNone && !(t != n && l.contains t)) := by
  unfold twice
  rw [List.length_append, List.length_singleton, List.range_succ, List.find?_append]
  have e1 : ((List.range l.length).find? fun i => (l ++ [t]).getD i 0 != n && (List.range i).any fun j => (l ++ [t]).getD j 0 == (l ++ [t]).getD i 0) =
      ((List.range l.length).find? fun i => l.getD i 0 != n && (List.range i).any fun j => l.getD j 0 == l.getD i 0) := by
    refine find_congr fun i hi => ?_
    have hi' : i < l.length := List.mem_range.mp hi
    rw [getD_app_left hi']
    congr 1
    rw [Bool.eq_iff_iff]
    simp only [List.any_eq_true, List.mem_range]
    constructor
    · rintro ⟨j, hj, h⟩
      exact ⟨j, hj, by rw [getD_app_left (by omega)] at h; exact h⟩
    · rintro ⟨j, hj, h⟩
      exact ⟨j, hj, by rw [getD_app_left (by omega)]; exact h⟩
  rw [e1]
  have e2 : ((List.range l.length).any fun j => (l ++ [t]).getD j 0 == t) = l.contains t := by
    rw [← any_range_getD l t, Bool.eq_iff_iff]
    simp only [List.any_eq_true, List.mem_range]
    constructor
    · rintro ⟨j, hj, h⟩
      exact ⟨j, hj, by rw [getD_app_left hj] at h; exact h⟩
    · rintro ⟨j, hj, h⟩
      exact ⟨j, hj, by rw [getD_app_left hj]; exact h⟩
  simp only [List.find?_cons, List.find?_nil, getD_app_last]
  rw [e2]
  generalize ((List.range l.length).find? _) = o
  cases o with
  | some x => simp
  | none => cases (t != n && l.contains t) <;> simp

/-! ### the specification's rows, by their ends -/
theorem rows_snoc (k : Nat) : ∀ n, rows k (n + 1) = (rows k n).flatMap fun l => (List.range (k + 1)).map fun t => l ++ [t]
  | 0 => by
    show ((List.range (k + 1)).flatMap fun t => ([[]] : List (List Nat)).map fun l => t :: l) = ([[]] : List (List Nat)).flatMap _
    simp [List.flatMap_cons, List.map_eq_flatMap]
  | n + 1 => by
    show ((List.range (k + 1)).flatMap fun t => (rows k (n + 1)).map fun l => t :: l) = ((List.range (k + 1)).flatMap fun t => (rows k n).map fun l => t :: l).flatMap _
    rw [rows_snoc k n, List.flatMap_assoc]
    congr 1
    funext t
    rw [List.map_flatMap, List.flatMap_map]
    congr 1
    funext l
    simp
theorem mem_rows {k : Nat} : ∀ {n : Nat} {l : List Nat}, l ∈ rows k n ↔ l.length = n ∧ ∀ x ∈ l, x ≤ k
  | 0, l => by
    show l ∈ [[]] ↔ _
    rw [List.mem_singleton]
    constructor
    · rintro rfl
      exact ⟨rfl, by simp⟩
    · rintro ⟨h, _⟩
      exact List.length_eq_zero_iff.mp h
  | n + 1, l => by
    show l ∈ ((List.range (k + 1)).flatMap fun t => (rows k n).map fun l => t :: l) ↔ _
    rw [List.mem_flatMap]
    constructor
    · rintro ⟨t, ht, h⟩
      obtain ⟨r, hr, rfl⟩ := List.mem_map.mp h
      obtain ⟨h1, h2⟩ := mem_rows.mp hr
      have := List.mem_range.mp ht
      refine ⟨by simp [h1], fun x hx => ?_⟩
      rcases List.mem_cons.mp hx with rfl | hx
      · omega
      · exact h2 x hx
    · rintro ⟨h1, h2⟩
      cases l with
      | nil => simp at h1
      | cons t r =>
        refine ⟨t, List.mem_range.mpr (by have := h2 t (by simp); omega), List.mem_map.mpr ⟨r, mem_rows.mpr ⟨by simpa using h1, fun x hx => h2 x (by simp [hx])⟩, rfl⟩⟩

theorem flatMap_filter {α β : Type} (p : α → Bool) (f : α → List β) : ∀ l : List α, (l.filter p).flatMap f = l.flatMap fun x => if p x = true then f x else []
  | [] => rfl
  | a :: l => by
    rw [List.filter_cons, List.flatMap_cons]
    cases h : p a
    · simp [flatMap_filter p f l]
    · simp [flatMap_filter p f l, List.flatMap_cons]
theorem choices_is (n : Nat) (l : List Nat) : choices n l = (List.range (n + 1)).filter fun t => !(t != n && l.contains t) := by
  unfold choices
  rw [List.range_succ, List.filter_append]
  congr 1
  · refine List.filter_congr fun t ht => ?_
    have : t ≠ n := Nat.ne_of_lt (List.mem_range.mp ht)
    simp [this]
  · simp
theorem allPlans_is (n : Nat) : ∀ k, allPlans n k = (rows n k).filter fun l => (twice n l).isNone
  | 0 => rfl
  | k + 1 => by
    show grow n (allPlans n k) = _
    rw [allPlans_is n k, rows_snoc]
    unfold grow
    rw [flatMap_filter, List.filter_flatMap]
    congr 1
    funext l
    rw [List.filter_map]
    have e : ((fun l => (twice n l).isNone) ∘ fun t => l ++ [t]) = fun t => (twice n l).isNone && !(t != n && l.contains t) := by
      funext t
      exact twice_app n l t
    rw [e, choices_is]
    cases (twice n l).isNone
    · simp
    · simp
theorem mem_allPlans {n k : Nat} {l : List Nat} : l ∈ allPlans n k ↔ (l.length = k ∧ ∀ x ∈ l, x ≤ n) ∧ (twice n l).isNone = true := by
  rw [allPlans_is, List.mem_filter, mem_rows]

/-! ### how many, off, the worst: lists of pairs -/
theorem pairs_count (b : Box) (l : List Nat) : (pairsOf b.none_ l).length = b.pairs l := by
  unfold pairsOf Box.pairs
  have key : ∀ (l : List Nat) (s : Nat) (f : Nat → Nat), (∀ i, i < l.length → f (s + i) = l.getD i 0) →
      ((List.range' s l.length).filterMap fun i => if f i = b.none_ then none else some (i, f i)).length = (l.filter fun k => k != b.none_).length := by
    intro l
    induction l with
    | nil => intro s f h; rfl
    | cons a l ih =>
      intro s f h
      have h0 : f s = a := h 0 (by simp)
      have hs := ih (s + 1) f fun i hi => by
        have := h (i + 1) (by simp; omega)
        rw [show s + 1 + i = s + (i + 1) by omega, this]
        rfl
      rw [List.length_cons, List.range'_succ, List.filterMap_cons, List.filter_cons, h0]
      by_cases e : a = b.none_
      · simp [e] at hs ⊢
        exact hs
      · simp [e] at hs ⊢
        exact hs
  have := key l 0 (fun i => l.getD i 0) fun i _ => by rw [Nat.zero_add]
  rwa [← List.range_eq_range'] at this
theorem off_of (b : Box) (l : List Nat) : ((pairsOf b.none_ l).map fun x => b.differ x.1 x.2).sum = b.off l := by
  unfold pairsOf Box.off
  have key : ∀ r : List Nat, ((r.filterMap fun i => if l.getD i 0 = b.none_ then none else some (i, l.getD i 0)).map fun x => b.differ x.1 x.2).sum = (r.map fun i => if l.getD i 0 = b.none_ then 0 else b.differ i (l.getD i 0)).sum := by
    intro r
    induction r with
    | nil => rfl
    | cons i r ih =>
      rw [List.filterMap_cons, List.map_cons, List.sum_cons, ← ih]
      generalize l.getD i 0 = t
      by_cases e : t = b.none_
      · rw [if_pos e, if_pos e, Nat.zero_add]
      · rw [if_neg e, if_neg e, List.map_cons, List.sum_cons]
  exact key _
theorem foldl_max_acc : ∀ (r : List Nat) (a c : Nat), max c (r.foldl max a) = r.foldl max (max c a)
  | [], _, _ => rfl
  | x :: r, a, c => by
    rw [List.foldl_cons, List.foldl_cons, foldl_max_acc r, Nat.max_assoc]
theorem le_foldl_max : ∀ (r : List Nat) (a : Nat), a ≤ r.foldl max a ∧ ∀ x ∈ r, x ≤ r.foldl max a
  | [], a => ⟨Nat.le_refl _, by simp⟩
  | y :: r, a => by
    obtain ⟨h1, h2⟩ := le_foldl_max r (max a y)
    rw [List.foldl_cons]
    refine ⟨by omega, fun x hx => ?_⟩
    rcases List.mem_cons.mp hx with rfl | hx
    · omega
    · exact h2 x hx
theorem foldl_max_mem : ∀ (r : List Nat) (a : Nat), r.foldl max a = a ∨ r.foldl max a ∈ r
  | [], a => .inl rfl
  | y :: r, a => by
    rw [List.foldl_cons]
    rcases foldl_max_mem r (max a y) with h | h
    · rw [h]
      by_cases e : a ≤ y
      · exact .inr (by rw [Nat.max_eq_right e]; simp)
      · exact .inl (by omega)
    · exact .inr (by simp [h])
theorem worst_of (b : Box) (l : List Nat) : ((pairsOf b.none_ l).map fun x => b.differ x.1 x.2).foldl max 0 = b.worst l := by
  unfold pairsOf Box.worst
  have key : ∀ (r : List Nat) (a : Nat), ((r.filterMap fun i => if l.getD i 0 = b.none_ then none else some (i, l.getD i 0)).map fun x => b.differ x.1 x.2).foldl max a = (r.map fun i => if l.getD i 0 = b.none_ then 0 else b.differ i (l.getD i 0)).foldl max a := by
    intro r
    induction r with
    | nil => intro a; rfl
    | cons i r ih =>
      intro a
      rw [List.filterMap_cons, List.map_cons, List.foldl_cons, ← ih]
      generalize l.getD i 0 = t
      by_cases e : t = b.none_
      · rw [if_pos e, if_pos e, Nat.max_zero]
      · rw [if_neg e, if_neg e, List.map_cons, List.foldl_cons]
  exact key _ _
/-- a number that stands in the list and that none is above is its greatest -/
theorem max_unique {r : List Nat} {m : Nat} (h1 : m ∈ 0 :: r) (h2 : ∀ y ∈ 0 :: r, y ≤ m) : m = r.foldl max 0 := by
  obtain ⟨g1, g2⟩ := le_foldl_max r 0
  refine Nat.le_antisymm ?_ ?_
  · rcases List.mem_cons.mp h1 with rfl | h
    · exact g1
    · exact g2 m h
  · rcases foldl_max_mem r 0 with h | h
    · rw [h]; exact Nat.zero_le _
    · exact h2 _ (by simp [h])

/-! ### too unlike, told twice -/
theorem head_filterMap {α β : Type} (f : α → Option β) (p : β → Bool) (q : α → Bool) (g : β → α) (h : ∀ x, (match f x with | none => false | some y => p y) = q x) (hg : ∀ x y, f x = some y → g y = x) :
    ∀ r : List α, ((((r.filterMap f).filter p).map g).head?) = r.find? q
  | [] => rfl
  | x :: r => by
    have hx := h x
    have ih := head_filterMap f p q g h hg r
    rw [List.filterMap_cons, List.find?_cons]
    cases e : f x with
    | none =>
      rw [e] at hx
      rw [← hx]
      exact ih
    | some y =>
      rw [e] at hx
      simp only at hx
      rw [List.filter_cons, ← hx]
      cases ep : p y
      · simpa using ih
      · simp [hg x y e]
/-- the left ones of a plan that differ too much -/
def unlike (b : Box) (l : List Nat) : List Nat := ((pairsOf b.none_ l).filter fun x => decide (b.limit < b.differ x.1 x.2)).map (·.1)
theorem unlike_head (b : Box) (l : List Nat) : (unlike b l).head? = b.bad l := by
  unfold unlike pairsOf Box.bad
  refine head_filterMap _ _ _ _ (fun i => ?_) (fun i y h => ?_) _
  · generalize l.getD i 0 = t
    by_cases e : t = b.none_
    · simp [e]
    · simp [e]
  · generalize l.getD i 0 = t at h
    by_cases e : t = b.none_
    · simp [e] at h
    · simp [e] at h
      rw [← h]
def again (b : Box) (l : List Nat) : List Nat := ((pairsOf b.none_ l).filter fun x => (l.take x.1).contains x.2).map (·.1)
theorem any_range_take (l : List Nat) (i t : Nat) (h : i ≤ l.length) : ((List.range i).any fun j => l.getD j 0 == t) = (l.take i).contains t := by
  rw [← any_range_getD, List.length_take, Nat.min_eq_left h, Bool.eq_iff_iff]
  simp only [List.any_eq_true, List.mem_range]
  constructor
  · rintro ⟨j, hj, e⟩
    refine ⟨j, hj, ?_⟩
    rw [← e]
    simp [List.getD_eq_getElem?_getD, List.getElem?_take, hj]
  · rintro ⟨j, hj, e⟩
    refine ⟨j, hj, ?_⟩
    rw [← e]
    simp [List.getD_eq_getElem?_getD, List.getElem?_take, hj]
theorem again_head (b : Box) (l : List Nat) : (again b l).head? = b.twice l := by
  unfold again pairsOf Box.twice
  have key : ∀ r : List Nat, (∀ i ∈ r, i ≤ l.length) → ((((r.filterMap fun i => if l.getD i 0 = b.none_ then none else some (i, l.getD i 0)).filter fun x => (l.take x.1).contains x.2).map (·.1)).head?) =
      r.find? fun i => l.getD i 0 != b.none_ && (List.range i).any fun j => l.getD j 0 == l.getD i 0 := by
    intro r hr
    have e : (r.find? fun i => l.getD i 0 != b.none_ && (List.range i).any fun j => l.getD j 0 == l.getD i 0) = r.find? fun i => l.getD i 0 != b.none_ && (l.take i).contains (l.getD i 0) :=
      find_congr fun i hi => by rw [any_range_take l i _ (hr i hi)]
    rw [e]
    refine head_filterMap _ _ _ _ (fun i => ?_) (fun i y h => ?_) _
    · generalize l.getD i 0 = t
      by_cases e : t = b.none_
      · simp [e]
      · simp [e]
    · generalize l.getD i 0 = t at h
      by_cases e : t = b.none_
      · simp [e] at h
      · simp [e] at h
        rw [← h]
  exact key _ fun i hi => Nat.le_of_lt (List.mem_range.mp hi)

/-! ### the plans that can be -/
theorem worst_le {b : Box} {l : List Nat} {d : Nat} : b.worst l ≤ d ↔ ∀ i, i < l.length → l.getD i 0 ≠ b.none_ → b.differ i (l.getD i 0) ≤ d := by
  unfold Box.worst
  obtain ⟨_, h2⟩ := le_foldl_max ((List.range l.length).map fun i => if l.getD i 0 = b.none_ then 0 else b.differ i (l.getD i 0)) 0
  constructor
  · intro h i hi hn
    have := h2 (b.differ i (l.getD i 0)) (List.mem_map.mpr ⟨i, List.mem_range.mpr hi, by rw [if_neg hn]⟩)
    omega
  · intro h
    rcases foldl_max_mem ((List.range l.length).map fun i => if l.getD i 0 = b.none_ then 0 else b.differ i (l.getD i 0)) 0 with e | e
    · rw [e]; exact Nat.zero_le _
    · obtain ⟨i, hi, e2⟩ := List.mem_map.mp e
      rw [← e2]
      split
      · exact Nat.zero_le _
      · rename_i hn
        exact h i (List.mem_range.mp hi) hn
theorem bad_none (b : Box) (l : List Nat) : (b.bad l).isNone = decide (b.worst l ≤ b.limit) := by
  rw [Bool.eq_iff_iff, decide_eq_true_iff, worst_le, Option.isNone_iff_eq_none]
  unfold Box.bad
  rw [List.find?_eq_none]
  constructor
  · intro h i hi hn
    have := h i (List.mem_range.mpr hi)
    simp only [Bool.and_eq_true, bne_iff_ne, decide_eq_true_iff, not_and] at this
    have := this hn
    omega
  · intro h i hi
    simp only [Bool.and_eq_true, bne_iff_ne, decide_eq_true_iff, not_and]
    intro hn
    have := h i (List.mem_range.mp hi) hn
    omega
theorem plans_is (b : Box) : (allPlans b.none_ b.lefts.length).filter (fun l => decide (b.worst l ≤ b.limit)) = b.plans := by
  unfold Box.plans
  rw [allPlans_is, List.filter_filter]
  refine List.filter_congr fun l hl => ?_
  obtain ⟨h1, h2⟩ := mem_rows.mp hl
  unfold Box.can
  have ht : b.told l = true := by
    unfold Box.told
    simp only [Bool.and_eq_true, beq_iff_eq, List.all_eq_true, decide_eq_true_iff]
    exact ⟨h1, h2⟩
  rw [ht, bad_none, twice_is, Bool.true_and]
theorem replicate_mem (n : Nat) : ∀ k, List.replicate k n ∈ allPlans n k
  | 0 => by simp [allPlans]
  | k + 1 => by
    show _ ∈ grow n (allPlans n k)
    unfold grow
    rw [List.mem_flatMap]
    refine ⟨_, replicate_mem n k, List.mem_map.mpr ⟨n, by simp [choices], ?_⟩⟩
    rw [← List.replicate_succ']
theorem worst_replicate (b : Box) (k : Nat) : b.worst (List.replicate k b.none_) = 0 := by
  have : b.worst (List.replicate k b.none_) ≤ 0 := worst_le.mpr fun i hi hn => by
    rw [List.length_replicate] at hi
    exact absurd (by simp [List.getD_eq_getElem?_getD, hi]) hn
  omega
theorem plans_ne (b : Box) : b.plans ≠ [] := by
  rw [← plans_is]
  intro h
  have : List.replicate b.lefts.length b.none_ ∈ (allPlans b.none_ b.lefts.length).filter (fun l => decide (b.worst l ≤ b.limit)) :=
    List.mem_filter.mpr ⟨replicate_mem _ _, by rw [worst_replicate]; simp⟩
  rw [h] at this
  cases this

/-! ### the best -/
/-- x is told of a nonempty list -/
structure IsBest (b : Box) (L : List (List Nat)) (x : Best) : Prop where
  top : ∀ q ∈ L, better (b.pairs q) (b.off q) x.pairs x.off = false
  row : (L.filter fun q => decide (b.pairs q = x.pairs ∧ b.off q = x.off)).head? = some x.row
  many : (L.filter fun q => decide (b.pairs q = x.pairs ∧ b.off q = x.off)).length = x.many
def bestStep (b : Box) (r : Option Best) (l : List Nat) : Option Best := match r with
  | none => some ⟨b.pairs l, b.off l, 1, l⟩
  | some x => if better (b.pairs l) (b.off l) x.pairs x.off = true then some ⟨b.pairs l, b.off l, 1, l⟩ else if b.pairs l = x.pairs ∧ b.off l = x.off then some { x with many := x.many + 1 } else some x
theorem better_iff {a b c d : Nat} : better a b c d = true ↔ c < a ∨ (a = c ∧ b < d) := by
  unfold better
  simp
theorem better_not {a b c d : Nat} : better a b c d = false ↔ a < c ∨ (a = c ∧ d ≤ b) := by
  rw [← Bool.not_eq_true, better_iff]
  omega
theorem best_step {b : Box} {L : List (List Nat)} {x : Best} (h : IsBest b L x) (l : List Nat) : ∃ y, bestStep b (some x) l = some y ∧ IsBest b (L ++ [l]) y := by
  unfold bestStep
  simp only
  by_cases c : better (b.pairs l) (b.off l) x.pairs x.off = true
  · rw [if_pos c]
    have c' := better_iff.mp c
    have e : (L.filter fun q => decide (b.pairs q = b.pairs l ∧ b.off q = b.off l)) = [] := by
      rw [List.filter_eq_nil_iff]
      intro q hq z
      have := better_not.mp (h.top q hq)
      have z := of_decide_eq_true z
      omega
    refine ⟨_, rfl, fun q hq => ?_, ?_, ?_⟩
    · rcases List.mem_append.mp hq with hq | hq
      · have := better_not.mp (h.top q hq)
        exact better_not.mpr (by dsimp only; omega)
      · rw [List.mem_singleton.mp hq]
        exact better_not.mpr (by dsimp only; omega)
    · rw [List.filter_append, e]
      simp
    · rw [List.filter_append, e]
      simp
  · rw [if_neg c]
    have c' := better_not.mp (by simpa using c)
    by_cases d : b.pairs l = x.pairs ∧ b.off l = x.off
    · rw [if_pos d]
      refine ⟨_, rfl, fun q hq => ?_, ?_, ?_⟩
      · rcases List.mem_append.mp hq with hq | hq
        · exact h.top q hq
        · rw [List.mem_singleton.mp hq]
          exact better_not.mpr (by omega)
      · rw [List.filter_append, List.head?_append, h.row]
        rfl
      · rw [List.filter_append, List.length_append, h.many]
        simp [d]
    · rw [if_neg d]
      refine ⟨_, rfl, fun q hq => ?_, ?_, ?_⟩
      · rcases List.mem_append.mp hq with hq | hq
        · exact h.top q hq
        · rw [List.mem_singleton.mp hq]
          exact better_not.mpr (by omega)
      · rw [List.filter_append, List.head?_append, h.row]
        rfl
      · rw [List.filter_append, List.length_append, h.many]
        simp [d]
theorem best_fold (b : Box) : ∀ (R L : List (List Nat)) (x : Best), IsBest b L x → ∃ y, R.foldl (bestStep b) (some x) = some y ∧ IsBest b (L ++ R) y
  | [], L, x, h => ⟨x, rfl, by simpa using h⟩
  | l :: R, L, x, h => by
    obtain ⟨y, e, hy⟩ := best_step h l
    obtain ⟨z, e2, hz⟩ := best_fold b R (L ++ [l]) y hy
    refine ⟨z, by rw [List.foldl_cons, e, e2], by simpa using hz⟩
theorem best_some (b : Box) : ∃ y, b.best = some y ∧ IsBest b b.plans y := by
  have e : b.best = b.plans.foldl (bestStep b) none := rfl
  rw [e]
  cases h : b.plans with
  | nil => exact absurd h (plans_ne b)
  | cons l R =>
    have h0 : IsBest b [l] ⟨b.pairs l, b.off l, 1, l⟩ := by
      refine ⟨fun q hq => ?_, by simp, by simp⟩
      rw [List.mem_singleton.mp hq]
      exact better_not.mpr (.inr ⟨rfl, Nat.le_refl _⟩)
    obtain ⟨y, e, hy⟩ := best_fold b R [l] _ h0
    exact ⟨y, by rw [List.foldl_cons]; exact e, hy⟩

/-- what the program answers of the best: some plan of the least rank, then all of that rank -/
theorem best_answer (b : Box) {m : List Nat} (hm : m ∈ b.plans) (least : ∀ q ∈ b.plans, better (b.pairs q) (b.off q) (b.pairs m) (b.off m) = false) :
    ∃ p0 rest, (b.plans.filter fun q => decide (b.pairs q = b.pairs m ∧ b.off q = b.off m)) = p0 :: rest ∧ b.best = some ⟨b.pairs p0, b.off p0, rest.length + 1, p0⟩ := by
  obtain ⟨y, e, hy⟩ := best_some b
  have hrow := hy.row
  have hmany := hy.many
  cases hL : (b.plans.filter fun q => decide (b.pairs q = y.pairs ∧ b.off q = y.off)) with
  | nil => rw [hL] at hrow; cases hrow
  | cons p0 rest =>
    rw [hL] at hrow hmany
    have hp : p0 = y.row := Option.some.inj hrow
    have hp0 : p0 ∈ b.plans.filter fun q => decide (b.pairs q = y.pairs ∧ b.off q = y.off) := by rw [hL]; simp
    obtain ⟨h1, h2⟩ := List.mem_filter.mp hp0
    have h2 := of_decide_eq_true h2
    have t1 := better_not.mp (hy.top m hm)
    have t2 := better_not.mp (least p0 h1)
    have e1 : b.pairs m = y.pairs := by omega
    have e2 : b.off m = y.off := by omega
    refine ⟨p0, rest, by rw [e1, e2]; exact hL, ?_⟩
    rw [e, h2.1, h2.2]
    congr 1
    obtain ⟨a1, a2, a3, a4⟩ := y
    simp only at hmany hp
    rw [Best.mk.injEq]
    exact ⟨rfl, rfl, by rw [← hmany]; rfl, hp.symm⟩

/-! ### needs -/
/-- the box with any difference allowed -/
def wide (b : Box) : Box := { b with limit := 1000000 }
theorem worst_wide (b : Box) (l : List Nat) : (wide b).worst l = b.worst l := rfl
theorem pairs_wide (b : Box) (l : List Nat) : (wide b).pairs l = b.pairs l := rfl
/-- all sizes are told ones -/
structure Fine (b : Box) : Prop where
  nl : b.lefts.length ≤ 5
  nr : b.rights.length ≤ 5
  sl : ∀ x ∈ b.lefts, x ≤ 1000
  sr : ∀ x ∈ b.rights, x ≤ 1000
  lim : b.limit ≤ 1000
theorem getD_le {l : List Nat} {m : Nat} (h : ∀ x ∈ l, x ≤ m) (i : Nat) : l.getD i 0 ≤ m := by
  rw [List.getD_eq_getElem?_getD]
  cases e : l[i]? with
  | none => exact Nat.zero_le _
  | some x => exact h x (List.mem_of_getElem? e)
theorem differ_le {b : Box} (h : Fine b) (i k : Nat) : b.differ i k ≤ 1000 := by
  have h1 := getD_le h.sl i
  have h2 := getD_le h.sr k
  unfold Box.differ apart Box.left Box.right_
  omega
theorem wide_plans {b : Box} (h : Fine b) : (wide b).plans = allPlans b.none_ b.lefts.length := by
  rw [← plans_is]
  refine List.filter_eq_self.mpr fun l _ => ?_
  rw [decide_eq_true_iff, worst_wide]
  refine worst_le.mpr fun i _ _ => ?_
  have := differ_le h i (l.getD i 0)
  show _ ≤ 1000000
  omega
theorem least_none : ∀ {l : List Nat}, least l = none → l = []
  | [], _ => rfl
  | n :: l, h => by
    unfold least at h
    split at h <;> cases h
theorem least_some : ∀ {l : List Nat} {m : Nat}, m ∈ l → (∀ y ∈ l, m ≤ y) → least l = some m
  | [], m, h, _ => by cases h
  | n :: l, m, h, hle => by
    unfold least
    cases e : least l with
    | none =>
      have := least_none e
      subst this
      rw [List.mem_singleton.mp h]
    | some k =>
      simp only
      congr 1
      have hn := hle n (by simp)
      have hk : k ∈ l ∧ ∀ y ∈ l, k ≤ y := by
        clear h hle hn
        induction l generalizing k with
        | nil => cases e
        | cons a l ih =>
          unfold least at e
          cases e2 : least l with
          | none =>
            rw [e2] at e
            have := least_none e2
            subst this
            cases e
            simp
          | some j =>
            rw [e2] at e
            cases e
            obtain ⟨h1, h2⟩ := ih _ e2
            refine ⟨?_, fun y hy => ?_⟩
            · by_cases c : a ≤ j
              · rw [Nat.min_eq_left c]; simp
              · rw [Nat.min_eq_right (by omega)]; simp [h1]
            · rcases List.mem_cons.mp hy with rfl | hy
              · omega
              · have := h2 y hy; omega
      have h1 := hle k (by simp [hk.1])
      rcases List.mem_cons.mp h with rfl | h
      · omega
      · have := hk.2 m h
        omega
/-- so many pairs: 0, 1, .., then none -/
def stairs (n k many : Nat) : List Nat := List.range many ++ List.replicate (k - many) n
theorem stairs_mem {n k many : Nat} (h1 : many ≤ k) (h2 : many ≤ n) : stairs n k many ∈ allPlans n k := by
  rw [mem_allPlans]
  refine ⟨⟨by simp [stairs]; omega, fun x hx => ?_⟩, ?_⟩
  · rcases List.mem_append.mp hx with hx | hx
    · have := List.mem_range.mp hx; omega
    · rw [List.eq_of_mem_replicate hx]; exact Nat.le_refl _
  · rw [Option.isNone_iff_eq_none]
    unfold twice
    rw [List.find?_eq_none]
    intro i hi
    have hi : i < k := by have := List.mem_range.mp hi; simp [stairs] at this; omega
    have at_ : ∀ j, j < k → (stairs n k many).getD j 0 = if j < many then j else n := by
      intro j hj
      unfold stairs
      rw [List.getD_eq_getElem?_getD]
      by_cases c : j < many
      · rw [List.getElem?_append_left (by simpa using c)]
        simp [c]
      · rw [List.getElem?_append_right (by simpa using c)]
        simp [c]
        rw [List.getElem?_replicate, if_pos (by omega)]
        rfl
    rw [at_ i hi]
    by_cases c : i < many
    · simp only [c, if_true, Bool.and_eq_true, not_and, Bool.not_eq_true]
      intro _
      rw [List.any_eq_false]
      intro j hj
      have hj := List.mem_range.mp hj
      rw [at_ j (by omega), if_pos (by omega)]
      simp
      omega
    · simp [c]
theorem stairs_pairs {b : Box} {k many : Nat} (h2 : many ≤ b.none_) : b.pairs (stairs b.none_ k many) = many := by
  unfold Box.pairs stairs
  rw [List.filter_append, List.length_append]
  have e1 : (List.range many).filter (fun k => k != b.none_) = List.range many := List.filter_eq_self.mpr fun x hx => by
    have := List.mem_range.mp hx
    simp
    omega
  have e2 : (List.replicate (k - many) b.none_).filter (fun k => k != b.none_) = [] := List.filter_eq_nil_iff.mpr fun x hx => by
    rw [List.eq_of_mem_replicate hx]
    simp
  rw [e1, e2]
  simp
/-- so many of a plan's pairs at the most -/
theorem nodup_below : ∀ (n : Nat) (l : List Nat), l.Nodup → (∀ x ∈ l, x < n) → l.length ≤ n
  | 0, l, _, h => by
    cases l with
    | nil => exact Nat.le_refl _
    | cons a l => exact absurd (h a (by simp)) (by omega)
  | n + 1, l, hd, h => by
    have h1 := nodup_below n (l.erase n) (hd.erase n) fun x hx => by
      have h2 := h x (List.mem_of_mem_erase hx)
      have h3 : x ≠ n := by
        rintro rfl
        exact (hd.not_mem_erase) hx
      omega
    have h2 := List.length_erase (a := n) (l := l)
    split at h2 <;> omega
theorem pairs_le_left (b : Box) (l : List Nat) : b.pairs l ≤ l.length := List.length_filter_le _ _
theorem twice_nodup (n : Nat) (l : List Nat) : (twice n l).isNone = true → (l.filter fun k => k != n).Nodup := by
  intro h
  have key : ∀ r s : List Nat, l = s ++ r → (twice n s).isNone = true ∧ (s.filter fun k => k != n).Nodup → (l.filter fun k => k != n).Nodup := by
    intro r
    induction r with
    | nil =>
      intro s e hs
      rw [e, List.append_nil]
      exact hs.2
    | cons t r ih =>
      intro s e hs
      refine ih (s ++ [t]) (by simp [e]) ?_
      have hk : (twice n (s ++ [t])).isNone = true := by
        have hl : ∀ (r2 s2 : List Nat), (twice n (s2 ++ r2)).isNone = true → (twice n s2).isNone = true := by
          intro r2
          induction r2 with
          | nil => intro s2 h2; simpa using h2
          | cons t2 r2 ih2 =>
            intro s2 h2
            have h3 := ih2 (s2 ++ [t2]) (by simpa using h2)
            rw [twice_app, Bool.and_eq_true] at h3
            exact h3.1
        refine hl r (s ++ [t]) ?_
        rw [List.append_assoc]
        exact e ▸ h
      refine ⟨hk, ?_⟩
      rw [twice_app, Bool.and_eq_true] at hk
      rw [List.filter_append]
      by_cases c : t = n
      · simp [c, hs.2]
      · have : t ∉ s := by
          intro hm
          have h2 := hk.2
          simp [c, hm] at h2
        have e1 : ([t].filter fun k => k != n) = [t] := by simp [c]
        rw [e1, List.nodup_append]
        refine ⟨hs.2, by simp, fun a ha q hq => ?_⟩
        rw [List.mem_singleton] at hq
        subst hq
        rintro rfl
        exact this (List.mem_filter.mp ha).1
  exact key l [] rfl ⟨rfl, by simp⟩
theorem pairs_le_right {b : Box} {l : List Nat} (h : l ∈ allPlans b.none_ b.lefts.length) : b.pairs l ≤ b.rights.length := by
  obtain ⟨⟨_, h2⟩, h3⟩ := mem_allPlans.mp h
  refine nodup_below _ _ (twice_nodup _ _ h3) fun x hx => ?_
  obtain ⟨h4, h5⟩ := List.mem_filter.mp hx
  have := h2 x h4
  have h6 : x ≠ b.none_ := by simpa using h5
  show x < b.none_
  omega
theorem needs_none {b : Box} (h : Fine b) {many : Nat} (hm : ¬ (many ≤ b.lefts.length ∧ many ≤ b.rights.length)) : b.needs many = none := by
  show least (((wide b).plans.filter fun l => decide (many ≤ (wide b).pairs l)).map (wide b).worst) = none
  rw [wide_plans h]
  have : ((allPlans b.none_ b.lefts.length).filter fun l => decide (many ≤ (wide b).pairs l)) = [] := by
    rw [List.filter_eq_nil_iff]
    intro l hl
    have h1 := pairs_le_right hl
    have h2 := pairs_le_left b l
    rw [(mem_allPlans.mp hl).1.1] at h2
    rw [pairs_wide, decide_eq_true_iff]
    omega
  rw [this]
  rfl
/-- what needed reads: the worst of all plans with so many pairs -/
def needList (b : Box) (many : Nat) : List Nat := ((allPlans b.none_ b.lefts.length).filter fun l => decide (many ≤ b.pairs l)).map b.worst
theorem needs_some {b : Box} (h : Fine b) {many m : Nat} (h1 : m ∈ needList b many) (h2 : ∀ y ∈ needList b many, m ≤ y) : b.needs many = some m := by
  show least (((wide b).plans.filter fun l => decide (many ≤ (wide b).pairs l)).map (wide b).worst) = some m
  rw [wide_plans h]
  exact least_some h1 h2
theorem needList_ne {b : Box} {many : Nat} (h1 : many ≤ b.lefts.length) (h2 : many ≤ b.rights.length) : 0 < (needList b many).length := by
  refine List.length_pos_of_mem (a := b.worst (stairs b.none_ b.lefts.length many)) (List.mem_map.mpr ⟨_, List.mem_filter.mpr ⟨stairs_mem h1 h2, ?_⟩, rfl⟩)
  rw [stairs_pairs h2]
  simp
/-! ### how many plans there are -/
theorem choices_len (n : Nat) (p : List Nat) : (choices n p).length ≤ n + 1 := by
  unfold choices
  rw [List.length_append]
  have := List.length_filter_le (fun t => !p.contains t) (List.range n)
  rw [List.length_range] at this
  rw [List.length_singleton]
  omega
theorem flatMap_len {α β : Type} (f : α → List β) (c : Nat) (h : ∀ x, (f x).length ≤ c) : ∀ l : List α, (l.flatMap f).length ≤ l.length * c
  | [] => by simp
  | a :: l => by
    rw [List.flatMap_cons, List.length_append, List.length_cons, Nat.add_mul, Nat.one_mul]
    have h1 := h a
    have h2 := flatMap_len f c h l
    omega
theorem allPlans_len {n : Nat} (h : n ≤ 5) : ∀ k, (allPlans n k).length ≤ 6 ^ k
  | 0 => by simp [allPlans]
  | k + 1 => by
    have h1 := flatMap_len (fun p => (choices n p).map fun t => p ++ [t]) 6 (fun p => by rw [List.length_map]; have := choices_len n p; omega) (allPlans n k)
    have h2 := allPlans_len h k
    show (grow n (allPlans n k)).length ≤ _
    unfold grow
    rw [Nat.pow_succ]
    exact Nat.le_trans h1 (Nat.mul_le_mul_right 6 h2)

/-! ### by size -/
def leS (l : List Nat) (i k : Nat) : Bool := decide (l.getD i 0 < l.getD k 0) || (l.getD i 0 == l.getD k 0 && decide (i ≤ k))
theorem leS_iff {l : List Nat} {i k : Nat} : leS l i k = true ↔ l.getD i 0 < l.getD k 0 ∨ (l.getD i 0 = l.getD k 0 ∧ i ≤ k) := by
  unfold leS
  rw [Bool.or_eq_true, Bool.and_eq_true, decide_eq_true_iff, decide_eq_true_iff, beq_iff_eq]
theorem sorted_def (l : List Nat) : Si90.sorted l = (List.range l.length).mergeSort (leS l) := rfl
theorem sorted_perm (l : List Nat) : (Si90.sorted l).Perm (List.range l.length) := List.mergeSort_perm _ _
theorem sorted_pair (l : List Nat) : (Si90.sorted l).Pairwise fun a b => leS l a b = true := by
  rw [sorted_def]
  refine List.pairwise_mergeSort (fun a b c h1 h2 => ?_) (fun a b => ?_) _
  · rw [leS_iff] at *
    omega
  · rw [Bool.or_eq_true, leS_iff, leS_iff]
    omega
/-- a list of all places in that order is the sorted one -/
theorem sorted_unique {l Z : List Nat} (hp : Z.Perm (List.range l.length)) (hs : Z.Pairwise fun a b => leS l a b = true) : Z = Si90.sorted l := by
  refine List.Perm.eq_of_pairwise (le := fun a b => leS l a b = true) (fun a b _ _ h1 h2 => ?_) hs (sorted_pair l) (hp.trans (sorted_perm l).symm)
  rw [leS_iff] at *
  omega
theorem sorted_lt {l : List Nat} {i : Nat} (h : i ∈ Si90.sorted l) : i < l.length := List.mem_range.mp ((sorted_perm l).mem_iff.mp h)
theorem sorted_len (l : List Nat) : (Si90.sorted l).length = l.length := by
  rw [(sorted_perm l).length_eq, List.length_range]
theorem sorted_nodup (l : List Nat) : (Si90.sorted l).Nodup := (sorted_perm l).nodup_iff.mpr List.nodup_range

/-! ### from the smallest on -/
theorem plain_nil_l (b : Box) (f : Nat) (r : List Nat) : b.plainFrom f [] r = [] := by
  cases f <;> rfl
theorem plain_nil_r (b : Box) (f : Nat) (l : List Nat) : b.plainFrom f l [] = [] := by
  cases f <;> cases l <;> rfl
theorem plain_step (b : Box) (f : Nat) (i : Nat) (l : List Nat) (k : Nat) (r : List Nat) : b.plainFrom (f + 1) (i :: l) (k :: r) =
    if b.differ i k ≤ b.limit then (i, k) :: b.plainFrom f l r else if b.left i < b.right_ k then b.plainFrom f l (k :: r) else b.plainFrom f (i :: l) r := rfl
theorem plain_sub_l (b : Box) : ∀ (f : Nat) (l r : List Nat), ((b.plainFrom f l r).map (·.1)).Sublist l
  | 0, l, r => List.nil_sublist l
  | f + 1, [], r => List.nil_sublist []
  | f + 1, i :: l, [] => List.nil_sublist _
  | f + 1, i :: l, k :: r => by
    rw [plain_step]
    split
    · exact (plain_sub_l b f l r).cons_cons i
    · split
      · exact (plain_sub_l b f l (k :: r)).cons i
      · exact plain_sub_l b f (i :: l) r
theorem plain_sub_r (b : Box) : ∀ (f : Nat) (l r : List Nat), ((b.plainFrom f l r).map (·.2)).Sublist r
  | 0, l, r => List.nil_sublist r
  | f + 1, [], r => List.nil_sublist _
  | f + 1, i :: l, [] => List.nil_sublist _
  | f + 1, i :: l, k :: r => by
    rw [plain_step]
    split
    · exact (plain_sub_r b f l r).cons_cons k
    · split
      · exact plain_sub_r b f l (k :: r)
      · exact (plain_sub_r b f (i :: l) r).cons k
/-- the pairs written into a plan -/
def fill (n z : Nat) (P : List (Nat × Nat)) : List Nat := P.foldl (fun acc x => acc.set x.1 x.2) (List.replicate n z)
theorem fill_at : ∀ (P : List (Nat × Nat)) (acc : List Nat) (i : Nat), (P.map (·.1)).Nodup → (∀ x ∈ P, x.1 < acc.length) → i < acc.length →
    (P.foldl (fun acc x => acc.set x.1 x.2) acc)[i]? = some (((P.find? fun x => x.1 == i).map fun x => x.2).getD (acc.getD i 0))
  | [], acc, i, _, _, hi => by simp [List.getD_eq_getElem?_getD, hi]
  | x :: P, acc, i, hn, hx, hi => by
    rw [List.map_cons, List.nodup_cons] at hn
    rw [List.foldl_cons, fill_at P (acc.set x.1 x.2) i hn.2 (fun y hy => by rw [List.length_set]; exact hx y (by simp [hy])) (by rw [List.length_set]; exact hi), List.find?_cons]
    by_cases e : x.1 = i
    · have hnone : P.find? (fun x => x.1 == i) = none := by
        rw [List.find?_eq_none]
        intro y hy hyi
        have : y.1 = i := by simpa using hyi
        exact hn.1 (List.mem_map.mpr ⟨y, hy, by rw [this, e]⟩)
      rw [hnone]
      simp [e, List.getD_eq_getElem?_getD, hi]
    · have : (x.1 == i) = false := by simpa using e
      rw [this]
      simp [List.getD_eq_getElem?_getD, List.getElem?_set_ne e]
theorem fill_len : ∀ (P : List (Nat × Nat)) (acc : List Nat), (P.foldl (fun acc x => acc.set x.1 x.2) acc).length = acc.length
  | [], acc => rfl
  | x :: P, acc => by rw [List.foldl_cons, fill_len P, List.length_set]
def plainPairs (b : Box) : List (Nat × Nat) := b.plainFrom (b.lefts.length + b.rights.length) (Si90.sorted b.lefts) (Si90.sorted b.rights)
theorem plain_fill (b : Box) : fill b.lefts.length b.none_ (plainPairs b) = b.plain := by
  have hs := plain_sub_l b (b.lefts.length + b.rights.length) (Si90.sorted b.lefts) (Si90.sorted b.rights)
  have hn : ((plainPairs b).map (·.1)).Nodup := hs.nodup (sorted_nodup _)
  have hx : ∀ x ∈ plainPairs b, x.1 < b.lefts.length := fun x hx => sorted_lt (hs.subset (List.mem_map.mpr ⟨x, hx, rfl⟩))
  have e : b.plain = (List.range b.lefts.length).map fun i => (((plainPairs b).find? fun x => x.1 == i).map fun x => x.2).getD b.none_ := rfl
  rw [e]
  refine List.ext_getElem? fun i => ?_
  by_cases hi : i < b.lefts.length
  · unfold fill
    rw [fill_at _ _ i hn (fun x h => by rw [List.length_replicate]; exact hx x h) (by rw [List.length_replicate]; exact hi)]
    simp [hi, List.getD_eq_getElem?_getD]
  · rw [List.getElem?_eq_none (by unfold fill; rw [fill_len, List.length_replicate]; omega), List.getElem?_eq_none (by simp; omega)]
theorem plain_len (b : Box) : b.plain.length = b.lefts.length := by
  rw [← plain_fill]
  unfold fill
  rw [fill_len, List.length_replicate]
theorem plain_le (b : Box) : ∀ k ∈ b.plain, k ≤ b.none_ := by
  intro k hk
  have e : b.plain = (List.range b.lefts.length).map fun i => (((plainPairs b).find? fun x => x.1 == i).map fun x => x.2).getD b.none_ := rfl
  rw [e] at hk
  obtain ⟨i, _, rfl⟩ := List.mem_map.mp hk
  cases h : (plainPairs b).find? fun x => x.1 == i with
  | none => exact Nat.le_refl _
  | some x =>
    have hx := List.mem_of_find?_eq_some h
    have := sorted_lt ((plain_sub_r b _ _ _).subset (List.mem_map.mpr ⟨x, hx, rfl⟩))
    exact Nat.le_of_lt this

/-! ### told plans -/
theorem pairsOf_mem {n : Nat} {p : List Nat} (hp : ∀ k ∈ p, k ≤ n) {c : Nat × Nat} (h : c ∈ pairsOf n p) : c.1 < p.length ∧ c.2 < n := by
  unfold pairsOf at h
  obtain ⟨i, hi, e⟩ := List.mem_filterMap.mp h
  have hi := List.mem_range.mp hi
  split at e
  · cases e
  · cases e
    rename_i ne
    refine ⟨hi, ?_⟩
    have h1 : p.getD i 0 ≤ n := hp _ (by rw [List.getD_eq_getElem?_getD, List.getElem?_eq_getElem hi]; exact List.getElem_mem hi)
    show p.getD i 0 < n
    omega
theorem pairsOf_len (n : Nat) (p : List Nat) : (pairsOf n p).length ≤ p.length := by
  unfold pairsOf
  exact Nat.le_trans (List.length_filterMap_le _ _) (by rw [List.length_range]; exact Nat.le_refl _)
/-- what the pairs of a plan differ -/
def aparts (b : Box) (p : List Nat) : List Nat := (pairsOf b.none_ p).map fun x => b.differ x.1 x.2
theorem sum_cast : ∀ l : List Nat, (l.map fun (n : Nat) => (n : Int)).sum = ((l.sum : Nat) : Int)
  | [] => rfl
  | a :: l => by
    rw [List.map_cons, List.sum_cons, List.sum_cons, sum_cast l]
    omega
end Gp

/-! The plain law of the calls in one list. -/
namespace Gp
open Si90
/-- a call's number k and numbers ns tell c -/
def CallIs (k : Nat) (ns : List Nat) (c : Si90.Call) : Prop :=
  (k = 0 ∧ ∃ d, ns = [d] ∧ c = .begins d) ∨ (k = 1 ∧ ∃ v, ns = [v] ∧ c = .left v) ∨ (k = 2 ∧ ∃ v, ns = [v] ∧ c = .right v) ∨ (k = 3 ∧ ns.length ≤ 6 ∧ c = .check ns) ∨
    (k = 4 ∧ ns = [] ∧ c = .best) ∨ (k = 5 ∧ ns = [] ∧ c = .plain) ∨ (k = 6 ∧ ∃ n, ns = [n] ∧ c = .needs n)
theorem callOf_is {p : Int} {n : List Int} {c : Si90.Call} (h : Si90Neutral.callOf (p :: n) = some c) : CallIs p.toNat (n.map Int.toNat) c := by
  unfold Si90Neutral.callOf at h
  rw [List.map_cons] at h
  generalize p.toNat = k at h ⊢
  generalize n.map Int.toNat = ns at h ⊢
  unfold CallIs
  split at h
  · rename_i e
    cases h
    injection e with e1 e2
    exact .inl ⟨e1, _, e2, rfl⟩
  · rename_i e
    cases h
    injection e with e1 e2
    exact .inr (.inl ⟨e1, _, e2, rfl⟩)
  · rename_i e
    cases h
    injection e with e1 e2
    exact .inr (.inr (.inl ⟨e1, _, e2, rfl⟩))
  · rename_i e
    injection e with e1 e2
    subst e2
    split at h
    · cases h
      exact .inr (.inr (.inr (.inl ⟨e1, by assumption, rfl⟩)))
    · cases h
  · rename_i e
    cases h
    injection e with e1 e2
    exact .inr (.inr (.inr (.inr (.inl ⟨e1, e2, rfl⟩))))
  · rename_i e
    cases h
    injection e with e1 e2
    exact .inr (.inr (.inr (.inr (.inr (.inl ⟨e1, e2, rfl⟩)))))
  · rename_i e
    cases h
    injection e with e1 e2
    exact .inr (.inr (.inr (.inr (.inr (.inr ⟨e1, _, e2, rfl⟩)))))
  · cases h
/-- what a call answers and leaves, by the specification -/
def out (m : Box) (c : Si90.Call) : Box × List Int := ((Si90.step m c).1, (Si90.step m c).2.v :: (Si90.step m c).2.l)
theorem step_out {m : Box} {l : List Int} {c : Si90.Call} (h : Si90Neutral.callOf l = some c) : Si90Neutral.step m [l] = out m c := by
  unfold Si90Neutral.step
  rw [List.headD_cons, h]
  rfl
theorem rows_len : ∀ (k : Nat) (l : List Int) (xs : List (List Int)) (t : List Int), PyFlat.rows k l = some (xs, t) → xs.length = k
  | 0, l, xs, t, h => by
    unfold PyFlat.rows at h
    cases h
    rfl
  | k + 1, l, xs, t, h => by
    unfold PyFlat.rows at h
    split at h
    · cases h
    · split at h
      · cases h
      · rename_i h2
        cases h
        rw [List.length_cons, rows_len k _ _ _ h2]
/-- one call, read off the front -/
theorem decode {f : Nat} {l : List Int} {c : List (List Int)} {cs : List (List (List Int))} (h : PyWide.calls f l = some (c :: cs)) (ha : Si90Neutral.asked1 c = true) :
    ∃ (f' : Nat) (p : Int) (n t : List Int) (q : Si90.Call), l = p :: (n.length : Int) :: (n ++ 0 :: t) ∧ c = [p :: n] ∧ PyWide.calls f' t = some cs ∧ 0 ≤ p ∧ (∀ x ∈ n, 0 ≤ x) ∧ Si90Neutral.callOf (p :: n) = some q := by
  unfold Si90Neutral.asked1 at ha
  rw [Bool.and_eq_true, Bool.and_eq_true, beq_iff_eq] at ha
  obtain ⟨h1, h2, h3⟩ := ha
  cases l with
  | nil =>
    unfold PyWide.calls at h
    cases f <;> cases h
  | cons p r =>
    cases f with
    | zero => unfold PyWide.calls at h; cases h
    | succ f =>
      unfold PyWide.calls at h
      cases hc : PyWide.call (p :: r) with
      | none => rw [hc] at h; cases h
      | some ct =>
        obtain ⟨c', t⟩ := ct
        rw [hc] at h
        simp only at h
        cases ht : PyWide.calls f t with
        | none => rw [ht] at h; cases h
        | some cs' =>
          rw [ht] at h
          cases h
          unfold PyWide.call at hc
          simp only at hc
          cases hr : PyFlat.row r with
          | none => rw [hr] at hc; cases hc
          | some nt =>
            obtain ⟨n, s⟩ := nt
            rw [hr] at hc
            cases s with
            | nil => cases hc
            | cons k s =>
              simp only at hc
              split at hc
              · rename_i hk
                cases hx : PyFlat.rows k.toNat s with
                | none => rw [hx] at hc; cases hc
                | some xu =>
                  obtain ⟨xs, u⟩ := xu
                  rw [hx] at hc
                  cases hc
                  have hl := rows_len _ _ _ _ hx
                  have hz : xs = [] := by
                    rw [List.length_cons] at h1
                    exact List.length_eq_zero_iff.mp (by omega)
                  subst hz
                  have hk0 : k = 0 := by
                    have : k.toNat = 0 := by rw [← hl]; rfl
                    omega
                  subst hk0
                  have hs : s = t := by
                    have : PyFlat.rows 0 s = some ([], t) := hx
                    unfold PyFlat.rows at this
                    cases this
                    rfl
                  subst hs
                  rw [List.headD_cons] at h2 h3
                  obtain ⟨q, hq⟩ := Option.isSome_iff_exists.mp h3
                  rw [List.all_eq_true] at h2
                  have nat_ : ∀ x ∈ p :: n, 0 ≤ x := fun x hx => by
                    have := h2 x hx
                    unfold Si90Neutral.natural at this
                    rw [Bool.and_eq_true] at this
                    exact of_decide_eq_true this.1
                  unfold PyFlat.row at hr
                  cases r with
                  | nil => cases hr
                  | cons e r =>
                    simp only at hr
                    split at hr
                    · rename_i he
                      injection hr with e1
                      injection e1 with e2 e3
                      subst e2
                      refine ⟨f, p, r.take e.toNat, s, q, ?_, rfl, ht, nat_ p (by simp), fun x hx => nat_ x (by simp [hx]), hq⟩
                      have hlen : (r.take e.toNat).length = e.toNat := by rw [List.length_take]; omega
                      have h5 : r = r.take e.toNat ++ 0 :: s := by
                        have h6 := List.take_append_drop e.toNat r
                        rw [e3] at h6
                        exact h6.symm
                      rw [hlen]
                      have h7 : ((e.toNat : Nat) : Int) = e := by omega
                      rw [h7, ← h5]
                    · cases hr
              · cases hc
theorem decode_nil {f : Nat} {l : List Int} (h : PyWide.calls f l = some []) : l = [] := by
  cases l with
  | nil => rfl
  | cons p r =>
    cases f with
    | zero => unfold PyWide.calls at h; cases h
    | succ f =>
      unfold PyWide.calls at h
      split at h
      · cases h
      · split at h
        · cases h
        · cases h
/-- between two calls -/
structure Told1 (ns : List Int) (i : Nat) (m : Box) (found : List Int) (rest : List (List (List Int))) : Prop where
  co : ∃ f, PyWide.calls f (ns.drop i) = some rest
  as : ∀ c ∈ rest, Si90Neutral.asked1 c = true
  eq : PySi90.answers ns = found ++ PyFlat.told (PyFlat.played Si90Neutral.step m rest)
  fin : Fine m
  few : found.length + 11 * rest.length ≤ 660
theorem told_start {ns : List Int} (h : PySi90.answers_asked ns = true) : ∃ cs, Told1 ns 0 Si90Neutral.start [] cs := by
  unfold PySi90.answers_asked at h
  cases hc : PySi90.calls ns with
  | none => rw [hc] at h; cases h
  | some cs =>
    rw [hc] at h
    simp only [Bool.and_eq_true] at h
    obtain ⟨⟨⟨_, h60⟩, hasked⟩, _⟩ := h
    refine ⟨cs, ⟨ns.length, by rw [List.drop_zero]; exact hc⟩, fun c hcs => ?_, ?_, ⟨Nat.zero_le _, Nat.zero_le _, by simp [Si90Neutral.start, Si90.init], by simp [Si90Neutral.start, Si90.init], Nat.zero_le _⟩, ?_⟩
    · unfold Si90Neutral.asked at hasked
      rw [Bool.and_eq_true] at hasked
      exact List.all_eq_true.mp hasked.1 c hcs
    · unfold PySi90.answers
      rw [hc]
      rfl
    · unfold PyFlat.atMost at h60
      have := of_decide_eq_true h60
      simp
      omega
theorem out_fine {m : Box} (h : Fine m) {c : Si90.Call} : Fine (out m c).1 := by
  unfold out Si90.step
  cases c with
  | begins d =>
    dsimp only
    split
    · exact h
    · rename_i hd
      have : ¬ 1000 < d := hd
      exact ⟨Nat.zero_le _, Nat.zero_le _, by simp, by simp, by show d ≤ 1000; omega⟩
  | left v =>
    dsimp only
    split
    · exact h
    · split
      · exact h
      · rename_i h1 h2
        have h1 : ¬ 1000 < v := h1
        have h2 : ¬ 5 ≤ m.lefts.length := h2
        refine ⟨by simp; omega, h.nr, fun x hx => ?_, h.sr, h.lim⟩
        rcases List.mem_append.mp hx with hx | hx
        · exact h.sl x hx
        · rw [List.mem_singleton.mp hx]; omega
  | right v =>
    dsimp only
    split
    · exact h
    · split
      · exact h
      · rename_i h1 h2
        have h1 : ¬ 1000 < v := h1
        have h2 : ¬ 5 ≤ m.rights.length := h2
        refine ⟨h.nl, by simp; omega, h.sl, fun x hx => ?_, h.lim⟩
        rcases List.mem_append.mp hx with hx | hx
        · exact h.sr x hx
        · rw [List.mem_singleton.mp hx]; omega
  | check l =>
    dsimp only
    split <;> exact h
  | best => exact h
  | plain => exact h
  | needs n => exact h
theorem out_len {m : Box} (h : Fine m) {c : Si90.Call} : (out m c).2.length ≤ 10 := by
  have h5 := h.nl
  unfold out Si90.step
  cases c with
  | begins d => dsimp only; split <;> simp [Si90.ok]
  | left v =>
    dsimp only
    split
    · simp [Si90.ok]
    · split <;> simp [Si90.ok]
  | right v =>
    dsimp only
    split
    · simp [Si90.ok]
    · split <;> simp [Si90.ok]
  | check l =>
    dsimp only
    split
    · simp [Si90.ok]
    · cases m.bad l with
      | some i => simp [Si90.ints]
      | none =>
        cases m.twice l with
        | some i => simp [Si90.ints]
        | none => simp [Si90.ints]
  | best =>
    dsimp only
    obtain ⟨y, e, hy⟩ := best_some m
    rw [e]
    have hr : y.row ∈ m.plans := by
      have := hy.row
      have hm := List.mem_of_mem_head? (by rw [this]; simp : y.row ∈ _)
      exact (List.mem_filter.mp hm).1
    have hl : y.row.length = m.lefts.length := by
      rw [← plans_is] at hr
      exact (mem_allPlans.mp (List.mem_filter.mp hr).1).1.1
    simp [Si90.ints]
    omega
  | plain =>
    dsimp only
    have := plain_len m
    simp [Si90.ints]
    omega
  | needs n =>
    dsimp only
    cases m.needs n <;> simp [Si90.ok]
/-- one call more -/
theorem told_more {ns : List Int} {i : Nat} {m : Box} {found : List Int} {c : List (List Int)} {rest : List (List (List Int))} (T : Told1 ns i m found (c :: rest)) :
    ∃ (p : Int) (n t : List Int) (q : Si90.Call), ns.drop i = p :: (n.length : Int) :: (n ++ 0 :: t) ∧ 0 ≤ p ∧ (∀ x ∈ n, 0 ≤ x) ∧ CallIs p.toNat (n.map Int.toNat) q ∧
      Told1 ns (i + 3 + n.length) (out m q).1 (found ++ [((out m q).2.length : Int)] ++ (out m q).2) rest := by
  obtain ⟨f, hf⟩ := T.co
  obtain ⟨f', p, n, t, q, hl, hc, ht, hp, hn, hq⟩ := decode hf (T.as c (by simp))
  refine ⟨p, n, t, q, hl, hp, hn, callOf_is hq, ⟨f', ?_⟩, fun c hc => T.as c (by simp [hc]), ?_, out_fine T.fin, ?_⟩
  · have e : ns.drop (i + 3 + n.length) = t := by
      have e1 : ns.drop (i + 3 + n.length) = (ns.drop i).drop (3 + n.length) := by rw [List.drop_drop]; congr 1; omega
      rw [e1, hl, show 3 + n.length = n.length + 1 + 1 + 1 by omega]
      simp
    rw [e]
    exact ht
  · rw [T.eq]
    have e2 : PyFlat.played Si90Neutral.step m (c :: rest) = (Si90Neutral.step m c).2 :: PyFlat.played Si90Neutral.step (Si90Neutral.step m c).1 rest := rfl
    rw [e2, hc, step_out hq]
    unfold PyFlat.told
    rw [List.flatMap_cons]
    simp
  · have h1 := T.few
    have h2 := out_len (c := q) T.fin
    simp at h1 ⊢
    omega
theorem told_end {ns : List Int} {i : Nat} {m : Box} {found : List Int} (T : Told1 ns i m found []) : PySi90.answers ns = found ∧ ns.drop i = [] := by
  obtain ⟨f, hf⟩ := T.co
  refine ⟨?_, decode_nil hf⟩
  rw [T.eq]
  show found ++ [] = found
  rw [List.append_nil]
end Gp

/-! Words of my own over the hand layer: lists of objects, comprehensions by what they give, min of pairs. -/
namespace Gp
open PySem PySem.Spec PyProof.Rows L2

/-! ### lists side by side -/
def All2 {β : Type} (R : V → β → Prop) (vs : List V) (cs : List β) : Prop := vs.length = cs.length ∧ ∀ (i : Nat) (v : V) (c : β), vs[i]? = some v → cs[i]? = some c → R v c
theorem All2.nil {β : Type} {R : V → β → Prop} : All2 R [] [] := ⟨rfl, fun i v c h => by simp at h⟩
theorem All2.mono {β : Type} {R R' : V → β → Prop} {vs : List V} {cs : List β} (h : All2 R vs cs) (k : ∀ v c, R v c → R' v c) : All2 R' vs cs := ⟨h.1, fun i v c a b => k v c (h.2 i v c a b)⟩
theorem All2.snoc {β : Type} {R : V → β → Prop} {vs : List V} {cs : List β} {v : V} {c : β} (h : All2 R vs cs) (r : R v c) : All2 R (vs ++ [v]) (cs ++ [c]) := by
  refine ⟨by simp [h.1], fun i v' c' a b => ?_⟩
  by_cases hi : i < vs.length
  · rw [List.getElem?_append_left hi] at a
    rw [List.getElem?_append_left (h.1 ▸ hi)] at b
    exact h.2 i v' c' a b
  · have hi' : ¬ i < cs.length := h.1 ▸ hi
    rw [List.getElem?_append_right (by omega)] at a b
    have e : i - vs.length = 0 := by
      by_cases z : i - vs.length = 0
      · exact z
      · rw [List.getElem?_eq_none (by simp; omega)] at a
        cases a
    rw [e] at a
    rw [show i - cs.length = 0 by rw [← h.1]; exact e] at b
    cases a
    cases b
    exact r
theorem All2.append {β : Type} {R : V → β → Prop} : ∀ {us : List V} {ds : List β} {vs : List V} {cs : List β}, All2 R vs cs → All2 R us ds → All2 R (vs ++ us) (cs ++ ds)
  | [], [], vs, cs, h, _ => by simpa using h
  | [], d :: ds, _, _, _, g => by have := g.1; simp at this
  | u :: us, [], _, _, _, g => by have := g.1; simp at this
  | u :: us, d :: ds, vs, cs, h, g => by
    have h1 := h.snoc (g.2 0 u d rfl rfl)
    have g1 : All2 R us ds := ⟨by have := g.1; simpa using this, fun i v c a b => g.2 (i + 1) v c a b⟩
    have := All2.append h1 g1
    simpa using this
theorem All2.at {β : Type} {R : V → β → Prop} {vs : List V} {cs : List β} (h : All2 R vs cs) {i : Nat} {v : V} (a : vs[i]? = some v) : ∃ c, cs[i]? = some c ∧ R v c := by
  have hi : i < cs.length := h.1 ▸ (List.getElem?_eq_some_iff.mp a).1
  exact ⟨cs[i], by simp [hi], h.2 i v _ a (by simp [hi])⟩
theorem All2.at' {β : Type} {R : V → β → Prop} {vs : List V} {cs : List β} (h : All2 R vs cs) {i : Nat} {c : β} (a : cs[i]? = some c) : ∃ v, vs[i]? = some v ∧ R v c := by
  have hi : i < vs.length := h.1 ▸ (List.getElem?_eq_some_iff.mp a).1
  exact ⟨vs[i], by simp [hi], h.2 i _ c (by simp [hi]) a⟩
theorem All2.eq_map {β : Type} {g : β → V} : ∀ {vs : List V} {cs : List β}, All2 (fun v c => v = g c) vs cs → vs = cs.map g
  | [], [], _ => rfl
  | [], d :: ds, h => by have := h.1; simp at this
  | u :: us, [], h => by have := h.1; simp at this
  | u :: us, d :: ds, h => by
    have h0 : u = g d := h.2 0 u d rfl rfl
    have h1 : All2 (fun v c => v = g c) us ds := ⟨by have := h.1; simpa using this, fun i v c a b => h.2 (i + 1) v c a b⟩
    rw [List.map_cons, ← h0, ← All2.eq_map h1]
theorem All2.of_map {β : Type} {g : β → V} (cs : List β) : All2 (fun v c => v = g c) (cs.map g) cs := ⟨by simp, fun i v c a b => by
  rw [List.getElem?_map, b] at a
  exact (Option.some.inj a).symm⟩

/-- whole numbers from 0 as values -/
def nats (l : List Nat) : List V := l.map fun (n : Nat) => V.int (n : Int)
theorem nats_ints (l : List Nat) : nats l = (l.map fun (n : Nat) => (n : Int)).map V.int := by simp [nats]
theorem nats_len (l : List Nat) : (nats l).length = l.length := by simp [nats]
theorem nats_get {l : List Nat} {i : Nat} {n : Nat} (h : l[i]? = some n) : (nats l)[i]? = some (.int (n : Int)) := by simp [nats, h]
theorem nats_of {l : List Nat} {i : Nat} {v : V} (h : (nats l)[i]? = some v) : ∃ n, l[i]? = some n ∧ v = .int (n : Int) := by
  unfold nats at h
  rw [List.getElem?_map] at h
  cases e : l[i]? with
  | none => rw [e] at h; cases h
  | some n => rw [e] at h; exact ⟨n, rfl, (Option.some.inj h).symm⟩
theorem nats_flat (l : List Nat) : (nats l).all flatV = true := by
  rw [List.all_eq_true]
  intro v hv
  obtain ⟨n, _, rfl⟩ := List.mem_map.mp hv
  rfl

/-- an if whose test is known -/
theorem ifT {c : Bool} {A B : Prop} (hc : c = true) (h : A) : if c = true then A else B := by
  rw [if_pos hc]
  exact h
theorem ifF {c : Bool} {A B : Prop} (hc : c = false) (h : B) : if c = true then A else B := by
  rw [hc, if_neg Bool.false_ne_true]
  exact h
theorem int_ne {i j : Nat} (h : i ≠ j) : (!decide (V.int (i : Int) = V.int (j : Int))) = true := by
  simp
  omega
theorem int_eq {i j : Nat} (h : i = j) : (!decide (V.int (i : Int) = V.int (j : Int))) = false := by
  simp [h]

/-! ### heaps: what is away -/
theorem same_upd {H H' : Hp} (s : Same H H') {D : Addr} (hD : H D = none) (o : HO) : Same H (upd H' D o) := fun b q h => by
  rw [upd_ne (ne_of_none h hD)]
  exact s b q h
theorem same_new {H : Hp} {D : Addr} (hD : H D = none) (o : HO) : Same H (L2.upd H D o) := same_upd (Same.refl H) hD o
theorem same_del {H H' : Hp} (s : Same H H') (D : Addr) : Same (del H D) (del H' D) := fun b q h => by
  by_cases e : b = D
  · rw [e, del_same] at h
    cases h
  · rw [del_ne e] at h ⊢
    exact s b q h
theorem same_undel (H : Hp) (D : Addr) : Same (del H D) H := fun b q h => by
  by_cases e : b = D
  · rw [e, del_same] at h
    cases h
  · rwa [del_ne e] at h
theorem del_upd {H : Hp} {D : Addr} {o : HO} : del (upd H D o) D = del H D := by
  funext b
  by_cases e : b = D
  · rw [e, del_same, del_same]
  · rw [del_ne e, del_ne e, upd_ne e]
theorem same_into_del {H H' : Hp} (s : Same H H') {D : Addr} (hD : H D = none) : Same H (L2.del H' D) := fun b q h => by
  rw [del_ne (ne_of_none h hD)]
  exact s b q h

/-! ### a comprehension, by what it gives -/
theorem take_more {α : Type} : ∀ {l : List α} {i : Nat} {x : α}, l[i]? = some x → l.take (i + 1) = l.take i ++ [x]
  | [], i, x, h => by simp at h
  | a :: l, 0, x, h => by
    have e : a = x := Option.some.inj h
    subst e
    rfl
  | a :: l, i + 1, x, h => by
    have ih := take_more (l := l) (i := i) (x := x) h
    show a :: l.take (i + 1) = a :: l.take i ++ [x]
    rw [ih]
    rfl
theorem small10 {n : Nat} (h : n ≤ 10000) : n < sizeLine := Nat.lt_of_le_of_lt h (by decide)
/-- cs: what is walked; f: what is kept of each; Rl: how the values stand for it. A turn ends by PY (a value more) or PN -/
theorem lc_gen {γ β : Type} {J : It} {n : Nat} {G : Hp → Prop} {Y : Nat → Hp → V → Hp → Prop} (w : Walk J n G Y) {g : TG} {tt : TT} {te : TE} {ws : List Nat} {σ : L2.St} {H1 : Hp} {D : Addr} {Qd : Hp → Prop}
    (cs : List γ) (hn : n = cs.length) (f : γ → Option β) (Rl : Hp → V → β → Prop) (mono : ∀ H H' v b, Same H H' → Rl H v b → Rl H' v b) (small : cs.length ≤ 10000) (hD : H1 D = none) (hG : ∀ H, Same H1 H → G H)
    (hs : ∀ (i : Nat) (c : γ) (x : V) (H H' : Hp) (PY : V → Hp → Prop) (PN : Hp → Prop), cs[i]? = some c → Same H1 H → Y i H x H' → (∀ b y H4, f c = some b → Same H H4 → (∀ D, H1 D = none → H D ≠ none → Rl (del H4 D) y b) → PY y H4) → (∀ H4, f c = none → Same H H4 → PN H4) →
      g x (wipe σ ws) H' fun σ2 H2 => wipe σ2 ws = wipe σ ws ∧ tt σ2 H2 fun b H3 => if b = true then te σ2 H3 fun y H4 => PY y H4 else PN H3)
    (hd : ∀ H ys, Same H1 H → H D = some (.lst ys) → All2 (Rl H) ys (cs.filterMap f) → Qd H) :
    ∃ W : Nat → Nat → Hp → Prop, (∃ m, W 0 m (upd H1 D (.lst []))) ∧ ∀ i m H, W i m H →
      (J.stop i H ∧ Qd H) ∨ (J.go i H ∧ ∃ Nx : Hp → Prop, (∀ H', Nx H' → ∃ m', m' < m ∧ W (i + 1) m' H') ∧ ∀ x H', J.yld i H x H' → g x (wipe σ ws) H' fun σ2 H2 => wipe σ2 ws = wipe σ ws ∧ tt σ2 H2 fun b H3 =>
        if b = true then te σ2 H3 fun y H4 => ∃ acc, H4 D = some (.lst acc) ∧ acc.length < sizeLine ∧ Nx (upd H4 D (.lst (acc ++ [y]))) else Nx H3) := by
  refine lc_it w (fun i H => Same H1 H ∧ ∃ acc, H D = some (.lst acc) ∧ All2 (Rl (del H D)) acc ((cs.take i).filterMap f)) ⟨same_new hD _, [], upd_same, All2.nil⟩ (fun i H _ p => hG H p.1) (fun i x H H' hi p y => ?_) (fun H p => ?_)
  · obtain ⟨sm, acc, ha, hr⟩ := p
    have hc : ∃ c, cs[i]? = some c := ⟨cs[i]'(by omega), by simp [show i < cs.length by omega]⟩
    obtain ⟨c, hc⟩ := hc
    have ht := take_more hc
    refine hs i c x H H' (fun y H4 => ∃ acc, H4 D = some (.lst acc) ∧ acc.length < sizeLine ∧ (Same H1 (upd H4 D (.lst (acc ++ [y]))) ∧ ∃ acc', upd H4 D (.lst (acc ++ [y])) D = some (.lst acc') ∧ All2 (Rl (del (upd H4 D (.lst (acc ++ [y]))) D)) acc' ((cs.take (i + 1)).filterMap f)))
      (fun H4 => Same H1 H4 ∧ ∃ acc, H4 D = some (.lst acc) ∧ All2 (Rl (del H4 D)) acc ((cs.take (i + 1)).filterMap f)) hc sm y (fun b y H4 e s4 r4 => ?_) (fun H4 e s4 => ?_)
    · have hl : acc.length < sizeLine := by
        rw [hr.1]
        refine small10 (Nat.le_trans (List.length_filterMap_le _ _) ?_)
        rw [List.length_take]
        omega
      refine ⟨acc, s4 _ _ ha, hl, same_upd (sm.trans s4) hD _, acc ++ [y], upd_same, ?_⟩
      rw [del_upd, ht, List.filterMap_append]
      have e1 : [c].filterMap f = [b] := by simp [e]
      rw [e1]
      exact (hr.mono fun v c q => mono _ _ _ _ (same_del s4 D) q).snoc (r4 D hD (by rw [ha]; simp))
    · refine ⟨sm.trans s4, acc, s4 _ _ ha, ?_⟩
      rw [ht, List.filterMap_append]
      have e1 : [c].filterMap f = [] := by simp [e]
      rw [e1, List.append_nil]
      exact hr.mono fun v c q => mono _ _ _ _ (same_del s4 D) q
  · obtain ⟨sm, acc, ha, hr⟩ := p
    rw [hn, List.take_length] at hr
    exact hd H acc sm ha (hr.mono fun v c q => mono _ _ _ _ (same_undel H D) q)

/-! ### objects that are told by what they hold -/
def Obj1 {β : Type} (o : β → HO) (H : Hp) (v : V) (b : β) : Prop := ∃ a, v = .ref a ∧ H a = some (o b)
theorem Obj1.same {β : Type} {o : β → HO} {H H' : Hp} {v : V} {b : β} (s : Same H H') (h : Obj1 o H v b) : Obj1 o H' v b := by
  obtain ⟨a, e, h⟩ := h
  exact ⟨a, e, s a _ h⟩
/-- a pair of numbers; a plan -/
def pairO (x : Nat × Nat) : HO := .tup [.int (x.1 : Int), .int (x.2 : Int)]
def planO (p : List Nat) : HO := .lst (nats p)
theorem All2.objs {β : Type} {o : β → HO} {H H' : Hp} {vs : List V} {cs : List β} (s : Same H H') (h : All2 (Obj1 o H) vs cs) : All2 (Obj1 o H') vs cs := h.mono fun _ _ q => q.same s

/-! ### min of pairs -/
def lexI (c d : Int × Int) : Bool := if c.1 = d.1 then decide (c.2 < d.2) else decide (c.1 < d.1)
def rMinT (K : PySem.W.Frag) : List V → Hp → VK → Prop := fun vs H Q => ∃ (a : Addr) (xs : List V) (cs : List (Int × Int)), vs = [.ref a] ∧ SqL K H a xs ∧ All2 (fun v c => ∃ t, v = .ref t ∧ SqT K H t [.int c.1, .int c.2]) xs cs ∧ 0 < cs.length ∧
  ∀ (i : Nat) (v : V) (c : Int × Int), xs[i]? = some v → cs[i]? = some c → (∀ d ∈ cs, lexI d c = false) → Q v H
theorem lexI_lt (c d : Int × Int) : PySem.W.DatumOrd.lt c d = lexI c d := rfl
theorem minOf_le : ∀ (xs : List (Int × Int)) (x : Int × Int), PySem.W.minOf x xs ∈ x :: xs ∧ ∀ d ∈ x :: xs, lexI d (PySem.W.minOf x xs) = false := by
  have tr : ∀ {a b c : Int × Int}, lexI a b = false → lexI b c = false → lexI a c = false := fun {a b c} h1 h2 => by
    unfold lexI at *
    split at h1 <;> split at h2 <;> split <;> simp at * <;> omega
  have lt : ∀ {a b : Int × Int}, lexI a b = true → lexI b a = false := fun {a b} h1 => by
    unfold lexI at *
    split at h1 <;> split <;> simp at * <;> omega
  have rf : ∀ a : Int × Int, lexI a a = false := fun a => by unfold lexI; simp
  intro xs
  induction xs with
  | nil => intro x; exact ⟨by simp [PySem.W.minOf], fun d hd => by rw [List.mem_singleton.mp hd]; exact rf x⟩
  | cons y ys ih =>
    intro x
    have e : PySem.W.minOf x (y :: ys) = PySem.W.minOf (if lexI y x = true then y else x) ys := rfl
    rw [e]
    obtain ⟨h1, h2⟩ := ih (if lexI y x = true then y else x)
    have h0 := h2 _ List.mem_cons_self
    refine ⟨?_, fun d hd => ?_⟩
    · rcases List.mem_cons.mp h1 with h | h
      · rw [h]
        split <;> simp
      · simp [h]
    · rcases List.mem_cons.mp hd with rfl | hd
      · refine tr ?_ h0
        split
        · exact lt (by assumption)
        · exact rf _
      · rcases List.mem_cons.mp hd with rfl | hd
        · refine tr ?_ h0
          split
          · exact rf _
          · simpa using (by assumption : ¬ lexI d x = true)
        · exact h2 d (by simp [hd])
section
variable {X : Cx}
theorem holdAll_of {pins : List (Addr × Obj)} {σ : L2.St} {H : Hp} {s : Shared} (I : Inv X pins σ H s) : ∀ (xs : List V) (cs : List (Int × Int)) (us : List Value), All2 (fun v c => ∃ t, v = .ref t ∧ SqT X.K H t [.int c.1, .int c.2]) xs cs → Vals xs us → PySem.W.HoldAll s.heap us cs
  | [], [], _, _, r => by cases r; exact PySem.W.HoldAll.nil
  | [], c :: cs, _, h, _ => by have := h.1; simp at this
  | x :: xs, [], _, h, _ => by have := h.1; simp at this
  | x :: xs, c :: cs, _, h, r => by
    cases r with
    | cons r1 r2 =>
      obtain ⟨t, e, ht⟩ := h.2 0 x c rfl rfl
      subst e
      have h1 : All2 (fun v c => ∃ t, v = .ref t ∧ SqT X.K H t [.int c.1, .int c.2]) xs cs := ⟨by have := h.1; simpa using this, fun i v c a b => h.2 (i + 1) v c a b⟩
      refine PySem.W.HoldAll.cons ?_ (holdAll_of I xs cs _ h1 r2)
      exact Dp.reads I (PySem.W.Datum.toD c) _ _ (Dp.tup ht (.cons (.int _) (.cons (.int _) .nil))) r1
theorem cr_minT (hc : X.calm = true) (hu : X.A.units + 64 < cLine) : CallR X (.builtin "min") (rMinT X.K) := by
  intro pins s σ H vs us Q I r h
  obtain ⟨a, xs, cs, rfl, hs, hx, hne, q⟩ := h
  obtain ⟨its, rv, hl, _⟩ := I.list hs
  rw [Vals.ref1 r]
  cases cs with
  | nil => simp at hne
  | cons c0 cs =>
    have hh := holdAll_of I xs (c0 :: cs) its hx rv
    refine PySem.W.min_list_datum (x := c0) (xs := cs) (I.ok.hd hc) hl.isList (by simpa using hh) ?_ fun i v h' tk hv hold hk => ?_
    · have : PySem.W.Datum.depth (Int × Int) = 1 := rfl
      rw [this]
      omega
    · have hv' : its[i]? = some v := by simpa using hv
      have hi : i < xs.length := by rw [rv.length]; exact (List.getElem?_eq_some_iff.mp hv').1
      have hxi : xs[i]? = some xs[i] := by simp [hi]
      obtain ⟨u, hu', ru⟩ := Vals.get rv hxi
      rw [hv'] at hu'
      cases hu'
      obtain ⟨c, hc', t, et, ht⟩ := hx.at hxi
      have I2 : Inv X pins σ H { s with heap := h', toks := tk } := I.kept hk
      refine ⟨xs[i], H, I2, ru, q i _ c hxi hc' ?_⟩
      obtain ⟨as, r1⟩ := hold
      obtain ⟨bs, r2⟩ := Dp.reads I2 _ _ _ (Dp.tup ht (.cons (.int c.1) (.cons (.int c.2) .nil))) (by rw [et] at ru; exact ru)
      have e := (Reads.unique r2 _ _ r1).1
      have e2 : c = PySem.W.minOf c0 cs := by
        have e3 : (PyData.tuple [.int c.1, .int c.2]) = PySem.W.Datum.toD (PySem.W.minOf c0 cs) := e
        generalize PySem.W.minOf c0 cs = m at e3
        obtain ⟨m1, m2⟩ := m
        obtain ⟨c1, c2⟩ := c
        have e4 : (PyData.tuple [.int c1, .int c2]) = PyData.tuple [.int m1, .int m2] := e3
        injection e4 with e5
        injection e5 with e6 e7
        injection e6 with e6
        injection e7 with e8 _
        injection e8 with e8
        rw [e6, e8]
      rw [e2]
      exact (minOf_le cs c0).2
end
end Gp

/-! The box: how it lies in the heap, its methods' promises and bodies. -/
namespace Gp
open PySem PySem.Spec PyProof.Rows L2
open Si90 (Box)

/-! ### the text by places -/
def top (i : Nat) : Stmt := PySem.Challenge.pw_glovepairs_s01_answers.main.body.getD i (.Pass ⟨0, 0, 0, 0⟩)
abbrev sInit : Stmt := inClass (top 1) 0
abbrev sPutL : Stmt := inClass (top 1) 1
abbrev sPutR : Stmt := inClass (top 1) 2
abbrev sNone : Stmt := inClass (top 1) 3
abbrev sApart : Stmt := inClass (top 1) 4
abbrev sPairs : Stmt := inClass (top 1) 5
abbrev sOff : Stmt := inClass (top 1) 6
abbrev sGreat : Stmt := inClass (top 1) 7
abbrev sChoi : Stmt := inClass (top 1) 8
abbrev sAll : Stmt := inClass (top 1) 9
abbrev sPlans : Stmt := inClass (top 1) 10
abbrev sRank : Stmt := inClass (top 1) 11
abbrev sBest : Stmt := inClass (top 1) 12
abbrev sNeed : Stmt := inClass (top 1) 13
abbrev sUnl : Stmt := inClass (top 1) 14
abbrev sTwi : Stmt := inClass (top 1) 15
abbrev sBySz : Stmt := top 2
abbrev sPlain : Stmt := top 3

/-! ### the heap -/
def bF (l r : Addr) (d : Nat) : List (Str × V) := [("differ", .int (d : Int)), ("lefts", .ref l), ("rights", .ref r)]
structure BoxAt (C : Addr) (H : Hp) (b dx l r : Addr) (m : Box) : Prop where
  ob : H b = some (.ins C dx (bF l r m.limit))
  ll : H l = some (planO m.lefts)
  rr : H r = some (planO m.rights)
theorem BoxAt.same {C : Addr} {H H' : Hp} {b dx l r : Addr} {m : Box} (B : BoxAt C H b dx l r m) (s : Same H H') : BoxAt C H' b dx l r m := ⟨s _ _ B.ob, s _ _ B.ll, s _ _ B.rr⟩
theorem lk_here {k : Str} {v : V} {r : List (Str × V)} : List.lookup k ((k, v) :: r) = some v := by
  have e : (k == k) = true := beq_self_eq_true k
  simp only [List.lookup, e]
theorem lk_past {k g : Str} {v : V} {r : List (Str × V)} (h : (k == g) = false) : List.lookup k ((g, v) :: r) = List.lookup k r := by
  simp only [List.lookup, h]
theorem put_here {f : Str} {v x : V} {r : List (Str × V)} : putF f v ((f, x) :: r) = (f, v) :: r := if_pos rfl
theorem put_past {f g : Str} {v x : V} {r : List (Str × V)} (h : ¬ g = f) : putF f v ((g, x) :: r) = (g, x) :: putF f v r := if_neg h
theorem bF_differ {l r : Addr} {d : Nat} : (bF l r d).lookup ("differ" : Str) = some (.int (d : Int)) := lk_here
theorem bF_lefts {l r : Addr} {d : Nat} : (bF l r d).lookup ("lefts" : Str) = some (.ref l) := (lk_past (by decide +kernel)).trans lk_here
theorem bF_rights {l r : Addr} {d : Nat} : (bF l r d).lookup ("rights" : Str) = some (.ref r) := (lk_past (by decide +kernel)).trans ((lk_past (by decide +kernel)).trans lk_here)
/-- a name that is no attribute -/
theorem bF_no {l r : Addr} {d : Nat} {m : Str} (h1 : (m == ("differ" : Str)) = false) (h2 : (m == ("lefts" : Str)) = false) (h3 : (m == ("rights" : Str)) = false) : (bF l r d).lookup m = none :=
  (lk_past h1).trans ((lk_past h2).trans ((lk_past h3).trans rfl))

/-! ### what the top has written -/
structure Txt (K : PySem.W.Frag) (mg : Str → Option Value) (C : Addr) : Prop where
  cl : Cls K C
  nD : NoAttr K C "differ"
  nL : NoAttr K C "lefts"
  nR : NoAttr K C "rights"
  len : mg "len" = none
  abs : mg "abs" = none
  sum : mg "sum" = none
  max : mg "max" = none
  min : mg "min" = none
  all : mg "all" = none
  range : mg "range" = none
  sorted : mg "sorted" = none
  enum : mg "enumerate" = none
/-- a method that keeps its promise -/
structure MOk (P : Program) (w : World) (K : PySem.W.Frag) (mg : Str → Option Value) (base : Heap) (CX : CXT) (C : Addr) (k : Nat) (m : Str) (ps : List Str) (sp : Sp) (f : Addr) (fd : FuncData) : Prop where
  me : Meth K C m f
  ok : FnOk P w K mg base CX k f fd ps sp
  bi : Binds K fd ps []

/-! ### the promises -/
/-- b, the box m at it -/
def spNone (C : Addr) : Sp := fun vs H Q _ => ∃ (b dx l r : Addr) (m : Box), vs = [.ref b] ∧ BoxAt C H b dx l r m ∧ ∀ H', Same H H' → Q (.int (m.none_ : Int)) H'
def spApart (C : Addr) : Sp := fun vs H Q _ => ∃ (b dx l r : Addr) (m : Box) (i k : Nat), vs = [.ref b, .int (i : Int), .int (k : Int)] ∧ BoxAt C H b dx l r m ∧ i < m.lefts.length ∧ k < m.rights.length ∧
  ∀ H', Same H H' → Q (.int (m.differ i k : Int)) H'
def spPairs (C : Addr) : Sp := fun vs H Q _ => ∃ (b dx l r : Addr) (m : Box) (a : Addr) (p : List Nat), vs = [.ref b, .ref a] ∧ BoxAt C H b dx l r m ∧ H a = some (planO p) ∧ p.length ≤ 1000 ∧
  ∀ (H' : Hp) (q : Addr) (ys : List V), Same H H' → H q = none → H' q = some (.lst ys) → All2 (Obj1 pairO H') ys (pairsOf m.none_ p) → Q (.ref q) H'
/-- a plan that is told: for each left one a right one or none -/
def Told (m : Box) (p : List Nat) : Prop := p.length = m.lefts.length ∧ (∀ k ∈ p, k ≤ m.none_) ∧ p.length ≤ 1000
def spOff (C : Addr) : Sp := fun vs H Q _ => ∃ (b dx l r : Addr) (m : Box) (a : Addr) (p : List Nat), vs = [.ref b, .ref a] ∧ BoxAt C H b dx l r m ∧ H a = some (planO p) ∧ Told m p ∧
  ∀ (H' : Hp), Same H H' → Q (.int (m.off p : Int)) H'
def spGreat (C : Addr) : Sp := fun vs H Q _ => ∃ (b dx l r : Addr) (m : Box) (a : Addr) (p : List Nat), vs = [.ref b, .ref a] ∧ BoxAt C H b dx l r m ∧ H a = some (planO p) ∧ Told m p ∧
  ∀ (H' : Hp), Same H H' → Q (.int (m.worst p : Int)) H'

section
variable {P : Program} {w : World} {K : PySem.W.Frag} {mg : Str → Option Value} {base : Heap} {C : Addr} {CX : CXT}

/-! ### none -/
theorem scNone : FnScope ["self"] ["self"] (defScope sNone) := ⟨rfl, rfl, rfl, by decide +kernel, rfl, by decide +kernel, by decide +kernel⟩
theorem ok_none {f : Addr} {fd : FuncData} (F : Fun K "none" "Box.none" sNone f fd) (T : Txt K mg C) : FnOk P w K mg base CX0 1 f fd ["self"] (spNone C) := by
  refine F.ok scNone (fun vs H Q E h => ?_) (fun cdv A outer s H vs Q E hr h => ⟨_, pss_one (ps_ret (pe_callB call_len_seq (by rfl) T.len PySem.boot_len (pa_cons (pe_fld (pv 0) rfl) pa_nil))), ?_⟩)
  · obtain ⟨b, dx, l, r, m, rfl, _⟩ := h
    rfl
  · obtain ⟨b, dx, l, r, m, rfl, B, k⟩ := h
    refine ⟨_, rfl, b, C, dx, _, _, rfl, B.ob, T.cl, T.nR, bF_rights, r, _, rfl, .inl (SqL.of B.rr), ?_⟩
    rw [nats_len]
    exact k H (Same.refl H)

/-! ### apart -/
theorem scApart : FnScope ["self", "left", "right"] ["self", "left", "right"] (defScope sApart) := ⟨rfl, rfl, rfl, by decide +kernel, rfl, by decide +kernel, by decide +kernel⟩
theorem apart_is (m : Box) (i k : Nat) : (if (m.lefts.getD i 0 : Int) - (m.rights.getD k 0 : Int) < 0 then -((m.lefts.getD i 0 : Int) - (m.rights.getD k 0 : Int)) else (m.lefts.getD i 0 : Int) - (m.rights.getD k 0 : Int)) = (m.differ i k : Int) := by
  unfold Box.differ Si90.apart Box.left Box.right_
  split <;> omega
theorem getD_some {l : List Nat} {i : Nat} (h : i < l.length) : l[i]? = some (l.getD i 0) := by
  simp [List.getD_eq_getElem?_getD, h]
theorem ok_apart {f : Addr} {fd : FuncData} (F : Fun K "apart" "Box.apart" sApart f fd) (T : Txt K mg C) : FnOk P w K mg base CX0 1 f fd ["self", "left", "right"] (spApart C) := by
  refine F.ok scApart (fun vs H Q E h => ?_) (fun cdv A outer s H vs Q E hr h => ⟨_, pss_one (ps_ret (pe_callB call_abs (by rfl) T.abs (by decide +kernel) (pa_cons (pe_op op_sub (pe_ix ix_list (pe_fld (pv 0) rfl) (pv 1) (fun _ _ => rfl)) (pe_ix ix_list (pe_fld (pv 0) rfl) (pv 2) (fun _ _ => rfl))) pa_nil))), ?_⟩)
  · obtain ⟨b, dx, l, r, m, i, k, rfl, _⟩ := h
    rfl
  · obtain ⟨b, dx, l, r, m, i, k, rfl, B, hi, hk, q⟩ := h
    refine ⟨_, rfl, b, C, dx, _, _, rfl, B.ob, T.cl, T.nL, bF_lefts, _, rfl, l, _, _, _, rfl, rfl, SqL.of B.ll, atI_nat (nats_get (getD_some hi)), ?_⟩
    refine ⟨_, rfl, b, C, dx, _, _, rfl, B.ob, T.cl, T.nR, bF_rights, _, rfl, r, _, _, _, rfl, rfl, SqL.of B.rr, atI_nat (nats_get (getD_some hk)), ?_⟩
    refine ⟨_, _, rfl, rfl, _, rfl, ?_⟩
    rw [apart_is]
    exact q H (Same.refl H)

/-! ### pairs_of -/
/-- a pair is taken apart into two slots -/
def g2 (K : PySem.W.Frag) (i j : Nat) : TG := gTup K 2 (gCons (gName i) (gCons (gName j) gNil))
theorem scPairs : FnScope ["self", "plan", "left", "right"] ["self", "plan"] (defScope sPairs) := ⟨rfl, rfl, rfl, by decide +kernel, rfl, by decide +kernel, by decide +kernel⟩
theorem ok_pairs {f f1 : Addr} {fd fd1 : FuncData} (F : Fun K "pairs_of" "Box.pairs_of" sPairs f fd) (T : Txt K mg C) (M1 : MOk P w K mg base CX0 C 1 "none" ["self"] (spNone C) f1 fd1) : FnOk P w K mg base CX0 2 f fd ["self", "plan"] (spPairs C) := by
  refine F.ok scPairs (fun vs H Q E h => ?_) (fun cdv A outer s H vs Q E hr h => ⟨_, pss_one (ps_ret (pe_lc (own := [("left", 2), ("right", 3)]) (g := g2 K 2 3) (tt := tTest (tOp rNe (tVar 3) (tMeth C "none" (spNone C) [] E0 (tVar 0) tNil))) (te := tTup (tCons (tVar 2) (tCons (tVar 3) tNil))) rfl scPairs.nd (pi_enum (by rfl) T.enum (pa_cons (pv 1) pa_nil)) (blkOk_by (N := ["self", "plan", "left", "right"]) (sc := defScope sPairs) (by decide +kernel))
      (fun _ _ _ _ _ => by exact (pg_tup rfl (pgs_cons (pg_name (i := 2) scPairs.nd rfl (Or.inl rfl)) (pgs_cons (pg_name (i := 3) scPairs.nd rfl (Or.inl rfl)) pgs_nil))))
      (fun _ _ _ _ _ => pts_one (pt_cmpR op_ne (pv 3) (pe_meth0 (pv 0) T.cl M1.me M1.ok hr M1.bi .nil pass0) (nomark _)))
      (fun _ _ _ _ _ => pe_tup (pa_cons (pv 2) (pa_cons (pv 3) pa_nil))))), ?_⟩)
  · obtain ⟨b, dx, l, r, m, a, p, rfl, _⟩ := h
    rfl
  · obtain ⟨b, dx, l, r, m, a, p, rfl, B, ha, hz, q⟩ := h
    refine ⟨_, rfl, a, _, rfl, SqL.of ha, fun D hD => lc_gen walk_enum (List.range p.length) (by rw [nats_len, List.length_range]) (fun i => if p.getD i 0 = m.none_ then none else some (i, p.getD i 0)) (Obj1 pairO) (fun _ _ _ _ s h => h.same s)
      (by rw [List.length_range]; omega) hD (fun H1 s => s.seq (SqL.of ha)) (fun i c x H1 H2 PY PN hc s1 y okY okN => ?_) (fun H1 ys s1 hl hys => q H1 D ys s1 hD hl hys)⟩
    obtain ⟨T1, u, v, rfl, hT, rfl, hu, hv⟩ := y
    cases hu
    obtain ⟨n, hn, rfl⟩ := nats_of hv
    obtain ⟨hi, hc⟩ := List.getElem?_eq_some_iff.mp hc
    rw [List.getElem_range] at hc
    subst hc
    have hg : p.getD i 0 = n := by rw [List.getD_eq_getElem?_getD, hn]; rfl
    have sT : Same H1 (upd H1 T1 (.tup [.int (i : Nat), .int (n : Int)])) := same_new hT _
    have B1 := B.same (s1.trans sT)
    refine ⟨T1, _, rfl, SqT.of upd_same, rfl, _, _, rfl, _, _, rfl, rfl, rfl, _, rfl, _, rfl, b, dx, _, rfl, B1.ob, bF_no (by decide +kernel) (by decide +kernel) (by decide +kernel), b, dx, l, r, m, rfl, B1, fun H3 s3 => ⟨rfl, _, rfl, ?_⟩⟩
    by_cases e : n = m.none_
    · refine ifF (int_eq e) ?_
      exact okN H3 (by rw [hg, if_pos e]) (sT.trans s3)
    · refine ifT (int_ne e) ?_
      refine ⟨_, rfl, _, rfl, (by show 2 ≤ sizeLine; decide), fun t ht => ?_⟩
      refine okY (i, n) _ _ (by rw [hg, if_neg e]) (same_upd (sT.trans s3) ((sT.trans s3).free ht) _) fun D' _ hD' => ⟨t, rfl, ?_⟩
      have : t ≠ D' := fun z => hD' (z ▸ (sT.trans s3).free ht)
      rw [del_ne this, upd_same]
      rfl
end
end Gp

/-! The box, further: off, greatest, choices, all_plans. -/
namespace Gp
open PySem PySem.Spec PyProof.Rows L2
open Si90 (Box)
section
variable {P : Program} {w : World} {K : PySem.W.Frag} {mg : Str → Option Value} {base : Heap} {C : Addr} {CX : CXT}

theorem planO_map (l : List Nat) : planO l = .lst ((l.map fun (n : Nat) => (n : Int)).map V.int) := by
  unfold planO
  rw [nats_ints]
theorem nats_app (l r : List Nat) : nats l ++ nats r = nats (l ++ r) := by simp [nats]
theorem filterMap_some {α β : Type} (g : α → β) (l : List α) : l.filterMap (fun x => some (g x)) = l.map g := by
  induction l with
  | nil => rfl
  | cons a l ih => simp [ih]
theorem none_lt (m : Box) : m.none_ = m.rights.length := rfl

/-! ### what a plan's pairs differ: the comprehension that off and greatest share -/
/-- [self.apart(left, right) for left, right in self.pairs_of(plan)] -/
def tAparts (K : PySem.W.Frag) (C : Addr) : TE := tLc (iList K (tMeth C "pairs_of" (spPairs C) [] E0 (tVar 0) (tCons (tVar 1) tNil))) (g2 K 2 3) tYes (tMeth C "apart" (spApart C) [] E0 (tVar 0) (tCons (tVar 2) (tCons (tVar 3) tNil))) [2, 3]
theorem aparts_read (T : Txt K mg C) {H : Hp} {Q : VK} {b dx l r a : Addr} {m : Box} {p : List Nat} {u v : Option V} (B : BoxAt C H b dx l r m) (ha : H a = some (planO p)) (ht : Told m p)
    (q : ∀ (H' : Hp) (D : Addr), Same H H' → H D = none → H' D = some (planO (aparts m p)) → Q (.ref D) H') : tAparts K C [some (.ref b), some (.ref a), u, v] H Q := by
  refine ⟨_, rfl, b, dx, _, rfl, B.ob, bF_no (by decide +kernel) (by decide +kernel) (by decide +kernel), _, rfl, b, dx, l, r, m, a, p, rfl, B, ha, ht.2.2, fun H1 q1 ys s1 hq1 hl hys => ?_⟩
  refine ⟨q1, rfl, ⟨_, SqL.of hl⟩, fun D hD => lc_gen walk_list (pairsOf m.none_ p) hys.1 (fun c => some (m.differ c.1 c.2)) (fun _ v (n : Nat) => v = .int (n : Int)) (fun _ _ _ _ _ h => h)
    (by have h1 := pairsOf_len m.none_ p; have h2 := ht.2.2; omega) hD (fun H2 s => s.seq (SqL.of hl)) (fun i c x H2 H3 PY PN hc s2 y okY okN => ?_) (fun H2 zs s2 hz hzs => ?_)⟩
  · obtain ⟨rfl, hx⟩ := y
    obtain ⟨t, rfl, ht1⟩ := hys.2 i x c hx hc
    have hm := pairsOf_mem ht.2.1 (List.mem_of_getElem? hc)
    have B2 := (B.same s1).same s2
    refine ⟨t, _, rfl, SqT.of (s2 _ _ ht1), rfl, _, _, rfl, _, _, rfl, rfl, rfl, ?_⟩
    refine ⟨_, rfl, b, dx, _, rfl, B2.ob, bF_no (by decide +kernel) (by decide +kernel) (by decide +kernel), _, rfl, _, rfl, b, dx, l, r, m, c.1, c.2, rfl, B2, by rw [← ht.1]; exact hm.1, hm.2, fun H4 s4 => ?_⟩
    exact okY _ _ _ rfl s4 fun _ _ _ => rfl
  · have e := hzs.eq_map
    rw [filterMap_some] at e
    refine q H2 D (s1.trans s2) (s1.free hD) (hz.trans ?_)
    rw [e]
    simp [planO, nats, aparts]

/-! ### off -/
theorem scOff : FnScope ["self", "plan", "left", "right"] ["self", "plan"] (defScope sOff) := ⟨rfl, rfl, rfl, by decide +kernel, rfl, by decide +kernel, by decide +kernel⟩
theorem ok_off {f f1 f2 : Addr} {fd fd1 fd2 : FuncData} (F : Fun K "off" "Box.off" sOff f fd) (T : Txt K mg C) (M1 : MOk P w K mg base CX0 C 1 "apart" ["self", "left", "right"] (spApart C) f1 fd1) (M2 : MOk P w K mg base CX0 C 2 "pairs_of" ["self", "plan"] (spPairs C) f2 fd2) :
    FnOk P w K mg base CX0 3 f fd ["self", "plan"] (spOff C) := by
  refine F.ok scOff (fun vs H Q E h => ?_) (fun cdv A outer s H vs Q E hr h => ⟨tRet (tCB (rSum K) (tCons (tAparts K C) tNil)), pss_one (ps_ret (pe_callB (cr_sum rfl) (by rfl) T.sum (by decide +kernel) (pa_cons
      (pe_lc (own := [("left", 2), ("right", 3)]) (g := g2 K 2 3) (tt := tYes) (te := tMeth C "apart" (spApart C) [] E0 (tVar 0) (tCons (tVar 2) (tCons (tVar 3) tNil))) rfl scOff.nd
        (pi_list (pe_meth (pv 0) T.cl M2.me M2.ok hr M2.bi .nil pass0 (pa_cons (pv 1) pa_nil))) (blkOk_by (N := ["self", "plan", "left", "right"]) (sc := defScope sOff) (by decide +kernel))
      (fun _ _ _ _ _ => by exact (pg_tup rfl (pgs_cons (pg_name (i := 2) scOff.nd rfl (Or.inl rfl)) (pgs_cons (pg_name (i := 3) scOff.nd rfl (Or.inl rfl)) pgs_nil))))
      (fun _ _ _ _ _ => pts_nil)
      (fun _ _ _ _ _ => pe_meth (pv 0) T.cl M1.me M1.ok (hr.mono (by decide)) M1.bi .nil pass0 (pa_cons (pv 2) (pa_cons (pv 3) pa_nil)))) pa_nil))), ?_⟩)
  · obtain ⟨b, dx, l, r, m, a, p, rfl, _⟩ := h
    rfl
  · obtain ⟨b, dx, l, r, m, a, p, rfl, B, ha, ht, q⟩ := h
    refine (?_ : tAparts K C [some (.ref b), some (.ref a), none, none] H (fun x H1 => rSum K [x] H1 Q))
    refine aparts_read T B ha ht fun H1 D s1 hD hd => ⟨D, _, rfl, SqL.of (hd.trans (congrArg some (planO_map _))), ?_⟩
    rw [sum_cast]
    have e : (aparts m p).sum = m.off p := off_of m p
    rw [e]
    exact q H1 s1

/-! ### greatest -/
theorem scGreat : FnScope ["self", "plan", "left", "right"] ["self", "plan"] (defScope sGreat) := ⟨rfl, rfl, rfl, by decide +kernel, rfl, by decide +kernel, by decide +kernel⟩
theorem aparts_len (m : Box) (p : List Nat) : (aparts m p).length ≤ p.length := by
  unfold aparts
  rw [List.length_map]
  exact pairsOf_len _ _
theorem ok_great {f f1 f2 : Addr} {fd fd1 fd2 : FuncData} (F : Fun K "greatest" "Box.greatest" sGreat f fd) (T : Txt K mg C) (M1 : MOk P w K mg base CX0 C 1 "apart" ["self", "left", "right"] (spApart C) f1 fd1) (M2 : MOk P w K mg base CX0 C 2 "pairs_of" ["self", "plan"] (spPairs C) f2 fd2) :
    FnOk P w K mg base CX0 3 f fd ["self", "plan"] (spGreat C) := by
  refine F.ok scGreat (fun vs H Q E h => ?_) (fun cdv A outer s H vs Q E hr h => ⟨tRet (tCB (rMax K) (tCons (tOp rCat (tLst (tCons (tC (.int 0)) tNil)) (tAparts K C)) tNil)), pss_one (ps_ret (pe_callB (cr_max rfl) (by rfl) T.max (by decide +kernel) (pa_cons
      (pe_op op_cat (pe_lst (pa_cons pe_int pa_nil)) (pe_lc (own := [("left", 2), ("right", 3)]) (g := g2 K 2 3) (tt := tYes) (te := tMeth C "apart" (spApart C) [] E0 (tVar 0) (tCons (tVar 2) (tCons (tVar 3) tNil))) rfl scGreat.nd
        (pi_list (pe_meth (pv 0) T.cl M2.me M2.ok hr M2.bi .nil pass0 (pa_cons (pv 1) pa_nil))) (blkOk_by (N := ["self", "plan", "left", "right"]) (sc := defScope sGreat) (by decide +kernel))
      (fun _ _ _ _ _ => by exact (pg_tup rfl (pgs_cons (pg_name (i := 2) scGreat.nd rfl (Or.inl rfl)) (pgs_cons (pg_name (i := 3) scGreat.nd rfl (Or.inl rfl)) pgs_nil))))
      (fun _ _ _ _ _ => pts_nil)
      (fun _ _ _ _ _ => pe_meth (pv 0) T.cl M1.me M1.ok (hr.mono (by decide)) M1.bi .nil pass0 (pa_cons (pv 2) (pa_cons (pv 3) pa_nil))))) pa_nil))), ?_⟩)
  · obtain ⟨b, dx, l, r, m, a, p, rfl, _⟩ := h
    rfl
  · obtain ⟨b, dx, l, r, m, a, p, rfl, B, ha, ht, q⟩ := h
    refine ⟨by decide, fun z hz => ?_⟩
    have s0 : Same H (upd H z (.lst [.int 0])) := same_new hz _
    refine aparts_read T (B.same s0) (s0 _ _ ha) ht fun H1 D s1 hD hd => ?_
    have hz1 : H1 z = some (.lst [.int 0]) := s1 _ _ upd_same
    refine ⟨z, D, _, _, rfl, rfl, hz1, hd, ?_, fun p1 hp1 => ?_⟩
    · rw [nats_len]
      have h1 := aparts_len m p
      have h2 := ht.2.2
      exact Nat.le_of_lt (small10 (by simp; omega))
    · refine ⟨p1, ((0 : Int) :: (aparts m p).map fun (n : Nat) => (n : Int)), rfl, SqL.of ?_, by simp, fun mm hm hle => ?_⟩
      · rw [upd_same]
        simp [nats]
      · have hex : ∃ k : Nat, mm = (k : Int) ∧ k ∈ 0 :: aparts m p := by
          rcases List.mem_cons.mp hm with rfl | hm
          · exact ⟨0, rfl, by simp⟩
          · obtain ⟨k, hk, rfl⟩ := List.mem_map.mp hm
            exact ⟨k, rfl, by simp [hk]⟩
        obtain ⟨k, rfl, hk⟩ := hex
        have e : k = m.worst p := by
          rw [← worst_of]
          refine max_unique (r := aparts m p) hk fun y hy => ?_
          have : (y : Int) ≤ (k : Int) := hle _ (by
            rcases List.mem_cons.mp hy with rfl | hy
            · simp
            · exact List.mem_cons_of_mem _ (List.mem_map.mpr ⟨y, hy, rfl⟩))
          omega
        rw [e]
        exact q _ (same_upd (s0.trans s1) ((s0.trans s1).free hp1) _)

/-! ### choices -/
def spChoi (C : Addr) : Sp := fun vs H Q _ => ∃ (b dx l r : Addr) (m : Box) (a : Addr) (p : List Nat), vs = [.ref b, .ref a] ∧ BoxAt C H b dx l r m ∧ H a = some (planO p) ∧ m.rights.length ≤ 1000 ∧
  ∀ (H' : Hp) (q : Addr), Same H H' → H q = none → H' q = some (planO (choices m.none_ p)) → Q (.ref q) H'
theorem scChoi : FnScope ["self", "plan", "right"] ["self", "plan"] (defScope sChoi) := ⟨rfl, rfl, rfl, by decide +kernel, rfl, by decide +kernel, by decide +kernel⟩
theorem inV_nats (t : Nat) (p : List Nat) : inV (.int (t : Int)) (nats p) = p.contains t := by
  unfold inV nats
  rw [List.any_map, Bool.eq_iff_iff, List.any_eq_true, List.contains_iff_mem]
  constructor
  · rintro ⟨x, hx, e⟩
    have e2 : ((x : Int) == (t : Int)) = true := e
    have e3 : (x : Int) = (t : Int) := by simpa using e2
    have : x = t := by omega
    exact this ▸ hx
  · intro h
    exact ⟨t, h, by show ((t : Int) == (t : Int)) = true; simp⟩
theorem filterMap_if {α : Type} (p : α → Bool) (l : List α) : l.filterMap (fun x => if p x = true then none else some x) = l.filter fun x => !p x := by
  induction l with
  | nil => rfl
  | cons a l ih =>
    rw [List.filterMap_cons, List.filter_cons, ← ih]
    cases p a <;> simp
theorem ok_choi {f f1 : Addr} {fd fd1 : FuncData} (F : Fun K "choices" "Box.choices" sChoi f fd) (T : Txt K mg C) (M1 : MOk P w K mg base CX0 C 1 "none" ["self"] (spNone C) f1 fd1) :
    FnOk P w K mg base CX0 2 f fd ["self", "plan"] (spChoi C) := by
  refine F.ok scChoi (fun vs H Q E h => ?_) (fun cdv A outer s H vs Q E hr h => ⟨_, pss_one (ps_ret (pe_op op_cat
      (pe_lc (own := [("right", 2)]) (g := gName 2) (tt := tTest (tOp (rIn K true) (tVar 2) (tVar 1))) (te := tVar 2) rfl scChoi.nd
        (pi_range1 (by rfl) T.range (pa_cons (pe_meth0 (pv 0) T.cl M1.me M1.ok hr M1.bi .nil pass0) pa_nil)) (blkOk_by (N := ["self", "plan", "right"]) (sc := defScope sChoi) (by decide +kernel))
      (fun _ _ _ _ _ => by exact (pg_name (i := 2) scChoi.nd rfl (Or.inl rfl)))
      (fun _ _ _ _ _ => pts_one (pt_cmpR op_notIn_seq (pv 2) (pv 1) rfl))
      (fun _ _ _ _ _ => pv 2))
      (pe_lst (pa_cons (pe_meth0 (pv 0) T.cl M1.me M1.ok hr M1.bi .nil pass0) pa_nil)))), ?_⟩)
  · obtain ⟨b, dx, l, r, m, a, p, rfl, _⟩ := h
    rfl
  · obtain ⟨b, dx, l, r, m, a, p, rfl, B, ha, hz, q⟩ := h
    have hb : (m.none_ : Int) ≤ 1000 := by show (m.rights.length : Int) ≤ 1000; omega
    refine ⟨_, rfl, b, dx, _, rfl, B.ob, bF_no (by decide +kernel) (by decide +kernel) (by decide +kernel), b, dx, l, r, m, rfl, B, fun H1 s1 => ⟨_, rfl, by omega, by omega, fun D hD => ?_⟩⟩
    refine lc_gen walk_range (List.range m.none_) (by rw [List.length_range]; rfl) (fun t => if p.contains t = true then none else some t) (fun _ v (n : Nat) => v = .int (n : Int)) (fun _ _ _ _ _ h => h)
      (by rw [List.length_range]; show m.rights.length ≤ _; omega) hD (fun _ _ => trivial) (fun i c x H2 H3 PY PN hc s2 y okY okN => ?_) (fun H2 zs s2 hzl hzs => ?_)
    · obtain ⟨rfl, hx⟩ := y
      have hx' : x = V.int (i : Int) := hx.trans (by show V.int (0 + (i : Int)) = _; rw [Int.zero_add])
      subst hx'
      obtain ⟨hi, hc⟩ := List.getElem?_eq_some_iff.mp hc
      rw [List.getElem_range] at hc
      subst hc
      refine ⟨rfl, _, rfl, _, rfl, a, _, rfl, .inl (SqL.of ((s1.trans s2) _ _ ha)), rfl, nats_flat p, _, rfl, ?_⟩
      have ei := inV_nats i p
      cases e : p.contains i
      · refine ifT (by rw [if_pos rfl, ei, e]; rfl) ?_
        exact ⟨_, rfl, okY i _ _ (by rw [e]; rfl) (Same.refl _) fun _ _ _ => rfl⟩
      · refine ifF (by rw [if_pos rfl, ei, e]; rfl) ?_
        exact okN _ (by rw [e]; rfl) (Same.refl _)
    · have e := hzs.eq_map
      rw [filterMap_if] at e
      have B2 := (B.same s1).same s2
      refine ⟨_, rfl, b, dx, _, rfl, B2.ob, bF_no (by decide +kernel) (by decide +kernel) (by decide +kernel), b, dx, l, r, m, rfl, B2, fun H3 s3 => ⟨(by show 1 ≤ sizeLine; decide), fun z hz3 => ?_⟩⟩
      have hD3 : upd H3 z (.lst [.int (m.none_ : Int)]) D = some (.lst zs) := by
        rw [upd_ne (ne_of_none (s3 _ _ hzl) hz3)]
        exact s3 _ _ hzl
      have lz : zs.length ≤ 1000 := by
        rw [hzs.1, filterMap_if]
        refine Nat.le_trans (List.length_filter_le _ _) ?_
        rw [List.length_range]
        exact hz
      refine ⟨D, z, zs, _, rfl, rfl, hD3, upd_same, Nat.le_of_lt (small10 (by simp; omega)), fun p1 hp1 => ?_⟩
      have s4 : Same H (upd H3 z (.lst [.int (m.none_ : Int)])) := same_upd ((s1.trans s2).trans s3) (((s1.trans s2).trans s3).free hz3) _
      refine q _ p1 (same_upd s4 (s4.free hp1) _) (s4.free hp1) ?_
      rw [upd_same, e]
      unfold planO choices
      rw [← nats_app]
      rfl
end
end Gp

/-! The box, further: all_plans, plans, rank, best, needed, too_unlike, told_twice. -/
namespace Gp
open PySem PySem.Spec PyProof.Rows L2
open Si90 (Box)
section
variable {P : Program} {w : World} {K : PySem.W.Frag} {mg : Str → Option Value} {base : Heap} {C : Addr} {CX : CXT}

/-! ### all_plans -/
def spAll (C : Addr) : Sp := fun vs H Q _ => ∃ (b dx l r : Addr) (m : Box), vs = [.ref b] ∧ BoxAt C H b dx l r m ∧ Fine m ∧
  ∀ (H' : Hp) (q : Addr) (ys : List V), Same H H' → H q = none → H' q = some (.lst ys) → All2 (Obj1 planO H') ys (allPlans m.none_ m.lefts.length) → Q (.ref q) H'
theorem scAll : FnScope ["self", "found", "left", "longer", "plan", "right"] ["self"] (defScope sAll) := ⟨rfl, rfl, rfl, by decide +kernel, rfl, by decide +kernel, by decide +kernel⟩
theorem grow_len {n : Nat} (h : n ≤ 5) (l : List (List Nat)) : (grow n l).length ≤ l.length * 6 :=
  flatMap_len (fun p => (choices n p).map fun t => p ++ [t]) 6 (fun p => by rw [List.length_map]; have := choices_len n p; omega) l
theorem pow6 {k : Nat} (h : k ≤ 5) : 6 ^ k ≤ 7776 := Nat.pow_le_pow_right (by decide) h
theorem grow_more {n : Nat} {l : List (List Nat)} {j : Nat} {p : List Nat} (h : l[j]? = some p) : grow n (l.take (j + 1)) = grow n (l.take j) ++ (choices n p).map fun t => p ++ [t] := by
  unfold grow
  rw [take_more h, List.flatMap_append]
  simp
theorem ok_all {f f1 : Addr} {fd fd1 : FuncData} (F : Fun K "all_plans" "Box.all_plans" sAll f fd) (T : Txt K mg C) (M1 : MOk P w K mg base CX0 C 2 "choices" ["self", "plan"] (spChoi C) f1 fd1) :
    FnOk P w K mg base CX0 3 f fd ["self"] (spAll C) := by
  refine F.ok scAll (fun vs H Q E h => ?_) (fun cdv A outer s H vs Q E hr h => ⟨_, pss_cons (ps_set (i := 1) scAll.nd rfl (Or.inl rfl) (pe_lst (pa_cons (pe_lst pa_nil) pa_nil)))
    (pss_cons (ps_for PassesOwn.never rfl (pi_list (pe_fld (pv 0) rfl)) (pg_name (i := 2) scAll.nd rfl (Or.inl rfl))
      (pss_cons (ps_set (i := 3) scAll.nd rfl (Or.inl rfl) (pe_lst pa_nil))
      (pss_cons (ps_for PassesOwn.never rfl (pi_list (pv 1)) (pg_name (i := 4) scAll.nd rfl (Or.inr rfl))
        (pss_one (ps_expr (pe_bm PySem.F.plainAttrs_list PySem.F.slot_list_extend PySem.F.type_list_extend mt_extend (pv 3) (pa_cons
          (pe_lc (own := [("right", 5)]) (g := gName 5) (tt := tYes) (te := tOp rCat (tVar 4) (tLst (tCons (tVar 5) tNil))) rfl scAll.nd
            (pi_list (pe_meth (pv 0) T.cl M1.me M1.ok hr M1.bi .nil pass0 (pa_cons (pv 4) pa_nil))) (blkOk_by (N := ["self", "found", "left", "longer", "plan", "right"]) (sc := defScope sAll) (by decide +kernel))
            (fun _ _ _ _ _ => by exact (pg_name (i := 5) scAll.nd rfl (Or.inl rfl)))
            (fun _ _ _ _ _ => pts_nil)
            (fun _ _ _ _ _ => pe_op op_cat (pv 4) (pe_lst (pa_cons (pv 5) pa_nil)))) pa_nil)))))
      (pss_one (ps_set (i := 1) scAll.nd rfl (Or.inl rfl) (pv 3))))))
    (pss_one (ps_ret (pv 1)))), ?_⟩)
  · obtain ⟨b, dx, l, r, m, rfl, _⟩ := h
    rfl
  · obtain ⟨b, dx, l, r, m, rfl, B, fine, q⟩ := h
    have hn : m.none_ ≤ 5 := fine.nr
    refine ⟨Nat.zero_le _, fun z hz => ⟨(by show 1 ≤ sizeLine; decide), fun F0 hF0 => ?_⟩⟩
    have sz : Same H (upd H z (.lst [])) := same_new hz _
    have sF : Same H (upd (upd H z (.lst [])) F0 (.lst [.ref z])) := same_upd sz (sz.free hF0) _
    have zF : z ≠ F0 := ne_of_none (o := .lst []) upd_same hF0
    refine ⟨_, rfl, b, C, dx, _, _, rfl, (B.same sF).ob, T.cl, T.nL, bF_lefts, l, rfl, ⟨_, SqL.of (B.same sF).ll⟩, ?_⟩
    refine for_list (K := K) (a := l) (xs := nats m.lefts) (fun i σ H' => ∃ (F1 : Addr) (ys : List V) (v2 v3 v4 : Option V), σ = [some (.ref b), some (.ref F1), v2, v3, v4, none] ∧ Same H H' ∧ H F1 = none ∧ H' F1 = some (.lst ys) ∧ All2 (Obj1 planO H') ys (allPlans m.none_ i))
      ⟨F0, [.ref z], none, none, none, rfl, sF, sz.free hF0, upd_same, ⟨rfl, fun i v c a1 a2 => ?_⟩⟩ (fun i σ H' _ ⟨_, _, _, _, _, _, s5, _⟩ => s5.seq (SqL.of B.ll)) (fun i x σ H0 hi hp => ?_) (fun σ H' hp => ?_)
    · match i, a1, a2 with
      | 0, a1, a2 =>
        cases a1
        cases a2
        exact ⟨z, rfl, by rw [upd_ne zF, upd_same]; rfl⟩
    · obtain ⟨F1, ys, v2, v3, v4, rfl, s0, hF1, hF, hys⟩ := hp
      have hil : i < m.lefts.length := by have := (List.getElem?_eq_some_iff.mp hi).1; rwa [nats_len] at this
      have hi5 : i + 1 ≤ 5 := by have := fine.nl; omega
      refine ⟨Nat.zero_le _, fun L hL => ?_⟩
      have sL : Same H0 (upd H0 L (.lst [])) := same_new hL _
      refine ⟨_, rfl, F1, rfl, ⟨_, SqL.of (sL _ _ hF)⟩, ?_⟩
      refine for_list (K := K) (a := F1) (xs := ys) (fun j σ H' => ∃ (acc : List V) (v4 : Option V), σ = [some (.ref b), some (.ref F1), some x, some (.ref L), v4, none] ∧ Same H0 H' ∧ H' L = some (.lst acc) ∧ All2 (Obj1 planO (del H' L)) acc (grow m.none_ ((allPlans m.none_ i).take j)))
        ⟨[], v4, rfl, sL, upd_same, All2.nil⟩ (fun j σ H' _ ⟨_, _, _, s5, _⟩ => s5.seq (SqL.of hF)) (fun j y σ H1 hj hp => ?_) (fun σ H1 hp => ?_)
      · obtain ⟨acc, v4', rfl, s1, hacc, hr⟩ := hp
        obtain ⟨p, hpj, a, rfl, ha⟩ := hys.at hj
        have B1 := (B.same s0).same s1
        refine ⟨_, rfl, Or.inl ⟨rfl, _, SqL.of hacc⟩, ?_⟩
        refine ⟨_, rfl, b, dx, _, rfl, B1.ob, bF_no (by decide +kernel) (by decide +kernel) (by decide +kernel), _, rfl, b, dx, l, r, m, a, p, rfl, B1, s1 _ _ ha, by have := fine.nr; omega, fun H2 q2 s2 hq2 hl2 => ?_⟩
        refine ⟨q2, rfl, ⟨_, SqL.of hl2⟩, fun D hD => lc_gen walk_list (choices m.none_ p) (nats_len _) (fun t => some (p ++ [t])) (fun H v (c : List Nat) => ∃ y, v = .ref y ∧ y ≠ L ∧ H y = some (planO c)) (fun _ _ _ _ s h => ?_)
          (by have := choices_len m.none_ p; omega) hD (fun H3 s => s.seq (SqL.of hl2)) (fun k t x H3 H4 PY PN hc s3 y okY okN => ?_) (fun H3 zs s3 hz3 hzs => ?_)⟩
        · obtain ⟨y, e1, e2, e3⟩ := h
          exact ⟨y, e1, e2, s _ _ e3⟩
        · obtain ⟨rfl, hx⟩ := y
          obtain ⟨t', ht', rfl⟩ := nats_of hx
          rw [hc] at ht'
          cases ht'
          have ha3 : H4 a = some (planO p) := s3 _ _ (s2 _ _ (s1 _ _ ha))
          have hL3 : H4 L = some (.lst acc) := s3 _ _ (s2 _ _ hacc)
          refine ⟨rfl, _, rfl, _, rfl, (by show 1 ≤ sizeLine; decide), fun z1 hz1 => ?_⟩
          have s4 : Same H4 (upd H4 z1 (.lst [.int (t : Int)])) := same_new hz1 _
          refine ⟨a, z1, _, _, rfl, rfl, s4 _ _ ha3, upd_same, ?_, fun y hy => ?_⟩
          · rw [nats_len]
            have h1 := (mem_allPlans.mp (List.mem_of_getElem? hpj)).1.1
            exact Nat.le_of_lt (small10 (by simp; omega))
          · refine okY (p ++ [t]) _ _ rfl (same_upd s4 (s4.free hy) _) fun D' _ hD2 => ⟨y, rfl, Ne.symm (ne_of_none (s4 _ _ hL3) hy), ?_⟩
            have : y ≠ D' := fun z => hD2 (z ▸ s4.free hy)
            rw [del_ne this, upd_same]
            show some (HO.lst (nats p ++ nats [t])) = _
            rw [nats_app]
            rfl
        · have s13 : Same H1 H3 := s2.trans s3
          have hg := grow_more (n := m.none_) hpj
          rw [filterMap_some] at hzs
          refine ⟨L, D, acc, zs, rfl, rfl, s13 _ _ hacc, hz3, ?_, ?_⟩
          · rw [hr.1, hzs.1]
            have h1 := grow_len hn ((allPlans m.none_ i).take (j + 1))
            rw [hg, List.length_append] at h1
            have h2 := allPlans_len hn i
            have h3 : ((allPlans m.none_ i).take (j + 1)).length ≤ (allPlans m.none_ i).length := by rw [List.length_take]; omega
            have h4 : 6 ^ (i + 1) ≤ 7776 := pow6 hi5
            rw [Nat.pow_succ] at h4
            refine Nat.le_of_lt (small10 ?_)
            omega
          · refine ⟨acc ++ zs, _, rfl, same_upd (s1.trans s13) hL _, upd_same, ?_⟩
            rw [del_upd, hg]
            refine All2.append ((hr.objs (same_del s13 L))) (hzs.mono fun v c ⟨y, e1, e2, e3⟩ => ⟨y, e1, by rw [del_ne e2]; exact e3⟩)
      · obtain ⟨acc, v4', rfl, s1, hacc, hr⟩ := hp
        rw [hys.1, List.take_length] at hr
        exact ⟨_, rfl, L, acc, _, _, _, rfl, s0.trans s1, s0.free hL, hacc, hr.objs (same_undel H1 L)⟩
    · obtain ⟨F1, ys, v2, v3, v4, rfl, s0, hF1, hF, hys⟩ := hp
      rw [nats_len] at hys
      exact ⟨_, rfl, q H' F1 ys s0 hF1 hF hys⟩
end
end Gp

/-! The box, further: plans, rank, best, needed, too_unlike, told_twice. -/
namespace Gp
open PySem PySem.Spec PyProof.Rows L2
open Si90 (Box)
section
variable {P : Program} {w : World} {K : PySem.W.Frag} {mg : Str → Option Value} {base : Heap} {C : Addr} {CX : CXT}

/-! ### plans -/
def spPlans (C : Addr) : Sp := fun vs H Q _ => ∃ (b dx l r : Addr) (m : Box), vs = [.ref b] ∧ BoxAt C H b dx l r m ∧ Fine m ∧
  ∀ (H' : Hp) (q : Addr) (ys : List V), Same H H' → H q = none → H' q = some (.lst ys) → All2 (Obj1 planO H') ys m.plans → Q (.ref q) H'
theorem scPlans : FnScope ["self", "plan"] ["self"] (defScope sPlans) := ⟨rfl, rfl, rfl, by decide +kernel, rfl, by decide +kernel, by decide +kernel⟩
theorem told_all {m : Box} (h : Fine m) {p : List Nat} (hp : p ∈ allPlans m.none_ m.lefts.length) : Told m p := by
  obtain ⟨⟨h1, h2⟩, _⟩ := mem_allPlans.mp hp
  exact ⟨h1, h2, by have := h.nl; omega⟩
theorem all_small {m : Box} (h : Fine m) : (allPlans m.none_ m.lefts.length).length ≤ 10000 := by
  have h1 := allPlans_len (n := m.none_) h.nr m.lefts.length
  have h2 := pow6 h.nl
  omega
theorem filterMap_keep {α : Type} (p : α → Bool) (l : List α) : l.filterMap (fun x => if p x = true then some x else none) = l.filter p := by
  induction l with
  | nil => rfl
  | cons a l ih =>
    rw [List.filterMap_cons, List.filter_cons, ← ih]
    cases p a <;> simp
theorem mem_plans {m : Box} {p : List Nat} (h : p ∈ m.plans) : p ∈ allPlans m.none_ m.lefts.length := by
  rw [← plans_is] at h
  exact (List.mem_filter.mp h).1
theorem plans_small {m : Box} (h : Fine m) : m.plans.length ≤ 10000 := by
  rw [← plans_is]
  exact Nat.le_trans (List.length_filter_le _ _) (all_small h)
theorem ok_plans {f f1 f2 : Addr} {fd fd1 fd2 : FuncData} (F : Fun K "plans" "Box.plans" sPlans f fd) (T : Txt K mg C) (M1 : MOk P w K mg base CX0 C 3 "all_plans" ["self"] (spAll C) f1 fd1) (M2 : MOk P w K mg base CX0 C 3 "greatest" ["self", "plan"] (spGreat C) f2 fd2) :
    FnOk P w K mg base CX0 4 f fd ["self"] (spPlans C) := by
  refine F.ok scPlans (fun vs H Q E h => ?_) (fun cdv A outer s H vs Q E hr h => ⟨_, pss_one (ps_ret
      (pe_lc (own := [("plan", 1)]) (g := gName 1) (tt := tTest (tOp (rI0 fun i j => .bl (decide (i ≤ j))) (tMeth C "greatest" (spGreat C) [] E0 (tVar 0) (tCons (tVar 1) tNil)) (tFld K (tVar 0) "differ"))) (te := tVar 1) rfl scPlans.nd
        (pi_list (pe_meth0 (pv 0) T.cl M1.me M1.ok hr M1.bi .nil pass0)) (blkOk_by (N := ["self", "plan"]) (sc := defScope sPlans) (by decide +kernel))
      (fun _ _ _ _ _ => by exact (pg_name (i := 1) scPlans.nd rfl (Or.inl rfl)))
      (fun _ _ _ _ _ => pts_one (pt_cmpR op_le (pe_meth (pv 0) T.cl M2.me M2.ok hr M2.bi .nil pass0 (pa_cons (pv 1) pa_nil)) (pe_fld (pv 0) rfl) (nomark _)))
      (fun _ _ _ _ _ => pv 1))), ?_⟩)
  · obtain ⟨b, dx, l, r, m, rfl, _⟩ := h
    rfl
  · obtain ⟨b, dx, l, r, m, rfl, B, fine, q⟩ := h
    refine ⟨_, rfl, b, dx, _, rfl, B.ob, bF_no (by decide +kernel) (by decide +kernel) (by decide +kernel), b, dx, l, r, m, rfl, B, fine, fun H1 q1 ys s1 hq1 hl hys => ?_⟩
    refine ⟨q1, rfl, ⟨_, SqL.of hl⟩, fun D hD => lc_gen walk_list (allPlans m.none_ m.lefts.length) hys.1 (fun p => if decide (m.worst p ≤ m.limit) = true then some p else none) (Obj1 planO) (fun _ _ _ _ s h => h.same s)
      (all_small fine) hD (fun H2 s => s.seq (SqL.of hl)) (fun i p x H2 H3 PY PN hc s2 y okY okN => ?_) (fun H2 zs s2 hz hzs => ?_)⟩
    · obtain ⟨rfl, hx⟩ := y
      obtain ⟨a, rfl, ha⟩ := hys.2 i x p hx hc
      have B2 := (B.same s1).same s2
      have ht := told_all fine (List.mem_of_getElem? hc)
      refine ⟨rfl, _, rfl, b, dx, _, rfl, B2.ob, bF_no (by decide +kernel) (by decide +kernel) (by decide +kernel), _, rfl, b, dx, l, r, m, a, p, rfl, B2, s2 _ _ ha, ht, fun H4 s4 => ?_⟩
      have B4 := B2.same s4
      refine ⟨_, rfl, b, C, dx, _, _, rfl, B4.ob, T.cl, T.nD, bF_differ, _, _, rfl, rfl, _, rfl, ?_⟩
      by_cases e : m.worst p ≤ m.limit
      · refine ifT (decide_eq_true (by omega)) ⟨_, rfl, ?_⟩
        refine okY p _ _ (by rw [if_pos (decide_eq_true e)]) s4 fun D' hD1 _ => ⟨a, rfl, ?_⟩
        rw [del_ne (ne_of_none ha hD1)]
        exact s4 _ _ (s2 _ _ ha)
      · refine ifF (decide_eq_false (by omega)) ?_
        exact okN _ (by rw [if_neg (by simpa using e)]) s4
    · rw [filterMap_keep, plans_is] at hzs
      exact q H2 D zs (s1.trans s2) (s1.free hD) hz hzs

/-! ### rank -/
def rankO (m : Box) (p : List Nat) : HO := .tup [.int (0 - (m.pairs p : Int)), .int (m.off p : Int)]
def spRank (C : Addr) : Sp := fun vs H Q _ => ∃ (b dx l r : Addr) (m : Box) (a : Addr) (p : List Nat), vs = [.ref b, .ref a] ∧ BoxAt C H b dx l r m ∧ H a = some (planO p) ∧ Told m p ∧
  ∀ (H' : Hp) (q : Addr), Same H H' → H q = none → H' q = some (rankO m p) → Q (.ref q) H'
theorem scRank : FnScope ["self", "plan"] ["self", "plan"] (defScope sRank) := ⟨rfl, rfl, rfl, by decide +kernel, rfl, by decide +kernel, by decide +kernel⟩
theorem ok_rank {f f1 f2 : Addr} {fd fd1 fd2 : FuncData} (F : Fun K "rank" "Box.rank" sRank f fd) (T : Txt K mg C) (M1 : MOk P w K mg base CX0 C 2 "pairs_of" ["self", "plan"] (spPairs C) f1 fd1) (M2 : MOk P w K mg base CX0 C 3 "off" ["self", "plan"] (spOff C) f2 fd2) :
    FnOk P w K mg base CX0 4 f fd ["self", "plan"] (spRank C) := by
  refine F.ok scRank (fun vs H Q E h => ?_) (fun cdv A outer s H vs Q E hr h => ⟨_, pss_one (ps_ret (pe_tup (pa_cons
      (pe_op op_sub pe_int (pe_callB call_len_seq (by rfl) T.len PySem.boot_len (pa_cons (pe_meth (pv 0) T.cl M1.me M1.ok (hr.mono (by decide)) M1.bi .nil pass0 (pa_cons (pv 1) pa_nil)) pa_nil)))
      (pa_cons (pe_meth (pv 0) T.cl M2.me M2.ok hr M2.bi .nil pass0 (pa_cons (pv 1) pa_nil)) pa_nil)))), ?_⟩)
  · obtain ⟨b, dx, l, r, m, a, p, rfl, _⟩ := h
    rfl
  · obtain ⟨b, dx, l, r, m, a, p, rfl, B, ha, ht, q⟩ := h
    refine ⟨_, rfl, b, dx, _, rfl, B.ob, bF_no (by decide +kernel) (by decide +kernel) (by decide +kernel), _, rfl, b, dx, l, r, m, a, p, rfl, B, ha, ht.2.2, fun H1 q1 ys s1 hq1 hl hys => ?_⟩
    refine ⟨q1, ys, rfl, .inl (SqL.of hl), _, _, rfl, rfl, ?_⟩
    have B1 := B.same s1
    refine ⟨_, rfl, b, dx, _, rfl, B1.ob, bF_no (by decide +kernel) (by decide +kernel) (by decide +kernel), _, rfl, b, dx, l, r, m, a, p, rfl, B1, s1 _ _ ha, ht, fun H2 s2 => ?_⟩
    refine ⟨(by show 2 ≤ sizeLine; decide), fun t hT => ?_⟩
    refine q _ t (same_upd (s1.trans s2) ((s1.trans s2).free hT) _) ((s1.trans s2).free hT) ?_
    rw [upd_same, hys.1, pairs_count]
    rfl

/-! ### best -/
/-- the best plans, and what the specification tells of them -/
def spBest (C : Addr) : Sp := fun vs H Q _ => ∃ (b dx l r : Addr) (m : Box), vs = [.ref b] ∧ BoxAt C H b dx l r m ∧ Fine m ∧
  ∀ (H' : Hp) (q : Addr) (ys : List V) (p0 : List Nat) (rest : List (List Nat)), Same H H' → H q = none → H' q = some (.lst ys) → All2 (Obj1 planO H') ys (p0 :: rest) → p0 ∈ m.plans → rest.length ≤ 10000 → m.best = some ⟨m.pairs p0, m.off p0, rest.length + 1, p0⟩ → Q (.ref q) H'
theorem scBest : FnScope ["self", "some", "least", "plan"] ["self"] (defScope sBest) := ⟨rfl, rfl, rfl, by decide +kernel, rfl, by decide +kernel, by decide +kernel⟩
def rk (m : Box) (p : List Nat) : Int × Int := (0 - (m.pairs p : Int), (m.off p : Int))
theorem lexI_better {m : Box} {p q : List Nat} (h : lexI (rk m q) (rk m p) = false) : Si90.better (m.pairs q) (m.off q) (m.pairs p) (m.off p) = false := by
  rw [better_not]
  unfold lexI rk at h
  dsimp only at h
  split at h
  · have := of_decide_eq_false h
    omega
  · have := of_decide_eq_false h
    omega
theorem ok_best {f f1 f2 : Addr} {fd fd1 fd2 : FuncData} (F : Fun K "best" "Box.best" sBest f fd) (T : Txt K mg C) (M1 : MOk P w K mg base CX0 C 4 "plans" ["self"] (spPlans C) f1 fd1) (M2 : MOk P w K mg base CX0 C 4 "rank" ["self", "plan"] (spRank C) f2 fd2) :
    FnOk P w K mg base CX0 5 f fd ["self"] (spBest C) := by
  refine F.ok scBest (fun vs H Q E h => ?_) (fun cdv A outer s H vs Q E hr h => ⟨_, pss_cons (ps_set (i := 1) scBest.nd rfl (Or.inl rfl) (pe_meth0 (pv 0) T.cl M1.me M1.ok hr M1.bi .nil pass0))
    (pss_cons (ps_set (i := 2) scBest.nd rfl (Or.inr rfl) (pe_callB (cr_minT rfl hr.units) (by rfl) T.min (by decide +kernel) (pa_cons
      (pe_lc (own := [("plan", 3)]) (g := gName 3) (tt := tYes) (te := tMeth C "rank" (spRank C) [] E0 (tVar 0) (tCons (tVar 3) tNil)) rfl scBest.nd
        (pi_list (pv 1)) (blkOk_by (N := ["self", "some", "least", "plan"]) (sc := defScope sBest) (by decide +kernel))
      (fun _ _ _ _ _ => by exact (pg_name (i := 3) scBest.nd rfl (Or.inl rfl)))
      (fun _ _ _ _ _ => pts_nil)
      (fun _ _ _ _ _ => pe_meth (pv 0) T.cl M2.me M2.ok hr M2.bi .nil pass0 (pa_cons (pv 3) pa_nil))) pa_nil)))
    (pss_one (ps_ret
      (pe_lc (own := [("plan", 3)]) (g := gName 3) (tt := tTest (tOp (rEqD K) (tMeth C "rank" (spRank C) [] E0 (tVar 0) (tCons (tVar 3) tNil)) (tVar 2))) (te := tVar 3) rfl scBest.nd
        (pi_list (pv 1)) (blkOk_by (N := ["self", "some", "least", "plan"]) (sc := defScope sBest) (by decide +kernel))
      (fun _ _ _ _ _ => by exact (pg_name (i := 3) scBest.nd rfl (Or.inl rfl)))
      (fun _ _ _ _ _ => pts_one (pt_cmpR (op_eqD hr.units) (pe_meth (pv 0) T.cl M2.me M2.ok hr M2.bi .nil pass0 (pa_cons (pv 3) pa_nil)) (pv 2) (nomark _)))
      (fun _ _ _ _ _ => pv 3))))), ?_⟩)
  · obtain ⟨b, dx, l, r, m, rfl, _⟩ := h
    rfl
  · obtain ⟨b, dx, l, r, m, rfl, B, fine, q⟩ := h
    refine ⟨_, rfl, b, dx, _, rfl, B.ob, bF_no (by decide +kernel) (by decide +kernel) (by decide +kernel), b, dx, l, r, m, rfl, B, fine, fun H1 q1 ys s1 hq1 hl hys => ?_⟩
    refine ⟨_, rfl, q1, rfl, ⟨_, SqL.of hl⟩, fun D hD => lc_gen walk_list m.plans hys.1 (fun p => some p) (Obj1 (rankO m)) (fun _ _ _ _ s h => h.same s)
      (plans_small fine) hD (fun H2 s => s.seq (SqL.of hl)) (fun i p x H2 H3 PY PN hc s2 y okY okN => ?_) (fun H2 zs s2 hz hzs => ?_)⟩
    · obtain ⟨rfl, hx⟩ := y
      obtain ⟨a, rfl, ha⟩ := hys.2 i x p hx hc
      have B2 := (B.same s1).same s2
      have ht := told_all fine (mem_plans (List.mem_of_getElem? hc))
      refine ⟨rfl, _, rfl, b, dx, _, rfl, B2.ob, bF_no (by decide +kernel) (by decide +kernel) (by decide +kernel), _, rfl, b, dx, l, r, m, a, p, rfl, B2, s2 _ _ ha, ht, fun H4 q4 s4 hq4 hr4 => ?_⟩
      refine okY p _ _ rfl s4 fun D' _ hD2 => ⟨q4, rfl, ?_⟩
      have : q4 ≠ D' := fun z => hD2 (z ▸ hq4)
      rw [del_ne this]
      exact hr4
    · have eid : m.plans.filterMap (fun p => some p) = m.plans := by rw [filterMap_some]; simp
      rw [eid] at hzs
      refine ⟨D, zs, m.plans.map (rk m), rfl, SqL.of hz, ⟨by rw [List.length_map]; exact hzs.1, fun i v c a1 a2 => ?_⟩, ?_, fun i v c hv hc hmin => ?_⟩
      · rw [List.getElem?_map] at a2
        cases e : m.plans[i]? with
        | none => rw [e] at a2; cases a2
        | some p =>
          rw [e] at a2
          obtain ⟨t, e1, e2⟩ := hzs.2 i v p a1 e
          have e3 : rk m p = c := Option.some.inj a2
          rw [← e3]
          exact ⟨t, e1, SqT.of e2⟩
      · rw [List.length_map]
        exact List.length_pos_iff.mpr (plans_ne m)
      · rw [List.getElem?_map] at hc
        obtain ⟨p, hp, ep⟩ := Option.map_eq_some_iff.mp hc
        subst ep
        obtain ⟨t0, rfl, ht0⟩ := hzs.2 i v p hv hp
        have hpm := List.mem_of_getElem? hp
        have hl2 := s2 _ _ hl
        have hys2 := hys.objs s2
        have B2 := (B.same s1).same s2
        refine ⟨_, rfl, q1, rfl, ⟨_, SqL.of hl2⟩, fun D2 hD2 => lc_gen walk_list m.plans hys2.1 (fun q => if decide (m.pairs q = m.pairs p ∧ m.off q = m.off p) = true then some q else none) (Obj1 planO) (fun _ _ _ _ s h => h.same s)
          (plans_small fine) hD2 (fun H2 s => s.seq (SqL.of hl2)) (fun i c x H3 H4 PY PN hc s3 y okY okN => ?_) (fun H3 us s3 hu hus => ?_)⟩
        · obtain ⟨rfl, hx⟩ := y
          obtain ⟨a, rfl, ha⟩ := hys2.2 i x c hx hc
          have B3 := B2.same s3
          have ht := told_all fine (mem_plans (List.mem_of_getElem? hc))
          refine ⟨rfl, _, rfl, b, dx, _, rfl, B3.ob, bF_no (by decide +kernel) (by decide +kernel) (by decide +kernel), _, rfl, b, dx, l, r, m, a, c, rfl, B3, s3 _ _ ha, ht, fun H5 q5 s5 hq5 hr5 => ?_⟩
          refine ⟨_, rfl, .tuple [.int (0 - (m.pairs c : Int)), .int (m.off c : Int)], .tuple [.int (0 - (m.pairs p : Int)), .int (m.off p : Int)], Dp.tup (SqT.of hr5) (.cons (.int _) (.cons (.int _) .nil)), Dp.tup (SqT.of (s5 _ _ (s3 _ _ ht0))) (.cons (.int _) (.cons (.int _) .nil)), rfl, rfl, _, rfl, ?_⟩
          have ee : PyData.eqv (.tuple [.int (0 - (m.pairs c : Int)), .int (m.off c : Int)]) (.tuple [.int (0 - (m.pairs p : Int)), .int (m.off p : Int)]) = decide (rk m c = rk m p) := PySem.W.Datum.eqv (rk m c) (rk m p)
          by_cases e : m.pairs c = m.pairs p ∧ m.off c = m.off p
          · refine ifT (ee.trans (decide_eq_true (by unfold rk; rw [e.1, e.2]))) ⟨_, rfl, ?_⟩
            refine okY c _ _ (by rw [if_pos (decide_eq_true e)]) s5 fun D' hD1 _ => ⟨a, rfl, ?_⟩
            rw [del_ne (ne_of_none ha hD1)]
            exact s5 _ _ (s3 _ _ ha)
          · refine ifF (ee.trans (decide_eq_false fun z => e ?_)) ?_
            · unfold rk at z
              injection z with z1 z2
              omega
            · exact okN _ (by rw [if_neg (by simpa using e)]) s5
        · rw [filterMap_keep] at hus
          obtain ⟨p0, rest, e1, e2⟩ := best_answer m hpm fun q hq => lexI_better (hmin _ (List.mem_map.mpr ⟨q, hq, rfl⟩))
          rw [e1] at hus
          have hmem : p0 ∈ m.plans := by
            have : p0 ∈ p0 :: rest := by simp
            rw [← e1] at this
            exact (List.mem_filter.mp this).1
          have hlen : rest.length ≤ 10000 := by
            have h1 := List.length_filter_le (fun q => decide (m.pairs q = m.pairs p ∧ m.off q = m.off p)) m.plans
            rw [e1] at h1
            have h2 := plans_small fine
            simp at h1
            omega
          exact q H3 D2 us p0 rest ((s1.trans s2).trans s3) ((s1.trans s2).free hD2) hu hus hmem hlen e2

/-! ### needed -/
def spNeed (C : Addr) : Sp := fun vs H Q _ => ∃ (b dx l r : Addr) (m : Box) (many : Nat), vs = [.ref b, .int (many : Int)] ∧ BoxAt C H b dx l r m ∧ Fine m ∧ many ≤ m.lefts.length ∧ many ≤ m.rights.length ∧
  ∀ (H' : Hp) (d : Nat), Same H H' → m.needs many = some d → Q (.int (d : Int)) H'
theorem scNeed : FnScope ["self", "many", "plan"] ["self", "many"] (defScope sNeed) := ⟨rfl, rfl, rfl, by decide +kernel, rfl, by decide +kernel, by decide +kernel⟩
theorem filterMap_both {α β : Type} (p : α → Bool) (g : α → β) (l : List α) : l.filterMap (fun x => if p x = true then some (g x) else none) = (l.filter p).map g := by
  induction l with
  | nil => rfl
  | cons a l ih =>
    rw [List.filterMap_cons, List.filter_cons, ih]
    cases p a <;> simp
theorem ok_need {f f1 f2 f3 : Addr} {fd fd1 fd2 fd3 : FuncData} (F : Fun K "needed" "Box.needed" sNeed f fd) (T : Txt K mg C) (M1 : MOk P w K mg base CX0 C 3 "all_plans" ["self"] (spAll C) f1 fd1) (M2 : MOk P w K mg base CX0 C 3 "greatest" ["self", "plan"] (spGreat C) f2 fd2)
    (M3 : MOk P w K mg base CX0 C 2 "pairs_of" ["self", "plan"] (spPairs C) f3 fd3) :
    FnOk P w K mg base CX0 4 f fd ["self", "many"] (spNeed C) := by
  refine F.ok scNeed (fun vs H Q E h => ?_) (fun cdv A outer s H vs Q E hr h => ⟨_, pss_one (ps_ret (pe_callB (cr_min rfl) (by rfl) T.min (by decide +kernel) (pa_cons
      (pe_lc (own := [("plan", 2)]) (g := gName 2) (tt := tTest (tOp (rI0 fun i j => .bl (decide (j ≤ i))) (tCB (fun xs H Q => ∃ p ys, xs = [.ref p] ∧ (SqL K H p ys ∨ SqT K H p ys) ∧ Q (.int ys.length) H) (tCons (tMeth C "pairs_of" (spPairs C) [] E0 (tVar 0) (tCons (tVar 2) tNil)) tNil)) (tVar 1)))
        (te := tMeth C "greatest" (spGreat C) [] E0 (tVar 0) (tCons (tVar 2) tNil)) rfl scNeed.nd
        (pi_list (pe_meth0 (pv 0) T.cl M1.me M1.ok hr M1.bi .nil pass0)) (blkOk_by (N := ["self", "many", "plan"]) (sc := defScope sNeed) (by decide +kernel))
      (fun _ _ _ _ _ => by exact (pg_name (i := 2) scNeed.nd rfl (Or.inl rfl)))
      (fun _ _ _ _ _ => pts_one (pt_cmpR op_ge (pe_callB call_len_seq (by rfl) T.len PySem.boot_len (pa_cons (pe_meth (pv 0) T.cl M3.me M3.ok (hr.mono (by decide)) M3.bi .nil pass0 (pa_cons (pv 2) pa_nil)) pa_nil)) (pv 1) (nomark _)))
      (fun _ _ _ _ _ => pe_meth (pv 0) T.cl M2.me M2.ok hr M2.bi .nil pass0 (pa_cons (pv 2) pa_nil))) pa_nil))), ?_⟩)
  · obtain ⟨b, dx, l, r, m, many, rfl, _⟩ := h
    rfl
  · obtain ⟨b, dx, l, r, m, many, rfl, B, fine, hm1, hm2, q⟩ := h
    refine ⟨_, rfl, b, dx, _, rfl, B.ob, bF_no (by decide +kernel) (by decide +kernel) (by decide +kernel), b, dx, l, r, m, rfl, B, fine, fun H1 q1 ys s1 hq1 hl hys => ?_⟩
    refine ⟨q1, rfl, ⟨_, SqL.of hl⟩, fun D hD => lc_gen walk_list (allPlans m.none_ m.lefts.length) hys.1 (fun p => if decide (many ≤ m.pairs p) = true then some (m.worst p) else none) (fun _ v (n : Nat) => v = .int (n : Int)) (fun _ _ _ _ _ h => h)
      (all_small fine) hD (fun H2 s => s.seq (SqL.of hl)) (fun i p x H2 H3 PY PN hc s2 y okY okN => ?_) (fun H2 zs s2 hz hzs => ?_)⟩
    · obtain ⟨rfl, hx⟩ := y
      obtain ⟨a, rfl, ha⟩ := hys.2 i x p hx hc
      have B2 := (B.same s1).same s2
      have ht := told_all fine (List.mem_of_getElem? hc)
      refine ⟨rfl, _, rfl, b, dx, _, rfl, B2.ob, bF_no (by decide +kernel) (by decide +kernel) (by decide +kernel), _, rfl, b, dx, l, r, m, a, p, rfl, B2, s2 _ _ ha, ht.2.2, fun H4 q4 zs s4 hq4 hl4 hzs => ?_⟩
      refine ⟨q4, zs, rfl, .inl (SqL.of hl4), _, rfl, _, _, rfl, rfl, _, rfl, ?_⟩
      have el : (zs.length : Int) = (m.pairs p : Int) := by rw [hzs.1, pairs_count]
      rw [el]
      have B4 := B2.same s4
      by_cases e : many ≤ m.pairs p
      · refine ifT (decide_eq_true (by omega)) ?_
        refine ⟨_, rfl, b, dx, _, rfl, B4.ob, bF_no (by decide +kernel) (by decide +kernel) (by decide +kernel), _, rfl, b, dx, l, r, m, a, p, rfl, B4, s4 _ _ (s2 _ _ ha), ht, fun H5 s5 => ?_⟩
        exact okY (m.worst p) _ _ (by rw [if_pos (decide_eq_true e)]) (s4.trans s5) fun _ _ _ => rfl
      · refine ifF (decide_eq_false (by omega)) ?_
        exact okN _ (by rw [if_neg (by simpa using e)]) s4
    · rw [filterMap_both] at hzs
      have e := hzs.eq_map
      refine ⟨D, (needList m many).map fun (n : Nat) => (n : Int), rfl, SqL.of ?_, ?_, fun mm hmm hle => ?_⟩
      · rw [hz, e]
        show some (HO.lst (nats (needList m many))) = _
        rw [nats_ints]
      · rw [List.length_map]
        exact needList_ne hm1 hm2
      · obtain ⟨d, hd, rfl⟩ := List.mem_map.mp hmm
        refine q H2 d (s1.trans s2) (needs_some fine hd fun y hy => ?_)
        have : (d : Int) ≤ (y : Int) := hle _ (List.mem_map.mpr ⟨y, hy, rfl⟩)
        omega

/-! ### too_unlike, told_twice -/
def spUnl (C : Addr) : Sp := fun vs H Q _ => ∃ (b dx l r : Addr) (m : Box) (a : Addr) (p : List Nat), vs = [.ref b, .ref a] ∧ BoxAt C H b dx l r m ∧ H a = some (planO p) ∧ Told m p ∧
  ∀ (H' : Hp) (q : Addr), Same H H' → H q = none → H' q = some (planO (unlike m p)) → Q (.ref q) H'
theorem scUnl : FnScope ["self", "plan", "left", "right"] ["self", "plan"] (defScope sUnl) := ⟨rfl, rfl, rfl, by decide +kernel, rfl, by decide +kernel, by decide +kernel⟩
theorem ok_unl {f f1 f2 : Addr} {fd fd1 fd2 : FuncData} (F : Fun K "too_unlike" "Box.too_unlike" sUnl f fd) (T : Txt K mg C) (M1 : MOk P w K mg base CX0 C 1 "apart" ["self", "left", "right"] (spApart C) f1 fd1) (M2 : MOk P w K mg base CX0 C 2 "pairs_of" ["self", "plan"] (spPairs C) f2 fd2) :
    FnOk P w K mg base CX0 3 f fd ["self", "plan"] (spUnl C) := by
  refine F.ok scUnl (fun vs H Q E h => ?_) (fun cdv A outer s H vs Q E hr h => ⟨_, pss_one (ps_ret
      (pe_lc (own := [("left", 2), ("right", 3)]) (g := g2 K 2 3) (tt := tTest (tOp (rI0 fun i j => .bl (decide (j < i))) (tMeth C "apart" (spApart C) [] E0 (tVar 0) (tCons (tVar 2) (tCons (tVar 3) tNil))) (tFld K (tVar 0) "differ"))) (te := tVar 2) rfl scUnl.nd
        (pi_list (pe_meth (pv 0) T.cl M2.me M2.ok hr M2.bi .nil pass0 (pa_cons (pv 1) pa_nil))) (blkOk_by (N := ["self", "plan", "left", "right"]) (sc := defScope sUnl) (by decide +kernel))
      (fun _ _ _ _ _ => by exact (pg_tup rfl (pgs_cons (pg_name (i := 2) scUnl.nd rfl (Or.inl rfl)) (pgs_cons (pg_name (i := 3) scUnl.nd rfl (Or.inl rfl)) pgs_nil))))
      (fun _ _ _ _ _ => pts_one (pt_cmpR op_gt (pe_meth (pv 0) T.cl M1.me M1.ok (hr.mono (by decide)) M1.bi .nil pass0 (pa_cons (pv 2) (pa_cons (pv 3) pa_nil))) (pe_fld (pv 0) rfl) (nomark _)))
      (fun _ _ _ _ _ => pv 2))), ?_⟩)
  · obtain ⟨b, dx, l, r, m, a, p, rfl, _⟩ := h
    rfl
  · obtain ⟨b, dx, l, r, m, a, p, rfl, B, ha, ht, q⟩ := h
    refine ⟨_, rfl, b, dx, _, rfl, B.ob, bF_no (by decide +kernel) (by decide +kernel) (by decide +kernel), _, rfl, b, dx, l, r, m, a, p, rfl, B, ha, ht.2.2, fun H1 q1 ys s1 hq1 hl hys => ?_⟩
    refine ⟨q1, rfl, ⟨_, SqL.of hl⟩, fun D hD => lc_gen walk_list (pairsOf m.none_ p) hys.1 (fun c => if decide (m.limit < m.differ c.1 c.2) = true then some c.1 else none) (fun _ v (n : Nat) => v = .int (n : Int)) (fun _ _ _ _ _ h => h)
      (by have h1 := pairsOf_len m.none_ p; have h2 := ht.2.2; omega) hD (fun H2 s => s.seq (SqL.of hl)) (fun i c x H2 H3 PY PN hc s2 y okY okN => ?_) (fun H2 zs s2 hz hzs => ?_)⟩
    · obtain ⟨rfl, hx⟩ := y
      obtain ⟨t, rfl, ht1⟩ := hys.2 i x c hx hc
      have hm := pairsOf_mem ht.2.1 (List.mem_of_getElem? hc)
      have B2 := (B.same s1).same s2
      refine ⟨t, _, rfl, SqT.of (s2 _ _ ht1), rfl, _, _, rfl, _, _, rfl, rfl, rfl, ?_⟩
      refine ⟨_, rfl, b, dx, _, rfl, B2.ob, bF_no (by decide +kernel) (by decide +kernel) (by decide +kernel), _, rfl, _, rfl, b, dx, l, r, m, c.1, c.2, rfl, B2, by rw [← ht.1]; exact hm.1, hm.2, fun H4 s4 => ?_⟩
      have B4 := B2.same s4
      refine ⟨_, rfl, b, C, dx, _, _, rfl, B4.ob, T.cl, T.nD, bF_differ, _, _, rfl, rfl, _, rfl, ?_⟩
      by_cases e : m.limit < m.differ c.1 c.2
      · refine ifT (decide_eq_true (by omega)) ⟨_, rfl, ?_⟩
        exact okY c.1 _ _ (by rw [if_pos (decide_eq_true e)]) s4 fun _ _ _ => rfl
      · refine ifF (decide_eq_false (by omega)) ?_
        exact okN _ (by rw [if_neg (by simpa using e)]) s4
    · rw [filterMap_both] at hzs
      have e := hzs.eq_map
      refine q H2 D (s1.trans s2) (s1.free hD) (hz.trans ?_)
      rw [e]
      rfl
def spTwi (C : Addr) : Sp := fun vs H Q _ => ∃ (b dx l r : Addr) (m : Box) (a : Addr) (p : List Nat), vs = [.ref b, .ref a] ∧ BoxAt C H b dx l r m ∧ H a = some (planO p) ∧ Told m p ∧
  ∀ (H' : Hp) (q : Addr), Same H H' → H q = none → H' q = some (planO (again m p)) → Q (.ref q) H'
theorem scTwi : FnScope ["self", "plan", "left", "right"] ["self", "plan"] (defScope sTwi) := ⟨rfl, rfl, rfl, by decide +kernel, rfl, by decide +kernel, by decide +kernel⟩
theorem cut_take (p : List Nat) (i : Nat) (h : i ≤ p.length) : cutV (nats p) none (some (i : Int)) = nats (p.take i) := by
  unfold cutV
  rw [HT.sIx_nat, HT.sIx_none, nats_len]
  rw [Nat.min_eq_left h]
  simp [nats, List.map_take]
theorem ok_twi {f f2 : Addr} {fd fd2 : FuncData} (F : Fun K "told_twice" "Box.told_twice" sTwi f fd) (T : Txt K mg C) (M2 : MOk P w K mg base CX0 C 2 "pairs_of" ["self", "plan"] (spPairs C) f2 fd2) :
    FnOk P w K mg base CX0 3 f fd ["self", "plan"] (spTwi C) := by
  refine F.ok scTwi (fun vs H Q E h => ?_) (fun cdv A outer s H vs Q E hr h => ⟨_, pss_one (ps_ret
      (pe_lc (own := [("left", 2), ("right", 3)]) (g := g2 K 2 3) (tt := tTest (tOp (rIn K false) (tVar 3) (tSl (rSlL K) (tVar 1) tNoPart (tPart (tVar 2))))) (te := tVar 2) rfl scTwi.nd
        (pi_list (pe_meth (pv 0) T.cl M2.me M2.ok hr M2.bi .nil pass0 (pa_cons (pv 1) pa_nil))) (blkOk_by (N := ["self", "plan", "left", "right"]) (sc := defScope sTwi) (by decide +kernel))
      (fun _ _ _ _ _ => by exact (pg_tup rfl (pgs_cons (pg_name (i := 2) scTwi.nd rfl (Or.inl rfl)) (pgs_cons (pg_name (i := 3) scTwi.nd rfl (Or.inl rfl)) pgs_nil))))
      (fun _ _ _ _ _ => pts_one (pt_cmpR op_in_seq (pv 3) (pe_slice sl_list (pv 1) po_none (po_some (pv 2))) rfl))
      (fun _ _ _ _ _ => pv 2))), ?_⟩)
  · obtain ⟨b, dx, l, r, m, a, p, rfl, _⟩ := h
    rfl
  · obtain ⟨b, dx, l, r, m, a, p, rfl, B, ha, ht, q⟩ := h
    refine ⟨_, rfl, b, dx, _, rfl, B.ob, bF_no (by decide +kernel) (by decide +kernel) (by decide +kernel), _, rfl, b, dx, l, r, m, a, p, rfl, B, ha, ht.2.2, fun H1 q1 ys s1 hq1 hl hys => ?_⟩
    refine ⟨q1, rfl, ⟨_, SqL.of hl⟩, fun D hD => lc_gen walk_list (pairsOf m.none_ p) hys.1 (fun c => if (p.take c.1).contains c.2 = true then some c.1 else none) (fun _ v (n : Nat) => v = .int (n : Int)) (fun _ _ _ _ _ h => h)
      (by have h1 := pairsOf_len m.none_ p; have h2 := ht.2.2; omega) hD (fun H2 s => s.seq (SqL.of hl)) (fun i c x H2 H3 PY PN hc s2 y okY okN => ?_) (fun H2 zs s2 hz hzs => ?_)⟩
    · obtain ⟨rfl, hx⟩ := y
      obtain ⟨t, rfl, ht1⟩ := hys.2 i x c hx hc
      have hm := pairsOf_mem ht.2.1 (List.mem_of_getElem? hc)
      refine ⟨t, _, rfl, SqT.of (s2 _ _ ht1), rfl, _, _, rfl, _, _, rfl, rfl, rfl, ?_⟩
      refine ⟨_, rfl, _, rfl, _, rfl, _, rfl, a, _, rfl, SqL.of (s2 _ _ (s1 _ _ ha)), fun z hz => ?_⟩
      rw [cut_take p c.1 (Nat.le_of_lt hm.1)]
      refine ⟨z, _, rfl, .inl (SqL.of upd_same), rfl, nats_flat _, _, rfl, ?_⟩
      have ei := inV_nats c.2 (p.take c.1)
      have sz : Same H3 (upd H3 z (.lst (nats (p.take c.1)))) := same_new hz _
      cases e : (p.take c.1).contains c.2
      · refine ifF (by rw [if_neg (by decide), ei, e]) ?_
        exact okN _ (by rw [e]; rfl) sz
      · refine ifT (by rw [if_neg (by decide), ei, e]) ⟨_, rfl, ?_⟩
        exact okY c.1 _ _ (by rw [e]; rfl) sz fun _ _ _ => rfl
    · rw [filterMap_both] at hzs
      have e := hzs.eq_map
      refine q H2 D (s1.trans s2) (s1.free hD) (hz.trans ?_)
      rw [e]
      rfl
end
end Gp

/-! The box, the rest: __init__, put_left, put_right, by_size, plain_plan. -/
namespace Gp
open PySem PySem.Spec PyProof.Rows L2
open Si90 (Box)
section
variable {P : Program} {w : World} {K : PySem.W.Frag} {mg : Str → Option Value} {base : Heap} {C : Addr} {CX : CXT}

/-! ### __init__ -/
def spInit (C : Addr) : Sp := fun vs H Q _ => ∃ (b dx : Addr) (d : Nat), vs = [.ref b, .int (d : Int)] ∧ H b = some (.ins C dx []) ∧
  ∀ (H' : Hp) (l r : Addr), BoxAt C H' b dx l r ⟨d, [], []⟩ → l ≠ r → (∀ c o, H c = some o → c ≠ b → H' c = some o) → H l = none → H r = none → Q .non H'
theorem scInit : FnScope ["self", "differ"] ["self", "differ"] (defScope sInit) := ⟨rfl, rfl, rfl, by decide +kernel, rfl, by decide +kernel, by decide +kernel⟩
theorem bF_new (d : Nat) (l r : Addr) : putF "rights" (.ref r) (putF "lefts" (.ref l) (putF "differ" (.int (d : Int)) [])) = bF l r d :=
  (congrArg _ (put_past (by decide +kernel))).trans ((put_past (by decide +kernel)).trans (congrArg _ ((put_past (by decide +kernel)).trans rfl)))
theorem len_put (f : Str) (v : V) (fs : List (Str × V)) : (putF f v fs).length ≤ fs.length + 1 := by
  induction fs with
  | nil => simp [putF]
  | cons x fs ih =>
    obtain ⟨g, y⟩ := x
    by_cases e : g = f
    · subst e
      rw [put_here]
      simp
    · rw [put_past e]
      simp
      omega
theorem ok_init {f : Addr} {fd : FuncData} (F : Fun K "__init__" "Box.__init__" sInit f fd) (T : Txt K mg C) : FnOk P w K mg base CX0 1 f fd ["self", "differ"] (spInit C) := by
  refine F.ok scInit (fun vs H Q E h => ?_) (fun cdv A outer s H vs Q E hr h => ⟨_, pss_cons (ps_fld (pv 0) (pv 1) rfl) (pss_cons (ps_fld (pv 0) (pe_lst pa_nil) rfl) (pss_one (ps_fld (pv 0) (pe_lst pa_nil) rfl))), ?_⟩)
  · obtain ⟨b, dx, d, rfl, _⟩ := h
    rfl
  · obtain ⟨b, dx, d, rfl, hb, q⟩ := h
    refine ⟨_, rfl, _, rfl, b, C, dx, [], rfl, hb, T.cl, T.nD, (by decide), ?_⟩
    refine ⟨Nat.zero_le _, fun l hl => ?_⟩
    have lb : l ≠ b := Ne.symm (ne_of_none upd_same hl)
    have l1 : H l = none := by rw [upd_ne lb] at hl; exact hl
    refine ⟨_, rfl, b, C, dx, _, rfl, (upd_ne (Ne.symm lb)).trans upd_same, T.cl, T.nL, (by have := len_put "differ" (.int (d : Int)) []; simp at this; omega), ?_⟩
    refine ⟨Nat.zero_le _, fun r hr2 => ?_⟩
    have rb : r ≠ b := Ne.symm (ne_of_none upd_same hr2)
    rw [upd_ne rb] at hr2
    have lr : l ≠ r := ne_of_none upd_same hr2
    have r1 : H r = none := by rw [upd_ne (Ne.symm lr), upd_ne rb] at hr2; exact hr2
    refine ⟨_, rfl, b, C, dx, _, rfl, (upd_ne (Ne.symm rb)).trans upd_same, T.cl, T.nR, (by
      have h1 := len_put "differ" (.int (d : Int)) []
      have h2 := len_put "lefts" (.ref l) (putF "differ" (.int (d : Int)) [])
      simp at h1
      omega), ?_⟩
    refine q _ l r ⟨upd_same.trans (congrArg some (congrArg _ (bF_new d l r))), ?_, ?_⟩ lr (fun c o hc hcb => ?_) l1 r1
    · rw [upd_ne lb, upd_ne lr, upd_ne lb, upd_same]
      rfl
    · rw [upd_ne rb, upd_same]
      rfl
    · rw [upd_ne hcb, upd_ne (ne_of_none hc r1), upd_ne hcb, upd_ne (ne_of_none hc l1), upd_ne hcb]
      exact hc

/-! ### put_left, put_right -/
theorem BoxAt.ne {H : Hp} {b dx l r : Addr} {m : Box} (B : BoxAt C H b dx l r m) : l ≠ b ∧ r ≠ b := ⟨ne_of B.ll B.ob (by intro z; cases z), ne_of B.rr B.ob (by intro z; cases z)⟩
def spPutL (C : Addr) : Sp := fun vs H Q _ => ∃ (b dx l r : Addr) (m : Box) (v : Nat), vs = [.ref b, .int (v : Int)] ∧ BoxAt C H b dx l r m ∧ l ≠ r ∧ m.lefts.length ≤ 1000 ∧
  ∀ H' : Hp, BoxAt C H' b dx l r { m with lefts := m.lefts ++ [v] } → (∀ c o, H c = some o → c ≠ l → H' c = some o) → Q (.int (m.lefts.length : Int)) H'
def spPutR (C : Addr) : Sp := fun vs H Q _ => ∃ (b dx l r : Addr) (m : Box) (v : Nat), vs = [.ref b, .int (v : Int)] ∧ BoxAt C H b dx l r m ∧ l ≠ r ∧ m.rights.length ≤ 1000 ∧
  ∀ H' : Hp, BoxAt C H' b dx l r { m with rights := m.rights ++ [v] } → (∀ c o, H c = some o → c ≠ r → H' c = some o) → Q (.int (m.rights.length : Int)) H'
theorem scPutL : FnScope ["self", "size"] ["self", "size"] (defScope sPutL) := ⟨rfl, rfl, rfl, by decide +kernel, rfl, by decide +kernel, by decide +kernel⟩
theorem scPutR : FnScope ["self", "size"] ["self", "size"] (defScope sPutR) := ⟨rfl, rfl, rfl, by decide +kernel, rfl, by decide +kernel, by decide +kernel⟩
theorem planO_app (l : List Nat) (v : Nat) : HO.lst (nats l ++ [.int (v : Int)]) = planO (l ++ [v]) := by
  unfold planO
  rw [← nats_app]
  rfl
theorem ok_putL {f : Addr} {fd : FuncData} (F : Fun K "put_left" "Box.put_left" sPutL f fd) (T : Txt K mg C) : FnOk P w K mg base CX0 1 f fd ["self", "size"] (spPutL C) := by
  refine F.ok scPutL (fun vs H Q E h => ?_) (fun cdv A outer s H vs Q E hr h => ⟨_, pss_cons (ps_expr (pe_bm PySem.F.plainAttrs_list PySem.F.slot_list_append PySem.F.type_list_append mt_append (pe_fld (pv 0) rfl) (pa_cons (pv 1) pa_nil)))
    (pss_one (ps_ret (pe_op op_sub (pe_callB call_len_seq (by rfl) T.len PySem.boot_len (pa_cons (pe_fld (pv 0) rfl) pa_nil)) pe_int))), ?_⟩)
  · obtain ⟨b, dx, l, r, m, v, rfl, _⟩ := h
    rfl
  · obtain ⟨b, dx, l, r, m, v, rfl, B, lr, hz, q⟩ := h
    obtain ⟨lb, rb⟩ := B.ne
    refine ⟨_, rfl, b, C, dx, _, _, rfl, B.ob, T.cl, T.nL, bF_lefts, Or.inl ⟨rfl, _, SqL.of B.ll⟩, _, rfl, l, _, _, rfl, rfl, B.ll, (by rw [nats_len]; exact small10 (by omega)), ?_⟩
    have e1 : upd H l (.lst (nats m.lefts ++ [.int (v : Int)])) b = some (.ins C dx (bF l r m.limit)) := (upd_ne (Ne.symm lb)).trans B.ob
    refine ⟨_, rfl, b, C, dx, _, _, rfl, e1, T.cl, T.nL, bF_lefts, l, _, rfl, .inl (SqL.of upd_same), _, _, rfl, rfl, ?_⟩
    have e2 : (((nats m.lefts ++ [V.int (v : Int)]).length : Nat) : Int) - 1 = (m.lefts.length : Int) := by rw [List.length_append, nats_len]; simp
    show Q (V.int (((nats m.lefts ++ [V.int (v : Int)]).length : Int) - 1)) _
    rw [e2]
    exact q _ ⟨e1, upd_same.trans (congrArg some (planO_app _ _)), (upd_ne (Ne.symm lr)).trans B.rr⟩ fun c o hc hcl => (upd_ne hcl).trans hc
theorem ok_putR {f : Addr} {fd : FuncData} (F : Fun K "put_right" "Box.put_right" sPutR f fd) (T : Txt K mg C) : FnOk P w K mg base CX0 1 f fd ["self", "size"] (spPutR C) := by
  refine F.ok scPutR (fun vs H Q E h => ?_) (fun cdv A outer s H vs Q E hr h => ⟨_, pss_cons (ps_expr (pe_bm PySem.F.plainAttrs_list PySem.F.slot_list_append PySem.F.type_list_append mt_append (pe_fld (pv 0) rfl) (pa_cons (pv 1) pa_nil)))
    (pss_one (ps_ret (pe_op op_sub (pe_callB call_len_seq (by rfl) T.len PySem.boot_len (pa_cons (pe_fld (pv 0) rfl) pa_nil)) pe_int))), ?_⟩)
  · obtain ⟨b, dx, l, r, m, v, rfl, _⟩ := h
    rfl
  · obtain ⟨b, dx, l, r, m, v, rfl, B, lr, hz, q⟩ := h
    obtain ⟨lb, rb⟩ := B.ne
    refine ⟨_, rfl, b, C, dx, _, _, rfl, B.ob, T.cl, T.nR, bF_rights, Or.inl ⟨rfl, _, SqL.of B.rr⟩, _, rfl, r, _, _, rfl, rfl, B.rr, (by rw [nats_len]; exact small10 (by omega)), ?_⟩
    have e1 : upd H r (.lst (nats m.rights ++ [.int (v : Int)])) b = some (.ins C dx (bF l r m.limit)) := (upd_ne (Ne.symm rb)).trans B.ob
    refine ⟨_, rfl, b, C, dx, _, _, rfl, e1, T.cl, T.nR, bF_rights, r, _, rfl, .inl (SqL.of upd_same), _, _, rfl, rfl, ?_⟩
    have e2 : (((nats m.rights ++ [V.int (v : Int)]).length : Nat) : Int) - 1 = (m.rights.length : Int) := by rw [List.length_append, nats_len]; simp
    show Q (V.int (((nats m.rights ++ [V.int (v : Int)]).length : Int) - 1)) _
    rw [e2]
    exact q _ ⟨e1, (upd_ne lr).trans B.ll, upd_same.trans (congrArg some (planO_app _ _))⟩ fun c o hc hcl => (upd_ne hcl).trans hc

/-! ### by_size -/
def spBySz : Sp := fun vs H Q _ => ∃ (a : Addr) (sz : List Nat), vs = [.ref a] ∧ H a = some (planO sz) ∧ sz.length ≤ 1000 ∧
  ∀ (H' : Hp) (q : Addr), Same H H' → H q = none → H' q = some (planO (Si90.sorted sz)) → Q (.ref q) H'
theorem scBySz : FnScope ["sizes", "number", "size", "told"] ["sizes"] (defScope sBySz) := ⟨rfl, rfl, rfl, by decide +kernel, rfl, by decide +kernel, by decide +kernel⟩
/-- the pair of numbers that stands at a value -/
def kOf (H : Hp) (x : V) : Int × Int := match x with
  | .ref t => match H t with
    | some (.tup [.int i, .int j]) => (i, j)
    | _ => (0, 0)
  | _ => (0, 0)
theorem kOf_at {H : Hp} {x : V} {c : Nat × Nat} (h : Obj1 pairO H x c) : kOf H x = ((c.1 : Int), (c.2 : Int)) := by
  obtain ⟨t, rfl, e⟩ := h
  unfold kOf
  simp only [e, pairO]
theorem by_size_list {H : Hp} {sz : List Nat} {zs ys : List V} (hzs : All2 (Obj1 pairO H) zs ((List.range sz.length).map fun i => (sz.getD i 0, i))) (srt : SrtO.Srtd (ltP (kOf H)) ys) (perm : ys.Perm zs) :
    ys.map (fun y => (kOf H y).2.toNat) = Si90.sorted sz ∧ ∀ y ∈ ys, ∃ i, Obj1 pairO H y (sz.getD i 0, i) := by
  have each : ∀ y ∈ ys, ∃ i, Obj1 pairO H y (sz.getD i 0, i) := fun y hy => by
    obtain ⟨j, hj⟩ := List.getElem?_of_mem (perm.mem_iff.mp hy)
    obtain ⟨c, hc, h⟩ := hzs.at hj
    obtain ⟨i, _, rfl⟩ := List.mem_map.mp (List.mem_of_getElem? hc)
    exact ⟨i, h⟩
  refine ⟨sorted_unique ?_ ?_, each⟩
  · have h1 : (ys.map fun y => (kOf H y).2.toNat).Perm (zs.map fun y => (kOf H y).2.toNat) := perm.map _
    refine h1.trans (List.Perm.of_eq ?_)
    refine List.ext_getElem? fun i => ?_
    rw [List.getElem?_map]
    cases e : zs[i]? with
    | none =>
      have := List.getElem?_eq_none_iff.mp e
      have h2 := hzs.1
      simp at h2
      rw [Option.map_none, List.getElem?_eq_none (by simp; omega)]
    | some z =>
      obtain ⟨c, hc, h⟩ := hzs.at e
      rw [List.getElem?_map] at hc
      obtain ⟨j, hj, rfl⟩ := Option.map_eq_some_iff.mp hc
      rw [hj, Option.map_some, kOf_at h]
      rfl
  · refine List.pairwise_map.mpr (List.Pairwise.imp_of_mem (fun {a b} ha hb hab => ?_) srt)
    obtain ⟨i, hi⟩ := each a ha
    obtain ⟨j, hj⟩ := each b hb
    have e1 := kOf_at hi
    have e2 := kOf_at hj
    have hab' : SrtO.lexB (kOf H b) (kOf H a) = false := hab
    rw [e1, e2, ← Bool.not_eq_true, SrtO.lexB_iff] at hab'
    rw [e1, e2, leS_iff]
    dsimp only at hab' ⊢
    rw [Int.toNat_natCast, Int.toNat_natCast]
    omega
theorem ok_bySz {f : Addr} {fd : FuncData} (F : Fun K "by_size" "by_size" sBySz f fd) (T : Txt K mg C) : FnOk P w K mg base CX0 1 f fd ["sizes"] spBySz := by
  refine F.ok scBySz (fun vs H Q E h => ?_) (fun cdv A outer s H vs Q E hr h => ⟨_, pss_one (ps_ret
      (pe_lc (own := [("told", 3)]) (g := gName 3) (tt := tYes) (te := tOp (rIxT K) (tVar 3) (tC (.int 1))) rfl scBySz.nd
        (pi_list (pe_callB cr_sortedPO (by rfl) T.sorted (by decide +kernel) (pa_cons
          (pe_lc (own := [("number", 1), ("size", 2)]) (g := g2 K 1 2) (tt := tYes) (te := tTup (tCons (tVar 2) (tCons (tVar 1) tNil))) rfl scBySz.nd
            (pi_enum (by rfl) T.enum (pa_cons (pv 0) pa_nil)) (blkOk_by (N := ["sizes", "number", "size", "told"]) (sc := defScope sBySz) (by decide +kernel))
            (fun _ _ _ _ _ => by exact (pg_tup rfl (pgs_cons (pg_name (i := 1) scBySz.nd rfl (Or.inl rfl)) (pgs_cons (pg_name (i := 2) scBySz.nd rfl (Or.inl rfl)) pgs_nil))))
            (fun _ _ _ _ _ => pts_nil)
            (fun _ _ _ _ _ => pe_tup (pa_cons (pv 2) (pa_cons (pv 1) pa_nil)))) pa_nil))) (blkOk_by (N := ["sizes", "number", "size", "told"]) (sc := defScope sBySz) (by decide +kernel))
      (fun _ _ _ _ _ => by exact (pg_name (i := 3) scBySz.nd rfl (Or.inl rfl)))
      (fun _ _ _ _ _ => pts_nil)
      (fun _ _ _ _ _ => pe_ix ix_tup (pv 3) pe_int (fun _ _ => rfl)))), ?_⟩)
  · obtain ⟨a, sz, rfl, _⟩ := h
    rfl
  · obtain ⟨a, sz, rfl, ha, hz, q⟩ := h
    refine ⟨_, rfl, a, _, rfl, SqL.of ha, fun D hD => lc_gen walk_enum (List.range sz.length) (by rw [nats_len, List.length_range]) (fun i => some (sz.getD i 0, i)) (Obj1 pairO) (fun _ _ _ _ s h => h.same s)
      (by rw [List.length_range]; omega) hD (fun H1 s => s.seq (SqL.of ha)) (fun i c x H1 H2 PY PN hc s1 y okY okN => ?_) (fun H1 zs s1 hl hzs => ?_)⟩
    · obtain ⟨T1, u, v, rfl, hT, rfl, hu, hv⟩ := y
      cases hu
      obtain ⟨n, hn, rfl⟩ := nats_of hv
      obtain ⟨hi, hc⟩ := List.getElem?_eq_some_iff.mp hc
      rw [List.getElem_range] at hc
      subst hc
      have hg : sz.getD i 0 = n := by rw [List.getD_eq_getElem?_getD, hn]; rfl
      have sT : Same H1 (upd H1 T1 (.tup [.int (i : Nat), .int (n : Int)])) := same_new hT _
      refine ⟨T1, _, rfl, SqT.of upd_same, rfl, _, _, rfl, _, _, rfl, rfl, rfl, _, rfl, _, rfl, (by show 2 ≤ sizeLine; decide), fun t ht => ?_⟩
      refine okY (n, i) _ _ (by rw [hg]) (same_upd sT (sT.free ht) _) fun D' _ hD' => ⟨t, rfl, ?_⟩
      have : t ≠ D' := fun z => hD' (z ▸ sT.free ht)
      rw [del_ne this, upd_same]
      rfl
    · rw [filterMap_some] at hzs
      refine ⟨D, zs, kOf H1, rfl, SqL.of hl, fun x hx => ?_, fun ys p srt stb hp => ?_⟩
      · obtain ⟨j, hj⟩ := List.getElem?_of_mem hx
        obtain ⟨c, _, h⟩ := hzs.at hj
        have e := kOf_at h
        obtain ⟨t, rfl, ht⟩ := h
        exact ⟨t, rfl, by rw [e]; exact ht⟩
      · obtain ⟨e1, e2⟩ := by_size_list hzs srt stb.perm
        have sp : Same H1 (upd H1 p (.lst ys)) := same_new hp _
        have hlen : ys.length = (Si90.sorted sz).length := by rw [← e1, List.length_map]
        refine ⟨p, rfl, ⟨_, SqL.of upd_same⟩, fun D2 hD2 => lc_gen walk_list (Si90.sorted sz) hlen (fun i => some i) (fun _ v (n : Nat) => v = .int (n : Int)) (fun _ _ _ _ _ h => h)
          (by rw [sorted_len]; omega) hD2 (fun H2 s => s.seq (SqL.of upd_same)) (fun i c x H2 H3 PY PN hc s2 y okY okN => ?_) (fun H2 us s2 hu hus => ?_)⟩
        · obtain ⟨rfl, hx⟩ := y
          obtain ⟨i0, t, rfl, ht⟩ := e2 x (List.mem_of_getElem? hx)
          have ec : c = i0 := by
            have e3 : (ys.map fun y => (kOf H1 y).2.toNat)[i]? = some c := by rw [e1]; exact hc
            rw [List.getElem?_map, hx, Option.map_some, kOf_at ⟨t, rfl, ht⟩] at e3
            have := Option.some.inj e3
            simpa using this.symm
          subst ec
          refine ⟨rfl, _, rfl, t, _, _, _, rfl, rfl, SqT.of (s2 _ _ (sp _ _ ht)), at_of (j := 1) rfl rfl, ?_⟩
          exact okY c _ _ rfl (Same.refl _) fun _ _ _ => rfl
        · have e := hus.eq_map
          rw [filterMap_some] at e
          refine q H2 D2 ((s1.trans sp).trans s2) ((s1.trans sp).free hD2) (hu.trans ?_)
          rw [e]
          simp [planO, nats]
end
end Gp

/-! plain_plan. -/
namespace Gp
open PySem PySem.Spec PyProof.Rows L2
open Si90 (Box)
/-- a def of the module that keeps its promise -/
structure GOk (P : Program) (w : World) (K : PySem.W.Frag) (mg : Str → Option Value) (base : Heap) (CX : CXT) (x : Str) (k : Nat) (ps : List Str) (sp : Sp) (f : Addr) (fd : FuncData) : Prop where
  gl : mg x = some (.ref f)
  kp : PySem.W.keepIn K (.ref f) = true
  ok : FnOk P w K mg base CX k f fd ps sp
  bi : Binds K fd ps []
section
variable {P : Program} {w : World} {K : PySem.W.Frag} {mg : Str → Option Value} {base : Heap} {C : Addr} {CX : CXT}
def spPlain (C : Addr) : Sp := fun vs H Q _ => ∃ (b dx l r : Addr) (m : Box), vs = [.ref b] ∧ BoxAt C H b dx l r m ∧ Fine m ∧
  ∀ (H' : Hp) (q : Addr), Same H H' → H q = none → H' q = some (planO m.plain) → Q (.ref q) H'
theorem scPlain : FnScope ["box", "lefts", "rights", "found", "left", "right", "is_pair", "is_left_less"] ["box"] (defScope sPlain) := ⟨rfl, rfl, rfl, by decide +kernel, rfl, by decide +kernel, by decide +kernel⟩
theorem dp_plan {H : Hp} {a : Addr} {p : List Nat} (h : H a = some (planO p)) : Dp K H (.ref a) (.list (p.map fun (n : Nat) => .int (n : Int))) := by
  refine Dp.lst (SqL.of h) ?_
  clear h
  induction p with
  | nil => exact .nil
  | cons n p ih => exact .cons (.int _) ih
theorem lay_plan (p : List Nat) : PyData.canLayAll0 (p.map fun (n : Nat) => PyData.int (n : Int)) = true := by
  induction p with
  | nil => rfl
  | cons n p ih =>
    rw [List.map_cons, PyData.canLayAll0, ih]
    rfl
theorem depth_plan (p : List Nat) : PyData.depthAll (p.map fun (n : Nat) => PyData.int (n : Int)) = 0 := by
  induction p with
  | nil => rfl
  | cons n p ih =>
    rw [List.map_cons, PyData.depthAll, ih]
    rfl
theorem shaped_plan (p : List Nat) : SeqAt.shaped (.list (p.map fun (n : Nat) => PyData.int (n : Int))) = true := by
  unfold SeqAt.shaped
  rw [PyData.depth, depth_plan, PyData.canLay0, lay_plan]
  rfl
theorem ne_nil (p : List Nat) : (!PyData.eqv (.list (p.map fun (n : Nat) => PyData.int (n : Int))) (.list [])) = !p.isEmpty := by
  cases p with
  | nil => simp [PyData.eqv, PyData.eqvAll]
  | cons n p => simp [PyData.eqv, PyData.eqvAll]
theorem cut_tail (n : Nat) (p : List Nat) : HO.lst (cutV (nats (n :: p)) (some 1) none) = planO p := by
  unfold cutV
  have e : HT.sIx (nats (n :: p)).length 0 (some 1) = 1 := by
    have := HT.sIx_nat (nats (n :: p)).length 0 1
    rw [nats_len] at this ⊢
    rw [show ((1 : Nat) : Int) = 1 from rfl] at this
    rw [this]
    simp
  rw [e, HT.sIx_none, nats_len]
  unfold planO
  congr 1
  show ((nats p)).take ((n :: p).length - 1) = nats p
  rw [List.length_cons, Nat.add_sub_cancel, ← nats_len p, List.take_length]
theorem nats_set (l : List Nat) (i k : Nat) : (nats l).set i (.int (k : Int)) = nats (l.set i k) := by
  unfold nats
  rw [List.map_set]
theorem fill_more (n z : Nat) (Pp : List (Nat × Nat)) (i k : Nat) : fill n z (Pp ++ [(i, k)]) = (fill n z Pp).set i k := by
  unfold fill
  rw [List.foldl_append]
  rfl
/-- between two turns -/
structure PInv (C : Addr) (m : Box) (H : Hp) (n : Nat) (H' : Hp) (L R F : Addr) (ls rs : List Nat) (Pp : List (Nat × Nat)) (f : Nat) : Prop where
  sm : Same H H'
  nF : H F = none
  FL : F ≠ L
  FR : F ≠ R
  hL : H' L = some (planO ls)
  hR : H' R = some (planO rs)
  hF : H' F = some (planO (fill m.lefts.length m.none_ Pp))
  lt : ∀ i ∈ ls, i < m.lefts.length
  rt : ∀ k ∈ rs, k < m.rights.length
  fu : ls.length + rs.length ≤ f
  eq : plainPairs m = Pp ++ m.plainFrom f ls rs
  me : n = ls.length + rs.length
theorem PInv.same {m : Box} {H : Hp} {n : Nat} {H1 H2 : Hp} {L R F : Addr} {ls rs : List Nat} {Pp : List (Nat × Nat)} {f : Nat} (I : PInv C m H n H1 L R F ls rs Pp f) (s : Same H1 H2) : PInv C m H n H2 L R F ls rs Pp f :=
  ⟨I.sm.trans s, I.nF, I.FL, I.FR, s _ _ I.hL, s _ _ I.hR, s _ _ I.hF, I.lt, I.rt, I.fu, I.eq, I.me⟩
theorem PInv.pair {m : Box} {H : Hp} {n : Nat} {H1 H3 : Hp} {L R F L' R' : Addr} {i k : Nat} {ls rs : List Nat} {Pp : List (Nat × Nat)} {f : Nat} (I : PInv C m H n H1 L R F (i :: ls) (k :: rs) Pp f) (hd : m.differ i k ≤ m.limit)
    (s : Same H H3) (hF : H3 F = some (planO ((fill m.lefts.length m.none_ Pp).set i k))) (hL : H3 L' = some (planO ls)) (hR : H3 R' = some (planO rs)) (FL : F ≠ L') (FR : F ≠ R') :
    PInv C m H (ls.length + rs.length) H3 L' R' F ls rs (Pp ++ [(i, k)]) (f - 1) ∧ ls.length + rs.length < n := by
  have h1 := I.fu
  have h2 := I.me
  simp only [List.length_cons] at h1 h2
  refine ⟨⟨s, I.nF, FL, FR, hL, hR, by rw [fill_more]; exact hF, fun j hj => I.lt j (by simp [hj]), fun j hj => I.rt j (by simp [hj]), by omega, ?_, rfl⟩, by omega⟩
  have e := I.eq
  obtain ⟨g, rfl⟩ : ∃ g, f = g + 1 := ⟨f - 1, by omega⟩
  rw [plain_step, if_pos hd] at e
  rw [e, Nat.add_sub_cancel, List.append_assoc]
  rfl
theorem PInv.left {m : Box} {H : Hp} {n : Nat} {H1 H3 : Hp} {L R F L' : Addr} {i k : Nat} {ls rs : List Nat} {Pp : List (Nat × Nat)} {f : Nat} (I : PInv C m H n H1 L R F (i :: ls) (k :: rs) Pp f) (hd : ¬ m.differ i k ≤ m.limit) (hlt : m.left i < m.right_ k)
    (s : Same H1 H3) (hL : H3 L' = some (planO ls)) (FL : F ≠ L') :
    PInv C m H (ls.length + (k :: rs).length) H3 L' R F ls (k :: rs) Pp (f - 1) ∧ ls.length + (k :: rs).length < n := by
  have h1 := I.fu
  have h2 := I.me
  simp only [List.length_cons] at h1 h2 ⊢
  refine ⟨⟨I.sm.trans s, I.nF, FL, I.FR, hL, s _ _ I.hR, s _ _ I.hF, fun j hj => I.lt j (by simp [hj]), I.rt, by simp only [List.length_cons]; omega, ?_, rfl⟩, by omega⟩
  have e := I.eq
  obtain ⟨g, rfl⟩ : ∃ g, f = g + 1 := ⟨f - 1, by omega⟩
  rw [plain_step, if_neg hd, if_pos hlt] at e
  rw [e, Nat.add_sub_cancel]
theorem PInv.right {m : Box} {H : Hp} {n : Nat} {H1 H3 : Hp} {L R F R' : Addr} {i k : Nat} {ls rs : List Nat} {Pp : List (Nat × Nat)} {f : Nat} (I : PInv C m H n H1 L R F (i :: ls) (k :: rs) Pp f) (hd : ¬ m.differ i k ≤ m.limit) (hlt : ¬ m.left i < m.right_ k)
    (s : Same H1 H3) (hR : H3 R' = some (planO rs)) (FR : F ≠ R') :
    PInv C m H ((i :: ls).length + rs.length) H3 L R' F (i :: ls) rs Pp (f - 1) ∧ (i :: ls).length + rs.length < n := by
  have h1 := I.fu
  have h2 := I.me
  simp only [List.length_cons] at h1 h2 ⊢
  refine ⟨⟨I.sm.trans s, I.nF, I.FL, FR, s _ _ I.hL, hR, s _ _ I.hF, I.lt, fun j hj => I.rt j (by simp [hj]), by simp only [List.length_cons]; omega, ?_, rfl⟩, by omega⟩
  have e := I.eq
  obtain ⟨g, rfl⟩ : ∃ g, f = g + 1 := ⟨f - 1, by omega⟩
  rw [plain_step, if_neg hd, if_neg hlt] at e
  rw [e, Nat.add_sub_cancel]
theorem PInv.fin {m : Box} {H : Hp} {n : Nat} {H1 : Hp} {L R F : Addr} {ls rs : List Nat} {Pp : List (Nat × Nat)} {f : Nat} (I : PInv C m H n H1 L R F ls rs Pp f) (h : ls = [] ∨ rs = []) : H1 F = some (planO m.plain) := by
  have e := I.eq
  have z : m.plainFrom f ls rs = [] := by
    rcases h with rfl | rfl
    · exact plain_nil_l m f rs
    · exact plain_nil_r m f ls
  rw [z, List.append_nil] at e
  rw [← plain_fill, e]
  exact I.hF
/-- the while's word -/
def PWord (C : Addr) (m : Box) (H : Hp) (b : Addr) (n : Nat) (σ : L2.St) (H' : Hp) : Prop := ∃ (L R F : Addr) (ls rs : List Nat) (Pp : List (Nat × Nat)) (fu : Nat) (v4 v5 v6 v7 : Option V), σ = [some (.ref b), some (.ref L), some (.ref R), some (.ref F), v4, v5, v6, v7] ∧ PInv C m H n H' L R F ls rs Pp fu
theorem ixN_nat {n i : Nat} (h : i < n) : ixN n (i : Int) = some i := by
  unfold ixN
  rw [if_pos (by omega), if_pos (by omega)]
  simp
theorem ok_plain {f f1 f2 f3 : Addr} {fd fd1 fd2 fd3 : FuncData} (F : Fun K "plain_plan" "plain_plan" sPlain f fd) (T : Txt K mg C) (G : GOk P w K mg base CX0 "by_size" 1 ["sizes"] spBySz f1 fd1)
    (M2 : MOk P w K mg base CX0 C 1 "none" ["self"] (spNone C) f2 fd2) (M3 : MOk P w K mg base CX0 C 1 "apart" ["self", "left", "right"] (spApart C) f3 fd3) :
    FnOk P w K mg base CX0 2 f fd ["box"] (spPlain C) := by
  refine F.ok scPlain (fun vs H Q E h => ?_) (fun cdv A outer s H vs Q E hr h => ⟨_, pss_cons (ps_set (i := 1) scPlain.nd rfl (Or.inl rfl) (pe_call G.ok hr rfl G.gl G.kp G.bi .nil pass0 (pa_cons (pe_fld (pv 0) rfl) pa_nil)))
    (pss_cons (ps_set (i := 2) scPlain.nd rfl (Or.inl rfl) (pe_call G.ok hr rfl G.gl G.kp G.bi .nil pass0 (pa_cons (pe_fld (pv 0) rfl) pa_nil)))
    (pss_cons (ps_set (i := 3) scPlain.nd rfl (Or.inl rfl) (pe_op op_rep (pe_lst (pa_cons (pe_meth0 (pv 0) T.cl M2.me M2.ok hr M2.bi .nil pass0) pa_nil)) (pe_callB call_len_seq (by rfl) T.len PySem.boot_len (pa_cons (pv 1) pa_nil))))
    (pss_cons (ps_while PassesOwn.never (PW.pt (pw_and (pt_cmpR (op_neD hr.units) (pv 1) (pe_lst pa_nil) (nomark _)) (pw_and1 (pt_cmpR (op_neD hr.units) (pv 2) (pe_lst pa_nil) (nomark _)))))
      (pss_cons (ps_par (i := 4) (j := 5) rfl scPlain.nd rfl rfl (by decide) rfl rfl (pa_cons (pe_ix ix_list (pv 1) pe_int (fun _ _ => rfl)) (pa_cons (pe_ix ix_list (pv 2) pe_int (fun _ _ => rfl)) pa_nil)) rfl)
      (pss_cons (ps_set (i := 6) scPlain.nd rfl (Or.inl rfl) (pe_cmpR op_le (pe_meth (pv 0) T.cl M3.me M3.ok hr M3.bi .nil pass0 (pa_cons (pv 4) (pa_cons (pv 5) pa_nil))) (pe_fld (pv 0) rfl) (nomark _)))
      (pss_cons (ps_set (i := 7) scPlain.nd rfl (Or.inl rfl) (pe_cmpR op_lt (pe_ix ix_list (pe_fld (pv 0) rfl) (pv 4) (fun _ _ => rfl)) (pe_ix ix_list (pe_fld (pv 0) rfl) (pv 5) (fun _ _ => rfl)) (nomark _)))
      (pss_cons (ps_if (pt_val (pv 6)) (pss_one (ps_asg (pv 5) (pg_sub (pv 3) (pv 4) set_list))) pss_nil)
      (pss_cons (ps_if (PW.pt (pw_or (pt_val (pv 6)) (pw_or1 (pt_val (pv 7))))) (pss_one (ps_set (i := 1) scPlain.nd rfl (Or.inl rfl) (pe_slice sl_list (pv 1) (po_some pe_int) po_none))) pss_nil)
      (pss_one (ps_if (PW.pt (pw_or (pt_val (pv 6)) (pw_or1 (pt_not (pt_val (pv 7)))))) (pss_one (ps_set (i := 2) scPlain.nd rfl (Or.inl rfl) (pe_slice sl_list (pv 2) (po_some pe_int) po_none))) pss_nil))))))))
    (pss_one (ps_ret (pv 3)))))), ?_⟩)
  · obtain ⟨b, dx, l, r, m, rfl, _⟩ := h
    rfl
  · obtain ⟨b, dx, l, r, m, rfl, B, fine, q⟩ := h
    have hl5 := fine.nl
    have hr5 := fine.nr
    refine ⟨_, rfl, b, C, dx, _, _, rfl, B.ob, T.cl, T.nL, bF_lefts, l, m.lefts, rfl, B.ll, by omega, fun H1 L0 s1 hL0 hL1 => ?_⟩
    have B1 := B.same s1
    refine ⟨_, rfl, b, C, dx, _, _, rfl, B1.ob, T.cl, T.nR, bF_rights, r, m.rights, rfl, B1.rr, by omega, fun H2 R0 s2 hR0 hR2 => ?_⟩
    have B2 := B1.same s2
    refine ⟨_, rfl, b, dx, _, rfl, B2.ob, bF_no (by decide +kernel) (by decide +kernel) (by decide +kernel), b, dx, l, r, m, rfl, B2, fun H3 s3 => ⟨(by show 1 ≤ sizeLine; decide), fun z hz => ?_⟩⟩
    have s03 : Same H H3 := (s1.trans s2).trans s3
    have sz : Same H3 (upd H3 z (.lst [.int (m.none_ : Int)])) := same_new hz _
    refine ⟨_, rfl, L0, _, rfl, .inl (SqL.of (sz _ _ (s3 _ _ (s2 _ _ hL1)))), ?_⟩
    have e0 : (nats (Si90.sorted m.lefts)).length = m.lefts.length := by rw [nats_len, sorted_len]
    rw [e0]
    refine ⟨z, (m.lefts.length : Int), _, rfl, rfl, upd_same, by omega, by omega, (by rw [Int.toNat_natCast]; refine Nat.le_of_lt (small10 ?_); simp; omega), fun F0 hF0 => ?_⟩
    have s4 : Same H (upd H3 z (.lst [.int (m.none_ : Int)])) := s03.trans sz
    have sF := same_new (D := F0) hF0 (.lst ((List.replicate (m.lefts.length : Int).toNat [V.int (m.none_ : Int)]).flatten))
    have hLx : upd H3 z (.lst [.int (m.none_ : Int)]) L0 = some (planO (Si90.sorted m.lefts)) := sz _ _ (s3 _ _ (s2 _ _ hL1))
    have hRx : upd H3 z (.lst [.int (m.none_ : Int)]) R0 = some (planO (Si90.sorted m.rights)) := sz _ _ (s3 _ _ hR2)
    refine ⟨PWord C m H b,
      ⟨_, L0, R0, F0, Si90.sorted m.lefts, Si90.sorted m.rights, [], m.lefts.length + m.rights.length, none, none, none, none, rfl,
        ⟨s4.trans sF, s4.free hF0, Ne.symm (ne_of_none hLx hF0), Ne.symm (ne_of_none hRx hF0), sF _ _ hLx, sF _ _ hRx, ?_, fun i hi => sorted_lt hi, fun k hk => sorted_lt hk, by rw [sorted_len, sorted_len]; omega, rfl, rfl⟩⟩, ?_⟩
    · rw [upd_same, Int.toNat_natCast, List.flatten_replicate_singleton]
      simp [planO, nats, fill]
    · rintro n σ H' ⟨L, R, F, ls, rs, Pp, fu, v4, v5, v6, v7, rfl, I⟩
      refine ⟨_, rfl, Nat.zero_le _, fun z1 hz1 => ⟨_, _, dp_plan ((same_new hz1 _) _ _ I.hL), Dp.lst (SqL.of upd_same) .nil, shaped_plan ls, rfl, _, rfl, ?_⟩⟩
      have I1 := I.same (same_new hz1 (.lst []))
      cases ls with
      | nil =>
        refine ifF (by rw [ne_nil]; rfl) ?_
        exact ⟨_, rfl, q _ F I1.sm I1.nF (I1.fin (.inl rfl))⟩
      | cons i ls =>
        refine ifT (by rw [ne_nil]; rfl) ?_
        refine ⟨_, rfl, Nat.zero_le _, fun z2 hz2 => ⟨_, _, dp_plan ((same_new hz2 _) _ _ I1.hR), Dp.lst (SqL.of upd_same) .nil, shaped_plan rs, rfl, _, rfl, ?_⟩⟩
        have I2 := I1.same (same_new hz2 (.lst []))
        generalize upd (upd H' z1 (.lst [])) z2 (.lst []) = Ha at I2 ⊢
        clear hz2 hz1 I1 I
        cases rs with
        | nil =>
          rw [ne_nil]
          exact ⟨_, rfl, q _ F I2.sm I2.nF (I2.fin (.inr rfl))⟩
        | cons k rs =>
          rw [ne_nil]
          have hi : i < m.lefts.length := I2.lt i (by simp)
          have hk : k < m.rights.length := I2.rt k (by simp)
          have Ba := B.same I2.sm
          refine ⟨fun σ' H' => ∃ m', m' < n ∧ PWord C m H b m' σ' H', fun _ _ h => h, ?_⟩
          refine ⟨_, rfl, L, _, _, _, rfl, rfl, SqL.of I2.hL, at_of (j := 0) rfl rfl, _, rfl, R, _, _, _, rfl, rfl, SqL.of I2.hR, at_of (j := 0) rfl rfl, _, _, rfl, ?_⟩
          refine ⟨_, rfl, b, dx, _, rfl, Ba.ob, bF_no (by decide +kernel) (by decide +kernel) (by decide +kernel), _, rfl, _, rfl, b, dx, l, r, m, i, k, rfl, Ba, hi, hk, fun Hb sb => ?_⟩
          have Bb := Ba.same sb
          have Ib := I2.same sb
          refine ⟨_, rfl, b, C, dx, _, _, rfl, Bb.ob, T.cl, T.nD, bF_differ, _, _, rfl, rfl, ?_⟩
          refine ⟨_, rfl, b, C, dx, _, _, rfl, Bb.ob, T.cl, T.nL, bF_lefts, _, rfl, l, _, _, _, rfl, rfl, SqL.of Bb.ll, atI_nat (nats_get (getD_some hi)), ?_⟩
          refine ⟨_, rfl, b, C, dx, _, _, rfl, Bb.ob, T.cl, T.nR, bF_rights, _, rfl, r, _, _, _, rfl, rfl, SqL.of Bb.rr, atI_nat (nats_get (getD_some hk)), _, _, rfl, rfl, ?_⟩
          refine ⟨_, rfl, _, rfl, ?_⟩
          by_cases hd : m.differ i k ≤ m.limit
          · refine ifT (decide_eq_true (by omega)) ?_
            have hlen : (nats (fill m.lefts.length m.none_ Pp)).length = m.lefts.length := by
              rw [nats_len]
              unfold fill
              rw [fill_len, List.length_replicate]
            refine ⟨_, rfl, _, rfl, _, rfl, F, _, _, i, rfl, rfl, Ib.hF, (by rw [hlen]; exact ixN_nat hi), ?_⟩
            rw [nats_set]
            have hFL : F ≠ L := Ib.FL
            have hFR : F ≠ R := Ib.FR
            have hLc : upd Hb F (.lst (nats ((fill m.lefts.length m.none_ Pp).set i k))) L = some (planO (i :: ls)) := (upd_ne (Ne.symm hFL)).trans Ib.hL
            have hRc : upd Hb F (.lst (nats ((fill m.lefts.length m.none_ Pp).set i k))) R = some (planO (k :: rs)) := (upd_ne (Ne.symm hFR)).trans Ib.hR
            have hFc : upd Hb F (.lst (nats ((fill m.lefts.length m.none_ Pp).set i k))) F = some (planO ((fill m.lefts.length m.none_ Pp).set i k)) := upd_same
            have sc : Same H (upd Hb F (.lst (nats ((fill m.lefts.length m.none_ Pp).set i k)))) := same_upd Ib.sm Ib.nF _
            generalize upd Hb F (.lst (nats ((fill m.lefts.length m.none_ Pp).set i k))) = Hc at hLc hRc hFc sc ⊢
            refine ⟨_, rfl, _, rfl, ?_⟩
            refine ifT (decide_eq_true (by omega)) ?_
            refine ⟨_, rfl, _, rfl, L, _, rfl, SqL.of hLc, fun p1 hp1 => ?_⟩
            have s1' := same_new hp1 (.lst (cutV (nats (i :: ls)) (some 1) none))
            refine ⟨_, rfl, _, rfl, ?_⟩
            refine ifT (decide_eq_true (by omega)) ?_
            refine ⟨_, rfl, _, rfl, R, _, rfl, SqL.of (s1' _ _ hRc), fun p2 hp2 => ?_⟩
            have s2' := same_new hp2 (.lst (cutV (nats (k :: rs)) (some 1) none))
            obtain ⟨J, hlt⟩ := Ib.pair hd ((sc.trans s1').trans s2') (s2' _ _ (s1' _ _ hFc)) (s2' _ _ (upd_same.trans (congrArg some (cut_tail i ls)))) (upd_same.trans (congrArg some (cut_tail k rs))) (ne_of_none hFc hp1) (ne_of_none (s1' _ _ hFc) hp2)
            exact ⟨_, hlt, p1, p2, F, ls, rs, _, _, _, _, _, _, rfl, J⟩
          · refine ifF (decide_eq_false (by omega)) ?_
            refine ⟨_, rfl, _, rfl, ?_⟩
            refine ifF (decide_eq_false (by omega)) ?_
            refine ⟨_, rfl, _, rfl, ?_⟩
            by_cases hlt : m.left i < m.right_ k
            · refine ifT (decide_eq_true (by unfold Box.left Box.right_ at hlt; omega)) ?_
              refine ⟨_, rfl, _, rfl, L, _, rfl, SqL.of Ib.hL, fun p1 hp1 => ?_⟩
              have s1' := same_new hp1 (.lst (cutV (nats (i :: ls)) (some 1) none))
              refine ⟨_, rfl, _, rfl, ?_⟩
              refine ifF (decide_eq_false (by omega)) ?_
              refine ⟨_, rfl, _, rfl, ?_⟩
              refine ifF (by rw [decide_eq_true (by unfold Box.left Box.right_ at hlt; omega)]; rfl) ?_
              obtain ⟨J, hm⟩ := Ib.left hd hlt s1' (upd_same.trans (congrArg some (cut_tail i ls))) (ne_of_none Ib.hF hp1)
              exact ⟨_, hm, p1, R, F, ls, k :: rs, _, _, _, _, _, _, rfl, J⟩
            · refine ifF (decide_eq_false (by unfold Box.left Box.right_ at hlt; omega)) ?_
              refine ⟨_, rfl, _, rfl, ?_⟩
              refine ifF (decide_eq_false (by omega)) ?_
              refine ⟨_, rfl, _, rfl, ?_⟩
              refine ifT (by rw [decide_eq_false (by unfold Box.left Box.right_ at hlt; omega)]; rfl) ?_
              refine ⟨_, rfl, _, rfl, R, _, rfl, SqL.of Ib.hR, fun p2 hp2 => ?_⟩
              have s2' := same_new hp2 (.lst (cutV (nats (k :: rs)) (some 1) none))
              obtain ⟨J, hm⟩ := Ib.right hd hlt s2' (upd_same.trans (congrArg some (cut_tail k rs))) (ne_of_none Ib.hF hp2)
              exact ⟨_, hm, L, p2, F, i :: ls, rs, _, _, _, _, _, _, rfl, J⟩
end
end Gp

/-! The refusal, want, want_none; the desk's __init__, begins, put_left, put_right. -/
namespace Gp
open PySem PySem.Spec PyProof.Rows L2
open Si90 (Box)
abbrev sRI : Stmt := inClass (top 12) 0
abbrev sWant : Stmt := top 13
abbrev sWantN : Stmt := top 14
abbrev sDInit : Stmt := inClass (top 15) 0
abbrev sBegins : Stmt := inClass (top 15) 1
abbrev sDPutL : Stmt := inClass (top 15) 2
abbrev sDPutR : Stmt := inClass (top 15) 3
abbrev sCheck : Stmt := inClass (top 15) 4
abbrev sDBest : Stmt := inClass (top 15) 5
abbrev sDPlain : Stmt := inClass (top 15) 6
abbrev sNeeds : Stmt := inClass (top 15) 7
abbrev sOf : Stmt := inClass (top 15) 8
abbrev sAnswer : Stmt := inClass (top 15) 9
abbrev sAnswers : Stmt := top 16

/-- what the top has written of the refusal's class -/
structure RTxt (K : PySem.W.Frag) (mg : Str → Option Value) (CR fRI : Addr) : Prop where
  gRef : mg "Refused" = some (.ref CR)
  ox : OexC K CR
  xf : XfC K CR
  noT : PySem.W.findIn K (.ref CR) "told" = some none
  iC : PySem.W.findIn K (.ref CR) "__init__" = some (some (.ref fRI))
  tI : PySem.W.typeIn K (.ref fRI) = some (.type "function")
  te : PySem.W.exmOne K (.ref CR) (.ref CR) = some true
  mVE : mg "ValueError" = none
  vV : PySem.W.findCls K (.type "ValueError") (.type "type") "__init__" = some (.val (.builtin "ValueError.__init__"))
/-- what the top has written of the desk -/
structure DTxt (K : PySem.W.Frag) (mg : Str → Option Value) (CD : Addr) : Prop where
  cl : Cls K CD
  nB : NoAttr K CD "box"
  bad : ∃ t, mg "BAD" = some (.int (-1) t)
  full : ∃ t, mg "FULL" = some (.int (-5) t)
  unl : ∃ t, mg "TOO_UNLIKE" = some (.int (-6) t)
  few : ∃ t, mg "TOO_FEW" = some (.int (-6) t)
  twi : ∃ t, mg "TOLD_TWICE" = some (.int (-7) t)
  most : ∃ t, mg "MOST_SIZE" = some (.int 1000 t)
  gloves : ∃ t, mg "MOST_GLOVES" = some (.int 5 t)

/-- a refusal leaves: its numbers in a new list, all else as it was -/
def Er (CR : Addr) (H : Hp) (rs : List Int) (E : XK) : Prop := ∀ (d t : Addr) (H' : Hp), Same H H' → H d = none → H t = none → H' d = some (.xd [("told", .ref t)]) → H' t = some (.lst (rs.map V.int)) → E (.ref CR) (some d) H'
theorem Er.same {CR : Addr} {H H1 : Hp} {rs : List Int} {E : XK} (h : Er CR H rs E) (s : Same H H1) : Er CR H1 rs E := fun d t H' s' hd ht e1 e2 => h d t H' (s.trans s') (s.free hd) (s.free ht) e1 e2

section
variable {P : Program} {w : World} {K : PySem.W.Frag} {mg : Str → Option Value} {base : Heap} {CD C CR fRI : Addr} {CX : CXT}
/-- how a def's own errors leave -/
theorem leaves {X : Cx} {E : XK} (tk : Takes X fun cls d _ H => E cls d H) : Passes (L2.CX X.prog X.w) X E := passes_call tk fun _ _ _ _ h => h

/-- a number of the module -/
theorem pe_gi {X : Cx} {x : Str} {i : Int} {t : Tok} {pos : Pos} (hg : Gl X x) (hm : X.mg x = some (.int i t)) (hd : (x == ("__debug__" : Str)) = false := by decide) : PE X (.Name x pos) (tC (.int i)) := pe_glob hg hm ⟨t, rfl⟩ hd

/-! ### Refused.__init__ -/
def spRI (CR : Addr) : Sp := fun vs H Q _ => ∃ (a t : Addr), vs = [.ref a, .ref t] ∧ H a = some (exo a CR none) ∧ ∀ dx, H dx = none → dx ≠ a → Q .non (upd (upd H dx (exd dx [("told", .ref t)])) a (exo a CR (some dx)))
theorem scRI : FnScope ["self", "told"] ["self", "told"] (defScope sRI) := ⟨rfl, rfl, rfl, by decide +kernel, rfl, by decide +kernel, by decide +kernel⟩
theorem ok_RI {f : Addr} {fd : FuncData} (F : Fun K "__init__" "Refused.__init__" sRI f fd) (R : RTxt K mg CR fRI) : FnOk P w K mg base CX0 1 f fd ["self", "told"] (spRI CR) := by
  refine F.ok scRI (fun vs H Q E h => ?_) (fun cdv A outer s H vs Q E hr h => ⟨_, pss_cons (ps_expr (pe_veinit (by rfl) R.mVE R.vV (pa_cons (pv 0) (pa_cons pe_str pa_nil)))) (pss_one (ps_ost (pv 0) (pv 1))), ?_⟩)
  · obtain ⟨a, t, rfl, _⟩ := h
    rfl
  · obtain ⟨a, t, rfl, ha, q⟩ := h
    refine ⟨_, rfl, a, CR, _, rfl, (by decide), R.ox, ha, ?_⟩
    exact ⟨_, rfl, _, rfl, a, CR, rfl, R.ox, R.noT, .inl ⟨ha, fun dx hd ne => q dx hd ne⟩⟩

/-! ### want -/
def spWant (CR : Addr) : Sp := fun vs H Q E => ∃ (g : Bool) (r : Int), vs = [.bl g, .int r] ∧ (g = true → ∀ H', Same H H' → Q .non H') ∧ (g = false → Er CR H [r] E)
theorem scWant : FnScope ["good", "refusal"] ["good", "refusal"] (defScope sWant) := ⟨rfl, rfl, rfl, by decide +kernel, rfl, by decide +kernel, by decide +kernel⟩
/-- the refusal's making, once its list is laid -/
theorem refuse_read {H : Hp} {E : XK} {rs : List Int} {t a : Addr} (h : Er CR H rs E) (ht : H t = none) (ha : upd H t (.lst (rs.map V.int)) a = none) :
    spRI CR (.ref a :: ([.ref t] ++ [])) (upd (upd H t (.lst (rs.map V.int))) a (exo a CR none)) (fun v H2 => v = .non ∧ ∃ (d : Addr) (fs : List (Str × V)), H2 a = some (exo a CR (some d)) ∧ H2 d = some (exd d fs) ∧ upd H t (.lst (rs.map V.int)) d = none ∧ E (.ref CR) (some d) (upd (del H2 a) d (.xd fs))) (fun _ _ _ => False) := by
  have s1 : Same H (upd H t (.lst (rs.map V.int))) := same_new ht _
  have ta : t ≠ a := ne_of_none (o := .lst (rs.map V.int)) upd_same ha
  refine ⟨a, t, rfl, upd_same, fun dx hd ne => ⟨rfl, dx, _, upd_same, (upd_ne ne).trans upd_same, ?_, ?_⟩⟩
  · rw [upd_ne ne] at hd
    exact hd
  · rw [upd_ne ne] at hd
    have tdx : t ≠ dx := ne_of_none (o := .lst (rs.map V.int)) upd_same hd
    refine h dx t _ (fun b o hb => ?_) (s1.free hd) ht upd_same ?_
    · have b1 := ne_of_none (s1 b o hb) hd
      have b2 := ne_of_none (s1 b o hb) ha
      rw [upd_ne b1, del_ne b2, upd_ne b2, upd_ne b1, upd_ne b2]
      exact s1 b o hb
    · rw [upd_ne tdx, del_ne ta, upd_ne ta, upd_ne tdx, upd_ne ta, upd_same]
theorem ok_want {f : Addr} {fd fd1 : FuncData} (F : Fun K "want" "want" sWant f fd) (R : RTxt K mg CR fRI) (F1 : FnOk P w K mg base CX0 1 fRI fd1 ["self", "told"] (spRI CR)) (B1 : Binds K fd1 ["self", "told"] []) :
    FnOk P w K mg base (L2.CX P w) 3 f fd ["good", "refusal"] (spWant CR) := by
  refine F.okX scWant (fun vs H Q E h => ?_) (fun cdv A outer s H vs Q E hr h => ⟨_, pss_one (ps_if (pt_not (pt_val (pv 0))) (pss_one (ps_raise rfl (takes_of rfl rfl rfl rfl) (pmk_oex R.ox R.iC R.tI F1 hr B1 .nil pass0 (by rfl) R.gRef (pa_cons (pe_lst (pa_cons (pv 1) pa_nil)) pa_nil)))) pss_nil), ?_⟩)
  · obtain ⟨g, r, rfl, _⟩ := h
    rfl
  · obtain ⟨g, r, rfl, k1, k2⟩ := h
    refine ⟨_, rfl, g, rfl, ?_⟩
    cases g
    · refine ifT rfl ?_
      refine ⟨_, rfl, (by show 1 ≤ sizeLine; decide), fun t ht => ⟨(by show 1 ≤ 1000; decide), fun a ha => ?_⟩⟩
      exact refuse_read (k2 rfl) ht ha
    · refine ifF rfl ?_
      exact k1 rfl H (Same.refl H)

/-! ### want_none -/
def spWantN (CR : Addr) : Sp := fun vs H Q E => ∃ (a : Addr) (p : List Nat) (r : Int), vs = [.ref a, .int r] ∧ H a = some (planO p) ∧ (p.head? = none → ∀ H', Same H H' → Q .non H') ∧ (∀ i : Nat, p.head? = some i → Er CR H [r, (i : Int)] E)
theorem scWantN : FnScope ["some", "refusal"] ["some", "refusal"] (defScope sWantN) := ⟨rfl, rfl, rfl, by decide +kernel, rfl, by decide +kernel, by decide +kernel⟩
theorem ok_wantN {f : Addr} {fd fd1 : FuncData} (F : Fun K "want_none" "want_none" sWantN f fd) (R : RTxt K mg CR fRI) (F1 : FnOk P w K mg base CX0 1 fRI fd1 ["self", "told"] (spRI CR)) (B1 : Binds K fd1 ["self", "told"] []) :
    FnOk P w K mg base (L2.CX P w) 3 f fd ["some", "refusal"] (spWantN CR) := by
  refine F.okX scWantN (fun vs H Q E h => ?_) (fun cdv A outer s H vs Q E hr h => ⟨_, pss_one (ps_if (pt_cmpR (op_neD hr.units) (pv 0) (pe_lst pa_nil) (nomark _)) (pss_one (ps_raise rfl (takes_of rfl rfl rfl rfl) (pmk_oex R.ox R.iC R.tI F1 hr B1 .nil pass0 (by rfl) R.gRef (pa_cons (pe_lst (pa_cons (pv 1) (pa_cons (pe_ix ix_list (pv 0) pe_int (fun _ _ => rfl)) pa_nil))) pa_nil)))) pss_nil), ?_⟩)
  · obtain ⟨a, p, r, rfl, _⟩ := h
    rfl
  · obtain ⟨a, p, r, rfl, ha, k1, k2⟩ := h
    refine ⟨_, rfl, Nat.zero_le _, fun z hz => ⟨_, _, dp_plan ((same_new hz _) _ _ ha), Dp.lst (SqL.of upd_same) .nil, shaped_plan p, rfl, _, rfl, ?_⟩⟩
    have sz : Same H (upd H z (.lst [])) := same_new hz _
    cases p with
    | nil =>
      refine ifF (by rw [ne_nil]; rfl) ?_
      exact k1 rfl _ sz
    | cons i p =>
      refine ifT (by rw [ne_nil]; rfl) ?_
      refine ⟨_, rfl, _, rfl, a, _, _, _, rfl, rfl, SqL.of (sz _ _ ha), at_of (j := 0) rfl rfl, (by show 2 ≤ sizeLine; decide), fun t ht => ⟨(by show 1 ≤ 1000; decide), fun b hb => ?_⟩⟩
      exact refuse_read ((k2 i rfl).same sz) ht hb

/-! ### the desk in the heap -/
structure DeskAt (CD C : Addr) (H : Hp) (a ddx b dx l r : Addr) (m : Box) : Prop where
  de : H a = some (.ins CD ddx [("box", .ref b)])
  bo : BoxAt C H b dx l r m
  lr : l ≠ r
theorem DeskAt.same {H H' : Hp} {a ddx b dx l r : Addr} {m : Box} (D : DeskAt CD C H a ddx b dx l r m) (s : Same H H') : DeskAt CD C H' a ddx b dx l r m := ⟨s _ _ D.de, D.bo.same s, D.lr⟩
theorem dF_box {b : Addr} : List.lookup ("box" : Str) [(("box" : Str), V.ref b)] = some (.ref b) := lk_here
theorem dF_no {b : Addr} {m : Str} (h : (m == ("box" : Str)) = false) : List.lookup m [(("box" : Str), V.ref b)] = none := (lk_past h).trans rfl
theorem dF_put {b b' : Addr} : putF "box" (.ref b') [(("box" : Str), V.ref b)] = [(("box" : Str), V.ref b')] := put_here
/-- all that lies beside the desk stays, and stays beside -/
def Frame (H H' : Hp) (a b l r b' l' r' : Addr) : Prop := ∀ c o, H c = some o → c ≠ a → c ≠ b → c ≠ l → c ≠ r → H' c = some o ∧ c ≠ b' ∧ c ≠ l' ∧ c ≠ r'
theorem Frame.same {H H' : Hp} {a b l r : Addr} (s : Same H H') : Frame H H' a b l r b l r := fun c o h _ h2 h3 h4 => ⟨s c o h, h2, h3, h4⟩
theorem Frame.then {H H' H2 : Hp} {a b l r b' l' r' : Addr} (f : Frame H H' a b l r b' l' r') (s : Same H' H2) : Frame H H2 a b l r b' l' r' := fun c o h h1 h2 h3 h4 =>
  have q := f c o h h1 h2 h3 h4
  ⟨s c o q.1, q.2⟩
theorem Same.frame {H H1 H' : Hp} {a b l r b' l' r' : Addr} (s : Same H H1) (f : Frame H1 H' a b l r b' l' r') : Frame H H' a b l r b' l' r' := fun c o h => f c o (s c o h)

/-- it hands back the answer -/
def KOk (CD C : Addr) (H : Hp) (a ddx b l r : Addr) (res : Box × List Int) (Q : VK) : Prop := ∀ (H' : Hp) (b' dx' l' r' q : Addr), DeskAt CD C H' a ddx b' dx' l' r' res.1 → Frame H H' a b l r b' l' r' → H q = none → H' q = some (.lst (res.2.map V.int)) → Q (.ref q) H'
/-- or it is refused -/
def KErr (CR : Addr) (H : Hp) (m : Box) (res : Box × List Int) (E : XK) : Prop := res.1 = m → Er CR H res.2 E
theorem KOk.same {H H1 : Hp} {a ddx b l r : Addr} {res : Box × List Int} {Q : VK} (k : KOk CD C H a ddx b l r res Q) (s : Same H H1) : KOk CD C H1 a ddx b l r res Q := fun H' b' dx' l' r' q D f hq e => k H' b' dx' l' r' q D (Gp.Same.frame s f) (s.free hq) e
/-- a method of the desk without list arguments -/
def spDesk (CD C CR : Addr) (args : List V → Si90.Call → Prop) : Sp := fun vs H Q E => ∃ (a ddx b dx l r : Addr) (m : Box) (ws : List V) (c : Si90.Call), vs = .ref a :: ws ∧ args ws c ∧ DeskAt CD C H a ddx b dx l r m ∧ Fine m ∧ KOk CD C H a ddx b l r (out m c) Q ∧ KErr CR H m (out m c) E

/-- one that never refuses -/
def spDesk0 (CD C : Addr) (args : List V → Si90.Call → Prop) : Sp := fun vs H Q _ => ∃ (a ddx b dx l r : Addr) (m : Box) (ws : List V) (c : Si90.Call), vs = .ref a :: ws ∧ args ws c ∧ DeskAt CD C H a ddx b dx l r m ∧ Fine m ∧ KOk CD C H a ddx b l r (out m c) Q

/-! ### Desk.__init__ -/
def spDInit (CD C : Addr) : Sp := fun vs H Q _ => ∃ (a ddx : Addr), vs = [.ref a] ∧ H a = some (.ins CD ddx []) ∧
  ∀ (H' : Hp) (b dx l r : Addr), DeskAt CD C H' a ddx b dx l r ⟨0, [], []⟩ → (∀ c o, H c = some o → c ≠ a → H' c = some o) → H b = none → H l = none → H r = none → Q .non H'
theorem scDInit : FnScope ["self"] ["self"] (defScope sDInit) := ⟨rfl, rfl, rfl, by decide +kernel, rfl, by decide +kernel, by decide +kernel⟩
/-- Box(d), made -/
theorem box_made {H : Hp} {Qx : Hp → Prop} {E : XK} {d : Nat} {i : Int} {x dx : Addr} (hi : i = (d : Int)) (hx : H x = none) (hdx : H dx = none) (ne : dx ≠ x)
    (q : ∀ (H' : Hp) (l r : Addr), BoxAt C H' x dx l r ⟨d, [], []⟩ → l ≠ r → Same H H' → H l = none → H r = none → Qx H') :
    spInit C (.ref x :: ([.int i] ++ [])) (upd (upd H dx (.own x)) x (.ins C dx [])) (fun v H2 => v = .non ∧ Qx H2) E := by
  subst hi
  refine ⟨x, dx, d, rfl, upd_same, fun H' l r B lr k hl hr => ⟨rfl, ?_⟩⟩
  have lx : l ≠ x := Ne.symm (ne_of_none (o := .ins C dx []) upd_same hl)
  have rx : r ≠ x := Ne.symm (ne_of_none (o := .ins C dx []) upd_same hr)
  rw [upd_ne lx] at hl
  rw [upd_ne rx] at hr
  have ld : l ≠ dx := Ne.symm (ne_of_none (o := .own x) upd_same hl)
  have rd : r ≠ dx := Ne.symm (ne_of_none (o := .own x) upd_same hr)
  rw [upd_ne ld] at hl
  rw [upd_ne rd] at hr
  exact q H' l r B lr (Same.made hx hdx k) hl hr
theorem ok_dinit {f fI : Addr} {fd fdI : FuncData} (F : Fun K "__init__" "Desk.__init__" sDInit f fd) (D : DTxt K mg CD) (M : Mk K C fI) (gB : mg "Box" = some (.ref C)) (FI : FnOk P w K mg base CX0 1 fI fdI ["self", "differ"] (spInit C)) (BI : Binds K fdI ["self", "differ"] []) :
    FnOk P w K mg base CX0 3 f fd ["self"] (spDInit CD C) := by
  refine F.ok scDInit (fun vs H Q E h => ?_) (fun cdv A outer s H vs Q E hr h => ⟨_, pss_one (ps_fld (pv 0) (pe_make M FI hr (by rfl) gB BI .nil pass0 (pa_cons pe_int pa_nil)) rfl), ?_⟩)
  · obtain ⟨a, ddx, rfl, _⟩ := h
    rfl
  · obtain ⟨a, ddx, rfl, ha, q⟩ := h
    intro x dx hx hdx ne
    refine box_made (d := 0) rfl hx hdx ne fun H' l r B lr s hl hr => ?_
    have ha' := s _ _ ha
    refine ⟨_, rfl, a, CD, ddx, [], rfl, ha', D.cl, D.nB, by decide, ?_⟩
    have xa : x ≠ a := fun z => by rw [z, ha] at hx; cases hx
    have la : l ≠ a := fun z => by rw [z, ha] at hl; cases hl
    have ra : r ≠ a := fun z => by rw [z, ha] at hr; cases hr
    exact q _ x dx l r ⟨upd_same, ⟨(upd_ne xa).trans B.ob, (upd_ne la).trans B.ll, (upd_ne ra).trans B.rr⟩, lr⟩ (fun c o hc hca => (upd_ne hca).trans (s c o hc)) hx hl hr

/-! ### begins -/
theorem scBegins : FnScope ["self", "differ"] ["self", "differ"] (defScope sBegins) := ⟨rfl, rfl, rfl, by decide +kernel, rfl, by decide +kernel, by decide +kernel⟩
def aBegins (ws : List V) (c : Si90.Call) : Prop := ∃ d : Nat, ws = [.int (d : Int)] ∧ c = .begins d
theorem ok_begins {f fI fW : Addr} {fd fdI fdW : FuncData} (F : Fun K "begins" "Desk.begins" sBegins f fd) (D : DTxt K mg CD) (M : Mk K C fI) (gB : mg "Box" = some (.ref C)) (FI : FnOk P w K mg base CX0 1 fI fdI ["self", "differ"] (spInit C)) (BI : Binds K fdI ["self", "differ"] [])
    (W : GOk P w K mg base (L2.CX P w) "want" 3 ["good", "refusal"] (spWant CR) fW fdW) :
    FnOk P w K mg base (L2.CX P w) 4 f fd ["self", "differ"] (spDesk CD C CR aBegins) := by
  obtain ⟨t1, gBad⟩ := D.bad
  obtain ⟨t2, gMost⟩ := D.most
  refine F.okX scBegins (fun vs H Q E h => ?_) (fun cdv A outer s H vs Q E hr h => ⟨_, pss_cons (ps_expr (pe_call W.ok hr (by rfl) W.gl W.kp W.bi .nil (leaves (takes_of rfl rfl rfl rfl)) (pa_cons (pe_cmpR op_le (pv 1) (pe_gi rfl gMost) (nomark _)) (pa_cons (pe_gi rfl gBad) pa_nil))))
    (pss_cons (ps_fld (pv 0) (pe_make M FI (hr.mono (by decide)) (by rfl) gB BI .nil pass0 (pa_cons (pv 1) pa_nil)) rfl)
    (pss_one (ps_ret (pe_lst (pa_cons pe_int pa_nil))))), ?_⟩)
  · obtain ⟨a, ddx, b, dx, l, r, m, ws, c, rfl, ⟨d, rfl, _⟩, _⟩ := h
    rfl
  · obtain ⟨a, ddx, b, dx, l, r, m, ws, c, rfl, ⟨d, rfl, rfl⟩, DA, fine, k1, k2⟩ := h
    refine ⟨_, rfl, _, _, rfl, rfl, _, _, rfl, fun hg H1 s1 => ?_, fun hg => ?_⟩
    · have hd : d ≤ 1000 := by have := of_decide_eq_true hg; omega
      have e : out m (.begins d) = (⟨d, [], []⟩, [0]) := by
        unfold out Si90.step Si90.SIZE
        dsimp only
        rw [if_neg (by omega)]
        rfl
      rw [e] at k1
      refine ⟨_, rfl, fun x dx2 hx hdx2 ne => box_made (d := d) rfl hx hdx2 ne fun H2 l2 r2 B lr s2 hl hr => ?_⟩
      have ha := s1 _ _ DA.de
      have ha2 := s2 _ _ ha
      have xa : x ≠ a := fun z => by rw [z, ha] at hx; cases hx
      have la : l2 ≠ a := fun z => by rw [z, ha] at hl; cases hl
      have ra : r2 ≠ a := fun z => by rw [z, ha] at hr; cases hr
      refine ⟨_, rfl, a, CD, ddx, _, rfl, ha2, D.cl, D.nB, (by show 1 < 1000; decide), (by show 1 ≤ sizeLine; decide), fun q hq => ?_⟩
      have e2 : upd H2 a (.ins CD ddx (putF "box" (.ref x) [("box", .ref b)])) a = some (.ins CD ddx [("box", .ref x)]) := by rw [upd_same, dF_put]
      have sq := same_new hq (.lst [.int 0])
      have qa : q ≠ a := Ne.symm (ne_of_none e2 hq)
      refine k1 _ x dx2 l2 r2 q ⟨sq _ _ e2, ⟨sq _ _ ((upd_ne xa).trans B.ob), sq _ _ ((upd_ne la).trans B.ll), sq _ _ ((upd_ne ra).trans B.rr)⟩, lr⟩ (fun c o hc h1 h2 h3 h4 => ?_) ?_ upd_same
      · have hc1 := s1 c o hc
        exact ⟨sq _ _ ((upd_ne h1).trans (s2 c o hc1)), ne_of_none hc1 hx, ne_of_none hc1 hl, ne_of_none hc1 hr⟩
      · rw [upd_ne qa] at hq
        exact (s1.trans s2).free hq
    · have hd : 1000 < d := by have := of_decide_eq_false hg; omega
      have e : out m (.begins d) = (m, [-1]) := by
        unfold out Si90.step Si90.SIZE
        dsimp only
        rw [if_pos (by omega)]
        rfl
      rw [e] at k2
      exact k2 rfl

/-! ### put_left, put_right -/
theorem scDPutL : FnScope ["self", "size"] ["self", "size"] (defScope sDPutL) := ⟨rfl, rfl, rfl, by decide +kernel, rfl, by decide +kernel, by decide +kernel⟩
theorem scDPutR : FnScope ["self", "size"] ["self", "size"] (defScope sDPutR) := ⟨rfl, rfl, rfl, by decide +kernel, rfl, by decide +kernel, by decide +kernel⟩
def aLeft (ws : List V) (c : Si90.Call) : Prop := ∃ v : Nat, ws = [.int (v : Int)] ∧ c = .left v
def aRight (ws : List V) (c : Si90.Call) : Prop := ∃ v : Nat, ws = [.int (v : Int)] ∧ c = .right v
theorem ok_dputL {f f1 fW : Addr} {fd fd1 fdW : FuncData} (F : Fun K "put_left" "Desk.put_left" sDPutL f fd) (T : Txt K mg C) (D : DTxt K mg CD) (M1 : MOk P w K mg base CX0 C 1 "put_left" ["self", "size"] (spPutL C) f1 fd1)
    (W : GOk P w K mg base (L2.CX P w) "want" 3 ["good", "refusal"] (spWant CR) fW fdW) :
    FnOk P w K mg base (L2.CX P w) 4 f fd ["self", "size"] (spDesk CD C CR aLeft) := by
  obtain ⟨t1, gBad⟩ := D.bad
  obtain ⟨t2, gMost⟩ := D.most
  obtain ⟨t3, gFull⟩ := D.full
  obtain ⟨t4, gGl⟩ := D.gloves
  refine F.okX scDPutL (fun vs H Q E h => ?_) (fun cdv A outer s H vs Q E hr h => ⟨_, pss_cons (ps_expr (pe_call W.ok hr (by rfl) W.gl W.kp W.bi .nil (leaves (takes_of rfl rfl rfl rfl)) (pa_cons (pe_cmpR op_le (pv 1) (pe_gi rfl gMost) (nomark _)) (pa_cons (pe_gi rfl gBad) pa_nil))))
    (pss_cons (ps_expr (pe_call W.ok hr (by rfl) W.gl W.kp W.bi .nil (leaves (takes_of rfl rfl rfl rfl)) (pa_cons (pe_cmpR op_lt (pe_callB call_len_seq (by rfl) T.len PySem.boot_len (pa_cons (pe_fld (pe_fld (pv 0) rfl) rfl) pa_nil)) (pe_gi rfl gGl) (nomark _)) (pa_cons (pe_gi rfl gFull) pa_nil))))
    (pss_one (ps_ret (pe_lst (pa_cons (pe_meth (pe_fld (pv 0) rfl) T.cl M1.me M1.ok (hr.mono (by decide)) M1.bi .nil pass0 (pa_cons (pv 1) pa_nil)) pa_nil))))), ?_⟩)
  · obtain ⟨a, ddx, b, dx, l, r, m, ws, c, rfl, ⟨d, rfl, _⟩, _⟩ := h
    rfl
  · obtain ⟨a, ddx, b, dx, l, r, m, ws, c, rfl, ⟨v, rfl, rfl⟩, DA, fine, k1, k2⟩ := h
    refine ⟨_, rfl, _, _, rfl, rfl, _, _, rfl, fun hg H1 s1 => ?_, fun hg => ?_⟩
    · have hv : v ≤ 1000 := by have := of_decide_eq_true hg; omega
      have D1 := DA.same s1
      refine ⟨_, rfl, a, CD, ddx, _, _, rfl, D1.de, D.cl, D.nB, dF_box, b, C, dx, _, _, rfl, D1.bo.ob, T.cl, T.nL, bF_lefts, l, _, rfl, .inl (SqL.of D1.bo.ll), _, _, rfl, rfl, _, _, rfl, fun hg H2 s2 => ?_, fun hg => ?_⟩
      · have hl : m.lefts.length < 5 := by have := of_decide_eq_true hg; rw [nats_len] at this; omega
        have e : out m (.left v) = ({ m with lefts := m.lefts ++ [v] }, [(m.lefts.length : Int)]) := by
          unfold out Si90.step Si90.SIZE Si90.GLOVES
          dsimp only
          rw [if_neg (by omega), if_neg (by omega)]
          rfl
        rw [e] at k1
        have D2 := D1.same s2
        have ab : a ≠ l := ne_of D2.de D2.bo.ll (by intro z; cases z)
        refine ⟨_, rfl, a, CD, ddx, _, _, rfl, D2.de, D.cl, D.nB, dF_box, b, dx, _, rfl, D2.bo.ob, bF_no (by decide +kernel) (by decide +kernel) (by decide +kernel), _, rfl, b, dx, l, r, m, v, rfl, D2.bo, D2.lr, by omega, fun H3 B3 k => ?_⟩
        refine ⟨(by show 1 ≤ sizeLine; decide), fun q hq => ?_⟩
        have sq := same_new hq (.lst [.int (m.lefts.length : Int)])
        have hde : H3 a = some (.ins CD ddx [("box", .ref b)]) := k _ _ D2.de ab
        refine k1 _ b dx l r q ⟨sq _ _ hde, B3.same sq, D2.lr⟩ (fun c o hc h1 h2 h3 h4 => ⟨sq _ _ (k _ _ (s2 _ _ (s1 _ _ hc)) h3), h2, h3, h4⟩) ?_ upd_same
        cases e : H q with
        | none => rfl
        | some o =>
          have h2 := s2 _ _ (s1 _ _ e)
          by_cases z : q = l
          · rw [z, B3.ll] at hq
            cases hq
          · rw [k _ _ h2 z] at hq
            cases hq
      · have hl : 5 ≤ m.lefts.length := by have := of_decide_eq_false hg; rw [nats_len] at this; omega
        have e : out m (.left v) = (m, [-5]) := by
          unfold out Si90.step Si90.SIZE Si90.GLOVES
          dsimp only
          rw [if_neg (by omega), if_pos (by omega)]
          rfl
        rw [e] at k2
        exact (k2 rfl).same s1
    · have hv : 1000 < v := by have := of_decide_eq_false hg; omega
      have e : out m (.left v) = (m, [-1]) := by
        unfold out Si90.step Si90.SIZE
        dsimp only
        rw [if_pos (by omega)]
        rfl
      rw [e] at k2
      exact k2 rfl
theorem ok_dputR {f f1 fW : Addr} {fd fd1 fdW : FuncData} (F : Fun K "put_right" "Desk.put_right" sDPutR f fd) (T : Txt K mg C) (D : DTxt K mg CD) (M1 : MOk P w K mg base CX0 C 1 "put_right" ["self", "size"] (spPutR C) f1 fd1)
    (W : GOk P w K mg base (L2.CX P w) "want" 3 ["good", "refusal"] (spWant CR) fW fdW) :
    FnOk P w K mg base (L2.CX P w) 4 f fd ["self", "size"] (spDesk CD C CR aRight) := by
  obtain ⟨t1, gBad⟩ := D.bad
  obtain ⟨t2, gMost⟩ := D.most
  obtain ⟨t3, gFull⟩ := D.full
  obtain ⟨t4, gGl⟩ := D.gloves
  refine F.okX scDPutR (fun vs H Q E h => ?_) (fun cdv A outer s H vs Q E hr h => ⟨_, pss_cons (ps_expr (pe_call W.ok hr (by rfl) W.gl W.kp W.bi .nil (leaves (takes_of rfl rfl rfl rfl)) (pa_cons (pe_cmpR op_le (pv 1) (pe_gi rfl gMost) (nomark _)) (pa_cons (pe_gi rfl gBad) pa_nil))))
    (pss_cons (ps_expr (pe_call W.ok hr (by rfl) W.gl W.kp W.bi .nil (leaves (takes_of rfl rfl rfl rfl)) (pa_cons (pe_cmpR op_lt (pe_callB call_len_seq (by rfl) T.len PySem.boot_len (pa_cons (pe_fld (pe_fld (pv 0) rfl) rfl) pa_nil)) (pe_gi rfl gGl) (nomark _)) (pa_cons (pe_gi rfl gFull) pa_nil))))
    (pss_one (ps_ret (pe_lst (pa_cons (pe_meth (pe_fld (pv 0) rfl) T.cl M1.me M1.ok (hr.mono (by decide)) M1.bi .nil pass0 (pa_cons (pv 1) pa_nil)) pa_nil))))), ?_⟩)
  · obtain ⟨a, ddx, b, dx, l, r, m, ws, c, rfl, ⟨d, rfl, _⟩, _⟩ := h
    rfl
  · obtain ⟨a, ddx, b, dx, l, r, m, ws, c, rfl, ⟨v, rfl, rfl⟩, DA, fine, k1, k2⟩ := h
    refine ⟨_, rfl, _, _, rfl, rfl, _, _, rfl, fun hg H1 s1 => ?_, fun hg => ?_⟩
    · have hv : v ≤ 1000 := by have := of_decide_eq_true hg; omega
      have D1 := DA.same s1
      refine ⟨_, rfl, a, CD, ddx, _, _, rfl, D1.de, D.cl, D.nB, dF_box, b, C, dx, _, _, rfl, D1.bo.ob, T.cl, T.nR, bF_rights, r, _, rfl, .inl (SqL.of D1.bo.rr), _, _, rfl, rfl, _, _, rfl, fun hg H2 s2 => ?_, fun hg => ?_⟩
      · have hl : m.rights.length < 5 := by have := of_decide_eq_true hg; rw [nats_len] at this; omega
        have e : out m (.right v) = ({ m with rights := m.rights ++ [v] }, [(m.rights.length : Int)]) := by
          unfold out Si90.step Si90.SIZE Si90.GLOVES
          dsimp only
          rw [if_neg (by omega), if_neg (by omega)]
          rfl
        rw [e] at k1
        have D2 := D1.same s2
        have ab : a ≠ r := ne_of D2.de D2.bo.rr (by intro z; cases z)
        refine ⟨_, rfl, a, CD, ddx, _, _, rfl, D2.de, D.cl, D.nB, dF_box, b, dx, _, rfl, D2.bo.ob, bF_no (by decide +kernel) (by decide +kernel) (by decide +kernel), _, rfl, b, dx, l, r, m, v, rfl, D2.bo, D2.lr, by omega, fun H3 B3 k => ?_⟩
        refine ⟨(by show 1 ≤ sizeLine; decide), fun q hq => ?_⟩
        have sq := same_new hq (.lst [.int (m.rights.length : Int)])
        have hde : H3 a = some (.ins CD ddx [("box", .ref b)]) := k _ _ D2.de ab
        refine k1 _ b dx l r q ⟨sq _ _ hde, B3.same sq, D2.lr⟩ (fun c o hc h1 h2 h3 h4 => ⟨sq _ _ (k _ _ (s2 _ _ (s1 _ _ hc)) h4), h2, h3, h4⟩) ?_ upd_same
        cases e : H q with
        | none => rfl
        | some o =>
          have h2 := s2 _ _ (s1 _ _ e)
          by_cases z : q = r
          · rw [z, B3.rr] at hq
            cases hq
          · rw [k _ _ h2 z] at hq
            cases hq
      · have hl : 5 ≤ m.rights.length := by have := of_decide_eq_false hg; rw [nats_len] at this; omega
        have e : out m (.right v) = (m, [-5]) := by
          unfold out Si90.step Si90.SIZE Si90.GLOVES
          dsimp only
          rw [if_neg (by omega), if_pos (by omega)]
          rfl
        rw [e] at k2
        exact (k2 rfl).same s1
    · have hv : 1000 < v := by have := of_decide_eq_false hg; omega
      have e : out m (.right v) = (m, [-1]) := by
        unfold out Si90.step Si90.SIZE
        dsimp only
        rw [if_pos (by omega)]
        rfl
      rw [e] at k2
      exact k2 rfl
end
end Gp

/-! The desk's check, best, plain, needs. -/
namespace Gp
open PySem PySem.Spec PyProof.Rows L2
open Si90 (Box)
section
variable {P : Program} {w : World} {K : PySem.W.Frag} {mg : Str → Option Value} {base : Heap} {CD C CR fRI : Addr} {CX : CXT}

/-! ### check -/
def spCheck (CD C CR : Addr) : Sp := fun vs H Q E => ∃ (a ddx b dx l r : Addr) (m : Box) (n : Addr) (p : List Nat), vs = [.ref a, .ref n] ∧ H n = some (planO p) ∧ p.length ≤ 1000 ∧ DeskAt CD C H a ddx b dx l r m ∧ Fine m ∧ KOk CD C H a ddx b l r (out m (.check p)) Q ∧ KErr CR H m (out m (.check p)) E
theorem scCheck : FnScope ["self", "plan", "right"] ["self", "plan"] (defScope sCheck) := ⟨rfl, rfl, rfl, by decide +kernel, rfl, by decide +kernel, by decide +kernel⟩
theorem told_iff {m : Box} {p : List Nat} : m.told p = true ↔ p.length = m.lefts.length ∧ ∀ k ∈ p, k ≤ m.none_ := by
  unfold Box.told
  simp only [Bool.and_eq_true, beq_iff_eq, List.all_eq_true, decide_eq_true_iff]
theorem out_untold {m : Box} {p : List Nat} (h : ¬ m.told p = true) : out m (.check p) = (m, [-1]) := by
  unfold out Si90.step
  dsimp only
  rw [if_pos (by simpa using h)]
  rfl
theorem out_told {m : Box} {p : List Nat} (h : m.told p = true) : out m (.check p) = (m, match m.bad p with
    | some i => [-6, (i : Int)]
    | none => match m.twice p with
      | some i => [-7, (i : Int)]
      | none => [(m.pairs p : Int), (m.off p : Int)]) := by
  unfold out Si90.step
  dsimp only
  rw [if_neg (by simpa using h)]
  cases m.bad p with
  | some i => rfl
  | none =>
    cases m.twice p with
    | some i => rfl
    | none => rfl
theorem ok_check {f f1 f2 f3 f4 f5 fW fN : Addr} {fd fd1 fd2 fd3 fd4 fd5 fdW fdN : FuncData} (F : Fun K "check" "Desk.check" sCheck f fd) (T : Txt K mg C) (D : DTxt K mg CD)
    (M1 : MOk P w K mg base CX0 C 1 "none" ["self"] (spNone C) f1 fd1) (M2 : MOk P w K mg base CX0 C 2 "pairs_of" ["self", "plan"] (spPairs C) f2 fd2) (M3 : MOk P w K mg base CX0 C 3 "off" ["self", "plan"] (spOff C) f3 fd3)
    (M4 : MOk P w K mg base CX0 C 3 "too_unlike" ["self", "plan"] (spUnl C) f4 fd4) (M5 : MOk P w K mg base CX0 C 3 "told_twice" ["self", "plan"] (spTwi C) f5 fd5)
    (W : GOk P w K mg base (L2.CX P w) "want" 3 ["good", "refusal"] (spWant CR) fW fdW) (WN : GOk P w K mg base (L2.CX P w) "want_none" 3 ["some", "refusal"] (spWantN CR) fN fdN) :
    FnOk P w K mg base (L2.CX P w) 4 f fd ["self", "plan"] (spCheck CD C CR) := by
  obtain ⟨t1, gBad⟩ := D.bad
  obtain ⟨t2, gUnl⟩ := D.unl
  obtain ⟨t3, gTwi⟩ := D.twi
  refine F.okX scCheck (fun vs H Q E h => ?_) (fun cdv A outer s H vs Q E hr h => ⟨_, pss_cons (ps_expr (pe_call W.ok hr (by rfl) W.gl W.kp W.bi .nil (leaves (takes_of rfl rfl rfl rfl)) (pa_cons (pe_cmpR op_eq (pe_callB call_len_seq (by rfl) T.len PySem.boot_len (pa_cons (pv 1) pa_nil)) (pe_callB call_len_seq (by rfl) T.len PySem.boot_len (pa_cons (pe_fld (pe_fld (pv 0) rfl) rfl) pa_nil)) (nomark _)) (pa_cons (pe_gi rfl gBad) pa_nil))))
    (pss_cons (ps_expr (pe_call W.ok hr (by rfl) W.gl W.kp W.bi .nil (leaves (takes_of rfl rfl rfl rfl)) (pa_cons (pe_callB (cr_all rfl) (by rfl) T.all (by decide +kernel) (pa_cons
        (pe_lc (own := [("right", 2)]) (g := gName 2) (tt := tYes) (te := tOp (rI0 fun i j => .bl (decide (i ≤ j))) (tVar 2) (tMeth C "none" (spNone C) [] E0 (tFld K (tVar 0) "box") tNil)) rfl scCheck.nd
          (pi_list (pv 1)) (blkOk_by (N := ["self", "plan", "right"]) (sc := defScope sCheck) (by decide +kernel))
          (fun _ _ _ _ _ => by exact (pg_name (i := 2) scCheck.nd rfl (Or.inl rfl)))
          (fun _ _ _ _ _ => pts_nil)
          (fun _ _ _ _ _ => pe_cmpR op_le (pv 2) (pe_meth0 (pe_fld (pv 0) rfl) T.cl M1.me M1.ok (hr.mono (by decide)) M1.bi .nil pass0) (nomark _))) pa_nil)) (pa_cons (pe_gi rfl gBad) pa_nil))))
    (pss_cons (ps_expr (pe_call WN.ok hr (by rfl) WN.gl WN.kp WN.bi .nil (leaves (takes_of rfl rfl rfl rfl)) (pa_cons (pe_meth (pe_fld (pv 0) rfl) T.cl M4.me M4.ok hr M4.bi .nil pass0 (pa_cons (pv 1) pa_nil)) (pa_cons (pe_gi rfl gUnl) pa_nil))))
    (pss_cons (ps_expr (pe_call WN.ok hr (by rfl) WN.gl WN.kp WN.bi .nil (leaves (takes_of rfl rfl rfl rfl)) (pa_cons (pe_meth (pe_fld (pv 0) rfl) T.cl M5.me M5.ok hr M5.bi .nil pass0 (pa_cons (pv 1) pa_nil)) (pa_cons (pe_gi rfl gTwi) pa_nil))))
    (pss_one (ps_ret (pe_lst (pa_cons (pe_callB call_len_seq (by rfl) T.len PySem.boot_len (pa_cons (pe_meth (pe_fld (pv 0) rfl) T.cl M2.me M2.ok (hr.mono (by decide)) M2.bi .nil pass0 (pa_cons (pv 1) pa_nil)) pa_nil))
      (pa_cons (pe_meth (pe_fld (pv 0) rfl) T.cl M3.me M3.ok hr M3.bi .nil pass0 (pa_cons (pv 1) pa_nil)) pa_nil)))))))), ?_⟩)
  · obtain ⟨a, ddx, b, dx, l, r, m, n, p, rfl, _⟩ := h
    rfl
  · obtain ⟨a, ddx, b, dx, l, r, m, n, p, rfl, hn, hz, DA, fine, k1, k2⟩ := h
    refine ⟨_, rfl, n, _, rfl, .inl (SqL.of hn), ⟨_, rfl, a, CD, ddx, _, _, rfl, DA.de, D.cl, D.nB, dF_box, b, C, dx, _, _, rfl, DA.bo.ob, T.cl, T.nL, bF_lefts, l, _, rfl, .inl (SqL.of DA.bo.ll), rfl, _, _, rfl, fun hg H1 s1 => ?_, fun hg => ?_⟩⟩
    · have hlen : p.length = m.lefts.length := by
        have := of_decide_eq_true hg
        rw [nats_len, nats_len] at this
        injection this with this
        omega
      refine ⟨_, rfl, n, rfl, ⟨_, SqL.of (s1 _ _ hn)⟩, fun D0 hD0 => lc_gen walk_list p (nats_len _) (fun k => some (decide (k ≤ m.none_))) (fun _ v (c : Bool) => v = .bl c) (fun _ _ _ _ _ h => h)
        (by omega) hD0 (fun H2 s => s.seq (SqL.of (s1 _ _ hn))) (fun i c x H2 H3 PY PN hc s2 y okY okN => ?_) (fun H2 zs s2 hzl hzs => ?_)⟩
      · obtain ⟨rfl, hx⟩ := y
        obtain ⟨c', hc', rfl⟩ := nats_of hx
        rw [hc] at hc'
        cases hc'
        have D2 := (DA.same s1).same s2
        refine ⟨rfl, _, rfl, ⟨_, rfl, a, CD, ddx, _, _, rfl, D2.de, D.cl, D.nB, dF_box, b, dx, _, rfl, D2.bo.ob, bF_no (by decide +kernel) (by decide +kernel) (by decide +kernel), b, dx, l, r, m, rfl, D2.bo, fun H4 s4 => ⟨_, _, rfl, rfl, ?_⟩⟩⟩
        refine okY _ _ _ rfl s4 fun _ _ _ => ?_
        exact congrArg V.bl (decide_eq_decide.mpr Int.ofNat_le)
      · rw [filterMap_some] at hzs
        have e := hzs.eq_map
        refine ⟨D0, p.map fun k => decide (k ≤ m.none_), rfl, SqL.of (hzl.trans (by rw [e])), _, _, rfl, fun hg H3 s3 => ?_, fun hg => ?_⟩
        · have hall : ∀ k ∈ p, k ≤ m.none_ := by
            rw [List.all_map, List.all_eq_true] at hg
            intro k hk
            exact of_decide_eq_true (hg k hk)
          have ht : m.told p = true := told_iff.mpr ⟨hlen, hall⟩
          have tld : Told m p := ⟨hlen, hall, hz⟩
          rw [out_told ht] at k1 k2
          have s13 := (s1.trans s2).trans s3
          have D3 := DA.same s13
          refine ⟨_, rfl, a, CD, ddx, _, _, rfl, D3.de, D.cl, D.nB, dF_box, b, dx, _, rfl, D3.bo.ob, bF_no (by decide +kernel) (by decide +kernel) (by decide +kernel), _, rfl, b, dx, l, r, m, n, p, rfl, D3.bo, s13 _ _ hn, tld, fun H4 q4 s4 hq4 hl4 => ?_⟩
          refine ⟨q4, _, _, rfl, hl4, fun hnone H5 s5 => ?_, fun i hi => ?_⟩
          · rw [unlike_head] at hnone
            have s15 := (s13.trans s4).trans s5
            have D5 := DA.same s15
            refine ⟨_, rfl, a, CD, ddx, _, _, rfl, D5.de, D.cl, D.nB, dF_box, b, dx, _, rfl, D5.bo.ob, bF_no (by decide +kernel) (by decide +kernel) (by decide +kernel), _, rfl, b, dx, l, r, m, n, p, rfl, D5.bo, s15 _ _ hn, tld, fun H6 q6 s6 hq6 hl6 => ?_⟩
            refine ⟨q6, _, _, rfl, hl6, fun hnone2 H7 s7 => ?_, fun i hi => ?_⟩
            · rw [again_head] at hnone2
              have s17 := (s15.trans s6).trans s7
              have D7 := DA.same s17
              refine ⟨_, rfl, a, CD, ddx, _, _, rfl, D7.de, D.cl, D.nB, dF_box, b, dx, _, rfl, D7.bo.ob, bF_no (by decide +kernel) (by decide +kernel) (by decide +kernel), _, rfl, b, dx, l, r, m, n, p, rfl, D7.bo, s17 _ _ hn, hz, fun H8 q8 ys s8 hq8 hl8 hys => ?_⟩
              refine ⟨q8, ys, rfl, .inl (SqL.of hl8), ?_⟩
              have s18 := s17.trans s8
              have D8 := DA.same s18
              refine ⟨_, rfl, a, CD, ddx, _, _, rfl, D8.de, D.cl, D.nB, dF_box, b, dx, _, rfl, D8.bo.ob, bF_no (by decide +kernel) (by decide +kernel) (by decide +kernel), _, rfl, b, dx, l, r, m, n, p, rfl, D8.bo, s18 _ _ hn, tld, fun H9 s9 => ?_⟩
              refine ⟨(by show 2 ≤ sizeLine; decide), fun q hq => ?_⟩
              have s19 := s18.trans s9
              rw [hnone, hnone2] at k1
              refine k1 _ b dx l r q (DA.same (same_upd s19 (s19.free hq) _)) (Frame.same (same_upd s19 (s19.free hq) _)) (s19.free hq) ?_
              rw [upd_same, hys.1, pairs_count]
              rfl
            · rw [again_head] at hi
              rw [hnone, hi] at k2
              exact (k2 rfl).same (s15.trans s6)
          · rw [unlike_head] at hi
            rw [hi] at k2
            exact (k2 rfl).same (s13.trans s4)
        · have ht : ¬ m.told p = true := fun z => by
            have h2 := (told_iff.mp z).2
            rw [List.all_map] at hg
            have : p.all (id ∘ fun k => decide (k ≤ m.none_)) = true := List.all_eq_true.mpr fun k hk => decide_eq_true (h2 k hk)
            rw [this] at hg
            cases hg
          rw [out_untold ht] at k2
          exact (k2 rfl).same (s1.trans s2)
    · have ht : ¬ m.told p = true := fun z => by
        have h1 := (told_iff.mp z).1
        have := of_decide_eq_false hg
        rw [nats_len, nats_len, h1] at this
        exact this rfl
      rw [out_untold ht] at k2
      exact k2 rfl

/-! ### best -/
def aBest (ws : List V) (c : Si90.Call) : Prop := ws = [] ∧ c = .best
theorem scDBest : FnScope ["self", "some"] ["self"] (defScope sDBest) := ⟨rfl, rfl, rfl, by decide +kernel, rfl, by decide +kernel, by decide +kernel⟩
theorem out_best {m : Box} {x : Si90.Best} (h : m.best = some x) : out m .best = (m, ([(x.pairs : Int), (x.off : Int), (x.many : Int)] ++ x.row.map fun (n : Nat) => (n : Int))) := by
  unfold out Si90.step
  dsimp only
  rw [h]
  rfl
theorem ok_dbest {f f1 f2 f3 : Addr} {fd fd1 fd2 fd3 : FuncData} (F : Fun K "best" "Desk.best" sDBest f fd) (T : Txt K mg C) (D : DTxt K mg CD) (M1 : MOk P w K mg base CX0 C 5 "best" ["self"] (spBest C) f1 fd1)
    (M2 : MOk P w K mg base CX0 C 2 "pairs_of" ["self", "plan"] (spPairs C) f2 fd2) (M3 : MOk P w K mg base CX0 C 3 "off" ["self", "plan"] (spOff C) f3 fd3) :
    FnOk P w K mg base CX0 6 f fd ["self"] (spDesk0 CD C aBest) := by
  refine F.ok scDBest (fun vs H Q E h => ?_) (fun cdv A outer s H vs Q E hr h => ⟨_, pss_cons (ps_set (i := 1) scDBest.nd rfl (Or.inl rfl) (pe_meth0 (pe_fld (pv 0) rfl) T.cl M1.me M1.ok hr M1.bi .nil pass0))
    (pss_one (ps_ret (pe_op op_cat (pe_lst (pa_cons (pe_callB call_len_seq (by rfl) T.len PySem.boot_len (pa_cons (pe_meth (pe_fld (pv 0) rfl) T.cl M2.me M2.ok (hr.mono (by decide)) M2.bi .nil pass0 (pa_cons (pe_ix ix_list (pv 1) pe_int (fun _ _ => rfl)) pa_nil)) pa_nil))
      (pa_cons (pe_meth (pe_fld (pv 0) rfl) T.cl M3.me M3.ok (hr.mono (by decide)) M3.bi .nil pass0 (pa_cons (pe_ix ix_list (pv 1) pe_int (fun _ _ => rfl)) pa_nil))
      (pa_cons (pe_callB call_len_seq (by rfl) T.len PySem.boot_len (pa_cons (pv 1) pa_nil)) pa_nil)))) (pe_ix ix_list (pv 1) pe_int (fun _ _ => rfl))))), ?_⟩)
  · obtain ⟨a, ddx, b, dx, l, r, m, ws, c, rfl, ⟨rfl, _⟩, _⟩ := h
    rfl
  · obtain ⟨a, ddx, b, dx, l, r, m, ws, c, rfl, ⟨rfl, rfl⟩, DA, fine, k1⟩ := h
    refine ⟨_, rfl, a, CD, ddx, _, _, rfl, DA.de, D.cl, D.nB, dF_box, b, dx, _, rfl, DA.bo.ob, bF_no (by decide +kernel) (by decide +kernel) (by decide +kernel), b, dx, l, r, m, rfl, DA.bo, fine, fun H1 q1 ys p0 rest s1 hq1 hl1 hys hp0 hrest hbest => ?_⟩
    rw [out_best hbest] at k1
    have tld := told_all fine (mem_plans hp0)
    obtain ⟨v0, hv0, a0, rfl, ha0⟩ := hys.at' (i := 0) (c := p0) rfl
    have D1 := DA.same s1
    refine ⟨_, rfl, a, CD, ddx, _, _, rfl, D1.de, D.cl, D.nB, dF_box, b, dx, _, rfl, D1.bo.ob, bF_no (by decide +kernel) (by decide +kernel) (by decide +kernel), _, rfl, q1, _, _, _, rfl, rfl, SqL.of hl1, at_of (j := 0) rfl hv0, b, dx, l, r, m, a0, p0, rfl, D1.bo, ha0, tld.2.2, fun H2 q2 zs s2 hq2 hl2 hzs => ?_⟩
    refine ⟨q2, zs, rfl, .inl (SqL.of hl2), ?_⟩
    have D2 := D1.same s2
    refine ⟨_, rfl, a, CD, ddx, _, _, rfl, D2.de, D.cl, D.nB, dF_box, b, dx, _, rfl, D2.bo.ob, bF_no (by decide +kernel) (by decide +kernel) (by decide +kernel), _, rfl, q1, _, _, _, rfl, rfl, SqL.of (s2 _ _ hl1), at_of (j := 0) rfl hv0, b, dx, l, r, m, a0, p0, rfl, D2.bo, s2 _ _ ha0, tld, fun H3 s3 => ?_⟩
    have s23 := s2.trans s3
    refine ⟨_, rfl, q1, ys, rfl, .inl (SqL.of (s23 _ _ hl1)), (by show 3 ≤ sizeLine; decide), fun z hz => ?_⟩
    have s13 := s1.trans s23
    have sz := same_new hz (.lst [.int (zs.length : Int), .int (m.off p0 : Int), .int (ys.length : Int)])
    have ha3 := sz _ _ (s23 _ _ ha0)
    refine ⟨_, rfl, q1, _, _, _, rfl, rfl, SqL.of (sz _ _ (s23 _ _ hl1)), at_of (j := 0) rfl hv0, z, a0, _, _, rfl, rfl, upd_same, ha3, ?_, fun q hq => ?_⟩
    · rw [nats_len]
      have := tld.2.2
      exact Nat.le_of_lt (small10 (by simp; omega))
    · have s14 := s13.trans sz
      refine k1 _ b dx l r q (DA.same (same_upd s14 (s14.free hq) _)) (Frame.same (same_upd s14 (s14.free hq) _)) (s14.free hq) ?_
      rw [upd_same, hzs.1, pairs_count, hys.1]
      dsimp only
      rw [List.map_append, ← nats_ints]
      rfl

/-! ### plain -/
def aPlain (ws : List V) (c : Si90.Call) : Prop := ws = [] ∧ c = .plain
theorem scDPlain : FnScope ["self", "plan"] ["self"] (defScope sDPlain) := ⟨rfl, rfl, rfl, by decide +kernel, rfl, by decide +kernel, by decide +kernel⟩
theorem out_plain {m : Box} : out m .plain = (m, ([(m.pairs m.plain : Int), (m.off m.plain : Int)] ++ m.plain.map fun (n : Nat) => (n : Int))) := rfl
theorem ok_dplain {f f1 f2 f3 : Addr} {fd fd1 fd2 fd3 : FuncData} (F : Fun K "plain" "Desk.plain" sDPlain f fd) (T : Txt K mg C) (D : DTxt K mg CD) (G : GOk P w K mg base CX0 "plain_plan" 2 ["box"] (spPlain C) f1 fd1)
    (M2 : MOk P w K mg base CX0 C 2 "pairs_of" ["self", "plan"] (spPairs C) f2 fd2) (M3 : MOk P w K mg base CX0 C 3 "off" ["self", "plan"] (spOff C) f3 fd3) :
    FnOk P w K mg base CX0 4 f fd ["self"] (spDesk0 CD C aPlain) := by
  refine F.ok scDPlain (fun vs H Q E h => ?_) (fun cdv A outer s H vs Q E hr h => ⟨_, pss_cons (ps_set (i := 1) scDPlain.nd rfl (Or.inl rfl) (pe_call G.ok (hr.mono (by decide)) (by rfl) G.gl G.kp G.bi .nil pass0 (pa_cons (pe_fld (pv 0) rfl) pa_nil)))
    (pss_one (ps_ret (pe_op op_cat (pe_lst (pa_cons (pe_callB call_len_seq (by rfl) T.len PySem.boot_len (pa_cons (pe_meth (pe_fld (pv 0) rfl) T.cl M2.me M2.ok (hr.mono (by decide)) M2.bi .nil pass0 (pa_cons (pv 1) pa_nil)) pa_nil))
      (pa_cons (pe_meth (pe_fld (pv 0) rfl) T.cl M3.me M3.ok hr M3.bi .nil pass0 (pa_cons (pv 1) pa_nil)) pa_nil))) (pv 1)))), ?_⟩)
  · obtain ⟨a, ddx, b, dx, l, r, m, ws, c, rfl, ⟨rfl, _⟩, _⟩ := h
    rfl
  · obtain ⟨a, ddx, b, dx, l, r, m, ws, c, rfl, ⟨rfl, rfl⟩, DA, fine, k1⟩ := h
    rw [out_plain] at k1
    refine ⟨_, rfl, a, CD, ddx, _, _, rfl, DA.de, D.cl, D.nB, dF_box, b, dx, l, r, m, rfl, DA.bo, fine, fun H1 q1 s1 hq1 hl1 => ?_⟩
    have hl5 := fine.nl
    have tld : Told m m.plain := ⟨plain_len m, plain_le m, by rw [plain_len]; omega⟩
    have D1 := DA.same s1
    refine ⟨_, rfl, a, CD, ddx, _, _, rfl, D1.de, D.cl, D.nB, dF_box, b, dx, _, rfl, D1.bo.ob, bF_no (by decide +kernel) (by decide +kernel) (by decide +kernel), _, rfl, b, dx, l, r, m, q1, m.plain, rfl, D1.bo, hl1, tld.2.2, fun H2 q2 zs s2 hq2 hl2 hzs => ?_⟩
    refine ⟨q2, zs, rfl, .inl (SqL.of hl2), ?_⟩
    have D2 := D1.same s2
    refine ⟨_, rfl, a, CD, ddx, _, _, rfl, D2.de, D.cl, D.nB, dF_box, b, dx, _, rfl, D2.bo.ob, bF_no (by decide +kernel) (by decide +kernel) (by decide +kernel), _, rfl, b, dx, l, r, m, q1, m.plain, rfl, D2.bo, s2 _ _ hl1, tld, fun H3 s3 => ?_⟩
    refine ⟨(by show 2 ≤ sizeLine; decide), fun z hz => ?_⟩
    have s23 := s2.trans s3
    have s13 := s1.trans s23
    have sz := same_new hz (.lst [.int (zs.length : Int), .int (m.off m.plain : Int)])
    refine ⟨_, rfl, z, q1, _, _, rfl, rfl, upd_same, sz _ _ (s23 _ _ hl1), ?_, fun q hq => ?_⟩
    · rw [nats_len, plain_len]
      exact Nat.le_of_lt (small10 (by simp; omega))
    · have s14 := s13.trans sz
      refine k1 _ b dx l r q (DA.same (same_upd s14 (s14.free hq) _)) (Frame.same (same_upd s14 (s14.free hq) _)) (s14.free hq) ?_
      rw [upd_same, hzs.1, pairs_count]
      dsimp only
      rw [List.map_append, ← nats_ints]
      rfl

/-! ### needs -/
def aNeeds (ws : List V) (c : Si90.Call) : Prop := ∃ n : Nat, ws = [.int (n : Int)] ∧ c = .needs n
theorem scNeeds : FnScope ["self", "many"] ["self", "many"] (defScope sNeeds) := ⟨rfl, rfl, rfl, by decide +kernel, rfl, by decide +kernel, by decide +kernel⟩
theorem out_need {m : Box} {n d : Nat} (h : m.needs n = some d) : out m (.needs n) = (m, [(d : Int)]) := by
  unfold out Si90.step
  dsimp only
  rw [h]
  rfl
theorem out_few {m : Box} {n : Nat} (h : m.needs n = none) : out m (.needs n) = (m, [-6]) := by
  unfold out Si90.step
  dsimp only
  rw [h]
  rfl
theorem ok_needs {f f1 fW : Addr} {fd fd1 fdW : FuncData} (F : Fun K "needs" "Desk.needs" sNeeds f fd) (T : Txt K mg C) (D : DTxt K mg CD) (M1 : MOk P w K mg base CX0 C 4 "needed" ["self", "many"] (spNeed C) f1 fd1)
    (W : GOk P w K mg base (L2.CX P w) "want" 3 ["good", "refusal"] (spWant CR) fW fdW) :
    FnOk P w K mg base (L2.CX P w) 5 f fd ["self", "many"] (spDesk CD C CR aNeeds) := by
  obtain ⟨t1, gFew⟩ := D.few
  refine F.okX scNeeds (fun vs H Q E h => ?_) (fun cdv A outer s H vs Q E hr h => ⟨_, pss_cons (ps_expr (pe_call W.ok (hr.mono (by decide)) (by rfl) W.gl W.kp W.bi .nil (leaves (takes_of rfl rfl rfl rfl)) (pa_cons
      (pe_and (pe_cmpR op_le (pv 1) (pe_callB call_len_seq (by rfl) T.len PySem.boot_len (pa_cons (pe_fld (pe_fld (pv 0) rfl) rfl) pa_nil)) (nomark _)) (pe_one (pe_cmpR op_le (pv 1) (pe_callB call_len_seq (by rfl) T.len PySem.boot_len (pa_cons (pe_fld (pe_fld (pv 0) rfl) rfl) pa_nil)) (nomark _)))) (pa_cons (pe_gi rfl gFew) pa_nil))))
    (pss_one (ps_ret (pe_lst (pa_cons (pe_meth (pe_fld (pv 0) rfl) T.cl M1.me M1.ok hr M1.bi .nil pass0 (pa_cons (pv 1) pa_nil)) pa_nil)))), ?_⟩)
  · obtain ⟨a, ddx, b, dx, l, r, m, ws, c, rfl, ⟨n, rfl, _⟩, _⟩ := h
    rfl
  · obtain ⟨a, ddx, b, dx, l, r, m, ws, c, rfl, ⟨n, rfl, rfl⟩, DA, fine, k1, k2⟩ := h
    refine ⟨_, rfl, ⟨_, rfl, a, CD, ddx, _, _, rfl, DA.de, D.cl, D.nB, dF_box, b, C, dx, _, _, rfl, DA.bo.ob, T.cl, T.nL, bF_lefts, l, _, rfl, .inl (SqL.of DA.bo.ll), _, _, rfl, rfl, _, rfl, ?_⟩⟩
    by_cases h1 : n ≤ m.lefts.length
    · refine ifT (decide_eq_true (by rw [nats_len]; omega)) ?_
      refine ⟨_, rfl, ⟨_, rfl, a, CD, ddx, _, _, rfl, DA.de, D.cl, D.nB, dF_box, b, C, dx, _, _, rfl, DA.bo.ob, T.cl, T.nR, bF_rights, r, _, rfl, .inl (SqL.of DA.bo.rr), _, _, rfl, rfl, _, _, rfl, fun hg H1 s1 => ?_, fun hg => ?_⟩⟩
      · have h2 : n ≤ m.rights.length := by have := of_decide_eq_true hg; rw [nats_len] at this; omega
        have D1 := DA.same s1
        refine ⟨_, rfl, a, CD, ddx, _, _, rfl, D1.de, D.cl, D.nB, dF_box, b, dx, _, rfl, D1.bo.ob, bF_no (by decide +kernel) (by decide +kernel) (by decide +kernel), _, rfl, b, dx, l, r, m, n, rfl, D1.bo, fine, h1, h2, fun H2 d s2 hd => ?_⟩
        refine ⟨(by show 1 ≤ sizeLine; decide), fun q hq => ?_⟩
        rw [out_need hd] at k1
        have s12 := s1.trans s2
        exact k1 _ b dx l r q (DA.same (same_upd s12 (s12.free hq) _)) (Frame.same (same_upd s12 (s12.free hq) _)) (s12.free hq) upd_same
      · have h2 : ¬ n ≤ m.rights.length := by have := of_decide_eq_false hg; rw [nats_len] at this; omega
        rw [out_few (needs_none fine (fun z => h2 z.2))] at k2
        exact k2 rfl
    · refine ifF (decide_eq_false (by rw [nats_len]; omega)) ?_
      refine ⟨_, _, rfl, fun hg => (Bool.noConfusion hg), fun _ => ?_⟩
      rw [out_few (needs_none fine (fun z => h1 z.1))] at k2
      exact k2 rfl
end
end Gp

/-! of_call, answer, answers. -/
namespace Gp
open PySem PySem.Spec PyProof.Rows L2
open Si90 (Box)
/-! ### a method's call within a try: what it raises is wished for at the slots as they stand (after the kit's worked proof) -/
def tMethS (C : Addr) (m : Str) (sp : Sp) (E : L2.St → XK) (ta : TE) (t : TA) : TE := fun σ H Q => ta σ H fun x H1 => ∃ a dx fs, x = .ref a ∧ H1 a = some (.ins C dx fs) ∧ fs.lookup m = none ∧ t σ H1 fun vs H2 => sp (x :: vs) H2 Q (E σ)
theorem pe_methS {X : Cx} {CX : CXT} {k : Nat} {f C : Addr} {fd : FuncData} {ps : List Str} {sp : Sp} {E : L2.St → XK} {m : Str} {pos apos : Pos} {e o : Expr} {es : List Expr} {ta : TE} {t : TA} {pl : Sem Bool} (he : PE X o ta) (c : Cls X.K C) (hm : Meth X.K C m f)
    (F : FnOk X.prog X.w X.K X.mg X.base CX k f fd ps sp) (hr : Room k X.A) (hb : Binds X.K fd ps []) (hx : ∀ σ, PassesAt CX X σ (E σ)) (ha : PA X (e :: es) t)
    (hst : starEach (e :: es) X.env = (false, eval e X.env) :: starEach es X.env := by rfl) (hpl : (backTo pos (starEach es X.env)).any (·.1) = false := by rfl)
    (ht : eval (.Call (.Attribute o m apos) (e :: es) [] pos) X.env = (do
      let ov ← eval o X.env
      standAt apos.atName
      let (f, first) ← holding [ov] (getMethod ov m pl)
      callWith pos f first (backTo pos (starEach (e :: es) X.env)) (backToKw pos (keywordEach [] X.env))) := by rfl) :
    PE X (.Call (.Attribute o m apos) (e :: es) [] pos) (tMethS C m sp E ta t) := by
  refine ⟨fun pins s σ H Q I h => ?_⟩
  refine PySem.W.methodCall_KW (pl := pl) (thn (he.run pins s σ H _ I h) fun u s1 ⟨x, H1, I1, rx, a, dx, fs, ex, ea, l, q⟩ => ?_) ht
  subst ex
  obtain rfl : u = Value.ref a := rx
  refine getmeth_ok I1 ea c hm l ?_
  refine PySem.W.callWith_K (first := [.ref a]) (h₀ := X.base) I.ok.mod.kin hm.kp (thn (ha.run pos pins s1 σ H1 _ I1 q) fun us s2 ⟨vs, H2, I2, r, q2⟩ => ⟨I2.kIn, ?_⟩) hst hpl
  exact run_fnS (us := .ref a :: us) (vs := .ref a :: vs) F hr hb (hx σ) I2 (.cons rfl r) q2
section
variable {P : Program} {w : World} {K : PySem.W.Frag} {mg : Str → Option Value} {base : Heap} {CD C CR fRI : Addr} {CX : CXT}

/-! ### of_call -/
def spOf (CD C CR : Addr) : Sp := fun vs H Q E => ∃ (a ddx b dx l r : Addr) (m : Box) (k : Nat) (n : Addr) (ns : List Nat) (c : Si90.Call), vs = [.ref a, .int (k : Int), .ref n] ∧ H n = some (planO ns) ∧ CallIs k ns c ∧ DeskAt CD C H a ddx b dx l r m ∧ Fine m ∧ KOk CD C H a ddx b l r (out m c) Q ∧ KErr CR H m (out m c) E
theorem scOf : FnScope ["self", "call", "n"] ["self", "call", "n"] (defScope sOf) := ⟨rfl, rfl, rfl, by decide +kernel, rfl, by decide +kernel, by decide +kernel⟩
/-- the desk's methods -/
structure Meths (P : Program) (w : World) (K : PySem.W.Frag) (mg : Str → Option Value) (base : Heap) (CD C CR : Addr) (f1 f2 f3 f4 f5 f6 f7 : Addr) (fd1 fd2 fd3 fd4 fd5 fd6 fd7 : FuncData) : Prop where
  begins : MOk P w K mg base (L2.CX P w) CD 4 "begins" ["self", "differ"] (spDesk CD C CR aBegins) f1 fd1
  left : MOk P w K mg base (L2.CX P w) CD 4 "put_left" ["self", "size"] (spDesk CD C CR aLeft) f2 fd2
  right : MOk P w K mg base (L2.CX P w) CD 4 "put_right" ["self", "size"] (spDesk CD C CR aRight) f3 fd3
  check : MOk P w K mg base (L2.CX P w) CD 4 "check" ["self", "plan"] (spCheck CD C CR) f4 fd4
  best : MOk P w K mg base CX0 CD 6 "best" ["self"] (spDesk0 CD C aBest) f5 fd5
  plain : MOk P w K mg base CX0 CD 4 "plain" ["self"] (spDesk0 CD C aPlain) f6 fd6
  needs : MOk P w K mg base (L2.CX P w) CD 5 "needs" ["self", "many"] (spDesk CD C CR aNeeds) f7 fd7
theorem dec_no {k j : Nat} (h : k ≠ j) : decide (V.int (k : Int) = V.int (j : Int)) = false := by
  refine decide_eq_false fun z => h ?_
  injection z with z
  omega
theorem dec_yes {k j : Nat} (h : k = j) : decide (V.int (k : Int) = V.int (j : Int)) = true := by
  subst h
  exact decide_eq_true rfl
theorem ok_of {f f1 f2 f3 f4 f5 f6 f7 : Addr} {fd fd1 fd2 fd3 fd4 fd5 fd6 fd7 : FuncData} (F : Fun K "of_call" "Desk.of_call" sOf f fd) (D : DTxt K mg CD) (M : Meths P w K mg base CD C CR f1 f2 f3 f4 f5 f6 f7 fd1 fd2 fd3 fd4 fd5 fd6 fd7) :
    FnOk P w K mg base (L2.CX P w) 7 f fd ["self", "call", "n"] (spOf CD C CR) := by
  refine F.okX scOf (fun vs H Q E h => ?_) (fun cdv A outer s H vs Q E hr h => ⟨_,
    pss_cons (ps_if (pt_cmpR op_eq (pv 1) pe_int (nomark _)) (pss_one (ps_ret (pe_meth (pv 0) D.cl M.begins.me M.begins.ok (hr.mono (by decide)) M.begins.bi .nil (leaves (takes_of rfl rfl rfl rfl)) (pa_cons (pe_ix ix_list (pv 2) pe_int (fun _ _ => rfl)) pa_nil)))) pss_nil)
    (pss_cons (ps_if (pt_cmpR op_eq (pv 1) pe_int (nomark _)) (pss_one (ps_ret (pe_meth (pv 0) D.cl M.left.me M.left.ok (hr.mono (by decide)) M.left.bi .nil (leaves (takes_of rfl rfl rfl rfl)) (pa_cons (pe_ix ix_list (pv 2) pe_int (fun _ _ => rfl)) pa_nil)))) pss_nil)
    (pss_cons (ps_if (pt_cmpR op_eq (pv 1) pe_int (nomark _)) (pss_one (ps_ret (pe_meth (pv 0) D.cl M.right.me M.right.ok (hr.mono (by decide)) M.right.bi .nil (leaves (takes_of rfl rfl rfl rfl)) (pa_cons (pe_ix ix_list (pv 2) pe_int (fun _ _ => rfl)) pa_nil)))) pss_nil)
    (pss_cons (ps_if (pt_cmpR op_eq (pv 1) pe_int (nomark _)) (pss_one (ps_ret (pe_meth (pv 0) D.cl M.check.me M.check.ok (hr.mono (by decide)) M.check.bi .nil (leaves (takes_of rfl rfl rfl rfl)) (pa_cons (pv 2) pa_nil)))) pss_nil)
    (pss_cons (ps_if (pt_cmpR op_eq (pv 1) pe_int (nomark _)) (pss_one (ps_ret (pe_meth0 (pv 0) D.cl M.best.me M.best.ok hr M.best.bi .nil pass0))) pss_nil)
    (pss_cons (ps_if (pt_cmpR op_eq (pv 1) pe_int (nomark _)) (pss_one (ps_ret (pe_meth0 (pv 0) D.cl M.plain.me M.plain.ok (hr.mono (by decide)) M.plain.bi .nil pass0))) pss_nil)
    (pss_one (ps_ret (pe_meth (pv 0) D.cl M.needs.me M.needs.ok (hr.mono (by decide)) M.needs.bi .nil (leaves (takes_of rfl rfl rfl rfl)) (pa_cons (pe_ix ix_list (pv 2) pe_int (fun _ _ => rfl)) pa_nil))))))))), ?_⟩)
  · obtain ⟨a, ddx, b, dx, l, r, m, k, n, ns, c, rfl, _⟩ := h
    rfl
  · obtain ⟨a, ddx, b, dx, l, r, m, k, n, ns, c, rfl, hn, hc, DA, fine, k1, k2⟩ := h
    have no0 : ∀ {k : Nat}, k ≠ 0 → decide (V.int (k : Int) = V.int 0) = false := fun h => dec_no h
    rcases hc with ⟨rfl, d, rfl, rfl⟩ | ⟨rfl, d, rfl, rfl⟩ | ⟨rfl, d, rfl, rfl⟩ | ⟨rfl, h6, rfl⟩ | ⟨rfl, rfl, rfl⟩ | ⟨rfl, rfl, rfl⟩ | ⟨rfl, d, rfl, rfl⟩
    · refine ⟨_, rfl, rfl, _, rfl, ?_⟩
      refine ifT (dec_yes (j := 0) rfl) ?_
      exact ⟨_, rfl, a, ddx, _, rfl, DA.de, dF_no (by decide +kernel), _, rfl, n, _, _, _, rfl, rfl, SqL.of hn, at_of (j := 0) rfl rfl, a, ddx, b, dx, l, r, m, _, _, rfl, ⟨d, rfl, rfl⟩, DA, fine, k1, k2⟩
    · refine ⟨_, rfl, rfl, _, rfl, ?_⟩
      refine ifF (dec_no (j := 0) (by decide)) ?_
      refine ⟨_, rfl, rfl, _, rfl, ?_⟩
      refine ifT (dec_yes (j := 1) rfl) ?_
      exact ⟨_, rfl, a, ddx, _, rfl, DA.de, dF_no (by decide +kernel), _, rfl, n, _, _, _, rfl, rfl, SqL.of hn, at_of (j := 0) rfl rfl, a, ddx, b, dx, l, r, m, _, _, rfl, ⟨d, rfl, rfl⟩, DA, fine, k1, k2⟩
    · refine ⟨_, rfl, rfl, _, rfl, ?_⟩
      refine ifF (dec_no (j := 0) (by decide)) ?_
      refine ⟨_, rfl, rfl, _, rfl, ?_⟩
      refine ifF (dec_no (j := 1) (by decide)) ?_
      refine ⟨_, rfl, rfl, _, rfl, ?_⟩
      refine ifT (dec_yes (j := 2) rfl) ?_
      exact ⟨_, rfl, a, ddx, _, rfl, DA.de, dF_no (by decide +kernel), _, rfl, n, _, _, _, rfl, rfl, SqL.of hn, at_of (j := 0) rfl rfl, a, ddx, b, dx, l, r, m, _, _, rfl, ⟨d, rfl, rfl⟩, DA, fine, k1, k2⟩
    · refine ⟨_, rfl, rfl, _, rfl, ?_⟩
      refine ifF (dec_no (j := 0) (by decide)) ?_
      refine ⟨_, rfl, rfl, _, rfl, ?_⟩
      refine ifF (dec_no (j := 1) (by decide)) ?_
      refine ⟨_, rfl, rfl, _, rfl, ?_⟩
      refine ifF (dec_no (j := 2) (by decide)) ?_
      refine ⟨_, rfl, rfl, _, rfl, ?_⟩
      refine ifT (dec_yes (j := 3) rfl) ?_
      exact ⟨_, rfl, a, ddx, _, rfl, DA.de, dF_no (by decide +kernel), _, rfl, a, ddx, b, dx, l, r, m, n, ns, rfl, hn, by omega, DA, fine, k1, k2⟩
    · refine ⟨_, rfl, rfl, _, rfl, ?_⟩
      refine ifF (dec_no (j := 0) (by decide)) ?_
      refine ⟨_, rfl, rfl, _, rfl, ?_⟩
      refine ifF (dec_no (j := 1) (by decide)) ?_
      refine ⟨_, rfl, rfl, _, rfl, ?_⟩
      refine ifF (dec_no (j := 2) (by decide)) ?_
      refine ⟨_, rfl, rfl, _, rfl, ?_⟩
      refine ifF (dec_no (j := 3) (by decide)) ?_
      refine ⟨_, rfl, rfl, _, rfl, ?_⟩
      refine ifT (dec_yes (j := 4) rfl) ?_
      exact ⟨_, rfl, a, ddx, _, rfl, DA.de, dF_no (by decide +kernel), a, ddx, b, dx, l, r, m, _, _, rfl, ⟨rfl, rfl⟩, DA, fine, k1⟩
    · refine ⟨_, rfl, rfl, _, rfl, ?_⟩
      refine ifF (dec_no (j := 0) (by decide)) ?_
      refine ⟨_, rfl, rfl, _, rfl, ?_⟩
      refine ifF (dec_no (j := 1) (by decide)) ?_
      refine ⟨_, rfl, rfl, _, rfl, ?_⟩
      refine ifF (dec_no (j := 2) (by decide)) ?_
      refine ⟨_, rfl, rfl, _, rfl, ?_⟩
      refine ifF (dec_no (j := 3) (by decide)) ?_
      refine ⟨_, rfl, rfl, _, rfl, ?_⟩
      refine ifF (dec_no (j := 4) (by decide)) ?_
      refine ⟨_, rfl, rfl, _, rfl, ?_⟩
      refine ifT (dec_yes (j := 5) rfl) ?_
      exact ⟨_, rfl, a, ddx, _, rfl, DA.de, dF_no (by decide +kernel), a, ddx, b, dx, l, r, m, _, _, rfl, ⟨rfl, rfl⟩, DA, fine, k1⟩
    · refine ⟨_, rfl, rfl, _, rfl, ?_⟩
      refine ifF (dec_no (j := 0) (by decide)) ?_
      refine ⟨_, rfl, rfl, _, rfl, ?_⟩
      refine ifF (dec_no (j := 1) (by decide)) ?_
      refine ⟨_, rfl, rfl, _, rfl, ?_⟩
      refine ifF (dec_no (j := 2) (by decide)) ?_
      refine ⟨_, rfl, rfl, _, rfl, ?_⟩
      refine ifF (dec_no (j := 3) (by decide)) ?_
      refine ⟨_, rfl, rfl, _, rfl, ?_⟩
      refine ifF (dec_no (j := 4) (by decide)) ?_
      refine ⟨_, rfl, rfl, _, rfl, ?_⟩
      refine ifF (dec_no (j := 5) (by decide)) ?_
      exact ⟨_, rfl, a, ddx, _, rfl, DA.de, dF_no (by decide +kernel), _, rfl, n, _, _, _, rfl, rfl, SqL.of hn, at_of (j := 0) rfl rfl, a, ddx, b, dx, l, r, m, _, _, rfl, ⟨d, rfl, rfl⟩, DA, fine, k1, k2⟩

/-! ### answer -/
def spAnswer (CD C : Addr) : Sp := fun vs H Q _ => ∃ (a ddx b dx l r : Addr) (m : Box) (k : Nat) (n : Addr) (ns : List Nat) (c : Si90.Call), vs = [.ref a, .int (k : Int), .ref n] ∧ H n = some (planO ns) ∧ CallIs k ns c ∧ DeskAt CD C H a ddx b dx l r m ∧ Fine m ∧ KOk CD C H a ddx b l r (out m c) Q
theorem scAnswer : FnScope ["self", "call", "n", "found", "e"] ["self", "call", "n"] (defScope sAnswer) := ⟨rfl, rfl, rfl, by decide +kernel, rfl, by decide +kernel, by decide +kernel⟩
theorem ok_answer {f f1 : Addr} {fd fd1 : FuncData} (F : Fun K "answer" "Desk.answer" sAnswer f fd) (D : DTxt K mg CD) (R : RTxt K mg CR fRI) (M : MOk P w K mg base (L2.CX P w) CD 7 "of_call" ["self", "call", "n"] (spOf CD C CR) f1 fd1) :
    FnOk P w K mg base CX0 8 f fd ["self", "call", "n"] (spAnswer CD C) := by
  refine F.ok scAnswer (fun vs H Q E h => ?_) (fun cdv A outer s H vs Q E hr h => ⟨_, pss_cons (ps_set (i := 3) scAnswer.nd rfl (Or.inl rfl) (pe_lst pa_nil))
    (pss_cons (ps_try_as (i := 4) (tb := fun W => tAsg (tMethS CD "of_call" (spOf CD C CR) (WE W) (tVar 0) (tCons (tVar 1) (tCons (tVar 2) tNil))) (gName 3)) (ts := fun a cls d => tAsg (tXf a cls d CR "told" (tVar 4)) (gName 3)) (Wout := fun _ _ _ _ => False) rfl rfl scAnswer.nd rfl rfl ⟨rfl, by decide, Or.inl R.gRef⟩ takes0
        (fun W pn xe tk _ => pss_one (ps_set (i := 3) scAnswer.nd rfl (Or.inl rfl) (by exact (pe_methS (pv 0) D.cl M.me M.ok hr M.bi (fun σ => passAt tk σ) (by exact (pa_cons (pv 1) (pa_cons (pv 2) pa_nil)))))))
        (fun a oe cls d pn hz hf => pss_one (ps_set (i := 3) scAnswer.nd rfl (Or.inl rfl) (by exact (pe_xf R.xf R.noT hz hf (pv 4))))))
    (pss_one (ps_ret (pv 3)))), ?_⟩)
  · obtain ⟨a, ddx, b, dx, l, r, m, k, n, ns, c, rfl, _⟩ := h
    rfl
  · obtain ⟨a, ddx, b, dx, l, r, m, k, n, ns, c, rfl, hn, hc, DA, fine, k1⟩ := h
    refine ⟨Nat.zero_le _, fun z hz => ?_⟩
    have sz : Same H (upd H z (.lst [])) := same_new hz _
    have D1 := DA.same sz
    refine ⟨_, rfl, a, ddx, _, rfl, D1.de, dF_no (by decide +kernel), _, rfl, _, rfl, a, ddx, b, dx, l, r, m, k, n, ns, c, rfl, sz _ _ hn, hc, D1, fine, fun H' b' dx' l' r' q D' f' hq he => ?_, fun hm d t H' s' hd ht e1 e2 => ?_⟩
    · exact ⟨_, rfl, k1.same sz H' b' dx' l' r' q D' f' hq he⟩
    · refine ⟨true, R.te, fun _ a0 _ => ?_, fun q => Bool.noConfusion q⟩
      refine ⟨_, rfl, rfl, rfl, d, _, .ref t, rfl, e1, lk_here, ?_⟩
      refine ⟨_, rfl, ?_⟩
      have s2 := sz.trans s'
      refine k1 H' b dx l r t ?_ (Frame.same s2) (sz.free ht) e2
      rw [hm]
      exact DA.same s2
end
end Gp

/-! answers. -/
namespace Gp
open PySem PySem.Spec PyProof.Rows L2
open Si90 (Box)
section
variable {P : Program} {w : World} {K : PySem.W.Frag} {mg : Str → Option Value} {base : Heap} {CD C CR fRI : Addr} {CX : CXT}
def spAns (K : PySem.W.Frag) : Sp := fun vs H Q _ => ∃ (a : Addr) (ns : List Int), vs = [.ref a] ∧ SqL K H a (ns.map V.int) ∧ PySi90.answers_asked ns = true ∧
  ∀ (H' : Hp) (p : Addr), H' p = some (.lst ((PySi90.answers ns).map V.int)) → Q (.ref p) H'
theorem scAnswers : FnScope ["calls", "found", "desk", "place", "behind", "answer"] ["calls"] (defScope sAnswers) := ⟨rfl, rfl, rfl, by decide +kernel, rfl, by decide +kernel, by decide +kernel⟩
/-- between two calls -/
structure AInv (CD C : Addr) (H0 : Hp) (ns : List Int) (H' : Hp) (F a ddx b dx l r : Addr) (i : Nat) (m : Box) (found : List Int) (rest : List (List (List Int))) : Prop where
  sm : Same H0 H'
  nF : H0 F = none
  na : H0 a = none
  nb : H0 b = none
  nl : H0 l = none
  nr : H0 r = none
  hF : H' F = some (.lst (found.map V.int))
  Fa : F ≠ a
  Fb : F ≠ b
  Fl : F ≠ l
  Fr : F ≠ r
  de : DeskAt CD C H' a ddx b dx l r m
  to : Told1 ns i m found rest
theorem DeskAt.beside {H : Hp} {a ddx b dx l r F : Addr} {m : Box} {o : HO} (D : DeskAt CD C H a ddx b dx l r m) (Fa : F ≠ a) (Fb : F ≠ b) (Fl : F ≠ l) (Fr : F ≠ r) : DeskAt CD C (upd H F o) a ddx b dx l r m :=
  ⟨(upd_ne (Ne.symm Fa)).trans D.de, ⟨(upd_ne (Ne.symm Fb)).trans D.bo.ob, (upd_ne (Ne.symm Fl)).trans D.bo.ll, (upd_ne (Ne.symm Fr)).trans D.bo.rr⟩, D.lr⟩
/-- the while's word -/
def AWord (CD C : Addr) (H0 : Hp) (A0 : Addr) (ns : List Int) (n : Nat) (σ : L2.St) (H' : Hp) : Prop := ∃ (F a ddx b dx l r : Addr) (i : Nat) (m : Box) (found : List Int) (rest : List (List (List Int))) (z : Int) (v4 v5 : Option V),
  σ = [some (.ref A0), some (.ref F), some (.ref a), some (.int z), v4, v5] ∧ z = (i : Int) ∧ AInv CD C H0 ns H' F a ddx b dx l r i m found rest ∧ n = rest.length
theorem ints_nats {n : List Int} (h : ∀ x ∈ n, 0 ≤ x) : n.map V.int = nats (n.map Int.toNat) := by
  unfold nats
  rw [List.map_map]
  refine List.map_congr_left fun x hx => ?_
  show V.int x = V.int ((x.toNat : Nat) : Int)
  have := h x hx
  congr 1
  omega
theorem cut_mid {ns n t : List Int} {i : Nat} {p : Int} (h : ns.drop i = p :: (n.length : Int) :: (n ++ 0 :: t)) : cutV (ns.map V.int) (some ((i : Int) + 2)) (some ((i : Int) + 2 + (n.length : Int))) = n.map V.int := by
  have hl : ns.length - i = n.length + t.length + 3 := by
    have := congrArg List.length h
    rw [List.length_drop] at this
    simp at this
    omega
  unfold cutV
  have e1 : (i : Int) + 2 = ((i + 2 : Nat) : Int) := by omega
  have e2 : (i : Int) + 2 + (n.length : Int) = ((i + 2 + n.length : Nat) : Int) := by omega
  rw [e2, e1, HT.sIx_nat, HT.sIx_nat, List.length_map, Nat.min_eq_left (by omega), Nat.min_eq_left (by omega)]
  have e3 : i + 2 + n.length - (i + 2) = n.length := by omega
  rw [e3, ← List.map_drop, ← List.map_take]
  congr 1
  have e4 : ns.drop (i + 2) = n ++ 0 :: t := by
    have : ns.drop (i + 2) = (ns.drop i).drop 2 := by rw [List.drop_drop]
    rw [this, h]
    rfl
  rw [e4]
  simp
theorem at_drop {ns : List Int} {i j : Nat} {x : Int} {r : List Int} (h : ns.drop i = r) (hx : r[j]? = some x) : (ns.map V.int)[i + j]? = some (.int x) := by
  rw [List.getElem?_map]
  have : ns[i + j]? = some x := by rw [← List.getElem?_drop, h]; exact hx
  rw [this]
  rfl
theorem ok_answers {f f1 f2 : Addr} {fd fd1 fd2 : FuncData} (F : Fun K "answers" "answers" sAnswers f fd) (T : Txt K mg C) (D : DTxt K mg CD) (MK : Mk K CD f1) (gD : mg "Desk" = some (.ref CD))
    (F1 : FnOk P w K mg base CX0 3 f1 fd1 ["self"] (spDInit CD C)) (B1 : Binds K fd1 ["self"] []) (M : MOk P w K mg base CX0 CD 8 "answer" ["self", "call", "n"] (spAnswer CD C) f2 fd2) :
    FnOk P w K mg base CX0 9 f fd ["calls"] (spAns K) := by
  refine F.ok scAnswers (fun vs H Q E h => ?_) (fun cdv A outer s H vs Q E hr h => ⟨_, pss_cons (ps_set (i := 1) scAnswers.nd rfl (Or.inl rfl) (pe_lst pa_nil))
    (pss_cons (ps_set (i := 2) scAnswers.nd rfl (Or.inl rfl) (pe_make0 MK F1 (hr.mono (by decide)) (by rfl) gD B1 .nil pass0))
    (pss_cons (ps_set (i := 3) scAnswers.nd rfl (Or.inl rfl) pe_int)
    (pss_cons (ps_while PassesOwn.never (pt_cmpR op_lt (pv 3) (pe_callB call_len_seq (by rfl) T.len PySem.boot_len (pa_cons (pv 0) pa_nil)) (nomark _))
      (pss_cons (ps_set (i := 4) scAnswers.nd rfl (Or.inl rfl) (pe_op op_add (pe_op op_add (pv 3) pe_int) (pe_ix ix_list (pv 0) (pe_op op_add (pv 3) pe_int) (fun _ _ => rfl))))
      (pss_cons (ps_set (i := 5) scAnswers.nd rfl (Or.inl rfl) (pe_meth (pv 2) D.cl M.me M.ok hr M.bi .nil pass0 (pa_cons (pe_ix ix_list (pv 0) (pv 3) (fun _ _ => rfl)) (pa_cons (pe_slice sl_list (pv 0) (po_some (pe_op op_add (pv 3) pe_int)) (po_some (pv 4))) pa_nil))))
      (pss_cons (ps_expr (pe_bm PySem.F.plainAttrs_list PySem.F.slot_list_append PySem.F.type_list_append mt_append (pv 1) (pa_cons (pe_callB call_len_seq (by rfl) T.len PySem.boot_len (pa_cons (pv 5) pa_nil)) pa_nil)))
      (pss_cons (ps_expr (pe_bm PySem.F.plainAttrs_list PySem.F.slot_list_extend PySem.F.type_list_extend mt_extend (pv 1) (pa_cons (pv 5) pa_nil)))
      (pss_one (ps_set (i := 3) scAnswers.nd rfl (Or.inl rfl) (pe_op op_add (pv 4) pe_int))))))))
    (pss_one (ps_ret (pv 1)))))), ?_⟩)
  · obtain ⟨a, ns, rfl, _⟩ := h
    rfl
  · obtain ⟨A0, ns, rfl, hS, asked, q⟩ := h
    refine ⟨Nat.zero_le _, fun F0 hF0 => ?_⟩
    have sF : Same H (upd H F0 (.lst [])) := same_new hF0 _
    refine fun x ddx hx hddx ne => ⟨x, ddx, rfl, upd_same, fun H1 b dx l r DA k hb hl hr1 => ⟨rfl, ?_⟩⟩
    have bx : b ≠ x := Ne.symm (ne_of_none (o := .ins CD ddx []) upd_same hb)
    have lx : l ≠ x := Ne.symm (ne_of_none (o := .ins CD ddx []) upd_same hl)
    have rx : r ≠ x := Ne.symm (ne_of_none (o := .ins CD ddx []) upd_same hr1)
    rw [upd_ne bx] at hb
    rw [upd_ne lx] at hl
    rw [upd_ne rx] at hr1
    have bd : b ≠ ddx := Ne.symm (ne_of_none (o := .own x) upd_same hb)
    have ld : l ≠ ddx := Ne.symm (ne_of_none (o := .own x) upd_same hl)
    have rd : r ≠ ddx := Ne.symm (ne_of_none (o := .own x) upd_same hr1)
    rw [upd_ne bd] at hb
    rw [upd_ne ld] at hl
    rw [upd_ne rd] at hr1
    have s1 : Same (upd H F0 (.lst [])) H1 := Same.made hx hddx k
    have hF1 : upd H F0 (.lst []) F0 = some (.lst []) := upd_same
    obtain ⟨cs, T0⟩ := told_start asked
    refine ⟨AWord CD C H A0 ns, ⟨_, F0, x, ddx, b, dx, l, r, 0, _, [], cs, 0, none, none, rfl, rfl, ⟨sF.trans s1, hF0, sF.free hx, sF.free hb, sF.free hl, sF.free hr1, s1 _ _ hF1, ne_of_none hF1 hx, ne_of_none hF1 hb, ne_of_none hF1 hl, ne_of_none hF1 hr1, DA, T0⟩, rfl⟩, ?_⟩
    rintro n σ H' ⟨F, a, ddx, b, dx, l, r, i, m, found, rest, z, v4, v5, rfl, rfl, I, rfl⟩
    refine ⟨_, rfl, _, rfl, A0, _, rfl, .inl (I.sm.seq hS), _, _, rfl, rfl, _, rfl, ?_⟩
    cases rest with
    | nil =>
      obtain ⟨e1, e2⟩ := told_end I.to
      have hlen := List.drop_eq_nil_iff.mp e2
      refine ifF (decide_eq_false (by rw [List.length_map]; omega)) ?_
      refine ⟨_, rfl, q H' F ?_⟩
      rw [e1]
      exact I.hF
    | cons c rest =>
      obtain ⟨p, nn, t, qc, hd, hp, hnn, hcall, T1⟩ := told_more I.to
      have hlen : i < ns.length := by
        have := congrArg List.length hd
        rw [List.length_drop] at this
        simp at this
        omega
      refine ifT (decide_eq_true (by rw [List.length_map]; omega)) ?_
      refine ⟨fun σ' H' => ∃ m', m' < (c :: rest).length ∧ AWord CD C H A0 ns m' σ' H', fun _ _ h => h, ?_⟩
      obtain ⟨pn, rfl⟩ := Int.eq_ofNat_of_zero_le hp
      rw [Int.toNat_natCast] at hcall
      refine ⟨_, rfl, _, _, rfl, rfl, _, rfl, _, rfl, _, _, rfl, rfl, A0, _, _, _, rfl, rfl, I.sm.seq hS, at_of (j := i + 1) (by omega) (at_drop hd (j := 1) rfl), _, _, rfl, rfl, ?_⟩
      refine ⟨_, rfl, a, ddx, _, rfl, I.de.de, dF_no (by decide +kernel), _, rfl, _, rfl, A0, _, _, _, rfl, rfl, I.sm.seq hS, at_of (j := i) rfl (at_drop hd (j := 0) rfl), _, rfl, _, rfl, _, _, rfl, rfl, _, rfl, _, rfl, _, rfl, A0, _, rfl, I.sm.seq hS, fun p1 hp1 => ?_⟩
      rw [cut_mid hd, ints_nats hnn]
      have sp : Same H' (upd H' p1 (.lst (nats (nn.map Int.toNat)))) := same_new hp1 _
      refine ⟨a, ddx, b, dx, l, r, m, pn, p1, nn.map Int.toNat, qc, rfl, upd_same, hcall, I.de.same sp, I.to.fin, fun H2 b' dx' l' r' q1 D2 fr hq1 hq2 => ?_⟩
      have hFp := sp _ _ I.hF
      obtain ⟨hF2, Fb', Fl', Fr'⟩ := fr F _ hFp I.Fa I.Fb I.Fl I.Fr
      have Fq : F ≠ q1 := ne_of_none hFp hq1
      have few1 := T1.few
      have few2 : (found.map V.int).length ≤ 1000 ∧ ((out m qc).2.map V.int).length ≤ 1000 := by
        simp at few1 ⊢
        omega
      refine ⟨_, rfl, Or.inl ⟨rfl, _, SqL.of hF2⟩, _, rfl, q1, _, rfl, .inl (SqL.of hq2), F, _, _, rfl, rfl, hF2, small10 (by omega), ?_⟩
      have hq3 : upd H2 F (.lst (found.map V.int ++ [.int (((out m qc).2.map V.int).length : Int)])) q1 = some (.lst ((out m qc).2.map V.int)) := (upd_ne (Ne.symm Fq)).trans hq2
      refine ⟨_, rfl, Or.inl ⟨rfl, _, SqL.of upd_same⟩, _, rfl, F, q1, _, _, rfl, rfl, upd_same, hq3, Nat.le_of_lt (small10 (by rw [List.length_append]; simp at few2 ⊢; omega)), ?_⟩
      have old : ∀ c o, H c = some o → H2 c = some o ∧ c ≠ b' ∧ c ≠ l' ∧ c ≠ r' := fun c o hc =>
        fr c o (sp _ _ (I.sm _ _ hc)) (ne_of_none hc I.na) (ne_of_none hc I.nb) (ne_of_none hc I.nl) (ne_of_none hc I.nr)
      have fresh : ∀ c, (∀ o, H c = some o → c ≠ c) → H c = none := fun c hc => by
        cases e : H c with
        | none => rfl
        | some o => exact absurd rfl (hc o e)
      refine ⟨_, rfl, _, _, rfl, rfl, rest.length, by simp, F, a, ddx, b', dx', l', r', i + 3 + nn.length, _, _, rest, _, _, _, rfl, by omega, ⟨fun c o hc => ?_, I.nF, I.na, fresh b' fun o hc => (old _ o hc).2.1, fresh l' fun o hc => (old _ o hc).2.2.1, fresh r' fun o hc => (old _ o hc).2.2.2, ?_, I.Fa, Fb', Fl', Fr', ?_, T1⟩, rfl⟩
      · rw [upd_ne (ne_of_none hc I.nF), upd_ne (ne_of_none hc I.nF)]
        exact (old c o hc).1
      · rw [upd_same]
        simp
      · exact (D2.beside I.Fa Fb' Fl' Fr').beside I.Fa Fb' Fl' Fr'
end
end Gp

/-! The end: what the top has written, each def at its place. Printed by gen_end.py. -/
namespace Gp
open PySem PySem.Spec PyProof.Rows L2
/-- an error of the class at S is what «except S» names -/
theorem exm_self {K : PySem.W.Frag} {S : Addr} (h1 : PySem.W.subIn K (.ref S) (.type "BaseException") = some true) (h2 : PySem.W.isClsIn K S = true) (h3 : PySem.W.typeIn K (.ref S) = some (.type "type")) (h4 : PySem.W.subIn K (.ref S) (.ref S) = some true) :
    PySem.W.exmOne K (.ref S) (.ref S) = some true := by
  have e1 : (PySem.W.subIn K (.ref S) (.type "BaseException") == some true) = true := by rw [h1] <;> rfl
  have e2 : ((PySem.W.clsIn K S).isSome && PySem.W.typeIn K (.ref S) == some (.type "type")) = true := by
    have h2' : (PySem.W.clsIn K S).isSome = true := h2
    rw [h2', h3] <;> rfl
  show (if (PySem.W.subIn K (.ref S) (.type "BaseException") == some true) = true then (if ((PySem.W.clsIn K S).isSome && PySem.W.typeIn K (.ref S) == some (.type "type")) = true then PySem.W.subIn K (.ref S) (.ref S) else none) else none) = some true
  rw [if_pos e1, if_pos e2]
  exact h4
theorem all_mk {P : Program} {w : World} {K : PySem.W.Frag} {h : Heap} {mg : Str → Option Value} {fa C CR CD f1 f2 f3 f4 f5 f6 f7 f8 f9 f10 f11 f12 f13 f14 f15 f16 f17 f18 f19 f20 f21 f22 f23 f24 f25 f26 f27 f28 f29 f30 f31 f32 : Addr} (X : K.In h) (G : h.Ns mainGlobals mg) (hfa : mg "answers" = some (.ref fa))
    {od1 an1 od2 an2 od3 an3 od4 an4 od5 an5 od6 an6 od7 an7 od8 an8 od9 an9 od10 an10 od11 an11 od12 an12 od13 an13 od14 an14 od15 an15 od16 an16 od17 an17 od18 an18 od19 an19 od20 an20 od21 an21 od22 an22 od23 an23 od24 an24 od25 an25 od26 an26 od27 an27 od28 an28 od29 an29 od30 an30 od31 an31 od32 an32 : Option Addr} {sl1 sl2 sl3 sl4 sl5 sl6 sl7 sl8 sl9 sl10 sl11 sl12 sl13 sl14 sl15 sl16 sl17 sl18 sl19 sl20 sl21 sl22 sl23 sl24 sl25 sl26 sl27 sl28 sl29 sl30 sl31 sl32 : Array (Option Value)}
    {oc1 kV1 dc1 pm1 cd1 ct1 oc2 kV2 dc2 pm2 cd2 ct2 oc3 kV3 dc3 pm3 cd3 ct3 oc4 kV4 dc4 pm4 cd4 ct4 oc5 kV5 dc5 pm5 cd5 ct5 oc6 kV6 dc6 pm6 cd6 ct6 oc7 kV7 dc7 pm7 cd7 ct7 oc8 kV8 dc8 pm8 cd8 ct8 oc9 kV9 dc9 pm9 cd9 ct9 oc10 kV10 dc10 pm10 cd10 ct10 oc11 kV11 dc11 pm11 cd11 ct11 oc12 kV12 dc12 pm12 cd12 ct12 oc13 kV13 dc13 pm13 cd13 ct13 oc14 kV14 dc14 pm14 cd14 ct14 oc15 kV15 dc15 pm15 cd15 ct15 oc16 kV16 dc16 pm16 cd16 ct16 oc17 kV17 dc17 pm17 cd17 ct17 oc18 kV18 dc18 pm18 cd18 ct18 oc19 kV19 dc19 pm19 cd19 ct19 oc20 kV20 dc20 pm20 cd20 ct20 oc21 kV21 dc21 pm21 cd21 ct21 oc22 kV22 dc22 pm22 cd22 ct22 oc23 kV23 dc23 pm23 cd23 ct23 oc24 kV24 dc24 pm24 cd24 ct24 oc25 kV25 dc25 pm25 cd25 ct25 oc26 kV26 dc26 pm26 cd26 ct26 oc27 kV27 dc27 pm27 cd27 ct27 oc28 kV28 dc28 pm28 cd28 ct28 oc29 kV29 dc29 pm29 cd29 ct29 oc30 kV30 dc30 pm30 cd30 ct30 oc31 kV31 dc31 pm31 cd31 ct31 oc32 kV32 dc32 pm32 cd32 ct32 : Value}
    {nmR qR : Str} {NR : Addr} {bsR : List Value} {snR : List Str} {subR : List Value} {abR : Bool} {colR : Option Bool} {ddR : Option Addr} {m0 m1 m2 m3 m5 : Option Value} {t1 t2 t3 t4 t5 t6 t7 : Tok}
    (aC : PySem.W.nsIn K mainGlobals "Box" = some (some (.ref C)))
    (aR : PySem.W.nsIn K mainGlobals "Refused" = some (some (.ref CR)))
    (aD : PySem.W.nsIn K mainGlobals "Desk" = some (some (.ref CD)))
    (a1 : PySem.W.findIn K (.ref C) "__init__" = some (some (.ref f1)))
    (i1 : PySem.W.isFn K (.ref f1) = true)
    (l1 : K.lookup f1 = some ⟨oc1, od1, .func (PySem.W.fnOf "__init__" "Box.__init__" (defArgs sInit) (defBody sInit) (defScope sInit) .none kV1 dc1 pm1 an1 cd1 ct1), sl1⟩)
    (c1 : PySem.W.codeIn K cd1 "Box.__init__" = true)
    (k1 : PySem.W.keepIn K (.ref f1) = true)
    (a2 : PySem.W.findIn K (.ref C) "put_left" = some (some (.ref f2)))
    (i2 : PySem.W.isFn K (.ref f2) = true)
    (l2 : K.lookup f2 = some ⟨oc2, od2, .func (PySem.W.fnOf "put_left" "Box.put_left" (defArgs sPutL) (defBody sPutL) (defScope sPutL) .none kV2 dc2 pm2 an2 cd2 ct2), sl2⟩)
    (c2 : PySem.W.codeIn K cd2 "Box.put_left" = true)
    (k2 : PySem.W.keepIn K (.ref f2) = true)
    (a3 : PySem.W.findIn K (.ref C) "put_right" = some (some (.ref f3)))
    (i3 : PySem.W.isFn K (.ref f3) = true)
    (l3 : K.lookup f3 = some ⟨oc3, od3, .func (PySem.W.fnOf "put_right" "Box.put_right" (defArgs sPutR) (defBody sPutR) (defScope sPutR) .none kV3 dc3 pm3 an3 cd3 ct3), sl3⟩)
    (c3 : PySem.W.codeIn K cd3 "Box.put_right" = true)
    (k3 : PySem.W.keepIn K (.ref f3) = true)
    (a4 : PySem.W.findIn K (.ref C) "none" = some (some (.ref f4)))
    (i4 : PySem.W.isFn K (.ref f4) = true)
    (l4 : K.lookup f4 = some ⟨oc4, od4, .func (PySem.W.fnOf "none" "Box.none" (defArgs sNone) (defBody sNone) (defScope sNone) .none kV4 dc4 pm4 an4 cd4 ct4), sl4⟩)
    (c4 : PySem.W.codeIn K cd4 "Box.none" = true)
    (k4 : PySem.W.keepIn K (.ref f4) = true)
    (a5 : PySem.W.findIn K (.ref C) "apart" = some (some (.ref f5)))
    (i5 : PySem.W.isFn K (.ref f5) = true)
    (l5 : K.lookup f5 = some ⟨oc5, od5, .func (PySem.W.fnOf "apart" "Box.apart" (defArgs sApart) (defBody sApart) (defScope sApart) .none kV5 dc5 pm5 an5 cd5 ct5), sl5⟩)
    (c5 : PySem.W.codeIn K cd5 "Box.apart" = true)
    (k5 : PySem.W.keepIn K (.ref f5) = true)
    (a6 : PySem.W.findIn K (.ref C) "pairs_of" = some (some (.ref f6)))
    (i6 : PySem.W.isFn K (.ref f6) = true)
    (l6 : K.lookup f6 = some ⟨oc6, od6, .func (PySem.W.fnOf "pairs_of" "Box.pairs_of" (defArgs sPairs) (defBody sPairs) (defScope sPairs) .none kV6 dc6 pm6 an6 cd6 ct6), sl6⟩)
    (c6 : PySem.W.codeIn K cd6 "Box.pairs_of" = true)
    (k6 : PySem.W.keepIn K (.ref f6) = true)
    (a7 : PySem.W.findIn K (.ref C) "off" = some (some (.ref f7)))
    (i7 : PySem.W.isFn K (.ref f7) = true)
    (l7 : K.lookup f7 = some ⟨oc7, od7, .func (PySem.W.fnOf "off" "Box.off" (defArgs sOff) (defBody sOff) (defScope sOff) .none kV7 dc7 pm7 an7 cd7 ct7), sl7⟩)
    (c7 : PySem.W.codeIn K cd7 "Box.off" = true)
    (k7 : PySem.W.keepIn K (.ref f7) = true)
    (a8 : PySem.W.findIn K (.ref C) "greatest" = some (some (.ref f8)))
    (i8 : PySem.W.isFn K (.ref f8) = true)
    (l8 : K.lookup f8 = some ⟨oc8, od8, .func (PySem.W.fnOf "greatest" "Box.greatest" (defArgs sGreat) (defBody sGreat) (defScope sGreat) .none kV8 dc8 pm8 an8 cd8 ct8), sl8⟩)
    (c8 : PySem.W.codeIn K cd8 "Box.greatest" = true)
    (k8 : PySem.W.keepIn K (.ref f8) = true)
    (a9 : PySem.W.findIn K (.ref C) "choices" = some (some (.ref f9)))
    (i9 : PySem.W.isFn K (.ref f9) = true)
    (l9 : K.lookup f9 = some ⟨oc9, od9, .func (PySem.W.fnOf "choices" "Box.choices" (defArgs sChoi) (defBody sChoi) (defScope sChoi) .none kV9 dc9 pm9 an9 cd9 ct9), sl9⟩)
    (c9 : PySem.W.codeIn K cd9 "Box.choices" = true)
    (k9 : PySem.W.keepIn K (.ref f9) = true)
    (a10 : PySem.W.findIn K (.ref C) "all_plans" = some (some (.ref f10)))
    (i10 : PySem.W.isFn K (.ref f10) = true)
    (l10 : K.lookup f10 = some ⟨oc10, od10, .func (PySem.W.fnOf "all_plans" "Box.all_plans" (defArgs sAll) (defBody sAll) (defScope sAll) .none kV10 dc10 pm10 an10 cd10 ct10), sl10⟩)
    (c10 : PySem.W.codeIn K cd10 "Box.all_plans" = true)
    (k10 : PySem.W.keepIn K (.ref f10) = true)
    (a11 : PySem.W.findIn K (.ref C) "plans" = some (some (.ref f11)))
    (i11 : PySem.W.isFn K (.ref f11) = true)
    (l11 : K.lookup f11 = some ⟨oc11, od11, .func (PySem.W.fnOf "plans" "Box.plans" (defArgs sPlans) (defBody sPlans) (defScope sPlans) .none kV11 dc11 pm11 an11 cd11 ct11), sl11⟩)
    (c11 : PySem.W.codeIn K cd11 "Box.plans" = true)
    (k11 : PySem.W.keepIn K (.ref f11) = true)
    (a12 : PySem.W.findIn K (.ref C) "rank" = some (some (.ref f12)))
    (i12 : PySem.W.isFn K (.ref f12) = true)
    (l12 : K.lookup f12 = some ⟨oc12, od12, .func (PySem.W.fnOf "rank" "Box.rank" (defArgs sRank) (defBody sRank) (defScope sRank) .none kV12 dc12 pm12 an12 cd12 ct12), sl12⟩)
    (c12 : PySem.W.codeIn K cd12 "Box.rank" = true)
    (k12 : PySem.W.keepIn K (.ref f12) = true)
    (a13 : PySem.W.findIn K (.ref C) "best" = some (some (.ref f13)))
    (i13 : PySem.W.isFn K (.ref f13) = true)
    (l13 : K.lookup f13 = some ⟨oc13, od13, .func (PySem.W.fnOf "best" "Box.best" (defArgs sBest) (defBody sBest) (defScope sBest) .none kV13 dc13 pm13 an13 cd13 ct13), sl13⟩)
    (c13 : PySem.W.codeIn K cd13 "Box.best" = true)
    (k13 : PySem.W.keepIn K (.ref f13) = true)
    (a14 : PySem.W.findIn K (.ref C) "needed" = some (some (.ref f14)))
    (i14 : PySem.W.isFn K (.ref f14) = true)
    (l14 : K.lookup f14 = some ⟨oc14, od14, .func (PySem.W.fnOf "needed" "Box.needed" (defArgs sNeed) (defBody sNeed) (defScope sNeed) .none kV14 dc14 pm14 an14 cd14 ct14), sl14⟩)
    (c14 : PySem.W.codeIn K cd14 "Box.needed" = true)
    (k14 : PySem.W.keepIn K (.ref f14) = true)
    (a15 : PySem.W.findIn K (.ref C) "too_unlike" = some (some (.ref f15)))
    (i15 : PySem.W.isFn K (.ref f15) = true)
    (l15 : K.lookup f15 = some ⟨oc15, od15, .func (PySem.W.fnOf "too_unlike" "Box.too_unlike" (defArgs sUnl) (defBody sUnl) (defScope sUnl) .none kV15 dc15 pm15 an15 cd15 ct15), sl15⟩)
    (c15 : PySem.W.codeIn K cd15 "Box.too_unlike" = true)
    (k15 : PySem.W.keepIn K (.ref f15) = true)
    (a16 : PySem.W.findIn K (.ref C) "told_twice" = some (some (.ref f16)))
    (i16 : PySem.W.isFn K (.ref f16) = true)
    (l16 : K.lookup f16 = some ⟨oc16, od16, .func (PySem.W.fnOf "told_twice" "Box.told_twice" (defArgs sTwi) (defBody sTwi) (defScope sTwi) .none kV16 dc16 pm16 an16 cd16 ct16), sl16⟩)
    (c16 : PySem.W.codeIn K cd16 "Box.told_twice" = true)
    (k16 : PySem.W.keepIn K (.ref f16) = true)
    (a17 : PySem.W.nsIn K mainGlobals "by_size" = some (some (.ref f17)))
    (l17 : K.lookup f17 = some ⟨oc17, od17, .func (PySem.W.fnOf "by_size" "by_size" (defArgs sBySz) (defBody sBySz) (defScope sBySz) .none kV17 dc17 pm17 an17 cd17 ct17), sl17⟩)
    (c17 : PySem.W.codeIn K cd17 "by_size" = true)
    (k17 : PySem.W.keepIn K (.ref f17) = true)
    (a18 : PySem.W.nsIn K mainGlobals "plain_plan" = some (some (.ref f18)))
    (l18 : K.lookup f18 = some ⟨oc18, od18, .func (PySem.W.fnOf "plain_plan" "plain_plan" (defArgs sPlain) (defBody sPlain) (defScope sPlain) .none kV18 dc18 pm18 an18 cd18 ct18), sl18⟩)
    (c18 : PySem.W.codeIn K cd18 "plain_plan" = true)
    (k18 : PySem.W.keepIn K (.ref f18) = true)
    (a19 : PySem.W.nsIn K mainGlobals "want" = some (some (.ref f19)))
    (l19 : K.lookup f19 = some ⟨oc19, od19, .func (PySem.W.fnOf "want" "want" (defArgs sWant) (defBody sWant) (defScope sWant) .none kV19 dc19 pm19 an19 cd19 ct19), sl19⟩)
    (c19 : PySem.W.codeIn K cd19 "want" = true)
    (k19 : PySem.W.keepIn K (.ref f19) = true)
    (a20 : PySem.W.nsIn K mainGlobals "want_none" = some (some (.ref f20)))
    (l20 : K.lookup f20 = some ⟨oc20, od20, .func (PySem.W.fnOf "want_none" "want_none" (defArgs sWantN) (defBody sWantN) (defScope sWantN) .none kV20 dc20 pm20 an20 cd20 ct20), sl20⟩)
    (c20 : PySem.W.codeIn K cd20 "want_none" = true)
    (k20 : PySem.W.keepIn K (.ref f20) = true)
    (a21 : PySem.W.nsIn K mainGlobals "answers" = some (some (.ref f21)))
    (l21 : K.lookup f21 = some ⟨oc21, od21, .func (PySem.W.fnOf "answers" "answers" (defArgs sAnswers) (defBody sAnswers) (defScope sAnswers) .none kV21 dc21 pm21 an21 cd21 ct21), sl21⟩)
    (c21 : PySem.W.codeIn K cd21 "answers" = true)
    (k21 : PySem.W.keepIn K (.ref f21) = true)
    (a22 : PySem.W.findIn K (.ref CR) "__init__" = some (some (.ref f22)))
    (i22 : PySem.W.typeIn K (.ref f22) = some (.type "function"))
    (l22 : K.lookup f22 = some ⟨oc22, od22, .func (PySem.W.fnOf "__init__" "Refused.__init__" (defArgs sRI) (defBody sRI) (defScope sRI) .none kV22 dc22 pm22 an22 cd22 ct22), sl22⟩)
    (c22 : PySem.W.codeIn K cd22 "Refused.__init__" = true)
    (k22 : PySem.W.keepIn K (.ref f22) = true)
    (a23 : PySem.W.findIn K (.ref CD) "__init__" = some (some (.ref f23)))
    (i23 : PySem.W.isFn K (.ref f23) = true)
    (l23 : K.lookup f23 = some ⟨oc23, od23, .func (PySem.W.fnOf "__init__" "Desk.__init__" (defArgs sDInit) (defBody sDInit) (defScope sDInit) .none kV23 dc23 pm23 an23 cd23 ct23), sl23⟩)
    (c23 : PySem.W.codeIn K cd23 "Desk.__init__" = true)
    (k23 : PySem.W.keepIn K (.ref f23) = true)
    (a24 : PySem.W.findIn K (.ref CD) "begins" = some (some (.ref f24)))
    (i24 : PySem.W.isFn K (.ref f24) = true)
    (l24 : K.lookup f24 = some ⟨oc24, od24, .func (PySem.W.fnOf "begins" "Desk.begins" (defArgs sBegins) (defBody sBegins) (defScope sBegins) .none kV24 dc24 pm24 an24 cd24 ct24), sl24⟩)
    (c24 : PySem.W.codeIn K cd24 "Desk.begins" = true)
    (k24 : PySem.W.keepIn K (.ref f24) = true)
    (a25 : PySem.W.findIn K (.ref CD) "put_left" = some (some (.ref f25)))
    (i25 : PySem.W.isFn K (.ref f25) = true)
    (l25 : K.lookup f25 = some ⟨oc25, od25, .func (PySem.W.fnOf "put_left" "Desk.put_left" (defArgs sDPutL) (defBody sDPutL) (defScope sDPutL) .none kV25 dc25 pm25 an25 cd25 ct25), sl25⟩)
    (c25 : PySem.W.codeIn K cd25 "Desk.put_left" = true)
    (k25 : PySem.W.keepIn K (.ref f25) = true)
    (a26 : PySem.W.findIn K (.ref CD) "put_right" = some (some (.ref f26)))
    (i26 : PySem.W.isFn K (.ref f26) = true)
    (l26 : K.lookup f26 = some ⟨oc26, od26, .func (PySem.W.fnOf "put_right" "Desk.put_right" (defArgs sDPutR) (defBody sDPutR) (defScope sDPutR) .none kV26 dc26 pm26 an26 cd26 ct26), sl26⟩)
    (c26 : PySem.W.codeIn K cd26 "Desk.put_right" = true)
    (k26 : PySem.W.keepIn K (.ref f26) = true)
    (a27 : PySem.W.findIn K (.ref CD) "check" = some (some (.ref f27)))
    (i27 : PySem.W.isFn K (.ref f27) = true)
    (l27 : K.lookup f27 = some ⟨oc27, od27, .func (PySem.W.fnOf "check" "Desk.check" (defArgs sCheck) (defBody sCheck) (defScope sCheck) .none kV27 dc27 pm27 an27 cd27 ct27), sl27⟩)
    (c27 : PySem.W.codeIn K cd27 "Desk.check" = true)
    (k27 : PySem.W.keepIn K (.ref f27) = true)
    (a28 : PySem.W.findIn K (.ref CD) "best" = some (some (.ref f28)))
    (i28 : PySem.W.isFn K (.ref f28) = true)
    (l28 : K.lookup f28 = some ⟨oc28, od28, .func (PySem.W.fnOf "best" "Desk.best" (defArgs sDBest) (defBody sDBest) (defScope sDBest) .none kV28 dc28 pm28 an28 cd28 ct28), sl28⟩)
    (c28 : PySem.W.codeIn K cd28 "Desk.best" = true)
    (k28 : PySem.W.keepIn K (.ref f28) = true)
    (a29 : PySem.W.findIn K (.ref CD) "plain" = some (some (.ref f29)))
    (i29 : PySem.W.isFn K (.ref f29) = true)
    (l29 : K.lookup f29 = some ⟨oc29, od29, .func (PySem.W.fnOf "plain" "Desk.plain" (defArgs sDPlain) (defBody sDPlain) (defScope sDPlain) .none kV29 dc29 pm29 an29 cd29 ct29), sl29⟩)
    (c29 : PySem.W.codeIn K cd29 "Desk.plain" = true)
    (k29 : PySem.W.keepIn K (.ref f29) = true)
    (a30 : PySem.W.findIn K (.ref CD) "needs" = some (some (.ref f30)))
    (i30 : PySem.W.isFn K (.ref f30) = true)
    (l30 : K.lookup f30 = some ⟨oc30, od30, .func (PySem.W.fnOf "needs" "Desk.needs" (defArgs sNeeds) (defBody sNeeds) (defScope sNeeds) .none kV30 dc30 pm30 an30 cd30 ct30), sl30⟩)
    (c30 : PySem.W.codeIn K cd30 "Desk.needs" = true)
    (k30 : PySem.W.keepIn K (.ref f30) = true)
    (a31 : PySem.W.findIn K (.ref CD) "of_call" = some (some (.ref f31)))
    (i31 : PySem.W.isFn K (.ref f31) = true)
    (l31 : K.lookup f31 = some ⟨oc31, od31, .func (PySem.W.fnOf "of_call" "Desk.of_call" (defArgs sOf) (defBody sOf) (defScope sOf) .none kV31 dc31 pm31 an31 cd31 ct31), sl31⟩)
    (c31 : PySem.W.codeIn K cd31 "Desk.of_call" = true)
    (k31 : PySem.W.keepIn K (.ref f31) = true)
    (a32 : PySem.W.findIn K (.ref CD) "answer" = some (some (.ref f32)))
    (i32 : PySem.W.isFn K (.ref f32) = true)
    (l32 : K.lookup f32 = some ⟨oc32, od32, .func (PySem.W.fnOf "answer" "Desk.answer" (defArgs sAnswer) (defBody sAnswer) (defScope sAnswer) .none kV32 dc32 pm32 an32 cd32 ct32), sl32⟩)
    (c32 : PySem.W.codeIn K cd32 "Desk.answer" = true)
    (k32 : PySem.W.keepIn K (.ref f32) = true)
    (pgB : PySem.W.plainGet K C Str.empty = true)
    (hdB : PySem.W.hasDictIn K C = true)
    (poB : PySem.W.plainOver K C = true)
    (saB : PySem.W.findIn K (.ref C) "__setattr__" = some (some (.builtin "object.__setattr__")))
    (mkB : PySem.W.makesIn K C = true)
    (kcB : PySem.W.keepIn K (.ref C) = true)
    (pgD : PySem.W.plainGet K CD Str.empty = true)
    (hdD : PySem.W.hasDictIn K CD = true)
    (poD : PySem.W.plainOver K CD = true)
    (saD : PySem.W.findIn K (.ref CD) "__setattr__" = some (some (.builtin "object.__setattr__")))
    (mkD : PySem.W.makesIn K CD = true)
    (kcD : PySem.W.keepIn K (.ref CD) = true)
    (n_differ : PySem.W.findIn K (.ref C) "differ" = some none)
    (n_lefts : PySem.W.findIn K (.ref C) "lefts" = some none)
    (n_rights : PySem.W.findIn K (.ref C) "rights" = some none)
    (n_box : PySem.W.findIn K (.ref CD) "box" = some none)
    (n_told : PySem.W.findIn K (.ref CR) "told" = some none)
    (xL : K.lookup CR = some (excClassObj nmR qR CR NR bsR [.type "ValueError", .type "Exception", .type "BaseException", .type "object"] true snR subR abR colR ddR m0 m1 m2 m3 m5 "ValueError.__new__"))
    (saR : PySem.W.findIn K (.ref CR) "__setattr__" = some (some (.builtin "object.__setattr__")))
    (gaR : PySem.W.findIn K (.ref CR) "__getattribute__" = some (some (.builtin "BaseException.__getattribute__")))
    (ggR : PySem.W.findIn K (.ref CR) "__getattr__" = some none)
    (kR : PySem.W.keepIn K (.ref CR) = true)
    (eR : PySem.W.subIn K (.ref CR) (.type "BaseException") = some true)
    (tR : PySem.W.typeIn K (.ref CR) = some (.type "type"))
    (hR : PySem.W.hasDictIn K CR = true)
    (iR : PySem.W.isClsIn K CR = true)
    (sR : PySem.W.subIn K (.ref CR) (.ref CR) = some true)
    (vV : PySem.W.findCls K (.type "ValueError") (.type "type") "__init__" = some (.val (.builtin "ValueError.__init__")))
    (z_len : PySem.W.nsIn K mainGlobals "len" = some none)
    (z_abs : PySem.W.nsIn K mainGlobals "abs" = some none)
    (z_sum : PySem.W.nsIn K mainGlobals "sum" = some none)
    (z_max : PySem.W.nsIn K mainGlobals "max" = some none)
    (z_min : PySem.W.nsIn K mainGlobals "min" = some none)
    (z_all : PySem.W.nsIn K mainGlobals "all" = some none)
    (z_range : PySem.W.nsIn K mainGlobals "range" = some none)
    (z_sorted : PySem.W.nsIn K mainGlobals "sorted" = some none)
    (z_enumerate : PySem.W.nsIn K mainGlobals "enumerate" = some none)
    (z_ValueError : PySem.W.nsIn K mainGlobals "ValueError" = some none)
    (g_BAD : PySem.W.nsIn K mainGlobals "BAD" = some (some (.int (-1) t1)))
    (g_FULL : PySem.W.nsIn K mainGlobals "FULL" = some (some (.int (-5) t2)))
    (g_TOO_UNLIKE : PySem.W.nsIn K mainGlobals "TOO_UNLIKE" = some (some (.int (-6) t3)))
    (g_TOO_FEW : PySem.W.nsIn K mainGlobals "TOO_FEW" = some (some (.int (-6) t4)))
    (g_TOLD_TWICE : PySem.W.nsIn K mainGlobals "TOLD_TWICE" = some (some (.int (-7) t5)))
    (g_MOST_SIZE : PySem.W.nsIn K mainGlobals "MOST_SIZE" = some (some (.int 1000 t6)))
    (g_MOST_GLOVES : PySem.W.nsIn K mainGlobals "MOST_GLOVES" = some (some (.int 5 t7)))
    : ∃ fd : FuncData, (∀ (s : Shared) (us : List Value), us.length = (["calls"] : List Str).length → BindsTo s fd ⟨us, []⟩ ((["calls"] : List Str).zip us)) ∧ ∀ base : Heap, K.In base → base.Ns mainGlobals mg → FnOk P w K mg base CX0 9 fa fd ["calls"] (spAns K) := by
  have e := hfa.symm.trans (PySem.W.mg_of X G a21)
  cases e
  have T : Txt K mg C := ⟨⟨pgB, hdB, poB, saB⟩, n_differ, n_lefts, n_rights, PySem.W.mg_none_of X G z_len, PySem.W.mg_none_of X G z_abs, PySem.W.mg_none_of X G z_sum, PySem.W.mg_none_of X G z_max, PySem.W.mg_none_of X G z_min, PySem.W.mg_none_of X G z_all, PySem.W.mg_none_of X G z_range, PySem.W.mg_none_of X G z_sorted, PySem.W.mg_none_of X G z_enumerate⟩
  have D : DTxt K mg CD := ⟨⟨pgD, hdD, poD, saD⟩, n_box, ⟨_, PySem.W.mg_of X G g_BAD⟩, ⟨_, PySem.W.mg_of X G g_FULL⟩, ⟨_, PySem.W.mg_of X G g_TOO_UNLIKE⟩, ⟨_, PySem.W.mg_of X G g_TOO_FEW⟩, ⟨_, PySem.W.mg_of X G g_TOLD_TWICE⟩, ⟨_, PySem.W.mg_of X G g_MOST_SIZE⟩, ⟨_, PySem.W.mg_of X G g_MOST_GLOVES⟩⟩
  have R : RTxt K mg CR f22 := ⟨PySem.W.mg_of X G aR, ⟨⟨nmR, qR, NR, bsR, _, snR, subR, abR, colR, ddR, m0, m1, m2, m3, m5, xL, by decide +kernel⟩, saR, eR, tR, kR⟩, ⟨gaR, ggR, eR, hR⟩, n_told, a22, i22, exm_self eR iR tR sR, PySem.W.mg_none_of X G z_ValueError, vV⟩
  have F1 := fun_mk (st := sInit) l1 c1 k1
  have b1 := F1.binds (ps := ["self", "differ"]) fun _ _ _ _ _ _ us hl => match us, hl with | [_, _], _ => rfl
  have F2 := fun_mk (st := sPutL) l2 c2 k2
  have b2 := F2.binds (ps := ["self", "size"]) fun _ _ _ _ _ _ us hl => match us, hl with | [_, _], _ => rfl
  have F3 := fun_mk (st := sPutR) l3 c3 k3
  have b3 := F3.binds (ps := ["self", "size"]) fun _ _ _ _ _ _ us hl => match us, hl with | [_, _], _ => rfl
  have F4 := fun_mk (st := sNone) l4 c4 k4
  have b4 := F4.binds (ps := ["self"]) fun _ _ _ _ _ _ us hl => match us, hl with | [_], _ => rfl
  have F5 := fun_mk (st := sApart) l5 c5 k5
  have b5 := F5.binds (ps := ["self", "left", "right"]) fun _ _ _ _ _ _ us hl => match us, hl with | [_, _, _], _ => rfl
  have F6 := fun_mk (st := sPairs) l6 c6 k6
  have b6 := F6.binds (ps := ["self", "plan"]) fun _ _ _ _ _ _ us hl => match us, hl with | [_, _], _ => rfl
  have F7 := fun_mk (st := sOff) l7 c7 k7
  have b7 := F7.binds (ps := ["self", "plan"]) fun _ _ _ _ _ _ us hl => match us, hl with | [_, _], _ => rfl
  have F8 := fun_mk (st := sGreat) l8 c8 k8
  have b8 := F8.binds (ps := ["self", "plan"]) fun _ _ _ _ _ _ us hl => match us, hl with | [_, _], _ => rfl
  have F9 := fun_mk (st := sChoi) l9 c9 k9
  have b9 := F9.binds (ps := ["self", "plan"]) fun _ _ _ _ _ _ us hl => match us, hl with | [_, _], _ => rfl
  have F10 := fun_mk (st := sAll) l10 c10 k10
  have b10 := F10.binds (ps := ["self"]) fun _ _ _ _ _ _ us hl => match us, hl with | [_], _ => rfl
  have F11 := fun_mk (st := sPlans) l11 c11 k11
  have b11 := F11.binds (ps := ["self"]) fun _ _ _ _ _ _ us hl => match us, hl with | [_], _ => rfl
  have F12 := fun_mk (st := sRank) l12 c12 k12
  have b12 := F12.binds (ps := ["self", "plan"]) fun _ _ _ _ _ _ us hl => match us, hl with | [_, _], _ => rfl
  have F13 := fun_mk (st := sBest) l13 c13 k13
  have b13 := F13.binds (ps := ["self"]) fun _ _ _ _ _ _ us hl => match us, hl with | [_], _ => rfl
  have F14 := fun_mk (st := sNeed) l14 c14 k14
  have b14 := F14.binds (ps := ["self", "many"]) fun _ _ _ _ _ _ us hl => match us, hl with | [_, _], _ => rfl
  have F15 := fun_mk (st := sUnl) l15 c15 k15
  have b15 := F15.binds (ps := ["self", "plan"]) fun _ _ _ _ _ _ us hl => match us, hl with | [_, _], _ => rfl
  have F16 := fun_mk (st := sTwi) l16 c16 k16
  have b16 := F16.binds (ps := ["self", "plan"]) fun _ _ _ _ _ _ us hl => match us, hl with | [_, _], _ => rfl
  have F17 := fun_mk (st := sBySz) l17 c17 k17
  have b17 := F17.binds (ps := ["sizes"]) fun _ _ _ _ _ _ us hl => match us, hl with | [_], _ => rfl
  have F18 := fun_mk (st := sPlain) l18 c18 k18
  have b18 := F18.binds (ps := ["box"]) fun _ _ _ _ _ _ us hl => match us, hl with | [_], _ => rfl
  have F19 := fun_mk (st := sWant) l19 c19 k19
  have b19 := F19.binds (ps := ["good", "refusal"]) fun _ _ _ _ _ _ us hl => match us, hl with | [_, _], _ => rfl
  have F20 := fun_mk (st := sWantN) l20 c20 k20
  have b20 := F20.binds (ps := ["some", "refusal"]) fun _ _ _ _ _ _ us hl => match us, hl with | [_, _], _ => rfl
  have F21 := fun_mk (st := sAnswers) l21 c21 k21
  have b21 := F21.binds (ps := ["calls"]) fun _ _ _ _ _ _ us hl => match us, hl with | [_], _ => rfl
  have F22 := fun_mk (st := sRI) l22 c22 k22
  have b22 := F22.binds (ps := ["self", "told"]) fun _ _ _ _ _ _ us hl => match us, hl with | [_, _], _ => rfl
  have F23 := fun_mk (st := sDInit) l23 c23 k23
  have b23 := F23.binds (ps := ["self"]) fun _ _ _ _ _ _ us hl => match us, hl with | [_], _ => rfl
  have F24 := fun_mk (st := sBegins) l24 c24 k24
  have b24 := F24.binds (ps := ["self", "differ"]) fun _ _ _ _ _ _ us hl => match us, hl with | [_, _], _ => rfl
  have F25 := fun_mk (st := sDPutL) l25 c25 k25
  have b25 := F25.binds (ps := ["self", "size"]) fun _ _ _ _ _ _ us hl => match us, hl with | [_, _], _ => rfl
  have F26 := fun_mk (st := sDPutR) l26 c26 k26
  have b26 := F26.binds (ps := ["self", "size"]) fun _ _ _ _ _ _ us hl => match us, hl with | [_, _], _ => rfl
  have F27 := fun_mk (st := sCheck) l27 c27 k27
  have b27 := F27.binds (ps := ["self", "plan"]) fun _ _ _ _ _ _ us hl => match us, hl with | [_, _], _ => rfl
  have F28 := fun_mk (st := sDBest) l28 c28 k28
  have b28 := F28.binds (ps := ["self"]) fun _ _ _ _ _ _ us hl => match us, hl with | [_], _ => rfl
  have F29 := fun_mk (st := sDPlain) l29 c29 k29
  have b29 := F29.binds (ps := ["self"]) fun _ _ _ _ _ _ us hl => match us, hl with | [_], _ => rfl
  have F30 := fun_mk (st := sNeeds) l30 c30 k30
  have b30 := F30.binds (ps := ["self", "many"]) fun _ _ _ _ _ _ us hl => match us, hl with | [_, _], _ => rfl
  have F31 := fun_mk (st := sOf) l31 c31 k31
  have b31 := F31.binds (ps := ["self", "call", "n"]) fun _ _ _ _ _ _ us hl => match us, hl with | [_, _, _], _ => rfl
  have F32 := fun_mk (st := sAnswer) l32 c32 k32
  have b32 := F32.binds (ps := ["self", "call", "n"]) fun _ _ _ _ _ _ us hl => match us, hl with | [_, _, _], _ => rfl
  refine ⟨PySem.W.fnOf "answers" "answers" (defArgs sAnswers) (defBody sAnswers) (defScope sAnswers) .none kV21 dc21 pm21 an21 cd21 ct21, fun s us hu => match us, hu with | [_], _ => .of_eq rfl, fun base _ _ => ?_⟩
  have mNone : MOk P w K mg base CX0 C 1 "none" ["self"] (spNone C) f4 _ := ⟨⟨a4, i4, k4⟩, ok_none F4 T, b4⟩
  have mApart : MOk P w K mg base CX0 C 1 "apart" ["self", "left", "right"] (spApart C) f5 _ := ⟨⟨a5, i5, k5⟩, ok_apart F5 T, b5⟩
  have mPairs : MOk P w K mg base CX0 C 2 "pairs_of" ["self", "plan"] (spPairs C) f6 _ := ⟨⟨a6, i6, k6⟩, ok_pairs F6 T mNone, b6⟩
  have mOff : MOk P w K mg base CX0 C 3 "off" ["self", "plan"] (spOff C) f7 _ := ⟨⟨a7, i7, k7⟩, ok_off F7 T mApart mPairs, b7⟩
  have mGreat : MOk P w K mg base CX0 C 3 "greatest" ["self", "plan"] (spGreat C) f8 _ := ⟨⟨a8, i8, k8⟩, ok_great F8 T mApart mPairs, b8⟩
  have mChoi : MOk P w K mg base CX0 C 2 "choices" ["self", "plan"] (spChoi C) f9 _ := ⟨⟨a9, i9, k9⟩, ok_choi F9 T mNone, b9⟩
  have mAll : MOk P w K mg base CX0 C 3 "all_plans" ["self"] (spAll C) f10 _ := ⟨⟨a10, i10, k10⟩, ok_all F10 T mChoi, b10⟩
  have mPlans : MOk P w K mg base CX0 C 4 "plans" ["self"] (spPlans C) f11 _ := ⟨⟨a11, i11, k11⟩, ok_plans F11 T mAll mGreat, b11⟩
  have mRank : MOk P w K mg base CX0 C 4 "rank" ["self", "plan"] (spRank C) f12 _ := ⟨⟨a12, i12, k12⟩, ok_rank F12 T mPairs mOff, b12⟩
  have mBest : MOk P w K mg base CX0 C 5 "best" ["self"] (spBest C) f13 _ := ⟨⟨a13, i13, k13⟩, ok_best F13 T mPlans mRank, b13⟩
  have mNeed : MOk P w K mg base CX0 C 4 "needed" ["self", "many"] (spNeed C) f14 _ := ⟨⟨a14, i14, k14⟩, ok_need F14 T mAll mGreat mPairs, b14⟩
  have mUnl : MOk P w K mg base CX0 C 3 "too_unlike" ["self", "plan"] (spUnl C) f15 _ := ⟨⟨a15, i15, k15⟩, ok_unl F15 T mApart mPairs, b15⟩
  have mTwi : MOk P w K mg base CX0 C 3 "told_twice" ["self", "plan"] (spTwi C) f16 _ := ⟨⟨a16, i16, k16⟩, ok_twi F16 T mPairs, b16⟩
  have mPutL : MOk P w K mg base CX0 C 1 "put_left" ["self", "size"] (spPutL C) f2 _ := ⟨⟨a2, i2, k2⟩, ok_putL F2 T, b2⟩
  have mPutR : MOk P w K mg base CX0 C 1 "put_right" ["self", "size"] (spPutR C) f3 _ := ⟨⟨a3, i3, k3⟩, ok_putR F3 T, b3⟩
  have gBySz : GOk P w K mg base CX0 "by_size" 1 ["sizes"] spBySz f17 _ := ⟨PySem.W.mg_of X G a17, k17, ok_bySz F17 T, b17⟩
  have gPlain : GOk P w K mg base CX0 "plain_plan" 2 ["box"] (spPlain C) f18 _ := ⟨PySem.W.mg_of X G a18, k18, ok_plain F18 T gBySz mNone mApart, b18⟩
  have fInit : FnOk P w K mg base CX0 1 f1 _ ["self", "differ"] (spInit C) := ok_init F1 T
  have fRI : FnOk P w K mg base CX0 1 f22 _ ["self", "told"] (spRI CR) := ok_RI F22 R
  have MB : Mk K C f1 := ⟨mkB, a1, i1, kcB⟩
  have MD : Mk K CD f23 := ⟨mkD, a23, i23, kcD⟩
  have gB := PySem.W.mg_of X G aC
  have gWant : GOk P w K mg base (L2.CX P w) "want" 3 ["good", "refusal"] (spWant CR) f19 _ := ⟨PySem.W.mg_of X G a19, k19, ok_want F19 R fRI b22, b19⟩
  have gWantN : GOk P w K mg base (L2.CX P w) "want_none" 3 ["some", "refusal"] (spWantN CR) f20 _ := ⟨PySem.W.mg_of X G a20, k20, ok_wantN F20 R fRI b22, b20⟩
  have fDI : FnOk P w K mg base CX0 3 f23 _ ["self"] (spDInit CD C) := ok_dinit F23 D MB gB fInit b1
  have dBeg : MOk P w K mg base (L2.CX P w) CD 4 "begins" ["self", "differ"] (spDesk CD C CR aBegins) f24 _ := ⟨⟨a24, i24, k24⟩, ok_begins F24 D MB gB fInit b1 gWant, b24⟩
  have dPL : MOk P w K mg base (L2.CX P w) CD 4 "put_left" ["self", "size"] (spDesk CD C CR aLeft) f25 _ := ⟨⟨a25, i25, k25⟩, ok_dputL F25 T D mPutL gWant, b25⟩
  have dPR : MOk P w K mg base (L2.CX P w) CD 4 "put_right" ["self", "size"] (spDesk CD C CR aRight) f26 _ := ⟨⟨a26, i26, k26⟩, ok_dputR F26 T D mPutR gWant, b26⟩
  have dCh : MOk P w K mg base (L2.CX P w) CD 4 "check" ["self", "plan"] (spCheck CD C CR) f27 _ := ⟨⟨a27, i27, k27⟩, ok_check F27 T D mNone mPairs mOff mUnl mTwi gWant gWantN, b27⟩
  have dBe : MOk P w K mg base CX0 CD 6 "best" ["self"] (spDesk0 CD C aBest) f28 _ := ⟨⟨a28, i28, k28⟩, ok_dbest F28 T D mBest mPairs mOff, b28⟩
  have dPl : MOk P w K mg base CX0 CD 4 "plain" ["self"] (spDesk0 CD C aPlain) f29 _ := ⟨⟨a29, i29, k29⟩, ok_dplain F29 T D gPlain mPairs mOff, b29⟩
  have dNe : MOk P w K mg base (L2.CX P w) CD 5 "needs" ["self", "many"] (spDesk CD C CR aNeeds) f30 _ := ⟨⟨a30, i30, k30⟩, ok_needs F30 T D mNeed gWant, b30⟩
  have dOf : MOk P w K mg base (L2.CX P w) CD 7 "of_call" ["self", "call", "n"] (spOf CD C CR) f31 _ := ⟨⟨a31, i31, k31⟩, ok_of F31 D ⟨dBeg, dPL, dPR, dCh, dBe, dPl, dNe⟩, b31⟩
  have dAn : MOk P w K mg base CX0 CD 8 "answer" ["self", "call", "n"] (spAnswer CD C) f32 _ := ⟨⟨a32, i32, k32⟩, ok_answer F32 D R dOf, b32⟩
  exact ok_answers F21 T D MD (PySem.W.mg_of X G aD) fDI b23 dAn
end Gp
open PySem PySem.W PyProof.Rows
set_option maxRecDepth 100000 in
set_option maxHeartbeats 8000000 in
theorem PySem.Challenge.cw_glovepairs_s01_answers_holds : PySem.Challenge.rw_glovepairs_s01_answers.Holds := by
  w_on; k_headS; (case hw => exact ⟨[.list [.int 5, .int 0, .int 0]], by decide +kernel, by decide +kernel⟩)
  k_fillS
  refine L2.walk_specK (r := PySem.Challenge.rw_glovepairs_s01_answers) (k := 9) (CX := L2.CX0) (ps := ["calls"]) (sp := Gp.spAns) (by decide +kernel) rfl rfl ⟨rfl, by decide, by decide⟩ (fun w h Y => PySem.W.kIn_of Y) ?F ?S (fun _ _ _ _ z => z)
  case F =>
    intro w mg fa h Y KX G hmg
    refine' Gp.all_mk KX G hmg ?aC ?aR ?aD ?a1 ?i1 ?l1 ?c1 ?k1 ?a2 ?i2 ?l2 ?c2 ?k2 ?a3 ?i3 ?l3 ?c3 ?k3 ?a4 ?i4 ?l4 ?c4 ?k4 ?a5 ?i5 ?l5 ?c5 ?k5 ?a6 ?i6 ?l6 ?c6 ?k6 ?a7 ?i7 ?l7 ?c7 ?k7 ?a8 ?i8 ?l8 ?c8 ?k8 ?a9 ?i9 ?l9 ?c9 ?k9 ?a10 ?i10 ?l10 ?c10 ?k10 ?a11 ?i11 ?l11 ?c11 ?k11 ?a12 ?i12 ?l12 ?c12 ?k12 ?a13 ?i13 ?l13 ?c13 ?k13 ?a14 ?i14 ?l14 ?c14 ?k14 ?a15 ?i15 ?l15 ?c15 ?k15 ?a16 ?i16 ?l16 ?c16 ?k16 ?a17 ?l17 ?c17 ?k17 ?a18 ?l18 ?c18 ?k18 ?a19 ?l19 ?c19 ?k19 ?a20 ?l20 ?c20 ?k20 ?a21 ?l21 ?c21 ?k21 ?a22 ?i22 ?l22 ?c22 ?k22 ?a23 ?i23 ?l23 ?c23 ?k23 ?a24 ?i24 ?l24 ?c24 ?k24 ?a25 ?i25 ?l25 ?c25 ?k25 ?a26 ?i26 ?l26 ?c26 ?k26 ?a27 ?i27 ?l27 ?c27 ?k27 ?a28 ?i28 ?l28 ?c28 ?k28 ?a29 ?i29 ?l29 ?c29 ?k29 ?a30 ?i30 ?l30 ?c30 ?k30 ?a31 ?i31 ?l31 ?c31 ?k31 ?a32 ?i32 ?l32 ?c32 ?k32 ?pgB ?hdB ?poB ?saB ?mkB ?kcB ?pgD ?hdD ?poD ?saD ?mkD ?kcD ?n_differ ?n_lefts ?n_rights ?n_box ?n_told ?xL ?saR ?gaR ?ggR ?kR ?eR ?tR ?hR ?iR ?sR ?vV ?z_len ?z_abs ?z_sum ?z_max ?z_min ?z_all ?z_range ?z_sorted ?z_enumerate ?z_ValueError ?g_BAD ?g_FULL ?g_TOO_UNLIKE ?g_TOO_FEW ?g_TOLD_TWICE ?g_MOST_SIZE ?g_MOST_GLOVES
    (case aC => k_is); (case aR => k_is); (case aD => k_is); (case a1 => k_is); (case i1 => k_is); (case l1 => k_is); (case c1 => k_is); (case k1 => k_is); (case a2 => k_is); (case i2 => k_is)
    (case l2 => k_is); (case c2 => k_is); (case k2 => k_is); (case a3 => k_is); (case i3 => k_is); (case l3 => k_is); (case c3 => k_is); (case k3 => k_is); (case a4 => k_is); (case i4 => k_is)
    (case l4 => k_is); (case c4 => k_is); (case k4 => k_is); (case a5 => k_is); (case i5 => k_is); (case l5 => k_is); (case c5 => k_is); (case k5 => k_is); (case a6 => k_is); (case i6 => k_is)
    (case l6 => k_is); (case c6 => k_is); (case k6 => k_is); (case a7 => k_is); (case i7 => k_is); (case l7 => k_is); (case c7 => k_is); (case k7 => k_is); (case a8 => k_is); (case i8 => k_is)
    (case l8 => k_is); (case c8 => k_is); (case k8 => k_is); (case a9 => k_is); (case i9 => k_is); (case l9 => k_is); (case c9 => k_is); (case k9 => k_is); (case a10 => k_is); (case i10 => k_is)
    (case l10 => k_is); (case c10 => k_is); (case k10 => k_is); (case a11 => k_is); (case i11 => k_is); (case l11 => k_is); (case c11 => k_is); (case k11 => k_is); (case a12 => k_is)
    (case i12 => k_is); (case l12 => k_is); (case c12 => k_is); (case k12 => k_is); (case a13 => k_is); (case i13 => k_is); (case l13 => k_is); (case c13 => k_is); (case k13 => k_is)
    (case a14 => k_is); (case i14 => k_is); (case l14 => k_is); (case c14 => k_is); (case k14 => k_is); (case a15 => k_is); (case i15 => k_is); (case l15 => k_is); (case c15 => k_is)
    (case k15 => k_is); (case a16 => k_is); (case i16 => k_is); (case l16 => k_is); (case c16 => k_is); (case k16 => k_is); (case a17 => k_is); (case l17 => k_is); (case c17 => k_is)
    (case k17 => k_is); (case a18 => k_is); (case l18 => k_is); (case c18 => k_is); (case k18 => k_is); (case a19 => k_is); (case l19 => k_is); (case c19 => k_is); (case k19 => k_is)
    (case a20 => k_is); (case l20 => k_is); (case c20 => k_is); (case k20 => k_is); (case a21 => k_is); (case l21 => k_is); (case c21 => k_is); (case k21 => k_is); (case a22 => k_is)
    (case i22 => k_is); (case l22 => k_is); (case c22 => k_is); (case k22 => k_is); (case a23 => k_is); (case i23 => k_is); (case l23 => k_is); (case c23 => k_is); (case k23 => k_is)
    (case a24 => k_is); (case i24 => k_is); (case l24 => k_is); (case c24 => k_is); (case k24 => k_is); (case a25 => k_is); (case i25 => k_is); (case l25 => k_is); (case c25 => k_is)
    (case k25 => k_is); (case a26 => k_is); (case i26 => k_is); (case l26 => k_is); (case c26 => k_is); (case k26 => k_is); (case a27 => k_is); (case i27 => k_is); (case l27 => k_is)
    (case c27 => k_is); (case k27 => k_is); (case a28 => k_is); (case i28 => k_is); (case l28 => k_is); (case c28 => k_is); (case k28 => k_is); (case a29 => k_is); (case i29 => k_is)
    (case l29 => k_is); (case c29 => k_is); (case k29 => k_is); (case a30 => k_is); (case i30 => k_is); (case l30 => k_is); (case c30 => k_is); (case k30 => k_is); (case a31 => k_is)
    (case i31 => k_is); (case l31 => k_is); (case c31 => k_is); (case k31 => k_is); (case a32 => k_is); (case i32 => k_is); (case l32 => k_is); (case c32 => k_is); (case k32 => k_is)
    (case pgB => k_is); (case hdB => k_is); (case poB => k_is); (case saB => k_is); (case mkB => k_is); (case kcB => k_is); (case pgD => k_is); (case hdD => k_is); (case poD => k_is)
    (case saD => k_is); (case mkD => k_is); (case kcD => k_is); (case n_differ => k_is); (case n_lefts => k_is); (case n_rights => k_is); (case n_box => k_is); (case n_told => k_is)
    (case xL => k_is); (case saR => k_is); (case gaR => k_is); (case ggR => k_is); (case kR => k_is); (case eR => k_is); (case tR => k_is); (case hR => k_is); (case iR => k_is)
    (case sR => first | rfl | k_is); (case vV => k_is); (case z_len => k_is); (case z_abs => k_is); (case z_sum => k_is); (case z_max => k_is); (case z_min => k_is); (case z_all => k_is)
    (case z_range => k_is); (case z_sorted => k_is); (case z_enumerate => k_is); (case z_ValueError => k_is); (case g_BAD => k_is); (case g_FULL => k_is); (case g_TOO_UNLIKE => k_is)
    (case g_TOO_FEW => k_is); (case g_TOLD_TWICE => k_is); (case g_MOST_SIZE => k_is); (case g_MOST_GLOVES => k_is)
  case S =>
    intro K H xs a hO hwi hask hx
    cases hx with
    | cons h1 h2 =>
      cases h2
      cases h1 with
      | lst hs ha =>
        have e := L2.ints_dw a.1 _ ha
        subst e
        exact ⟨_, a.1, rfl, hs, hask, fun H' p hp => .lst (L2.SqL.of hp) (L2.dw_ints _)⟩
#print axioms PySem.Challenge.cw_glovepairs_s01_answers_holds
