/-
  Part 5: symbolic states for walks, contracts of functions, plain laws; no condition.
-/
import Derived.Test.YtemginpenfhkkaaGreatDoorPart4
import Derived.Test.YtemginpenfhkkaaGreatDoorPart3
import Derived.Test.YtemginpenfhkkaaGreatDoorPart2
/-
 Plain: orders of symmetries as least common multiples; a symmetry of few cells leads back after its order, and not before.
-/
namespace Go.Tal
open Go.RowKit Go.Proofs _root_.Tal
theorem gcdI_nat : ∀ (n x : Nat), gcdI (x : Int) (n : Int) = (Nat.gcd x n : Int) := by
 intro n
 induction n using Nat.strongRecOn with
 | ind n ih =>
  intro x
  rw [gcdI]
  split
  ·rename_i h
   have : n = 0 := by omega
   subst this
   simp
  ·rename_i h
   have hn : 0 < n := by omega
   have e : (x : Int).tmod (n : Int) = ((x % n : Nat) : Int) := by
    rw [Int.tmod_eq_emod_of_nonneg (by omega)]
    rfl
   rw [e, ih (x % n) (Nat.mod_lt _ hn) n, Nat.gcd_comm n (x % n), ← Nat.gcd_rec, Nat.gcd_comm]
theorem lcm_div (x n : Nat) : x / Nat.gcd x n * n = Nat.lcm x n := by
 unfold Nat.lcm
 exact Nat.div_mul_right_comm (Nat.gcd_dvd_left x n) n
theorem lcmStep_nat {x n : Nat} (hb : Nat.lcm x n ≤ 9223372036854775807) (hx : x ≤ 9223372036854775807) : lcmStep (x : Int) (n : Int) = (Nat.lcm x n : Int) := by
 have e : (x : Int).tdiv (gcdI x n) = ((x / Nat.gcd x n : Nat) : Int) := by
  rw [gcdI_nat, Int.tdiv_eq_ediv_of_nonneg (by omega)]
  rfl
 have h1 : x / Nat.gcd x n ≤ x := Nat.div_le_self _ _
 have e1 : IntKind.i64.wrap ((x / Nat.gcd x n : Nat) : Int) = ((x / Nat.gcd x n : Nat) : Int) := IntWalk.i64_in _ (by generalize x / Nat.gcd x n = q at h1 ⊢; omega)
 unfold lcmStep wrapI
 rw [e, e1, show ((x / Nat.gcd x n : Nat) : Int) * (n : Int) = ((x / Nat.gcd x n * n : Nat) : Int) from rfl, lcm_div, IntWalk.i64_in _ (by omega)]
/-- The least common multiple of numbers. -/
def lcmL (l : List Int) : Nat := l.foldl (fun x y => Nat.lcm x y.toNat) 1
theorem lcmL_snoc (l : List Int) (x : Int) : lcmL (l ++ [x]) = Nat.lcm (lcmL l) x.toNat := by simp [lcmL]
theorem snoc_ind {α : Type} {p : List α → Prop} (h0 : p []) (h1 : ∀ l x, p l → p (l ++ [x])) (l : List α) : p l := by
 have : ∀ l : List α, p l.reverse := fun l => by
  induction l with
  | nil => exact h0
  | cons x l ih => rw [List.reverse_cons]; exact h1 _ _ ih
 have h := this l.reverse
 rwa [List.reverse_reverse] at h
theorem lcmL_dvd {l : List Int} (e : Nat) : (∀ x ∈ l, 0 < x) → (lcmL l ∣ e ↔ ∀ x ∈ l, x ∣ (e : Int)) := by
 induction l using snoc_ind with
 | h0 => intro _; simp [lcmL]
 | h1 l x ih =>
  intro hp
  have hx := hp x (by simp)
  rw [lcmL_snoc, Nat.lcm_dvd_iff, ih fun y hy => hp y (List.mem_append_left _ hy)]
  have e1 : x.toNat ∣ e ↔ x ∣ (e : Int) := by
   have : ((x.toNat : Nat) : Int) = x := by omega
   conv => rhs; rw [← this]
   exact Int.ofNat_dvd.symm
  rw [e1]
  constructor
  ·rintro ⟨h1, h2⟩ y hy
   rcases List.mem_append.1 hy with hy | hy
   ·exact h1 y hy
   ·simp only [List.mem_singleton] at hy; subst hy; exact h2
  ·exact fun h => ⟨fun y hy => h y (List.mem_append_left _ hy), h x (by simp)⟩
theorem lcmL_pos {l : List Int} : (∀ x ∈ l, 0 < x) → 0 < lcmL l := by
 induction l using snoc_ind with
 | h0 => intro _; decide
 | h1 l x ih =>
  intro hp
  rw [lcmL_snoc]
  exact Nat.lcm_pos (ih fun y hy => hp y (List.mem_append_left _ hy)) (by have := hp x (by simp); omega)
theorem lcmL_le {l : List Int} {x : Int} (hp : ∀ y ∈ l ++ [x], 0 < y) : lcmL l ≤ lcmL (l ++ [x]) := by
 rw [lcmL_snoc]
 refine Nat.le_of_dvd ?_ (Nat.dvd_lcm_left _ _)
 have := lcmL_pos hp
 rwa [lcmL_snoc] at this
/-- As the program reckons it. -/
theorem foldl_lcm {l : List Int} : (∀ x ∈ l, 0 < x) → lcmL l ≤ 9223372036854775807 → l.foldl lcmStep 1 = (lcmL l : Int) := by
 induction l using snoc_ind with
 | h0 => intro _ _; rfl
 | h1 l x ih =>
  intro hp hb
  have h1 := lcmL_le hp
  have hx := hp x (by simp)
  have h2 : lcmL l ≤ 9223372036854775807 := by omega
  rw [List.foldl_append, ih (fun y hy => hp y (List.mem_append_left _ hy)) h2]
  rw [lcmL_snoc] at hb ⊢
  show lcmStep _ x = _
  have e : x = ((x.toNat : Nat) : Int) := by omega
  conv => lhs; rw [e]
  exact lcmStep_nat hb h2
/-- What multiples there are of numbers that sum up to 9 at most. -/
def lcmT : List (List Nat) := [[1], [1], [1, 2], [1, 2, 3], [1, 2, 3, 4], [1, 2, 3, 4, 5, 6], [1, 2, 3, 4, 5, 6], [1, 2, 3, 4, 5, 6, 7, 10, 12], [1, 2, 3, 4, 5, 6, 7, 8, 10, 12, 15], [1, 2, 3, 4, 5, 6, 7, 8, 9, 10, 12, 14, 15, 20]]
theorem lcmT_step : (List.range 10).all (fun i => (List.range 10).all fun d => d == 0 || decide (9 < i + d) || (lcmT.getD i []).all fun y => (lcmT.getD (i + d) []).contains (Nat.lcm y d)) = true := by decide +kernel
theorem lcmT_le : (List.range 10).all (fun i => (lcmT.getD i []).all fun y => decide (y ≤ 20)) = true := by decide +kernel
theorem lcmT_mem {l : List Int} : (∀ x ∈ l, 0 < x) → l.sum ≤ 9 → lcmL l ∈ lcmT.getD l.sum.toNat [] ∧ 0 ≤ l.sum := by
 induction l using snoc_ind with
 | h0 => intro _ _; exact ⟨by simp [lcmL, lcmT], by simp⟩
 | h1 l x ih =>
  intro hp hs
  rw [List.sum_append, List.sum_singleton] at hs ⊢
  have hx := hp x (by simp)
  obtain ⟨h1, h2⟩ := ih (fun y hy => hp y (List.mem_append_left _ hy)) (by omega)
  refine ⟨?_, by omega⟩
  rw [lcmL_snoc]
  have h3 := List.all_eq_true.1 (List.all_eq_true.1 lcmT_step l.sum.toNat (List.mem_range.2 (by omega))) x.toNat (List.mem_range.2 (by omega))
  rw [Bool.or_eq_true, Bool.or_eq_true] at h3
  rcases h3 with (h3 | h3) | h3
  ·have : x.toNat = 0 := by simpa using h3
   omega
  ·have : 9 < l.sum.toNat + x.toNat := by simpa using h3
   omega
  ·have h4 := List.all_eq_true.1 h3 _ h1
   rw [show (l.sum + x).toNat = l.sum.toNat + x.toNat by omega]
   simpa using h4
theorem lcmL_small {l : List Int} (hp : ∀ x ∈ l, 0 < x) (hs : l.sum ≤ 9) : lcmL l ≤ 20 := by
 obtain ⟨h1, h2⟩ := lcmT_mem hp hs
 have h3 := List.all_eq_true.1 (List.all_eq_true.1 lcmT_le l.sum.toNat (List.mem_range.2 (by omega))) _ h1
 simpa using h3
theorem orderL_pos (a : Sym) : ∀ x ∈ orderL a, 0 < x := fun x hx => by
 rcases List.mem_append.1 hx with hx | hx
 ·exact cycI_pos _ x hx
 ·cases h : a.2 <;> simp [h] at hx
  omega
theorem orderL_dvd {a : Sym} (e : Nat) : lcmL (orderL a) ∣ e ↔ (∀ x ∈ cycI a.1, x ∣ (e : Int)) ∧ (a.2 = true → e % 2 = 0) := by
 rw [lcmL_dvd e (orderL_pos a)]
 unfold orderL
 constructor
 ·intro h
  refine ⟨fun x hx => h x (List.mem_append_left _ hx), fun ha => ?_⟩
  have := h 2 (List.mem_append_right _ (by simp [ha]))
  omega
 ·rintro ⟨h1, h2⟩ x hx
  rcases List.mem_append.1 hx with hx | hx
  ·exact h1 x hx
  ·cases h : a.2 <;> simp [h] at hx
   have := h2 h
   subst hx
   omega
theorem order_small {n : Nat} {a : Sy} (ha : Ok n a) (hn : n ≤ 9) : orderO a = ((lcmL (orderL a) : Int), 0) ∧ 0 < lcmL (orderL a) ∧ lcmL (orderL a) ≤ 40 := by
 have hp : PermL a.1.length a.1 := by rw [ha.1]; exact ha
 have hs := cycI_sum ha
 have h1 := lcmL_small (cycI_pos a.1) (by omega)
 have h2 : lcmL (orderL a) ≤ 40 := by
  unfold orderL
  cases a.2
  ·simp only [Bool.false_eq_true, if_false, List.append_nil]; omega
  ·simp only [if_true]
   rw [lcmL_snoc]
   have := Nat.le_of_dvd (Nat.mul_pos (lcmL_pos (cycI_pos a.1)) (show 0 < (2 : Int).toNat by decide)) (Nat.lcm_dvd_mul (lcmL (cycI a.1)) (2 : Int).toNat)
   have e : (2 : Int).toNat = 2 := rfl
   rw [e] at this ⊢
   omega
 refine ⟨?_, lcmL_pos (orderL_pos a), h2⟩
 rw [orderO, if_neg (by rw [Decidable.not_not, symI_zero]; exact ⟨by rw [ha.1]; omega, rfl, hp⟩), foldl_lcm (orderL_pos a) (by omega)]
/-- Different numbers, none of which is the complement of another one. -/
def markL (n : Nat) : List Int := (List.range n).map fun (i : Nat) => 100 + 3 * (i : Int)
theorem markL_len (n : Nat) : (markL n).length = n := by simp [markL]
theorem markL_get {n i : Nat} (hi : i < n) : (markL n).getD i 0 = 100 + 3 * (i : Int) := by simp [markL, List.getD_eq_getElem?_getD, hi]
theorem pow_mark {n : Nat} {a : Sy} (ha : Ok n a) (h0 : 0 < n) (hn : n ≤ 9) (e : Nat) : powI a e (markL n) = markL n ↔ lcmL (orderL a) ∣ e := by
 have hl := markL_len n
 have ha' : Ok (markL n).length a := by rw [hl]; exact ha
 rw [orderL_dvd, ← cycI_period ha]
 constructor
 ·intro h
  have key : ∀ j, j < n → goK a.1 e j = j ∧ (a.2 && oddB e) = false := fun j hj => by
   have h1 := powI_get ha' e (i := j) (by rw [hl]; exact hj)
   rw [h, hl, markL_get hj, markL_get (goK_lt ha e hj)] at h1
   cases h2 : (a.2 && oddB e) with
   | false => rw [h2] at h1; simp only [cmpl, Bool.false_eq_true, if_false] at h1; exact ⟨by omega, rfl⟩
   | true => rw [h2] at h1; simp only [cmpl, if_true] at h1; omega
  refine ⟨fun j hj => (key j hj).1, fun h1 => ?_⟩
  have h2 := (key 0 h0).2
  rw [h1] at h2
  have : ¬ e % 2 = 1 := by simpa [oddB] using h2
  omega
 ·rintro ⟨h1, h2⟩
  refine ext_getD (n := n) (by rw [powI_len, hl]) hl fun j hj => ?_
  have h3 := powI_get ha' e (i := j) (by rw [hl]; exact hj)
  rw [h1 j hj] at h3
  rw [h3]
  have : (a.2 && oddB e) = false := by
   cases h4 : a.2
   ·rfl
   ·have := h2 h4
    simp [oddB, this]
  rw [this]
  rfl
theorem pow_mark_first {n : Nat} {a : Sy} (ha : Ok n a) (h0 : 0 < n) (hn : n ≤ 9) {e : Nat} (h1 : 1 ≤ e) (h2 : e ≤ lcmL (orderL a)) : powI a e (markL n) = markL n ↔ e = lcmL (orderL a) := by
 rw [pow_mark ha h0 hn]
 exact ⟨fun h => Nat.le_antisymm h2 (Nat.le_of_dvd (by omega) h), fun h => by rw [h]; exact Nat.dvd_refl _⟩
end Go.Tal

/-
 The reference's groups: order, places, checks.
-/
namespace Go.Tal
open Go.RowKit Go.Proofs Go.Proofs.Tryz _root_.Tal
theorem lexLt_ne {xs ys : List Int} {i : Nat} (hx : i < xs.length) (hy : i < ys.length) (hp : lexCmp (xs.drop i) (ys.drop i) = lexCmp xs ys) (h : xs.getD i 0 ≠ ys.getD i 0) : decide (xs.getD i 0 < ys.getD i 0) = lexLt xs ys := by
 rw [lexLt, ← hp, lexCmp_drop hx hy]
 have hc : cmpI (xs.getD i 0) (ys.getD i 0) ≠ 0 := by unfold cmpI; split; omega; split <;> omega
 rw [if_pos hc]
 unfold cmpI
 split
 ·rename_i h1; rw [decide_eq_true h1]; rfl
 ·rename_i h1
  rw [if_pos (by omega), decide_eq_false h1]
  rfl
theorem lexLt_end {xs ys : List Int} {i : Nat} (hi : i ≤ xs.length) (hj : i ≤ ys.length) (he : ¬ (i < xs.length ∧ i < ys.length)) (hp : lexCmp (xs.drop i) (ys.drop i) = lexCmp xs ys) : decide ((xs.length : Int) < (ys.length : Int)) = lexLt xs ys := by
 rw [lexLt, ← hp]
 rcases Nat.lt_or_ge i ys.length with h | h
 ·rw [lexCmp_nil_cons (by omega) h, decide_eq_true (show (xs.length : Int) < (ys.length : Int) by omega)]
  rfl
 ·rcases Nat.lt_or_ge i xs.length with h2 | h2
  ·rw [lexCmp_cons_nil h2 h, decide_eq_false (show ¬ (xs.length : Int) < (ys.length : Int) by omega)]
   rfl
  ·rw [lexCmp_nil_nil h2 h, decide_eq_false (show ¬ (xs.length : Int) < (ys.length : Int) by omega)]
   rfl
theorem symLt_same {xs ys : List Int} {b c : Bool} (h : xs = ys) : symLt (xs, b) (ys, c) = (!b && c) := by
 subst h
 rw [symLt, Bool.eq_iff_iff, decide_eq_true_iff, symCmp_def]
 simp [lexCmp_refl]
theorem symLt_other {xs ys : List Int} {b c : Bool} (h : xs ≠ ys) : symLt (xs, b) (ys, c) = lexLt xs ys := by
 rw [symLt, lexLt, Bool.eq_iff_iff, decide_eq_true_iff, decide_eq_true_iff, symCmp_def]
 exact ⟨fun h1 => h1.resolve_right fun h2 => h h2.1, .inl⟩
/-- The place of the first element that is as asked, or -1. -/
def idxG {α : Type} (p : α → Bool) (l : List α) : Int := if l.any p then (l.findIdx p : Int) else -1
theorem idxG_some {α : Type} {d : α} {p : α → Bool} {l : List α} {i : Nat} (hi : i < l.length) (hp : p (l.getD i d) = true) (hn : ∀ j, j < i → p (l.getD j d) = false) : idxG p l = i := by
 simp only [List.getD_eq_getElem?_getD, List.getElem?_eq_getElem hi, Option.getD_some] at hp
 have h1 : l.any p = true := List.any_eq_true.2 ⟨_, List.getElem_mem hi, hp⟩
 rw [idxG, if_pos h1, (List.findIdx_eq hi).2 ⟨hp, fun j hj => by have := hn j hj; simpa [List.getD_eq_getElem?_getD, List.getElem?_eq_getElem (show j < l.length by omega)] using this⟩]
theorem idxG_none {α : Type} {d : α} {p : α → Bool} {l : List α} (hn : ∀ j, j < l.length → p (l.getD j d) = false) : idxG p l = -1 := by
 rw [idxG, if_neg]
 rw [List.any_eq_true]
 rintro ⟨x, hx, hp⟩
 obtain ⟨j, hj, rfl⟩ := List.getElem_of_mem hx
 have := hn j hj
 simp only [List.getD_eq_getElem?_getD, List.getElem?_eq_getElem hj, Option.getD_some] at this
 rw [hp] at this; cases this
theorem idxG_neg {α : Type} {p : α → Bool} {l : List α} : decide (idxG p l < 0) = !(l.any p) := by
 unfold idxG
 cases l.any p with
 | true => simp
 | false => simp
def idxA (l : List Sy) (a : Sy) : Int := idxG (fun x => decide (x = a)) l
theorem idxA_neg {l : List Sy} {a : Sy} : decide (idxA l a < 0) = !(decide (a ∈ l)) := by
 unfold idxA
 rw [idxG_neg]
 congr 1
 rw [Bool.eq_iff_iff]
 simp [List.any_eq_true]
def heavyB (l : List Sy) (n : Int) : Bool := decide (n < (l.length : Int)) || l.any fun a => decide (16 < (a.1.length : Int))
theorem heavyB_at {l : List Sy} {n : Int} {i : Nat} (hi : i < l.length) (h : 16 < ((l.getD i ([], false)).1.length : Int)) : heavyB l n = true := by
 have e : l.getD i ([], false) = l[i] := by rw [List.getD_eq_getElem?_getD, List.getElem?_eq_getElem hi]; rfl
 rw [e] at h
 rw [heavyB, List.any_eq_true.2 ⟨l[i], List.getElem_mem hi, decide_eq_true h⟩, Bool.or_true]
theorem heavyB_end {l : List Sy} {n : Int} (h0 : ¬ n < (l.length : Int)) (hn : ∀ j, j < l.length → ¬ 16 < ((l.getD j ([], false)).1.length : Int)) : heavyB l n = false := by
 rw [heavyB, decide_eq_false h0, Bool.false_or, Bool.eq_false_iff]
 intro h
 obtain ⟨a, ha, h1⟩ := List.any_eq_true.1 h
 obtain ⟨j, hj, rfl⟩ := List.getElem_of_mem ha
 have h2 := hn j hj
 rw [List.getD_eq_getElem?_getD, List.getElem?_eq_getElem hj] at h2
 exact h2 (by simpa using h1)
theorem heavyB_false {l : List Sy} {n : Int} (h : heavyB l n = false) : (l.length : Int) ≤ n ∧ ∀ a ∈ l, a.1.length ≤ 16 := by
 simp only [heavyB, Bool.or_eq_false_iff, decide_eq_false_iff_not, List.any_eq_false, decide_eq_true_eq] at h
 exact ⟨by omega, fun a ha => by have := h.2 a ha; omega⟩
theorem adjI_end {l : List Sy} {i : Nat} (h : adjI l i = true) (hi : l.length ≤ i) (hi2 : i ≤ l.length) : adjI l l.length = true := by
 rw [show l.length = i by omega]; exact h
/-- All products of the first i elements are there. -/
theorem closedB_no {l : List Sy} {i k : Nat} (hi : i < l.length) (hk : k < l.length) (h : idxA l (comp (l.getD i ([], false)) (l.getD k ([], false))) < 0) : closedB l = false := by
 rw [Bool.eq_false_iff]
 intro h1
 have e : ∀ {j}, (hj : j < l.length) → l.getD j ([], false) ∈ l := fun hj => by rw [List.getD_eq_getElem?_getD, List.getElem?_eq_getElem hj]; exact List.getElem_mem hj
 have h2 := closedB_iff.1 h1 _ (e hi) _ (e hk)
 have h3 : decide (idxA l (comp (l.getD i ([], false)) (l.getD k ([], false))) < 0) = true := decide_eq_true h
 rw [idxA_neg, decide_eq_true h2] at h3
 cases h3
theorem closedB_yes {l : List Sy} (h : ∀ i, i < l.length → ∀ k, k < l.length → ¬ idxA l (comp (l.getD i ([], false)) (l.getD k ([], false))) < 0) : closedB l = true := by
 refine closedB_iff.2 fun a ha b hb => ?_
 obtain ⟨i, hi, rfl⟩ := List.getElem_of_mem ha
 obtain ⟨k, hk, rfl⟩ := List.getElem_of_mem hb
 have h1 := decide_eq_false (h i hi k hk)
 rw [idxA_neg] at h1
 have e : ∀ {j}, (hj : j < l.length) → l.getD j ([], false) = l[j] := fun hj => by rw [List.getD_eq_getElem?_getD, List.getElem?_eq_getElem hj]; rfl
 rw [e hi, e hk] at h1
 simpa using h1
theorem rallI_at {l : List Sy} {c : Int} {i : Nat} (hi : i < l.length) (h : rsymI (l.getD i ([], false)).1 c ≠ 0) (hn : ∀ j, j < i → rsymI (l.getD j ([], false)).1 c = 0) : rallI l c = rsymI (l.getD i ([], false)).1 c := by
 have e : (l.map fun a => rsymI a.1 c) = (List.range l.length).map fun j => rsymI (l.getD j ([], false)).1 c := by
  apply List.ext_getElem
  ·simp
  ·intro j h1 h2
   simp only [List.length_map] at h1
   simp [List.getD_eq_getElem?_getD, h1]
 rw [rallI, e]
 exact firstI_at (f := fun j => rsymI (l.getD j ([], false)).1 c) hi h hn
theorem rallI_end {l : List Sy} {c : Int} (hn : ∀ j, j < l.length → rsymI (l.getD j ([], false)).1 c = 0) : rallI l c = 0 := by
 rw [rallI, firstI_zero]
 intro x hx
 obtain ⟨a, ha, rfl⟩ := List.mem_map.1 hx
 obtain ⟨j, hj, rfl⟩ := List.getElem_of_mem ha
 have := hn j hj
 rwa [List.getD_eq_getElem?_getD, List.getElem?_eq_getElem hj] at this
theorem rsymI_ok {a : List Int} {c : Int} (h0 : cellsI c = 0) (h : rsymI a c = 0) : (0 ≤ c ∧ c ≤ 256) ∧ (a.length : Int) = c ∧ PermL a.length a := by
 rw [rsymI_sym h0] at h
 exact symI_zero.1 h
set_option maxRecDepth 8000 in
set_option maxHeartbeats 1000000 in
theorem before_fn (xs ys : List Int) (v u : Value) (h : H) (hx : RdI h v xs) (hy : RdI h u ys) : FnV Tryz.prog 88 #[v, u] h (.bool (lexLt xs ys)) := by
 have hxm := hx.len
 refine fn_of (vs := [v, u]) func88 rfl ntmps88 (Nat.le_of_ble_eq_true rfl) fun w hw => ?_
 apply wp_seq'
 refine wp_text rfl ?_
 refine rm rfl ?_
 apply run_end
 apply wp_seq'
 apply wp_seq'
 refine wp_text rfl ?_
 refine rm rfl ?_
 apply run_end
 apply wp_block'
 refine wp_loop' (fun i : Nat => i ≤ xs.length ∧ i ≤ ys.length ∧ lexCmp (xs.drop i) (ys.drop i) = lexCmp xs ys) (fun i => ⟨[(5, .int .i64 i), (1, u), (0, v)], h, []⟩) (fun i => xs.length - i) 0 ⟨Nat.zero_le _, Nat.zero_le _, by simp⟩ ⟨by repeat (first|exact True.intro|refine And.intro rfl ?_), rfl, by repeat (first|exact NS _|exact SR _|apply SCC|apply SC)⟩ fun i hi => ?_
 obtain ⟨hi, hj, hp⟩ := hi
 apply wp_seq'
 apply wp_seq'
 refine wp_text rfl ?_
 refine rm rfl ?_
 refine rm rfl ?_
 refine rs rfl (s_lenI hx rfl rfl underlying35) ?_
 refine rs rfl (s_lt rfl rfl rfl) ?_
 refine rm rfl ?_
 refine run_cases (t := 10) rfl (fun hg10 => ?_) (fun hg10 => ?_)
 ·skip
  refine rsg rfl rfl (s_move rfl rfl) ?_
  refine rsg rfl rfl (s_move rfl rfl) ?_
  refine rsg rfl rfl (s_lenI hy rfl rfl underlying35) ?_
  refine rsg rfl rfl (s_lt rfl rfl rfl) ?_
  refine rs rfl (s_pick rfl rfl (fun _ => rfl) (fun h => by cases h)) ?_
  apply run_end
  refine wp_if' rfl (fun hc15 => ?_) (fun hc15 => ?_)
  ·skip
   apply wp_skip'
   apply wp_seq'
   apply wp_block'
   apply wp_seq'
   refine wp_any [0, 1, 2, 3, 4, 5, 6, 7, 8] rfl (by kernel_rfl) ?_
   refine rm rfl ?_
   refine rm rfl ?_
   refine rs rfl (s_iaI hx (by omega) (by omega) rfl rfl rfl underlying35 sizeOf3) ?_
   refine rs rfl (s_ldI hx (by omega) (by omega) rfl rfl isAgg3) ?_
   try simp only [Int.toNat_natCast]
   refine rm rfl ?_
   refine rm rfl ?_
   refine rs rfl (s_iaI hy (by omega) (by omega) rfl rfl rfl underlying35 sizeOf3) ?_
   refine rs rfl (s_ldI hy (by omega) (by omega) rfl rfl isAgg3) ?_
   try simp only [Int.toNat_natCast]
   refine rs rfl (s_ne rfl rfl rfl) ?_
   apply run_end
   refine wp_if' rfl (fun hc26 => ?_) (fun hc26 => ?_)
   ·skip
    apply wp_seq'
    refine wp_any [0, 1, 2, 3, 4, 5, 6, 7, 8, 9] rfl (by kernel_rfl) ?_
    refine rm rfl ?_
    refine rm rfl ?_
    refine rs rfl (s_iaI hx (by omega) (by omega) rfl rfl rfl underlying35 sizeOf3) ?_
    refine rs rfl (s_ldI hx (by omega) (by omega) rfl rfl isAgg3) ?_
    try simp only [Int.toNat_natCast]
    refine rm rfl ?_
    refine rm rfl ?_
    refine rs rfl (s_iaI hy (by omega) (by omega) rfl rfl rfl underlying35 sizeOf3) ?_
    refine rs rfl (s_ldI hy (by omega) (by omega) rfl rfl isAgg3) ?_
    try simp only [Int.toNat_natCast]
    refine rs rfl (s_lt rfl rfl rfl) ?_
    refine rm rfl ?_
    apply run_end
    apply wp_ret'
    exact fin_ret (res_tmp rfl rfl) (by rw [lexLt_ne (i := i) (by omega) (by omega) hp hc26])
   ·skip
    apply wp_skip'
    refine wp_text rfl ?_
    refine rm rfl ?_
    refine rs rfl (s_add rfl rfl rfl (IntWalk.i64_in _ (by omega))) ?_
    refine rm rfl ?_
    apply run_end
    exact ⟨i + 1, ⟨by omega, by omega, by rw [← hp, lexCmp_drop (i := i) (by omega) (by omega), if_neg (by unfold cmpI; rw [Decidable.not_not.1 hc26, if_neg (Int.lt_irrefl _), if_neg (Int.lt_irrefl _)]; simp)]⟩, by omega, ⟨by repeat (first|exact True.intro|refine And.intro rfl ?_), rfl, by repeat (first|exact NS _|exact SR _|apply SCC|apply SC)⟩⟩
  ·skip
   apply wp_exit'
   apply wp_seq'
   refine wp_text rfl ?_
   refine rm rfl ?_
   refine rs rfl (s_lenI hx rfl rfl underlying35) ?_
   refine rm rfl ?_
   refine rs rfl (s_lenI hy rfl rfl underlying35) ?_
   refine rs rfl (s_lt rfl rfl rfl) ?_
   refine rm rfl ?_
   apply run_end
   apply wp_ret'
   exact fin_ret (res_tmp rfl rfl) (by rw [lexLt_end (i := i) hi hj (by omega) hp])
 ·skip
  refine run_skip rfl rfl rfl rfl rfl rfl rfl ?_
  refine run_skip rfl rfl rfl rfl rfl rfl rfl ?_
  refine run_skip rfl rfl rfl rfl rfl rfl rfl ?_
  refine run_skip rfl rfl rfl rfl rfl rfl rfl ?_
  refine rs rfl (s_pick rfl rfl (fun h => by cases h) (fun _ => rfl)) ?_
  apply run_end
  refine wp_cond' (b := false) rfl (fun h => by cases h) (fun _ => ?_)
  apply wp_exit'
  apply wp_seq'
  refine wp_text rfl ?_
  refine rm rfl ?_
  refine rs rfl (s_lenI hx rfl rfl underlying35) ?_
  refine rm rfl ?_
  refine rs rfl (s_lenI hy rfl rfl underlying35) ?_
  refine rs rfl (s_lt rfl rfl rfl) ?_
  refine rm rfl ?_
  apply run_end
  apply wp_ret'
  exact fin_ret (res_tmp rfl rfl) (by rw [lexLt_end (i := i) hi hj (by omega) hp])
set_option maxRecDepth 8000 in
theorem befS_fn (xs ys : List Int) (b c : Bool) (v u : Value) (h : H) (hx : RdI h v xs) (hy : RdI h u ys) : FnV Tryz.prog 85 #[.agg #[v, .bool b], .agg #[u, .bool c]] h (.bool (symLt (xs, b) (ys, c))) := by
 refine fn_of (vs := [.agg #[v, .bool b], .agg #[u, .bool c]]) func85 rfl ntmps85 (Nat.le_of_ble_eq_true rfl) fun w hw => ?_
 apply wp_seq'
 refine wp_text rfl ?_
 refine run_box rfl rfl rfl rfl rfl rfl rfl fun b1 => ?_
 refine run_box rfl rfl rfl rfl rfl rfl rfl fun b2 => ?_
 refine rm rfl ?_
 apply run_end
 apply wp_seq'
 apply wp_seq'
 refine wp_text rfl ?_
 refine rs rfl (s_fa (off := 0) rfl rfl underlying37 rfl sizeOf35 rfl) ?_
 refine rs rfl (s_ld rfl rfl isAgg35 (.o_ rfl)) ?_
 refine rs rfl (s_fa (off := 0) rfl rfl underlying37 rfl sizeOf35 rfl) ?_
 refine rs rfl (s_ld rfl rfl isAgg35 (.o_ rfl)) ?_
 refine run_callv (vs := [_, _]) rfl rfl rfl rfl rfl rfl en82 (sameI_fn _ _ _ _ _ hx hy) ?_
 apply run_end
 refine wp_cond' rfl (fun hc9 => ?_) (fun hc9 => ?_)
 ·skip
  apply wp_seq'
  refine wp_text rfl ?_
  refine rs rfl (s_fa (off := 1) rfl rfl underlying37 rfl sizeOf4 rfl) ?_
  refine rs rfl (s_ld rfl rfl isAgg4 (.o_ rfl)) ?_
  refine rs rfl (s_not rfl rfl) ?_
  refine rm rfl ?_
  refine run_cb (t := 13) rfl (fun hg13 => ?_) (fun hg13 => ?_)
  ·skip
   refine rsg rfl rfl (s_fa (off := 1) rfl rfl underlying37 rfl sizeOf4 rfl) ?_
   refine rsg rfl rfl (s_ld rfl rfl isAgg4 (.o_ rfl)) ?_
   refine rs rfl (s_pick rfl rfl (fun _ => rfl) (fun h => by cases h)) ?_
   refine rm rfl ?_
   apply run_end
   apply wp_ret'
   exact fin_ret (res_tmp rfl rfl) (by rw [symLt_same (by simpa using hc9), hg13]; rfl)
  ·skip
   refine run_skip rfl rfl rfl rfl rfl rfl rfl ?_
   refine run_skip rfl rfl rfl rfl rfl rfl rfl ?_
   refine rs rfl (s_pick rfl rfl (fun h => by cases h) (fun _ => rfl)) ?_
   refine rm rfl ?_
   apply run_end
   apply wp_ret'
   exact fin_ret (res_tmp rfl rfl) (by rw [symLt_same (by simpa using hc9), hg13]; rfl)
 ·skip
  apply wp_skip'
  apply wp_seq'
  refine wp_text rfl ?_
  refine rs rfl (s_fa (off := 0) rfl rfl underlying37 rfl sizeOf35 rfl) ?_
  refine rs rfl (s_ld rfl rfl isAgg35 (.o_ rfl)) ?_
  refine rs rfl (s_fa (off := 0) rfl rfl underlying37 rfl sizeOf35 rfl) ?_
  refine rs rfl (s_ld rfl rfl isAgg35 (.o_ rfl)) ?_
  refine run_callv (vs := [_, _]) rfl rfl rfl rfl rfl rfl en88 (before_fn _ _ _ _ _ hx hy) ?_
  refine rm rfl ?_
  apply run_end
  apply wp_ret'
  exact fin_ret (res_tmp rfl rfl) (by rw [symLt_other (by simpa using hc9)])
set_option maxRecDepth 8000 in
theorem idxA_fn (l : List Sy) (a : Sy) (v u : Value) (h : H) (hl : RdS h v l) (ha : RdI h u a.1) : FnV Tryz.prog 84 #[v, .agg #[u, .bool a.2]] h (.int .i64 (idxA l a)) := by
 have hlm := hl.len
 refine fn_of (vs := [v, .agg #[u, .bool a.2]]) func84 rfl ntmps84 (Nat.le_of_ble_eq_true rfl) fun w hw => ?_
 apply wp_seq'
 refine wp_text rfl ?_
 refine run_box rfl rfl rfl rfl rfl rfl rfl fun b1 => ?_
 refine rm rfl ?_
 apply run_end
 apply wp_seq'
 apply wp_seq'
 refine wp_text rfl ?_
 refine rm rfl ?_
 apply run_end
 apply wp_block'
 refine wp_loop' (fun i : Nat => i ≤ l.length ∧ ∀ j, j < i → decide (l.getD j ([], false) = a) = false) (fun i => ⟨[(5, .int .i64 i), (3, .pointer (some ⟨b1, 0, none⟩)), (0, v)], h, [.obj b1 (.cells #[u, .bool a.2] 37 (0, 0))]⟩) (fun i => l.length - i) 0 ⟨Nat.zero_le _, fun _ h => by omega⟩ ⟨by repeat (first|exact True.intro|refine And.intro rfl ?_), rfl, by repeat (first|exact NS _|exact SR _|apply SCC|apply SC)⟩ fun i hi => ?_
 obtain ⟨hi, hn⟩ := hi
 apply wp_seq'
 apply wp_seq'
 refine wp_text rfl ?_
 refine rm rfl ?_
 refine rm rfl ?_
 refine rs rfl (s_lenS hl rfl rfl underlying22) ?_
 refine rs rfl (s_lt rfl rfl rfl) ?_
 apply run_end
 refine wp_if' rfl (fun hc9 => ?_) (fun hc9 => ?_)
 ·skip
  apply wp_skip'
  apply wp_seq'
  apply wp_block'
  apply wp_seq'
  refine wp_any [0, 1, 2, 3, 4, 5] rfl (by kernel_rfl) ?_
  refine rm rfl ?_
  refine rm rfl ?_
  refine rs rfl (s_iaS hl (by omega) (by omega) rfl rfl rfl underlying22 sizeOf37) ?_
  obtain ⟨sv15, hsv15, hat15⟩ := hl.get (j := i) (by omega)
  refine rs rfl (s_ldS hat15 (by omega) rfl rfl isAgg37 sizeOf37) ?_
  refine rs rfl (s_ld2 rfl rfl isAgg37 sizeOf37 (.o_ rfl) (.o_ rfl)) ?_
  refine run_callv (vs := [_, _]) rfl rfl rfl rfl rfl rfl en30 (sameS_fn _ _ _ _ _ hsv15 ha) ?_
  apply run_end
  refine wp_cond' rfl (fun hc17 => ?_) (fun hc17 => ?_)
  ·skip
   apply wp_seq'
   refine wp_text rfl ?_
   refine rm rfl ?_
   refine rm rfl ?_
   apply run_end
   apply wp_ret'
   exact fin_ret (res_tmp rfl rfl) (by rw [idxA, idxG_some (d := ([], false)) (i := i) (by omega) hc17 hn])
  ·skip
   apply wp_skip'
   refine wp_text rfl ?_
   refine rm rfl ?_
   refine rs rfl (s_add rfl rfl rfl (IntWalk.i64_in _ (by omega))) ?_
   refine rm rfl ?_
   apply run_end
   exact ⟨i + 1, ⟨by omega, fun j hj => (Nat.lt_succ_iff_lt_or_eq.1 hj).elim (hn j) (fun e => by rw [e]; exact hc17)⟩, by omega, ⟨by repeat (first|exact True.intro|refine And.intro rfl ?_), rfl, by repeat (first|exact NS _|exact SR _|apply SCC|apply SC)⟩⟩
 ·skip
  apply wp_exit'
  apply wp_seq'
  refine wp_text rfl ?_
  refine rm rfl ?_
  apply run_end
  apply wp_ret'
  exact fin_ret (res_tmp rfl rfl) (by rw [idxA, idxG_none (d := ([], false)) (fun j hj => hn j (by omega))])
set_option maxRecDepth 8000 in
theorem heavy_fn (l : List Sy) (n : Int) (v : Value) (h : H) (hl : RdS0 h v l) : FnV Tryz.prog 19 #[v, .int .i64 n] h (.bool (heavyB l n)) := by
 have hlm := hl.len
 refine fn_of (vs := [v, .int .i64 n]) func19 rfl ntmps19 (Nat.le_of_ble_eq_true rfl) fun w hw => ?_
 apply wp_seq'
 refine wp_text rfl ?_
 refine rm rfl ?_
 apply run_end
 apply wp_seq'
 apply wp_seq'
 refine wp_text rfl ?_
 refine rm rfl ?_
 refine rs rfl (s_lenS0 hl rfl rfl underlying22) ?_
 refine rm rfl ?_
 refine rs rfl (s_gt rfl rfl rfl) ?_
 apply run_end
 refine wp_if' rfl (fun hc9 => ?_) (fun hc9 => ?_)
 ·skip
  apply wp_seq'
  refine wp_text rfl ?_
  refine rm rfl ?_
  apply run_end
  apply wp_ret'
  exact fin_ret (res_tmp rfl rfl) (by rw [heavyB, decide_eq_true hc9, Bool.true_or])
 ·skip
  apply wp_skip'
  apply wp_seq'
  apply wp_seq'
  refine wp_text rfl ?_
  refine rm rfl ?_
  apply run_end
  apply wp_block'
  refine wp_loop' (fun i : Nat => i ≤ l.length ∧ ∀ j, j < i → ¬ 16 < ((l.getD j ([], false)).1.length : Int)) (fun i => ⟨[(5, .int .i64 i), (0, v)], h, []⟩) (fun i => l.length - i) 0 ⟨Nat.zero_le _, fun _ h => by omega⟩ ⟨by repeat (first|exact True.intro|refine And.intro rfl ?_), rfl, by repeat (first|exact NS _|exact SR _|apply SCC|apply SC)⟩ fun i hi => ?_
  obtain ⟨hi, hn⟩ := hi
  apply wp_seq'
  apply wp_seq'
  refine wp_text rfl ?_
  refine rm rfl ?_
  refine rm rfl ?_
  refine rs rfl (s_lenS0 hl rfl rfl underlying22) ?_
  refine rs rfl (s_lt rfl rfl rfl) ?_
  apply run_end
  refine wp_if' rfl (fun hc13 => ?_) (fun hc13 => ?_)
  ·skip
   apply wp_skip'
   apply wp_seq'
   apply wp_block'
   apply wp_seq'
   refine wp_text rfl ?_
   refine rm rfl ?_
   refine rm rfl ?_
   refine rs rfl (s_iaS0 hl (by omega) (by omega) rfl rfl rfl underlying22 sizeOf37) ?_
   obtain ⟨sv19, hsv19, hat19⟩ := hl.get (j := i) (by omega)
   refine rs rfl (s_faS (f := 0) hat19 rfl rfl underlying37 rfl sizeOf35 rfl) ?_
   refine rs rfl (s_ldS0 hat19 (by omega) rfl rfl isAgg35) ?_
   refine rs rfl (s_lenI0 hsv19 rfl rfl underlying35) ?_
   refine rs rfl (s_gt rfl rfl rfl) ?_
   apply run_end
   refine wp_if' rfl (fun hc22 => ?_) (fun hc22 => ?_)
   ·skip
    apply wp_seq'
    refine wp_text rfl ?_
    refine rm rfl ?_
    apply run_end
    apply wp_ret'
    exact fin_ret (res_tmp rfl rfl) (by rw [heavyB_at (i := i) (by omega) hc22])
   ·skip
    apply wp_skip'
    refine wp_text rfl ?_
    refine rm rfl ?_
    refine rs rfl (s_add rfl rfl rfl (IntWalk.i64_in _ (by omega))) ?_
    refine rm rfl ?_
    apply run_end
    exact ⟨i + 1, ⟨by omega, fun j hj => (Nat.lt_succ_iff_lt_or_eq.1 hj).elim (hn j) (fun e => by rw [e]; exact hc22)⟩, by omega, ⟨by repeat (first|exact True.intro|refine And.intro rfl ?_), rfl, by repeat (first|exact NS _|exact SR _|apply SCC|apply SC)⟩⟩
  ·skip
   apply wp_exit'
   apply wp_seq'
   refine wp_text rfl ?_
   refine rm rfl ?_
   apply run_end
   apply wp_ret'
   exact fin_ret (res_tmp rfl rfl) (by rw [heavyB_end hc9 (fun j hj => hn j (by omega))])
set_option maxRecDepth 8000 in
theorem rsym0_fn (a : List Int) (cm : Bool) (c : Int) (va : Value) (h : H) (hl : RdI0 h va a) : FnV Tryz.prog 26 #[.agg #[va, .bool cm], .int .i64 c] h (.int .i64 (rsymI a c)) := by
 refine fn_of (vs := [.agg #[va, .bool cm], .int .i64 c]) func26 rfl ntmps26 (Nat.le_of_ble_eq_true rfl) fun w hw => ?_
 apply wp_seq'
 refine wp_text rfl ?_
 refine run_box rfl rfl rfl rfl rfl rfl rfl fun b1 => ?_
 refine rm rfl ?_
 apply run_end
 apply wp_seq'
 apply wp_seq'
 refine wp_text rfl ?_
 refine rm rfl ?_
 refine run_callv (vs := [_]) rfl rfl rfl rfl rfl rfl en25 (rcells_fn _ _) ?_
 refine rs rfl (s_ne rfl rfl rfl) ?_
 apply run_end
 refine wp_if' rfl (fun hc7 => ?_) (fun hc7 => ?_)
 ·skip
  apply wp_seq'
  refine wp_text rfl ?_
  refine rm rfl ?_
  apply run_end
  apply wp_ret'
  exact fin_ret (res_tmp rfl rfl) (by rw [rsymI, decide_eq_true hc7]; rfl)
 ·skip
  apply wp_skip'
  apply wp_seq'
  apply wp_seq'
  refine wp_text rfl ?_
  refine rs rfl (s_fa (off := 0) rfl rfl underlying37 rfl sizeOf35 rfl) ?_
  refine rs rfl (s_ld rfl rfl isAgg35 (.o_ rfl)) ?_
  refine rs rfl (s_lenI0 hl rfl rfl underlying35) ?_
  refine rm rfl ?_
  refine rs rfl (s_ne rfl rfl rfl) ?_
  apply run_end
  refine wp_if' rfl (fun hc12 => ?_) (fun hc12 => ?_)
  ·skip
   apply wp_seq'
   refine wp_text rfl ?_
   refine rm rfl ?_
   apply run_end
   apply wp_ret'
   exact fin_ret (res_tmp rfl rfl) (by rw [rsymI, decide_eq_false hc7, decide_eq_true hc12]; rfl)
  ·skip
   have hc0 : cellsI c = 0 := Decidable.not_not.1 hc7
   have hl := hl.toI (by have h1 := cellsI_zero.1 hc0; have h2 := Decidable.not_not.1 hc12; omega)
   apply wp_skip'
   apply wp_seq'
   refine wp_text rfl ?_
   refine rs rfl (s_fa (off := 0) rfl rfl underlying37 rfl sizeOf35 rfl) ?_
   refine rs rfl (s_ld rfl rfl isAgg35 (.o_ rfl)) ?_
   refine run_callv (vs := [_]) rfl rfl rfl rfl rfl rfl en93 (rperm_fn _ _ _ hl) ?_
   refine rm rfl ?_
   apply run_end
   apply wp_ret'
   exact fin_ret (res_tmp rfl rfl) (by rw [rsymI, decide_eq_false hc7, decide_eq_false hc12]; rfl)
set_option maxRecDepth 8000 in
theorem rsame_fn (l : List Sy) (f g : List Int) (v u t : Value) (h : H) (hl : RdS h v l) (hf : RdI h u f) (hg : RdI h t g) (hok : ∀ a ∈ l, Ok f.length a) (hf0 : fillI f = 0) : FnV Tryz.prog 87 #[v, u, t] h (.int .i64 (idxG (fun a : Sy => decide (imgI a.1 a.2 f = g)) l)) := by
 have hlm := hl.len
 refine fn_of (vs := [v, u, t]) func87 rfl ntmps87 (Nat.le_of_ble_eq_true rfl) fun w hw => ?_
 apply wp_seq'
 refine wp_text rfl ?_
 refine rm rfl ?_
 apply run_end
 apply wp_seq'
 apply wp_seq'
 refine wp_text rfl ?_
 refine rm rfl ?_
 apply run_end
 apply wp_block'
 refine wp_loopg (fun i : Nat => i ≤ l.length ∧ ∀ j, j < i → decide (imgI (l.getD j ([], false)).1 (l.getD j ([], false)).2 f = g) = false) (fun i => ⟨[(7, .int .i64 i), (2, t), (1, u), (0, v)], []⟩) (fun i => l.length - i) 0 ⟨Nat.zero_le _, fun _ h => by omega⟩ ⟨by repeat (first|exact True.intro|refine And.intro rfl ?_), (by first | exact fun _ _ hb => hb | assumption), by repeat (first|exact NS _|exact SR _|apply SCC|apply SC)⟩ fun i hi => ?_
 obtain ⟨hi, hn⟩ := hi
 apply wp_seq'
 apply wp_seq'
 refine wp_text rfl ?_
 refine rm rfl ?_
 refine rm rfl ?_
 refine rs rfl (s_lenS hl rfl rfl underlying22) ?_
 refine rs rfl (s_lt rfl rfl rfl) ?_
 apply run_end
 refine wp_if' rfl (fun hc11 => ?_) (fun hc11 => ?_)
 ·skip
  apply wp_skip'
  apply wp_seq'
  apply wp_block'
  apply wp_seq'
  refine wp_text rfl ?_
  refine rm rfl ?_
  refine rm rfl ?_
  refine rs rfl (s_iaS hl (by omega) (by omega) rfl rfl rfl underlying22 sizeOf37) ?_
  obtain ⟨sv17, hsv17, hat17⟩ := hl.get (j := i) (by omega)
  refine rs rfl (s_ldS hat17 (by omega) rfl rfl isAgg37 sizeOf37) ?_
  refine rm rfl ?_
  refine run_call (vs := [_, _]) rfl rfl rfl rfl rfl rfl en58 (rapply_fn (l.getD i ([], false)).1 (l.getD i ([], false)).2 f _ _ _ hsv17 hf (hok _ (getD_mem' (l := l) (by omega))) (fun j hj => fillI_get hf0 hj)) ?_
  intro v19 h19 hv19 hh19
  have hl := hl.mono hh19
  have hf := hf.mono hh19
  have hg := hg.mono hh19
  have hsv17 := hsv17.mono hh19
  refine rm rfl ?_
  refine run_callv (vs := [_, _]) rfl rfl rfl rfl rfl rfl en82 (sameI_fn _ _ _ _ _ hv19 hg) ?_
  apply run_end
  refine wp_cond' rfl (fun hc21 => ?_) (fun hc21 => ?_)
  ·skip
   apply wp_seq'
   refine wp_text rfl ?_
   refine rm rfl ?_
   refine rm rfl ?_
   apply run_end
   apply wp_ret'
   exact fin_ret (res_tmp rfl rfl) (by rw [idxG_some (d := ([], false)) (i := i) (by omega) hc21 hn])
  ·skip
   apply wp_skip'
   refine wp_text rfl ?_
   refine rm rfl ?_
   refine rs rfl (s_add rfl rfl rfl (IntWalk.i64_in _ (by omega))) ?_
   refine rm rfl ?_
   apply run_end
   exact ⟨i + 1, ⟨by omega, fun j hj => (Nat.lt_succ_iff_lt_or_eq.1 hj).elim (hn j) (fun e => by rw [e]; exact hc21)⟩, by omega, ⟨by repeat (first|exact True.intro|refine And.intro rfl ?_), (by first | exact fun _ _ hb => hb | assumption), by repeat (first|exact NS _|exact SR _|apply SCC|apply SC)⟩⟩
 ·skip
  apply wp_exit'
  apply wp_seq'
  refine wp_text rfl ?_
  refine rm rfl ?_
  apply run_end
  apply wp_ret'
  exact fin_ret (res_tmp rfl rfl) (by rw [idxG_none (d := ([], false)) (fun j hj => hn j (by omega))])
set_option maxRecDepth 8000 in
set_option maxHeartbeats 4000000 in
theorem rgroup_fn (l : List Sy) (c : Int) (v : Value) (h : H) (hl : RdS0 h v l) : FnV Tryz.prog 20 #[v, .int .i64 c] h (.int .i64 (rgrpI l c)) := by
 have hlm := hl.len
 refine fn_of (vs := [v, .int .i64 c]) func20 rfl ntmps20 (Nat.le_of_ble_eq_true rfl) fun w hw => ?_
 apply wp_seq'
 refine wp_text rfl ?_
 refine rm rfl ?_
 apply run_end
 apply wp_seq'
 apply wp_seq'
 refine wp_text rfl ?_
 refine rm rfl ?_
 refine run_callv (vs := [_]) rfl rfl rfl rfl rfl rfl en25 (rcells_fn _ _) ?_
 refine rs rfl (s_ne rfl rfl rfl) ?_
 apply run_end
 refine wp_if' rfl (fun hc12 => ?_) (fun hc12 => ?_)
 ·skip
  apply wp_seq'
  refine wp_text rfl ?_
  refine rm rfl ?_
  apply run_end
  apply wp_ret'
  exact fin_ret (res_tmp rfl rfl) (by rw [rgrpI, if_pos hc12])
 ·skip
  have hc0 : cellsI c = 0 := Decidable.not_not.1 hc12
  apply wp_skip'
  apply wp_seq'
  apply wp_seq'
  refine wp_text rfl ?_
  refine rm rfl ?_
  refine rs rfl (s_lenS0 hl rfl rfl underlying22) ?_
  refine rs rfl (s_eq rfl rfl rfl) ?_
  apply run_end
  refine wp_if' rfl (fun hc15 => ?_) (fun hc15 => ?_)
  ·skip
   apply wp_seq'
   refine wp_text rfl ?_
   refine rm rfl ?_
   apply run_end
   apply wp_ret'
   exact fin_ret (res_tmp rfl rfl) (by rw [rgrpI, if_neg hc12, if_pos hc15])
  ·skip
   apply wp_skip'
   apply wp_seq'
   apply wp_seq'
   refine wp_text rfl ?_
   refine rm rfl ?_
   refine rs rfl (s_lenS0 hl rfl rfl underlying22) ?_
   refine rs rfl (s_gt rfl rfl rfl) ?_
   apply run_end
   refine wp_if' rfl (fun hc18 => ?_) (fun hc18 => ?_)
   ·skip
    apply wp_seq'
    refine wp_text rfl ?_
    refine rm rfl ?_
    apply run_end
    apply wp_ret'
    exact fin_ret (res_tmp rfl rfl) (by rw [rgrpI, if_neg hc12, if_neg hc15, if_pos hc18])
   ·skip
    apply wp_skip'
    apply wp_seq'
    apply wp_seq'
    refine wp_text rfl ?_
    refine rm rfl ?_
    apply run_end
    apply wp_block'
    refine wp_loop' (fun i : Nat => i ≤ l.length ∧ ∀ j, j < i → rsymI (l.getD j ([], false)).1 c = 0) (fun i => ⟨[(5, .int .i64 i), (1, .int .i64 c), (0, v)], h, []⟩) (fun i => l.length - i) 0 ⟨Nat.zero_le _, fun _ h => by omega⟩ ⟨by repeat (first|exact True.intro|refine And.intro rfl ?_), rfl, by repeat (first|exact NS _|exact SR _|apply SCC|apply SC)⟩ fun i hi => ?_
    obtain ⟨hi, hn⟩ := hi
    apply wp_seq'
    apply wp_seq'
    refine wp_text rfl ?_
    refine rm rfl ?_
    refine rm rfl ?_
    refine rs rfl (s_lenS0 hl rfl rfl underlying22) ?_
    refine rs rfl (s_lt rfl rfl rfl) ?_
    apply run_end
    refine wp_if' rfl (fun hc22 => ?_) (fun hc22 => ?_)
    ·skip
     apply wp_skip'
     apply wp_seq'
     apply wp_block'
     apply wp_seq'
     refine wp_text rfl ?_
     refine rm rfl ?_
     refine rm rfl ?_
     refine rs rfl (s_iaS0 hl (by omega) (by omega) rfl rfl rfl underlying22 sizeOf37) ?_
     obtain ⟨sv28, hsv28, hat28⟩ := hl.get (j := i) (by omega)
     refine rs rfl (s_ldS hat28 (by omega) rfl rfl isAgg37 sizeOf37) ?_
     refine rm rfl ?_
     refine run_callv (vs := [_, _]) rfl rfl rfl rfl rfl rfl en26 (rsym0_fn _ _ _ _ _ hsv28) ?_
     refine rm rfl ?_
     apply run_end
     apply wp_seq'
     refine wp_text rfl ?_
     refine rm rfl ?_
     refine rs rfl (s_ne rfl rfl rfl) ?_
     apply run_end
     refine wp_if' rfl (fun hc32 => ?_) (fun hc32 => ?_)
     ·skip
      apply wp_seq'
      refine wp_text rfl ?_
      refine rm rfl ?_
      refine rm rfl ?_
      apply run_end
      apply wp_ret'
      exact fin_ret (res_tmp rfl rfl) (by rw [rgrpI, if_neg hc12, if_neg hc15, if_neg hc18, rallI_at (i := i) (by omega) hc32 hn, if_pos hc32])
     ·skip
      apply wp_skip'
      refine wp_text rfl ?_
      refine rm rfl ?_
      refine rs rfl (s_add rfl rfl rfl (IntWalk.i64_in _ (by omega))) ?_
      refine rm rfl ?_
      apply run_end
      exact ⟨i + 1, ⟨by omega, fun j hj => (Nat.lt_succ_iff_lt_or_eq.1 hj).elim (hn j) (fun e => by rw [e]; exact Decidable.not_not.1 hc32)⟩, by omega, ⟨by repeat (first|exact True.intro|refine And.intro rfl ?_), rfl, by repeat (first|exact NS _|exact SR _|apply SCC|apply SC)⟩⟩
    ·skip
     obtain rfl : i = l.length := by omega
     have hz := rallI_end hn
     have hok : ∀ j, j < l.length → (0 ≤ c ∧ c ≤ 256) ∧ ((l.getD j ([], false)).1.length : Int) = c ∧ PermL (l.getD j ([], false)).1.length (l.getD j ([], false)).1 := fun j hj => rsymI_ok hc0 (hn j hj)
     have hl := hl.toS (by omega) (fun a ha => by obtain ⟨j, hj, rfl⟩ := List.getElem_of_mem ha; have h1 := hok j hj; rw [List.getD_eq_getElem?_getD, List.getElem?_eq_getElem hj] at h1; simp only [Option.getD_some] at h1; omega)
     apply wp_exit'
     apply wp_seq'
     apply wp_seq'
     refine wp_text rfl ?_
     refine rm rfl ?_
     apply run_end
     apply wp_block'
     refine wp_loop' (fun i : Nat => 1 ≤ i ∧ i ≤ l.length ∧ adjI l i = true) (fun i => ⟨[(7, .int .i64 i), (1, .int .i64 c), (0, v)], h, []⟩) (fun i => l.length - i) 1 ⟨Nat.le_refl _, by omega, rfl⟩ ⟨by repeat (first|exact True.intro|refine And.intro rfl ?_), rfl, by repeat (first|exact NS _|exact SR _|apply SCC|apply SC)⟩ fun i hi => ?_
     obtain ⟨h1, hi, ha⟩ := hi
     apply wp_seq'
     apply wp_seq'
     refine wp_text rfl ?_
     refine rm rfl ?_
     refine rm rfl ?_
     refine rs rfl (s_lenS hl rfl rfl underlying22) ?_
     refine rs rfl (s_lt rfl rfl rfl) ?_
     apply run_end
     refine wp_if' rfl (fun hc37 => ?_) (fun hc37 => ?_)
     ·skip
      apply wp_skip'
      apply wp_seq'
      apply wp_block'
      apply wp_seq'
      refine wp_any [0, 1, 2, 3, 4, 5, 6, 7, 8, 9, 10] rfl (by kernel_rfl) ?_
      refine rm rfl ?_
      refine rm rfl ?_
      refine rs rfl (s_sub rfl rfl rfl (IntWalk.i64_in _ (by omega))) ?_
      refine rs rfl (s_iaS hl (by omega) (by omega) rfl rfl rfl underlying22 sizeOf37) ?_
      obtain ⟨sv44, hsv44, hat44⟩ := hl.get (j := i - 1) (by omega)
      refine rs rfl (s_ldS hat44 (by omega) rfl rfl isAgg37 sizeOf37) ?_
      refine rm rfl ?_
      refine rm rfl ?_
      refine rs rfl (s_iaS hl (by omega) (by omega) rfl rfl rfl underlying22 sizeOf37) ?_
      obtain ⟨sv48, hsv48, hat48⟩ := hl.get (j := i) (by omega)
      refine rs rfl (s_ldS hat48 (by omega) rfl rfl isAgg37 sizeOf37) ?_
      refine run_callv (vs := [_, _]) rfl rfl rfl rfl rfl rfl en85 (befS_fn _ _ _ _ _ _ _ hsv44 hsv48) ?_
      refine rs rfl (s_not rfl rfl) ?_
      apply run_end
      refine wp_cond' rfl (fun hc50 => ?_) (fun hc50 => ?_)
      ·skip
       apply wp_seq'
       refine wp_text rfl ?_
       refine rm rfl ?_
       apply run_end
       apply wp_ret'
       exact fin_ret (res_tmp rfl rfl) (by rw [rgrpI, if_neg hc12, if_neg hc15, if_neg hc18, if_neg (by simp [hz]), if_pos (adjI_false (i := i) (by omega) (by rw [decide_eq_false (show ¬ i = 0 by omega), Bool.false_or]; simpa using hc50))])
      ·skip
       apply wp_skip'
       refine wp_text rfl ?_
       refine rm rfl ?_
       refine rs rfl (s_add rfl rfl rfl (IntWalk.i64_in _ (by omega))) ?_
       refine rm rfl ?_
       apply run_end
       exact ⟨i + 1, ⟨by omega, by omega, by rw [adjI_succ, ha, decide_eq_false (show ¬ i = 0 by omega)]; simpa using hc50⟩, by omega, ⟨by repeat (first|exact True.intro|refine And.intro rfl ?_), rfl, by repeat (first|exact NS _|exact SR _|apply SCC|apply SC)⟩⟩
     ·skip
      have hadj := adjI_end ha (by omega) (by omega)
      apply wp_exit'
      apply wp_seq'
      apply wp_seq'
      refine wp_text rfl ?_
      refine rm rfl ?_
      apply run_end
      apply wp_block'
      refine wp_loopg (fun i : Nat => i ≤ l.length ∧ ∀ j, j < i → ∀ k, k < l.length → ¬ idxA l (comp (l.getD j ([], false)) (l.getD k ([], false))) < 0) (fun i => ⟨[(8, .int .i64 i), (1, .int .i64 c), (0, v)], []⟩) (fun i => l.length - i) 0 ⟨Nat.zero_le _, fun _ h => by omega⟩ ⟨by repeat (first|exact True.intro|refine And.intro rfl ?_), (by first | exact fun _ _ hb => hb | assumption), by repeat (first|exact NS _|exact SR _|apply SCC|apply SC)⟩ fun i hi => ?_
      obtain ⟨hi, hn2⟩ := hi
      apply wp_seq'
      apply wp_seq'
      refine wp_text rfl ?_
      refine rm rfl ?_
      refine rm rfl ?_
      refine rs rfl (s_lenS hl rfl rfl underlying22) ?_
      refine rs rfl (s_lt rfl rfl rfl) ?_
      apply run_end
      refine wp_if' rfl (fun hc54 => ?_) (fun hc54 => ?_)
      ·skip
       apply wp_skip'
       apply wp_seq'
       apply wp_block'
       apply wp_seq'
       refine wp_text rfl ?_
       refine rm rfl ?_
       apply run_end
       apply wp_block'
       refine wp_loopg (fun k : Nat => k ≤ l.length ∧ ∀ j, j < k → ¬ idxA l (comp (l.getD i ([], false)) (l.getD j ([], false))) < 0) (fun k => ⟨[(9, .int .i64 k), (8, .int .i64 i), (1, .int .i64 c), (0, v)], []⟩) (fun k => l.length - k) 0 ⟨Nat.zero_le _, fun _ h => by omega⟩ ⟨by repeat (first|exact True.intro|refine And.intro rfl ?_), (by first | exact fun _ _ hb => hb | assumption), by repeat (first|exact NS _|exact SR _|apply SCC|apply SC)⟩ fun k hk => ?_
       obtain ⟨hk, hn3⟩ := hk
       apply wp_seq'
       apply wp_seq'
       refine wp_text rfl ?_
       refine rm rfl ?_
       refine rm rfl ?_
       refine rs rfl (s_lenS hl rfl rfl underlying22) ?_
       refine rs rfl (s_lt rfl rfl rfl) ?_
       apply run_end
       refine wp_if' rfl (fun hc60 => ?_) (fun hc60 => ?_)
       ·skip
        apply wp_skip'
        apply wp_seq'
        apply wp_block'
        apply wp_seq'
        refine wp_any [0, 1, 2, 3, 4, 5, 6, 7, 8, 9, 10, 11] rfl (by kernel_rfl) ?_
        refine rm rfl ?_
        refine rm rfl ?_
        refine rm rfl ?_
        refine rs rfl (s_iaS hl (by omega) (by omega) rfl rfl rfl underlying22 sizeOf37) ?_
        obtain ⟨sv67, hsv67, hat67⟩ := hl.get (j := i) (by omega)
        refine rs rfl (s_ldS hat67 (by omega) rfl rfl isAgg37 sizeOf37) ?_
        refine rm rfl ?_
        refine rm rfl ?_
        refine rs rfl (s_iaS hl (by omega) (by omega) rfl rfl rfl underlying22 sizeOf37) ?_
        obtain ⟨sv71, hsv71, hat71⟩ := hl.get (j := k) (by omega)
        refine rs rfl (s_ldS hat71 (by omega) rfl rfl isAgg37 sizeOf37) ?_
        refine run_call (vs := [_, _]) rfl rfl rfl rfl rfl rfl en65 (rcompose_fn (l.getD i ([], false)) (l.getD k ([], false)) _ _ _ hsv67 hsv71 (fun j hj => by have h1 := hok i (by omega); have h2 := (hok k (by omega)); have h3 := h2.2.2.getD_range hj; omega)) ?_
        intro v72 h72 hv72 hh72
        have hl := hl.mono hh72
        have hsv67 := hsv67.mono hh72
        have hsv71 := hsv71.mono hh72
        obtain ⟨sv72, rfl, hsv72⟩ := hv72
        refine run_callv (vs := [_, _]) rfl rfl rfl rfl rfl rfl en84 (idxA_fn _ _ _ _ _ hl hsv72) ?_
        refine rs rfl (s_lt rfl rfl rfl) ?_
        apply run_end
        refine wp_if' rfl (fun hc74 => ?_) (fun hc74 => ?_)
        ·skip
         apply wp_seq'
         refine wp_text rfl ?_
         refine rm rfl ?_
         apply run_end
         apply wp_ret'
         exact fin_ret (res_tmp rfl rfl) (by rw [rgrpI, if_neg hc12, if_neg hc15, if_neg hc18, if_neg (by simp [hz]), if_neg (by simp [hadj]), if_neg (by rw [closedB_no (i := i) (k := k) (by omega) (by omega) hc74]; simp)])
        ·skip
         apply wp_skip'
         refine wp_text rfl ?_
         refine rm rfl ?_
         refine rs rfl (s_add rfl rfl rfl (IntWalk.i64_in _ (by omega))) ?_
         refine rm rfl ?_
         apply run_end
         exact ⟨k + 1, ⟨by omega, fun j hj => (Nat.lt_succ_iff_lt_or_eq.1 hj).elim (hn3 j) (fun e => by rw [e]; exact hc74)⟩, by omega, ⟨by repeat (first|exact True.intro|refine And.intro rfl ?_), (by first | exact fun _ _ hb => hb | assumption), by repeat (first|exact NS _|exact SR _|apply SCC|apply SC)⟩⟩
       ·skip
        apply wp_exit'
        refine wp_text rfl ?_
        refine rm rfl ?_
        refine rs rfl (s_add rfl rfl rfl (IntWalk.i64_in _ (by omega))) ?_
        refine rm rfl ?_
        apply run_end
        exact ⟨i + 1, ⟨by omega, fun j hj => (Nat.lt_succ_iff_lt_or_eq.1 hj).elim (hn2 j) (fun e => by rw [e]; exact fun k2 hk2 => hn3 k2 (by omega))⟩, by omega, ⟨by repeat (first|exact True.intro|refine And.intro rfl ?_), (by first | exact fun _ _ hb => hb | assumption), by repeat (first|exact NS _|exact SR _|apply SCC|apply SC)⟩⟩
      ·skip
       apply wp_exit'
       apply wp_seq'
       refine wp_text rfl ?_
       refine rm rfl ?_
       apply run_end
       apply wp_ret'
       exact fin_ret (res_tmp rfl rfl) (by rw [rgrpI, if_neg hc12, if_neg hc15, if_neg hc18, if_neg (by simp [hz]), if_neg (by simp [hadj]), if_pos (closedB_yes fun j hj k hk => hn2 j (by omega) k hk)])
set_option maxRecDepth 8000 in
theorem long0_fn (f : List Int) (v : Value) (h : H) (hl : RdI0 h v f) : FnV Tryz.prog 51 #[v] h (.bool (longI f)) := by
 refine fn_of (vs := [v]) func51 rfl ntmps51 (Nat.le_of_ble_eq_true rfl) fun w hw => ?_
 apply wp_seq'
 refine wp_text rfl ?_
 refine rm rfl ?_
 apply run_end
 apply wp_seq'
 refine wp_text rfl ?_
 refine rm rfl ?_
 refine rs rfl (s_lenI0 hl rfl rfl underlying35) ?_
 refine rs rfl (s_gt rfl rfl rfl) ?_
 refine rm rfl ?_
 refine run_cases (t := 6) rfl (fun hg6 => ?_) (fun hg6 => ?_)
 ·skip
  refine rsg rfl rfl (s_move rfl rfl) ?_
  refine rsg rfl rfl (s_lenI0 hl rfl rfl underlying35) ?_
  refine rsg rfl rfl (s_lt rfl rfl rfl) ?_
  refine rs rfl (s_pick rfl rfl (fun _ => rfl) (fun h => by cases h)) ?_
  refine rm rfl ?_
  refine run_cases (t := 11) rfl (fun hg11 => ?_) (fun hg11 => ?_)
  ·skip
   refine run_skip rfl rfl rfl rfl rfl rfl rfl ?_
   refine run_skip rfl rfl rfl rfl rfl rfl rfl ?_
   refine run_skip rfl rfl rfl rfl rfl rfl rfl ?_
   refine rs rfl (s_pick rfl rfl (fun _ => rfl) (fun h => by cases h)) ?_
   refine rm rfl ?_
   apply run_end
   apply wp_ret'
   exact fin_ret (res_tmp rfl rfl) (by first | (simp_all [longI]; done) | (simp_all [longI]; omega))
  ·skip
   refine rsg rfl rfl (s_move rfl rfl) ?_
   refine rsg rfl rfl (s_lenI0 hl rfl rfl underlying35) ?_
   refine rsg rfl rfl (s_gt rfl rfl rfl) ?_
   refine rs rfl (s_pick rfl rfl (fun h => by cases h) (fun _ => rfl)) ?_
   refine rm rfl ?_
   apply run_end
   apply wp_ret'
   exact fin_ret (res_tmp rfl rfl) (by first | (simp_all [longI]; done) | (simp_all [longI]; omega))
 ·skip
  refine run_skip rfl rfl rfl rfl rfl rfl rfl ?_
  refine run_skip rfl rfl rfl rfl rfl rfl rfl ?_
  refine run_skip rfl rfl rfl rfl rfl rfl rfl ?_
  refine rs rfl (s_pick rfl rfl (fun h => by cases h) (fun _ => rfl)) ?_
  refine rm rfl ?_
  refine rsg rfl rfl (s_move rfl rfl) ?_
  refine rsg rfl rfl (s_lenI0 hl rfl rfl underlying35) ?_
  refine rsg rfl rfl (s_gt rfl rfl rfl) ?_
  refine rs rfl (s_pick rfl rfl (fun h => by cases h) (fun _ => rfl)) ?_
  refine rm rfl ?_
  apply run_end
  apply wp_ret'
  exact fin_ret (res_tmp rfl rfl) (by first | (simp_all [longI]; done) | (simp_all [longI]; omega))
end Go.Tal

/-
 Plain: small fillings under symmetries; what GroupActs compares.
-/
namespace Go.Tal
open Go.RowKit Go.Proofs _root_.Tal
def smallB (f : List Int) : Bool := !(decide (9 < (f.length : Int))) && f.all fun x => !(decide (x < -1000) || decide (1000 < x))
theorem smallB_long {f : List Int} (h : 9 < (f.length : Int)) : smallB f = false := by rw [smallB, decide_eq_true h]; rfl
theorem smallB_no {f : List Int} {i : Nat} (hi : i < f.length) (h : f.getD i 0 < -1000 ∨ 1000 < f.getD i 0) : smallB f = false := by
 refine Bool.eq_false_iff.2 fun hs => ?_
 have h1 := List.all_eq_true.1 (Bool.and_eq_true_iff.1 hs).2 _ (getD_mem hi)
 rcases h with h | h
 ·rw [decide_eq_true h] at h1; cases h1
 ·rw [decide_eq_true h, Bool.or_true] at h1; cases h1
theorem smallB_yes {f : List Int} (h9 : ¬ 9 < (f.length : Int)) (h : ∀ i, i < f.length → ¬ f.getD i 0 < -1000 ∧ ¬ 1000 < f.getD i 0) : smallB f = true := by
 rw [smallB, decide_eq_false h9]
 refine List.all_eq_true.2 fun x hx => ?_
 obtain ⟨i, hi, rfl⟩ := List.getElem_of_mem hx
 have := h i hi
 rw [List.getD_eq_getElem?_getD, List.getElem?_eq_getElem hi] at this
 simp only [Option.getD_some] at this
 rw [decide_eq_false this.1, decide_eq_false this.2]; rfl
theorem smallB_spec {f : List Int} (h : smallB f = true) : f.length ≤ 9 ∧ ∀ x ∈ f, -1000 ≤ x ∧ x ≤ 1000 := by
 obtain ⟨h1, h2⟩ := Bool.and_eq_true_iff.1 h
 have h3 : ¬ 9 < (f.length : Int) := by simpa using h1
 refine ⟨by omega, fun x hx => ?_⟩
 have := List.all_eq_true.1 h2 x hx
 simp only [Bool.not_eq_true', Bool.or_eq_false_iff, decide_eq_false_iff_not] at this
 omega
theorem getD_all {f : List Int} {p : Int → Prop} (h : ∀ i, i < f.length → p (f.getD i 0)) : ∀ x ∈ f, p x := fun x hx => by
 obtain ⟨i, hi, rfl⟩ := List.getElem_of_mem hx
 have := h i hi
 rwa [List.getD_eq_getElem?_getD, List.getElem?_eq_getElem hi] at this
theorem img_bd {a : Sy} {f : List Int} {B : Int} (ha : Ok f.length a) (h9 : f.length ≤ 9) (hb : ∀ x ∈ f, -B ≤ x ∧ x ≤ B) : ∀ x ∈ imgI a.1 a.2 f, -(B + 10) ≤ x ∧ x ≤ B + 10 := by
 refine getD_all fun j hj => ?_
 rw [imgI_len] at hj
 obtain ⟨i, hi, rfl⟩ := perm_onto ha hj
 rw [imgI_get ha hi]
 have := hb _ (getD_mem hi)
 unfold cmpl
 split <;> omega
theorem apply_small {a : Sy} {f : List Int} {B : Int} (ha : Ok f.length a) (h9 : f.length ≤ 9) (hB : B ≤ 900000) (hb : ∀ x ∈ f, -B ≤ x ∧ x ≤ B) : applyO a f = (imgI a.1 a.2 f, 0) := by
 have h1 : fillI f = 0 := fillI_zero.2 ⟨by omega, fun x hx => by have := hb x hx; omega⟩
 have h2 : symI a.1 f.length = 0 := symI_zero.2 ⟨by omega, by rw [ha.1], by rw [ha.1]; exact ha⟩
 rw [applyO, if_neg (by simp [h1]), if_neg (by simp [h2]), if_neg]
 intro hc
 obtain ⟨x, hx, h3⟩ := List.any_eq_true.1 hc
 have := img_bd ha h9 hb x hx
 unfold farI at h3
 simp only [Bool.or_eq_true, decide_eq_true_eq] at h3
 omega
theorem pow_bd {a : Sy} {f : List Int} {B : Int} (ha : Ok f.length a) (h9 : f.length ≤ 9) (hb : ∀ x ∈ f, -B ≤ x ∧ x ≤ B) : ∀ e : Nat, ∀ x ∈ powI a e f, -(B + 10 * e) ≤ x ∧ x ≤ B + 10 * e
 | 0 => fun x hx => by have := hb x hx; omega
 | e + 1 => fun x hx => by
  have hl := powI_len a f e
  have := img_bd (a := a) (f := powI a e f) (by rw [hl]; exact ha) (by omega) (pow_bd ha h9 hb e) x hx
  omega
theorem acts_ok {a b : Sy} {f : List Int} (hs : smallB f = true) (ha : rsymI a.1 f.length = 0) (hb : rsymI b.1 f.length = 0) :
 f.length ≤ 9 ∧ a.1.length = f.length ∧ b.1.length = f.length ∧ composeO a b = (comp a b, 0) ∧ applyO b f = (imgI b.1 b.2 f, 0) ∧ applyO a (imgI b.1 b.2 f) = (imgI (comp a b).1 (comp a b).2 f, 0) ∧ applyO (comp a b) f = (imgI (comp a b).1 (comp a b).2 f, 0) ∧
 invertO a = (inv a, 0) ∧ applyO a f = (imgI a.1 a.2 f, 0) ∧ applyO (inv a) (imgI a.1 a.2 f) = (f, 0) ∧
 ∃ L : Nat, orderO a = ((L : Int), 0) ∧ 0 < L ∧ L ≤ 40 ∧ (∀ e, e < L → applyO a (powI a e (markL f.length)) = (powI a (e + 1) (markL f.length), 0)) ∧
  (0 < f.length → ∀ e, 1 ≤ e → e ≤ L → (powI a e (markL f.length) = markL f.length ↔ e = L)) := by
 obtain ⟨h9, hbd⟩ := smallB_spec hs
 have hc : cellsI (f.length : Int) = 0 := cellsI_zero.2 ⟨by omega, by omega⟩
 obtain ⟨_, la, pa⟩ := rsymI_ok hc ha
 obtain ⟨_, lb, pb⟩ := rsymI_ok hc hb
 have la' : a.1.length = f.length := by omega
 have lb' : b.1.length = f.length := by omega
 have oa : Ok f.length a := by rw [← la']; exact pa
 have ob : Ok f.length b := by rw [← lb']; exact pb
 have oc := oa.comp ob
 have sy : ∀ {x : Sy}, Ok f.length x → symI x.1 a.1.length = 0 := fun {x} hx => symI_zero.2 ⟨by omega, by rw [hx.1, la'], by rw [hx.1]; exact hx⟩
 have hbi := img_bd ob h9 hbd
 have hai := img_bd oa h9 hbd
 have bl : (imgI b.1 b.2 f).length = f.length := imgI_len _ _ _
 have al : (imgI a.1 a.2 f).length = f.length := imgI_len _ _ _
 have ml := markL_len f.length
 have hm : ∀ x ∈ markL f.length, -200 ≤ x ∧ x ≤ 200 := fun x hx => by
  obtain ⟨i, hi, rfl⟩ := List.mem_map.1 hx
  have := List.mem_range.1 hi
  omega
 obtain ⟨o1, o2, o3⟩ := order_small oa h9
 refine ⟨h9, la', lb', ?_, apply_small ob h9 (B := 1000) (by omega) hbd, ?_, apply_small oc h9 (B := 1000) (by omega) hbd, ?_, apply_small oa h9 (B := 1000) (by omega) hbd, ?_, _, o1, o2, o3, fun e he => ?_, fun h0 e h1 h2 => pow_mark_first oa h0 h9 h1 h2⟩
 ·rw [composeO, if_neg (by rw [sy oa, sy ob]; decide)]
 ·rw [apply_small (B := 1010) (by rw [bl]; exact oa) (by omega) (by omega) hbi, imgI_comp oa ob]
 ·rw [invertO, if_neg (by rw [sy oa]; decide)]
  exact congrArg (·, (0 : Int)) (invS_eq oa)
 ·rw [apply_small (B := 1010) (by rw [al]; exact oa.inv) (by omega) (by omega) hai, imgI_inv oa]
 ·have hl := powI_len a (markL f.length) e
  rw [apply_small (a := a) (f := powI a e (markL f.length)) (B := 200 + 10 * e) (by rw [hl, ml]; exact oa) (by omega) (by omega) (pow_bd (by rw [ml]; exact oa) (by omega) hm e)]
  rfl
def fillTo (n i : Nat) : List Int := (List.range n).map fun (j : Nat) => if j < i then 100 + 3 * (j : Int) else 0
theorem fillTo_zero (n : Nat) : fillTo n 0 = List.replicate n 0 := by
 refine List.ext_getElem (by simp [fillTo]) fun i h1 h2 => ?_
 simp [fillTo]
theorem fillTo_len (n i : Nat) : (fillTo n i).length = n := by simp [fillTo]
theorem fillTo_succ {n i : Nat} : fillTo n (i + 1) = (fillTo n i).set i (100 + 3 * (i : Int)) := by
 refine List.ext_getElem (by simp [fillTo]) fun j h1 h2 => ?_
 rw [List.getElem_set]
 simp only [fillTo, List.getElem_map, List.getElem_range]
 by_cases h : i = j
 ·subst h; rw [if_pos (by omega), if_pos rfl]
 ·rw [if_neg h]
  by_cases h3 : j < i
  ·rw [if_pos (by omega), if_pos h3]
  ·rw [if_neg (by omega), if_neg h3]
theorem fillTo_all (n : Nat) : fillTo n n = markL n := by
 refine List.ext_getElem (by simp [fillTo, markL]) fun j h1 h2 => ?_
 rw [fillTo_len] at h1
 simp [fillTo, markL, h1]
end Go.Tal

/-
 Symbolic states: parts of lists that are read, appended to rows; insertion into ascending lists.
-/
namespace Go.Tal
open Go.RowKit Go.Proofs _root_.Tal
/-- A row's value has room for its length. -/
theorem WP.capOk {C : Ctx} {Q : Exit → S → Prop} {c : Code} {F : List (Nat × Value)} {h : H} {L L' : List Own} {v : Value} {n sz : Nat} {e : TypeId} {xs : List Value} (p : Pick (.row v e sz n xs) L L') (k : CapOk v n → WP C c Q ⟨F, h, L⟩) : WP C c Q ⟨F, h, L⟩ := by
 intro ro n' M hG a w ⟨Ds, hf, m⟩
 have p2 := p.append (Ds.map shut ++ M)
 have hin : w.ownsRow 0 e sz v n xs := (m.perm p2.perm).sat.own _ List.mem_cons_self
 refine k ?_ ro n' M hG a w ⟨Ds, hf, m⟩
 rcases hin.2 with ⟨h1, h2⟩ | ⟨g, cap, cur, h1, _, hg, hnc, _⟩
 ·exact ⟨none, 0, by rw [h1, h2], by omega⟩
 ·exact ⟨some ⟨g, 0, none⟩, cap, h1, hnc⟩
theorem CapOk.nil : CapOk (.slice none 0 0) 0 := ⟨none, 0, rfl, Nat.le_refl _⟩
theorem allRd_append {h : H} {v1 v2 : List Value} {o1 o2 : List (List Int)} (r1 : AllRd h v1 o1) (r2 : AllRd h v2 o2) : AllRd h (v1 ++ v2) (o1 ++ o2) := by
 refine ⟨by simp [r1.1, r2.1], fun j hj => ?_⟩
 by_cases hj1 : j < v1.length
 ·obtain ⟨sv, e1, e2⟩ := r1.2 j hj1
  refine ⟨sv, by rw [List.getElem?_append_left hj1]; exact e1, ?_⟩
  rw [List.getD_eq_getElem?_getD, List.getElem?_append_left (by rw [r1.1]; exact hj1), ← List.getD_eq_getElem?_getD]
  exact e2
 ·have hj2 : j - v1.length < v2.length := by simp at hj; omega
  obtain ⟨sv, e1, e2⟩ := r2.2 (j - v1.length) hj2
  refine ⟨sv, by rw [List.getElem?_append_right (by omega)]; exact e1, ?_⟩
  rw [List.getD_eq_getElem?_getD, List.getElem?_append_right (by rw [r1.1]; omega), ← List.getD_eq_getElem?_getD, r1.1]
  exact e2
theorem allRd_take {h : H} {v1 : List Value} {o1 : List (List Int)} (r1 : AllRd h v1 o1) (k : Nat) : AllRd h (v1.take k) (o1.take k) := by
 refine ⟨by simp [r1.1], fun j hj => ?_⟩
 rw [List.length_take] at hj
 obtain ⟨sv, e1, e2⟩ := r1.2 j (by omega)
 refine ⟨sv, by rw [List.getElem?_take, if_pos (by omega)]; exact e1, ?_⟩
 rw [List.getD_eq_getElem?_getD, List.getElem?_take, if_pos (by omega), ← List.getD_eq_getElem?_getD]
 exact e2
theorem allRd_drop {h : H} {v1 : List Value} {o1 : List (List Int)} (r1 : AllRd h v1 o1) (k : Nat) : AllRd h (v1.drop k) (o1.drop k) := by
 refine ⟨by simp [r1.1], fun j hj => ?_⟩
 rw [List.length_drop] at hj
 obtain ⟨sv, e1, e2⟩ := r1.2 (k + j) (by omega)
 refine ⟨sv, by rw [List.getElem?_drop]; exact e1, ?_⟩
 rw [List.getD_eq_getElem?_getD, List.getElem?_drop, ← List.getD_eq_getElem?_getD]
 exact e2
theorem allRd_one {h : H} {l : List Value} {outs : List (List Int)} (r : AllRd h l outs) : ∀ u ∈ l, u.oneCell' = true := fun u hu => by
 obtain ⟨j, hj, rfl⟩ := List.getElem_of_mem hu
 obtain ⟨sv, e1, e2⟩ := r.2 j hj
 rw [List.getElem?_eq_getElem hj] at e1
 cases e1
 exact e2.one
theorem addr_add (b o n : Nat) : (⟨b, o, none⟩ : Addr).add n = ⟨b, o + n, none⟩ := by unfold Addr.add; split <;> simp_all
/-- The values of a list of lists that is read, and where its parts lie. -/
theorem RdT.parts {h : H} {A : Option Addr} {n c : Nat} {l : List (List Int)} (r : RdT h (.slice A n c) l) (hc : n ≤ c) : ∃ vals : List Value, AllRd h vals l ∧ vals.length = n ∧ ∀ k, k ≤ n → ∀ L : List Own,
 (0 < k → ∃ b o', (if c = 0 then A else A.map (·.add 0)) = some ⟨b, o', none⟩ ∧ ∀ j u, (vals.take k)[j]? = some u → Cell h L b (o' + j) u) ∧
 (0 < n - k → ∃ b o', (if c = k then A else A.map (·.add (k * 1))) = some ⟨b, o', none⟩ ∧ ∀ j u, (vals.drop k)[j]? = some u → Cell h L b (o' + j) u) := by
 obtain ⟨A', c', e, hm, hr⟩ := r
 simp only [Value.slice.injEq] at e
 obtain ⟨rfl, rfl, rfl⟩ := e
 by_cases h0 : 0 < l.length
 ·obtain ⟨b, o, rfl, arr, t, fz, hb, hg⟩ := hr h0
  obtain ⟨vals, hv1, hv2⟩ := choose_list (Value.slice none 0 0) l.length fun i hi => (hg i hi)
  have hget : ∀ {j : Nat} {u : Value}, vals[j]? = some u → arr[o + j]? = some u := fun {j u} hu => by
   have hj := (List.getElem?_eq_some_iff.1 hu).1
   obtain ⟨h1, _⟩ := hv2 j (by omega)
   rw [List.getD_eq_getElem?_getD, hu] at h1
   exact h1
  refine ⟨vals, ⟨by omega, fun j hj => ?_⟩, hv1, fun k hk L => ⟨fun hp => ⟨b, o, ?_, fun j u hu => ?_⟩, fun hp => ⟨b, o + k, ?_, fun j u hu => ?_⟩⟩⟩
  ·obtain ⟨_, h2⟩ := hv2 j (by omega)
   refine ⟨vals.getD j (.slice none 0 0), ?_, h2⟩
   rw [List.getD_eq_getElem?_getD, List.getElem?_eq_getElem hj]
   rfl
  ·rw [if_neg (by omega)]
   rfl
  ·rw [List.getElem?_take] at hu
   split at hu
   ·exact .imm arr t fz hb (hget hu)
   ·cases hu
  ·rw [if_neg (by omega), Option.map_some, addr_add, Nat.mul_one]
  ·rw [List.getElem?_drop] at hu
   refine .imm arr t fz hb ?_
   rw [Nat.add_assoc]
   exact hget hu
 ·have e0 : l = [] := List.eq_nil_of_length_eq_zero (by omega)
  subst e0
  exact ⟨[], ⟨rfl, fun j hj => absurd hj (Nat.not_lt_zero j)⟩, rfl, fun k hk L => ⟨fun hp => absurd hk (by simp; omega), fun hp => absurd hp (by simp)⟩⟩
theorem RdS.parts {h : H} {A : Option Addr} {n c : Nat} {l : List Sy} (r : RdS h (.slice A n c) l) (hc : n ≤ c) : ∃ ps : List (Value × Sy), SetOk h ps ∧ ps.map (·.2) = l ∧ ps.length = n ∧ ∀ k, k ≤ n → ∀ L : List Own,
 (0 < k → ∃ b o', (if c = 0 then A else A.map (·.add 0)) = some ⟨b, o', none⟩ ∧ ∀ j u, (rowS (ps.take k))[j]? = some u → Cell h L b (o' + j) u) ∧
 (0 < n - k → ∃ b o', (if c = k then A else A.map (·.add (k * 2))) = some ⟨b, o', none⟩ ∧ ∀ j u, (rowS (ps.drop k))[j]? = some u → Cell h L b (o' + j) u) := by
 obtain ⟨A', c', e, hm, hr⟩ := r
 simp only [Value.slice.injEq] at e
 obtain ⟨rfl, rfl, rfl⟩ := e
 by_cases h0 : 0 < l.length
 ·obtain ⟨b, o, rfl, arr, t, fz, hb, hg⟩ := hr h0
  obtain ⟨ps, hv1, hv2⟩ := choose_list (p := fun i (q : Value × Sy) => arr[o + i * 2]? = some q.1 ∧ arr[o + i * 2 + 1]? = some (.bool q.2.2) ∧ RdI h q.1 q.2.1 ∧ q.2 = l.getD i ([], false)) ((.slice none 0 0, ([], false)) : Value × Sy) l.length fun i hi => by
   obtain ⟨sv, g1, g2, g3⟩ := hg i hi
   exact ⟨(sv, l.getD i ([], false)), g1, g2, g3, rfl⟩
  have hp : ∀ {j : Nat} (hj : j < ps.length), ps.getD j (.slice none 0 0, ([], false)) = ps[j] := fun hj => by rw [List.getD_eq_getElem?_getD, List.getElem?_eq_getElem hj]; rfl
  have hget : ∀ {j : Nat} {u : Value}, (rowS ps)[j]? = some u → arr[o + j]? = some u := fun {j u} hu => by
   have hj := (List.getElem?_eq_some_iff.1 hu).1
   rw [rowS_len] at hj
   obtain ⟨g1, g2⟩ := rowS_get (l := ps) (j := j / 2) (List.getElem?_eq_getElem (by omega))
   obtain ⟨h1, h2, _⟩ := hv2 (j / 2) (by omega)
   rw [hp (by omega)] at h1 h2
   rcases Nat.mod_two_eq_zero_or_one j with e | e
   ·have ej : j / 2 * 2 = j := by omega
    rw [ej] at g1 h1
    rw [hu] at g1
    rw [h1, g1]
   ·have ej : j / 2 * 2 + 1 = j := by omega
    rw [Nat.add_assoc, ej] at h2
    rw [ej] at g2
    rw [hu] at g2
    rw [h2, g2]
  have hmap : ps.map (·.2) = l := by
   apply List.ext_getElem
   ·simp [hv1]
   ·intro j h1 h2
    rw [List.length_map] at h1
    obtain ⟨_, _, _, h4⟩ := hv2 j (by omega)
    rw [hp h1] at h4
    rw [List.getElem_map, h4, List.getD_eq_getElem?_getD, List.getElem?_eq_getElem h2]
    rfl
  refine ⟨ps, fun q hq => ?_, hmap, hv1, fun k hk L => ⟨fun hp => ⟨b, o, ?_, fun j u hu => ?_⟩, fun hp => ⟨b, o + k * 2, ?_, fun j u hu => ?_⟩⟩⟩
  ·obtain ⟨j, hj, rfl⟩ := List.getElem_of_mem hq
   obtain ⟨_, _, h3, _⟩ := hv2 j (by omega)
   rw [hp hj] at h3
   exact h3
  ·rw [if_neg (by omega)]
   rfl
  ·refine .imm arr t fz hb (hget ?_)
   have hs : rowS ps = rowS (ps.take k) ++ rowS (ps.drop k) := by unfold rowS; rw [← List.flatMap_append, List.take_append_drop]
   rw [hs, List.getElem?_append_left (List.getElem?_eq_some_iff.1 hu).1]
   exact hu
  ·rw [if_neg (by omega), Option.map_some, addr_add]
  ·refine .imm arr t fz hb ?_
   rw [Nat.add_assoc]
   refine hget ?_
   rw [← rowS_drop, List.getElem?_drop] at hu
   exact hu
 ·have e0 : l = [] := List.eq_nil_of_length_eq_zero (by omega)
  subst e0
  exact ⟨[], fun q hq => by simp at hq, rfl, rfl, fun k hk L => ⟨fun hp => absurd hk (by simp; omega), fun hp => absurd hp (by simp)⟩⟩
theorem RdI.parts {h : H} {A : Option Addr} {n c : Nat} {l : List Int} (r : RdI h (.slice A n c) l) (hc : n ≤ c) : ∀ k, k ≤ n → ∀ L : List Own,
 (0 < k → ∃ b o', (if c = 0 then A else A.map (·.add 0)) = some ⟨b, o', none⟩ ∧ ∀ j u, ((l.take k).map (Value.int .i64))[j]? = some u → Cell h L b (o' + j) u) ∧
 (0 < n - k → ∃ b o', (if c = k then A else A.map (·.add (k * 1))) = some ⟨b, o', none⟩ ∧ ∀ j u, ((l.drop k).map (Value.int .i64))[j]? = some u → Cell h L b (o' + j) u) := by
 intro k hk L
 obtain ⟨A', c', e, hm, hr⟩ := r
 simp only [Value.slice.injEq] at e
 obtain ⟨rfl, rfl, rfl⟩ := e
 have hget : ∀ {b o : Nat} {arr : Array Value}, (∀ j, j < l.length → arr[o + j]? = some (.int .i64 (l.getD j 0))) → ∀ {j : Nat} {z : Int}, l[j]? = some z → arr[o + j]? = some (.int .i64 z) := fun {b o arr} hg {j z} hu => by
  have hj := (List.getElem?_eq_some_iff.1 hu).1
  have := hg j hj
  rw [List.getD_eq_getElem?_getD, hu] at this
  exact this
 refine ⟨fun hp => ?_, fun hp => ?_⟩
 ·obtain ⟨b, o, rfl, arr, t, fz, hb, hg⟩ := hr (by omega)
  refine ⟨b, o, by rw [if_neg (by omega)]; rfl, fun j u hu => ?_⟩
  rw [List.getElem?_map, List.getElem?_take] at hu
  split at hu
  ·rw [Option.map_eq_some_iff] at hu
   obtain ⟨z, hz, rfl⟩ := hu
   exact .imm arr t fz hb (hget (b := b) hg hz)
  ·cases hu
 ·obtain ⟨b, o, rfl, arr, t, fz, hb, hg⟩ := hr (by omega)
  refine ⟨b, o + k, by rw [if_neg (by omega), Option.map_some, addr_add, Nat.mul_one], fun j u hu => ?_⟩
  rw [List.getElem?_map, List.getElem?_drop, Option.map_eq_some_iff] at hu
  obtain ⟨z, hz, rfl⟩ := hu
  refine .imm arr t fz hb ?_
  rw [Nat.add_assoc]
  exact hget (b := b) hg hz
theorem ins_split {α : Type} {lt : α → α → Bool} (h : SLin lt) (d : α) {x : α} : ∀ {l : List α} {i : Nat}, i ≤ l.length → (∀ j, j < i → lt (l.getD j d) x = true) → (i < l.length → lt (l.getD i d) x = false ∧ l.getD i d ≠ x) → ins lt x l = l.take i ++ x :: l.drop i
 | [], i, hi, _, _ => by simp [ins]
 | y :: ys, 0, _, _, hn => by
  obtain ⟨h1, h2⟩ := hn (by simp)
  have h1' : lt y x = false := h1
  have h2' : lt x y = true := by
   cases h3 : lt x y with
   | true => rfl
   | false => exact absurd (h.total h1' h3) h2
  simp [ins, h2']
 | y :: ys, i + 1, hi, hl, hn => by
  have h1 : lt y x = true := hl 0 (by omega)
  rw [ins, if_neg (by rw [h.asymm h1]; simp), if_pos h1, ins_split h d (l := ys) (i := i) (by simpa using hi) (fun j hj => hl (j + 1) (by omega)) (fun hi2 => hn (by simpa using hi2))]
  rfl
theorem ins_there {α : Type} {lt : α → α → Bool} (h : SLin lt) (d : α) {x : α} : ∀ {l : List α} {i : Nat}, i < l.length → (∀ j, j < i → lt (l.getD j d) x = true) → l.getD i d = x → ins lt x l = l
 | [], i, hi, _, _ => by simp at hi
 | y :: ys, 0, _, _, e => by
  have e' : y = x := e
  subst e'
  simp [ins, h.irrefl]
 | y :: ys, i + 1, hi, hl, e => by
  have h1 : lt y x = true := hl 0 (by omega)
  rw [ins, if_neg (by rw [h.asymm h1]; simp), if_pos h1, ins_there h d (l := ys) (i := i) (by simpa using hi) (fun j hj => hl (j + 1) (by omega)) e]
end Go.Tal

/-
 GroupActs: applying after composing, inverting, and as often as the order says.
-/
namespace Go.Tal
open Go.RowKit Go.Proofs Go.Proofs.Tryz _root_.Tal
theorem apply_ok {a : Sy} {f g : List Int} {va vf : Value} {h : H} (e : applyO a f = (g, 0)) (ha : RdI h va a.1) (hf : RdI h vf f) : Fn Tryz.prog 52 #[.agg #[va, .bool a.2], vf] h fun v h' => ∃ sv, v = .tuple #[sv, .int .i64 0] ∧ RdI h' sv g := by
 have := apply_fn a f va vf h ha hf
 rwa [e] at this
theorem compose_ok {a b c : Sy} {va vb : Value} {h : H} (e : composeO a b = (c, 0)) (ha : RdI h va a.1) (hb : RdI h vb b.1) : Fn Tryz.prog 53 #[.agg #[va, .bool a.2], .agg #[vb, .bool b.2]] h fun v h' => ∃ sv, v = .tuple #[.agg #[sv, .bool c.2], .int .i64 0] ∧ RdI h' sv c.1 := by
 have := compose_fn a b va vb h ha hb
 rwa [e] at this
theorem invert_ok {a c : Sy} {va : Value} {h : H} (e : invertO a = (c, 0)) (ha : RdI h va a.1) : Fn Tryz.prog 54 #[.agg #[va, .bool a.2]] h fun v h' => ∃ sv, v = .tuple #[.agg #[sv, .bool c.2], .int .i64 0] ∧ RdI h' sv c.1 := by
 have := invert_fn a va h ha
 rwa [e] at this
theorem order_ok {a : Sy} {c : Int} {va : Value} {h : H} (e : orderO a = (c, 0)) (ha : RdI h va a.1) : FnV Tryz.prog 55 #[.agg #[va, .bool a.2]] h (.tuple #[.int .i64 c, .int .i64 0]) := by
 have := order_fn a va h ha
 rwa [e] at this
theorem s_lit {P : Program} {o : Oper} {F : List (Nat × Value)} {h : H} {L : List Own} {p q : Bool} (hs : SoftOk P o F h L (.bool p)) (e : p = q) : SoftOk P o F h L (.bool q) := e ▸ hs
theorem mark_ne {a : Sy} {n L e : Nat} {x y : List Int} (h : 0 < n → ∀ e, 1 ≤ e → e ≤ L → (powI a e (markL n) = markL n ↔ e = L)) (hx : x = powI a e (markL n)) (hy : y = markL n) (h0 : 0 < (n : Int)) (h1 : 1 ≤ e) (h2 : e ≤ L) (hg : (decide (x = y) != decide ((e : Int) = (L : Int))) = true) : False := by
 subst hx hy
 have h3 := h (by omega) e h1 h2
 have h4 : powI a e (markL n) = markL n ↔ (e : Int) = (L : Int) := h3.trans ⟨fun h => by rw [h], fun h => by omega⟩
 have h5 : decide (powI a e (markL n) = markL n) = decide ((e : Int) = (L : Int)) := decide_eq_decide.2 h4
 rw [h5] at hg
 simp at hg
/-- The values of a list that is read, and where they lie. -/
theorem RdI.news {h : H} {A : Option Addr} {n c : Nat} {l : List Int} (r : RdI h (.slice A n c) l) (L : List Own) : 0 < n → ∃ b o', A = some ⟨b, o', none⟩ ∧ ∀ j u, (l.map (Value.int .i64))[j]? = some u → Cell h L b (o' + j) u := by
 intro hp
 obtain ⟨A', c', e, hm, hr⟩ := r
 simp only [Value.slice.injEq] at e
 obtain ⟨rfl, rfl, rfl⟩ := e
 obtain ⟨b, o, rfl, arr, t, fz, hb, hg⟩ := hr hp
 refine ⟨b, o, rfl, fun j u hu => ?_⟩
 obtain ⟨z, hz, rfl⟩ := Option.map_eq_some_iff.1 ((List.getElem?_map ..) ▸ hu)
 have hj := (List.getElem?_eq_some_iff.1 hz).1
 have := hg j hj
 rw [List.getD_eq_getElem?_getD, hz] at this
 exact .imm arr t fz hb this
set_option maxRecDepth 8000 in
theorem small_fn (f : List Int) (v : Value) (h : H) (hf : RdI0 h v f) : FnV Tryz.prog 80 #[v] h (.bool (smallB f)) := by
 refine fn_of (vs := [v]) func80 rfl ntmps80 (Nat.le_of_ble_eq_true rfl) fun w hw => ?_
 apply wp_seq'
 refine wp_text rfl ?_
 refine rm rfl ?_
 apply run_end
 apply wp_seq'
 apply wp_seq'
 refine wp_text rfl ?_
 refine rm rfl ?_
 refine rs rfl (s_lenI0 hf rfl rfl underlying35) ?_
 refine rs rfl (s_gt rfl rfl rfl) ?_
 apply run_end
 refine wp_if' rfl (fun hc6 => ?_) (fun hc6 => ?_)
 ·skip
  apply wp_seq'
  refine wp_text rfl ?_
  refine rm rfl ?_
  apply run_end
  apply wp_ret'
  exact fin_ret (res_tmp rfl rfl) (by rw [smallB_long hc6])
 ·skip
  have hf := hf.toI (by omega)
  apply wp_skip'
  apply wp_seq'
  apply wp_seq'
  refine wp_text rfl ?_
  refine rm rfl ?_
  apply run_end
  apply wp_block'
  refine wp_loop' (fun i : Nat => i ≤ f.length ∧ ∀ j, j < i → ¬ f.getD j 0 < -1000 ∧ ¬ 1000 < f.getD j 0) (fun i => ⟨[(3, .int .i64 i), (0, v)], h, []⟩) (fun i => f.length - i) 0 ⟨Nat.zero_le _, fun _ h => by omega⟩ ⟨by repeat (first|exact True.intro|refine And.intro rfl ?_), rfl, by repeat (first|exact NS _|exact SR _|apply SCC|apply SC)⟩ fun i hi => ?_
  obtain ⟨hi, hn⟩ := hi
  apply wp_seq'
  apply wp_seq'
  refine wp_text rfl ?_
  refine rm rfl ?_
  refine rm rfl ?_
  refine rs rfl (s_lenI hf rfl rfl underlying35) ?_
  refine rs rfl (s_lt rfl rfl rfl) ?_
  apply run_end
  refine wp_if' rfl (fun hc10 => ?_) (fun hc10 => ?_)
  ·skip
   apply wp_skip'
   apply wp_seq'
   apply wp_block'
   apply wp_seq'
   refine wp_text rfl ?_
   refine rm rfl ?_
   refine rm rfl ?_
   refine rs rfl (s_iaI hf (by omega) (by omega) rfl rfl rfl underlying35 sizeOf3) ?_
   refine rs rfl (s_ldI hf (by omega) (by omega) rfl rfl isAgg3) ?_
   try simp only [Int.toNat_natCast]
   refine rs rfl (s_lt rfl rfl rfl) ?_
   refine rm rfl ?_
   refine run_cases (t := 18) rfl (fun hg18 => ?_) (fun hg18 => ?_)
   ·skip
    refine run_skip rfl rfl rfl rfl rfl rfl rfl ?_
    refine run_skip rfl rfl rfl rfl rfl rfl rfl ?_
    refine run_skip rfl rfl rfl rfl rfl rfl rfl ?_
    refine run_skip rfl rfl rfl rfl rfl rfl rfl ?_
    refine run_skip rfl rfl rfl rfl rfl rfl rfl ?_
    refine rs rfl (s_pick rfl rfl (fun _ => rfl) (fun h => by cases h)) ?_
    apply run_end
    refine wp_cond' (b := true) rfl (fun _ => ?_) (fun h => by cases h)
    apply wp_seq'
    refine wp_text rfl ?_
    refine rm rfl ?_
    apply run_end
    apply wp_ret'
    exact fin_ret (res_tmp rfl rfl) (by rw [smallB_no (i := i) (by omega) (.inl hg18)])
   ·skip
    refine rsg rfl rfl (s_move rfl rfl) ?_
    refine rsg rfl rfl (s_move rfl rfl) ?_
    refine rsg rfl rfl (s_iaI hf (by omega) (by omega) rfl rfl rfl underlying35 sizeOf3) ?_
    refine rsg rfl rfl (s_ldI hf (by omega) (by omega) rfl rfl isAgg3) ?_
    try simp only [Int.toNat_natCast]
    refine rsg rfl rfl (s_gt rfl rfl rfl) ?_
    refine rs rfl (s_pick rfl rfl (fun h => by cases h) (fun _ => rfl)) ?_
    apply run_end
    refine wp_if' rfl (fun hc24 => ?_) (fun hc24 => ?_)
    ·skip
     apply wp_seq'
     refine wp_text rfl ?_
     refine rm rfl ?_
     apply run_end
     apply wp_ret'
     exact fin_ret (res_tmp rfl rfl) (by rw [smallB_no (i := i) (by omega) (.inr hc24)])
    ·skip
     apply wp_skip'
     refine wp_text rfl ?_
     refine rm rfl ?_
     refine rs rfl (s_add rfl rfl rfl (IntWalk.i64_in _ (by omega))) ?_
     refine rm rfl ?_
     apply run_end
     exact ⟨i + 1, ⟨by omega, fun j hj => (Nat.lt_succ_iff_lt_or_eq.1 hj).elim (hn j) (fun e => by rw [e]; exact ⟨hg18, hc24⟩)⟩, by omega, ⟨by repeat (first|exact True.intro|refine And.intro rfl ?_), rfl, by repeat (first|exact NS _|exact SR _|apply SCC|apply SC)⟩⟩
  ·skip
   apply wp_exit'
   apply wp_seq'
   refine wp_text rfl ?_
   refine rm rfl ?_
   apply run_end
   apply wp_ret'
   exact fin_ret (res_tmp rfl rfl) (by rw [smallB_yes hc6 (fun j hj => hn j (by omega))])
set_option maxRecDepth 8000 in
set_option maxHeartbeats 4000000 in
theorem law_acts (a b : Sy) (f : List Int) (va vb vf : Value) (h : H) (ha : RdI0 h va a.1) (hb : RdI0 h vb b.1) (hf : RdI0 h vf f) : FnV Tryz.prog 14 #[.agg #[va, .bool a.2], .agg #[vb, .bool b.2], vf] h (.bool true) := by
 refine fn_of (vs := [.agg #[va, .bool a.2], .agg #[vb, .bool b.2], vf]) func14 rfl ntmps14 (Nat.le_of_ble_eq_true rfl) fun w hw => ?_
 apply wp_seq'
 refine wp_text rfl ?_
 refine run_box rfl rfl rfl rfl rfl rfl rfl fun b1 => ?_
 refine run_box rfl rfl rfl rfl rfl rfl rfl fun b2 => ?_
 refine rm rfl ?_
 apply run_end
 apply wp_seq'
 apply wp_seq'
 refine wp_text rfl ?_
 refine run_callv (vs := []) rfl rfl rfl rfl rfl rfl en18 (awake_fn _) ?_
 refine rs rfl (s_not rfl rfl) ?_
 refine rm rfl ?_
 refine rsg rfl rfl (s_move rfl rfl) ?_
 refine run_callvg (vs := [_]) rfl rfl rfl rfl rfl rfl rfl rfl en80 (small_fn _ _ _ hf) ?_
 refine rsg rfl rfl (s_not rfl rfl) ?_
 refine rs rfl (s_pick rfl rfl (fun h => by cases h) (fun _ => rfl)) ?_
 refine rm rfl ?_
 refine run_cb (t := 36) rfl (fun hg36 => ?_) (fun hg36 => ?_)
 ·skip
  refine run_skip rfl rfl rfl rfl rfl rfl rfl ?_
  refine run_skip rfl rfl rfl rfl rfl rfl rfl ?_
  refine run_skip rfl rfl rfl rfl rfl rfl rfl ?_
  refine run_skip rfl rfl rfl rfl rfl rfl rfl ?_
  refine run_skip rfl rfl rfl rfl rfl rfl rfl ?_
  refine rs rfl (s_pick rfl rfl (fun _ => rfl) (fun h => by cases h)) ?_
  refine rm rfl ?_
  refine run_skip rfl rfl rfl rfl rfl rfl rfl ?_
  refine run_skip rfl rfl rfl rfl rfl rfl rfl ?_
  refine run_skip rfl rfl rfl rfl rfl rfl rfl ?_
  refine run_skip rfl rfl rfl rfl rfl rfl rfl ?_
  refine run_skip rfl rfl rfl rfl rfl rfl rfl ?_
  refine rs rfl (s_pick rfl rfl (fun _ => rfl) (fun h => by cases h)) ?_
  apply run_end
  refine wp_cond' (b := true) rfl (fun _ => ?_) (fun h => by cases h)
  apply wp_seq'
  refine wp_text rfl ?_
  refine run_callv (vs := []) rfl rfl rfl rfl rfl rfl en18 (awake_fn _) ?_
  refine rm rfl ?_
  apply run_end
  apply wp_ret'
  exact fin_ret (res_tmp rfl rfl) (rfl)
 ·skip
  refine rsg rfl rfl (s_ld2 rfl rfl isAgg37 sizeOf37 (.o_ rfl) (.o_ rfl)) ?_
  refine rsg rfl rfl (s_move rfl rfl) ?_
  refine rsg rfl rfl (s_lenI0 hf rfl rfl underlying35) ?_
  refine run_callvg (vs := [_, _]) rfl rfl rfl rfl rfl rfl rfl rfl en26 (rsym0_fn _ _ _ _ _ ha) ?_
  refine rsg rfl rfl (s_ne rfl rfl rfl) ?_
  refine rs rfl (s_pick rfl rfl (fun h => by cases h) (fun _ => rfl)) ?_
  refine rm rfl ?_
  refine run_cases (t := 43) rfl (fun hg43 => ?_) (fun hg43 => ?_)
  ·skip
   refine run_skip rfl rfl rfl rfl rfl rfl rfl ?_
   refine run_skip rfl rfl rfl rfl rfl rfl rfl ?_
   refine run_skip rfl rfl rfl rfl rfl rfl rfl ?_
   refine run_skip rfl rfl rfl rfl rfl rfl rfl ?_
   refine run_skip rfl rfl rfl rfl rfl rfl rfl ?_
   refine rs rfl (s_pick rfl rfl (fun _ => rfl) (fun h => by cases h)) ?_
   apply run_end
   refine wp_cond' (b := true) rfl (fun _ => ?_) (fun h => by cases h)
   apply wp_seq'
   refine wp_text rfl ?_
   refine run_callv (vs := []) rfl rfl rfl rfl rfl rfl en18 (awake_fn _) ?_
   refine rm rfl ?_
   apply run_end
   apply wp_ret'
   exact fin_ret (res_tmp rfl rfl) (rfl)
  ·skip
   refine rsg rfl rfl (s_ld2 rfl rfl isAgg37 sizeOf37 (.o_ rfl) (.o_ rfl)) ?_
   refine rsg rfl rfl (s_move rfl rfl) ?_
   refine rsg rfl rfl (s_lenI0 hf rfl rfl underlying35) ?_
   refine run_callvg (vs := [_, _]) rfl rfl rfl rfl rfl rfl rfl rfl en26 (rsym0_fn _ _ _ _ _ hb) ?_
   refine rsg rfl rfl (s_ne rfl rfl rfl) ?_
   refine rs rfl (s_pick rfl rfl (fun h => by cases h) (fun _ => rfl)) ?_
   apply run_end
   refine wp_if' rfl (fun hc49 => ?_) (fun hc49 => ?_)
   ·skip
    apply wp_seq'
    refine wp_text rfl ?_
    refine run_callv (vs := []) rfl rfl rfl rfl rfl rfl en18 (awake_fn _) ?_
    refine rm rfl ?_
    apply run_end
    apply wp_ret'
    exact fin_ret (res_tmp rfl rfl) (rfl)
   ·skip
    obtain ⟨h9, la, lb, hC, hB, hAB, hC2, hI, hA, hIA, L, hO, hL0, hL1, hP, hF⟩ := acts_ok (a := a) (b := b) (f := f) (by simpa using hg36) (Decidable.not_not.1 hg43) (Decidable.not_not.1 hc49)
    have ha := ha.toI (by omega)
    have hb := hb.toI (by omega)
    have hf := hf.toI (by omega)
    apply wp_skip'
    apply wp_seq'
    refine wp_text rfl ?_
    refine rs rfl (s_ld2 rfl rfl isAgg37 sizeOf37 (.o_ rfl) (.o_ rfl)) ?_
    refine rs rfl (s_ld2 rfl rfl isAgg37 sizeOf37 (.o_ rfl) (.o_ rfl)) ?_
    refine run_call (vs := [_, _]) rfl rfl rfl rfl rfl rfl en53 (compose_ok hC ha hb) ?_
    intro v54 h54 hv54 hh54
    have ha := ha.mono hh54
    have hb := hb.mono hh54
    have hf := hf.mono hh54
    obtain ⟨sv54, rfl, hsv54⟩ := hv54
    refine rm rfl ?_
    refine rs rfl (s_extract rfl rfl rfl) ?_
    refine rs rfl (s_extract rfl rfl rfl) ?_
    refine run_alloc rfl rfl rfl rfl rfl zeroValue37 rfl fun b3 => ?_
    refine run_st2 rfl rfl rfl rfl rfl rfl (by first | rfl | assumption | exact RdI.one (by assumption)) rfl sizeOf37 (by repeat first|exact Swap.here|apply Swap.there) rfl ?_
    refine rm rfl ?_
    apply run_end
    apply wp_seq'
    refine wp_text rfl ?_
    refine rs rfl (s_ld2 rfl rfl isAgg37 sizeOf37 (.o_ rfl) (.o_ rfl)) ?_
    refine rm rfl ?_
    refine run_call (vs := [_, _]) rfl rfl rfl rfl rfl rfl en52 (apply_ok hB hb hf) ?_
    intro v60 h60 hv60 hh60
    have ha := ha.mono hh60
    have hb := hb.mono hh60
    have hf := hf.mono hh60
    have hsv54 := hsv54.mono hh60
    obtain ⟨sv60, rfl, hsv60⟩ := hv60
    refine rm rfl ?_
    refine rs rfl (s_extract rfl rfl rfl) ?_
    refine rs rfl (s_extract rfl rfl rfl) ?_
    refine rm rfl ?_
    refine rm rfl ?_
    apply run_end
    apply wp_seq'
    refine wp_text rfl ?_
    refine rs rfl (s_ld2 rfl rfl isAgg37 sizeOf37 (.o_ rfl) (.o_ rfl)) ?_
    refine rm rfl ?_
    refine run_call (vs := [_, _]) rfl rfl rfl rfl rfl rfl en52 (apply_ok hAB ha hsv60) ?_
    intro v66 h66 hv66 hh66
    have ha := ha.mono hh66
    have hb := hb.mono hh66
    have hf := hf.mono hh66
    have hsv54 := hsv54.mono hh66
    have hsv60 := hsv60.mono hh66
    obtain ⟨sv66, rfl, hsv66⟩ := hv66
    refine rm rfl ?_
    refine rs rfl (s_extract rfl rfl rfl) ?_
    refine rs rfl (s_extract rfl rfl rfl) ?_
    refine rm rfl ?_
    refine rm rfl ?_
    apply run_end
    apply wp_seq'
    refine wp_text rfl ?_
    refine rs rfl (s_ld2 rfl rfl isAgg37 sizeOf37 (.o_ rfl) (.o_ rfl)) ?_
    refine rm rfl ?_
    refine run_call (vs := [_, _]) rfl rfl rfl rfl rfl rfl en52 (apply_ok hC2 hsv54 hf) ?_
    intro v72 h72 hv72 hh72
    have ha := ha.mono hh72
    have hb := hb.mono hh72
    have hf := hf.mono hh72
    have hsv54 := hsv54.mono hh72
    have hsv60 := hsv60.mono hh72
    have hsv66 := hsv66.mono hh72
    obtain ⟨sv72, rfl, hsv72⟩ := hv72
    refine rm rfl ?_
    refine rs rfl (s_extract rfl rfl rfl) ?_
    refine rs rfl (s_extract rfl rfl rfl) ?_
    refine rm rfl ?_
    refine rm rfl ?_
    apply run_end
    apply wp_seq'
    refine wp_text rfl ?_
    refine rs rfl (s_ld2 rfl rfl isAgg37 sizeOf37 (.o_ rfl) (.o_ rfl)) ?_
    refine run_call (vs := [_]) rfl rfl rfl rfl rfl rfl en54 (invert_ok hI ha) ?_
    intro v77 h77 hv77 hh77
    have ha := ha.mono hh77
    have hb := hb.mono hh77
    have hf := hf.mono hh77
    have hsv54 := hsv54.mono hh77
    have hsv60 := hsv60.mono hh77
    have hsv66 := hsv66.mono hh77
    have hsv72 := hsv72.mono hh77
    obtain ⟨sv77, rfl, hsv77⟩ := hv77
    refine rm rfl ?_
    refine rs rfl (s_extract rfl rfl rfl) ?_
    refine rs rfl (s_extract rfl rfl rfl) ?_
    refine run_alloc rfl rfl rfl rfl rfl zeroValue37 rfl fun b4 => ?_
    refine run_st2 rfl rfl rfl rfl rfl rfl (by first | rfl | assumption | exact RdI.one (by assumption)) rfl sizeOf37 (by repeat first|exact Swap.here|apply Swap.there) rfl ?_
    refine rm rfl ?_
    apply run_end
    apply wp_seq'
    refine wp_text rfl ?_
    refine rs rfl (s_ld2 rfl rfl isAgg37 sizeOf37 (.o_ rfl) (.o_ rfl)) ?_
    refine rm rfl ?_
    refine run_call (vs := [_, _]) rfl rfl rfl rfl rfl rfl en52 (apply_ok hA ha hf) ?_
    intro v83 h83 hv83 hh83
    have ha := ha.mono hh83
    have hb := hb.mono hh83
    have hf := hf.mono hh83
    have hsv54 := hsv54.mono hh83
    have hsv60 := hsv60.mono hh83
    have hsv66 := hsv66.mono hh83
    have hsv72 := hsv72.mono hh83
    have hsv77 := hsv77.mono hh83
    obtain ⟨sv83, rfl, hsv83⟩ := hv83
    refine rm rfl ?_
    refine rs rfl (s_extract rfl rfl rfl) ?_
    refine rs rfl (s_extract rfl rfl rfl) ?_
    refine rm rfl ?_
    refine rm rfl ?_
    apply run_end
    apply wp_seq'
    refine wp_text rfl ?_
    refine rs rfl (s_ld2 rfl rfl isAgg37 sizeOf37 (.o_ rfl) (.o_ rfl)) ?_
    refine rm rfl ?_
    refine run_call (vs := [_, _]) rfl rfl rfl rfl rfl rfl en52 (apply_ok hIA hsv77 hsv83) ?_
    intro v89 h89 hv89 hh89
    have ha := ha.mono hh89
    have hb := hb.mono hh89
    have hf := hf.mono hh89
    have hsv54 := hsv54.mono hh89
    have hsv60 := hsv60.mono hh89
    have hsv66 := hsv66.mono hh89
    have hsv72 := hsv72.mono hh89
    have hsv77 := hsv77.mono hh89
    have hsv83 := hsv83.mono hh89
    obtain ⟨sv89, rfl, hsv89⟩ := hv89
    refine rm rfl ?_
    refine rs rfl (s_extract rfl rfl rfl) ?_
    refine rs rfl (s_extract rfl rfl rfl) ?_
    refine rm rfl ?_
    refine rm rfl ?_
    apply run_end
    apply wp_seq'
    refine wp_text rfl ?_
    refine rs rfl (s_ld2 rfl rfl isAgg37 sizeOf37 (.o_ rfl) (.o_ rfl)) ?_
    refine run_callv (vs := [_]) rfl rfl rfl rfl rfl rfl en55 (order_ok hO ha) ?_
    refine rm rfl ?_
    refine rs rfl (s_extract rfl rfl rfl) ?_
    refine rs rfl (s_extract rfl rfl rfl) ?_
    refine rm rfl ?_
    refine rm rfl ?_
    apply run_end
    apply wp_seq'
    apply wp_seq'
    refine wp_text rfl ?_
    refine rm rfl ?_
    refine rm rfl ?_
    refine rs rfl (s_add rfl rfl rfl (IntWalk.i64_in _ (by omega))) ?_
    refine rm rfl ?_
    refine rs rfl (s_add rfl rfl rfl (IntWalk.i64_in _ (by omega))) ?_
    refine rm rfl ?_
    refine rs rfl (s_add rfl rfl rfl (IntWalk.i64_in _ (by omega))) ?_
    refine rm rfl ?_
    refine rs rfl (s_add rfl rfl rfl (IntWalk.i64_in _ (by omega))) ?_
    refine rm rfl ?_
    refine rs rfl (s_add rfl rfl rfl (IntWalk.i64_in _ (by omega))) ?_
    refine rm rfl ?_
    refine rs rfl (s_add rfl rfl rfl (IntWalk.i64_in _ (by omega))) ?_
    refine rm rfl ?_
    refine rs rfl (s_add rfl rfl rfl (IntWalk.i64_in _ (by omega))) ?_
    refine rs rfl (s_lit (q := false) (s_ne rfl rfl rfl) (by decide)) ?_
    refine rm rfl ?_
    refine rsg rfl rfl (s_move rfl rfl) ?_
    refine rsg rfl rfl (s_move rfl rfl) ?_
    refine run_callvg (vs := [_, _]) rfl rfl rfl rfl rfl rfl rfl rfl en82 (sameI_yes _ _ _ _ _ hsv66 hsv72 rfl) ?_
    refine rsg rfl rfl (s_not rfl rfl) ?_
    refine rs rfl (s_pick rfl rfl (fun h => by cases h) (fun _ => rfl)) ?_
    refine rm rfl ?_
    refine rsg rfl rfl (s_move rfl rfl) ?_
    refine rsg rfl rfl (s_move rfl rfl) ?_
    refine run_callvg (vs := [_, _]) rfl rfl rfl rfl rfl rfl rfl rfl en82 (sameI_yes _ _ _ _ _ hsv89 hf rfl) ?_
    refine rsg rfl rfl (s_not rfl rfl) ?_
    refine rs rfl (s_pick rfl rfl (fun h => by cases h) (fun _ => rfl)) ?_
    refine rm rfl ?_
    refine rsg rfl rfl (s_move rfl rfl) ?_
    refine rsg rfl rfl (s_lit (q := false) (s_lt rfl rfl rfl) (decide_eq_false (by omega))) ?_
    refine rs rfl (s_pick rfl rfl (fun h => by cases h) (fun _ => rfl)) ?_
    refine rm rfl ?_
    refine rsg rfl rfl (s_move rfl rfl) ?_
    refine rsg rfl rfl (s_lit (q := false) (s_gt rfl rfl rfl) (decide_eq_false (by omega))) ?_
    refine rs rfl (s_pick rfl rfl (fun h => by cases h) (fun _ => rfl)) ?_
    apply run_end
    refine wp_cond' (b := false) rfl (fun h => by cases h) (fun _ => ?_)
    apply wp_skip'
    apply wp_seq'
    refine wp_text rfl ?_
    refine rm rfl ?_
    refine rs rfl (s_lenI hf rfl rfl underlying35) ?_
    refine run_mksl rfl rfl rfl rfl rfl rfl rfl underlying35 info3 rfl (by omega) (by omega) fun b5 => ?_
    refine rm rfl ?_
    apply run_end
    apply wp_seq'
    apply wp_seq'
    refine wp_text rfl ?_
    refine rm rfl ?_
    refine rs rfl (s_len rfl rfl underlying35) ?_
    refine rm rfl ?_
    apply run_end
    apply wp_block'
    rw [← List.map_replicate (f := Value.int .i64), ← fillTo_zero]
    refine wp_loop' (fun i : Nat => i ≤ f.length) (fun i => ⟨[(138, .int .i64 i), (137, .int .i64 f.length), (23, (.slice (some ⟨b5, 0, none⟩) f.length f.length)), (21, .int .i64 L), (3, .pointer (some ⟨b1, 0, none⟩)), (2, vf)], h89, [.row (.slice (some ⟨b5, 0, none⟩) f.length f.length) 3 1 f.length ((fillTo f.length i).map (Value.int .i64)), .obj b1 (.cells #[va, .bool a.2] 37 (0, 0))]⟩) (fun i => f.length - i) 0 (Nat.zero_le _) ⟨by repeat (first|exact True.intro|refine And.intro rfl ?_), rfl, by repeat (first|exact NS _|exact SR _|apply SCC|apply SC)⟩ fun i hi => ?_
    apply wp_seq'
    refine wp_text rfl ?_
    refine rs rfl (s_lt rfl rfl rfl) ?_
    apply run_end
    apply wp_seq'
    refine wp_if' rfl (fun hc139 => ?_) (fun hc139 => ?_)
    ·skip
     apply wp_skip'
     apply wp_seq'
     apply wp_block'
     apply wp_seq'
     refine wp_text rfl ?_
     refine rm rfl ?_
     refine rm rfl ?_
     apply run_end
     refine wp_text rfl ?_
     refine rm rfl ?_
     refine rm rfl ?_
     refine rm rfl ?_
     refine rs rfl (s_mul rfl rfl rfl (IntWalk.i64_in _ (by omega))) ?_
     refine rs rfl (s_add rfl rfl rfl (IntWalk.i64_in _ (by omega))) ?_
     refine rs rfl (s_ia1 rfl rfl rfl underlying35 sizeOf3 (by omega) (by omega)) ?_
     refine run_strowM (Value.int .i64) rfl rfl rfl rfl rfl rfl rfl rfl sizeOf3 (by repeat first|exact Swap.here|apply Swap.there) (by omega) ?_
     apply run_end
     refine wp_text rfl ?_
     refine rs rfl (s_add rfl rfl rfl (IntWalk.i64_in _ (by omega))) ?_
     refine rm rfl ?_
     apply run_end
     refine ⟨i + 1, by omega, by omega, ⟨by repeat (first|exact True.intro|refine And.intro rfl ?_), rfl, ?_⟩⟩
     try simp only [Int.toNat_natCast]
     rw [fillTo_succ]
     exact List.Sublist.refl _
    ·skip
     obtain rfl : i = f.length := by omega
     apply wp_exit'
     apply wp_seq'
     refine WP.letO rfl (by repeat first|exact Pick.here|apply Pick.there) (by omega) fun h91 hh91 hmk => ?_
     have ha := ha.mono hh91
     have hb := hb.mono hh91
     have hf := hf.mono hh91
     have hsv54 := hsv54.mono hh91
     have hsv60 := hsv60.mono hh91
     have hsv66 := hsv66.mono hh91
     have hsv72 := hsv72.mono hh91
     have hsv77 := hsv77.mono hh91
     have hsv83 := hsv83.mono hh91
     have hsv89 := hsv89.mono hh91
     rw [fillTo_all] at hmk
     refine wp_text rfl ?_
     refine run_bsr (parts := []) (vs := []) (sz := 1) rfl rfl rfl rfl rfl rfl bs35_0 rfl rfl fun b6 => ?_
     refine rm rfl ?_
     refine run_appv (xs := []) (news := (markL f.length).map (Value.int .i64)) (m := f.length) rfl rfl rfl rfl rfl rfl rfl underlying35 info3 rfl (by decide) (fun v' => (by repeat first|exact Swap.here|apply Swap.there)) (by rw [List.length_map, markL_len]; omega) (fun hp => hmk.news _ hp) (fun u hu => by obtain ⟨z, _, rfl⟩ := List.mem_map.1 hu; rfl) (by omega) (by omega) fun v92 hv92 => ?_
     simp only [Nat.zero_add, List.nil_append] at hv92 ⊢
     obtain ⟨A92, c92, rfl⟩ := hv92
     refine rm rfl ?_
     apply run_end
     refine WP.letO rfl (by repeat first|exact Pick.here|apply Pick.there) (by omega) fun h93 hh93 hmk2 => ?_
     have ha := ha.mono hh93
     have hb := hb.mono hh93
     have hf := hf.mono hh93
     have hsv54 := hsv54.mono hh93
     have hsv60 := hsv60.mono hh93
     have hsv66 := hsv66.mono hh93
     have hsv72 := hsv72.mono hh93
     have hsv77 := hsv77.mono hh93
     have hsv83 := hsv83.mono hh93
     have hsv89 := hsv89.mono hh93
     have hmk := hmk.mono hh93
     apply wp_seq'
     apply wp_seq'
     refine wp_text rfl ?_
     refine rm rfl ?_
     apply run_end
     apply wp_block'
     refine wp_loop' (ι := H × Nat × Value) (fun x => (∀ b o, h93 b = some o → x.1 b = some o) ∧ x.2.1 ≤ L ∧ RdI x.1 x.2.2 (powI a x.2.1 (markL f.length))) (fun x => ⟨[(26, .int .i64 ((x.2.1 + 1 : Nat) : Int)), (25, x.2.2), (23, (.slice (some ⟨b5, 0, none⟩) f.length f.length)), (21, .int .i64 L), (3, .pointer (some ⟨b1, 0, none⟩)), (2, vf)], x.1, [.obj b1 (.cells #[va, .bool a.2] 37 (0, 0))]⟩) (fun x => L - x.2.1) (h93, 0, .slice A92 f.length c92) ⟨fun _ _ hb => hb, Nat.zero_le _, hmk2⟩ ⟨by repeat (first|exact True.intro|refine And.intro rfl ?_), rfl, by repeat (first|exact NS _|exact SR _|apply SCC|apply SC)⟩ fun x hx => ?_
     obtain ⟨h9x, e, pv⟩ := x
     obtain ⟨hh9, he, hpv⟩ := hx
     dsimp only at hh9 he hpv ⊢
     have ha := ha.mono hh9
     have hf := hf.mono hh9
     have hmk := hmk.mono hh9
     apply wp_seq'
     apply wp_seq'
     refine wp_text rfl ?_
     refine rm rfl ?_
     refine rm rfl ?_
     refine rs rfl (s_le rfl rfl rfl) ?_
     apply run_end
     refine wp_if' rfl (fun hc153 => ?_) (fun hc153 => ?_)
     ·skip
      apply wp_skip'
      apply wp_seq'
      apply wp_block'
      apply wp_seq'
      refine wp_text rfl ?_
      refine rs rfl (s_ld2 rfl rfl isAgg37 sizeOf37 (.o_ rfl) (.o_ rfl)) ?_
      refine rm rfl ?_
      refine run_call (vs := [_, _]) rfl rfl rfl rfl rfl rfl en52 (apply_ok (hP e (by omega)) ha hpv) ?_
      intro v159 h159 hv159 hh159
      have ha := ha.mono hh159
      have hf := hf.mono hh159
      have hmk := hmk.mono hh159
      have hpv := hpv.mono hh159
      obtain ⟨sv159, rfl, hsv159⟩ := hv159
      refine rm rfl ?_
      refine rs rfl (s_extract rfl rfl rfl) ?_
      refine rs rfl (s_extract rfl rfl rfl) ?_
      refine rm rfl ?_
      refine rm rfl ?_
      apply run_end
      apply wp_seq'
      apply wp_seq'
      refine wp_text rfl ?_
      refine rm rfl ?_
      refine rs rfl (s_lit (q := false) (s_ne rfl rfl rfl) (by decide)) ?_
      refine rm rfl ?_
      refine rsg rfl rfl (s_move rfl rfl) ?_
      refine rsg rfl rfl (s_lenI hsv159 rfl rfl underlying35) ?_
      refine rsg rfl rfl (s_move rfl rfl) ?_
      refine rsg rfl rfl (s_lenI hf rfl rfl underlying35) ?_
      refine rsg rfl rfl (s_lit (q := false) (s_ne rfl rfl rfl) (decide_eq_false (by rw [powI_len, markL_len]; simp))) ?_
      refine rs rfl (s_pick rfl rfl (fun h => by cases h) (fun _ => rfl)) ?_
      apply run_end
      refine wp_cond' (b := false) rfl (fun h => by cases h) (fun _ => ?_)
      apply wp_skip'
      apply wp_seq'
      refine wp_text rfl ?_
      refine rm rfl ?_
      refine rm rfl ?_
      apply run_end
      apply wp_seq'
      refine wp_text rfl ?_
      refine rm rfl ?_
      refine rm rfl ?_
      refine run_callv (vs := [_, _]) rfl rfl rfl rfl rfl rfl en82 (sameI_fn _ _ _ _ _ hsv159 hmk) ?_
      refine rm rfl ?_
      refine rm rfl ?_
      refine rs rfl (s_eq rfl rfl rfl) ?_
      refine rs rfl (s_bne rfl rfl rfl underlying4) ?_
      refine rm rfl ?_
      refine run_cb (t := 179) rfl (fun hg179 => ?_) (fun hg179 => ?_)
      ·skip
       refine rsg rfl rfl (s_move rfl rfl) ?_
       refine rsg rfl rfl (s_lenI hf rfl rfl underlying35) ?_
       refine rsg rfl rfl (s_gt rfl rfl rfl) ?_
       refine rs rfl (s_pick rfl rfl (fun _ => rfl) (fun h => by cases h)) ?_
       apply run_end
       refine wp_if' rfl (fun hc183 => ?_) (fun hc183 => ?_)
       ·skip
        apply wp_seq'
        refine wp_text rfl ?_
        refine rm rfl ?_
        apply run_end
        apply wp_ret'
        exact fin_ret (res_tmp rfl rfl) ((mark_ne hF rfl rfl hc183 (by omega) (by omega) hg179).elim)
       ·skip
        apply wp_skip'
        refine wp_text rfl ?_
        refine rm rfl ?_
        refine rs rfl (s_add rfl rfl rfl (IntWalk.i64_in _ (by omega))) ?_
        refine rm rfl ?_
        apply run_end
        exact ⟨(h159, e + 1, sv159), ⟨fun b o hb => hh159 _ _ (hh9 _ _ hb), by dsimp only; omega, hsv159⟩, by dsimp only; omega, ⟨by repeat (first|exact True.intro|refine And.intro rfl ?_), rfl, by repeat (first|exact NS _|exact SR _|apply SCC|apply SC)⟩⟩
      ·skip
       refine run_skip rfl rfl rfl rfl rfl rfl rfl ?_
       refine run_skip rfl rfl rfl rfl rfl rfl rfl ?_
       refine run_skip rfl rfl rfl rfl rfl rfl rfl ?_
       refine rs rfl (s_pick rfl rfl (fun h => by cases h) (fun _ => rfl)) ?_
       apply run_end
       refine wp_cond' (b := false) rfl (fun h => by cases h) (fun _ => ?_)
       apply wp_skip'
       refine wp_text rfl ?_
       refine rm rfl ?_
       refine rs rfl (s_add rfl rfl rfl (IntWalk.i64_in _ (by omega))) ?_
       refine rm rfl ?_
       apply run_end
       exact ⟨(h159, e + 1, sv159), ⟨fun b o hb => hh159 _ _ (hh9 _ _ hb), by dsimp only; omega, hsv159⟩, by dsimp only; omega, ⟨by repeat (first|exact True.intro|refine And.intro rfl ?_), rfl, by repeat (first|exact NS _|exact SR _|apply SCC|apply SC)⟩⟩
     ·skip
      apply wp_exit'
      apply wp_seq'
      refine wp_text rfl ?_
      refine rm rfl ?_
      apply run_end
      apply wp_ret'
      exact fin_ret (res_tmp rfl rfl) (rfl)
end Go.Tal

/-
 A symmetry that is an argument: its reading.
-/
namespace Go.Tal
open Go.RowKit
section
variable {H' : Type} {enc : TypeId × Value → H'} {P : Program} {W : World} {base : Nat} {sp : Nat → Bool} {held : Bool} {fuel : Nat} {t e : TypeId} {v : Value} {x : DataW H' × List MemPlace}
theorem rdSy0_trod {f0 f1 : Field} {e' : TypeId} {r : Reach} {W' : World} {b0 : Nat} (he : P.underlying t = some (.struct #[f0, f1])) (hc : P.cellsOf t = 2) (ho0 : f0.offset = 0) (ho1 : f1.offset = 1) (hc0 : P.cellsOf f0.type = 1) (hc1 : P.cellsOf f1.type = 1)
 (h0 : P.underlying f0.type = some (.slice e')) (h1 : P.underlying f1.type = some .bool) (hi : P.underlying e' = some (.int .i64)) (hci : P.cellsOf e' = 1) (hv : Value.okWide P W' r b0 t v) (h : DataW.trod enc P W base sp held fuel t v.cells.toList = some x) : ∃ a : Sy, ∃ sv, v = .agg #[sv, .bool a.2] ∧ RdI0 (memH W) sv a.1 := by
 unfold Value.okWide at hv
 rw [he] at hv
 obtain ⟨cs, rfl, hcs, _⟩ := hv
 rw [hc] at hcs
 obtain ⟨xs, m, _, _, _, hxs, hf⟩ := DataW.trod_struct he h
 obtain ⟨c0, c1, rfl⟩ : ∃ c0 c1, cs = #[c0, c1] := by
  obtain ⟨l⟩ := cs
  match l, hcs with
  | [c0, c1], _ => exact ⟨c0, c1, rfl⟩
 have k0 := hf 0 f0 rfl
 have k1 := hf 1 f1 rfl
 simp only [List.size_toArray, List.length_cons, List.length_nil] at hxs
 rw [ho0, hc0, List.getElem?_eq_getElem (by omega)] at k0
 rw [ho1, hc1, List.getElem?_eq_getElem (by omega)] at k1
 obtain ⟨zs, hz⟩ := rdI0_trod h0 hi hci (v := c0) k0
 obtain ⟨bm, hb, _⟩ := DataW.trod_bool h1 k1
 have hb' : c1 = .bool bm := by simpa using List.cons.inj hb |>.1
 subst hb'
 exact ⟨(zs, bm), c0, rfl, hz⟩
end
end Go.Tal
