/-
  Part 5: symbolic states for walks, contracts of functions, plain laws; no condition.
-/
import Derived.Test.YtemginpenfhkkaaGreatDoorPart4
import Derived.Test.YtemginpenfhkkaaGreatDoorPart3
import Derived.Test.YtemginpenfhkkaaGreatDoorPart1
import Derived.Test.YtemginpenfhkkaaGreatDoorPart2
/-
 Plain: orders of symmetries as least common multiples; a symmetry of few cells leads back after its order, and not before.
-/
namespace Go.Tal
open Go.RowKit Go.Proofs _root_.Tal
theorem gcdI_nat : ∀ (n x : Nat), gcdI (x : Int) (n : Int) = (Nat.gcd x n : Int) := by
 intro n
 induction n using Nat.strongRecOn with
 | ind n ih =>
  intro x
  rw [gcdI]
  split
  ·rename_i h
   have : n = 0 := by omega
   subst this
   simp
  ·rename_i h
   have hn : 0 < n := by omega
   have e : (x : Int).tmod (n : Int) = ((x % n : Nat) : Int) := by
    rw [Int.tmod_eq_emod_of_nonneg (by omega)]
    rfl
   rw [e, ih (x % n) (Nat.mod_lt _ hn) n, Nat.gcd_comm n (x % n), ← Nat.gcd_rec, Nat.gcd_comm]
theorem lcm_div (x n : Nat) : x / Nat.gcd x n * n = Nat.lcm x n := by
 unfold Nat.lcm
 exact Nat.div_mul_right_comm (Nat.gcd_dvd_left x n) n
theorem lcmStep_nat {x n : Nat} (hb : Nat.lcm x n ≤ 9223372036854775807) (hx : x ≤ 9223372036854775807) : lcmStep (x : Int) (n : Int) = (Nat.lcm x n : Int) := by
 have e : (x : Int).tdiv (gcdI x n) = ((x / Nat.gcd x n : Nat) : Int) := by
  rw [gcdI_nat, Int.tdiv_eq_ediv_of_nonneg (by omega)]
  rfl
 have h1 : x / Nat.gcd x n ≤ x := Nat.div_le_self _ _
 have e1 : IntKind.i64.wrap ((x / Nat.gcd x n : Nat) : Int) = ((x / Nat.gcd x n : Nat) : Int) := IntWalk.i64_in _ (by generalize x / Nat.gcd x n = q at h1 ⊢; omega)
 unfold lcmStep wrapI
 rw [e, e1, show ((x / Nat.gcd x n : Nat) : Int) * (n : Int) = ((x / Nat.gcd x n * n : Nat) : Int) from rfl, lcm_div, IntWalk.i64_in _ (by omega)]
/-- The least common multiple of numbers. -/
def lcmL (l : List Int) : Nat := l.foldl (fun x y => Nat.lcm x y.toNat) 1
theorem lcmL_snoc (l : List Int) (x : Int) : lcmL (l ++ [x]) = Nat.lcm (lcmL l) x.toNat := by simp [lcmL]
theorem snoc_ind {α : Type} {p : List α → Prop} (h0 : p []) (h1 : ∀ l x, p l → p (l ++ [x])) (l : List α) : p l := by
 have : ∀ l : List α, p l.reverse := fun l => by
  induction l with
  | nil => exact h0
  | cons x l ih => rw [List.reverse_cons]; exact h1 _ _ ih
 have h := this l.reverse
 rwa [List.reverse_reverse] at h
theorem lcmL_dvd {l : List Int} (e : Nat) : (∀ x ∈ l, 0 < x) → (lcmL l ∣ e ↔ ∀ x ∈ l, x ∣ (e : Int)) := by
 induction l using snoc_ind with
 | h0 => intro _; simp [lcmL]
 | h1 l x ih =>
  intro hp
  have hx := hp x (by simp)
  rw [lcmL_snoc, Nat.lcm_dvd_iff, ih fun y hy => hp y (List.mem_append_left _ hy)]
  have e1 : x.toNat ∣ e ↔ x ∣ (e : Int) := by
   have : ((x.toNat : Nat) : Int) = x := by omega
   conv => rhs; rw [← this]
   exact Int.ofNat_dvd.symm
  rw [e1]
  constructor
  ·rintro ⟨h1, h2⟩ y hy
   rcases List.mem_append.1 hy with hy | hy
   ·exact h1 y hy
   ·simp only [List.mem_singleton] at hy; subst hy; exact h2
  ·exact fun h => ⟨fun y hy => h y (List.mem_append_left _ hy), h x (by simp)⟩
theorem lcmL_pos {l : List Int} : (∀ x ∈ l, 0 < x) → 0 < lcmL l := by
 induction l using snoc_ind with
 | h0 => intro _; decide
 | h1 l x ih =>
  intro hp
  rw [lcmL_snoc]
  exact Nat.lcm_pos (ih fun y hy => hp y (List.mem_append_left _ hy)) (by have := hp x (by simp); omega)
theorem lcmL_le {l : List Int} {x : Int} (hp : ∀ y ∈ l ++ [x], 0 < y) : lcmL l ≤ lcmL (l ++ [x]) := by
 rw [lcmL_snoc]
 refine Nat.le_of_dvd ?_ (Nat.dvd_lcm_left _ _)
 have := lcmL_pos hp
 rwa [lcmL_snoc] at this
/-- As the program reckons it. -/
theorem foldl_lcm {l : List Int} : (∀ x ∈ l, 0 < x) → lcmL l ≤ 9223372036854775807 → l.foldl lcmStep 1 = (lcmL l : Int) := by
 induction l using snoc_ind with
 | h0 => intro _ _; rfl
 | h1 l x ih =>
  intro hp hb
  have h1 := lcmL_le hp
  have hx := hp x (by simp)
  have h2 : lcmL l ≤ 9223372036854775807 := by omega
  rw [List.foldl_append, ih (fun y hy => hp y (List.mem_append_left _ hy)) h2]
  rw [lcmL_snoc] at hb ⊢
  show lcmStep _ x = _
  have e : x = ((x.toNat : Nat) : Int) := by omega
  conv => lhs; rw [e]
  exact lcmStep_nat hb h2
theorem orderL_pos (a : Sym) : ∀ x ∈ orderL a, 0 < x := fun x hx => by
 rcases List.mem_append.1 hx with hx | hx
 ·exact cycI_pos _ x hx
 ·cases h : a.2 <;> simp [h] at hx
  omega
end Go.Tal

/-
 Plain: the least common multiple of numbers that sum up to at most 256 is small (Landau's bound, roughly).
-/
namespace Go.Tal
open Go.RowKit Go.Proofs _root_.Tal
def prodN : List Nat → Nat
 | [] => 1
 | x :: l => x * prodN l
/-- Parts of two numbers, without a common divisor, of which both divide the product. -/
theorem coprime_split (b : Nat) (hb : 0 < b) : ∀ a : Nat, 0 < a → ∃ a' b', a' ∣ a ∧ b' ∣ b ∧ Nat.Coprime a' b' ∧ a ∣ a' * b' ∧ b ∣ a' * b' := by
 intro a
 induction a using Nat.strongRecOn with
 | ind a ih =>
  intro ha
  have hg : 0 < Nat.gcd a b := Nat.gcd_pos_of_pos_left _ ha
  obtain ⟨x, hx⟩ := Nat.gcd_dvd_left a b
  obtain ⟨y, hy⟩ := Nat.gcd_dvd_right a b
  have hxy : Nat.Coprime x y := by
   have h1 := Nat.coprime_div_gcd_div_gcd hg
   have e1 : a / Nat.gcd a b = x := by
    have : Nat.gcd a b * x / Nat.gcd a b = x := Nat.mul_div_cancel_left x hg
    rw [← hx] at this; exact this
   have e2 : b / Nat.gcd a b = y := by
    have : Nat.gcd a b * y / Nat.gcd a b = y := Nat.mul_div_cancel_left y hg
    rw [← hy] at this; exact this
   rwa [e1, e2] at h1
  generalize hG : Nat.gcd a b = g at hx hy hg
  by_cases he : Nat.gcd g y = 1
  ·refine ⟨a, y, Nat.dvd_refl _, ⟨g, by rw [hy, Nat.mul_comm]⟩, ?_, Nat.dvd_mul_right _ _, ?_⟩
   ·rw [hx]
    exact Nat.Coprime.mul_left he hxy
   ·conv => lhs; rw [hy]
    rw [hx]
    exact Nat.mul_dvd_mul (Nat.dvd_mul_right _ _) (Nat.dvd_refl _)
  ·have he0 : 0 < Nat.gcd g y := Nat.gcd_pos_of_pos_left _ hg
   obtain ⟨z, hz⟩ := Nat.gcd_dvd_left g y
   obtain ⟨u, hu⟩ := Nat.gcd_dvd_right g y
   generalize hE : Nat.gcd g y = e at hz hu he he0
   have hzx : 0 < z * x := by
    refine Nat.pos_of_ne_zero fun h => ?_
    rw [hx, hz, Nat.mul_assoc, h] at ha
    simp at ha
   have hlt : z * x < a := by
    rw [hx, hz, Nat.mul_assoc]
    exact (Nat.lt_mul_iff_one_lt_left hzx).2 (by omega)
   obtain ⟨a', b', h1, h2, h3, h4, h5⟩ := ih (z * x) hlt hzx
   refine ⟨a', b', Nat.dvd_trans h1 ⟨e, by rw [hx, hz, Nat.mul_assoc, Nat.mul_comm]⟩, h2, h3, ?_, h5⟩
   obtain ⟨k, hk⟩ := h5
   rw [hk] at h4 ⊢
   have hxe : Nat.Coprime x e := Nat.Coprime.coprime_dvd_right ⟨u, hu⟩ hxy
   have h6 : x ∣ (e * y) * k := by
    have h7 : z * x ∣ z * ((e * y) * k) := by
     refine Nat.dvd_trans h4 ⟨1, ?_⟩
     rw [hy, hz]
     simp only [Nat.mul_one, Nat.mul_assoc, Nat.mul_comm, Nat.mul_left_comm]
    exact Nat.dvd_of_mul_dvd_mul_left (Nat.pos_of_mul_pos_right hzx) h7
   have h8 : x ∣ k := Nat.Coprime.dvd_of_dvd_mul_left (Nat.Coprime.mul_right hxe hxy) h6
   rw [hx, hy]
   refine Nat.dvd_trans (Nat.mul_dvd_mul (Nat.dvd_refl g) h8) ⟨y, ?_⟩
   simp only [Nat.mul_assoc, Nat.mul_comm, Nat.mul_left_comm]
theorem coprime_prod {q : Nat} : ∀ {Q : List Nat}, (∀ r ∈ Q, Nat.Coprime q r) → Nat.Coprime q (prodN Q)
 | [], _ => Nat.coprime_one_right q
 | r :: Q, h => Nat.Coprime.mul_right (h r List.mem_cons_self) (coprime_prod fun s hs => h s (List.mem_cons_of_mem _ hs))
theorem sum_le_of {n n' : Nat} (h : n' ∣ n) (hn : 0 < n) : n' ≤ n := Nat.le_of_dvd hn h
/-- A further number is taken in. -/
theorem coprime_absorb : ∀ (Q : List Nat) (n : Nat), 0 < n → (∀ q ∈ Q, 0 < q) → Q.Pairwise Nat.Coprime →
 ∃ Q' n', Q'.Pairwise Nat.Coprime ∧ (∀ q ∈ Q', 0 < q) ∧ 0 < n' ∧ n' ∣ n ∧ (∀ q' ∈ Q', Nat.Coprime q' n') ∧ (∀ q' ∈ Q', ∃ q ∈ Q, q' ∣ q) ∧ Q'.sum ≤ Q.sum ∧ prodN Q ∣ prodN Q' * n' ∧ n ∣ prodN Q' * n'
 | [], n, hn, _, _ => ⟨[], n, List.Pairwise.nil, by simp, hn, Nat.dvd_refl _, by simp, by simp, by simp, by simp [prodN], by simp [prodN]⟩
 | q :: Q, n, hn, hq, hp => by
  obtain ⟨hp1, hp2⟩ := List.pairwise_cons.1 hp
  have hq0 := hq q List.mem_cons_self
  obtain ⟨q1, n1, a1, a2, a3, a4, a5⟩ := coprime_split n hn q hq0
  have hn1 : 0 < n1 := Nat.pos_of_dvd_of_pos a2 hn
  have hq1 : 0 < q1 := Nat.pos_of_dvd_of_pos a1 hq0
  obtain ⟨Q', n2, b1, b2, b3, b4, b5, b6, b7, b8, b9⟩ := coprime_absorb Q n1 hn1 (fun r hr => hq r (List.mem_cons_of_mem _ hr)) hp2
  have hd : q1 * n1 ∣ q1 * prodN Q' * n2 := by
   rw [Nat.mul_assoc]
   exact Nat.mul_dvd_mul (Nat.dvd_refl _) b9
  refine ⟨q1 :: Q', n2, List.pairwise_cons.2 ⟨fun r hr => ?_, b1⟩, fun r hr => ?_, b3, Nat.dvd_trans b4 a2, fun r hr => ?_, fun r hr => ?_, ?_, ?_, Nat.dvd_trans a5 hd⟩
  ·obtain ⟨s, hs, hd⟩ := b6 r hr
   exact Nat.Coprime.coprime_dvd_left a1 (Nat.Coprime.coprime_dvd_right hd (hp1 s hs))
  ·rcases List.mem_cons.1 hr with rfl | hr
   ·exact hq1
   ·exact b2 r hr
  ·rcases List.mem_cons.1 hr with rfl | hr
   ·exact Nat.Coprime.coprime_dvd_right b4 a3
   ·exact b5 r hr
  ·rcases List.mem_cons.1 hr with rfl | hr
   ·exact ⟨q, List.mem_cons_self, a1⟩
   ·obtain ⟨s, hs, hd⟩ := b6 r hr
    exact ⟨s, List.mem_cons_of_mem _ hs, hd⟩
  ·rw [List.sum_cons, List.sum_cons]
   have := sum_le_of a1 hq0
   omega
  ·refine Nat.Coprime.mul_dvd_of_dvd_of_dvd (coprime_prod hp1) (Nat.dvd_trans a4 hd) ?_
   show prodN Q ∣ q1 * prodN Q' * n2
   rw [Nat.mul_assoc]
   exact Nat.dvd_trans b8 (Nat.dvd_mul_left _ _)
theorem prodN_append : ∀ (xs ys : List Nat), prodN (xs ++ ys) = prodN xs * prodN ys
 | [], ys => by simp [prodN]
 | x :: xs, ys => by simp [prodN, prodN_append xs ys, Nat.mul_assoc]
theorem lcmL_parts {l : List Int} : (∀ x ∈ l, 0 < x) → ∃ Q : List Nat, Q.Pairwise Nat.Coprime ∧ (∀ q ∈ Q, 0 < q) ∧ (Q.sum : Int) ≤ l.sum ∧ lcmL l ∣ prodN Q := by
 induction l using snoc_ind with
 | h0 => intro _; exact ⟨[], List.Pairwise.nil, by simp, by simp, by simp [lcmL, prodN]⟩
 | h1 l x ih =>
  intro hp
  have hx := hp x (by simp)
  obtain ⟨Q, h1, h2, h3, h4⟩ := ih fun y hy => hp y (List.mem_append_left _ hy)
  obtain ⟨Q', n', b1, b2, b3, b4, b5, b6, b7, b8, b9⟩ := coprime_absorb Q x.toNat (by omega) h2 h1
  refine ⟨Q' ++ [n'], List.pairwise_append.2 ⟨b1, List.pairwise_singleton _ _, fun r hr s hs => ?_⟩, fun q hq => ?_, ?_, ?_⟩
  ·simp only [List.mem_singleton] at hs
   subst hs
   exact b5 r hr
  ·rcases List.mem_append.1 hq with hq | hq
   ·exact b2 q hq
   ·simp only [List.mem_singleton] at hq; omega
  ·rw [List.sum_append, List.sum_append, List.sum_singleton, List.sum_singleton]
   have := sum_le_of b4 (by omega)
   omega
  ·rw [lcmL_snoc, prodN_append]
   simp only [prodN, Nat.mul_one]
   exact Nat.lcm_dvd (Nat.dvd_trans h4 b8) b9
/-- Ones do not count. -/
theorem drop_ones : ∀ (Q : List Nat), (∀ q ∈ Q, 0 < q) → prodN (Q.filter (· != 1)) = prodN Q ∧ (Q.filter (· != 1)).sum ≤ Q.sum
 | [], _ => ⟨rfl, Nat.le_refl _⟩
 | q :: Q, h => by
  obtain ⟨h1, h2⟩ := drop_ones Q fun r hr => h r (List.mem_cons_of_mem _ hr)
  by_cases e : q = 1
  ·subst e
   rw [List.filter_cons_of_neg (by simp)]
   simp only [prodN, List.sum_cons, Nat.one_mul]
   exact ⟨h1, by omega⟩
  ·rw [List.filter_cons_of_pos (by simpa using e)]
   simp only [prodN, List.sum_cons, h1]
   exact ⟨trivial, by omega⟩
theorem nodup_sum : ∀ (m : Nat) (l : List Nat), l.length = m → l.Nodup → m * m ≤ 2 * l.sum + m
 | 0, _, _, _ => by omega
 | m + 1, l, hl, hn => by
  have : ∃ x ∈ l, m ≤ x := by
   refine Classical.byContradiction fun hc => ?_
   have h1 := nodup_sub_len hn (ys := List.range m) fun x hx => List.mem_range.2 (by
    refine Nat.lt_of_not_le fun h2 => hc ⟨x, hx, h2⟩)
   rw [List.length_range] at h1
   omega
  obtain ⟨x, hx, hm⟩ := this
  have hp := List.perm_cons_erase hx
  have h1 : l.sum = x + (l.erase x).sum := by rw [hp.sum_nat, List.sum_cons]
  have h2 : (l.erase x).length = m := by have := hp.length_eq; rw [List.length_cons] at this; omega
  have h3 := nodup_sum m (l.erase x) h2 (hn.erase x)
  have e : (m + 1) * (m + 1) = m * m + 2 * m + 1 := by rw [Nat.mul_add, Nat.add_mul]; omega
  omega
theorem halves_sum : ∀ (l : List Nat), (∀ q ∈ l, 3 ≤ q ∧ q % 2 = 1) → l.sum = 2 * (l.map fun q => (q - 3) / 2).sum + 3 * l.length
 | [], _ => rfl
 | q :: l, h => by
  have h1 := h q List.mem_cons_self
  have h2 := halves_sum l fun r hr => h r (List.mem_cons_of_mem _ hr)
  rw [List.sum_cons, List.map_cons, List.sum_cons, List.length_cons, h2]
  omega
theorem parts_few {Q : List Nat} (hc : Q.Pairwise Nat.Coprime) (h1 : ∀ q ∈ Q, 2 ≤ q) (hs : Q.sum ≤ 256) : Q.length ≤ 15 := by
 -- an even one at most; the others are different odd numbers
 have key : ∀ (Q : List Nat), Q.Pairwise Nat.Coprime → (∀ q ∈ Q, 2 ≤ q) → ∃ O : List Nat, O.Nodup ∧ (∀ q ∈ O, 3 ≤ q ∧ q % 2 = 1) ∧ (∀ q ∈ O, q ∈ Q) ∧ (Q.length = O.length ∧ O.sum ≤ Q.sum ∨ Q.length = O.length + 1 ∧ O.sum + 2 ≤ Q.sum) ∧ ((∀ q ∈ Q, q % 2 = 1) → Q.length = O.length) := by
  intro Q
  induction Q with
  | nil => intro _ _; exact ⟨[], List.nodup_nil, by simp, by simp, .inl ⟨rfl, Nat.le_refl _⟩, fun _ => rfl⟩
  | cons q Q ih =>
   intro hc h1
   obtain ⟨hc1, hc2⟩ := List.pairwise_cons.1 hc
   have hq := h1 q List.mem_cons_self
   obtain ⟨O, o1, o2, o3, o4, o5⟩ := ih hc2 fun r hr => h1 r (List.mem_cons_of_mem _ hr)
   have noteven : ∀ r ∈ Q, q % 2 = 0 → r % 2 = 1 := fun r hr h0 => by
    refine Classical.byContradiction fun h2 => ?_
    have h3 : 2 ∣ Nat.gcd q r := Nat.dvd_gcd (Nat.dvd_of_mod_eq_zero h0) (Nat.dvd_of_mod_eq_zero (by omega))
    rw [hc1 r hr] at h3
    omega
   by_cases h0 : q % 2 = 0
   ·have h3 := o5 fun r hr => noteven r hr h0
    refine ⟨O, o1, o2, fun r hr => List.mem_cons_of_mem _ (o3 r hr), .inr ?_, fun h => ?_⟩
    ·rw [List.length_cons, List.sum_cons]
     rcases o4 with ⟨a, b⟩ | ⟨a, b⟩ <;> omega
    ·have := h q List.mem_cons_self
     omega
   ·refine ⟨q :: O, List.nodup_cons.2 ⟨fun hm => ?_, o1⟩, fun r hr => ?_, fun r hr => ?_, ?_, fun h => ?_⟩
    ·have h3 : Nat.gcd q q = 1 := hc1 q (o3 q hm)
     rw [Nat.gcd_self] at h3
     omega
    ·rcases List.mem_cons.1 hr with rfl | hr
     ·omega
     ·exact o2 r hr
    ·rcases List.mem_cons.1 hr with rfl | hr
     ·exact List.mem_cons_self
     ·exact List.mem_cons_of_mem _ (o3 r hr)
    ·rw [List.length_cons, List.length_cons, List.sum_cons, List.sum_cons]
     rcases o4 with ⟨a, b⟩ | ⟨a, b⟩
     ·exact .inl (by omega)
     ·exact .inr (by omega)
    ·rw [List.length_cons, List.length_cons, o5 fun r hr => h r (List.mem_cons_of_mem _ hr)]
 obtain ⟨O, o1, o2, _, o4, _⟩ := key Q hc h1
 have h2 := halves_sum O o2
 have h3 := nodup_sum O.length (O.map fun q => (q - 3) / 2) (by simp) (nodup_map_on (fun x hx y hy e => by have := o2 x hx; have := o2 y hy; omega) o1)
 refine Nat.le_of_not_lt fun h4 => ?_
 rcases o4 with ⟨a, b⟩ | ⟨a, b⟩
 ·have h5 : 16 * O.length ≤ O.length * O.length := Nat.mul_le_mul_right _ (by omega)
  omega
 ·have h5 : 15 * O.length ≤ O.length * O.length := Nat.mul_le_mul_right _ (by omega)
  omega
theorem part_bound : ∀ q : Nat, q * 17 ^ q * 18 ^ 17 ≤ 18 ^ q * 17 ^ 18 := by
 have h0 : ∀ q, q < 18 → q * 17 ^ q * 18 ^ 17 ≤ 18 ^ q * 17 ^ 18 := by decide +kernel
 have h1 : ∀ d : Nat, (18 + d) * 17 ^ (18 + d) * 18 ^ 17 ≤ 18 ^ (18 + d) * 17 ^ 18 := by
  intro d
  induction d with
  | zero => decide +kernel
  | succ d ih =>
   have e1 : (18 + (d + 1)) * 17 ^ (18 + (d + 1)) * 18 ^ 17 = (18 + d + 1) * 17 * (17 ^ (18 + d) * 18 ^ 17) := by
    rw [show 18 + (d + 1) = 18 + d + 1 by omega, Nat.pow_succ]
    simp only [Nat.mul_assoc, Nat.mul_comm, Nat.mul_left_comm]
   have e2 : 18 ^ (18 + (d + 1)) * 17 ^ 18 = 18 * (18 ^ (18 + d) * 17 ^ 18) := by
    rw [show 18 + (d + 1) = 18 + d + 1 by omega, Nat.pow_succ]
    simp only [Nat.mul_assoc, Nat.mul_comm, Nat.mul_left_comm]
   rw [e1, e2]
   refine Nat.le_trans ?_ (Nat.mul_le_mul_left 18 ih)
   have e3 : 18 * ((18 + d) * 17 ^ (18 + d) * 18 ^ 17) = 18 * (18 + d) * (17 ^ (18 + d) * 18 ^ 17) := by
    simp only [Nat.mul_assoc]
   rw [e3]
   exact Nat.mul_le_mul_right _ (by omega)
 intro q
 rcases Nat.lt_or_ge q 18 with h | h
 ·exact h0 q h
 ·have := h1 (q - 18)
  rwa [show 18 + (q - 18) = q by omega] at this
theorem parts_bound : ∀ Q : List Nat, prodN Q * 17 ^ Q.sum * 18 ^ (17 * Q.length) ≤ 18 ^ Q.sum * 17 ^ (18 * Q.length)
 | [] => by decide
 | q :: Q => by
  have h1 := part_bound q
  have h2 := parts_bound Q
  have h3 := Nat.mul_le_mul h1 h2
  rw [List.sum_cons, List.length_cons]
  have e1 : prodN (q :: Q) * 17 ^ (q + Q.sum) * 18 ^ (17 * (Q.length + 1)) = q * 17 ^ q * 18 ^ 17 * (prodN Q * 17 ^ Q.sum * 18 ^ (17 * Q.length)) := by
   rw [Nat.pow_add, Nat.mul_add, Nat.pow_add, Nat.mul_one]
   simp only [prodN]
   simp only [Nat.mul_assoc, Nat.mul_comm, Nat.mul_left_comm]
  have e2 : 18 ^ (q + Q.sum) * 17 ^ (18 * (Q.length + 1)) = 18 ^ q * 17 ^ 18 * (18 ^ Q.sum * 17 ^ (18 * Q.length)) := by
   rw [Nat.pow_add, Nat.mul_add, Nat.pow_add, Nat.mul_one]
   simp only [Nat.mul_assoc, Nat.mul_comm, Nat.mul_left_comm]
  rw [e1, e2]
  exact h3
theorem parts_small {Q : List Nat} (hs : Q.sum ≤ 256) (hl : Q.length ≤ 15) : prodN Q ≤ 3030800878069216722 := by
 have h1 := parts_bound Q
 have h2 : prodN Q * 17 ^ 256 * 18 ^ (17 * Q.length) ≤ 18 ^ 256 * 17 ^ (18 * Q.length) := by
  have e : 256 = Q.sum + (256 - Q.sum) := by omega
  rw [e, Nat.pow_add, Nat.pow_add]
  have h3 : 17 ^ (256 - Q.sum) ≤ 18 ^ (256 - Q.sum) := Nat.pow_le_pow_left (by decide) _
  have h4 := Nat.mul_le_mul h1 h3
  refine Nat.le_trans (Nat.le_of_eq ?_) (Nat.le_trans h4 (Nat.le_of_eq ?_))
  ·simp only [Nat.mul_assoc, Nat.mul_comm, Nat.mul_left_comm]
  ·simp only [Nat.mul_assoc, Nat.mul_comm, Nat.mul_left_comm]
 generalize Q.length = k at hl h2
 have key : ∀ k, k ≤ 15 → 18 ^ 256 * 17 ^ (18 * k) < (3030800878069216722 + 1) * (17 ^ 256 * 18 ^ (17 * k)) := by decide +kernel
 have h3 := key k hl
 rw [Nat.mul_assoc] at h2
 have h4 := Nat.lt_of_le_of_lt h2 h3
 have := Nat.lt_of_mul_lt_mul_right h4
 omega
/-- Numbers that sum up to at most 256 have a small common multiple. -/
theorem lcmL_256 {l : List Int} (hp : ∀ x ∈ l, 0 < x) (hs : l.sum ≤ 256) : lcmL l ≤ 3030800878069216722 := by
 obtain ⟨Q, h1, h2, h3, h4⟩ := lcmL_parts hp
 obtain ⟨e1, e2⟩ := drop_ones Q h2
 have h5 : (Q.filter (· != 1)).length ≤ 15 := parts_few (h1.filter _) (fun q hq => by
  obtain ⟨m1, m2⟩ := List.mem_filter.1 hq
  have := h2 q m1
  have : q ≠ 1 := by simpa using m2
  omega) (by omega)
 have h6 := parts_small (Q := Q.filter (· != 1)) (by omega) h5
 rw [e1] at h6
 refine Nat.le_trans (Nat.le_of_dvd ?_ h4) h6
 refine Nat.pos_of_ne_zero fun h0 => ?_
 have : ∀ Q : List Nat, (∀ q ∈ Q, 0 < q) → 0 < prodN Q := fun Q => by
  induction Q with
  | nil => intro _; decide
  | cons q Q ih => intro h; exact Nat.mul_pos (h q List.mem_cons_self) (ih fun r hr => h r (List.mem_cons_of_mem _ hr))
 have := this Q h2
 omega
end Go.Tal

/-
 Plain: the order of a symmetry of up to 256 cells, as the reference has it.
-/
namespace Go.Tal
open Go.RowKit Go.Proofs _root_.Tal
def rordN (a : Sy) : Nat := if a.2 = true ∧ lcmL (cycI a.1) % 2 = 1 then 2 * lcmL (cycI a.1) else lcmL (cycI a.1)
theorem lcm_two (L : Nat) : Nat.lcm L 2 = if L % 2 = 1 then 2 * L else L := by
 have h := Nat.gcd_mul_lcm L 2
 by_cases e : L % 2 = 1
 ·have hg : Nat.gcd L 2 = 1 := by rw [Nat.gcd_comm, Nat.gcd_rec, e]; rfl
  rw [hg, Nat.one_mul] at h
  rw [if_pos e, h, Nat.mul_comm]
 ·have hg : Nat.gcd L 2 = 2 := by rw [Nat.gcd_comm, Nat.gcd_rec, show L % 2 = 0 by omega]; rfl
  rw [hg] at h
  rw [if_neg e]
  omega
theorem orderL_lcm (a : Sy) : lcmL (orderL a) = rordN a := by
 unfold orderL rordN
 cases a.2
 ·simp
 ·simp only [if_true, true_and]
  rw [lcmL_snoc]
  exact lcm_two _
theorem order_256 {a : Sy} (hp : PermL a.1.length a.1) (hn : a.1.length ≤ 256) : orderO a = ((rordN a : Int), 0) ∧ lcmL (cycI a.1) ≤ 3030800878069216722 := by
 have hs := cycI_sum hp
 have h1 := lcmL_256 (cycI_pos a.1) (by omega)
 have h2 : rordN a ≤ 9223372036854775807 := by
  unfold rordN
  split <;> omega
 refine ⟨?_, h1⟩
 rw [orderO, if_neg (by rw [Decidable.not_not, symI_zero]; exact ⟨by omega, rfl, hp⟩), foldl_lcm (orderL_pos a) (by rw [orderL_lcm]; exact h2), orderL_lcm]
end Go.Tal

/-
 Plain: steps of the reference's order; what GroupSymmetries compares.
-/
namespace Go.Tal
open Go.RowKit Go.Proofs _root_.Tal
theorem rsymI_symI (a : List Int) (c : Int) : rsymI a c = symI a c := by
 rcases cellsI_or c with h | h
 ·exact rsymI_sym h
 ·simp [rsymI, symI, h, firstI]
theorem lcm_take {l : List Int} (hp : ∀ x ∈ l, 0 < x) (i : Nat) : 0 < lcmL (l.take i) ∧ lcmL (l.take i) ≤ lcmL l := by
 have hp' : ∀ x ∈ l.take i, 0 < x := fun x hx => hp x (List.mem_of_mem_take hx)
 have h1 := (lcmL_dvd (l := l) (lcmL l) hp).1 (Nat.dvd_refl _)
 have h2 := (lcmL_dvd (l := l.take i) (lcmL l) hp').2 fun x hx => h1 x (List.mem_of_mem_take hx)
 exact ⟨lcmL_pos hp', Nat.le_of_dvd (lcmL_pos hp) h2⟩
theorem rord_step {l : List Int} (hp : ∀ x ∈ l, 0 < x) (hL : lcmL l ≤ 3030800878069216722) {i m : Nat} (hi : i < l.length) (hm : l.getD i 0 = (m : Int)) :
 gcdI ((lcmL (l.take i) : Nat) : Int) m ≠ 0 ∧ 0 ≤ ((lcmL (l.take i) : Nat) : Int).tdiv (gcdI ((lcmL (l.take i) : Nat) : Int) m) ∧ ((lcmL (l.take i) : Nat) : Int).tdiv (gcdI ((lcmL (l.take i) : Nat) : Int) m) ≤ 3030800878069216722 ∧
  ((lcmL (l.take i) : Nat) : Int).tdiv (gcdI ((lcmL (l.take i) : Nat) : Int) m) * (m : Int) = ((lcmL (l.take (i + 1)) : Nat) : Int) ∧ lcmL (l.take (i + 1)) ≤ 3030800878069216722 := by
 obtain ⟨h1, h2⟩ := lcm_take hp i
 obtain ⟨_, h3⟩ := lcm_take hp (i + 1)
 have hg : l.getD i 0 = l[i] := by rw [List.getD_eq_getElem?_getD, List.getElem?_eq_getElem hi]; rfl
 have hmp : 0 < (m : Int) := by rw [← hm, hg]; exact hp _ (List.getElem_mem hi)
 have hs : lcmL (l.take (i + 1)) = Nat.lcm (lcmL (l.take i)) m := by
  rw [List.take_succ_eq_append_getElem hi, lcmL_snoc, ← hg, hm, Int.toNat_natCast]
 have hgp : 0 < Nat.gcd (lcmL (l.take i)) m := Nat.gcd_pos_of_pos_left _ h1
 rw [gcdI_nat, ← Int.ofNat_tdiv]
 have hd : lcmL (l.take i) / Nat.gcd (lcmL (l.take i)) m ≤ lcmL (l.take i) := Nat.div_le_self _ _
 have hz : (0 : Int) ≤ ((lcmL (l.take i) / Nat.gcd (lcmL (l.take i)) m : Nat) : Int) := Int.natCast_nonneg _
 refine ⟨by omega, by omega, by omega, ?_, by omega⟩
 rw [hs, ← lcm_div, Int.natCast_mul]
theorem rord_odd {a : Sy} (h : a.2 = true) (h1 : ((lcmL (cycI a.1) : Nat) : Int).tmod 2 = 1) : (2 : Int) * ((lcmL (cycI a.1) : Nat) : Int) = ((rordN a : Nat) : Int) := by
 rw [show (2 : Int) = ((2 : Nat) : Int) from rfl, ← Int.ofNat_tmod] at h1
 rw [rordN, if_pos ⟨h, by omega⟩, Int.natCast_mul]
 rfl
theorem rord_even {a : Sy} (h1 : ¬ ((lcmL (cycI a.1) : Nat) : Int).tmod 2 = 1) : rordN a = lcmL (cycI a.1) := by
 rw [show (2 : Int) = ((2 : Nat) : Int) from rfl, ← Int.ofNat_tmod] at h1
 rw [rordN, if_neg (fun h => h1 (by omega))]
theorem rord_plain {a : Sy} (h : a.2 = false) : rordN a = lcmL (cycI a.1) := by rw [rordN, if_neg (by simp [h])]
theorem symI_perm {a : List Int} {c : Int} (h : symI a c = 0) : PermL a.length a ∧ (a.length : Int) = c ∧ c ≤ 256 := by
 obtain ⟨h1, h2, h3⟩ := symI_zero.1 h
 exact ⟨h3, h2, h1.2⟩
theorem rfillI_fill (f : List Int) : rfillI f = fillI f := by
 unfold rfillI fillI rangeI
 cases h : decide (256 < (f.length : Int)) with
 | true => rfl
 | false =>
  rw [firstI_cons]
  simp only [cond_false, whenI, if_false, ne_eq, not_true_eq_false]
  cases f.any farI <;> rfl
theorem sy_two {x y : Int} (h : firstI [x, y] = 0) : x = 0 ∧ y = 0 := by
 have := firstI_zero.1 h
 exact ⟨this _ (by simp), this _ (by simp)⟩
theorem sy_app {a : Sy} {f : List Int} (h1 : fillI f = 0) (h2 : symI a.1 f.length = 0) : listB (applyO a f).1 (applyO a f).2 (rangeI (imgI a.1 a.2 f)) (imgI a.1 a.2 f) = true := by
 rw [applyO, if_neg (by simp [h1]), if_neg (by simp [h2])]
 by_cases h : (imgI a.1 a.2 f).any farI = true
 ·rw [if_pos h]; simp [rangeI, whenI, h, listB]
 ·rw [if_neg h]; rw [Bool.not_eq_true] at h; simp [rangeI, whenI, h, listB]
theorem sy_bad {a : Sy} {f : List Int} (h : ¬ firstI [rfillI f, rsymI a.1 f.length] = 0) : listB (applyO a f).1 (applyO a f).2 (firstI [rfillI f, rsymI a.1 f.length]) [] = true := by
 rw [rfillI_fill, rsymI_symI] at h ⊢
 by_cases h1 : fillI f = 0
 ·by_cases h2 : symI a.1 f.length = 0
  ·exact absurd (by simp [firstI, h1, h2]) h
  ·rw [applyO, if_neg (by simp [h1]), if_pos h2]; simp [firstI, h1, h2, listB]
 ·rw [applyO, if_pos h1]; simp [firstI, h1, listB]
theorem sy_err {e : Int} (h : e ≠ 0) (w : Sy) : symB ([], false) e e w = true := by simp [symB, h]
theorem sy_ok (a : Sy) : symB a 0 0 a = true := by simp [symB]
theorem sy_alone_bad {a : Sy} (b : Sy) (h : rsymI a.1 a.1.length ≠ 0) : symB (composeO a b).1 (composeO a b).2 (rsymI a.1 a.1.length) (composeO a b).1 = true ∧ symB (invertO a).1 (invertO a).2 (rsymI a.1 a.1.length) (invertO a).1 = true ∧ (orderO a).1 = 0 ∧ (orderO a).2 = rsymI a.1 a.1.length := by
 rw [rsymI_symI] at h ⊢
 have e : firstI [symI a.1 a.1.length, symI b.1 a.1.length] = symI a.1 a.1.length := by simp [firstI, h]
 have e1 : composeO a b = (([], false), symI a.1 a.1.length) := by rw [composeO, if_pos (by rw [e]; exact h), e]
 have e2 : invertO a = (([], false), symI a.1 a.1.length) := by rw [invertO, if_pos h]
 have e3 : orderO a = (0, symI a.1 a.1.length) := by rw [orderO, if_pos h]
 rw [e1, e2, e3]
 exact ⟨sy_err h _, sy_err h _, rfl, rfl⟩
theorem sy_alone_ok {a : Sy} (h : rsymI a.1 a.1.length = 0) : PermL a.1.length a.1 ∧ a.1.length ≤ 256 ∧ symB (invertO a).1 (invertO a).2 0 (invTo a.1 a.1.length, a.2) = true ∧ (orderO a).1 = (rordN a : Int) ∧ (orderO a).2 = 0 := by
 rw [rsymI_symI] at h
 obtain ⟨h1, _, h3⟩ := symI_perm h
 have hl : a.1.length ≤ 256 := by omega
 have e2 : invertO a = ((invTo a.1 a.1.length, a.2), 0) := by rw [invertO, if_neg (by simp [h])]
 rw [e2, (order_256 h1 hl).1]
 exact ⟨h1, hl, sy_ok _, rfl, rfl⟩
theorem sy_pair_bad {a b : Sy} (h : rsymI a.1 a.1.length = 0) (h2 : rsymI b.1 a.1.length ≠ 0) : symB (composeO a b).1 (composeO a b).2 (rsymI b.1 a.1.length) (composeO a b).1 = true := by
 rw [rsymI_symI] at h h2 ⊢
 have e : firstI [symI a.1 a.1.length, symI b.1 a.1.length] = symI b.1 a.1.length := by simp [firstI, h, h2]
 have e1 : composeO a b = (([], false), symI b.1 a.1.length) := by rw [composeO, if_pos (by rw [e]; exact h2), e]
 rw [e1]
 exact sy_err h2 _
theorem sy_pair_ok {a b : Sy} (h : rsymI a.1 a.1.length = 0) (h2 : rsymI b.1 a.1.length = 0) : symB (composeO a b).1 (composeO a b).2 0 (comp a b) = true ∧ Ok a.1.length b := by
 rw [rsymI_symI] at h h2
 have e1 : composeO a b = (comp a b, 0) := by rw [composeO, if_neg (by simp [firstI, h, h2])]
 obtain ⟨h3, h4, _⟩ := symI_perm h2
 have h5 : b.1.length = a.1.length := by omega
 rw [e1]
 exact ⟨sy_ok _, by rw [← h5]; exact h3⟩
end Go.Tal

/-
 The reference's groups: order, places, checks.
-/
namespace Go.Tal
open Go.RowKit Go.Proofs Go.Proofs.Tryz _root_.Tal
set_option maxRecDepth 8000 in
theorem long0_fn (f : List Int) (v : Value) (h : H) (hl : RdI0 h v f) : FnV Tryz.prog 51 #[v] h (.bool (longI f)) := by
 refine fn_of (vs := [v]) func51 rfl ntmps51 (Nat.le_of_ble_eq_true rfl) fun w hw => ?_
 apply wp_seq'
 refine wp_text rfl ?_
 refine rm rfl ?_
 apply run_end
 apply wp_seq'
 refine wp_text rfl ?_
 refine rm rfl ?_
 refine rs rfl (s_lenI0 hl rfl rfl underlying35) ?_
 refine rs rfl (s_gt rfl rfl rfl) ?_
 refine rm rfl ?_
 refine run_cases (t := 6) rfl (fun hg6 => ?_) (fun hg6 => ?_)
 ·skip
  refine rsg rfl rfl (s_move rfl rfl) ?_
  refine rsg rfl rfl (s_lenI0 hl rfl rfl underlying35) ?_
  refine rsg rfl rfl (s_lt rfl rfl rfl) ?_
  refine rs rfl (s_pick rfl rfl (fun _ => rfl) (fun h => by cases h)) ?_
  refine rm rfl ?_
  refine run_cases (t := 11) rfl (fun hg11 => ?_) (fun hg11 => ?_)
  ·skip
   refine run_skip rfl rfl rfl rfl rfl rfl rfl ?_
   refine run_skip rfl rfl rfl rfl rfl rfl rfl ?_
   refine run_skip rfl rfl rfl rfl rfl rfl rfl ?_
   refine rs rfl (s_pick rfl rfl (fun _ => rfl) (fun h => by cases h)) ?_
   refine rm rfl ?_
   apply run_end
   apply wp_ret'
   exact fin_ret (res_tmp rfl rfl) (by first | (simp_all [longI]; done) | (simp_all [longI]; omega))
  ·skip
   refine rsg rfl rfl (s_move rfl rfl) ?_
   refine rsg rfl rfl (s_lenI0 hl rfl rfl underlying35) ?_
   refine rsg rfl rfl (s_gt rfl rfl rfl) ?_
   refine rs rfl (s_pick rfl rfl (fun h => by cases h) (fun _ => rfl)) ?_
   refine rm rfl ?_
   apply run_end
   apply wp_ret'
   exact fin_ret (res_tmp rfl rfl) (by first | (simp_all [longI]; done) | (simp_all [longI]; omega))
 ·skip
  refine run_skip rfl rfl rfl rfl rfl rfl rfl ?_
  refine run_skip rfl rfl rfl rfl rfl rfl rfl ?_
  refine run_skip rfl rfl rfl rfl rfl rfl rfl ?_
  refine rs rfl (s_pick rfl rfl (fun h => by cases h) (fun _ => rfl)) ?_
  refine rm rfl ?_
  refine rsg rfl rfl (s_move rfl rfl) ?_
  refine rsg rfl rfl (s_lenI0 hl rfl rfl underlying35) ?_
  refine rsg rfl rfl (s_gt rfl rfl rfl) ?_
  refine rs rfl (s_pick rfl rfl (fun h => by cases h) (fun _ => rfl)) ?_
  refine rm rfl ?_
  apply run_end
  apply wp_ret'
  exact fin_ret (res_tmp rfl rfl) (by first | (simp_all [longI]; done) | (simp_all [longI]; omega))
end Go.Tal

/-
 The reference's orbits of cells.
-/
namespace Go.Tal
open Go.RowKit Go.Proofs _root_.Tal
end Go.Tal

/-
 The reference's cycles of a symmetry.
-/
namespace Go.Tal
open Go.RowKit Go.Proofs Go.Proofs.Tryz _root_.Tal
set_option maxRecDepth 8000 in
set_option maxHeartbeats 4000000 in
theorem rcyc_fn (a : List Int) (v : Value) (h : H) (ha : RdI h v a) (hp : PermL a.length a) : Fn Tryz.prog 142 #[v] h fun r h' => ∃ ls : List (List Int), RdT h' r ls ∧ ls.map (fun y => (y.length : Int)) = cycI a := by
 have ham := ha.len
 refine fn_of (vs := [v]) func142 rfl ntmps142 (Nat.le_of_ble_eq_true rfl) fun w hw => ?_
 repeat apply wp_seq'
 refine wp_text rfl ?_
 refine rm rfl ?_
 apply run_end
 repeat apply wp_seq'
 refine wp_text rfl ?_
 refine rm rfl ?_
 apply run_end
 repeat apply wp_seq'
 refine wp_text rfl ?_
 refine rm rfl ?_
 refine rs rfl (s_lenI ha rfl rfl underlying35) ?_
 refine run_mksl rfl rfl rfl rfl rfl rfl rfl underlying108 info4 rfl (by omega) (by omega) fun bs => ?_
 refine rm rfl ?_
 apply run_end
 repeat apply wp_seq'
 refine wp_text rfl ?_
 refine rm rfl ?_
 apply run_end
 repeat apply wp_seq'
 apply wp_block'
 refine WP.nilrow 35 1 ?_
 rw [← cycTo_zero a]
 refine wp_loop' (ι := H × Nat × List Value × Value × List (List Int)) (fun x => (∀ b o, h b = some o → x.1 b = some o) ∧ x.2.1 ≤ a.length ∧ x.2.2.2.2.map (fun y => (y.length : Int)) = (cycTo a x.2.1).2 ∧ AllRd x.1 x.2.2.1 x.2.2.2.2 ∧ x.2.2.1.length ≤ x.2.1 ∧ ∃ A c, x.2.2.2.1 = .slice A x.2.2.1.length c) (fun x => ⟨[(5, .int .i64 x.2.1), (4, (.slice (some ⟨bs, 0, none⟩) a.length a.length)), (3, x.2.2.2.1), (0, v)], x.1, [.row x.2.2.2.1 35 1 x.2.2.1.length x.2.2.1, .row (.slice (some ⟨bs, 0, none⟩) a.length a.length) 4 1 a.length ((cycTo a x.2.1).1.map Value.bool)]⟩) (fun x => a.length - x.2.1) (h, 0, [], .slice none 0 0, []) ⟨fun _ _ hb => hb, Nat.zero_le _, rfl, ⟨rfl, fun j hj => by cases hj⟩, Nat.zero_le _, none, 0, rfl⟩ ⟨by repeat (first|exact True.intro|refine And.intro rfl ?_), rfl, by repeat (first|exact NS _|exact SR _|apply SCC|apply SC)⟩ fun x hx => ?_
 obtain ⟨h1, i, vals, ov, outs⟩ := x
 obtain ⟨hh1, hi, hto, hrd, hvl, oA, oc, eov⟩ := hx
 dsimp only at hh1 hi hto hrd hvl eov ⊢
 subst eov
 have ha := ha.mono hh1
 have hcl := cycTo_len a i
 repeat apply wp_seq'
 refine wp_text rfl ?_
 refine rm rfl ?_
 refine rm rfl ?_
 refine rs rfl (s_lenI ha rfl rfl underlying35) ?_
 refine rs rfl (s_lt rfl rfl rfl) ?_
 apply run_end
 repeat apply wp_seq'
 refine wp_if' rfl (fun hc14 => ?_) (fun hc14 => ?_)
 ·skip
  apply wp_skip'
  repeat apply wp_seq'
  apply wp_block'
  repeat apply wp_seq'
  refine wp_text rfl ?_
  refine rm rfl ?_
  apply run_end
  repeat apply wp_seq'
  refine wp_text rfl ?_
  refine rm rfl ?_
  refine rm rfl ?_
  apply run_end
  repeat apply wp_seq'
  apply wp_block'
  refine WP.nilrow 3 1 ?_
  refine wp_loop' (ι := Nat × List Bool × Int × List Int × Value) (fun j => j.2.1.length = a.length ∧ cntF j.2.1 ≤ j.1 ∧ 0 ≤ j.2.2.1 ∧ j.2.2.1 < a.length ∧ j.2.2.2.1.length + j.1 = a.length ∧ cycWalk a j.1 j.2.1 j.2.2.1 j.2.2.2.1.length = cycWalk a a.length (cycTo a i).1 i 0 ∧ ∃ A c, j.2.2.2.2 = .slice A j.2.2.2.1.length c) (fun j => ⟨[(7, .int .i64 j.2.2.1), (6, j.2.2.2.2), (5, .int .i64 i), (4, (.slice (some ⟨bs, 0, none⟩) a.length a.length)), (3, .slice oA vals.length oc), (0, v)], h1, [.row j.2.2.2.2 3 1 j.2.2.2.1.length (j.2.2.2.1.map (Value.int .i64)), .row (.slice oA vals.length oc) 35 1 vals.length vals, .row (.slice (some ⟨bs, 0, none⟩) a.length a.length) 4 1 a.length (j.2.1.map Value.bool)]⟩) (fun j => j.1) (a.length, (cycTo a i).1, (i : Int), [], .slice none 0 0) ⟨hcl, by rw [← hcl]; exact cntF_le _, by dsimp only; omega, by dsimp only; omega, by simp, rfl, none, 0, rfl⟩ ⟨by repeat (first|exact True.intro|refine And.intro rfl ?_), rfl, by repeat (first|exact NS _|exact SR _|apply SCC|apply SC)⟩ fun j hj => ?_
  obtain ⟨k, sn, c, ys, tv⟩ := j
  obtain ⟨g1, g2, g3, g4, g5, g6, tA, tc, etv⟩ := hj
  dsimp only at g1 g2 g3 g4 g5 g6 etv ⊢
  subst etv
  repeat apply wp_seq'
  refine wp_text rfl ?_
  refine rm rfl ?_
  refine rm rfl ?_
  refine rs rfl (s_ia1 rfl rfl rfl underlying108 sizeOf4 (by omega) (by omega)) ?_
  refine rs rfl (s_ld rfl rfl isAgg4 (.rowM (e := 4) (sz := 1) Value.bool false (by repeat first|exact MH _|apply MT) (by first | omega | (simp; omega)))) ?_
  refine rs rfl (s_not rfl rfl) ?_
  apply run_end
  repeat apply wp_seq'
  refine wp_cond' rfl (fun hc22 => ?_) (fun hc22 => ?_)
  ·skip
   apply wp_skip'
   repeat apply wp_seq'
   apply wp_block'
   have hct := cntF_set (sn := sn) (c := c.toNat) (by omega) (by simpa using hc22)
   obtain ⟨k, rfl⟩ : ∃ k', k = k' + 1 := ⟨k - 1, by omega⟩
   rw [cycWalk, if_neg (by simpa using hc22)] at g6
   have hcr := hp.getD_range (i := c.toNat) (by omega)
   repeat apply wp_seq'
   refine wp_text rfl ?_
   refine rm rfl ?_
   refine rm rfl ?_
   refine rs rfl (s_ia1 rfl rfl rfl underlying108 sizeOf4 (by omega) (by omega)) ?_
   refine run_strowM Value.bool rfl rfl rfl rfl rfl rfl rfl rfl sizeOf4 (by repeat first|exact Swap.here|apply Swap.there) (by omega) ?_
   apply run_end
   repeat apply wp_seq'
   refine wp_text rfl ?_
   refine rm rfl ?_
   refine rm rfl ?_
   refine run_bso (parts := [_]) (vs := [_]) rfl rfl rfl rfl rfl rfl (bs35_1 _) fun b32 => ?_
   refine run_app1 (Value.int .i64) _ rfl rfl rfl rfl rfl rfl rfl underlying35 info3 rfl (fun v' => (by repeat first|exact Swap.here|apply Swap.there)) (by repeat first|exact MH _|apply MT) rfl (by omega) (by decide) fun v33 hv33 => ?_
   obtain ⟨A33, c33, rfl⟩ := hv33
   refine rm rfl ?_
   apply run_end
   repeat apply wp_seq'
   refine wp_text rfl ?_
   refine rm rfl ?_
   refine rm rfl ?_
   refine rs rfl (s_iaI ha (by omega) (by omega) rfl rfl rfl underlying35 sizeOf3) ?_
   refine rs rfl (s_ldI ha (by omega) (by omega) rfl rfl isAgg3) ?_
   refine rm rfl ?_
   apply run_end
   have el : ys.length + 1 = (ys ++ [c]).length := by simp
   rw [el]
   rw [el] at g6
   exact ⟨(k, sn.set c.toNat true, a.getD c.toNat 0, ys ++ [c], .slice A33 (ys ++ [c]).length c33), ⟨by simpa using g1, by dsimp only; omega, hcr.1, hcr.2, by simp; omega, g6, _, _, rfl⟩, by dsimp only; omega, ⟨by repeat (first|exact True.intro|refine And.intro rfl ?_), rfl, by repeat (first|exact NS _|exact SR _|apply SCC|apply SC)⟩⟩
  ·skip
   apply wp_exit'
   have he : cycWalk a a.length (cycTo a i).1 i 0 = (sn, ys.length) := by rw [← g6]; cases k with | zero => rfl | succ k => rw [cycWalk, if_pos (by simpa using hc22)]
   have e1 := cycTo_succ a i
   rw [cycStep, he] at e1
   dsimp only at e1
   repeat apply wp_seq'
   refine wp_text rfl ?_
   refine rm rfl ?_
   refine rs rfl (s_len rfl rfl underlying35) ?_
   refine rs rfl (s_gt rfl rfl rfl) ?_
   apply run_end
   repeat apply wp_seq'
   refine wp_if' rfl (fun hc36 => ?_) (fun hc36 => ?_)
   ·skip
    rw [if_pos (by omega)] at e1
    refine WP.letO rfl (by repeat first|exact Pick.here|apply Pick.there) (by omega) fun h5 hh5 hov => ?_
    have hrd := hrd.mono hh5
    repeat apply wp_seq'
    refine wp_text rfl ?_
    refine rm rfl ?_
    refine rm rfl ?_
    refine run_bso (parts := [_]) (vs := [_]) rfl rfl rfl rfl rfl rfl (bs26_r hov) fun b39 => ?_
    refine run_app1v _ rfl rfl rfl rfl rfl rfl rfl underlying26 info35 rfl (fun v' => (by repeat first|exact Swap.here|apply Swap.there)) (by repeat first|exact MH _|apply MT) (RdI.one hov) (by omega) (by decide) fun v40 hv40 => ?_
    obtain ⟨A40, c40, rfl⟩ := hv40
    refine rm rfl ?_
    apply run_end
    repeat apply wp_seq'
    refine wp_text rfl ?_
    refine rm rfl ?_
    refine rs rfl (s_add (q := ((i + 1 : Nat) : Int)) rfl rfl rfl (IntWalk.i64_in _ (by omega))) ?_
    refine rm rfl ?_
    apply run_end
    have el : vals.length + 1 = (vals ++ [Value.slice tA ys.length tc]).length := by simp
    rw [el]
    refine ⟨(h5, i + 1, vals ++ [.slice tA ys.length tc], _, outs ++ [ys]), ⟨fun b o hb => hh5 _ _ (hh1 _ _ hb), by dsimp only; omega, by dsimp only; rw [e1, List.map_append, hto]; rfl, hrd.snoc hov, by dsimp only; rw [← el]; omega, _, _, rfl⟩, by dsimp only; omega, ⟨by repeat (first|exact True.intro|refine And.intro rfl ?_), rfl, ?_⟩⟩
    dsimp only
    rw [e1]
    repeat (first | exact List.nil_sublist _ | exact List.Sublist.refl _ | apply List.Sublist.cons_cons | apply List.Sublist.cons)
   ·skip
    rw [if_neg (by omega)] at e1
    apply wp_skip'
    repeat apply wp_seq'
    refine wp_text rfl ?_
    refine rm rfl ?_
    refine rs rfl (s_add (q := ((i + 1 : Nat) : Int)) rfl rfl rfl (IntWalk.i64_in _ (by omega))) ?_
    refine rm rfl ?_
    apply run_end
    refine ⟨(h1, i + 1, vals, .slice oA vals.length oc, outs), ⟨hh1, by dsimp only; omega, by dsimp only; rw [e1, hto], hrd, by dsimp only; omega, _, _, rfl⟩, by dsimp only; omega, ⟨by repeat (first|exact True.intro|refine And.intro rfl ?_), rfl, ?_⟩⟩
    dsimp only
    rw [e1]
    repeat (first | exact List.nil_sublist _ | exact List.Sublist.refl _ | apply List.Sublist.cons_cons | apply List.Sublist.cons)
 ·skip
  apply wp_exit'
  obtain rfl : i = a.length := by omega
  repeat apply wp_seq'
  refine wp_text rfl ?_
  refine rm rfl ?_
  refine rm rfl ?_
  apply run_end
  refine WP.letT outs rfl (by repeat first|exact Pick.here|apply Pick.there) (by omega) hrd.1 hrd.2 fun h6 hh6 hrt => ?_
  apply wp_ret'
  exact fin_ret (res_tmp rfl rfl) ⟨outs, hrt, hto⟩
end Go.Tal

/-
 Plain: small fillings under symmetries; what GroupActs compares.
-/
namespace Go.Tal
open Go.RowKit Go.Proofs _root_.Tal
end Go.Tal

/-
 Symbolic states: parts of lists that are read, appended to rows; insertion into ascending lists.
-/
namespace Go.Tal
open Go.RowKit Go.Proofs _root_.Tal
theorem CapOk.nil : CapOk (.slice none 0 0) 0 := ⟨none, 0, rfl, Nat.le_refl _⟩
theorem addr_add (b o n : Nat) : (⟨b, o, none⟩ : Addr).add n = ⟨b, o + n, none⟩ := by unfold Addr.add; split <;> simp_all
/-- The values of a list of lists that is read, and where its parts lie. -/
theorem RdT.parts {h : H} {A : Option Addr} {n c : Nat} {l : List (List Int)} (r : RdT h (.slice A n c) l) (hc : n ≤ c) : ∃ vals : List Value, AllRd h vals l ∧ vals.length = n ∧ ∀ k, k ≤ n → ∀ L : List Own,
 (0 < k → ∃ b o', (if c = 0 then A else A.map (·.add 0)) = some ⟨b, o', none⟩ ∧ ∀ j u, (vals.take k)[j]? = some u → Cell h L b (o' + j) u) ∧
 (0 < n - k → ∃ b o', (if c = k then A else A.map (·.add (k * 1))) = some ⟨b, o', none⟩ ∧ ∀ j u, (vals.drop k)[j]? = some u → Cell h L b (o' + j) u) := by
 obtain ⟨A', c', e, hm, hr⟩ := r
 simp only [Value.slice.injEq] at e
 obtain ⟨rfl, rfl, rfl⟩ := e
 by_cases h0 : 0 < l.length
 ·obtain ⟨b, o, rfl, arr, t, fz, hb, hg⟩ := hr h0
  obtain ⟨vals, hv1, hv2⟩ := choose_list (Value.slice none 0 0) l.length fun i hi => (hg i hi)
  have hget : ∀ {j : Nat} {u : Value}, vals[j]? = some u → arr[o + j]? = some u := fun {j u} hu => by
   have hj := (List.getElem?_eq_some_iff.1 hu).1
   obtain ⟨h1, _⟩ := hv2 j (by omega)
   rw [List.getD_eq_getElem?_getD, hu] at h1
   exact h1
  refine ⟨vals, ⟨by omega, fun j hj => ?_⟩, hv1, fun k hk L => ⟨fun hp => ⟨b, o, ?_, fun j u hu => ?_⟩, fun hp => ⟨b, o + k, ?_, fun j u hu => ?_⟩⟩⟩
  ·obtain ⟨_, h2⟩ := hv2 j (by omega)
   refine ⟨vals.getD j (.slice none 0 0), ?_, h2⟩
   rw [List.getD_eq_getElem?_getD, List.getElem?_eq_getElem hj]
   rfl
  ·rw [if_neg (by omega)]
   rfl
  ·rw [List.getElem?_take] at hu
   split at hu
   ·exact .imm arr t fz hb (hget hu)
   ·cases hu
  ·rw [if_neg (by omega), Option.map_some, addr_add, Nat.mul_one]
  ·rw [List.getElem?_drop] at hu
   refine .imm arr t fz hb ?_
   rw [Nat.add_assoc]
   exact hget hu
 ·have e0 : l = [] := List.eq_nil_of_length_eq_zero (by omega)
  subst e0
  exact ⟨[], ⟨rfl, fun j hj => absurd hj (Nat.not_lt_zero j)⟩, rfl, fun k hk L => ⟨fun hp => absurd hk (by simp; omega), fun hp => absurd hp (by simp)⟩⟩
theorem RdS.parts {h : H} {A : Option Addr} {n c : Nat} {l : List Sy} (r : RdS h (.slice A n c) l) (hc : n ≤ c) : ∃ ps : List (Value × Sy), SetOk h ps ∧ ps.map (·.2) = l ∧ ps.length = n ∧ ∀ k, k ≤ n → ∀ L : List Own,
 (0 < k → ∃ b o', (if c = 0 then A else A.map (·.add 0)) = some ⟨b, o', none⟩ ∧ ∀ j u, (rowS (ps.take k))[j]? = some u → Cell h L b (o' + j) u) ∧
 (0 < n - k → ∃ b o', (if c = k then A else A.map (·.add (k * 2))) = some ⟨b, o', none⟩ ∧ ∀ j u, (rowS (ps.drop k))[j]? = some u → Cell h L b (o' + j) u) := by
 obtain ⟨A', c', e, hm, hr⟩ := r
 simp only [Value.slice.injEq] at e
 obtain ⟨rfl, rfl, rfl⟩ := e
 by_cases h0 : 0 < l.length
 ·obtain ⟨b, o, rfl, arr, t, fz, hb, hg⟩ := hr h0
  obtain ⟨ps, hv1, hv2⟩ := choose_list (p := fun i (q : Value × Sy) => arr[o + i * 2]? = some q.1 ∧ arr[o + i * 2 + 1]? = some (.bool q.2.2) ∧ RdI h q.1 q.2.1 ∧ q.2 = l.getD i ([], false)) ((.slice none 0 0, ([], false)) : Value × Sy) l.length fun i hi => by
   obtain ⟨sv, g1, g2, g3⟩ := hg i hi
   exact ⟨(sv, l.getD i ([], false)), g1, g2, g3, rfl⟩
  have hp : ∀ {j : Nat} (hj : j < ps.length), ps.getD j (.slice none 0 0, ([], false)) = ps[j] := fun hj => by rw [List.getD_eq_getElem?_getD, List.getElem?_eq_getElem hj]; rfl
  have hget : ∀ {j : Nat} {u : Value}, (rowS ps)[j]? = some u → arr[o + j]? = some u := fun {j u} hu => by
   have hj := (List.getElem?_eq_some_iff.1 hu).1
   rw [rowS_len] at hj
   obtain ⟨g1, g2⟩ := rowS_get (l := ps) (j := j / 2) (List.getElem?_eq_getElem (by omega))
   obtain ⟨h1, h2, _⟩ := hv2 (j / 2) (by omega)
   rw [hp (by omega)] at h1 h2
   rcases Nat.mod_two_eq_zero_or_one j with e | e
   ·have ej : j / 2 * 2 = j := by omega
    rw [ej] at g1 h1
    rw [hu] at g1
    rw [h1, g1]
   ·have ej : j / 2 * 2 + 1 = j := by omega
    rw [Nat.add_assoc, ej] at h2
    rw [ej] at g2
    rw [hu] at g2
    rw [h2, g2]
  have hmap : ps.map (·.2) = l := by
   apply List.ext_getElem
   ·simp [hv1]
   ·intro j h1 h2
    rw [List.length_map] at h1
    obtain ⟨_, _, _, h4⟩ := hv2 j (by omega)
    rw [hp h1] at h4
    rw [List.getElem_map, h4, List.getD_eq_getElem?_getD, List.getElem?_eq_getElem h2]
    rfl
  refine ⟨ps, fun q hq => ?_, hmap, hv1, fun k hk L => ⟨fun hp => ⟨b, o, ?_, fun j u hu => ?_⟩, fun hp => ⟨b, o + k * 2, ?_, fun j u hu => ?_⟩⟩⟩
  ·obtain ⟨j, hj, rfl⟩ := List.getElem_of_mem hq
   obtain ⟨_, _, h3, _⟩ := hv2 j (by omega)
   rw [hp hj] at h3
   exact h3
  ·rw [if_neg (by omega)]
   rfl
  ·refine .imm arr t fz hb (hget ?_)
   have hs : rowS ps = rowS (ps.take k) ++ rowS (ps.drop k) := by unfold rowS; rw [← List.flatMap_append, List.take_append_drop]
   rw [hs, List.getElem?_append_left (List.getElem?_eq_some_iff.1 hu).1]
   exact hu
  ·rw [if_neg (by omega), Option.map_some, addr_add]
  ·refine .imm arr t fz hb ?_
   rw [Nat.add_assoc]
   refine hget ?_
   rw [← rowS_drop, List.getElem?_drop] at hu
   exact hu
 ·have e0 : l = [] := List.eq_nil_of_length_eq_zero (by omega)
  subst e0
  exact ⟨[], fun q hq => by simp at hq, rfl, rfl, fun k hk L => ⟨fun hp => absurd hk (by simp; omega), fun hp => absurd hp (by simp)⟩⟩
theorem RdI.parts {h : H} {A : Option Addr} {n c : Nat} {l : List Int} (r : RdI h (.slice A n c) l) (hc : n ≤ c) : ∀ k, k ≤ n → ∀ L : List Own,
 (0 < k → ∃ b o', (if c = 0 then A else A.map (·.add 0)) = some ⟨b, o', none⟩ ∧ ∀ j u, ((l.take k).map (Value.int .i64))[j]? = some u → Cell h L b (o' + j) u) ∧
 (0 < n - k → ∃ b o', (if c = k then A else A.map (·.add (k * 1))) = some ⟨b, o', none⟩ ∧ ∀ j u, ((l.drop k).map (Value.int .i64))[j]? = some u → Cell h L b (o' + j) u) := by
 intro k hk L
 obtain ⟨A', c', e, hm, hr⟩ := r
 simp only [Value.slice.injEq] at e
 obtain ⟨rfl, rfl, rfl⟩ := e
 have hget : ∀ {b o : Nat} {arr : Array Value}, (∀ j, j < l.length → arr[o + j]? = some (.int .i64 (l.getD j 0))) → ∀ {j : Nat} {z : Int}, l[j]? = some z → arr[o + j]? = some (.int .i64 z) := fun {b o arr} hg {j z} hu => by
  have hj := (List.getElem?_eq_some_iff.1 hu).1
  have := hg j hj
  rw [List.getD_eq_getElem?_getD, hu] at this
  exact this
 refine ⟨fun hp => ?_, fun hp => ?_⟩
 ·obtain ⟨b, o, rfl, arr, t, fz, hb, hg⟩ := hr (by omega)
  refine ⟨b, o, by rw [if_neg (by omega)]; rfl, fun j u hu => ?_⟩
  rw [List.getElem?_map, List.getElem?_take] at hu
  split at hu
  ·rw [Option.map_eq_some_iff] at hu
   obtain ⟨z, hz, rfl⟩ := hu
   exact .imm arr t fz hb (hget (b := b) hg hz)
  ·cases hu
 ·obtain ⟨b, o, rfl, arr, t, fz, hb, hg⟩ := hr (by omega)
  refine ⟨b, o + k, by rw [if_neg (by omega), Option.map_some, addr_add, Nat.mul_one], fun j u hu => ?_⟩
  rw [List.getElem?_map, List.getElem?_drop, Option.map_eq_some_iff] at hu
  obtain ⟨z, hz, rfl⟩ := hu
  refine .imm arr t fz hb ?_
  rw [Nat.add_assoc]
  exact hget (b := b) hg hz
end Go.Tal

/-
 GroupActs: applying after composing, inverting, and as often as the order says.
-/
namespace Go.Tal
open Go.RowKit Go.Proofs _root_.Tal
theorem s_lit {P : Program} {o : Oper} {F : List (Nat × Value)} {h : H} {L : List Own} {p q : Bool} (hs : SoftOk P o F h L (.bool p)) (e : p = q) : SoftOk P o F h L (.bool q) := e ▸ hs
end Go.Tal

/-
 GroupSymmetries: Apply, Compose, Invert, Order and CheckSymmetry answer as the reference does.
-/
namespace Go.Tal
open Go.RowKit Go.Proofs Go.Proofs.Tryz _root_.Tal
theorem long_260 {f : List Int} (h : longI f = false) : f.length ≤ 4294967296 := by
 simp only [longI, Bool.or_eq_false_iff, decide_eq_false_iff_not] at h
 omega
theorem symm_yes (a : Sy) (e bad : Int) (want : Sy) (v u : Value) (h : H) (hx : RdI h v a.1) (hy : bad = 0 → RdI h u want.1) (hu : u.oneCell' = true) (ht : symB a e bad want = true) : FnV Tryz.prog 62 #[.agg #[v, .bool a.2], .int .i64 e, .int .i64 bad, .agg #[u, .bool want.2]] h (.bool true) := by
 have := symmetry_fn a e bad want v u h hx hy hu
 rwa [ht] at this
theorem listG_yes (a : List Int) (e bad : Int) (want : List Int) (v u : Value) (h : H) (hx : RdI h v a) (hy : bad = 0 → RdI h u want) (ht : listB a e bad want = true) : FnV Tryz.prog 60 #[v, .int .i64 e, .int .i64 bad, u] h (.bool true) := by
 have := list_fn a e bad want v u h hx hy
 rwa [ht] at this
theorem map_getD_len {ls : List (List Int)} {l : List Int} (h : ls.map (fun y => (y.length : Int)) = l) : l.length = ls.length ∧ ∀ i, i < ls.length → l.getD i 0 = ((ls.getD i []).length : Int) := by
 subst h
 refine ⟨by simp, fun i hi => ?_⟩
 simp [List.getD_eq_getElem?_getD, hi]
set_option maxRecDepth 8000 in
theorem rgcdM_fn (a b : Int) (h : H) (ha : 0 ≤ a) (hb : 0 ≤ b) (ham : a ≤ 9223372036854775807) (hbm : b ≤ 9223372036854775807) : FnV Tryz.prog 143 #[.int .i64 a, .int .i64 b] h (.int .i64 (gcdI a b)) := by
 refine fn_of (vs := [.int .i64 a, .int .i64 b]) func143 rfl ntmps143 (Nat.le_of_ble_eq_true rfl) fun w hw => ?_
 apply wp_seq'
 refine wp_text rfl ?_
 refine rm rfl ?_
 apply run_end
 apply wp_seq'
 refine wp_text rfl ?_
 refine rm rfl ?_
 refine rm rfl ?_
 refine rs rfl (s_sub rfl rfl rfl (IntWalk.i64_in _ (by omega))) ?_
 refine rs rfl (s_max2 (q := a) rfl rfl rfl (by split <;> omega)) ?_
 refine rm rfl ?_
 refine rm rfl ?_
 refine rs rfl (s_sub rfl rfl rfl (IntWalk.i64_in _ (by omega))) ?_
 refine rs rfl (s_max2 (q := b) rfl rfl rfl (by split <;> omega)) ?_
 refine run_callv (vs := [_, _]) rfl rfl rfl rfl rfl rfl en199 (rgcd_fn _ _ _ ha hb) ?_
 refine rm rfl ?_
 apply run_end
 apply wp_ret'
 exact fin_ret (res_tmp rfl rfl) (rfl)
set_option maxRecDepth 8000 in
theorem rorder_fn (a : Sy) (va : Value) (h : H) (ha : RdI h va a.1) (hp : PermL a.1.length a.1) (hn : a.1.length ≤ 256) : FnV Tryz.prog 64 #[.agg #[va, .bool a.2]] h (.int .i64 (rordN a)) := by
 refine fn_of (vs := [.agg #[va, .bool a.2]]) func64 rfl ntmps64 (Nat.le_of_ble_eq_true rfl) fun w hw => ?_
 apply wp_seq'
 refine wp_text rfl ?_
 refine run_box rfl rfl rfl rfl rfl rfl rfl fun b1 => ?_
 refine rm rfl ?_
 apply run_end
 apply wp_seq'
 refine wp_text rfl ?_
 refine rm rfl ?_
 apply run_end
 apply wp_seq'
 refine wp_text rfl ?_
 refine rs rfl (s_fa (off := 0) rfl rfl underlying37 rfl sizeOf35 rfl) ?_
 refine rs rfl (s_ld rfl rfl isAgg35 (.o_ rfl)) ?_
 refine run_call (vs := [_]) rfl rfl rfl rfl rfl rfl en142 (rcyc_fn a.1 va _ ha hp) ?_
 intro v8 h8 hv8 hh8
 have ha := ha.mono hh8
 obtain ⟨ls, hls, hle⟩ := hv8
 obtain ⟨hll, hlg⟩ := map_getD_len hle
 have hlm := hls.len
 have hL := (order_256 hp hn).2
 refine rm rfl ?_
 apply run_end
 apply wp_seq'
 apply wp_seq'
 refine wp_text rfl ?_
 refine rm rfl ?_
 apply run_end
 apply wp_block'
 refine wp_loop' (fun i : Nat => i ≤ ls.length) (fun i => ⟨[(5, .int .i64 i), (4, v8), (3, .int .i64 ((lcmL ((cycI a.1).take i) : Nat) : Int)), (1, .pointer (some ⟨b1, 0, none⟩))], h8, [.obj b1 (.cells #[va, .bool a.2] 37 (0, 0))]⟩) (fun i => ls.length - i) 0 (Nat.zero_le _) ⟨by repeat (first|exact True.intro|refine And.intro rfl ?_), rfl, by repeat (first|exact NS _|exact SR _|apply SCC|apply SC)⟩ fun i hi => ?_
 apply wp_seq'
 apply wp_seq'
 refine wp_text rfl ?_
 refine rm rfl ?_
 refine rm rfl ?_
 refine rs rfl (s_lenT hls rfl rfl underlying26) ?_
 refine rs rfl (s_lt rfl rfl rfl) ?_
 apply run_end
 refine wp_if' rfl (fun hc12 => ?_) (fun hc12 => ?_)
 ·skip
  apply wp_skip'
  apply wp_seq'
  apply wp_block'
  refine wp_any [0, 1, 2, 3, 4, 5, 6, 9, 10, 11, 12, 13, 7, 8, 14, 15] rfl (by kernel_rfl) ?_
  obtain ⟨hg0, hg1, hg2, hg3, hg4⟩ := rord_step (cycI_pos a.1) hL (i := i) (by omega) (hlg i (by omega))
  have hx1 := lcm_take (cycI_pos a.1) i
  have hx2 : (ls.getD i []).length ≤ 4294967296 := by obtain ⟨_, q, _⟩ := hls.get (j := i) (by omega); exact q.len
  refine rm rfl ?_
  refine rm rfl ?_
  refine rm rfl ?_
  refine rm rfl ?_
  refine rs rfl (s_iaT hls (by omega) (by omega) rfl rfl rfl underlying26 sizeOf35) ?_
  obtain ⟨sv20, hsv20, hat20⟩ := hls.get (j := i) (by omega)
  refine rs rfl (s_ldT hat20 (by omega) rfl rfl isAgg35) ?_
  refine rs rfl (s_lenI hsv20 rfl rfl underlying35) ?_
  refine rm rfl ?_
  refine rm rfl ?_
  refine rs rfl (s_iaT hls (by omega) (by omega) rfl rfl rfl underlying26 sizeOf35) ?_
  obtain ⟨sv27, hsv27, hat27⟩ := hls.get (j := i) (by omega)
  refine rs rfl (s_ldT hat27 (by omega) rfl rfl isAgg35) ?_
  refine rs rfl (s_lenI hsv27 rfl rfl underlying35) ?_
  refine run_callv (vs := [_, _]) rfl rfl rfl rfl rfl rfl en143 (rgcdM_fn _ _ _ (by omega) (by omega) (by omega) (by omega)) ?_
  refine rs rfl (s_quo rfl rfl rfl hg0 (IntWalk.i64_in _ (by omega))) ?_
  refine rs rfl (s_mul rfl rfl rfl (IntWalk.i64_in _ (by omega))) ?_
  refine rm rfl ?_
  apply run_end
  refine wp_text rfl ?_
  refine rm rfl ?_
  refine rs rfl (s_add rfl rfl rfl (IntWalk.i64_in _ (by omega))) ?_
  refine rm rfl ?_
  apply run_end
  rw [hg3]
  exact ⟨i + 1, by omega, by omega, ⟨by repeat (first|exact True.intro|refine And.intro rfl ?_), rfl, by repeat (first|exact NS _|exact SR _|apply SCC|apply SC)⟩⟩
 ·skip
  obtain rfl : i = ls.length := by omega
  rw [← hll, List.take_length]
  apply wp_exit'
  apply wp_seq'
  apply wp_seq'
  refine wp_text rfl ?_
  refine rs rfl (s_fa (off := 1) rfl rfl underlying37 rfl sizeOf4 rfl) ?_
  refine rs rfl (s_ld rfl rfl isAgg4 (.o_ rfl)) ?_
  refine rm rfl ?_
  refine run_cb (t := 32) rfl (fun hg32 => ?_) (fun hg32 => ?_)
  ·skip
   refine rsg rfl rfl (s_move rfl rfl) ?_
   refine rsg rfl rfl (s_rem rfl rfl rfl (by omega) rfl) ?_
   refine rsg rfl rfl (s_eq rfl rfl rfl) ?_
   refine rs rfl (s_pick rfl rfl (fun _ => rfl) (fun h => by cases h)) ?_
   apply run_end
   refine wp_if' rfl (fun hc36 => ?_) (fun hc36 => ?_)
   ·skip
    refine wp_text rfl ?_
    refine rm rfl ?_
    refine rs rfl (s_mul rfl rfl rfl (IntWalk.i64_in _ (by omega))) ?_
    refine rm rfl ?_
    apply run_end
    apply wp_seq'
    refine wp_text rfl ?_
    refine rm rfl ?_
    refine rm rfl ?_
    apply run_end
    apply wp_ret'
    exact fin_ret (res_tmp rfl rfl) (by rw [rord_odd hg32 hc36])
   ·skip
    apply wp_skip'
    apply wp_seq'
    refine wp_text rfl ?_
    refine rm rfl ?_
    refine rm rfl ?_
    apply run_end
    apply wp_ret'
    exact fin_ret (res_tmp rfl rfl) (by rw [rord_even hc36])
  ·skip
   refine run_skip rfl rfl rfl rfl rfl rfl rfl ?_
   refine run_skip rfl rfl rfl rfl rfl rfl rfl ?_
   refine run_skip rfl rfl rfl rfl rfl rfl rfl ?_
   refine rs rfl (s_pick rfl rfl (fun h => by cases h) (fun _ => rfl)) ?_
   apply run_end
   refine wp_cond' (b := false) rfl (fun h => by cases h) (fun _ => ?_)
   apply wp_skip'
   apply wp_seq'
   refine wp_text rfl ?_
   refine rm rfl ?_
   refine rm rfl ?_
   apply run_end
   apply wp_ret'
   exact fin_ret (res_tmp rfl rfl) (by rw [rord_plain hg32])
set_option maxRecDepth 8000 in
set_option maxHeartbeats 4000000 in
theorem law_symmetries (a b : Sy) (f : List Int) (va vb vf : Value) (h : H) (ha : RdI0 h va a.1) (hb : RdI0 h vb b.1) (hf : RdI0 h vf f) : FnV Tryz.prog 9 #[.agg #[va, .bool a.2], .agg #[vb, .bool b.2], vf] h (.bool true) := by
 refine fn_of (vs := [.agg #[va, .bool a.2], .agg #[vb, .bool b.2], vf]) func9 rfl ntmps9 (Nat.le_of_ble_eq_true rfl) fun w hw => ?_
 apply wp_seq'
 refine wp_text rfl ?_
 refine run_box rfl rfl rfl rfl rfl rfl rfl fun b1 => ?_
 refine run_box rfl rfl rfl rfl rfl rfl rfl fun b2 => ?_
 refine rm rfl ?_
 apply run_end
 apply wp_seq'
 apply wp_seq'
 refine wp_text rfl ?_
 refine run_callv (vs := []) rfl rfl rfl rfl rfl rfl en18 (awake_fn _) ?_
 refine rs rfl (s_not rfl rfl) ?_
 refine rm rfl ?_
 refine rsg rfl rfl (s_fa (off := 0) rfl rfl underlying37 rfl sizeOf35 rfl) ?_
 refine rsg rfl rfl (s_ld rfl rfl isAgg35 (.o_ rfl)) ?_
 refine run_callvg (vs := [_]) rfl rfl rfl rfl rfl rfl rfl rfl en51 (long0_fn _ _ _ ha) ?_
 refine rs rfl (s_pick rfl rfl (fun h => by cases h) (fun _ => rfl)) ?_
 refine rm rfl ?_
 refine run_cb (t := 24) rfl (fun hg24 => ?_) (fun hg24 => ?_)
 ·skip
  refine run_skip rfl rfl rfl rfl rfl rfl rfl ?_
  refine run_skip rfl rfl rfl rfl rfl rfl rfl ?_
  refine run_skip rfl rfl rfl rfl rfl rfl rfl ?_
  refine rs rfl (s_pick rfl rfl (fun _ => rfl) (fun h => by cases h)) ?_
  refine rm rfl ?_
  refine run_skip rfl rfl rfl rfl rfl rfl rfl ?_
  refine run_skip rfl rfl rfl rfl rfl rfl rfl ?_
  refine rs rfl (s_pick rfl rfl (fun _ => rfl) (fun h => by cases h)) ?_
  apply run_end
  refine wp_cond' (b := true) rfl (fun _ => ?_) (fun h => by cases h)
  apply wp_seq'
  refine wp_text rfl ?_
  refine run_callv (vs := []) rfl rfl rfl rfl rfl rfl en18 (awake_fn _) ?_
  refine rm rfl ?_
  apply run_end
  apply wp_ret'
  exact fin_ret (res_tmp rfl rfl) (rfl)
 ·skip
  refine rsg rfl rfl (s_fa (off := 0) rfl rfl underlying37 rfl sizeOf35 rfl) ?_
  refine rsg rfl rfl (s_ld rfl rfl isAgg35 (.o_ rfl)) ?_
  refine run_callvg (vs := [_]) rfl rfl rfl rfl rfl rfl rfl rfl en51 (long0_fn _ _ _ hb) ?_
  refine rs rfl (s_pick rfl rfl (fun h => by cases h) (fun _ => rfl)) ?_
  refine rm rfl ?_
  refine run_cb (t := 29) rfl (fun hg29 => ?_) (fun hg29 => ?_)
  ·skip
   refine run_skip rfl rfl rfl rfl rfl rfl rfl ?_
   refine run_skip rfl rfl rfl rfl rfl rfl rfl ?_
   refine rs rfl (s_pick rfl rfl (fun _ => rfl) (fun h => by cases h)) ?_
   apply run_end
   refine wp_cond' (b := true) rfl (fun _ => ?_) (fun h => by cases h)
   apply wp_seq'
   refine wp_text rfl ?_
   refine run_callv (vs := []) rfl rfl rfl rfl rfl rfl en18 (awake_fn _) ?_
   refine rm rfl ?_
   apply run_end
   apply wp_ret'
   exact fin_ret (res_tmp rfl rfl) (rfl)
  ·skip
   refine rsg rfl rfl (s_move rfl rfl) ?_
   refine run_callvg (vs := [_]) rfl rfl rfl rfl rfl rfl rfl rfl en51 (long0_fn _ _ _ hf) ?_
   refine rs rfl (s_pick rfl rfl (fun h => by cases h) (fun _ => rfl)) ?_
   apply run_end
   refine wp_cond' rfl (fun hc32 => ?_) (fun hc32 => ?_)
   ·skip
    apply wp_seq'
    refine wp_text rfl ?_
    refine run_callv (vs := []) rfl rfl rfl rfl rfl rfl en18 (awake_fn _) ?_
    refine rm rfl ?_
    apply run_end
    apply wp_ret'
    exact fin_ret (res_tmp rfl rfl) (rfl)
   ·skip
    have ha := ha.toI (long_260 hg24)
    have hb := hb.toI (long_260 hg29)
    have hf := hf.toI (long_260 hc32)
    apply wp_skip'
    apply wp_seq'
    refine wp_text rfl ?_
    refine rs rfl (s_ld2 rfl rfl isAgg37 sizeOf37 (.o_ rfl) (.o_ rfl)) ?_
    refine rm rfl ?_
    refine run_call (vs := [_, _]) rfl rfl rfl rfl rfl rfl en52 (apply_fn a f _ _ _ ha hf) ?_
    intro v37 h37 hv37 hh37
    have ha := ha.mono hh37
    have hb := hb.mono hh37
    have hf := hf.mono hh37
    obtain ⟨sv37, rfl, hsv37⟩ := hv37
    refine rm rfl ?_
    refine rs rfl (s_extract rfl rfl rfl) ?_
    refine rs rfl (s_extract rfl rfl rfl) ?_
    refine rm rfl ?_
    refine rm rfl ?_
    apply run_end
    apply wp_seq'
    refine wp_text rfl ?_
    refine rs rfl (s_ld2 rfl rfl isAgg37 sizeOf37 (.o_ rfl) (.o_ rfl)) ?_
    refine rs rfl (s_ld2 rfl rfl isAgg37 sizeOf37 (.o_ rfl) (.o_ rfl)) ?_
    refine run_call (vs := [_, _]) rfl rfl rfl rfl rfl rfl en53 (compose_fn a b _ _ _ ha hb) ?_
    intro v43 h43 hv43 hh43
    have ha := ha.mono hh43
    have hb := hb.mono hh43
    have hf := hf.mono hh43
    have hsv37 := hsv37.mono hh43
    obtain ⟨sv43, rfl, hsv43⟩ := hv43
    refine rm rfl ?_
    refine rs rfl (s_extract rfl rfl rfl) ?_
    refine rs rfl (s_extract rfl rfl rfl) ?_
    refine run_alloc rfl rfl rfl rfl rfl zeroValue37 rfl fun b3 => ?_
    refine run_st2 rfl rfl rfl rfl rfl rfl (by first | rfl | assumption | exact RdI.one (by assumption)) rfl sizeOf37 (by repeat first|exact Swap.here|apply Swap.there) rfl ?_
    refine rm rfl ?_
    apply run_end
    apply wp_seq'
    refine wp_text rfl ?_
    refine rs rfl (s_ld2 rfl rfl isAgg37 sizeOf37 (.o_ rfl) (.o_ rfl)) ?_
    refine run_call (vs := [_]) rfl rfl rfl rfl rfl rfl en54 (invert_fn a _ _ ha) ?_
    intro v48 h48 hv48 hh48
    have ha := ha.mono hh48
    have hb := hb.mono hh48
    have hf := hf.mono hh48
    have hsv37 := hsv37.mono hh48
    have hsv43 := hsv43.mono hh48
    obtain ⟨sv48, rfl, hsv48⟩ := hv48
    refine rm rfl ?_
    refine rs rfl (s_extract rfl rfl rfl) ?_
    refine rs rfl (s_extract rfl rfl rfl) ?_
    refine run_alloc rfl rfl rfl rfl rfl zeroValue37 rfl fun b4 => ?_
    refine run_st2 rfl rfl rfl rfl rfl rfl (by first | rfl | assumption | exact RdI.one (by assumption)) rfl sizeOf37 (by repeat first|exact Swap.here|apply Swap.there) rfl ?_
    refine rm rfl ?_
    apply run_end
    apply wp_seq'
    refine wp_text rfl ?_
    refine rs rfl (s_ld2 rfl rfl isAgg37 sizeOf37 (.o_ rfl) (.o_ rfl)) ?_
    refine run_callv (vs := [_]) rfl rfl rfl rfl rfl rfl en55 (order_fn a _ _ ha) ?_
    refine rm rfl ?_
    refine rs rfl (s_extract rfl rfl rfl) ?_
    refine rs rfl (s_extract rfl rfl rfl) ?_
    refine rm rfl ?_
    refine rm rfl ?_
    apply run_end
    apply wp_seq'
    apply wp_seq'
    refine wp_any [0, 1, 2, 4, 5, 6, 3, 7, 8] rfl (by kernel_rfl) ?_
    refine rs rfl (s_ld2 rfl rfl isAgg37 sizeOf37 (.o_ rfl) (.o_ rfl)) ?_
    refine rm rfl ?_
    refine rs rfl (s_lenI hf rfl rfl underlying35) ?_
    refine rs rfl (s_ld2 rfl rfl isAgg37 sizeOf37 (.o_ rfl) (.o_ rfl)) ?_
    refine rm rfl ?_
    refine rs rfl (s_lenI hf rfl rfl underlying35) ?_
    refine run_callv (vs := [_, _]) rfl rfl rfl rfl rfl rfl en56 (checkSym_fn _ _ _ _ _ ha) ?_
    refine run_callv (vs := [_, _]) rfl rfl rfl rfl rfl rfl en26 (rsym_fn _ _ _ _ _ ha) ?_
    refine rs rfl (s_lit (q := false) (s_ne rfl rfl rfl) (decide_eq_false (by rw [rsymI_symI]; simp))) ?_
    apply run_end
    refine wp_cond' (b := false) rfl (fun h => by cases h) (fun _ => ?_)
    apply wp_skip'
    apply wp_seq'
    refine wp_any [0, 2, 3, 4, 1, 5, 6, 7, 8] rfl (by kernel_rfl) ?_
    refine rm rfl ?_
    refine rs rfl (s_ld2 rfl rfl isAgg37 sizeOf37 (.o_ rfl) (.o_ rfl)) ?_
    refine rm rfl ?_
    refine rs rfl (s_lenI hf rfl rfl underlying35) ?_
    refine run_callv (vs := [_]) rfl rfl rfl rfl rfl rfl en57 (rfill_fn _ _ _ hf) ?_
    refine run_callv (vs := [_, _]) rfl rfl rfl rfl rfl rfl en26 (rsym_fn _ _ _ _ _ ha) ?_
    refine run_bsl (parts := [_, _]) (vs := [_, _]) rfl rfl rfl rfl rfl rfl (bs35_2 _ _) fun b5 h5 hh5 hb5 => ?_
    have hr5 := rdI_of (xs := [_, _]) hb5 rfl rfl (Nat.le_of_ble_eq_true rfl)
    have ha := ha.mono hh5
    have hb := hb.mono hh5
    have hf := hf.mono hh5
    have hsv37 := hsv37.mono hh5
    have hsv43 := hsv43.mono hh5
    have hsv48 := hsv48.mono hh5
    refine run_callv (vs := [_]) rfl rfl rfl rfl rfl rfl en41 (lfirst_fn _ _ _ hr5) ?_
    refine rm rfl ?_
    apply run_end
    apply wp_seq'
    refine wp_text rfl ?_
    refine rm rfl ?_
    apply run_end
    apply wp_seq'
    apply wp_seq'
    refine wp_text rfl ?_
    refine rm rfl ?_
    refine rs rfl (s_eq rfl rfl rfl) ?_
    apply run_end
    refine wp_if' rfl (fun hc74 => ?_) (fun hc74 => ?_)
    ·skip
     obtain ⟨hf1, hs1⟩ := sy_two hc74
     have hf0 : fillI f = 0 := by rw [← rfillI_fill]; exact hf1
     have hs0 : symI a.1 f.length = 0 := by rw [← rsymI_symI]; exact hs1
     have hpf : PermL f.length a.1 := by have h3 := symI_perm hs0; rw [show f.length = a.1.length by omega]; exact h3.1
     apply wp_seq'
     refine wp_text rfl ?_
     refine rs rfl (s_ld2 rfl rfl isAgg37 sizeOf37 (.o_ rfl) (.o_ rfl)) ?_
     refine rm rfl ?_
     refine run_call (vs := [_, _]) rfl rfl rfl rfl rfl rfl en58 (rapply_fn a.1 a.2 f _ _ _ ha hf hpf (fun j hj => fillI_get hf0 hj)) ?_
     intro v77 h77 hv77 hh77
     have ha := ha.mono hh77
     have hb := hb.mono hh77
     have hf := hf.mono hh77
     have hsv37 := hsv37.mono hh77
     have hsv43 := hsv43.mono hh77
     have hsv48 := hsv48.mono hh77
     have hr5 := hr5.mono hh77
     refine rm rfl ?_
     apply run_end
     refine wp_text rfl ?_
     refine rm rfl ?_
     refine run_callv (vs := [_]) rfl rfl rfl rfl rfl rfl en59 (range_fn _ _ _ hv77) ?_
     refine rm rfl ?_
     apply run_end
     have ht1 := sy_app (a := a) (f := f) hf0 hs0
     have hw16 := fun (_ : rangeI (imgI a.1 a.2 f) = 0) => hv77
     apply wp_seq'
     apply wp_seq'
     refine wp_text rfl ?_
     refine rm rfl ?_
     refine rm rfl ?_
     refine rm rfl ?_
     refine rm rfl ?_
     refine run_callv (vs := [_, _, _, _]) rfl rfl rfl rfl rfl rfl en60 (listG_yes _ _ _ _ _ _ _ hsv37 (by first | exact hw16 | exact fun _ => RdI.nil _ 0) ht1) ?_
     refine rs rfl (s_not rfl rfl) ?_
     apply run_end
     refine wp_cond' (b := false) rfl (fun h => by cases h) (fun _ => ?_)
     apply wp_skip'
     apply wp_seq'
     refine wp_text rfl ?_
     refine rs rfl (s_ld2 rfl rfl isAgg37 sizeOf37 (.o_ rfl) (.o_ rfl)) ?_
     refine run_callv (vs := [_]) rfl rfl rfl rfl rfl rfl en61 (alone_fn _ _ _ _ ha) ?_
     refine rm rfl ?_
     apply run_end
     apply wp_seq'
     apply wp_seq'
     refine wp_text rfl ?_
     refine rm rfl ?_
     refine rs rfl (s_ne rfl rfl rfl) ?_
     apply run_end
     refine wp_if' rfl (fun hc89 => ?_) (fun hc89 => ?_)
     ·skip
      obtain ⟨hb1, hb2, hb3, hb4⟩ := sy_alone_bad (a := a) b hc89
      apply wp_seq'
      refine wp_text rfl ?_
      refine rs rfl (s_ld2 rfl rfl isAgg37 sizeOf37 (.o_ rfl) (.o_ rfl)) ?_
      refine rm rfl ?_
      refine rm rfl ?_
      refine rs rfl (s_ld2 rfl rfl isAgg37 sizeOf37 (.o_ rfl) (.o_ rfl)) ?_
      refine run_callv (vs := [_, _, _, _]) rfl rfl rfl rfl rfl rfl en62 (symm_yes (composeO a b).1 _ _ (composeO a b).1 _ _ _ hsv43 (fun _ => hsv43) hsv43.one hb1) ?_
      refine rm rfl ?_
      refine rsg rfl rfl (s_ld2 rfl rfl isAgg37 sizeOf37 (.o_ rfl) (.o_ rfl)) ?_
      refine rsg rfl rfl (s_move rfl rfl) ?_
      refine rsg rfl rfl (s_move rfl rfl) ?_
      refine rsg rfl rfl (s_ld2 rfl rfl isAgg37 sizeOf37 (.o_ rfl) (.o_ rfl)) ?_
      refine run_callvg (vs := [_, _, _, _]) rfl rfl rfl rfl rfl rfl rfl rfl en62 (symm_yes (invertO a).1 _ _ (invertO a).1 _ _ _ hsv48 (fun _ => hsv48) hsv48.one hb2) ?_
      refine rs rfl (s_pick rfl rfl (fun _ => rfl) (fun h => by cases h)) ?_
      refine rm rfl ?_
      refine rsg rfl rfl (s_move rfl rfl) ?_
      refine rsg rfl rfl (s_lit (q := true) (s_eq rfl rfl rfl) (decide_eq_true hb3)) ?_
      refine rs rfl (s_pick rfl rfl (fun _ => rfl) (fun h => by cases h)) ?_
      refine rm rfl ?_
      refine rsg rfl rfl (s_move rfl rfl) ?_
      refine rsg rfl rfl (s_move rfl rfl) ?_
      refine rsg rfl rfl (s_lit (q := true) (s_eq rfl rfl rfl) (decide_eq_true hb4)) ?_
      refine rs rfl (s_pick rfl rfl (fun _ => rfl) (fun h => by cases h)) ?_
      refine rm rfl ?_
      apply run_end
      apply wp_ret'
      exact fin_ret (res_tmp rfl rfl) (rfl)
     ·skip
      have hal : rsymI a.1 a.1.length = 0 := Decidable.not_not.1 hc89
      obtain ⟨hpa, hla, hg1, hg2, hg3⟩ := sy_alone_ok (a := a) hal
      apply wp_skip'
      apply wp_seq'
      apply wp_seq'
      refine wp_any [0, 1, 2, 3, 4, 5, 6, 7, 8, 9, 10, 11, 12, 13, 14, 15] rfl (by kernel_rfl) ?_
      refine rs rfl (s_ld2 rfl rfl isAgg37 sizeOf37 (.o_ rfl) (.o_ rfl)) ?_
      refine rm rfl ?_
      refine rs rfl (s_ld2 rfl rfl isAgg37 sizeOf37 (.o_ rfl) (.o_ rfl)) ?_
      refine run_call (vs := [_]) rfl rfl rfl rfl rfl rfl en63 (rinvert_fn a _ _ ha hpa) ?_
      intro v114 h114 hv114 hh114
      have ha := ha.mono hh114
      have hb := hb.mono hh114
      have hf := hf.mono hh114
      have hsv37 := hsv37.mono hh114
      have hsv43 := hsv43.mono hh114
      have hsv48 := hsv48.mono hh114
      have hr5 := hr5.mono hh114
      have hv77 := hv77.mono hh114
      obtain ⟨sv114, rfl, hsv114⟩ := hv114
      refine run_callv (vs := [_, _, _, _]) rfl rfl rfl rfl rfl rfl en62 (symm_yes (invertO a).1 _ _ (invTo a.1 a.1.length, a.2) _ _ _ hsv48 (fun _ => hsv114) hsv114.one hg1) ?_
      refine rs rfl (s_not rfl rfl) ?_
      refine rm rfl ?_
      refine rsg rfl rfl (s_move rfl rfl) ?_
      refine rsg rfl rfl (s_lit (q := false) (s_ne rfl rfl rfl) (decide_eq_false (fun h => h hg3))) ?_
      refine rs rfl (s_pick rfl rfl (fun h => by cases h) (fun _ => rfl)) ?_
      refine rm rfl ?_
      refine rsg rfl rfl (s_move rfl rfl) ?_
      refine rsg rfl rfl (s_ld2 rfl rfl isAgg37 sizeOf37 (.o_ rfl) (.o_ rfl)) ?_
      refine run_callvg (vs := [_]) rfl rfl rfl rfl rfl rfl rfl rfl en64 (rorder_fn a _ _ ha hpa hla) ?_
      refine rsg rfl rfl (s_lit (q := false) (s_ne rfl rfl rfl) (decide_eq_false (fun h => h hg2))) ?_
      refine rs rfl (s_pick rfl rfl (fun h => by cases h) (fun _ => rfl)) ?_
      apply run_end
      refine wp_cond' (b := false) rfl (fun h => by cases h) (fun _ => ?_)
      apply wp_skip'
      apply wp_seq'
      apply wp_seq'
      refine wp_text rfl ?_
      refine rs rfl (s_ld2 rfl rfl isAgg37 sizeOf37 (.o_ rfl) (.o_ rfl)) ?_
      refine rs rfl (s_fa (off := 0) rfl rfl underlying37 rfl sizeOf35 rfl) ?_
      refine rs rfl (s_ld rfl rfl isAgg35 (.o_ rfl)) ?_
      refine rs rfl (s_lenI ha rfl rfl underlying35) ?_
      refine run_callv (vs := [_, _]) rfl rfl rfl rfl rfl rfl en26 (rsym_fn _ _ _ _ _ hb) ?_
      refine rm rfl ?_
      apply run_end
      apply wp_seq'
      refine wp_text rfl ?_
      refine rm rfl ?_
      refine rs rfl (s_ne rfl rfl rfl) ?_
      apply run_end
      refine wp_if' rfl (fun hc133 => ?_) (fun hc133 => ?_)
      ·skip
       have hb5 := sy_pair_bad (a := a) (b := b) hal hc133
       apply wp_seq'
       refine wp_text rfl ?_
       refine rs rfl (s_ld2 rfl rfl isAgg37 sizeOf37 (.o_ rfl) (.o_ rfl)) ?_
       refine rm rfl ?_
       refine rm rfl ?_
       refine rs rfl (s_ld2 rfl rfl isAgg37 sizeOf37 (.o_ rfl) (.o_ rfl)) ?_
       refine run_callv (vs := [_, _, _, _]) rfl rfl rfl rfl rfl rfl en62 (symm_yes (composeO a b).1 _ _ (composeO a b).1 _ _ _ hsv43 (fun _ => hsv43) hsv43.one hb5) ?_
       refine rm rfl ?_
       apply run_end
       apply wp_ret'
       exact fin_ret (res_tmp rfl rfl) (rfl)
      ·skip
       obtain ⟨hg4, hob⟩ := sy_pair_ok (a := a) (b := b) hal (Decidable.not_not.1 hc133)
       apply wp_skip'
       apply wp_seq'
       refine wp_any [0, 1, 2, 3, 4, 5, 6] rfl (by kernel_rfl) ?_
       refine rs rfl (s_ld2 rfl rfl isAgg37 sizeOf37 (.o_ rfl) (.o_ rfl)) ?_
       refine rm rfl ?_
       refine rs rfl (s_ld2 rfl rfl isAgg37 sizeOf37 (.o_ rfl) (.o_ rfl)) ?_
       refine rs rfl (s_ld2 rfl rfl isAgg37 sizeOf37 (.o_ rfl) (.o_ rfl)) ?_
       refine run_call (vs := [_, _]) rfl rfl rfl rfl rfl rfl en65 (rcompose_fn a b _ _ _ ha hb (fun j hj => hob.getD_range (i := j) (by rw [← hob.1]; exact hj))) ?_
       intro v143 h143 hv143 hh143
       have ha := ha.mono hh143
       have hb := hb.mono hh143
       have hf := hf.mono hh143
       have hsv37 := hsv37.mono hh143
       have hsv43 := hsv43.mono hh143
       have hsv48 := hsv48.mono hh143
       have hr5 := hr5.mono hh143
       have hv77 := hv77.mono hh143
       have hsv114 := hsv114.mono hh143
       obtain ⟨sv143, rfl, hsv143⟩ := hv143
       refine run_callv (vs := [_, _, _, _]) rfl rfl rfl rfl rfl rfl en62 (symm_yes (composeO a b).1 _ _ (comp a b) _ _ _ hsv43 (fun _ => hsv143) hsv143.one hg4) ?_
       refine rm rfl ?_
       apply run_end
       apply wp_ret'
       exact fin_ret (res_tmp rfl rfl) (rfl)
    ·skip
     have ht1 := sy_bad (a := a) (f := f) hc74
     apply wp_skip'
     apply wp_seq'
     apply wp_seq'
     refine wp_text rfl ?_
     refine rm rfl ?_
     refine rm rfl ?_
     refine rm rfl ?_
     refine rm rfl ?_
     refine run_callv (vs := [_, _, _, _]) rfl rfl rfl rfl rfl rfl en60 (listG_yes _ _ _ _ _ _ _ hsv37 (by first | exact hw16 | exact fun _ => RdI.nil _ 0) ht1) ?_
     refine rs rfl (s_not rfl rfl) ?_
     apply run_end
     refine wp_cond' (b := false) rfl (fun h => by cases h) (fun _ => ?_)
     apply wp_skip'
     apply wp_seq'
     refine wp_text rfl ?_
     refine rs rfl (s_ld2 rfl rfl isAgg37 sizeOf37 (.o_ rfl) (.o_ rfl)) ?_
     refine run_callv (vs := [_]) rfl rfl rfl rfl rfl rfl en61 (alone_fn _ _ _ _ ha) ?_
     refine rm rfl ?_
     apply run_end
     apply wp_seq'
     apply wp_seq'
     refine wp_text rfl ?_
     refine rm rfl ?_
     refine rs rfl (s_ne rfl rfl rfl) ?_
     apply run_end
     refine wp_if' rfl (fun hc89 => ?_) (fun hc89 => ?_)
     ·skip
      obtain ⟨hb1, hb2, hb3, hb4⟩ := sy_alone_bad (a := a) b hc89
      apply wp_seq'
      refine wp_text rfl ?_
      refine rs rfl (s_ld2 rfl rfl isAgg37 sizeOf37 (.o_ rfl) (.o_ rfl)) ?_
      refine rm rfl ?_
      refine rm rfl ?_
      refine rs rfl (s_ld2 rfl rfl isAgg37 sizeOf37 (.o_ rfl) (.o_ rfl)) ?_
      refine run_callv (vs := [_, _, _, _]) rfl rfl rfl rfl rfl rfl en62 (symm_yes (composeO a b).1 _ _ (composeO a b).1 _ _ _ hsv43 (fun _ => hsv43) hsv43.one hb1) ?_
      refine rm rfl ?_
      refine rsg rfl rfl (s_ld2 rfl rfl isAgg37 sizeOf37 (.o_ rfl) (.o_ rfl)) ?_
      refine rsg rfl rfl (s_move rfl rfl) ?_
      refine rsg rfl rfl (s_move rfl rfl) ?_
      refine rsg rfl rfl (s_ld2 rfl rfl isAgg37 sizeOf37 (.o_ rfl) (.o_ rfl)) ?_
      refine run_callvg (vs := [_, _, _, _]) rfl rfl rfl rfl rfl rfl rfl rfl en62 (symm_yes (invertO a).1 _ _ (invertO a).1 _ _ _ hsv48 (fun _ => hsv48) hsv48.one hb2) ?_
      refine rs rfl (s_pick rfl rfl (fun _ => rfl) (fun h => by cases h)) ?_
      refine rm rfl ?_
      refine rsg rfl rfl (s_move rfl rfl) ?_
      refine rsg rfl rfl (s_lit (q := true) (s_eq rfl rfl rfl) (decide_eq_true hb3)) ?_
      refine rs rfl (s_pick rfl rfl (fun _ => rfl) (fun h => by cases h)) ?_
      refine rm rfl ?_
      refine rsg rfl rfl (s_move rfl rfl) ?_
      refine rsg rfl rfl (s_move rfl rfl) ?_
      refine rsg rfl rfl (s_lit (q := true) (s_eq rfl rfl rfl) (decide_eq_true hb4)) ?_
      refine rs rfl (s_pick rfl rfl (fun _ => rfl) (fun h => by cases h)) ?_
      refine rm rfl ?_
      apply run_end
      apply wp_ret'
      exact fin_ret (res_tmp rfl rfl) (rfl)
     ·skip
      have hal : rsymI a.1 a.1.length = 0 := Decidable.not_not.1 hc89
      obtain ⟨hpa, hla, hg1, hg2, hg3⟩ := sy_alone_ok (a := a) hal
      apply wp_skip'
      apply wp_seq'
      apply wp_seq'
      refine wp_any [0, 1, 2, 3, 4, 5, 6, 7, 8, 9, 10, 11, 12, 13, 14, 15] rfl (by kernel_rfl) ?_
      refine rs rfl (s_ld2 rfl rfl isAgg37 sizeOf37 (.o_ rfl) (.o_ rfl)) ?_
      refine rm rfl ?_
      refine rs rfl (s_ld2 rfl rfl isAgg37 sizeOf37 (.o_ rfl) (.o_ rfl)) ?_
      refine run_call (vs := [_]) rfl rfl rfl rfl rfl rfl en63 (rinvert_fn a _ _ ha hpa) ?_
      intro v114 h114 hv114 hh114
      have ha := ha.mono hh114
      have hb := hb.mono hh114
      have hf := hf.mono hh114
      have hsv37 := hsv37.mono hh114
      have hsv43 := hsv43.mono hh114
      have hsv48 := hsv48.mono hh114
      have hr5 := hr5.mono hh114
      obtain ⟨sv114, rfl, hsv114⟩ := hv114
      refine run_callv (vs := [_, _, _, _]) rfl rfl rfl rfl rfl rfl en62 (symm_yes (invertO a).1 _ _ (invTo a.1 a.1.length, a.2) _ _ _ hsv48 (fun _ => hsv114) hsv114.one hg1) ?_
      refine rs rfl (s_not rfl rfl) ?_
      refine rm rfl ?_
      refine rsg rfl rfl (s_move rfl rfl) ?_
      refine rsg rfl rfl (s_lit (q := false) (s_ne rfl rfl rfl) (decide_eq_false (fun h => h hg3))) ?_
      refine rs rfl (s_pick rfl rfl (fun h => by cases h) (fun _ => rfl)) ?_
      refine rm rfl ?_
      refine rsg rfl rfl (s_move rfl rfl) ?_
      refine rsg rfl rfl (s_ld2 rfl rfl isAgg37 sizeOf37 (.o_ rfl) (.o_ rfl)) ?_
      refine run_callvg (vs := [_]) rfl rfl rfl rfl rfl rfl rfl rfl en64 (rorder_fn a _ _ ha hpa hla) ?_
      refine rsg rfl rfl (s_lit (q := false) (s_ne rfl rfl rfl) (decide_eq_false (fun h => h hg2))) ?_
      refine rs rfl (s_pick rfl rfl (fun h => by cases h) (fun _ => rfl)) ?_
      apply run_end
      refine wp_cond' (b := false) rfl (fun h => by cases h) (fun _ => ?_)
      apply wp_skip'
      apply wp_seq'
      apply wp_seq'
      refine wp_text rfl ?_
      refine rs rfl (s_ld2 rfl rfl isAgg37 sizeOf37 (.o_ rfl) (.o_ rfl)) ?_
      refine rs rfl (s_fa (off := 0) rfl rfl underlying37 rfl sizeOf35 rfl) ?_
      refine rs rfl (s_ld rfl rfl isAgg35 (.o_ rfl)) ?_
      refine rs rfl (s_lenI ha rfl rfl underlying35) ?_
      refine run_callv (vs := [_, _]) rfl rfl rfl rfl rfl rfl en26 (rsym_fn _ _ _ _ _ hb) ?_
      refine rm rfl ?_
      apply run_end
      apply wp_seq'
      refine wp_text rfl ?_
      refine rm rfl ?_
      refine rs rfl (s_ne rfl rfl rfl) ?_
      apply run_end
      refine wp_if' rfl (fun hc133 => ?_) (fun hc133 => ?_)
      ·skip
       have hb5 := sy_pair_bad (a := a) (b := b) hal hc133
       apply wp_seq'
       refine wp_text rfl ?_
       refine rs rfl (s_ld2 rfl rfl isAgg37 sizeOf37 (.o_ rfl) (.o_ rfl)) ?_
       refine rm rfl ?_
       refine rm rfl ?_
       refine rs rfl (s_ld2 rfl rfl isAgg37 sizeOf37 (.o_ rfl) (.o_ rfl)) ?_
       refine run_callv (vs := [_, _, _, _]) rfl rfl rfl rfl rfl rfl en62 (symm_yes (composeO a b).1 _ _ (composeO a b).1 _ _ _ hsv43 (fun _ => hsv43) hsv43.one hb5) ?_
       refine rm rfl ?_
       apply run_end
       apply wp_ret'
       exact fin_ret (res_tmp rfl rfl) (rfl)
      ·skip
       obtain ⟨hg4, hob⟩ := sy_pair_ok (a := a) (b := b) hal (Decidable.not_not.1 hc133)
       apply wp_skip'
       apply wp_seq'
       refine wp_any [0, 1, 2, 3, 4, 5, 6] rfl (by kernel_rfl) ?_
       refine rs rfl (s_ld2 rfl rfl isAgg37 sizeOf37 (.o_ rfl) (.o_ rfl)) ?_
       refine rm rfl ?_
       refine rs rfl (s_ld2 rfl rfl isAgg37 sizeOf37 (.o_ rfl) (.o_ rfl)) ?_
       refine rs rfl (s_ld2 rfl rfl isAgg37 sizeOf37 (.o_ rfl) (.o_ rfl)) ?_
       refine run_call (vs := [_, _]) rfl rfl rfl rfl rfl rfl en65 (rcompose_fn a b _ _ _ ha hb (fun j hj => hob.getD_range (i := j) (by rw [← hob.1]; exact hj))) ?_
       intro v143 h143 hv143 hh143
       have ha := ha.mono hh143
       have hb := hb.mono hh143
       have hf := hf.mono hh143
       have hsv37 := hsv37.mono hh143
       have hsv43 := hsv43.mono hh143
       have hsv48 := hsv48.mono hh143
       have hr5 := hr5.mono hh143
       have hsv114 := hsv114.mono hh143
       obtain ⟨sv143, rfl, hsv143⟩ := hv143
       refine run_callv (vs := [_, _, _, _]) rfl rfl rfl rfl rfl rfl en62 (symm_yes (composeO a b).1 _ _ (comp a b) _ _ _ hsv43 (fun _ => hsv143) hsv143.one hg4) ?_
       refine rm rfl ?_
       apply run_end
       apply wp_ret'
       exact fin_ret (res_tmp rfl rfl) (rfl)
end Go.Tal

/-
 A symmetry that is an argument: its reading.
-/
namespace Go.Tal
open Go.RowKit
section
variable {H' : Type} {enc : TypeId × Value → H'} {P : Program} {W : World} {base : Nat} {sp : Nat → Bool} {held : Bool} {fuel : Nat} {t e : TypeId} {v : Value} {x : DataW H' × List MemPlace}
theorem rdSy0_trod {f0 f1 : Field} {e' : TypeId} {r : Reach} {W' : World} {b0 : Nat} (he : P.underlying t = some (.struct #[f0, f1])) (hc : P.cellsOf t = 2) (ho0 : f0.offset = 0) (ho1 : f1.offset = 1) (hc0 : P.cellsOf f0.type = 1) (hc1 : P.cellsOf f1.type = 1)
 (h0 : P.underlying f0.type = some (.slice e')) (h1 : P.underlying f1.type = some .bool) (hi : P.underlying e' = some (.int .i64)) (hci : P.cellsOf e' = 1) (hv : Value.okWide P W' r b0 t v) (h : DataW.trod enc P W base sp held fuel t v.cells.toList = some x) : ∃ a : Sy, ∃ sv, v = .agg #[sv, .bool a.2] ∧ RdI0 (memH W) sv a.1 := by
 unfold Value.okWide at hv
 rw [he] at hv
 obtain ⟨cs, rfl, hcs, _⟩ := hv
 rw [hc] at hcs
 obtain ⟨xs, m, _, _, _, hxs, hf⟩ := DataW.trod_struct he h
 obtain ⟨c0, c1, rfl⟩ : ∃ c0 c1, cs = #[c0, c1] := by
  obtain ⟨l⟩ := cs
  match l, hcs with
  | [c0, c1], _ => exact ⟨c0, c1, rfl⟩
 have k0 := hf 0 f0 rfl
 have k1 := hf 1 f1 rfl
 simp only [List.size_toArray, List.length_cons, List.length_nil] at hxs
 rw [ho0, hc0, List.getElem?_eq_getElem (by omega)] at k0
 rw [ho1, hc1, List.getElem?_eq_getElem (by omega)] at k1
 obtain ⟨zs, hz⟩ := rdI0_trod h0 hi hci (v := c0) k0
 obtain ⟨bm, hb, _⟩ := DataW.trod_bool h1 k1
 have hb' : c1 = .bool bm := by simpa using List.cons.inj hb |>.1
 subst hb'
 exact ⟨(zs, bm), c0, rfl, hz⟩
end
end Go.Tal
