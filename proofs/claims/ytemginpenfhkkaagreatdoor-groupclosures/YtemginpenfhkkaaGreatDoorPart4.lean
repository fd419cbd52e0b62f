/-
  Part 4: symbolic states for walks, contracts of functions, plain laws; no condition.
-/
import Derived.Test.YtemginpenfhkkaaGreatDoorPart3
import Derived.Test.YtemginpenfhkkaaGreatDoorPart0
import Derived.ProofKit
/-
 Plain: images of fillings under symmetries; orders of symmetries of few cells.
-/
namespace Go.Tal
open Go.RowKit Go.Proofs _root_.Tal
theorem getD_set_same {α : Type} {l : List α} {i : Nat} {v d : α} (h : i < l.length) : (l.set i v).getD i d = v := by
 rw [List.getD_eq_getElem?_getD, List.getElem?_set_self h]; rfl
theorem getD_set_other {α : Type} {l : List α} {i j : Nat} {v d : α} (h : i ≠ j) : (l.set i v).getD j d = l.getD j d := by
 rw [List.getD_eq_getElem?_getD, List.getElem?_set_ne h, ← List.getD_eq_getElem?_getD]
def cmpl (cm : Bool) (n : Nat) (x : Int) : Int := if cm then (n : Int) + 1 - x else x
theorem perm_inj {n : Nat} {a : List Int} (hp : PermL n a) {i j : Nat} (hi : i < n) (hj : j < n) (h : (a.getD i 0).toNat = (a.getD j 0).toNat) : i = j := by
 have h1 := hp.getD_range hi
 have h2 := hp.getD_range hj
 exact nodup_getD_inj hp.2.1 (by rw [hp.1]; exact hi) (by rw [hp.1]; exact hj) (by omega)
theorem perm_onto {n : Nat} {a : List Int} (hp : PermL n a) {j : Nat} (hj : j < n) : ∃ i, i < n ∧ (a.getD i 0).toNat = j := by
 have hm := hp.onto (c := (j : Int)) (by omega) (by omega)
 obtain ⟨i, hi, e⟩ := List.getElem_of_mem hm
 refine ⟨i, by rw [← hp.1]; exact hi, ?_⟩
 rw [List.getD_eq_getElem?_getD, List.getElem?_eq_getElem hi, Option.getD_some, e, Int.toNat_natCast]
theorem imgTo_get {a f : List Int} {cm : Bool} (hp : PermL f.length a) : ∀ k, k ≤ f.length → ∀ i, i < k → (imgTo a cm f k).getD (a.getD i 0).toNat 0 = cmpl cm f.length (f.getD i 0)
 | 0, _, i, h => by omega
 | k + 1, hk, i, hi => by
  have rk := hp.getD_range (i := k) (by omega)
  rw [imgTo_succ, imgStep]
  by_cases e : i = k
  ·subst e
   rw [getD_set_same (by rw [imgTo_len]; omega)]
   rfl
  ·rw [getD_set_other (fun h => e (perm_inj hp (by omega) (by omega) h).symm)]
   exact imgTo_get hp k (by omega) i (by omega)
theorem imgI_len (a : List Int) (cm : Bool) (f : List Int) : (imgI a cm f).length = f.length := imgTo_len _ _ _ _
theorem imgI_get {a f : List Int} {cm : Bool} (hp : PermL f.length a) {i : Nat} (hi : i < f.length) : (imgI a cm f).getD (a.getD i 0).toNat 0 = cmpl cm f.length (f.getD i 0) := imgTo_get hp f.length (Nat.le_refl _) i hi
/-- Lists that agree wherever a permutation leads are the same. -/
theorem ext_perm {n : Nat} {a xs ys : List Int} (hp : PermL n a) (hx : xs.length = n) (hy : ys.length = n) (h : ∀ i, i < n → xs.getD (a.getD i 0).toNat 0 = ys.getD (a.getD i 0).toNat 0) : xs = ys :=
 ext_getD hx hy fun j hj => by
  obtain ⟨i, hi, rfl⟩ := perm_onto hp hj
  exact h i hi
theorem cmpl_cmpl (b c : Bool) (n : Nat) (x : Int) : cmpl b n (cmpl c n x) = cmpl (b != c) n x := by
 cases b <;> cases c <;> simp only [cmpl, if_true, if_false, Bool.false_eq_true, bne_self_eq_false, Bool.true_bne, Bool.false_bne, Bool.not_false] <;> omega
/-- The image under a composition is the image of the image. -/
theorem imgI_comp {a b : Sy} {f : List Int} (ha : Ok f.length a) (hb : Ok f.length b) : imgI (comp a b).1 (comp a b).2 f = imgI a.1 a.2 (imgI b.1 b.2 f) := by
 have hab := ha.comp hb
 refine ext_perm hab (imgI_len _ _ _) (by rw [imgI_len, imgI_len]) fun i hi => ?_
 rw [imgI_get hab hi, comp_getD hb hi]
 have hr := hb.getD_range hi
 rw [imgI_get (f := imgI b.1 b.2 f) (by rw [imgI_len]; exact ha) (by rw [imgI_len]; omega), imgI_get hb hi, imgI_len, cmpl_cmpl]
 rfl
theorem imgI_ident {f : List Int} : imgI (ident f.length).1 false f = f := by
 refine ext_perm (Ok.ident f.length) (imgI_len _ _ _) rfl fun i hi => ?_
 rw [imgI_get (Ok.ident f.length) hi, ident_getD hi]
 rfl
theorem imgI_inv {a : Sy} {f : List Int} (ha : Ok f.length a) : imgI (inv a).1 (inv a).2 (imgI a.1 a.2 f) = f := by
 have := imgI_comp (f := f) ha.inv ha
 rw [inv_comp ha] at this
 rw [← this]
 exact imgI_ident
/-! ### going round -/
/-- Where a cell goes. -/
def goTo (a : List Int) (i : Nat) : Nat := (a.getD i 0).toNat
def goK (a : List Int) : Nat → Nat → Nat
 | 0, i => i
 | k + 1, i => goK a k (goTo a i)
theorem goK_succ (a : List Int) : ∀ (k i : Nat), goK a (k + 1) i = goTo a (goK a k i)
 | 0, _ => rfl
 | k + 1, i => by rw [goK, goK_succ a k (goTo a i)]; rfl
theorem goK_add (a : List Int) : ∀ (k m i : Nat), goK a (k + m) i = goK a k (goK a m i)
 | 0, m, i => by rw [Nat.zero_add]; rfl
 | k + 1, m, i => by rw [show k + 1 + m = (k + m) + 1 by omega, goK_succ, goK_add a k m i, goK_succ]
theorem goTo_lt {n : Nat} {a : List Int} (hp : PermL n a) {i : Nat} (hi : i < n) : goTo a i < n := by
 have := hp.getD_range hi
 unfold goTo
 omega
theorem goK_lt {n : Nat} {a : List Int} (hp : PermL n a) : ∀ (k : Nat) {i : Nat}, i < n → goK a k i < n
 | 0, _, hi => hi
 | k + 1, _, hi => goK_lt hp k (goTo_lt hp hi)
theorem goK_inj {n : Nat} {a : List Int} (hp : PermL n a) : ∀ (k : Nat) {i j : Nat}, i < n → j < n → goK a k i = goK a k j → i = j
 | 0, _, _, _, _, h => h
 | k + 1, _, _, hi, hj, h => perm_inj hp hi hj (goK_inj hp k (goTo_lt hp hi) (goTo_lt hp hj) h)
/-- A walk from c: it marks t cells, one behind the other, none of them marked before. -/
theorem cycWalk_spec {n : Nat} {a : List Int} (hp : PermL n a) : ∀ (k : Nat) (sn : List Bool) (c m : Nat), sn.length = n → c < n →
 ∃ t, t ≤ k ∧ (cycWalk a k sn c m).2 = m + t ∧ (∀ j, j < n → ((cycWalk a k sn c m).1.getD j false = true ↔ sn.getD j false = true ∨ ∃ s, s < t ∧ goK a s c = j)) ∧
  (∀ s, s < t → sn.getD (goK a s c) false = false) ∧ (∀ s s', s < s' → s' < t → goK a s c ≠ goK a s' c) ∧
  (t < k → sn.getD (goK a t c) false = true ∨ ∃ s, s < t ∧ goK a s c = goK a t c) ∧ cntF (cycWalk a k sn c m).1 + t = cntF sn
 | 0, sn, c, m, _, _ => ⟨0, Nat.le_refl _, rfl, fun j _ => ⟨.inl, fun h => by rcases h with h | ⟨s, hs, _⟩; exact h; omega⟩, fun _ h => by omega, fun _ _ _ h => by omega, fun h => by omega, rfl⟩
 | k + 1, sn, c, m, hs, hc => by
  rw [cycWalk, Int.toNat_natCast]
  by_cases hsc : sn.getD c false = true
  ·rw [if_pos hsc]
   exact ⟨0, Nat.zero_le _, rfl, fun j _ => ⟨.inl, fun h => by rcases h with h | ⟨s, hs, _⟩; exact h; omega⟩, fun _ h => by omega, fun _ _ _ h => by omega, fun _ => .inl hsc, rfl⟩
  ·rw [if_neg hsc]
   have hsf : sn.getD c false = false := by simpa using hsc
   have hr := hp.getD_range hc
   have e : a.getD c 0 = ((goTo a c : Nat) : Int) := by unfold goTo; omega
   rw [e]
   obtain ⟨t, h1, h2, h3, h4, h5, h6, h7⟩ := cycWalk_spec hp k (sn.set c true) (goTo a c) (m + 1) (by rw [List.length_set]; exact hs) (goTo_lt hp hc)
   have hset : ∀ j, j < n → ((sn.set c true).getD j false = true ↔ sn.getD j false = true ∨ c = j) := fun j hj => by
    by_cases e : c = j
    ·subst e
     rw [getD_set_same (by omega)]
     simp
    ·rw [getD_set_other e]
     simp [e]
   refine ⟨t + 1, by omega, by rw [h2]; omega, fun j hj => ?_, fun s hst => ?_, fun s s' h8 h9 => ?_, fun ht => ?_, ?_⟩
   ·rw [h3 j hj, hset j hj]
    constructor
    ·rintro ((h | h) | ⟨s, hs, h⟩)
     ·exact .inl h
     ·exact .inr ⟨0, by omega, h⟩
     ·exact .inr ⟨s + 1, by omega, h⟩
    ·rintro (h | ⟨s, hs, h⟩)
     ·exact .inl (.inl h)
     ·cases s with
      | zero => exact .inl (.inr h)
      | succ s => exact .inr ⟨s, by omega, h⟩
   ·cases s with
    | zero => exact hsf
    | succ s =>
     have h8 := h4 s (by omega)
     have h9 := hset (goK a s (goTo a c)) (goK_lt hp s (goTo_lt hp hc))
     rw [h8] at h9
     cases h10 : sn.getD (goK a (s + 1) c) false with
     | false => rfl
     | true => exact absurd (h9.2 (.inl h10)) (by simp)
   ·cases s with
    | zero =>
     cases s' with
     | zero => omega
     | succ s' =>
      intro e1
      have h10 := h4 s' (by omega)
      have h11 := (hset (goK a s' (goTo a c)) (goK_lt hp s' (goTo_lt hp hc))).2 (.inr e1)
      rw [h10] at h11
      cases h11
    | succ s =>
     cases s' with
     | zero => omega
     | succ s' => exact h5 s s' (by omega) (by omega)
   ·rcases h6 (by omega) with h | ⟨s, hs, h⟩
    ·rcases (hset _ (goK_lt hp t (goTo_lt hp hc))).1 h with h | h
     ·exact .inl h
     ·exact .inr ⟨0, by omega, h⟩
    ·exact .inr ⟨s + 1, by omega, h⟩
   ·have := cntF_set (sn := sn) (c := c) (by omega) hsf
    omega
/-- What is marked is whole cycles. -/
def ShutB (a : List Int) (n : Nat) (sn : List Bool) : Prop := ∀ j, j < n → sn.getD (goTo a j) false = sn.getD j false
theorem ShutB.k {n : Nat} {a : List Int} (hp : PermL n a) {sn : List Bool} (h : ShutB a n sn) : ∀ (k : Nat) {j : Nat}, j < n → sn.getD (goK a k j) false = sn.getD j false
 | 0, _, _ => rfl
 | k + 1, j, hj => by rw [goK, h.k hp k (goTo_lt hp hj), h j hj]
/-- A walk from a cell that is not marked goes its cycle round once. -/
theorem cycWalk_new {n : Nat} {a : List Int} (hp : PermL n a) {sn : List Bool} {c : Nat} (hs : sn.length = n) (hc : c < n) (hsh : ShutB a n sn) (h0 : sn.getD c false = false) :
 ∃ t, 0 < t ∧ (cycWalk a n sn c 0).2 = t ∧ goK a t c = c ∧ (∀ s, 0 < s → s < t → goK a s c ≠ c) ∧ (∀ j, j < n → ((cycWalk a n sn c 0).1.getD j false = true ↔ sn.getD j false = true ∨ ∃ s, s < t ∧ goK a s c = j)) ∧ cntF (cycWalk a n sn c 0).1 + t = cntF sn := by
 obtain ⟨t, h1, h2, h3, h4, h5, h6, h7⟩ := cycWalk_spec hp n sn c 0 hs hc
 have back : ∀ s, s < t → goK a s c = goK a t c → s = 0 := fun s hst e => by
  refine Classical.byContradiction fun hne => ?_
  have e2 : goK a s (goK a (t - s) c) = goK a s c := by rw [← goK_add, show s + (t - s) = t by omega, e]
  have e3 := goK_inj hp s (goK_lt hp _ hc) hc e2
  exact h5 0 (t - s) (by omega) (by omega) e3.symm
 have ht0 : 0 < t := by
  refine Nat.pos_of_ne_zero fun e => ?_
  subst e
  rcases h6 (by omega) with h | ⟨s, hs, _⟩
  ·rw [show goK a 0 c = c from rfl, h0] at h; cases h
  ·omega
 have hback : goK a t c = c := by
  rcases Nat.lt_or_ge t n with ht | ht
  ·rcases h6 ht with h | ⟨s, hst, e⟩
   ·rw [hsh.k hp t hc, h0] at h; cases h
   ·have := back s hst e
    subst this
    exact e.symm
  ·-- all cells are met
   have hnd : ((List.range t).map fun s => goK a s c).Nodup := by
    rw [List.nodup_iff_pairwise_ne, List.pairwise_map]
    refine List.pairwise_lt_range.imp_of_mem fun {x y} hx hy hxy => h5 x y hxy (List.mem_range.1 hy)
   have hm := nodup_sub_eq (xs := (List.range t).map fun s => goK a s c) (ys := List.range n) hnd (fun x hx => by
    obtain ⟨s, _, rfl⟩ := List.mem_map.1 hx
    exact List.mem_range.2 (goK_lt hp s hc)) (by simp; omega) (goK a t c) (List.mem_range.2 (goK_lt hp t hc))
   obtain ⟨s, hs1, e⟩ := List.mem_map.1 hm
   have := back s (List.mem_range.1 hs1) e
   subst this
   exact e.symm
 exact ⟨t, ht0, by rw [h2]; omega, hback, fun s hs0 hst e => h5 0 s hs0 hst e.symm, h3, h7⟩
theorem goK_mul {a : List Int} {t c : Nat} (h : goK a t c = c) : ∀ q, goK a (q * t) c = c
 | 0 => by rw [Nat.zero_mul]; rfl
 | q + 1 => by rw [Nat.succ_mul, goK_add, h, goK_mul h q]
theorem goK_period {n : Nat} {a : List Int} (hp : PermL n a) {t c : Nat} (hc : c < n) (ht : 0 < t) (h : goK a t c = c) (hm : ∀ s, 0 < s → s < t → goK a s c ≠ c) (e s : Nat) : goK a e (goK a s c) = goK a s c ↔ t ∣ e := by
 have hcomm : goK a e (goK a s c) = goK a s (goK a e c) := by rw [← goK_add, ← goK_add, Nat.add_comm]
 rw [hcomm]
 have hi : goK a s (goK a e c) = goK a s c ↔ goK a e c = c := ⟨fun h => goK_inj hp s (goK_lt hp e hc) hc h, fun h => by rw [h]⟩
 rw [hi]
 have hd : goK a e c = goK a (e % t) c := by
  conv => lhs; rw [← Nat.mod_add_div e t, Nat.mul_comm t, goK_add, goK_mul h]
 rw [hd]
 constructor
 ·intro h1
  refine Nat.dvd_of_mod_eq_zero (Classical.byContradiction fun h2 => ?_)
  exact hm (e % t) (Nat.pos_of_ne_zero h2) (Nat.mod_lt _ ht) h1
 ·intro h1
  rw [Nat.mod_eq_zero_of_dvd h1]
  rfl
structure CycOk (n : Nat) (a : List Int) (k : Nat) (st : List Bool × List Int) : Prop where
 len : st.1.length = n
 shut : ShutB a n st.1
 done : ∀ j, j < k → j < n → st.1.getD j false = true
 per : ∀ e : Nat, (∀ j, j < n → st.1.getD j false = true → goK a e j = j) ↔ ∀ x ∈ st.2, x ∣ (e : Int)
 pos : ∀ x ∈ st.2, 0 < x
 sum : st.2.sum + cntF st.1 = n
theorem cycTo_ok {n : Nat} {a : List Int} (hp : PermL n a) : ∀ k, k ≤ n → CycOk n a k (cycTo a k)
 | 0, _ => by
  have hg : ∀ j, (List.replicate a.length false).getD j false = false := fun j => by
   rw [List.getD_eq_getElem?_getD, List.getElem?_replicate]; split <;> rfl
  refine ⟨by simp [cycTo, hp.1], fun j _ => ?_, fun j hj => by omega, fun e => ⟨fun _ x hx => by simp [cycTo] at hx, fun _ j _ hj => ?_⟩, fun x hx => by simp [cycTo] at hx, ?_⟩
  ·show (List.replicate a.length false).getD _ false = (List.replicate a.length false).getD _ false
   rw [hg, hg]
  ·have : (List.replicate a.length false).getD j false = true := hj
   rw [hg] at this; cases this
  ·show (([] : List Int).sum + (cntF (List.replicate a.length false) : Int)) = n
   simp [cntF, List.countP_replicate, hp.1]
 | k + 1, hk => by
  have r := cycTo_ok hp k (by omega)
  rw [cycTo_succ, cycStep, hp.1]
  by_cases hsk : (cycTo a k).1.getD k false = true
  ·have e : cycWalk a n (cycTo a k).1 (k : Int) 0 = ((cycTo a k).1, 0) := by
    obtain ⟨m, rfl⟩ : ∃ m, n = m + 1 := ⟨n - 1, by omega⟩
    rw [cycWalk, Int.toNat_natCast, if_pos hsk]
   rw [e]
   refine ⟨r.len, r.shut, fun j hj hjn => ?_, ?_, ?_, ?_⟩
   ·rcases Nat.lt_succ_iff_lt_or_eq.1 hj with h | h
    ·exact r.done j h hjn
    ·subst h; exact hsk
   ·simpa using r.per
   ·simpa using r.pos
   ·simpa using r.sum
  ·have hsf : (cycTo a k).1.getD k false = false := by simpa using hsk
   obtain ⟨t, h0, h1, h2, h3, h4, h5⟩ := cycWalk_new hp r.len (show k < n by omega) r.shut hsf
   rw [h1, if_pos h0]
   have hlen : (cycWalk a n (cycTo a k).1 (k : Int) 0).1.length = n := (cycWalk_len _ _ _ _ _).trans r.len
   refine ⟨hlen, fun j hj => ?_, fun j hj hjn => ?_, fun e => ?_, fun x hx => ?_, ?_⟩
   ·have key : (cycWalk a n (cycTo a k).1 (k : Int) 0).1.getD (goTo a j) false = true ↔ (cycWalk a n (cycTo a k).1 (k : Int) 0).1.getD j false = true := by
     rw [h4 _ (goTo_lt hp hj), h4 _ hj, r.shut j hj]
     refine or_congr_right ⟨?_, ?_⟩
     ·rintro ⟨s, hs, e⟩
      cases s with
      | zero =>
       refine ⟨t - 1, by omega, perm_inj hp (goK_lt hp _ (by omega)) hj ?_⟩
       show goTo a (goK a (t - 1) k) = goTo a j
       rw [← goK_succ, show t - 1 + 1 = t by omega, h2]
       exact e
      | succ s =>
       refine ⟨s, by omega, perm_inj hp (goK_lt hp _ (by omega)) hj ?_⟩
       show goTo a (goK a s k) = goTo a j
       rw [← goK_succ]
       exact e
     ·rintro ⟨s, hs, rfl⟩
      rcases Nat.lt_or_ge (s + 1) t with h6 | h6
      ·exact ⟨s + 1, h6, goK_succ _ _ _⟩
      ·refine ⟨0, h0, ?_⟩
       rw [← goK_succ, show s + 1 = t by omega, h2]
       rfl
    exact Bool.eq_iff_iff.2 key
   ·rw [h4 j hjn]
    rcases Nat.lt_succ_iff_lt_or_eq.1 hj with h | h
    ·exact .inl (r.done j h hjn)
    ·exact .inr ⟨0, h0, h.symm⟩
   ·have hper := goK_period hp (show k < n by omega) h0 h2 h3 e
    constructor
    ·intro h x hx
     rcases List.mem_append.1 hx with hx | hx
     ·exact (r.per e).1 (fun j hj hsj => h j hj ((h4 j hj).2 (.inl hsj))) x hx
     ·simp only [List.mem_singleton] at hx
      subst hx
      exact Int.ofNat_dvd.2 ((hper 0).1 (h k (by omega) ((h4 k (by omega)).2 (.inr ⟨0, h0, rfl⟩))))
    ·intro h j hj hsj
     rcases (h4 j hj).1 hsj with h6 | ⟨s, hs, rfl⟩
     ·exact (r.per e).2 (fun x hx => h x (List.mem_append_left _ hx)) j hj h6
     ·exact (hper s).2 (Int.ofNat_dvd.1 (h t (List.mem_append_right _ (by simp))))
   ·rcases List.mem_append.1 hx with hx | hx
    ·exact r.pos x hx
    ·simp only [List.mem_singleton] at hx
     omega
   ·have h6 := r.sum
    show (((cycTo a k).2 ++ [(t : Int)]).sum + ((cntF (cycWalk a n (cycTo a k).1 (k : Int) 0).1 : Nat) : Int)) = n
    rw [List.sum_append, List.sum_singleton]
    omega
/-- What the lengths of the cycles say. -/
theorem cycI_period {n : Nat} {a : List Int} (hp : PermL n a) (e : Nat) : (∀ j, j < n → goK a e j = j) ↔ ∀ x ∈ cycI a, x ∣ (e : Int) := by
 have r := cycTo_ok hp n (Nat.le_refl _)
 unfold cycI
 rw [hp.1, ← r.per e]
 exact ⟨fun h j hj _ => h j hj, fun h j hj => h j hj (r.done j hj hj)⟩
theorem cycI_sum {n : Nat} {a : List Int} (hp : PermL n a) : (cycI a).sum ≤ n := by
 have r := cycTo_ok hp n (Nat.le_refl _)
 have := r.sum
 unfold cycI
 rw [hp.1]
 omega
/-- Moving on k times. -/
def powI (a : Sy) : Nat → List Int → List Int
 | 0, f => f
 | k + 1, f => imgI a.1 a.2 (powI a k f)
theorem powI_len (a : Sy) (f : List Int) : ∀ k, (powI a k f).length = f.length
 | 0 => rfl
 | k + 1 => by rw [powI, imgI_len, powI_len a f k]
def oddB (k : Nat) : Bool := decide (k % 2 = 1)
theorem powI_get {a : Sy} {f : List Int} (ha : Ok f.length a) : ∀ (k : Nat) {i : Nat}, i < f.length → (powI a k f).getD (goK a.1 k i) 0 = cmpl (a.2 && oddB k) f.length (f.getD i 0)
 | 0, i, _ => by
  show f.getD i 0 = _
  simp [cmpl, oddB]
 | k + 1, i, hi => by
  have hk := goK_lt ha k hi
  have e := imgI_get (f := powI a k f) (cm := a.2) (by rw [powI_len]; exact ha) (i := goK a.1 k i) (by rw [powI_len]; exact hk)
  rw [goK_succ, powI]
  refine Eq.trans e ?_
  rw [powI_get ha k hi, powI_len, cmpl_cmpl]
  congr 1
  cases a.2
  ·rfl
  ·simp only [oddB, Bool.true_and]
   rcases Nat.mod_two_eq_zero_or_one k with h | h
   ·rw [h, show (k + 1) % 2 = 1 by omega]; rfl
   ·rw [h, show (k + 1) % 2 = 0 by omega]; rfl
end Go.Tal

/-
 Plain: the orbits of cells, as the reference finds them and as the program does.
-/
namespace Go.Tal
open Go.RowKit Go.Proofs _root_.Tal
theorem sLin_int : SLin fun x y : Int => decide (x < y) where
 irrefl x := by simp
 trans h k := by simp only [decide_eq_true_eq] at h k ⊢; omega
 total h k := by simp only [decide_eq_false_iff_not] at h k; omega
theorem sortedI_perm (xs : List Int) : (sortedI xs).Perm xs := List.mergeSort_perm _ _
theorem sortedI_sorted (xs : List Int) : (sortedI xs).Pairwise fun x y => x ≤ y :=
 (List.pairwise_mergeSort (le := fun x y : Int => decide (x ≤ y)) (fun a b c h k => by simp only [decide_eq_true_eq] at h k ⊢; omega) (fun a b => by simp only [Bool.or_eq_true, decide_eq_true_eq]; omega) xs).imp fun {a b} h => by simpa using h
/-- The ascending list of different numbers. -/
theorem sortedI_eq {xs ys : List Int} (hn : xs.Nodup) (hy : ys.Pairwise fun x y => x < y) (hm : ∀ x, x ∈ xs ↔ x ∈ ys) : sortedI xs = ys := by
 refine Asc.ext sLin_int (asc_of sLin_int ((sortedI_sorted xs).imp fun {a b} h => by simpa using h) ((sortedI_perm xs).nodup_iff.2 hn)) (hy.imp fun {a b} h => by simpa using h) fun x => ?_
 rw [(sortedI_perm xs).mem_iff, hm]
def inTo (l : List Sy) (c n i : Nat) : List Bool := (l.take i).foldl (fun s a => s.set (a.1.getD c 0).toNat true) (List.replicate n false)
theorem inTo_succ {l : List Sy} {c n i : Nat} (hi : i < l.length) : inTo l c n (i + 1) = (inTo l c n i).set ((l.getD i ([], false)).1.getD c 0).toNat true := by
 unfold inTo
 rw [List.take_succ_eq_append_getElem hi, List.foldl_append]
 simp [List.getD_eq_getElem?_getD, List.getElem?_eq_getElem hi]
def orbScan (ins sn : List Bool) (k : Nat) : List Bool × List Int := (List.range k).foldl (fun st j => if ins.getD j false then (st.1.set j true, st.2 ++ [(j : Int)]) else st) (sn, [])
theorem orbScan_succ (ins sn : List Bool) (k : Nat) : orbScan ins sn (k + 1) = if ins.getD k false then ((orbScan ins sn k).1.set k true, (orbScan ins sn k).2 ++ [(k : Int)]) else orbScan ins sn k := by simp [orbScan, List.range_succ]
def rorbStep (l : List Sy) (n : Nat) (st : List Bool × List (List Int)) (c : Nat) : List Bool × List (List Int) :=
 if st.1.getD c false then st else ((orbScan (inTo l c n l.length) st.1 n).1, st.2 ++ [(orbScan (inTo l c n l.length) st.1 n).2])
def rorbTo (l : List Sy) (n k : Nat) : List Bool × List (List Int) := (List.range k).foldl (rorbStep l n) (List.replicate n false, [])
theorem rorbTo_succ (l : List Sy) (n k : Nat) : rorbTo l n (k + 1) = rorbStep l n (rorbTo l n k) k := by simp [rorbTo, List.range_succ]
theorem mem_take_succ {α : Type} {d a : α} {l : List α} {i : Nat} (hi : i < l.length) : a ∈ l.take (i + 1) ↔ a ∈ l.take i ∨ a = l.getD i d := by
 rw [List.take_succ_eq_append_getElem hi, List.mem_append, List.mem_singleton, List.getD_eq_getElem?_getD, List.getElem?_eq_getElem hi]
 rfl
theorem getD_mem_sy {l : List Sy} {i : Nat} (h : i < l.length) : l.getD i ([], false) ∈ l := by
 rw [List.getD_eq_getElem?_getD, List.getElem?_eq_getElem h]; exact List.getElem_mem h
theorem goTo_cast {n : Nat} {a : List Int} (hp : PermL n a) {c : Nat} (hc : c < n) : ((goTo a c : Nat) : Int) = a.getD c 0 := by
 have := hp.getD_range hc
 unfold goTo
 omega
theorem inTo_spec {n : Nat} {l : List Sy} {c : Nat} : ∀ i, i ≤ l.length → (inTo l c n i).length = n ∧ ∀ j, j < n → ((inTo l c n i).getD j false = true ↔ ∃ a ∈ l.take i, goTo a.1 c = j)
 | 0, _ => by
  refine ⟨by simp [inTo], fun j hj => ?_⟩
  simp [inTo, List.getD_eq_getElem?_getD, hj]
 | i + 1, hi => by
  obtain ⟨h1, h2⟩ := inTo_spec (n := n) (l := l) (c := c) i (by omega)
  have hts : ∀ {a : Sy}, a ∈ l.take (i + 1) ↔ a ∈ l.take i ∨ a = l.getD i ([], false) := mem_take_succ (by omega)
  rw [inTo_succ (by omega)]
  refine ⟨by simpa using h1, fun j hj => ?_⟩
  by_cases e : ((l.getD i ([], false)).1.getD c 0).toNat = j
  ·rw [e, getD_set_same (by omega)]
   exact ⟨fun _ => ⟨_, hts.2 (.inr rfl), e⟩, fun _ => rfl⟩
  ·rw [getD_set_other e, h2 j hj]
   constructor
   ·rintro ⟨a, ha, e1⟩
    exact ⟨a, hts.2 (.inl ha), e1⟩
   ·rintro ⟨a, ha, e1⟩
    rcases hts.1 ha with ha | rfl
    ·exact ⟨a, ha, e1⟩
    ·exact absurd e1 e
theorem orbIn_spec {n : Nat} {l : List Sy} (hok : ∀ a ∈ l, Ok n a) {c : Nat} (hc : c < n) {sn : List Bool} (hs : sn.length = n) (h0 : ∀ a ∈ l, sn.getD (goTo a.1 c) false = false) : ∀ i, i ≤ l.length →
 (orbIn l c (sn, []) i).1.length = n ∧ (∀ j, j < n → ((orbIn l c (sn, []) i).1.getD j false = true ↔ sn.getD j false = true ∨ ∃ a ∈ l.take i, goTo a.1 c = j)) ∧
  (orbIn l c (sn, []) i).2.Nodup ∧ ∀ x, x ∈ (orbIn l c (sn, []) i).2 ↔ ∃ a ∈ l.take i, a.1.getD c 0 = x
 | 0, _ => by
  have e : orbIn l c (sn, []) 0 = (sn, []) := by simp [orbIn]
  rw [e]
  refine ⟨hs, fun j _ => ⟨.inl, fun h => ?_⟩, List.nodup_nil, fun x => ⟨fun h => by simp at h, fun ⟨a, ha, _⟩ => by simp at ha⟩⟩
  rcases h with h | ⟨a, ha, _⟩
  ·exact h
  ·simp at ha
 | i + 1, hi => by
  obtain ⟨h1, h2, h3, h4⟩ := orbIn_spec hok hc hs h0 i (by omega)
  have hmem := getD_mem_sy (l := l) (i := i) (by omega)
  have hoka := hok _ hmem
  have hts : ∀ {a : Sy}, a ∈ l.take (i + 1) ↔ a ∈ l.take i ∨ a = l.getD i ([], false) := mem_take_succ (by omega)
  rw [orbIn_succ (by omega)]
  have hlt := goTo_lt hoka hc
  by_cases hsn : (orbIn l c (sn, []) i).1.getD ((l.getD i ([], false)).1.getD c 0).toNat false = true
  ·rw [if_pos hsn]
   have h5 : ∃ b ∈ l.take i, goTo b.1 c = goTo (l.getD i ([], false)).1 c := by
    rcases (h2 _ hlt).1 hsn with h | h
    ·rw [h0 _ hmem] at h; cases h
    ·exact h
   obtain ⟨b, hb, eb⟩ := h5
   have hbl : b ∈ l := List.mem_of_mem_take hb
   refine ⟨h1, fun j hj => ?_, h3, fun x => ?_⟩
   ·rw [h2 j hj]
    refine or_congr_right ⟨fun ⟨a, ha, e⟩ => ⟨a, hts.2 (.inl ha), e⟩, fun ⟨a, ha, e⟩ => ?_⟩
    rcases hts.1 ha with ha | rfl
    ·exact ⟨a, ha, e⟩
    ·exact ⟨b, hb, eb.trans e⟩
   ·rw [h4 x]
    refine ⟨fun ⟨a, ha, e⟩ => ⟨a, hts.2 (.inl ha), e⟩, fun ⟨a, ha, e⟩ => ?_⟩
    rcases hts.1 ha with ha | rfl
    ·exact ⟨a, ha, e⟩
    ·exact ⟨b, hb, by rw [← e, ← goTo_cast (hok _ hbl) hc, ← goTo_cast hoka hc, eb]⟩
  ·rw [if_neg hsn]
   have hnew : ∀ b ∈ l.take i, goTo b.1 c ≠ goTo (l.getD i ([], false)).1 c := fun b hb e => hsn ((h2 _ hlt).2 (.inr ⟨b, hb, e⟩))
   refine ⟨by simpa using h1, fun j hj => ?_, ?_, fun x => ?_⟩
   ·show ((orbIn l c (sn, []) i).1.set (goTo (l.getD i ([], false)).1 c) true).getD j false = true ↔ _
    by_cases e : goTo (l.getD i ([], false)).1 c = j
    ·rw [e, getD_set_same (by omega)]
     exact ⟨fun _ => .inr ⟨_, hts.2 (.inr rfl), e⟩, fun _ => rfl⟩
    ·rw [getD_set_other e, h2 j hj]
     refine or_congr_right ⟨fun ⟨a, ha, e⟩ => ⟨a, hts.2 (.inl ha), e⟩, fun ⟨a, ha, e1⟩ => ?_⟩
     rcases hts.1 ha with ha | rfl
     ·exact ⟨a, ha, e1⟩
     ·exact absurd e1 e
   ·refine nodup_snoc h3 fun hx => ?_
    obtain ⟨b, hb, e⟩ := (h4 _).1 hx
    refine hnew b hb ?_
    unfold goTo
    rw [e]
   ·rw [List.mem_append, h4 x, List.mem_singleton]
    constructor
    ·rintro (⟨a, ha, e⟩ | rfl)
     ·exact ⟨a, hts.2 (.inl ha), e⟩
     ·exact ⟨_, hts.2 (.inr rfl), rfl⟩
    ·rintro ⟨a, ha, e⟩
     rcases hts.1 ha with ha | rfl
     ·exact .inl ⟨a, ha, e⟩
     ·exact .inr e.symm
theorem orbScan_spec {n : Nat} {ins sn : List Bool} (hs : sn.length = n) : ∀ k, k ≤ n → (orbScan ins sn k).1.length = n ∧ (∀ j, j < n → ((orbScan ins sn k).1.getD j false = true ↔ sn.getD j false = true ∨ (j < k ∧ ins.getD j false = true))) ∧
 (orbScan ins sn k).2.Pairwise (fun x y => x < y) ∧ ∀ x, x ∈ (orbScan ins sn k).2 ↔ ∃ j, j < k ∧ ins.getD j false = true ∧ (j : Int) = x
 | 0, _ => by
  have e : orbScan ins sn 0 = (sn, []) := by simp [orbScan]
  rw [e]
  refine ⟨hs, fun j _ => ⟨.inl, fun h => ?_⟩, List.Pairwise.nil, fun x => ⟨fun h => by simp at h, fun ⟨j, hj, _⟩ => by omega⟩⟩
  rcases h with h | ⟨h, _⟩
  ·exact h
  ·omega
 | k + 1, hk => by
  obtain ⟨h1, h2, h3, h4⟩ := orbScan_spec (ins := ins) hs k (by omega)
  rw [orbScan_succ]
  by_cases hi : ins.getD k false = true
  ·rw [if_pos hi]
   refine ⟨by simpa using h1, fun j hj => ?_, ?_, fun x => ?_⟩
   ·show ((orbScan ins sn k).1.set k true).getD j false = true ↔ _
    by_cases e : k = j
    ·subst e
     rw [getD_set_same (by omega)]
     exact ⟨fun _ => .inr ⟨by omega, hi⟩, fun _ => rfl⟩
    ·rw [getD_set_other e, h2 j hj]
     refine or_congr_right (and_congr_left fun _ => ?_)
     omega
   ·refine List.pairwise_append.2 ⟨h3, List.pairwise_singleton _ _, fun x hx y hy => ?_⟩
    obtain ⟨j, hj, _, rfl⟩ := (h4 x).1 hx
    simp only [List.mem_singleton] at hy
    omega
   ·rw [List.mem_append, h4 x, List.mem_singleton]
    constructor
    ·rintro (⟨j, hj, e1, e2⟩ | rfl)
     ·exact ⟨j, by omega, e1, e2⟩
     ·exact ⟨k, by omega, hi, rfl⟩
    ·rintro ⟨j, hj, e1, e2⟩
     rcases Nat.lt_succ_iff_lt_or_eq.1 hj with h | h
     ·exact .inl ⟨j, h, e1, e2⟩
     ·subst h; exact .inr e2.symm
  ·rw [if_neg hi]
   refine ⟨h1, fun j hj => ?_, h3, fun x => ?_⟩
   ·rw [h2 j hj]
    refine or_congr_right ⟨fun ⟨h, e⟩ => ⟨by omega, e⟩, fun ⟨h, e⟩ => ⟨?_, e⟩⟩
    rcases Nat.lt_succ_iff_lt_or_eq.1 h with h | h
    ·exact h
    ·subst h; exact absurd e hi
   ·rw [h4 x]
    refine ⟨fun ⟨j, h, e⟩ => ⟨j, by omega, e⟩, fun ⟨j, h, e1, e2⟩ => ⟨j, ?_, e1, e2⟩⟩
    rcases Nat.lt_succ_iff_lt_or_eq.1 h with h | h
    ·exact h
    ·subst h; exact absurd e1 hi
theorem bools_ext {n : Nat} {xs ys : List Bool} (hx : xs.length = n) (hy : ys.length = n) (h : ∀ j, j < n → (xs.getD j false = true ↔ ys.getD j false = true)) : xs = ys := by
 refine List.ext_getElem (by omega) fun j h1 h2 => ?_
 have := h j (by omega)
 rw [List.getD_eq_getElem?_getD, List.getD_eq_getElem?_getD, List.getElem?_eq_getElem h1, List.getElem?_eq_getElem h2] at this
 exact Bool.eq_iff_iff.2 this
/-- Marked are whole orbits. -/
def ShutG (l : List Sy) (n : Nat) (sn : List Bool) : Prop := ∀ a ∈ l, ∀ j, j < n → sn.getD (goTo a.1 j) false = sn.getD j false
theorem rorbTo_eq {l : List Sy} {c : Int} (hg : groupI l c = 0) : ∀ k, k ≤ c.toNat → rorbTo l c.toNat k = orbTo l c.toNat k ∧ (orbTo l c.toNat k).1.length = c.toNat ∧ ShutG l c.toNat (orbTo l c.toNat k).1
 | 0, _ => by
  have hr : ∀ j, (List.replicate c.toNat false).getD j false = false := fun j => by
   rw [List.getD_eq_getElem?_getD, List.getElem?_replicate]; split <;> rfl
  refine ⟨rfl, by simp [orbTo], fun a _ j _ => ?_⟩
  show (List.replicate c.toNat false).getD _ false = (List.replicate c.toNat false).getD _ false
  rw [hr, hr]
 | k + 1, hk => by
  obtain ⟨h1, h2, h3⟩ := rorbTo_eq hg k (by omega)
  obtain ⟨_, _, _, hok, _, hcl⟩ := groupI_closed hg
  rw [rorbTo_succ, orbTo_succ, h1, rorbStep, orbStep]
  by_cases hs : (orbTo l c.toNat k).1.getD k false = true
  ·rw [if_pos hs, if_pos hs]
   exact ⟨rfl, h2, h3⟩
  ·rw [if_neg hs, if_neg hs]
   have hk' : k < c.toNat := by omega
   have h0 : ∀ a ∈ l, (orbTo l c.toNat k).1.getD (goTo a.1 k) false = false := fun a ha => by
    rw [h3 a ha k hk']; simpa using hs
   obtain ⟨p1, p2, p3, p4⟩ := orbIn_spec hok hk' h2 h0 l.length (Nat.le_refl _)
   obtain ⟨q1, q2⟩ := inTo_spec (n := c.toNat) (l := l) (c := k) l.length (Nat.le_refl _)
   obtain ⟨r1, r2, r3, r4⟩ := orbScan_spec (ins := inTo l k c.toNat l.length) h2 c.toNat (Nat.le_refl _)
   rw [List.take_length] at p2 p4 q2
   have e1 : (orbScan (inTo l k c.toNat l.length) (orbTo l c.toNat k).1 c.toNat).1 = (orbIn l k ((orbTo l c.toNat k).1, []) l.length).1 := bools_ext r1 p1 fun j hj => by
    rw [r2 j hj, p2 j hj, q2 j hj]
    exact or_congr_right ⟨fun h => h.2, fun h => ⟨hj, h⟩⟩
   have e2 : sortedI (orbIn l k ((orbTo l c.toNat k).1, []) l.length).2 = (orbScan (inTo l k c.toNat l.length) (orbTo l c.toNat k).1 c.toNat).2 := sortedI_eq p3 r3 fun x => by
    rw [p4 x, r4 x]
    constructor
    ·rintro ⟨a, ha, rfl⟩
     exact ⟨goTo a.1 k, goTo_lt (hok a ha) hk', (q2 _ (goTo_lt (hok a ha) hk')).2 ⟨a, ha, rfl⟩, goTo_cast (hok a ha) hk'⟩
    ·rintro ⟨j, hj, hi, rfl⟩
     obtain ⟨a, ha, rfl⟩ := (q2 j hj).1 hi
     exact ⟨a, ha, (goTo_cast (hok a ha) hk').symm⟩
   refine ⟨by rw [e1, e2], p1, fun a ha j hj => Bool.eq_iff_iff.2 ?_⟩
   show (orbIn l k ((orbTo l c.toNat k).1, []) l.length).1.getD (goTo a.1 j) false = true ↔ (orbIn l k ((orbTo l c.toNat k).1, []) l.length).1.getD j false = true
   rw [p2 _ (goTo_lt (hok a ha) hj), p2 j hj, h3 a ha j hj]
   refine or_congr_right ⟨?_, ?_⟩
   ·rintro ⟨b, hb, e⟩
    have hi := group_inv hg ha
    refine ⟨comp (inv a) b, hcl _ hi _ hb, ?_⟩
    have e3 : comp (inv a) a = ident c.toNat := inv_comp (hok a ha)
    have hgo : ∀ {x y : Sy}, Ok c.toNat y → ∀ {i : Nat}, i < c.toNat → goTo (comp x y).1 i = goTo x.1 (goTo y.1 i) := fun {x y} hy {i} hi => by
     unfold goTo; rw [comp_getD hy hi]
    rw [hgo (hok b hb) hk', e, ← hgo (hok a ha) hj, e3]
    unfold goTo
    rw [ident_getD hj, Int.toNat_natCast]
   ·rintro ⟨b, hb, rfl⟩
    refine ⟨comp a b, hcl _ ha _ hb, ?_⟩
    unfold goTo
    rw [comp_getD (hok b hb) hk']
/-- The reference's orbits of cells. -/
theorem cellOrbO_eq {l : List Sy} {c : Int} (hg : groupI l c = 0) : cellOrbO l c = ((rorbTo l c.toNat c.toNat).2, 0) := by
 rw [cellOrbO, if_neg (by simp [hg]), (rorbTo_eq hg c.toNat (Nat.le_refl _)).1]
end Go.Tal

/-
 Plain: what keeps a system of lines, as the reference has it and as the program does.
-/
namespace Go.Tal
open Go.RowKit Go.Proofs _root_.Tal
def insZ (x : Int) : List Int → List Int
 | [] => [x]
 | y :: ys => if y < x then y :: insZ x ys else x :: y :: ys
/-- The image of a line, in ascending order. -/
def rimage (p line : List Int) : List Int := line.foldl (fun out c => insZ (p.getD c.toNat 0) out) []
def rkeepsB (ls : List (List Int)) (p : List Int) : Bool := ls.all fun line => ls.any fun o => decide (rimage p line = o)
theorem insZ_perm (x : Int) : ∀ l : List Int, (insZ x l).Perm (x :: l)
 | [] => List.Perm.refl _
 | y :: ys => by
  unfold insZ
  split
  ·exact ((insZ_perm x ys).cons y).trans (List.Perm.swap _ _ _)
  ·exact List.Perm.refl _
theorem insZ_sorted (x : Int) : ∀ l : List Int, l.Pairwise (fun x y => x ≤ y) → (insZ x l).Pairwise fun x y => x ≤ y
 | [], _ => List.pairwise_singleton _ _
 | y :: ys, h => by
  obtain ⟨h1, h2⟩ := List.pairwise_cons.1 h
  unfold insZ
  split
  ·refine List.pairwise_cons.2 ⟨fun z hz => ?_, insZ_sorted x ys h2⟩
   rcases List.mem_cons.1 ((insZ_perm x ys).mem_iff.1 hz) with rfl | hz
   ·omega
   ·exact h1 z hz
  ·refine List.pairwise_cons.2 ⟨fun z hz => ?_, h⟩
   rcases List.mem_cons.1 hz with rfl | hz
   ·omega
   ·have := h1 z hz; omega
theorem foldl_insZ (p : List Int) : ∀ (l acc : List Int), acc.Pairwise (fun x y => x ≤ y) → (l.foldl (fun out c => insZ (p.getD c.toNat 0) out) acc).Pairwise (fun x y => x ≤ y) ∧ (l.foldl (fun out c => insZ (p.getD c.toNat 0) out) acc).Perm (acc ++ l.map fun c => p.getD c.toNat 0)
 | [], acc, h => ⟨h, by simp⟩
 | c :: l, acc, h => by
  obtain ⟨h1, h2⟩ := foldl_insZ p l (insZ (p.getD c.toNat 0) acc) (insZ_sorted _ _ h)
  rw [List.foldl_cons, List.map_cons]
  exact ⟨h1, h2.trans (((insZ_perm _ acc).append_right _).trans List.perm_middle.symm)⟩
theorem sorted_unique : ∀ {xs ys : List Int}, xs.Pairwise (fun x y => x ≤ y) → ys.Pairwise (fun x y => x ≤ y) → xs.Perm ys → xs = ys
 | [], ys, _, _, h => (List.nil_perm.1 h).symm
 | x :: xs, ys, hx, hy, h => by
  obtain ⟨h1, h2⟩ := List.pairwise_cons.1 hx
  cases ys with
  | nil => exact absurd h.length_eq (by simp)
  | cons y ys =>
   obtain ⟨k1, k2⟩ := List.pairwise_cons.1 hy
   have e : x = y := by
    rcases List.mem_cons.1 (h.mem_iff.1 List.mem_cons_self) with e | m1
    ·exact e
    ·rcases List.mem_cons.1 (h.mem_iff.2 List.mem_cons_self) with e | m2
     ·exact e.symm
     ·have := h1 y m2; have := k1 x m1; omega
   subst e
   rw [sorted_unique h2 k2 h.cons_inv]
theorem rimage_eq (p line : List Int) : rimage p line = imgS p line := by
 obtain ⟨h1, h2⟩ := foldl_insZ p line [] List.Pairwise.nil
 refine sorted_unique h1 (sortedI_sorted _) (h2.trans ?_)
 exact (sortedI_perm _).symm
theorem keyS_inj {xs ys : List Int} (hx : ∀ x ∈ xs, 0 ≤ x ∧ x < 256) (hy : ∀ y ∈ ys, 0 ≤ y ∧ y < 256) (h : keyS xs = keyS ys) : xs = ys := by
 have e : ∀ {zs : List Int}, (∀ z ∈ zs, 0 ≤ z ∧ z < 256) → keyL zs false = zs := fun {zs} hz => by
  unfold keyL
  simp only [Bool.false_eq_true, if_false, List.append_nil]
  conv => rhs; rw [← List.map_id zs]
  exact List.map_congr_left fun z h => wrap8_id (hz z h).1 (hz z h).2
 unfold keyS at h
 rw [e hx, e hy] at h
 exact strOfNums_inj hx hy h
theorem keepI_any {n : Int} {ls : List (List Int)} (hs : sysI n ls = 0) {a : List Int} (ha : PermL n.toNat a) {line : List Int} (hl : line ∈ ls) : keepI ls a line = ls.any fun o => decide (rimage a line = o) := by
 have hn := (sysI_zero hs).1
 have hrng : ∀ o ∈ ls, ∀ x ∈ o, 0 ≤ x ∧ x < n := fun o ho x hx => by
  obtain ⟨i, hi, rfl⟩ := List.getElem_of_mem ho
  obtain ⟨j, hj, rfl⟩ := List.getElem_of_mem hx
  have e : ls.getD i [] = ls[i] := by rw [List.getD_eq_getElem?_getD, List.getElem?_eq_getElem hi]; rfl
  have := line_rng hs hi j (by rw [e]; exact hj)
  rw [e] at this
  rwa [List.getD_eq_getElem?_getD, List.getElem?_eq_getElem hj] at this
 unfold keepI
 rw [rimage_eq]
 have him : ∀ x ∈ imgS a line, 0 ≤ x ∧ x < 256 := fun x hx => by
  have h1 := (sortedI_perm _).mem_iff.1 hx
  obtain ⟨c, hc, rfl⟩ := List.mem_map.1 h1
  have h2 := hrng line hl c hc
  have := ha.getD_range (i := c.toNat) (by omega)
  omega
 have hc : ∀ o ∈ ls, (keyS (imgS a line) == keyS o) = decide (imgS a line = o) := fun o ho => by
  refine Bool.eq_iff_iff.2 ?_
  rw [decide_eq_true_iff, MapKept.bytes_beq]
  exact ⟨fun h => keyS_inj him (fun x hx => by have := hrng o ho x hx; omega) h, fun h => by rw [h]⟩
 rw [Bool.eq_iff_iff, List.any_eq_true, List.any_eq_true]
 exact ⟨fun ⟨o, ho, h⟩ => ⟨o, ho, by rw [← hc o ho]; exact h⟩, fun ⟨o, ho, h⟩ => ⟨o, ho, by rw [hc o ho]; exact h⟩⟩
theorem keeps_all {n : Int} {ls : List (List Int)} (hs : sysI n ls = 0) {a : List Int} (ha : PermL n.toNat a) : ls.all (keepI ls a) = rkeepsB ls a := by
 refine Bool.eq_iff_iff.2 ?_
 unfold rkeepsB
 rw [List.all_eq_true, List.all_eq_true]
 exact ⟨fun h l hl => by rw [← keepI_any hs ha hl]; exact h l hl, fun h l hl => by rw [keepI_any hs ha hl]; exact h l hl⟩
end Go.Tal

/-
 The program answers the document's examples as the statements ask: the guard of all of them holds.
-/
namespace Go.Tal
open Go.RowKit Go.Proofs Go.Proofs.Tryz _root_.Tal
def d3L : List Sy := [([0, 1, 2, 3, 4, 5, 6, 7, 8], false), ([0, 3, 6, 1, 4, 7, 2, 5, 8], false), ([2, 1, 0, 5, 4, 3, 8, 7, 6], false), ([2, 5, 8, 1, 4, 7, 0, 3, 6], false), ([6, 3, 0, 7, 4, 1, 8, 5, 2], false), ([6, 7, 8, 3, 4, 5, 0, 1, 2], false), ([8, 5, 2, 7, 4, 1, 6, 3, 0], false), ([8, 7, 6, 5, 4, 3, 2, 1, 0], false)]
def d2L : List Sy := [([0, 1, 2, 3], false), ([0, 2, 1, 3], false), ([1, 0, 3, 2], false), ([1, 3, 0, 2], false), ([2, 0, 3, 1], false), ([2, 3, 0, 1], false), ([3, 1, 2, 0], false), ([3, 2, 1, 0], false)]
abbrev shuL : List Int := [2, 7, 6, 9, 5, 1, 4, 3, 8]
abbrev mirS : Sy := ([2, 1, 0, 5, 4, 3, 8, 7, 6], true)
abbrev turS : Sy := ([2, 5, 8, 1, 4, 7, 0, 3, 6], false)
abbrev mi0S : Sy := ([2, 1, 0, 5, 4, 3, 8, 7, 6], false)
abbrev halfL : List Sy := [([0, 1, 2, 3, 4, 5, 6, 7, 8], false), ([8, 7, 6, 5, 4, 3, 2, 1, 0], false)]
abbrev sysL : List (List Int) := [[0, 1], [2, 3], [0, 2], [1, 3]]
theorem ev_apply : applyO mirS shuL = ([4, 3, 8, 9, 5, 1, 2, 7, 6], 0) := by decide +kernel
theorem ev_order : orderO turS = (4, 0) := by decide +kernel
theorem ev_dih3 : dihO 3 = (d3L, 0) := by decide +kernel
theorem ev_dih2 : dihO 2 = (d2L, 0) := by decide +kernel
theorem ev_clos : closO [turS, mi0S] 9 = (d3L, 0) := by decide +kernel
theorem ev_orbit : (orbitO d3L shuL).2 = 0 ∧ (orbitO d3L shuL).1.length = 8 := by decide +kernel
theorem ev_canon : canonO d3L [8, 3, 4, 1, 5, 9, 6, 7, 2] = (shuL, 0) := by decide +kernel
theorem ev_group2 : groupI d2L 4 = 0 := by decide +kernel
theorem ev_burn : sumTo d2L 2 d2L.length / d2L.length = 6 := by decide +kernel
theorem ev_group3 : groupI d3L 9 = 0 := by decide +kernel
/-- The same search, whatever is asked of a line. -/
def auGoK (n : Nat) (ls : List (List Int)) (kp : List Int → List Int → Bool) : Nat → Nat → AuSt → Bool × AuSt
 | 0, _, st => (decide (((st.2.2.length + 1 : Nat) : Int) ≤ 1536), (st.1, st.2.1, st.2.2 ++ [(st.1, false)]))
 | f + 1, k, st => (List.range n).foldl (fun p x => if p.1 then (if p.2.2.1.getD x false then p else if (endsL ls k).all (kp (p.2.1.set k x)) then ((auGoK n ls kp f (k + 1) (auNext k x p.2)).1, auBack x (auGoK n ls kp f (k + 1) (auNext k x p.2)).2) else (true, (p.2.1.set k x, p.2.2))) else p) (true, st)
theorem auGo_K (n : Nat) (ls : List (List Int)) : ∀ (f k : Nat) (st : AuSt), auGo n ls f k st = auGoK n ls (keepI ls) f k st
 | 0, _, _ => rfl
 | f + 1, k, st => by
  have ih : auGo n ls f = auGoK n ls (keepI ls) f := funext fun k => funext fun st => auGo_K n ls f k st
  show (List.range n).foldl _ (true, st) = (List.range n).foldl _ (true, st)
  rw [ih]
def keepR (ls : List (List Int)) (a l : List Int) : Bool := ls.any fun o => keyS (rimage a l) == keyS o
theorem keepR_eq (ls : List (List Int)) : keepI ls = keepR ls := funext fun a => funext fun l => by rw [keepI, keepR, rimage_eq]
theorem ev_aut0 : auGoK 4 sysL (keepR sysL) 4 0 (au0 4) = (true, ((auGoK 4 sysL (keepR sysL) 4 0 (au0 4)).2.1, ((auGoK 4 sysL (keepR sysL) 4 0 (au0 4)).2.2.1, d2L))) := by decide +kernel
theorem ev_autE : autE 4 sysL = 0 := by decide +kernel
theorem ev_aut : autO 4 sysL = (d2L, 0) := by
 have e : auGo (4 : Int).toNat sysL (4 : Int).toNat 0 (au0 (4 : Int).toNat) = auGoK 4 sysL (keepR sysL) 4 0 (au0 4) := by rw [auGo_K, keepR_eq]; rfl
 rw [autO, if_neg (by rw [ev_autE]; simp), e, ev_aut0, if_pos rfl]
theorem ev_cos : (cosetO d3L halfL 9).2 = 0 ∧ (cosetO d3L halfL 9).1.length = 4 := by decide +kernel
theorem ev_norm : normO d3L halfL 9 = (true, 0) := by decide +kernel
theorem ev_rc : (rcO 4).2 = 0 ∧ (rcO 4).1.length = 8 := by decide +kernel
theorem fixTo_le {a : Sy} {vals : Nat} (hv : vals ≤ 3) : ∀ k, k ≤ (cycI a.1).length → fixTo a vals k ≤ 4 ^ k
 | 0, _ => by simp [fixTo]
 | k + 1, hk => by
  rw [fixTo_succ (by omega), Nat.pow_succ]
  exact Nat.mul_le_mul (fixTo_le hv k (by omega)) (by have := fixC_le a vals ((cycI a.1).getD k 0); omega)
theorem fixN_le {n : Nat} {a : Sy} {vals : Nat} (ha : Ok n a) (hn : n ≤ 16) (hv : vals ≤ 3) : (∀ k, k ≤ (cycI a.1).length → fixTo a vals k ≤ 4294967296) := by
 intro k hk
 have h1 : (cycI a.1).length ≤ n := by rw [← ha.1]; exact cycTo_out a.1 a.1.length
 refine Nat.le_trans (fixTo_le hv k hk) ?_
 have : 4 ^ k ≤ 4 ^ 16 := Nat.pow_le_pow_right (by decide) (by omega)
 omega
theorem sumTo_le {n : Nat} {l : List Sy} {vals : Nat} (hok : ∀ a ∈ l, Ok n a) (hn : n ≤ 16) (hv : vals ≤ 3) : ∀ k, k ≤ l.length → sumTo l vals k ≤ k * 4294967296
 | 0, _ => by simp [sumTo]
 | k + 1, hk => by
  rw [sumTo_succ (by omega)]
  have h1 := sumTo_le hok hn hv k (by omega)
  have h2 : fixN (l.getD k ([], false)) vals ≤ 4294967296 := fixN_le (hok _ (getD_mem' (by omega))) hn hv _ (Nat.le_refl _)
  omega
/-- Burnside, where nothing is large. -/
theorem burnside_small (l : List Sy) (c : Int) (vals : Nat) (v : Value) (h : H) (hl : RdS h v l) (hg0 : groupI l c = 0) (hc : c ≤ 16) (hv : vals ≤ 3) (hq2 : sumTo l vals l.length / l.length < 100) : FnV Tryz.prog 36 #[v, .int .i64 c, .int .i64 vals] h (.tuple #[.string (decStr (sumTo l vals l.length / l.length)), .int .i64 0]) := by
 obtain ⟨_, _, h3, hok, _⟩ := groupI_zero hg0
 exact burnside_fnN l c vals v h hl hg0 (by omega) (fun a ha k hk => Nat.le_trans (fixN_le (hok a ha) (by omega) hv k hk) (by decide)) (fun k hk => by have := sumTo_le hok (show c.toNat ≤ 16 by omega) hv k hk; omega) hq2
theorem bs35_9 (a b c d e f g i j : Int) : ∀ w, (Instr.buildSlice 35 9 #[(0, .int .i64 a), (1, .int .i64 b), (2, .int .i64 c), (3, .int .i64 d), (4, .int .i64 e), (5, .int .i64 f), (6, .int .i64 g), (7, .int .i64 i), (8, .int .i64 j)]).run Tryz.prog w = .ok (.slice (some ⟨w.heap.size, 0, none⟩) 9 9) (w.alloc (.cells #[.int .i64 a, .int .i64 b, .int .i64 c, .int .i64 d, .int .i64 e, .int .i64 f, .int .i64 g, .int .i64 i, .int .i64 j] 3)) := fun _ => by kernel_rfl
theorem bs35_4 (a b c d : Int) : ∀ w, (Instr.buildSlice 35 4 #[(0, .int .i64 a), (1, .int .i64 b), (2, .int .i64 c), (3, .int .i64 d)]).run Tryz.prog w = .ok (.slice (some ⟨w.heap.size, 0, none⟩) 4 4) (w.alloc (.cells #[.int .i64 a, .int .i64 b, .int .i64 c, .int .i64 d] 3)) := fun _ => by kernel_rfl
theorem bs35_2 (a b : Int) : ∀ w, (Instr.buildSlice 35 2 #[(0, .int .i64 a), (1, .int .i64 b)]).run Tryz.prog w = .ok (.slice (some ⟨w.heap.size, 0, none⟩) 2 2) (w.alloc (.cells #[.int .i64 a, .int .i64 b] 3)) := fun _ => by kernel_rfl
theorem bs22_2 (A B : Option Addr) (n c m d : Nat) (p q : Bool) : ∀ w, (Instr.buildSlice 22 2 #[(0, .agg #[.slice A n c, .bool p]), (1, .agg #[.slice B m d, .bool q])]).run Tryz.prog w = .ok (.slice (some ⟨w.heap.size, 0, none⟩) 2 2) (w.alloc (.cells #[.slice A n c, .bool p, .slice B m d, .bool q] 37)) := fun _ => by kernel_rfl
theorem bs26_4 (A B C D : Option Addr) (n n' m m' k k' j j' : Nat) : ∀ w, (Instr.buildSlice 26 4 #[(0, .slice A n n'), (1, .slice B m m'), (2, .slice C k k'), (3, .slice D j j')]).run Tryz.prog w = .ok (.slice (some ⟨w.heap.size, 0, none⟩) 4 4) (w.alloc (.cells #[.slice A n n', .slice B m m', .slice C k k', .slice D j j'] 35)) := fun _ => by kernel_rfl
theorem bs26_3 (A B C : Option Addr) (n n' m m' k k' : Nat) : ∀ w, (Instr.buildSlice 26 3 #[(0, .slice A n n'), (1, .slice B m m'), (2, .slice C k k')]).run Tryz.prog w = .ok (.slice (some ⟨w.heap.size, 0, none⟩) 3 3) (w.alloc (.cells #[.slice A n n', .slice B m m', .slice C k k'] 35)) := fun _ => by kernel_rfl
theorem b46_01 (n : Int) (A : Option Addr) (m c : Nat) : ∀ w, (Instr.build 46 #[(0, .int .i64 n), (1, .slice A m c)]).run Tryz.prog w = .ok (.agg #[.int .i64 n, .slice A m c]) w := fun _ => by kernel_rfl
/-- Symmetries of a block that is read. -/
theorem rdS_of {h : H} {b n : Nat} {arr : Array Value} {e : TypeId} {ps : List (Value × Sy)} (hb : h b = some (.cells arr e (0, 0))) (ha : arr.toList = rowS ps) (hps : SetOk h ps) (hn : n = ps.length) (hl : ps.length ≤ 4294967296) : RdS h (.slice (some ⟨b, 0, none⟩) n n) (ps.map (·.2)) := by
 subst hn
 refine ⟨_, _, by rw [List.length_map], by rw [List.length_map]; exact hl, fun _ => ⟨b, 0, rfl, arr, e, (0, 0), hb, fun j hj => ?_⟩⟩
 rw [List.length_map] at hj
 have hg : ps[j]? = some ps[j] := List.getElem?_eq_getElem hj
 have e1 : (ps.map (·.2)).getD j ([], false) = ps[j].2 := by simp [List.getD_eq_getElem?_getD, hj]
 obtain ⟨h1, h2⟩ := rowS_get hg
 rw [← ha, Array.getElem?_toList] at h1 h2
 rw [e1, Nat.zero_add]
 exact ⟨ps[j].1, h1, h2, hps _ (List.getElem_mem hj)⟩
/-- Lists of a block that is read. -/
theorem rdT_of {h : H} {b n : Nat} {arr : Array Value} {e : TypeId} {outs : List (List Int)} (hb : h b = some (.cells arr e (0, 0))) (hr : AllRd h arr.toList outs) (hn : n = outs.length) (hl : outs.length ≤ 4294967296) : RdT h (.slice (some ⟨b, 0, none⟩) n n) outs := by
 subst hn
 refine ⟨_, _, rfl, hl, fun _ => ⟨b, 0, rfl, arr, e, (0, 0), hb, fun j hj => ?_⟩⟩
 obtain ⟨sv, h1, h2⟩ := hr.2 j (by rw [← hr.1]; exact hj)
 rw [Array.getElem?_toList] at h1
 rw [Nat.zero_add]
 exact ⟨sv, h1, h2⟩
theorem AllRd.nil (h : H) : AllRd h [] [] := ⟨rfl, fun j hj => absurd hj (Nat.not_lt_zero j)⟩
theorem sameI_yes (xs ys : List Int) (v u : Value) (h : H) (hx : RdI h v xs) (hy : RdI h u ys) (e : xs = ys) : FnV Tryz.prog 82 #[v, u] h (.bool true) := by
 have := sameI_fn xs ys v u h hx hy
 rwa [decide_eq_true e] at this
theorem sameL_yes (xs ys : List Sy) (v u : Value) (h : H) (hx : RdS h v xs) (hy : RdS h u ys) (e : xs = ys) : FnV Tryz.prog 69 #[v, u] h (.bool true) := by
 have := sameL_fn xs ys v u h hx hy
 rwa [decide_eq_true e] at this
theorem sameT_yes (xs ys : List (List Int)) (v u : Value) (h : H) (hx : RdT h v xs) (hy : RdT h u ys) (e : xs = ys) : FnV Tryz.prog 81 #[v, u] h (.bool true) := by
 have := sameT_fn xs ys v u h hx hy
 rwa [decide_eq_true e] at this
theorem ev_orb9 : cellOrbO d3L 9 = ([[0, 2, 6, 8], [1, 3, 5, 7], [4]], 0) := by
 rw [cellOrbO_eq ev_group3]
 decide +kernel
theorem ev_str : (!((decStr 6).toList == (⟨#[54]⟩ : ByteArray).toList)) = false := by decide +kernel
set_option maxRecDepth 8000 in
theorem shu_fn (h : H) : Fn Tryz.prog 89 #[] h fun v h' => RdI h' v shuL := by
 refine fn_of (vs := []) func89 rfl ntmps89 (Nat.le_of_ble_eq_true rfl) fun w hw => ?_
 repeat apply wp_seq'
 refine wp_text rfl ?_
 refine rm rfl ?_
 apply run_end
 repeat apply wp_seq'
 refine wp_text rfl ?_
 refine run_bsl (parts := [_, _, _, _, _, _, _, _, _]) (vs := [_, _, _, _, _, _, _, _, _]) rfl rfl rfl rfl rfl rfl (bs35_9 _ _ _ _ _ _ _ _ _) fun b1 h1 hh1 hb1 => ?_
 have hr := rdI_of (xs := [2, 7, 6, 9, 5, 1, 4, 3, 8]) hb1 rfl rfl (Nat.le_of_ble_eq_true rfl)
 refine rm rfl ?_
 apply run_end
 apply wp_ret'
 exact fin_ret (res_tmp rfl rfl) hr
set_option maxRecDepth 8000 in
set_option maxHeartbeats 8000000 in
theorem awake_fn (h : H) : FnV Tryz.prog 18 #[] h (.bool true) := by
 refine fn_of (vs := []) func18 rfl ntmps18 (Nat.le_of_ble_eq_true rfl) fun w hw => ?_
 repeat apply wp_seq'
 refine wp_text rfl ?_
 refine rm rfl ?_
 apply run_end
 repeat apply wp_seq'
 refine wp_text rfl ?_
 refine run_bsl (parts := [_, _, _, _, _, _, _, _, _]) (vs := [_, _, _, _, _, _, _, _, _]) rfl rfl rfl rfl rfl rfl (bs35_9 _ _ _ _ _ _ _ _ _) fun b1 h1 hh1 hb1 => ?_
 have hmi := rdI_of (xs := [2, 1, 0, 5, 4, 3, 8, 7, 6]) hb1 rfl rfl (Nat.le_of_ble_eq_true rfl)
 refine rs rfl (s_build2 rfl rfl rfl (b37_01 _ _ _ _)) ?_
 refine run_alloc rfl rfl rfl rfl rfl zeroValue37 rfl fun b21 => ?_
 refine run_st2 rfl rfl rfl rfl rfl rfl (by first | rfl | assumption | exact RdI.one (by assumption)) rfl sizeOf37 (by repeat first|exact Swap.here|apply Swap.there) rfl ?_
 apply run_end
 repeat apply wp_seq'
 refine wp_text rfl ?_
 refine run_bsl (parts := [_, _, _, _, _, _, _, _, _]) (vs := [_, _, _, _, _, _, _, _, _]) rfl rfl rfl rfl rfl rfl (bs35_9 _ _ _ _ _ _ _ _ _) fun b2 h2 hh2 hb2 => ?_
 have htu := rdI_of (xs := [2, 5, 8, 1, 4, 7, 0, 3, 6]) hb2 rfl rfl (Nat.le_of_ble_eq_true rfl)
 have hmi := hmi.mono hh2
 refine rs rfl (s_build1 rfl rfl (b37_s _ _ _)) ?_
 refine run_alloc rfl rfl rfl rfl rfl zeroValue37 rfl fun b22 => ?_
 refine run_st2 rfl rfl rfl rfl rfl rfl (by first | rfl | assumption | exact RdI.one (by assumption)) rfl sizeOf37 (by repeat first|exact Swap.here|apply Swap.there) rfl ?_
 apply run_end
 repeat apply wp_seq'
 refine wp_any [0, 1, 2, 3, 4, 5, 6, 7] rfl (by kernel_rfl) ?_
 refine rs rfl (s_ld2 rfl rfl isAgg37 sizeOf37 (.o_ rfl) (.o_ rfl)) ?_
 refine run_call (vs := []) rfl rfl rfl rfl rfl rfl en89 (shu_fn _) ?_
 intro v36 hv36 hv36r hhv36
 have hmi := hmi.mono hhv36
 have htu := htu.mono hhv36
 refine run_call (vs := [_, _]) rfl rfl rfl rfl rfl rfl en52 (apply_fn mirS shuL _ _ _ hmi hv36r) ?_
 intro v37 hv37 hv37r hhv37
 obtain ⟨sv37, rfl, hf⟩ := hv37r
 rw [ev_apply] at hf ⊢
 dsimp only at hf ⊢
 have hmi := hmi.mono hhv37
 have htu := htu.mono hhv37
 have hv36r := hv36r.mono hhv37
 refine rm rfl ?_
 refine rs rfl (s_extract rfl rfl rfl) ?_
 refine rs rfl (s_extract rfl rfl rfl) ?_
 refine rm rfl ?_
 refine rm rfl ?_
 apply run_end
 repeat apply wp_seq'
 refine wp_text rfl ?_
 refine rs rfl (s_ld2 rfl rfl isAgg37 sizeOf37 (.o_ rfl) (.o_ rfl)) ?_
 refine run_callv (vs := [_]) rfl rfl rfl rfl rfl rfl en55 (by have := order_fn turS _ _ htu; rw [ev_order] at this; exact this) ?_
 refine rm rfl ?_
 refine rs rfl (s_extract rfl rfl rfl) ?_
 refine rs rfl (s_extract rfl rfl rfl) ?_
 refine rm rfl ?_
 refine rm rfl ?_
 apply run_end
 repeat apply wp_seq'
 refine wp_text rfl ?_
 refine run_call (vs := [_]) rfl rfl rfl rfl rfl rfl en66 (dihedral_fn 3 _) ?_
 intro v46 hv46 hv46r hhv46
 obtain ⟨sv46, rfl, hd⟩ := hv46r
 rw [ev_dih3] at hd ⊢
 dsimp only at hd ⊢
 have hmi := hmi.mono hhv46
 have htu := htu.mono hhv46
 have hv36r := hv36r.mono hhv46
 have hf := hf.mono hhv46
 refine rm rfl ?_
 refine rs rfl (s_extract rfl rfl rfl) ?_
 refine rs rfl (s_extract rfl rfl rfl) ?_
 refine rm rfl ?_
 refine rm rfl ?_
 apply run_end
 repeat apply wp_seq'
 refine wp_text rfl ?_
 refine rs rfl (s_ld2 rfl rfl isAgg37 sizeOf37 (.o_ rfl) (.o_ rfl)) ?_
 refine rs rfl (s_fa (off := 0) rfl rfl underlying37 rfl sizeOf35 rfl) ?_
 refine rs rfl (s_ld rfl rfl isAgg35 (.o_ rfl)) ?_
 refine rs rfl (s_build1 rfl rfl (b37_s _ _ _)) ?_
 refine run_bsl (parts := [_, _]) (vs := [_, _]) rfl rfl rfl rfl rfl rfl (bs22_2 _ _ _ _ _ _ _ _) fun b54 h54 hh54 hb54 => ?_
 have hmi := hmi.mono hh54
 have htu := htu.mono hh54
 have hv36r := hv36r.mono hh54
 have hf := hf.mono hh54
 have hd := hd.mono hh54
 have hgen : RdS h54 (.slice (some ⟨b54, 0, none⟩) 2 2) [turS, mi0S] := rdS_of (ps := [(_, turS), (_, mi0S)]) hb54 rfl (fun p hp => by simp only [List.mem_cons, List.not_mem_nil, or_false] at hp; rcases hp with rfl | rfl; exact htu; exact hmi) rfl (Nat.le_of_ble_eq_true rfl)
 refine run_call (vs := [_, _]) rfl rfl rfl rfl rfl rfl en27 (bigClosure_fn [turS, mi0S] 9 _ _ hgen) ?_
 intro v55 hv55 hv55r hhv55
 obtain ⟨sv55, rfl, hc⟩ := hv55r
 rw [ev_clos] at hc ⊢
 dsimp only at hc ⊢
 have hmi := hmi.mono hhv55
 have htu := htu.mono hhv55
 have hv36r := hv36r.mono hhv55
 have hf := hf.mono hhv55
 have hd := hd.mono hhv55
 have hgen := hgen.mono hhv55
 refine rm rfl ?_
 refine rs rfl (s_extract rfl rfl rfl) ?_
 refine rs rfl (s_extract rfl rfl rfl) ?_
 refine rm rfl ?_
 refine rm rfl ?_
 apply run_end
 repeat apply wp_seq'
 refine wp_text rfl ?_
 refine rm rfl ?_
 refine run_call (vs := []) rfl rfl rfl rfl rfl rfl en89 (shu_fn _) ?_
 intro v60 hv60 hv60r hhv60
 have hmi := hmi.mono hhv60
 have htu := htu.mono hhv60
 have hv36r := hv36r.mono hhv60
 have hf := hf.mono hhv60
 have hd := hd.mono hhv60
 have hgen := hgen.mono hhv60
 have hc := hc.mono hhv60
 refine run_call (vs := [_, _]) rfl rfl rfl rfl rfl rfl en75 (orbit_fn d3L shuL _ _ _ hd hv60r) ?_
 intro v61 h61 hv61 hh61
 obtain ⟨sv61, rfl, ho⟩ := hv61
 obtain ⟨eo1, eo2⟩ := ev_orbit
 rw [eo1]
 have hmi := hmi.mono hh61
 have htu := htu.mono hh61
 have hv36r := hv36r.mono hh61
 have hf := hf.mono hh61
 have hd := hd.mono hh61
 have hgen := hgen.mono hh61
 have hc := hc.mono hh61
 have hv60r := hv60r.mono hh61
 refine rm rfl ?_
 refine rs rfl (s_extract rfl rfl rfl) ?_
 refine rs rfl (s_extract rfl rfl rfl) ?_
 refine rm rfl ?_
 refine rm rfl ?_
 apply run_end
 repeat apply wp_seq'
 refine wp_text rfl ?_
 refine rm rfl ?_
 refine run_bsl (parts := [_, _, _, _, _, _, _, _, _]) (vs := [_, _, _, _, _, _, _, _, _]) rfl rfl rfl rfl rfl rfl (bs35_9 _ _ _ _ _ _ _ _ _) fun b3 h3 hh3 hb3 => ?_
 have hk0 := rdI_of (xs := [8, 3, 4, 1, 5, 9, 6, 7, 2]) hb3 rfl rfl (Nat.le_of_ble_eq_true rfl)
 have hmi := hmi.mono hh3
 have htu := htu.mono hh3
 have hv36r := hv36r.mono hh3
 have hf := hf.mono hh3
 have hd := hd.mono hh3
 have hgen := hgen.mono hh3
 have hc := hc.mono hh3
 have hv60r := hv60r.mono hh3
 have ho := ho.mono hh3
 refine run_call (vs := [_, _]) rfl rfl rfl rfl rfl rfl en47 (canonical_fn d3L [8, 3, 4, 1, 5, 9, 6, 7, 2] _ _ _ hd hk0) ?_
 intro v67 hv67 hv67r hhv67
 obtain ⟨sv67, rfl, hk⟩ := hv67r
 rw [ev_canon] at hk ⊢
 dsimp only at hk ⊢
 have hmi := hmi.mono hhv67
 have htu := htu.mono hhv67
 have hv36r := hv36r.mono hhv67
 have hf := hf.mono hhv67
 have hd := hd.mono hhv67
 have hgen := hgen.mono hhv67
 have hc := hc.mono hhv67
 have hv60r := hv60r.mono hhv67
 have ho := ho.mono hhv67
 have hk0 := hk0.mono hhv67
 refine rm rfl ?_
 refine rs rfl (s_extract rfl rfl rfl) ?_
 refine rs rfl (s_extract rfl rfl rfl) ?_
 refine rm rfl ?_
 refine rm rfl ?_
 apply run_end
 repeat apply wp_seq'
 refine wp_text rfl ?_
 refine run_call (vs := [_]) rfl rfl rfl rfl rfl rfl en66 (dihedral_fn 2 _) ?_
 intro v71 hv71 hv71r hhv71
 obtain ⟨sv71, rfl, htwo⟩ := hv71r
 rw [ev_dih2] at htwo ⊢
 dsimp only at htwo ⊢
 have hmi := hmi.mono hhv71
 have htu := htu.mono hhv71
 have hv36r := hv36r.mono hhv71
 have hf := hf.mono hhv71
 have hd := hd.mono hhv71
 have hgen := hgen.mono hhv71
 have hc := hc.mono hhv71
 have hv60r := hv60r.mono hhv71
 have ho := ho.mono hhv71
 have hk0 := hk0.mono hhv71
 have hk := hk.mono hhv71
 refine rm rfl ?_
 refine rs rfl (s_extract rfl rfl rfl) ?_
 refine rs rfl (s_extract rfl rfl rfl) ?_
 refine rm rfl ?_
 refine rm rfl ?_
 apply run_end
 repeat apply wp_seq'
 refine wp_text rfl ?_
 refine rm rfl ?_
 refine run_callv (vs := [_, _, _]) rfl rfl rfl rfl rfl rfl en36 (by have := burnside_small d2L 4 2 _ _ htwo ev_group2 (by decide) (by decide) (by rw [ev_burn]; decide); rw [ev_burn] at this; exact this) ?_
 refine rm rfl ?_
 refine rs rfl (s_extract rfl rfl rfl) ?_
 refine rs rfl (s_extract rfl rfl rfl) ?_
 refine rm rfl ?_
 refine rm rfl ?_
 apply run_end
 repeat apply wp_seq'
 refine wp_text rfl ?_
 refine rm rfl ?_
 refine run_call (vs := [_, _]) rfl rfl rfl rfl rfl rfl en21 (cellOrbits_fn d3L 9 _ _ hd) ?_
 intro v81 hv81 hv81r hhv81
 obtain ⟨sv81, rfl, hx⟩ := hv81r
 rw [ev_orb9] at hx ⊢
 dsimp only at hx ⊢
 have hmi := hmi.mono hhv81
 have htu := htu.mono hhv81
 have hv36r := hv36r.mono hhv81
 have hf := hf.mono hhv81
 have hd := hd.mono hhv81
 have hgen := hgen.mono hhv81
 have hc := hc.mono hhv81
 have hv60r := hv60r.mono hhv81
 have ho := ho.mono hhv81
 have hk0 := hk0.mono hhv81
 have hk := hk.mono hhv81
 have htwo := htwo.mono hhv81
 refine rm rfl ?_
 refine rs rfl (s_extract rfl rfl rfl) ?_
 refine rs rfl (s_extract rfl rfl rfl) ?_
 refine rm rfl ?_
 refine rm rfl ?_
 apply run_end
 repeat apply wp_seq'
 refine wp_text rfl ?_
 refine run_bsl (parts := [_, _]) (vs := [_, _]) rfl rfl rfl rfl rfl rfl (bs35_2 _ _) fun b4 h4 hh4 hb4 => ?_
 have hl1 := rdI_of (xs := [0, 1]) hb4 rfl rfl (Nat.le_of_ble_eq_true rfl)
 have hmi := hmi.mono hh4
 have htu := htu.mono hh4
 have hv36r := hv36r.mono hh4
 have hf := hf.mono hh4
 have hd := hd.mono hh4
 have hgen := hgen.mono hh4
 have hc := hc.mono hh4
 have hv60r := hv60r.mono hh4
 have ho := ho.mono hh4
 have hk0 := hk0.mono hh4
 have hk := hk.mono hh4
 have htwo := htwo.mono hh4
 have hx := hx.mono hh4
 refine run_bsl (parts := [_, _]) (vs := [_, _]) rfl rfl rfl rfl rfl rfl (bs35_2 _ _) fun b5 h5 hh5 hb5 => ?_
 have hl2 := rdI_of (xs := [2, 3]) hb5 rfl rfl (Nat.le_of_ble_eq_true rfl)
 have hmi := hmi.mono hh5
 have htu := htu.mono hh5
 have hv36r := hv36r.mono hh5
 have hf := hf.mono hh5
 have hd := hd.mono hh5
 have hgen := hgen.mono hh5
 have hc := hc.mono hh5
 have hv60r := hv60r.mono hh5
 have ho := ho.mono hh5
 have hk0 := hk0.mono hh5
 have hk := hk.mono hh5
 have htwo := htwo.mono hh5
 have hx := hx.mono hh5
 have hl1 := hl1.mono hh5
 refine run_bsl (parts := [_, _]) (vs := [_, _]) rfl rfl rfl rfl rfl rfl (bs35_2 _ _) fun b6 h6 hh6 hb6 => ?_
 have hl3 := rdI_of (xs := [0, 2]) hb6 rfl rfl (Nat.le_of_ble_eq_true rfl)
 have hmi := hmi.mono hh6
 have htu := htu.mono hh6
 have hv36r := hv36r.mono hh6
 have hf := hf.mono hh6
 have hd := hd.mono hh6
 have hgen := hgen.mono hh6
 have hc := hc.mono hh6
 have hv60r := hv60r.mono hh6
 have ho := ho.mono hh6
 have hk0 := hk0.mono hh6
 have hk := hk.mono hh6
 have htwo := htwo.mono hh6
 have hx := hx.mono hh6
 have hl1 := hl1.mono hh6
 have hl2 := hl2.mono hh6
 refine run_bsl (parts := [_, _]) (vs := [_, _]) rfl rfl rfl rfl rfl rfl (bs35_2 _ _) fun b7 h7 hh7 hb7 => ?_
 have hl4 := rdI_of (xs := [1, 3]) hb7 rfl rfl (Nat.le_of_ble_eq_true rfl)
 have hmi := hmi.mono hh7
 have htu := htu.mono hh7
 have hv36r := hv36r.mono hh7
 have hf := hf.mono hh7
 have hd := hd.mono hh7
 have hgen := hgen.mono hh7
 have hc := hc.mono hh7
 have hv60r := hv60r.mono hh7
 have ho := ho.mono hh7
 have hk0 := hk0.mono hh7
 have hk := hk.mono hh7
 have htwo := htwo.mono hh7
 have hx := hx.mono hh7
 have hl1 := hl1.mono hh7
 have hl2 := hl2.mono hh7
 have hl3 := hl3.mono hh7
 refine run_bsl (parts := [_, _, _, _]) (vs := [_, _, _, _]) rfl rfl rfl rfl rfl rfl (bs26_4 _ _ _ _ _ _ _ _ _ _ _ _) fun b89 h89 hh89 hb89 => ?_
 have hmi := hmi.mono hh89
 have htu := htu.mono hh89
 have hv36r := hv36r.mono hh89
 have hf := hf.mono hh89
 have hd := hd.mono hh89
 have hgen := hgen.mono hh89
 have hc := hc.mono hh89
 have hv60r := hv60r.mono hh89
 have ho := ho.mono hh89
 have hk0 := hk0.mono hh89
 have hk := hk.mono hh89
 have htwo := htwo.mono hh89
 have hx := hx.mono hh89
 have hl1 := hl1.mono hh89
 have hl2 := hl2.mono hh89
 have hl3 := hl3.mono hh89
 have hl4 := hl4.mono hh89
 have hsy : RdT h89 (.slice (some ⟨b89, 0, none⟩) 4 4) sysL := rdT_of hb89 (((((AllRd.nil h89).snoc hl1).snoc hl2).snoc hl3).snoc hl4) rfl (by decide)
 refine rs rfl (s_build2 rfl rfl rfl (b46_01 _ _ _ _)) ?_
 refine run_call (vs := [_]) rfl rfl rfl rfl rfl rfl en34 (automorphisms_fn 4 sysL _ _ hsy ⟨_, 4, rfl, Nat.le_refl _⟩) ?_
 intro v91 hv91 hv91r hhv91
 obtain ⟨sv91, rfl, ha⟩ := hv91r
 rw [ev_aut] at ha ⊢
 dsimp only at ha ⊢
 have hmi := hmi.mono hhv91
 have htu := htu.mono hhv91
 have hv36r := hv36r.mono hhv91
 have hf := hf.mono hhv91
 have hd := hd.mono hhv91
 have hgen := hgen.mono hhv91
 have hc := hc.mono hhv91
 have hv60r := hv60r.mono hhv91
 have ho := ho.mono hhv91
 have hk0 := hk0.mono hhv91
 have hk := hk.mono hhv91
 have htwo := htwo.mono hhv91
 have hx := hx.mono hhv91
 have hl1 := hl1.mono hhv91
 have hl2 := hl2.mono hhv91
 have hl3 := hl3.mono hhv91
 have hl4 := hl4.mono hhv91
 have hsy := hsy.mono hhv91
 refine rm rfl ?_
 refine rs rfl (s_extract rfl rfl rfl) ?_
 refine rs rfl (s_extract rfl rfl rfl) ?_
 refine rm rfl ?_
 refine rm rfl ?_
 apply run_end
 repeat apply wp_seq'
 refine wp_text rfl ?_
 refine run_bsl (parts := [_, _, _, _, _, _, _, _, _]) (vs := [_, _, _, _, _, _, _, _, _]) rfl rfl rfl rfl rfl rfl (bs35_9 _ _ _ _ _ _ _ _ _) fun b8 h8 hh8 hb8 => ?_
 have hi1 := rdI_of (xs := [0, 1, 2, 3, 4, 5, 6, 7, 8]) hb8 rfl rfl (Nat.le_of_ble_eq_true rfl)
 have hmi := hmi.mono hh8
 have htu := htu.mono hh8
 have hv36r := hv36r.mono hh8
 have hf := hf.mono hh8
 have hd := hd.mono hh8
 have hgen := hgen.mono hh8
 have hc := hc.mono hh8
 have hv60r := hv60r.mono hh8
 have ho := ho.mono hh8
 have hk0 := hk0.mono hh8
 have hk := hk.mono hh8
 have htwo := htwo.mono hh8
 have hx := hx.mono hh8
 have hl1 := hl1.mono hh8
 have hl2 := hl2.mono hh8
 have hl3 := hl3.mono hh8
 have hl4 := hl4.mono hh8
 have hsy := hsy.mono hh8
 have ha := ha.mono hh8
 refine rs rfl (s_build1 rfl rfl (b37_s _ _ _)) ?_
 refine run_bsl (parts := [_, _, _, _, _, _, _, _, _]) (vs := [_, _, _, _, _, _, _, _, _]) rfl rfl rfl rfl rfl rfl (bs35_9 _ _ _ _ _ _ _ _ _) fun b9 h9 hh9 hb9 => ?_
 have hi2 := rdI_of (xs := [8, 7, 6, 5, 4, 3, 2, 1, 0]) hb9 rfl rfl (Nat.le_of_ble_eq_true rfl)
 have hmi := hmi.mono hh9
 have htu := htu.mono hh9
 have hv36r := hv36r.mono hh9
 have hf := hf.mono hh9
 have hd := hd.mono hh9
 have hgen := hgen.mono hh9
 have hc := hc.mono hh9
 have hv60r := hv60r.mono hh9
 have ho := ho.mono hh9
 have hk0 := hk0.mono hh9
 have hk := hk.mono hh9
 have htwo := htwo.mono hh9
 have hx := hx.mono hh9
 have hl1 := hl1.mono hh9
 have hl2 := hl2.mono hh9
 have hl3 := hl3.mono hh9
 have hl4 := hl4.mono hh9
 have hsy := hsy.mono hh9
 have ha := ha.mono hh9
 have hi1 := hi1.mono hh9
 refine rs rfl (s_build1 rfl rfl (b37_s _ _ _)) ?_
 refine run_bsl (parts := [_, _]) (vs := [_, _]) rfl rfl rfl rfl rfl rfl (bs22_2 _ _ _ _ _ _ _ _) fun b98 h98 hh98 hb98 => ?_
 have hmi := hmi.mono hh98
 have htu := htu.mono hh98
 have hv36r := hv36r.mono hh98
 have hf := hf.mono hh98
 have hd := hd.mono hh98
 have hgen := hgen.mono hh98
 have hc := hc.mono hh98
 have hv60r := hv60r.mono hh98
 have ho := ho.mono hh98
 have hk0 := hk0.mono hh98
 have hk := hk.mono hh98
 have htwo := htwo.mono hh98
 have hx := hx.mono hh98
 have hl1 := hl1.mono hh98
 have hl2 := hl2.mono hh98
 have hl3 := hl3.mono hh98
 have hl4 := hl4.mono hh98
 have hsy := hsy.mono hh98
 have ha := ha.mono hh98
 have hi1 := hi1.mono hh98
 have hi2 := hi2.mono hh98
 have hha : RdS h98 (.slice (some ⟨b98, 0, none⟩) 2 2) halfL := rdS_of (ps := [(_, ([0, 1, 2, 3, 4, 5, 6, 7, 8], false)), (_, ([8, 7, 6, 5, 4, 3, 2, 1, 0], false))]) hb98 rfl (fun p hp => by simp only [List.mem_cons, List.not_mem_nil, or_false] at hp; rcases hp with rfl | rfl; exact hi1; exact hi2) rfl (Nat.le_of_ble_eq_true rfl)
 refine rm rfl ?_
 apply run_end
 repeat apply wp_seq'
 refine wp_text rfl ?_
 refine rm rfl ?_
 refine rm rfl ?_
 refine run_call (vs := [_, _, _]) rfl rfl rfl rfl rfl rfl en39 (cosets_fn d3L halfL 9 _ _ _ hd hha) ?_
 intro v102 h102 hv102 hh102
 obtain ⟨sv102, rfl, hq⟩ := hv102
 obtain ⟨ec1, ec2⟩ := ev_cos
 rw [ec1]
 have hmi := hmi.mono hh102
 have htu := htu.mono hh102
 have hv36r := hv36r.mono hh102
 have hf := hf.mono hh102
 have hd := hd.mono hh102
 have hgen := hgen.mono hh102
 have hc := hc.mono hh102
 have hv60r := hv60r.mono hh102
 have ho := ho.mono hh102
 have hk0 := hk0.mono hh102
 have hk := hk.mono hh102
 have htwo := htwo.mono hh102
 have hx := hx.mono hh102
 have hl1 := hl1.mono hh102
 have hl2 := hl2.mono hh102
 have hl3 := hl3.mono hh102
 have hl4 := hl4.mono hh102
 have hsy := hsy.mono hh102
 have ha := ha.mono hh102
 have hi1 := hi1.mono hh102
 have hi2 := hi2.mono hh102
 have hha := hha.mono hh102
 refine rm rfl ?_
 refine rs rfl (s_extract rfl rfl rfl) ?_
 refine rs rfl (s_extract rfl rfl rfl) ?_
 refine rm rfl ?_
 refine rm rfl ?_
 apply run_end
 repeat apply wp_seq'
 refine wp_text rfl ?_
 refine rm rfl ?_
 refine rm rfl ?_
 refine run_callv (vs := [_, _, _]) rfl rfl rfl rfl rfl rfl en40 (by have := isNormal_fn d3L halfL 9 _ _ _ hd hha; rw [ev_norm] at this; exact this) ?_
 refine rm rfl ?_
 refine rs rfl (s_extract rfl rfl rfl) ?_
 refine rs rfl (s_extract rfl rfl rfl) ?_
 refine rm rfl ?_
 refine rm rfl ?_
 apply run_end
 repeat apply wp_seq'
 refine wp_text rfl ?_
 refine run_call (vs := [_]) rfl rfl rfl rfl rfl rfl en68 (rowColumn_fn 4 _) ?_
 intro v112 h112 hv112 hh112
 obtain ⟨sv112, rfl, hrr⟩ := hv112
 obtain ⟨er1, er2⟩ := ev_rc
 rw [er1]
 have hmi := hmi.mono hh112
 have htu := htu.mono hh112
 have hv36r := hv36r.mono hh112
 have hf := hf.mono hh112
 have hd := hd.mono hh112
 have hgen := hgen.mono hh112
 have hc := hc.mono hh112
 have hv60r := hv60r.mono hh112
 have ho := ho.mono hh112
 have hk0 := hk0.mono hh112
 have hk := hk.mono hh112
 have htwo := htwo.mono hh112
 have hx := hx.mono hh112
 have hl1 := hl1.mono hh112
 have hl2 := hl2.mono hh112
 have hl3 := hl3.mono hh112
 have hl4 := hl4.mono hh112
 have hsy := hsy.mono hh112
 have ha := ha.mono hh112
 have hi1 := hi1.mono hh112
 have hi2 := hi2.mono hh112
 have hha := hha.mono hh112
 have hq := hq.mono hh112
 refine rm rfl ?_
 refine rs rfl (s_extract rfl rfl rfl) ?_
 refine rs rfl (s_extract rfl rfl rfl) ?_
 refine rm rfl ?_
 refine rm rfl ?_
 apply run_end
 repeat apply wp_seq'
 refine wp_text rfl ?_
 refine rm rfl ?_
 refine rm rfl ?_
 refine rs rfl (s_add (q := 0) rfl rfl rfl rfl) ?_
 refine rm rfl ?_
 refine rs rfl (s_add (q := 0) rfl rfl rfl rfl) ?_
 refine rm rfl ?_
 refine rs rfl (s_add (q := 0) rfl rfl rfl rfl) ?_
 refine rm rfl ?_
 refine rs rfl (s_add (q := 0) rfl rfl rfl rfl) ?_
 refine rm rfl ?_
 refine rs rfl (s_add (q := 0) rfl rfl rfl rfl) ?_
 refine rm rfl ?_
 refine rs rfl (s_add (q := 0) rfl rfl rfl rfl) ?_
 refine rm rfl ?_
 refine rs rfl (s_add (q := 0) rfl rfl rfl rfl) ?_
 refine rm rfl ?_
 refine rs rfl (s_add (q := 0) rfl rfl rfl rfl) ?_
 refine rm rfl ?_
 refine rs rfl (s_add (q := 0) rfl rfl rfl rfl) ?_
 refine rm rfl ?_
 refine rs rfl (s_add (q := 0) rfl rfl rfl rfl) ?_
 refine rm rfl ?_
 refine rs rfl (s_add (q := 0) rfl rfl rfl rfl) ?_
 refine rm rfl ?_
 refine rs rfl (s_add (q := 0) rfl rfl rfl rfl) ?_
 refine rs rfl (s_neK (q := false) rfl rfl rfl rfl) ?_
 refine rm rfl ?_
 refine rsg rfl rfl (s_move rfl rfl) ?_
 refine rsg rfl rfl (s_neK (q := false) rfl rfl rfl rfl) ?_
 refine rs rfl (s_pick rfl rfl (fun h => by cases h) (fun _ => rfl)) ?_
 refine rm rfl ?_
 refine rsg rfl rfl (s_move rfl rfl) ?_
 refine rsg rfl rfl (s_nesK (q := false) rfl rfl rfl ev_str) ?_
 refine rs rfl (s_pick rfl rfl (fun h => by cases h) (fun _ => rfl)) ?_
 refine rm rfl ?_
 refine rsg rfl rfl (s_move rfl rfl) ?_
 refine rsg rfl rfl (s_lenT ho rfl rfl underlying26) ?_
 refine rsg rfl rfl (s_neK (q := false) rfl rfl rfl (by rw [eo2]; rfl)) ?_
 refine rs rfl (s_pick rfl rfl (fun h => by cases h) (fun _ => rfl)) ?_
 refine rm rfl ?_
 refine rsg rfl rfl (s_move rfl rfl) ?_
 refine rsg rfl rfl (s_lenS hq rfl rfl underlying22) ?_
 refine rsg rfl rfl (s_neK (q := false) rfl rfl rfl (by rw [ec2]; rfl)) ?_
 refine rs rfl (s_pick rfl rfl (fun h => by cases h) (fun _ => rfl)) ?_
 refine rm rfl ?_
 refine rsg rfl rfl (s_move rfl rfl) ?_
 refine rsg rfl rfl (s_notK (q := false) rfl rfl rfl) ?_
 refine rs rfl (s_pick rfl rfl (fun h => by cases h) (fun _ => rfl)) ?_
 refine rm rfl ?_
 refine rsg rfl rfl (s_move rfl rfl) ?_
 refine rsg rfl rfl (s_lenS hrr rfl rfl underlying22) ?_
 refine rsg rfl rfl (s_neK (q := false) rfl rfl rfl (by rw [er2]; rfl)) ?_
 refine rs rfl (s_pick rfl rfl (fun h => by cases h) (fun _ => rfl)) ?_
 refine rm rfl ?_
 refine rsg rfl rfl (s_move rfl rfl) ?_
 refine rsg rfl rfl (s_lenS hd rfl rfl underlying22) ?_
 refine rsg rfl rfl (s_neK (q := false) rfl rfl rfl rfl) ?_
 refine rs rfl (s_pick rfl rfl (fun h => by cases h) (fun _ => rfl)) ?_
 apply run_end
 repeat apply wp_seq'
 refine wp_cond' (b := false) rfl (fun h => by cases h) (fun _ => ?_)
 apply wp_skip'
 repeat apply wp_seq'
 refine wp_text rfl ?_
 refine rm rfl ?_
 refine run_bsl (parts := [_, _, _, _, _, _, _, _, _]) (vs := [_, _, _, _, _, _, _, _, _]) rfl rfl rfl rfl rfl rfl (bs35_9 _ _ _ _ _ _ _ _ _) fun b10 h10 hh10 hb10 => ?_
 have hf2 := rdI_of (xs := [4, 3, 8, 9, 5, 1, 2, 7, 6]) hb10 rfl rfl (Nat.le_of_ble_eq_true rfl)
 have hmi := hmi.mono hh10
 have htu := htu.mono hh10
 have hv36r := hv36r.mono hh10
 have hf := hf.mono hh10
 have hd := hd.mono hh10
 have hgen := hgen.mono hh10
 have hc := hc.mono hh10
 have hv60r := hv60r.mono hh10
 have ho := ho.mono hh10
 have hk0 := hk0.mono hh10
 have hk := hk.mono hh10
 have htwo := htwo.mono hh10
 have hx := hx.mono hh10
 have hl1 := hl1.mono hh10
 have hl2 := hl2.mono hh10
 have hl3 := hl3.mono hh10
 have hl4 := hl4.mono hh10
 have hsy := hsy.mono hh10
 have ha := ha.mono hh10
 have hi1 := hi1.mono hh10
 have hi2 := hi2.mono hh10
 have hha := hha.mono hh10
 have hq := hq.mono hh10
 have hrr := hrr.mono hh10
 refine run_callv (vs := [_, _]) rfl rfl rfl rfl rfl rfl en82 (sameI_yes _ _ _ _ _ hf hf2 rfl) ?_
 refine rs rfl (s_notK (q := false) rfl rfl rfl) ?_
 refine rm rfl ?_
 refine rsg rfl rfl (s_move rfl rfl) ?_
 refine run_callg (vs := []) rfl rfl rfl rfl rfl rfl rfl rfl en89 (shu_fn _) ?_
 intro v179 hv179 hv179r hhv179
 have hmi := hmi.mono hhv179
 have htu := htu.mono hhv179
 have hv36r := hv36r.mono hhv179
 have hf := hf.mono hhv179
 have hd := hd.mono hhv179
 have hgen := hgen.mono hhv179
 have hc := hc.mono hhv179
 have hv60r := hv60r.mono hhv179
 have ho := ho.mono hhv179
 have hk0 := hk0.mono hhv179
 have hk := hk.mono hhv179
 have htwo := htwo.mono hhv179
 have hx := hx.mono hhv179
 have hl1 := hl1.mono hhv179
 have hl2 := hl2.mono hhv179
 have hl3 := hl3.mono hhv179
 have hl4 := hl4.mono hhv179
 have hsy := hsy.mono hhv179
 have ha := ha.mono hhv179
 have hi1 := hi1.mono hhv179
 have hi2 := hi2.mono hhv179
 have hha := hha.mono hhv179
 have hq := hq.mono hhv179
 have hrr := hrr.mono hhv179
 have hf2 := hf2.mono hhv179
 refine run_callvg (vs := [_, _]) rfl rfl rfl rfl rfl rfl rfl rfl en82 (sameI_yes _ _ _ _ _ hk hv179r rfl) ?_
 refine rsg rfl rfl (s_notK (q := false) rfl rfl rfl) ?_
 refine rs rfl (s_pick rfl rfl (fun h => by cases h) (fun _ => rfl)) ?_
 refine rm rfl ?_
 refine rsg rfl rfl (s_move rfl rfl) ?_
 refine rsg rfl rfl (s_move rfl rfl) ?_
 refine run_callvg (vs := [_, _]) rfl rfl rfl rfl rfl rfl rfl rfl en69 (sameL_yes _ _ _ _ _ hc hd rfl) ?_
 refine rsg rfl rfl (s_notK (q := false) rfl rfl rfl) ?_
 refine rs rfl (s_pick rfl rfl (fun h => by cases h) (fun _ => rfl)) ?_
 refine rm rfl ?_
 refine rsg rfl rfl (s_move rfl rfl) ?_
 refine rsg rfl rfl (s_move rfl rfl) ?_
 refine run_callvg (vs := [_, _]) rfl rfl rfl rfl rfl rfl rfl rfl en69 (sameL_yes _ _ _ _ _ ha htwo rfl) ?_
 refine rsg rfl rfl (s_notK (q := false) rfl rfl rfl) ?_
 refine rs rfl (s_pick rfl rfl (fun h => by cases h) (fun _ => rfl)) ?_
 apply run_end
 repeat apply wp_seq'
 refine wp_cond' (b := false) rfl (fun h => by cases h) (fun _ => ?_)
 apply wp_skip'
 repeat apply wp_seq'
 refine wp_text rfl ?_
 refine rm rfl ?_
 refine run_bsl (parts := [_, _, _, _]) (vs := [_, _, _, _]) rfl rfl rfl rfl rfl rfl (bs35_4 _ _ _ _) fun b11 h11 hh11 hb11 => ?_
 have hx1 := rdI_of (xs := [0, 2, 6, 8]) hb11 rfl rfl (Nat.le_of_ble_eq_true rfl)
 have hmi := hmi.mono hh11
 have htu := htu.mono hh11
 have hv36r := hv36r.mono hh11
 have hf := hf.mono hh11
 have hd := hd.mono hh11
 have hgen := hgen.mono hh11
 have hc := hc.mono hh11
 have hv60r := hv60r.mono hh11
 have ho := ho.mono hh11
 have hk0 := hk0.mono hh11
 have hk := hk.mono hh11
 have htwo := htwo.mono hh11
 have hx := hx.mono hh11
 have hl1 := hl1.mono hh11
 have hl2 := hl2.mono hh11
 have hl3 := hl3.mono hh11
 have hl4 := hl4.mono hh11
 have hsy := hsy.mono hh11
 have ha := ha.mono hh11
 have hi1 := hi1.mono hh11
 have hi2 := hi2.mono hh11
 have hha := hha.mono hh11
 have hq := hq.mono hh11
 have hrr := hrr.mono hh11
 have hf2 := hf2.mono hh11
 have hv179r := hv179r.mono hh11
 refine run_bsl (parts := [_, _, _, _]) (vs := [_, _, _, _]) rfl rfl rfl rfl rfl rfl (bs35_4 _ _ _ _) fun b12 h12 hh12 hb12 => ?_
 have hx2 := rdI_of (xs := [1, 3, 5, 7]) hb12 rfl rfl (Nat.le_of_ble_eq_true rfl)
 have hmi := hmi.mono hh12
 have htu := htu.mono hh12
 have hv36r := hv36r.mono hh12
 have hf := hf.mono hh12
 have hd := hd.mono hh12
 have hgen := hgen.mono hh12
 have hc := hc.mono hh12
 have hv60r := hv60r.mono hh12
 have ho := ho.mono hh12
 have hk0 := hk0.mono hh12
 have hk := hk.mono hh12
 have htwo := htwo.mono hh12
 have hx := hx.mono hh12
 have hl1 := hl1.mono hh12
 have hl2 := hl2.mono hh12
 have hl3 := hl3.mono hh12
 have hl4 := hl4.mono hh12
 have hsy := hsy.mono hh12
 have ha := ha.mono hh12
 have hi1 := hi1.mono hh12
 have hi2 := hi2.mono hh12
 have hha := hha.mono hh12
 have hq := hq.mono hh12
 have hrr := hrr.mono hh12
 have hf2 := hf2.mono hh12
 have hv179r := hv179r.mono hh12
 have hx1 := hx1.mono hh12
 refine run_bsl (parts := [_]) (vs := [_]) rfl rfl rfl rfl rfl rfl (bs35_1 _) fun b13 h13 hh13 hb13 => ?_
 have hx3 := rdI_of (xs := [4]) hb13 rfl rfl (Nat.le_of_ble_eq_true rfl)
 have hmi := hmi.mono hh13
 have htu := htu.mono hh13
 have hv36r := hv36r.mono hh13
 have hf := hf.mono hh13
 have hd := hd.mono hh13
 have hgen := hgen.mono hh13
 have hc := hc.mono hh13
 have hv60r := hv60r.mono hh13
 have ho := ho.mono hh13
 have hk0 := hk0.mono hh13
 have hk := hk.mono hh13
 have htwo := htwo.mono hh13
 have hx := hx.mono hh13
 have hl1 := hl1.mono hh13
 have hl2 := hl2.mono hh13
 have hl3 := hl3.mono hh13
 have hl4 := hl4.mono hh13
 have hsy := hsy.mono hh13
 have ha := ha.mono hh13
 have hi1 := hi1.mono hh13
 have hi2 := hi2.mono hh13
 have hha := hha.mono hh13
 have hq := hq.mono hh13
 have hrr := hrr.mono hh13
 have hf2 := hf2.mono hh13
 have hv179r := hv179r.mono hh13
 have hx1 := hx1.mono hh13
 have hx2 := hx2.mono hh13
 refine run_bsl (parts := [_, _, _]) (vs := [_, _, _]) rfl rfl rfl rfl rfl rfl (bs26_3 _ _ _ _ _ _ _ _ _) fun b199 h199 hh199 hb199 => ?_
 have hmi := hmi.mono hh199
 have htu := htu.mono hh199
 have hv36r := hv36r.mono hh199
 have hf := hf.mono hh199
 have hd := hd.mono hh199
 have hgen := hgen.mono hh199
 have hc := hc.mono hh199
 have hv60r := hv60r.mono hh199
 have ho := ho.mono hh199
 have hk0 := hk0.mono hh199
 have hk := hk.mono hh199
 have htwo := htwo.mono hh199
 have hx := hx.mono hh199
 have hl1 := hl1.mono hh199
 have hl2 := hl2.mono hh199
 have hl3 := hl3.mono hh199
 have hl4 := hl4.mono hh199
 have hsy := hsy.mono hh199
 have ha := ha.mono hh199
 have hi1 := hi1.mono hh199
 have hi2 := hi2.mono hh199
 have hha := hha.mono hh199
 have hq := hq.mono hh199
 have hrr := hrr.mono hh199
 have hf2 := hf2.mono hh199
 have hv179r := hv179r.mono hh199
 have hx1 := hx1.mono hh199
 have hx2 := hx2.mono hh199
 have hx3 := hx3.mono hh199
 have hx4 : RdT h199 (.slice (some ⟨b199, 0, none⟩) 3 3) [[0, 2, 6, 8], [1, 3, 5, 7], [4]] := rdT_of hb199 ((((AllRd.nil h199).snoc hx1).snoc hx2).snoc hx3) rfl (by decide)
 refine run_callv (vs := [_, _]) rfl rfl rfl rfl rfl rfl en81 (sameT_yes _ _ _ _ _ hx hx4 rfl) ?_
 refine rm rfl ?_
 apply run_end
 apply wp_ret'
 exact fin_ret (res_tmp rfl rfl) rfl
end Go.Tal

/-
 What is read of any length: lists as they come in; readings of arguments.
-/
namespace Go.Tal
open Go.RowKit
/-- A slice of integers, of any length. -/
def RdI0 (h : H) (v : Value) (xs : List Int) : Prop :=
 ∃ A c, v = .slice A xs.length c ∧ xs.length ≤ 9223372036854775807 ∧ (0 < xs.length → ∃ b o, A = some ⟨b, o, none⟩ ∧ ∃ arr t fz, h b = some (.cells arr t fz) ∧ ∀ j, j < xs.length → arr[o + j]? = some (.int .i64 (xs.getD j 0)))
theorem RdI0.toI {h : H} {v : Value} {xs : List Int} (r : RdI0 h v xs) (hl : xs.length ≤ 4294967296) : RdI h v xs := by
 obtain ⟨A, c, e, _, hr⟩ := r
 exact ⟨A, c, e, hl, hr⟩
theorem RdI.to0 {h : H} {v : Value} {xs : List Int} (r : RdI h v xs) : RdI0 h v xs := by
 obtain ⟨A, c, e, hl, hr⟩ := r
 exact ⟨A, c, e, by omega, hr⟩
theorem RdI0.mono {h h' : H} {v : Value} {xs : List Int} (r : RdI0 h v xs) (hh : ∀ b o, h b = some o → h' b = some o) : RdI0 h' v xs := by
 obtain ⟨A, c, e, hm, hr⟩ := r
 exact ⟨A, c, e, hm, fun hp => by obtain ⟨b, o, e1, arr, t, fz, h1, h2⟩ := hr hp; exact ⟨b, o, e1, arr, t, fz, hh _ _ h1, h2⟩⟩
theorem RdI0.len {h : H} {v : Value} {l : List Int} (r : RdI0 h v l) : l.length ≤ 9223372036854775807 := by obtain ⟨_, _, _, h1, _⟩ := r; exact h1
/-- A slice of symmetries, of any length. -/
def RdS0 (h : H) (v : Value) (l : List Sy) : Prop :=
 ∃ A c, v = .slice A l.length c ∧ l.length ≤ 9223372036854775807 ∧ (0 < l.length → ∃ b o, A = some ⟨b, o, none⟩ ∧ ∃ arr t fz, h b = some (.cells arr t fz) ∧
  ∀ j, j < l.length → ∃ sv, arr[o + j * 2]? = some sv ∧ arr[o + j * 2 + 1]? = some (.bool (l.getD j ([], false)).2) ∧ RdI0 h sv (l.getD j ([], false)).1)
theorem RdS0.toS {h : H} {v : Value} {l : List Sy} (r : RdS0 h v l) (hl : l.length ≤ 4294967296) (hi : ∀ a ∈ l, a.1.length ≤ 4294967296) : RdS h v l := by
 obtain ⟨A, c, e, _, hr⟩ := r
 refine ⟨A, c, e, hl, fun hp => ?_⟩
 obtain ⟨b, o, e1, arr, t, fz, h1, h2⟩ := hr hp
 refine ⟨b, o, e1, arr, t, fz, h1, fun j hj => ?_⟩
 obtain ⟨sv, h3, h4, h5⟩ := h2 j hj
 refine ⟨sv, h3, h4, h5.toI (hi _ ?_)⟩
 rw [List.getD_eq_getElem?_getD, List.getElem?_eq_getElem hj]
 exact List.getElem_mem hj
theorem RdS0.mono {h h' : H} {v : Value} {l : List Sy} (r : RdS0 h v l) (hh : ∀ b o, h b = some o → h' b = some o) : RdS0 h' v l := by
 obtain ⟨A, c, e, hm, hr⟩ := r
 refine ⟨A, c, e, hm, fun hp => ?_⟩
 obtain ⟨b, o, e1, arr, t, fz, h1, h2⟩ := hr hp
 exact ⟨b, o, e1, arr, t, fz, hh _ _ h1, fun j hj => by obtain ⟨sv, h3, h4, h5⟩ := h2 j hj; exact ⟨sv, h3, h4, h5.mono hh⟩⟩
theorem RdS0.len {h : H} {v : Value} {l : List Sy} (r : RdS0 h v l) : l.length ≤ 9223372036854775807 := by obtain ⟨_, _, _, h1, _⟩ := r; exact h1
theorem RdS0.get {h : H} {v : Value} {l : List Sy} (r : RdS0 h v l) {j : Nat} (hj : j < l.length) : ∃ sv, RdI0 h sv (l.getD j ([], false)).1 ∧ SyAt h v j sv (l.getD j ([], false)).2 := by
 obtain ⟨A, c, e, hm, hr⟩ := r
 obtain ⟨b, o, e1, arr, t, fz, h1, h2⟩ := hr (by omega)
 obtain ⟨sv, h3, h4, h5⟩ := h2 j hj
 exact ⟨sv, h5, ⟨⟨b, o, _, c, arr, t, fz, by rw [e, e1], h1, h3, h4⟩⟩⟩
/-- A slice of slices of integers, of any length. -/
def RdT0 (h : H) (v : Value) (l : List (List Int)) : Prop :=
 ∃ A c, v = .slice A l.length c ∧ l.length ≤ c ∧ l.length ≤ 9223372036854775807 ∧ (0 < l.length → ∃ b o, A = some ⟨b, o, none⟩ ∧ ∃ arr t fz, h b = some (.cells arr t fz) ∧
  ∀ j, j < l.length → ∃ sv, arr[o + j]? = some sv ∧ RdI0 h sv (l.getD j []))
theorem RdT0.toT {h : H} {v : Value} {l : List (List Int)} (r : RdT0 h v l) (hl : l.length ≤ 4294967296) (hi : ∀ a ∈ l, a.length ≤ 4294967296) : RdT h v l := by
 obtain ⟨A, c, e, _, _, hr⟩ := r
 refine ⟨A, c, e, hl, fun hp => ?_⟩
 obtain ⟨b, o, e1, arr, t, fz, h1, h2⟩ := hr hp
 refine ⟨b, o, e1, arr, t, fz, h1, fun j hj => ?_⟩
 obtain ⟨sv, h3, h4⟩ := h2 j hj
 refine ⟨sv, h3, h4.toI (hi _ ?_)⟩
 rw [List.getD_eq_getElem?_getD, List.getElem?_eq_getElem hj]
 exact List.getElem_mem hj
theorem RdS.to0 {h : H} {v : Value} {l : List Sy} (r : RdS h v l) : RdS0 h v l := by
 obtain ⟨A, c, e, hm, hr⟩ := r
 refine ⟨A, c, e, by omega, fun hp => ?_⟩
 obtain ⟨b, o, e1, arr, t, fz, h1, h2⟩ := hr hp
 exact ⟨b, o, e1, arr, t, fz, h1, fun j hj => by obtain ⟨sv, h3, h4, h5⟩ := h2 j hj; exact ⟨sv, h3, h4, h5.to0⟩⟩
section
variable {P : Program} {o : Oper} {F : List (Nat × Value)} {h : H} {L : List Own} {v : Value} {x y : Operand} {l : List Sy} {xs : List Int} {m : Int} {k : IntKind}
theorem s_lenI0 {t e : TypeId} (r : RdI0 h v xs) (ho : o.op = .call { callee := .builtin .len, args := #[x], argTypes := #[t] }) (hx : evF F x = some v) (ht : P.underlying t = some (.slice e)) : SoftOk P o F h L (.int .i64 xs.length) := by
 obtain ⟨A, c, e1, _⟩ := r
 subst e1
 exact s_len ho hx ht
theorem s_lenS0 {t e : TypeId} (r : RdS0 h v l) (ho : o.op = .call { callee := .builtin .len, args := #[x], argTypes := #[t] }) (hx : evF F x = some v) (ht : P.underlying t = some (.slice e)) : SoftOk P o F h L (.int .i64 l.length) := by
 obtain ⟨A, c, e1, _⟩ := r
 subst e1
 exact s_len ho hx ht
theorem s_iaS0 {t e : TypeId} (r : RdS0 h v l) (h0 : 0 ≤ m) (h1 : m < l.length) (ho : o.op = .indexAddr t x y) (hx : evF F x = some v) (hy : evF F y = some (.int k m)) (ht : P.underlying t = some (.slice e)) (hs : ∀ w, (sizeOf e).run P w = .ok 2 w) : SoftOk P o F h L (elemPtr 2 v m) := by
 obtain ⟨A, c, e1, _, hr⟩ := r
 obtain ⟨b, o', e2, _⟩ := hr (by omega)
 exact s_iav ho hx e1 (by rw [e2]; rfl) hy ht hs h0 h1
theorem s_iaI0 {t e : TypeId} (r : RdI0 h v xs) (h0 : 0 ≤ m) (h1 : m < xs.length) (ho : o.op = .indexAddr t x y) (hx : evF F x = some v) (hy : evF F y = some (.int k m)) (ht : P.underlying t = some (.slice e)) (hs : ∀ w, (sizeOf e).run P w = .ok 1 w) : SoftOk P o F h L (elemPtr 1 v m) := by
 obtain ⟨A, c, e1, _, hr⟩ := r
 obtain ⟨b, o', e2, _⟩ := hr (by omega)
 exact s_iav ho hx e1 (by rw [e2]; rfl) hy ht hs h0 h1
end
/-! ### arguments -/
/-- The memory of a world. -/
def memH (W : World) : H := fun b => W.heap[b]?
theorem cell_get {W : World} {b k : Nat} {sp : Option Nat} {v : Value} (h : W.cell? ⟨b, k, sp⟩ = some v) : sp = none ∧ ∃ arr t fz, memH W b = some (.cells arr t fz) ∧ arr[k]? = some v := by
 unfold World.cell? at h
 unfold memH
 dsimp only at h
 split at h
 ·rename_i c t fz hb
  split at h
  ·cases h
  ·rename_i hs
   refine ⟨by simpa using hs, c, t, fz, hb, h⟩
 ·cases h
theorem add_none0 (b o n : Nat) : (⟨b, o, none⟩ : Addr).add n = ⟨b, o + n, none⟩ := by
 unfold Addr.add
 split <;> simp_all
theorem choose_list {α : Type} (d : α) {p : Nat → α → Prop} : ∀ n : Nat, (∀ i, i < n → ∃ x, p i x) → ∃ l : List α, l.length = n ∧ ∀ i, i < n → p i (l.getD i d)
 | 0, _ => ⟨[], rfl, fun i h => by omega⟩
 | n + 1, h => by
  obtain ⟨l, hl, hp⟩ := choose_list d n fun i hi => h i (by omega)
  obtain ⟨x, hx⟩ := h n (by omega)
  refine ⟨l ++ [x], by simp [hl], fun i hi => ?_⟩
  by_cases e : i = n
  ·subst e
   have : (l ++ [x]).getD i d = x := by rw [List.getD_eq_getElem?_getD, ← hl]; simp
   rw [this]; exact hx
  ·have : (l ++ [x]).getD i d = l.getD i d := by rw [List.getD_eq_getElem?_getD, List.getElem?_append_left (by omega), ← List.getD_eq_getElem?_getD]
   rw [this]; exact hp i (by omega)
section
variable {H' : Type} {enc : TypeId × Value → H'} {P : Program} {W : World} {base : Nat} {sp : Nat → Bool} {held : Bool} {fuel : Nat} {t e : TypeId} {v : Value} {x : DataW H' × List MemPlace}
theorem rdI0_trod (ht : P.underlying t = some (.slice e)) (he : P.underlying e = some (.int .i64)) (hc : P.cellsOf e = 1) (h : DataW.trod enc P W base sp held fuel t [v] = some x) : ∃ xs, RdI0 (memH W) v xs := by
 rcases DataW.trod_slice ht h with ⟨hcs, _⟩ | ⟨a, len, cap, elems, rest, n, _, hcs, _, _, hl, hm, hlen, hel, _, _⟩
 ·simp only [List.cons.injEq, and_true] at hcs
  subst hcs
  exact ⟨[], none, 0, rfl, by simp, fun h => absurd h (by simp)⟩
 ·simp only [List.cons.injEq, and_true] at hcs
  subst hcs
  have each : ∀ i, i < len → ∃ z : Int, W.cell? (a.add i) = some (.int .i64 z) := fun i hi => by
   have h1 := hel i hi
   rw [hc, Nat.mul_one, List.getElem?_eq_getElem (by omega), Option.bind_eq_some_iff] at h1
   obtain ⟨cs, h2, h3⟩ := h1
   obtain ⟨z, rfl, _, _⟩ := DataW.trod_int he h3
   have h4 := (World.cells?_some h2).2.2 0 (by omega)
   refine ⟨z, ?_⟩
   have e0 : (a.add i).add 0 = a.add i := by simp [Addr.add]
   rw [e0] at h4
   exact h4
  obtain ⟨zs, hz, hzs⟩ := choose_list (0 : Int) len each
  subst hz
  refine ⟨zs, some a, cap, rfl, Nat.le_trans hl hm, fun hp => ?_⟩
  obtain ⟨b, o, s⟩ := a
  have h0 := hzs 0 hp
  have e0 : (⟨b, o, s⟩ : Addr).add 0 = ⟨b, o, s⟩ := by simp [Addr.add]
  rw [e0] at h0
  obtain ⟨rfl, arr, t', fz, hb, _⟩ := cell_get h0
  refine ⟨b, o, rfl, arr, t', fz, hb, fun j hj => ?_⟩
  have hj' := hzs j hj
  rw [add_none0] at hj'
  obtain ⟨_, arr', t'', fz', hb', hg⟩ := cell_get hj'
  rw [hb] at hb'
  cases hb'
  exact hg
theorem rdS0_trod {f0 f1 : Field} {e' : TypeId} (ht : P.underlying t = some (.slice e)) (he : P.underlying e = some (.struct #[f0, f1])) (hc : P.cellsOf e = 2) (ho0 : f0.offset = 0) (ho1 : f1.offset = 1) (hc0 : P.cellsOf f0.type = 1) (hc1 : P.cellsOf f1.type = 1)
 (h0 : P.underlying f0.type = some (.slice e')) (h1 : P.underlying f1.type = some .bool) (hi : P.underlying e' = some (.int .i64)) (hci : P.cellsOf e' = 1) (h : DataW.trod enc P W base sp held fuel t [v] = some x) : ∃ l, RdS0 (memH W) v l := by
 rcases DataW.trod_slice ht h with ⟨hcs, _⟩ | ⟨a, len, cap, elems, rest, n, _, hcs, _, _, hl, hm, hlen, hel, _, _⟩
 ·simp only [List.cons.injEq, and_true] at hcs
  subst hcs
  exact ⟨[], none, 0, rfl, by simp, fun h => absurd h (by simp)⟩
 ·simp only [List.cons.injEq, and_true] at hcs
  subst hcs
  have each : ∀ i, i < len → ∃ p : Sy, ∃ sv, W.cell? ((a.add (i * 2)).add 0) = some sv ∧ W.cell? ((a.add (i * 2)).add 1) = some (.bool p.2) ∧ RdI0 (memH W) sv p.1 := fun i hi' => by
   have h2 := hel i hi'
   rw [hc, List.getElem?_eq_getElem (by omega), Option.bind_eq_some_iff] at h2
   obtain ⟨cs, h3, h4⟩ := h2
   obtain ⟨_, hcl, hcell⟩ := World.cells?_some h3
   obtain ⟨xs, m, _, _, _, hxs, hf⟩ := DataW.trod_struct he h4
   match cs, hcl with
   | [c0, c1], _ =>
    have k0 := hf 0 f0 rfl
    have k1 := hf 1 f1 rfl
    simp only [List.size_toArray, List.length_cons, List.length_nil] at hxs
    rw [ho0, hc0, List.getElem?_eq_getElem (by omega)] at k0
    rw [ho1, hc1, List.getElem?_eq_getElem (by omega)] at k1
    obtain ⟨zs, hz⟩ := rdI0_trod h0 hi hci (v := c0) k0
    obtain ⟨bm, hb, _⟩ := DataW.trod_bool h1 k1
    simp only [List.drop_succ_cons, List.drop_zero, List.take_succ_cons, List.take_zero, List.cons.injEq, and_true] at hb
    subst hb
    exact ⟨(zs, bm), c0, hcell 0 (by omega), hcell 1 (by omega), hz⟩
  obtain ⟨l, hz, hzs⟩ := choose_list (([], false) : Sy) len each
  subst hz
  refine ⟨l, some a, cap, rfl, Nat.le_trans hl hm, fun hp => ?_⟩
  obtain ⟨b, o, s⟩ := a
  obtain ⟨sv0, c00, _, _⟩ := hzs 0 hp
  have e0 : ((⟨b, o, s⟩ : Addr).add (0 * 2)).add 0 = ⟨b, o, s⟩ := by simp [Addr.add]
  rw [e0] at c00
  obtain ⟨rfl, arr, t', fz, hb, _⟩ := cell_get c00
  refine ⟨b, o, rfl, arr, t', fz, hb, fun j hj => ?_⟩
  obtain ⟨sv, c0, c1, hr⟩ := hzs j hj
  rw [add_none0, add_none0] at c0 c1
  obtain ⟨_, a1, t1, z1, hb1, g1⟩ := cell_get c0
  rw [hb] at hb1
  cases hb1
  obtain ⟨_, a2, t2, z2, hb2, g2⟩ := cell_get c1
  rw [hb] at hb2
  cases hb2
  exact ⟨sv, g1, g2, hr⟩
theorem rdT0_trod {e' : TypeId} (ht : P.underlying t = some (.slice e)) (he : P.underlying e = some (.slice e')) (hc : P.cellsOf e = 1) (hi : P.underlying e' = some (.int .i64)) (hci : P.cellsOf e' = 1) (h : DataW.trod enc P W base sp held fuel t [v] = some x) : ∃ l, RdT0 (memH W) v l := by
 rcases DataW.trod_slice ht h with ⟨hcs, _⟩ | ⟨a, len, cap, elems, rest, n, _, hcs, _, _, hl, hm, hlen, hel, _, _⟩
 ·simp only [List.cons.injEq, and_true] at hcs
  subst hcs
  exact ⟨[], none, 0, rfl, by simp, by simp, fun h => absurd h (by simp)⟩
 ·simp only [List.cons.injEq, and_true] at hcs
  subst hcs
  have each : ∀ i, i < len → ∃ zs : List Int, ∃ sv, W.cell? (a.add i) = some sv ∧ RdI0 (memH W) sv zs := fun i hi' => by
   have h1 := hel i hi'
   rw [hc, Nat.mul_one, List.getElem?_eq_getElem (by omega), Option.bind_eq_some_iff] at h1
   obtain ⟨cs, h2, h3⟩ := h1
   obtain ⟨_, hcl, hcell⟩ := World.cells?_some h2
   match cs, hcl with
   | [c0], _ =>
    obtain ⟨zs, hz⟩ := rdI0_trod he hi hci (v := c0) h3
    have h4 := hcell 0 (by omega)
    have e0 : (a.add i).add 0 = a.add i := by simp [Addr.add]
    rw [e0] at h4
    exact ⟨zs, c0, h4, hz⟩
  obtain ⟨l, hz, hzs⟩ := choose_list ([] : List Int) len each
  subst hz
  refine ⟨l, some a, cap, rfl, hl, Nat.le_trans hl hm, fun hp => ?_⟩
  obtain ⟨b, o, s⟩ := a
  obtain ⟨sv0, c00, _⟩ := hzs 0 hp
  have e0 : (⟨b, o, s⟩ : Addr).add 0 = ⟨b, o, s⟩ := by simp [Addr.add]
  rw [e0] at c00
  obtain ⟨rfl, arr, t', fz, hb, _⟩ := cell_get c00
  refine ⟨b, o, rfl, arr, t', fz, hb, fun j hj => ?_⟩
  obtain ⟨sv, c0, hr⟩ := hzs j hj
  rw [add_none0] at c0
  obtain ⟨_, a1, t1, z1, hb1, g1⟩ := cell_get c0
  rw [hb] at hb1
  cases hb1
  exact ⟨sv, g1, hr⟩
end
end Go.Tal
