/-
  Part 5: symbolic states for walks, contracts of functions, plain laws; no condition.
-/
import Derived.Test.YtemginpenfhkkaaGreatDoorPart4
import Derived.Test.YtemginpenfhkkaaGreatDoorPart3
import Derived.Test.YtemginpenfhkkaaGreatDoorPart2
/-
 Plain: cosets and normal subgroups, as the reference finds them and as the program does.
-/
namespace Go.Tal
open Go.RowKit Go.Proofs _root_.Tal
section
variable {n : Nat} {l k : List Sy}
/-- A group, in few words. -/
structure Grp (n : Nat) (l : List Sy) : Prop where
 ok : ∀ a ∈ l, Ok n a
 asc : Asc symLt l
 mul : ∀ a ∈ l, ∀ b ∈ l, comp a b ∈ l
 one : ident n ∈ l
 inv : ∀ a ∈ l, inv a ∈ l
theorem grp_of {c : Int} (h : groupI l c = 0) : Grp c.toNat l := by
 obtain ⟨_, _, _, h4, h5, h6⟩ := groupI_closed h
 exact ⟨h4, h5, h6, group_one h, fun a ha => group_inv h ha⟩
end
end Go.Tal

/-
 Plain: orbits, stabilizers and their sizes.
-/
namespace Go.Tal
open Go.RowKit Go.Proofs _root_.Tal
/-- Moderate numbers. -/
def Mod1 (B : Int) (f : List Int) : Prop := f.length ≤ 9 ∧ ∀ x ∈ f, -B ≤ x ∧ x ≤ B
theorem mod_img {B : Int} {f : List Int} {a : Sy} (hf : Mod1 B f) (ha : Ok f.length a) : Mod1 (B + 10) (imgI a.1 a.2 f) := by
 refine ⟨by rw [imgI_len]; exact hf.1, fun x hx => ?_⟩
 obtain ⟨j, hj, rfl⟩ := List.getElem_of_mem hx
 rw [imgI_len] at hj
 obtain ⟨i, hi, e⟩ := perm_onto ha hj
 have h1 := imgI_get (cm := a.2) ha hi
 rw [e] at h1
 have h2 : (imgI a.1 a.2 f).getD j 0 = (imgI a.1 a.2 f)[j] := by rw [List.getD_eq_getElem?_getD, List.getElem?_eq_getElem]; rfl
 rw [← h2, h1]
 have h3 := hf.2 _ (getD_mem hi)
 have h4 := hf.1
 unfold cmpl
 split <;> omega
theorem mod_fill {B : Int} {f : List Int} (hf : Mod1 B f) (hB : B ≤ 999999999) : fillI f = 0 := fillI_zero.2 ⟨by have := hf.1; omega, fun x hx => by have := hf.2 x hx; omega⟩
theorem mod_far {B : Int} {f : List Int} (hf : Mod1 B f) (hB : B ≤ 999999999) : f.any farI = false := by
 rw [Bool.eq_false_iff]
 intro h
 obtain ⟨x, hx, h1⟩ := List.any_eq_true.1 h
 have := hf.2 x hx
 simp only [farI, Bool.or_eq_true, decide_eq_true_eq] at h1
 omega
def orb (l : List Sy) (f : List Int) : List (List Int) := sorted lexLt (imgs l f)
theorem mem_orb {l : List Sy} {f y : List Int} : y ∈ orb l f ↔ ∃ a ∈ l, imgI a.1 a.2 f = y := by
 unfold orb
 rw [_root_.Tal.mem_sorted sLin_lexLt]
 simp [imgs]
theorem asc_orb (l : List Sy) (f : List Int) : Asc lexLt (orb l f) := asc_sorted sLin_lexLt _
theorem imagesO_mod {B : Int} {l : List Sy} {f : List Int} (hl : ∀ a ∈ l, Ok f.length a) (hf : Mod1 B f) (hB : B + 10 ≤ 999999999) : imagesO l f = (orb l f, 0) := by
 rw [imagesO, if_neg]
 ·rfl
 ·rw [List.any_eq_true]
  rintro ⟨g, hg, h⟩
  obtain ⟨a, ha, rfl⟩ := List.mem_map.1 hg
  rw [mod_far (mod_img hf (hl a ha)) hB] at h
  cases h
theorem orbitO_mod {B : Int} {l : List Sy} {f : List Int} (hg : groupI l f.length = 0) (hf : Mod1 B f) (hB : B + 10 ≤ 999999999) : orbitO l f = (orb l f, 0) := by
 obtain ⟨_, _, _, hok, _, _⟩ := groupI_closed hg
 have ha : actI l f = 0 := by rw [actI, mod_fill hf (by omega)]; simpa using hg
 rw [orbitO, if_neg (by simp [ha]), imagesO_mod (by simpa using hok) hf hB]
theorem canonO_mod {B : Int} {l : List Sy} {f : List Int} (hg : groupI l f.length = 0) (hf : Mod1 B f) (hB : B + 10 ≤ 999999999) : canonO l f = ((orb l f).getD 0 [], 0) := by
 rw [canonO, orbitO_mod hg hf hB]
 rfl
section
variable {n : Nat} {l : List Sy} {f : List Int}
/-! ### orbits and their first fillings -/
theorem orb_img (hl : Grp f.length l) {a : Sy} (ha : a ∈ l) : orb l (imgI a.1 a.2 f) = orb l f := by
 have hoa := hl.ok a ha
 refine Asc.ext sLin_lexLt (asc_orb _ _) (asc_orb _ _) fun y => ?_
 rw [mem_orb, mem_orb]
 constructor
 ·rintro ⟨b, hb, rfl⟩
  exact ⟨comp b a, hl.mul _ hb _ ha, imgI_comp (hl.ok b hb) hoa⟩
 ·rintro ⟨b, hb, rfl⟩
  refine ⟨comp b (inv a), hl.mul _ hb _ (hl.inv a ha), ?_⟩
  have hlen : (imgI a.1 a.2 f).length = f.length := imgI_len _ _ _
  rw [imgI_comp (f := imgI a.1 a.2 f) (by rw [hlen]; exact hl.ok b hb) (by rw [hlen]; exact hoa.inv), imgI_inv hoa]
theorem orb_head (hl : Grp f.length l) : (orb l f).getD 0 [] ∈ orb l f ∧ ∀ y ∈ orb l f, lexLt y ((orb l f).getD 0 []) = false := by
 have hf : f ∈ orb l f := mem_orb.2 ⟨_, hl.one, imgI_ident⟩
 have ha := asc_orb l f
 cases h : orb l f with
 | nil => rw [h] at hf; simp at hf
 | cons z zs =>
  rw [h] at ha
  refine ⟨List.mem_cons_self, fun y hy => ?_⟩
  show lexLt y z = false
  rcases List.mem_cons.1 hy with rfl | hy
  ·exact sLin_lexLt.irrefl _
  ·exact sLin_lexLt.asymm ((List.pairwise_cons.1 ha).1 y hy)
/-- One filling leads to another exactly if they have one first image. -/
theorem same_orbit {g : List Int} (hl : Grp f.length l) (hg : g.length = f.length) : (∃ a ∈ l, imgI a.1 a.2 f = g) ↔ (orb l f).getD 0 [] = (orb l g).getD 0 [] := by
 constructor
 ·rintro ⟨a, ha, rfl⟩
  rw [orb_img hl ha]
 ·intro h
  obtain ⟨a, ha, e1⟩ := mem_orb.1 (orb_head hl).1
  have hl' : Grp g.length l := by rw [hg]; exact hl
  obtain ⟨b, hb, e2⟩ := mem_orb.1 (orb_head hl').1
  refine ⟨comp (inv b) a, hl.mul _ (hl.inv b hb) _ ha, ?_⟩
  rw [imgI_comp (hl.ok b hb).inv (hl.ok a ha), e1, h, ← e2]
  exact imgI_inv (hl'.ok b hb)
theorem sameO_mod {B : Int} {g : List Int} (hg : groupI l f.length = 0) (hf : Mod1 B f) (hB : B ≤ 999999999) (hG : Mod1 B g) (hlen : g.length = f.length) :
 ((∃ a ∈ l, imgI a.1 a.2 f = g) ∧ (sameO l f g).2 = 0 ∧ (sameO l f g).1 ∈ l ∧ imgI (sameO l f g).1.1 (sameO l f g).1.2 f = g) ∨ ((¬ ∃ a ∈ l, imgI a.1 a.2 f = g) ∧ sameO l f g = (([], false), 7)) := by
 have h1 : sameI1 l f g = 0 := by
  rw [sameI1, mod_fill hf hB, mod_fill hG hB, hlen]
  simp [firstI, whenI]
 rw [sameO, if_neg (by simp [h1]), if_neg (by simp [hg])]
 cases h2 : l.find? fun a => decide (imgI a.1 a.2 f = g) with
 | none =>
  right
  rw [List.find?_eq_none] at h2
  refine ⟨fun ⟨a, ha, e⟩ => h2 a ha (by simp [e]), rfl⟩
 | some a =>
  left
  have h3 := List.find?_some h2
  have h4 := List.mem_of_find?_eq_some h2
  have h5 : imgI a.1 a.2 f = g := by simpa using h3
  exact ⟨⟨a, h4, h5⟩, rfl, h4, h5⟩
end
end Go.Tal

/-
 Plain: orders of symmetries as least common multiples; a symmetry of few cells leads back after its order, and not before.
-/
namespace Go.Tal
open Go.RowKit Go.Proofs _root_.Tal
end Go.Tal

/-
 The reference's groups: order, places, checks.
-/
namespace Go.Tal
open Go.RowKit Go.Proofs Go.Proofs.Tryz _root_.Tal
theorem lexLt_ne {xs ys : List Int} {i : Nat} (hx : i < xs.length) (hy : i < ys.length) (hp : lexCmp (xs.drop i) (ys.drop i) = lexCmp xs ys) (h : xs.getD i 0 ≠ ys.getD i 0) : decide (xs.getD i 0 < ys.getD i 0) = lexLt xs ys := by
 rw [lexLt, ← hp, lexCmp_drop hx hy]
 have hc : cmpI (xs.getD i 0) (ys.getD i 0) ≠ 0 := by unfold cmpI; split; omega; split <;> omega
 rw [if_pos hc]
 unfold cmpI
 split
 ·rename_i h1; rw [decide_eq_true h1]; rfl
 ·rename_i h1
  rw [if_pos (by omega), decide_eq_false h1]
  rfl
theorem lexLt_end {xs ys : List Int} {i : Nat} (hi : i ≤ xs.length) (hj : i ≤ ys.length) (he : ¬ (i < xs.length ∧ i < ys.length)) (hp : lexCmp (xs.drop i) (ys.drop i) = lexCmp xs ys) : decide ((xs.length : Int) < (ys.length : Int)) = lexLt xs ys := by
 rw [lexLt, ← hp]
 rcases Nat.lt_or_ge i ys.length with h | h
 ·rw [lexCmp_nil_cons (by omega) h, decide_eq_true (show (xs.length : Int) < (ys.length : Int) by omega)]
  rfl
 ·rcases Nat.lt_or_ge i xs.length with h2 | h2
  ·rw [lexCmp_cons_nil h2 h, decide_eq_false (show ¬ (xs.length : Int) < (ys.length : Int) by omega)]
   rfl
  ·rw [lexCmp_nil_nil h2 h, decide_eq_false (show ¬ (xs.length : Int) < (ys.length : Int) by omega)]
   rfl
theorem symLt_same {xs ys : List Int} {b c : Bool} (h : xs = ys) : symLt (xs, b) (ys, c) = (!b && c) := by
 subst h
 rw [symLt, Bool.eq_iff_iff, decide_eq_true_iff, symCmp_def]
 simp [lexCmp_refl]
theorem symLt_other {xs ys : List Int} {b c : Bool} (h : xs ≠ ys) : symLt (xs, b) (ys, c) = lexLt xs ys := by
 rw [symLt, lexLt, Bool.eq_iff_iff, decide_eq_true_iff, decide_eq_true_iff, symCmp_def]
 exact ⟨fun h1 => h1.resolve_right fun h2 => h h2.1, .inl⟩
/-- The place of the first element that is as asked, or -1. -/
def idxG {α : Type} (p : α → Bool) (l : List α) : Int := if l.any p then (l.findIdx p : Int) else -1
theorem idxG_some {α : Type} {d : α} {p : α → Bool} {l : List α} {i : Nat} (hi : i < l.length) (hp : p (l.getD i d) = true) (hn : ∀ j, j < i → p (l.getD j d) = false) : idxG p l = i := by
 simp only [List.getD_eq_getElem?_getD, List.getElem?_eq_getElem hi, Option.getD_some] at hp
 have h1 : l.any p = true := List.any_eq_true.2 ⟨_, List.getElem_mem hi, hp⟩
 rw [idxG, if_pos h1, (List.findIdx_eq hi).2 ⟨hp, fun j hj => by have := hn j hj; simpa [List.getD_eq_getElem?_getD, List.getElem?_eq_getElem (show j < l.length by omega)] using this⟩]
theorem idxG_none {α : Type} {d : α} {p : α → Bool} {l : List α} (hn : ∀ j, j < l.length → p (l.getD j d) = false) : idxG p l = -1 := by
 rw [idxG, if_neg]
 rw [List.any_eq_true]
 rintro ⟨x, hx, hp⟩
 obtain ⟨j, hj, rfl⟩ := List.getElem_of_mem hx
 have := hn j hj
 simp only [List.getD_eq_getElem?_getD, List.getElem?_eq_getElem hj, Option.getD_some] at this
 rw [hp] at this; cases this
theorem idxG_neg {α : Type} {p : α → Bool} {l : List α} : decide (idxG p l < 0) = !(l.any p) := by
 unfold idxG
 cases l.any p with
 | true => simp
 | false => simp
def idxA (l : List Sy) (a : Sy) : Int := idxG (fun x => decide (x = a)) l
theorem idxA_neg {l : List Sy} {a : Sy} : decide (idxA l a < 0) = !(decide (a ∈ l)) := by
 unfold idxA
 rw [idxG_neg]
 congr 1
 rw [Bool.eq_iff_iff]
 simp [List.any_eq_true]
theorem adjI_end {l : List Sy} {i : Nat} (h : adjI l i = true) (hi : l.length ≤ i) (hi2 : i ≤ l.length) : adjI l l.length = true := by
 rw [show l.length = i by omega]; exact h
/-- All products of the first i elements are there. -/
theorem closedB_no {l : List Sy} {i k : Nat} (hi : i < l.length) (hk : k < l.length) (h : idxA l (comp (l.getD i ([], false)) (l.getD k ([], false))) < 0) : closedB l = false := by
 rw [Bool.eq_false_iff]
 intro h1
 have e : ∀ {j}, (hj : j < l.length) → l.getD j ([], false) ∈ l := fun hj => by rw [List.getD_eq_getElem?_getD, List.getElem?_eq_getElem hj]; exact List.getElem_mem hj
 have h2 := closedB_iff.1 h1 _ (e hi) _ (e hk)
 have h3 : decide (idxA l (comp (l.getD i ([], false)) (l.getD k ([], false))) < 0) = true := decide_eq_true h
 rw [idxA_neg, decide_eq_true h2] at h3
 cases h3
theorem closedB_yes {l : List Sy} (h : ∀ i, i < l.length → ∀ k, k < l.length → ¬ idxA l (comp (l.getD i ([], false)) (l.getD k ([], false))) < 0) : closedB l = true := by
 refine closedB_iff.2 fun a ha b hb => ?_
 obtain ⟨i, hi, rfl⟩ := List.getElem_of_mem ha
 obtain ⟨k, hk, rfl⟩ := List.getElem_of_mem hb
 have h1 := decide_eq_false (h i hi k hk)
 rw [idxA_neg] at h1
 have e : ∀ {j}, (hj : j < l.length) → l.getD j ([], false) = l[j] := fun hj => by rw [List.getD_eq_getElem?_getD, List.getElem?_eq_getElem hj]; rfl
 rw [e hi, e hk] at h1
 simpa using h1
theorem rallI_at {l : List Sy} {c : Int} {i : Nat} (hi : i < l.length) (h : rsymI (l.getD i ([], false)).1 c ≠ 0) (hn : ∀ j, j < i → rsymI (l.getD j ([], false)).1 c = 0) : rallI l c = rsymI (l.getD i ([], false)).1 c := by
 have e : (l.map fun a => rsymI a.1 c) = (List.range l.length).map fun j => rsymI (l.getD j ([], false)).1 c := by
  apply List.ext_getElem
  ·simp
  ·intro j h1 h2
   simp only [List.length_map] at h1
   simp [List.getD_eq_getElem?_getD, h1]
 rw [rallI, e]
 exact firstI_at (f := fun j => rsymI (l.getD j ([], false)).1 c) hi h hn
theorem rallI_end {l : List Sy} {c : Int} (hn : ∀ j, j < l.length → rsymI (l.getD j ([], false)).1 c = 0) : rallI l c = 0 := by
 rw [rallI, firstI_zero]
 intro x hx
 obtain ⟨a, ha, rfl⟩ := List.mem_map.1 hx
 obtain ⟨j, hj, rfl⟩ := List.getElem_of_mem ha
 have := hn j hj
 rwa [List.getD_eq_getElem?_getD, List.getElem?_eq_getElem hj] at this
theorem rsymI_ok {a : List Int} {c : Int} (h0 : cellsI c = 0) (h : rsymI a c = 0) : (0 ≤ c ∧ c ≤ 256) ∧ (a.length : Int) = c ∧ PermL a.length a := by
 rw [rsymI_sym h0] at h
 exact symI_zero.1 h
set_option maxRecDepth 8000 in
set_option maxHeartbeats 1000000 in
theorem before_fn (xs ys : List Int) (v u : Value) (h : H) (hx : RdI h v xs) (hy : RdI h u ys) : FnV Tryz.prog 88 #[v, u] h (.bool (lexLt xs ys)) := by
 have hxm := hx.len
 refine fn_of (vs := [v, u]) func88 rfl ntmps88 (Nat.le_of_ble_eq_true rfl) fun w hw => ?_
 apply wp_seq'
 refine wp_text rfl ?_
 refine rm rfl ?_
 apply run_end
 apply wp_seq'
 apply wp_seq'
 refine wp_text rfl ?_
 refine rm rfl ?_
 apply run_end
 apply wp_block'
 refine wp_loop' (fun i : Nat => i ≤ xs.length ∧ i ≤ ys.length ∧ lexCmp (xs.drop i) (ys.drop i) = lexCmp xs ys) (fun i => ⟨[(5, .int .i64 i), (1, u), (0, v)], h, []⟩) (fun i => xs.length - i) 0 ⟨Nat.zero_le _, Nat.zero_le _, by simp⟩ ⟨by repeat (first|exact True.intro|refine And.intro rfl ?_), rfl, by repeat (first|exact NS _|exact SR _|apply SCC|apply SC)⟩ fun i hi => ?_
 obtain ⟨hi, hj, hp⟩ := hi
 apply wp_seq'
 apply wp_seq'
 refine wp_text rfl ?_
 refine rm rfl ?_
 refine rm rfl ?_
 refine rs rfl (s_lenI hx rfl rfl underlying35) ?_
 refine rs rfl (s_lt rfl rfl rfl) ?_
 refine rm rfl ?_
 refine run_cases (t := 10) rfl (fun hg10 => ?_) (fun hg10 => ?_)
 ·skip
  refine rsg rfl rfl (s_move rfl rfl) ?_
  refine rsg rfl rfl (s_move rfl rfl) ?_
  refine rsg rfl rfl (s_lenI hy rfl rfl underlying35) ?_
  refine rsg rfl rfl (s_lt rfl rfl rfl) ?_
  refine rs rfl (s_pick rfl rfl (fun _ => rfl) (fun h => by cases h)) ?_
  apply run_end
  refine wp_if' rfl (fun hc15 => ?_) (fun hc15 => ?_)
  ·skip
   apply wp_skip'
   apply wp_seq'
   apply wp_block'
   apply wp_seq'
   refine wp_any [0, 1, 2, 3, 4, 5, 6, 7, 8] rfl (by kernel_rfl) ?_
   refine rm rfl ?_
   refine rm rfl ?_
   refine rs rfl (s_iaI hx (by omega) (by omega) rfl rfl rfl underlying35 sizeOf3) ?_
   refine rs rfl (s_ldI hx (by omega) (by omega) rfl rfl isAgg3) ?_
   try simp only [Int.toNat_natCast]
   refine rm rfl ?_
   refine rm rfl ?_
   refine rs rfl (s_iaI hy (by omega) (by omega) rfl rfl rfl underlying35 sizeOf3) ?_
   refine rs rfl (s_ldI hy (by omega) (by omega) rfl rfl isAgg3) ?_
   try simp only [Int.toNat_natCast]
   refine rs rfl (s_ne rfl rfl rfl) ?_
   apply run_end
   refine wp_if' rfl (fun hc26 => ?_) (fun hc26 => ?_)
   ·skip
    apply wp_seq'
    refine wp_any [0, 1, 2, 3, 4, 5, 6, 7, 8, 9] rfl (by kernel_rfl) ?_
    refine rm rfl ?_
    refine rm rfl ?_
    refine rs rfl (s_iaI hx (by omega) (by omega) rfl rfl rfl underlying35 sizeOf3) ?_
    refine rs rfl (s_ldI hx (by omega) (by omega) rfl rfl isAgg3) ?_
    try simp only [Int.toNat_natCast]
    refine rm rfl ?_
    refine rm rfl ?_
    refine rs rfl (s_iaI hy (by omega) (by omega) rfl rfl rfl underlying35 sizeOf3) ?_
    refine rs rfl (s_ldI hy (by omega) (by omega) rfl rfl isAgg3) ?_
    try simp only [Int.toNat_natCast]
    refine rs rfl (s_lt rfl rfl rfl) ?_
    refine rm rfl ?_
    apply run_end
    apply wp_ret'
    exact fin_ret (res_tmp rfl rfl) (by rw [lexLt_ne (i := i) (by omega) (by omega) hp hc26])
   ·skip
    apply wp_skip'
    refine wp_text rfl ?_
    refine rm rfl ?_
    refine rs rfl (s_add rfl rfl rfl (IntWalk.i64_in _ (by omega))) ?_
    refine rm rfl ?_
    apply run_end
    exact ⟨i + 1, ⟨by omega, by omega, by rw [← hp, lexCmp_drop (i := i) (by omega) (by omega), if_neg (by unfold cmpI; rw [Decidable.not_not.1 hc26, if_neg (Int.lt_irrefl _), if_neg (Int.lt_irrefl _)]; simp)]⟩, by omega, ⟨by repeat (first|exact True.intro|refine And.intro rfl ?_), rfl, by repeat (first|exact NS _|exact SR _|apply SCC|apply SC)⟩⟩
  ·skip
   apply wp_exit'
   apply wp_seq'
   refine wp_text rfl ?_
   refine rm rfl ?_
   refine rs rfl (s_lenI hx rfl rfl underlying35) ?_
   refine rm rfl ?_
   refine rs rfl (s_lenI hy rfl rfl underlying35) ?_
   refine rs rfl (s_lt rfl rfl rfl) ?_
   refine rm rfl ?_
   apply run_end
   apply wp_ret'
   exact fin_ret (res_tmp rfl rfl) (by rw [lexLt_end (i := i) hi hj (by omega) hp])
 ·skip
  refine run_skip rfl rfl rfl rfl rfl rfl rfl ?_
  refine run_skip rfl rfl rfl rfl rfl rfl rfl ?_
  refine run_skip rfl rfl rfl rfl rfl rfl rfl ?_
  refine run_skip rfl rfl rfl rfl rfl rfl rfl ?_
  refine rs rfl (s_pick rfl rfl (fun h => by cases h) (fun _ => rfl)) ?_
  apply run_end
  refine wp_cond' (b := false) rfl (fun h => by cases h) (fun _ => ?_)
  apply wp_exit'
  apply wp_seq'
  refine wp_text rfl ?_
  refine rm rfl ?_
  refine rs rfl (s_lenI hx rfl rfl underlying35) ?_
  refine rm rfl ?_
  refine rs rfl (s_lenI hy rfl rfl underlying35) ?_
  refine rs rfl (s_lt rfl rfl rfl) ?_
  refine rm rfl ?_
  apply run_end
  apply wp_ret'
  exact fin_ret (res_tmp rfl rfl) (by rw [lexLt_end (i := i) hi hj (by omega) hp])
set_option maxRecDepth 8000 in
theorem befS_fn (xs ys : List Int) (b c : Bool) (v u : Value) (h : H) (hx : RdI h v xs) (hy : RdI h u ys) : FnV Tryz.prog 85 #[.agg #[v, .bool b], .agg #[u, .bool c]] h (.bool (symLt (xs, b) (ys, c))) := by
 refine fn_of (vs := [.agg #[v, .bool b], .agg #[u, .bool c]]) func85 rfl ntmps85 (Nat.le_of_ble_eq_true rfl) fun w hw => ?_
 apply wp_seq'
 refine wp_text rfl ?_
 refine run_box rfl rfl rfl rfl rfl rfl rfl fun b1 => ?_
 refine run_box rfl rfl rfl rfl rfl rfl rfl fun b2 => ?_
 refine rm rfl ?_
 apply run_end
 apply wp_seq'
 apply wp_seq'
 refine wp_text rfl ?_
 refine rs rfl (s_fa (off := 0) rfl rfl underlying37 rfl sizeOf35 rfl) ?_
 refine rs rfl (s_ld rfl rfl isAgg35 (.o_ rfl)) ?_
 refine rs rfl (s_fa (off := 0) rfl rfl underlying37 rfl sizeOf35 rfl) ?_
 refine rs rfl (s_ld rfl rfl isAgg35 (.o_ rfl)) ?_
 refine run_callv (vs := [_, _]) rfl rfl rfl rfl rfl rfl en82 (sameI_fn _ _ _ _ _ hx hy) ?_
 apply run_end
 refine wp_cond' rfl (fun hc9 => ?_) (fun hc9 => ?_)
 ·skip
  apply wp_seq'
  refine wp_text rfl ?_
  refine rs rfl (s_fa (off := 1) rfl rfl underlying37 rfl sizeOf4 rfl) ?_
  refine rs rfl (s_ld rfl rfl isAgg4 (.o_ rfl)) ?_
  refine rs rfl (s_not rfl rfl) ?_
  refine rm rfl ?_
  refine run_cb (t := 13) rfl (fun hg13 => ?_) (fun hg13 => ?_)
  ·skip
   refine rsg rfl rfl (s_fa (off := 1) rfl rfl underlying37 rfl sizeOf4 rfl) ?_
   refine rsg rfl rfl (s_ld rfl rfl isAgg4 (.o_ rfl)) ?_
   refine rs rfl (s_pick rfl rfl (fun _ => rfl) (fun h => by cases h)) ?_
   refine rm rfl ?_
   apply run_end
   apply wp_ret'
   exact fin_ret (res_tmp rfl rfl) (by rw [symLt_same (by simpa using hc9), hg13]; rfl)
  ·skip
   refine run_skip rfl rfl rfl rfl rfl rfl rfl ?_
   refine run_skip rfl rfl rfl rfl rfl rfl rfl ?_
   refine rs rfl (s_pick rfl rfl (fun h => by cases h) (fun _ => rfl)) ?_
   refine rm rfl ?_
   apply run_end
   apply wp_ret'
   exact fin_ret (res_tmp rfl rfl) (by rw [symLt_same (by simpa using hc9), hg13]; rfl)
 ·skip
  apply wp_skip'
  apply wp_seq'
  refine wp_text rfl ?_
  refine rs rfl (s_fa (off := 0) rfl rfl underlying37 rfl sizeOf35 rfl) ?_
  refine rs rfl (s_ld rfl rfl isAgg35 (.o_ rfl)) ?_
  refine rs rfl (s_fa (off := 0) rfl rfl underlying37 rfl sizeOf35 rfl) ?_
  refine rs rfl (s_ld rfl rfl isAgg35 (.o_ rfl)) ?_
  refine run_callv (vs := [_, _]) rfl rfl rfl rfl rfl rfl en88 (before_fn _ _ _ _ _ hx hy) ?_
  refine rm rfl ?_
  apply run_end
  apply wp_ret'
  exact fin_ret (res_tmp rfl rfl) (by rw [symLt_other (by simpa using hc9)])
set_option maxRecDepth 8000 in
theorem idxA_fn (l : List Sy) (a : Sy) (v u : Value) (h : H) (hl : RdS h v l) (ha : RdI h u a.1) : FnV Tryz.prog 84 #[v, .agg #[u, .bool a.2]] h (.int .i64 (idxA l a)) := by
 have hlm := hl.len
 refine fn_of (vs := [v, .agg #[u, .bool a.2]]) func84 rfl ntmps84 (Nat.le_of_ble_eq_true rfl) fun w hw => ?_
 apply wp_seq'
 refine wp_text rfl ?_
 refine run_box rfl rfl rfl rfl rfl rfl rfl fun b1 => ?_
 refine rm rfl ?_
 apply run_end
 apply wp_seq'
 apply wp_seq'
 refine wp_text rfl ?_
 refine rm rfl ?_
 apply run_end
 apply wp_block'
 refine wp_loop' (fun i : Nat => i ≤ l.length ∧ ∀ j, j < i → decide (l.getD j ([], false) = a) = false) (fun i => ⟨[(5, .int .i64 i), (3, .pointer (some ⟨b1, 0, none⟩)), (0, v)], h, [.obj b1 (.cells #[u, .bool a.2] 37 (0, 0))]⟩) (fun i => l.length - i) 0 ⟨Nat.zero_le _, fun _ h => by omega⟩ ⟨by repeat (first|exact True.intro|refine And.intro rfl ?_), rfl, by repeat (first|exact NS _|exact SR _|apply SCC|apply SC)⟩ fun i hi => ?_
 obtain ⟨hi, hn⟩ := hi
 apply wp_seq'
 apply wp_seq'
 refine wp_text rfl ?_
 refine rm rfl ?_
 refine rm rfl ?_
 refine rs rfl (s_lenS hl rfl rfl underlying22) ?_
 refine rs rfl (s_lt rfl rfl rfl) ?_
 apply run_end
 refine wp_if' rfl (fun hc9 => ?_) (fun hc9 => ?_)
 ·skip
  apply wp_skip'
  apply wp_seq'
  apply wp_block'
  apply wp_seq'
  refine wp_any [0, 1, 2, 3, 4, 5] rfl (by kernel_rfl) ?_
  refine rm rfl ?_
  refine rm rfl ?_
  refine rs rfl (s_iaS hl (by omega) (by omega) rfl rfl rfl underlying22 sizeOf37) ?_
  obtain ⟨sv15, hsv15, hat15⟩ := hl.get (j := i) (by omega)
  refine rs rfl (s_ldS hat15 (by omega) rfl rfl isAgg37 sizeOf37) ?_
  refine rs rfl (s_ld2 rfl rfl isAgg37 sizeOf37 (.o_ rfl) (.o_ rfl)) ?_
  refine run_callv (vs := [_, _]) rfl rfl rfl rfl rfl rfl en30 (sameS_fn _ _ _ _ _ hsv15 ha) ?_
  apply run_end
  refine wp_cond' rfl (fun hc17 => ?_) (fun hc17 => ?_)
  ·skip
   apply wp_seq'
   refine wp_text rfl ?_
   refine rm rfl ?_
   refine rm rfl ?_
   apply run_end
   apply wp_ret'
   exact fin_ret (res_tmp rfl rfl) (by rw [idxA, idxG_some (d := ([], false)) (i := i) (by omega) hc17 hn])
  ·skip
   apply wp_skip'
   refine wp_text rfl ?_
   refine rm rfl ?_
   refine rs rfl (s_add rfl rfl rfl (IntWalk.i64_in _ (by omega))) ?_
   refine rm rfl ?_
   apply run_end
   exact ⟨i + 1, ⟨by omega, fun j hj => (Nat.lt_succ_iff_lt_or_eq.1 hj).elim (hn j) (fun e => by rw [e]; exact hc17)⟩, by omega, ⟨by repeat (first|exact True.intro|refine And.intro rfl ?_), rfl, by repeat (first|exact NS _|exact SR _|apply SCC|apply SC)⟩⟩
 ·skip
  apply wp_exit'
  apply wp_seq'
  refine wp_text rfl ?_
  refine rm rfl ?_
  apply run_end
  apply wp_ret'
  exact fin_ret (res_tmp rfl rfl) (by rw [idxA, idxG_none (d := ([], false)) (fun j hj => hn j (by omega))])
set_option maxRecDepth 8000 in
theorem rsym0_fn (a : List Int) (cm : Bool) (c : Int) (va : Value) (h : H) (hl : RdI0 h va a) : FnV Tryz.prog 26 #[.agg #[va, .bool cm], .int .i64 c] h (.int .i64 (rsymI a c)) := by
 refine fn_of (vs := [.agg #[va, .bool cm], .int .i64 c]) func26 rfl ntmps26 (Nat.le_of_ble_eq_true rfl) fun w hw => ?_
 apply wp_seq'
 refine wp_text rfl ?_
 refine run_box rfl rfl rfl rfl rfl rfl rfl fun b1 => ?_
 refine rm rfl ?_
 apply run_end
 apply wp_seq'
 apply wp_seq'
 refine wp_text rfl ?_
 refine rm rfl ?_
 refine run_callv (vs := [_]) rfl rfl rfl rfl rfl rfl en25 (rcells_fn _ _) ?_
 refine rs rfl (s_ne rfl rfl rfl) ?_
 apply run_end
 refine wp_if' rfl (fun hc7 => ?_) (fun hc7 => ?_)
 ·skip
  apply wp_seq'
  refine wp_text rfl ?_
  refine rm rfl ?_
  apply run_end
  apply wp_ret'
  exact fin_ret (res_tmp rfl rfl) (by rw [rsymI, decide_eq_true hc7]; rfl)
 ·skip
  apply wp_skip'
  apply wp_seq'
  apply wp_seq'
  refine wp_text rfl ?_
  refine rs rfl (s_fa (off := 0) rfl rfl underlying37 rfl sizeOf35 rfl) ?_
  refine rs rfl (s_ld rfl rfl isAgg35 (.o_ rfl)) ?_
  refine rs rfl (s_lenI0 hl rfl rfl underlying35) ?_
  refine rm rfl ?_
  refine rs rfl (s_ne rfl rfl rfl) ?_
  apply run_end
  refine wp_if' rfl (fun hc12 => ?_) (fun hc12 => ?_)
  ·skip
   apply wp_seq'
   refine wp_text rfl ?_
   refine rm rfl ?_
   apply run_end
   apply wp_ret'
   exact fin_ret (res_tmp rfl rfl) (by rw [rsymI, decide_eq_false hc7, decide_eq_true hc12]; rfl)
  ·skip
   have hc0 : cellsI c = 0 := Decidable.not_not.1 hc7
   have hl := hl.toI (by have h1 := cellsI_zero.1 hc0; have h2 := Decidable.not_not.1 hc12; omega)
   apply wp_skip'
   apply wp_seq'
   refine wp_text rfl ?_
   refine rs rfl (s_fa (off := 0) rfl rfl underlying37 rfl sizeOf35 rfl) ?_
   refine rs rfl (s_ld rfl rfl isAgg35 (.o_ rfl)) ?_
   refine run_callv (vs := [_]) rfl rfl rfl rfl rfl rfl en93 (rperm_fn _ _ _ hl) ?_
   refine rm rfl ?_
   apply run_end
   apply wp_ret'
   exact fin_ret (res_tmp rfl rfl) (by rw [rsymI, decide_eq_false hc7, decide_eq_false hc12]; rfl)
set_option maxRecDepth 8000 in
set_option maxHeartbeats 4000000 in
theorem rgroup_fn (l : List Sy) (c : Int) (v : Value) (h : H) (hl : RdS0 h v l) : FnV Tryz.prog 20 #[v, .int .i64 c] h (.int .i64 (rgrpI l c)) := by
 have hlm := hl.len
 refine fn_of (vs := [v, .int .i64 c]) func20 rfl ntmps20 (Nat.le_of_ble_eq_true rfl) fun w hw => ?_
 apply wp_seq'
 refine wp_text rfl ?_
 refine rm rfl ?_
 apply run_end
 apply wp_seq'
 apply wp_seq'
 refine wp_text rfl ?_
 refine rm rfl ?_
 refine run_callv (vs := [_]) rfl rfl rfl rfl rfl rfl en25 (rcells_fn _ _) ?_
 refine rs rfl (s_ne rfl rfl rfl) ?_
 apply run_end
 refine wp_if' rfl (fun hc12 => ?_) (fun hc12 => ?_)
 ·skip
  apply wp_seq'
  refine wp_text rfl ?_
  refine rm rfl ?_
  apply run_end
  apply wp_ret'
  exact fin_ret (res_tmp rfl rfl) (by rw [rgrpI, if_pos hc12])
 ·skip
  have hc0 : cellsI c = 0 := Decidable.not_not.1 hc12
  apply wp_skip'
  apply wp_seq'
  apply wp_seq'
  refine wp_text rfl ?_
  refine rm rfl ?_
  refine rs rfl (s_lenS0 hl rfl rfl underlying22) ?_
  refine rs rfl (s_eq rfl rfl rfl) ?_
  apply run_end
  refine wp_if' rfl (fun hc15 => ?_) (fun hc15 => ?_)
  ·skip
   apply wp_seq'
   refine wp_text rfl ?_
   refine rm rfl ?_
   apply run_end
   apply wp_ret'
   exact fin_ret (res_tmp rfl rfl) (by rw [rgrpI, if_neg hc12, if_pos hc15])
  ·skip
   apply wp_skip'
   apply wp_seq'
   apply wp_seq'
   refine wp_text rfl ?_
   refine rm rfl ?_
   refine rs rfl (s_lenS0 hl rfl rfl underlying22) ?_
   refine rs rfl (s_gt rfl rfl rfl) ?_
   apply run_end
   refine wp_if' rfl (fun hc18 => ?_) (fun hc18 => ?_)
   ·skip
    apply wp_seq'
    refine wp_text rfl ?_
    refine rm rfl ?_
    apply run_end
    apply wp_ret'
    exact fin_ret (res_tmp rfl rfl) (by rw [rgrpI, if_neg hc12, if_neg hc15, if_pos hc18])
   ·skip
    apply wp_skip'
    apply wp_seq'
    apply wp_seq'
    refine wp_text rfl ?_
    refine rm rfl ?_
    apply run_end
    apply wp_block'
    refine wp_loop' (fun i : Nat => i ≤ l.length ∧ ∀ j, j < i → rsymI (l.getD j ([], false)).1 c = 0) (fun i => ⟨[(5, .int .i64 i), (1, .int .i64 c), (0, v)], h, []⟩) (fun i => l.length - i) 0 ⟨Nat.zero_le _, fun _ h => by omega⟩ ⟨by repeat (first|exact True.intro|refine And.intro rfl ?_), rfl, by repeat (first|exact NS _|exact SR _|apply SCC|apply SC)⟩ fun i hi => ?_
    obtain ⟨hi, hn⟩ := hi
    apply wp_seq'
    apply wp_seq'
    refine wp_text rfl ?_
    refine rm rfl ?_
    refine rm rfl ?_
    refine rs rfl (s_lenS0 hl rfl rfl underlying22) ?_
    refine rs rfl (s_lt rfl rfl rfl) ?_
    apply run_end
    refine wp_if' rfl (fun hc22 => ?_) (fun hc22 => ?_)
    ·skip
     apply wp_skip'
     apply wp_seq'
     apply wp_block'
     apply wp_seq'
     refine wp_text rfl ?_
     refine rm rfl ?_
     refine rm rfl ?_
     refine rs rfl (s_iaS0 hl (by omega) (by omega) rfl rfl rfl underlying22 sizeOf37) ?_
     obtain ⟨sv28, hsv28, hat28⟩ := hl.get (j := i) (by omega)
     refine rs rfl (s_ldS hat28 (by omega) rfl rfl isAgg37 sizeOf37) ?_
     refine rm rfl ?_
     refine run_callv (vs := [_, _]) rfl rfl rfl rfl rfl rfl en26 (rsym0_fn _ _ _ _ _ hsv28) ?_
     refine rm rfl ?_
     apply run_end
     apply wp_seq'
     refine wp_text rfl ?_
     refine rm rfl ?_
     refine rs rfl (s_ne rfl rfl rfl) ?_
     apply run_end
     refine wp_if' rfl (fun hc32 => ?_) (fun hc32 => ?_)
     ·skip
      apply wp_seq'
      refine wp_text rfl ?_
      refine rm rfl ?_
      refine rm rfl ?_
      apply run_end
      apply wp_ret'
      exact fin_ret (res_tmp rfl rfl) (by rw [rgrpI, if_neg hc12, if_neg hc15, if_neg hc18, rallI_at (i := i) (by omega) hc32 hn, if_pos hc32])
     ·skip
      apply wp_skip'
      refine wp_text rfl ?_
      refine rm rfl ?_
      refine rs rfl (s_add rfl rfl rfl (IntWalk.i64_in _ (by omega))) ?_
      refine rm rfl ?_
      apply run_end
      exact ⟨i + 1, ⟨by omega, fun j hj => (Nat.lt_succ_iff_lt_or_eq.1 hj).elim (hn j) (fun e => by rw [e]; exact Decidable.not_not.1 hc32)⟩, by omega, ⟨by repeat (first|exact True.intro|refine And.intro rfl ?_), rfl, by repeat (first|exact NS _|exact SR _|apply SCC|apply SC)⟩⟩
    ·skip
     obtain rfl : i = l.length := by omega
     have hz := rallI_end hn
     have hok : ∀ j, j < l.length → (0 ≤ c ∧ c ≤ 256) ∧ ((l.getD j ([], false)).1.length : Int) = c ∧ PermL (l.getD j ([], false)).1.length (l.getD j ([], false)).1 := fun j hj => rsymI_ok hc0 (hn j hj)
     have hl := hl.toS (by omega) (fun a ha => by obtain ⟨j, hj, rfl⟩ := List.getElem_of_mem ha; have h1 := hok j hj; rw [List.getD_eq_getElem?_getD, List.getElem?_eq_getElem hj] at h1; simp only [Option.getD_some] at h1; omega)
     apply wp_exit'
     apply wp_seq'
     apply wp_seq'
     refine wp_text rfl ?_
     refine rm rfl ?_
     apply run_end
     apply wp_block'
     refine wp_loop' (fun i : Nat => 1 ≤ i ∧ i ≤ l.length ∧ adjI l i = true) (fun i => ⟨[(7, .int .i64 i), (1, .int .i64 c), (0, v)], h, []⟩) (fun i => l.length - i) 1 ⟨Nat.le_refl _, by omega, rfl⟩ ⟨by repeat (first|exact True.intro|refine And.intro rfl ?_), rfl, by repeat (first|exact NS _|exact SR _|apply SCC|apply SC)⟩ fun i hi => ?_
     obtain ⟨h1, hi, ha⟩ := hi
     apply wp_seq'
     apply wp_seq'
     refine wp_text rfl ?_
     refine rm rfl ?_
     refine rm rfl ?_
     refine rs rfl (s_lenS hl rfl rfl underlying22) ?_
     refine rs rfl (s_lt rfl rfl rfl) ?_
     apply run_end
     refine wp_if' rfl (fun hc37 => ?_) (fun hc37 => ?_)
     ·skip
      apply wp_skip'
      apply wp_seq'
      apply wp_block'
      apply wp_seq'
      refine wp_any [0, 1, 2, 3, 4, 5, 6, 7, 8, 9, 10] rfl (by kernel_rfl) ?_
      refine rm rfl ?_
      refine rm rfl ?_
      refine rs rfl (s_sub rfl rfl rfl (IntWalk.i64_in _ (by omega))) ?_
      refine rs rfl (s_iaS hl (by omega) (by omega) rfl rfl rfl underlying22 sizeOf37) ?_
      obtain ⟨sv44, hsv44, hat44⟩ := hl.get (j := i - 1) (by omega)
      refine rs rfl (s_ldS hat44 (by omega) rfl rfl isAgg37 sizeOf37) ?_
      refine rm rfl ?_
      refine rm rfl ?_
      refine rs rfl (s_iaS hl (by omega) (by omega) rfl rfl rfl underlying22 sizeOf37) ?_
      obtain ⟨sv48, hsv48, hat48⟩ := hl.get (j := i) (by omega)
      refine rs rfl (s_ldS hat48 (by omega) rfl rfl isAgg37 sizeOf37) ?_
      refine run_callv (vs := [_, _]) rfl rfl rfl rfl rfl rfl en85 (befS_fn _ _ _ _ _ _ _ hsv44 hsv48) ?_
      refine rs rfl (s_not rfl rfl) ?_
      apply run_end
      refine wp_cond' rfl (fun hc50 => ?_) (fun hc50 => ?_)
      ·skip
       apply wp_seq'
       refine wp_text rfl ?_
       refine rm rfl ?_
       apply run_end
       apply wp_ret'
       exact fin_ret (res_tmp rfl rfl) (by rw [rgrpI, if_neg hc12, if_neg hc15, if_neg hc18, if_neg (by simp [hz]), if_pos (adjI_false (i := i) (by omega) (by rw [decide_eq_false (show ¬ i = 0 by omega), Bool.false_or]; simpa using hc50))])
      ·skip
       apply wp_skip'
       refine wp_text rfl ?_
       refine rm rfl ?_
       refine rs rfl (s_add rfl rfl rfl (IntWalk.i64_in _ (by omega))) ?_
       refine rm rfl ?_
       apply run_end
       exact ⟨i + 1, ⟨by omega, by omega, by rw [adjI_succ, ha, decide_eq_false (show ¬ i = 0 by omega)]; simpa using hc50⟩, by omega, ⟨by repeat (first|exact True.intro|refine And.intro rfl ?_), rfl, by repeat (first|exact NS _|exact SR _|apply SCC|apply SC)⟩⟩
     ·skip
      have hadj := adjI_end ha (by omega) (by omega)
      apply wp_exit'
      apply wp_seq'
      apply wp_seq'
      refine wp_text rfl ?_
      refine rm rfl ?_
      apply run_end
      apply wp_block'
      refine wp_loopg (fun i : Nat => i ≤ l.length ∧ ∀ j, j < i → ∀ k, k < l.length → ¬ idxA l (comp (l.getD j ([], false)) (l.getD k ([], false))) < 0) (fun i => ⟨[(8, .int .i64 i), (1, .int .i64 c), (0, v)], []⟩) (fun i => l.length - i) 0 ⟨Nat.zero_le _, fun _ h => by omega⟩ ⟨by repeat (first|exact True.intro|refine And.intro rfl ?_), (by first | exact fun _ _ hb => hb | assumption), by repeat (first|exact NS _|exact SR _|apply SCC|apply SC)⟩ fun i hi => ?_
      obtain ⟨hi, hn2⟩ := hi
      apply wp_seq'
      apply wp_seq'
      refine wp_text rfl ?_
      refine rm rfl ?_
      refine rm rfl ?_
      refine rs rfl (s_lenS hl rfl rfl underlying22) ?_
      refine rs rfl (s_lt rfl rfl rfl) ?_
      apply run_end
      refine wp_if' rfl (fun hc54 => ?_) (fun hc54 => ?_)
      ·skip
       apply wp_skip'
       apply wp_seq'
       apply wp_block'
       apply wp_seq'
       refine wp_text rfl ?_
       refine rm rfl ?_
       apply run_end
       apply wp_block'
       refine wp_loopg (fun k : Nat => k ≤ l.length ∧ ∀ j, j < k → ¬ idxA l (comp (l.getD i ([], false)) (l.getD j ([], false))) < 0) (fun k => ⟨[(9, .int .i64 k), (8, .int .i64 i), (1, .int .i64 c), (0, v)], []⟩) (fun k => l.length - k) 0 ⟨Nat.zero_le _, fun _ h => by omega⟩ ⟨by repeat (first|exact True.intro|refine And.intro rfl ?_), (by first | exact fun _ _ hb => hb | assumption), by repeat (first|exact NS _|exact SR _|apply SCC|apply SC)⟩ fun k hk => ?_
       obtain ⟨hk, hn3⟩ := hk
       apply wp_seq'
       apply wp_seq'
       refine wp_text rfl ?_
       refine rm rfl ?_
       refine rm rfl ?_
       refine rs rfl (s_lenS hl rfl rfl underlying22) ?_
       refine rs rfl (s_lt rfl rfl rfl) ?_
       apply run_end
       refine wp_if' rfl (fun hc60 => ?_) (fun hc60 => ?_)
       ·skip
        apply wp_skip'
        apply wp_seq'
        apply wp_block'
        apply wp_seq'
        refine wp_any [0, 1, 2, 3, 4, 5, 6, 7, 8, 9, 10, 11] rfl (by kernel_rfl) ?_
        refine rm rfl ?_
        refine rm rfl ?_
        refine rm rfl ?_
        refine rs rfl (s_iaS hl (by omega) (by omega) rfl rfl rfl underlying22 sizeOf37) ?_
        obtain ⟨sv67, hsv67, hat67⟩ := hl.get (j := i) (by omega)
        refine rs rfl (s_ldS hat67 (by omega) rfl rfl isAgg37 sizeOf37) ?_
        refine rm rfl ?_
        refine rm rfl ?_
        refine rs rfl (s_iaS hl (by omega) (by omega) rfl rfl rfl underlying22 sizeOf37) ?_
        obtain ⟨sv71, hsv71, hat71⟩ := hl.get (j := k) (by omega)
        refine rs rfl (s_ldS hat71 (by omega) rfl rfl isAgg37 sizeOf37) ?_
        refine run_call (vs := [_, _]) rfl rfl rfl rfl rfl rfl en65 (rcompose_fn (l.getD i ([], false)) (l.getD k ([], false)) _ _ _ hsv67 hsv71 (fun j hj => by have h1 := hok i (by omega); have h2 := (hok k (by omega)); have h3 := h2.2.2.getD_range hj; omega)) ?_
        intro v72 h72 hv72 hh72
        have hl := hl.mono hh72
        have hsv67 := hsv67.mono hh72
        have hsv71 := hsv71.mono hh72
        obtain ⟨sv72, rfl, hsv72⟩ := hv72
        refine run_callv (vs := [_, _]) rfl rfl rfl rfl rfl rfl en84 (idxA_fn _ _ _ _ _ hl hsv72) ?_
        refine rs rfl (s_lt rfl rfl rfl) ?_
        apply run_end
        refine wp_if' rfl (fun hc74 => ?_) (fun hc74 => ?_)
        ·skip
         apply wp_seq'
         refine wp_text rfl ?_
         refine rm rfl ?_
         apply run_end
         apply wp_ret'
         exact fin_ret (res_tmp rfl rfl) (by rw [rgrpI, if_neg hc12, if_neg hc15, if_neg hc18, if_neg (by simp [hz]), if_neg (by simp [hadj]), if_neg (by rw [closedB_no (i := i) (k := k) (by omega) (by omega) hc74]; simp)])
        ·skip
         apply wp_skip'
         refine wp_text rfl ?_
         refine rm rfl ?_
         refine rs rfl (s_add rfl rfl rfl (IntWalk.i64_in _ (by omega))) ?_
         refine rm rfl ?_
         apply run_end
         exact ⟨k + 1, ⟨by omega, fun j hj => (Nat.lt_succ_iff_lt_or_eq.1 hj).elim (hn3 j) (fun e => by rw [e]; exact hc74)⟩, by omega, ⟨by repeat (first|exact True.intro|refine And.intro rfl ?_), (by first | exact fun _ _ hb => hb | assumption), by repeat (first|exact NS _|exact SR _|apply SCC|apply SC)⟩⟩
       ·skip
        apply wp_exit'
        refine wp_text rfl ?_
        refine rm rfl ?_
        refine rs rfl (s_add rfl rfl rfl (IntWalk.i64_in _ (by omega))) ?_
        refine rm rfl ?_
        apply run_end
        exact ⟨i + 1, ⟨by omega, fun j hj => (Nat.lt_succ_iff_lt_or_eq.1 hj).elim (hn2 j) (fun e => by rw [e]; exact fun k2 hk2 => hn3 k2 (by omega))⟩, by omega, ⟨by repeat (first|exact True.intro|refine And.intro rfl ?_), (by first | exact fun _ _ hb => hb | assumption), by repeat (first|exact NS _|exact SR _|apply SCC|apply SC)⟩⟩
      ·skip
       apply wp_exit'
       apply wp_seq'
       refine wp_text rfl ?_
       refine rm rfl ?_
       apply run_end
       apply wp_ret'
       exact fin_ret (res_tmp rfl rfl) (by rw [rgrpI, if_neg hc12, if_neg hc15, if_neg hc18, if_neg (by simp [hz]), if_neg (by simp [hadj]), if_pos (closedB_yes fun j hj k hk => hn2 j (by omega) k hk)])
end Go.Tal

/-
 Plain: small fillings under symmetries; what GroupActs compares.
-/
namespace Go.Tal
open Go.RowKit Go.Proofs _root_.Tal
def smallB (f : List Int) : Bool := !(decide (9 < (f.length : Int))) && f.all fun x => !(decide (x < -1000) || decide (1000 < x))
theorem smallB_long {f : List Int} (h : 9 < (f.length : Int)) : smallB f = false := by rw [smallB, decide_eq_true h]; rfl
theorem smallB_no {f : List Int} {i : Nat} (hi : i < f.length) (h : f.getD i 0 < -1000 ∨ 1000 < f.getD i 0) : smallB f = false := by
 refine Bool.eq_false_iff.2 fun hs => ?_
 have h1 := List.all_eq_true.1 (Bool.and_eq_true_iff.1 hs).2 _ (getD_mem hi)
 rcases h with h | h
 ·rw [decide_eq_true h] at h1; cases h1
 ·rw [decide_eq_true h, Bool.or_true] at h1; cases h1
theorem smallB_yes {f : List Int} (h9 : ¬ 9 < (f.length : Int)) (h : ∀ i, i < f.length → ¬ f.getD i 0 < -1000 ∧ ¬ 1000 < f.getD i 0) : smallB f = true := by
 rw [smallB, decide_eq_false h9]
 refine List.all_eq_true.2 fun x hx => ?_
 obtain ⟨i, hi, rfl⟩ := List.getElem_of_mem hx
 have := h i hi
 rw [List.getD_eq_getElem?_getD, List.getElem?_eq_getElem hi] at this
 simp only [Option.getD_some] at this
 rw [decide_eq_false this.1, decide_eq_false this.2]; rfl
theorem smallB_spec {f : List Int} (h : smallB f = true) : f.length ≤ 9 ∧ ∀ x ∈ f, -1000 ≤ x ∧ x ≤ 1000 := by
 obtain ⟨h1, h2⟩ := Bool.and_eq_true_iff.1 h
 have h3 : ¬ 9 < (f.length : Int) := by simpa using h1
 refine ⟨by omega, fun x hx => ?_⟩
 have := List.all_eq_true.1 h2 x hx
 simp only [Bool.not_eq_true', Bool.or_eq_false_iff, decide_eq_false_iff_not] at this
 omega
end Go.Tal

/-
 Plain: what GroupLagrange and GroupImages compare.
-/
namespace Go.Tal
open Go.RowKit Go.Proofs _root_.Tal
def fewB (l : List Sy) (c m : Int) : Bool := decide ((l.length : Int) ≤ m) && decide (c ≤ 16) && decide (rgrpI l c = 0)
theorem fewB_spec {l : List Sy} {c m : Int} (h : fewB l c m = true) : (l.length : Int) ≤ m ∧ c ≤ 16 ∧ groupI l c = 0 := by
 simp only [fewB, Bool.and_eq_true, decide_eq_true_eq] at h
 exact ⟨h.1.1, h.1.2, by rw [← rgrpI_eq]; exact h.2⟩
theorem lag_base {l : List Sy} {f : List Int} (hs : smallB f = true) (hf : fewB l f.length 48 = true) : f.length ≤ 9 ∧ l.length ≤ 48 ∧ groupI l f.length = 0 ∧ Grp f.length l ∧ Mod1 1000 f := by
 obtain ⟨h9, hbd⟩ := smallB_spec hs
 obtain ⟨h1, _, h3⟩ := fewB_spec hf
 refine ⟨h9, by omega, h3, ?_, h9, hbd⟩
 have := grp_of h3
 rwa [Int.toNat_natCast] at this
end Go.Tal

/-
 Plain: what GroupImages compares.
-/
namespace Go.Tal
open Go.RowKit Go.Proofs _root_.Tal
theorem img_ok {l : List Sy} {f g : List Int} (hs : smallB f = true) (hs2 : smallB g = true) (hlen : f.length = g.length) (hfew : fewB l f.length 48 = true) :
 ∃ m1 m2, f.length ≤ 9 ∧ g.length ≤ 9 ∧ l.length ≤ 48 ∧ (∀ a ∈ l, Ok f.length a) ∧ canonO l f = (m1, 0) ∧ canonO l g = (m2, 0) ∧ m1.length = f.length ∧ fillI f = 0 ∧
 (∀ a ∈ l, canonO l (imgI a.1 a.2 f) = (m1, 0) ∧ (sameO l (imgI a.1 a.2 f) m1).2 = 0 ∧ (sameO l (imgI a.1 a.2 f) m1).1 ∈ l ∧ imgI (sameO l (imgI a.1 a.2 f) m1).1.1 (sameO l (imgI a.1 a.2 f) m1).1.2 (imgI a.1 a.2 f) = m1 ∧ lexLt (imgI a.1 a.2 f) m1 = false ∧ fillI (imgI a.1 a.2 f) = 0 ∧ (imgI a.1 a.2 f).length = f.length) ∧
 (∃ a ∈ l, imgI a.1 a.2 f = m1) ∧ ((sameO l f g).2 = 0 ↔ m1 = m2) ∧ ((sameO l f g).2 = 0 ∨ (sameO l f g).2 = 7) := by
 obtain ⟨h9, h48, hg, hG, hm⟩ := lag_base hs hfew
 obtain ⟨g9, gbd⟩ := smallB_spec hs2
 have hmg : Mod1 1000 g := ⟨g9, gbd⟩
 have hgg : groupI l g.length = 0 := by rw [← hlen]; exact hg
 obtain ⟨o1, o2⟩ := orb_head hG
 obtain ⟨b, hb, eb⟩ := mem_orb.1 o1
 have hm1 : Mod1 1010 ((orb l f).getD 0 []) := by rw [← eb]; exact mod_img hm (hG.ok b hb)
 have ml : ((orb l f).getD 0 []).length = f.length := by rw [← eb]; exact imgI_len _ _ _
 refine ⟨(orb l f).getD 0 [], (orb l g).getD 0 [], h9, g9, h48, hG.ok, canonO_mod hg hm (by omega), canonO_mod hgg hmg (by omega), ml, mod_fill hm (by omega), fun a ha => ?_, ⟨b, hb, eb⟩, ?_⟩
 ·have hl2 : (imgI a.1 a.2 f).length = f.length := imgI_len _ _ _
  have hma : Mod1 1010 (imgI a.1 a.2 f) := mod_img hm (hG.ok a ha)
  have hga : groupI l (imgI a.1 a.2 f).length = 0 := by rw [hl2]; exact hg
  have ho := orb_img hG ha
  have hsame := sameO_mod (B := 1010) (g := (orb l f).getD 0 []) hga hma (by omega) hm1 (by rw [ml, hl2])
  have hex : ∃ c ∈ l, imgI c.1 c.2 (imgI a.1 a.2 f) = (orb l f).getD 0 [] := mem_orb.1 (by rw [ho]; exact o1)
  refine ⟨by rw [canonO_mod hga hma (by omega), ho], ?_⟩
  rcases hsame with ⟨_, h2, h3, h4⟩ | ⟨h1, _⟩
  ·exact ⟨h2, h3, h4, o2 _ (mem_orb.2 ⟨a, ha, rfl⟩), mod_fill hma (by omega), hl2⟩
  ·exact absurd hex h1
 ·rw [← same_orbit hG hlen.symm]
  rcases sameO_mod hg hm (show (1000 : Int) ≤ 999999999 by omega) hmg hlen.symm with ⟨h1, h2, _⟩ | ⟨h1, h2⟩
  ·exact ⟨⟨fun _ => h1, fun _ => h2⟩, .inl h2⟩
  ·have e7 : (sameO l f g).2 = 7 := by rw [h2]
   exact ⟨⟨fun h => by omega, fun h => absurd h h1⟩, .inr e7⟩
def foundTo (l : List Sy) (f m : List Int) (i : Nat) : Bool := (l.take i).any fun a => decide (imgI a.1 a.2 f = m)
theorem foundTo_succ {l : List Sy} {f m : List Int} {i : Nat} (hi : i < l.length) : foundTo l f m (i + 1) = (foundTo l f m i || decide (imgI (l.getD i ([], false)).1 (l.getD i ([], false)).2 f = m)) := by
 unfold foundTo
 rw [List.take_succ_eq_append_getElem hi, List.any_append]
 simp [List.getD_eq_getElem?_getD, List.getElem?_eq_getElem hi]
theorem foundTo_all {l : List Sy} {f m : List Int} (h : ∃ a ∈ l, imgI a.1 a.2 f = m) : foundTo l f m l.length = true := by
 obtain ⟨a, ha, e⟩ := h
 rw [foundTo, List.take_length]
 exact List.any_eq_true.2 ⟨a, ha, decide_eq_true e⟩
end Go.Tal

/-
 The reference's Subset.
-/
namespace Go.Tal
open Go.RowKit Go.Proofs _root_.Tal
theorem idx_in {l : List Sy} {a : Sy} : idxA l a < 0 ↔ ¬ a ∈ l := by
 have := idxA_neg (l := l) (a := a)
 by_cases h : a ∈ l
 ·rw [decide_eq_true h] at this; simp only [Bool.not_true, decide_eq_false_iff_not] at this; exact ⟨fun h1 => absurd h1 this, fun h1 => absurd h h1⟩
 ·rw [decide_eq_false h] at this; simp only [Bool.not_false, decide_eq_true_eq] at this; exact ⟨fun _ => h, fun _ => this⟩
end Go.Tal

/-
 Symbolic states: parts of lists that are read, appended to rows; insertion into ascending lists.
-/
namespace Go.Tal
open Go.RowKit Go.Proofs _root_.Tal
theorem CapOk.nil : CapOk (.slice none 0 0) 0 := ⟨none, 0, rfl, Nat.le_refl _⟩
theorem addr_add (b o n : Nat) : (⟨b, o, none⟩ : Addr).add n = ⟨b, o + n, none⟩ := by unfold Addr.add; split <;> simp_all
/-- The values of a list of lists that is read, and where its parts lie. -/
theorem RdT.parts {h : H} {A : Option Addr} {n c : Nat} {l : List (List Int)} (r : RdT h (.slice A n c) l) (hc : n ≤ c) : ∃ vals : List Value, AllRd h vals l ∧ vals.length = n ∧ ∀ k, k ≤ n → ∀ L : List Own,
 (0 < k → ∃ b o', (if c = 0 then A else A.map (·.add 0)) = some ⟨b, o', none⟩ ∧ ∀ j u, (vals.take k)[j]? = some u → Cell h L b (o' + j) u) ∧
 (0 < n - k → ∃ b o', (if c = k then A else A.map (·.add (k * 1))) = some ⟨b, o', none⟩ ∧ ∀ j u, (vals.drop k)[j]? = some u → Cell h L b (o' + j) u) := by
 obtain ⟨A', c', e, hm, hr⟩ := r
 simp only [Value.slice.injEq] at e
 obtain ⟨rfl, rfl, rfl⟩ := e
 by_cases h0 : 0 < l.length
 ·obtain ⟨b, o, rfl, arr, t, fz, hb, hg⟩ := hr h0
  obtain ⟨vals, hv1, hv2⟩ := choose_list (Value.slice none 0 0) l.length fun i hi => (hg i hi)
  have hget : ∀ {j : Nat} {u : Value}, vals[j]? = some u → arr[o + j]? = some u := fun {j u} hu => by
   have hj := (List.getElem?_eq_some_iff.1 hu).1
   obtain ⟨h1, _⟩ := hv2 j (by omega)
   rw [List.getD_eq_getElem?_getD, hu] at h1
   exact h1
  refine ⟨vals, ⟨by omega, fun j hj => ?_⟩, hv1, fun k hk L => ⟨fun hp => ⟨b, o, ?_, fun j u hu => ?_⟩, fun hp => ⟨b, o + k, ?_, fun j u hu => ?_⟩⟩⟩
  ·obtain ⟨_, h2⟩ := hv2 j (by omega)
   refine ⟨vals.getD j (.slice none 0 0), ?_, h2⟩
   rw [List.getD_eq_getElem?_getD, List.getElem?_eq_getElem hj]
   rfl
  ·rw [if_neg (by omega)]
   rfl
  ·rw [List.getElem?_take] at hu
   split at hu
   ·exact .imm arr t fz hb (hget hu)
   ·cases hu
  ·rw [if_neg (by omega), Option.map_some, addr_add, Nat.mul_one]
  ·rw [List.getElem?_drop] at hu
   refine .imm arr t fz hb ?_
   rw [Nat.add_assoc]
   exact hget hu
 ·have e0 : l = [] := List.eq_nil_of_length_eq_zero (by omega)
  subst e0
  exact ⟨[], ⟨rfl, fun j hj => absurd hj (Nat.not_lt_zero j)⟩, rfl, fun k hk L => ⟨fun hp => absurd hk (by simp; omega), fun hp => absurd hp (by simp)⟩⟩
theorem RdS.parts {h : H} {A : Option Addr} {n c : Nat} {l : List Sy} (r : RdS h (.slice A n c) l) (hc : n ≤ c) : ∃ ps : List (Value × Sy), SetOk h ps ∧ ps.map (·.2) = l ∧ ps.length = n ∧ ∀ k, k ≤ n → ∀ L : List Own,
 (0 < k → ∃ b o', (if c = 0 then A else A.map (·.add 0)) = some ⟨b, o', none⟩ ∧ ∀ j u, (rowS (ps.take k))[j]? = some u → Cell h L b (o' + j) u) ∧
 (0 < n - k → ∃ b o', (if c = k then A else A.map (·.add (k * 2))) = some ⟨b, o', none⟩ ∧ ∀ j u, (rowS (ps.drop k))[j]? = some u → Cell h L b (o' + j) u) := by
 obtain ⟨A', c', e, hm, hr⟩ := r
 simp only [Value.slice.injEq] at e
 obtain ⟨rfl, rfl, rfl⟩ := e
 by_cases h0 : 0 < l.length
 ·obtain ⟨b, o, rfl, arr, t, fz, hb, hg⟩ := hr h0
  obtain ⟨ps, hv1, hv2⟩ := choose_list (p := fun i (q : Value × Sy) => arr[o + i * 2]? = some q.1 ∧ arr[o + i * 2 + 1]? = some (.bool q.2.2) ∧ RdI h q.1 q.2.1 ∧ q.2 = l.getD i ([], false)) ((.slice none 0 0, ([], false)) : Value × Sy) l.length fun i hi => by
   obtain ⟨sv, g1, g2, g3⟩ := hg i hi
   exact ⟨(sv, l.getD i ([], false)), g1, g2, g3, rfl⟩
  have hp : ∀ {j : Nat} (hj : j < ps.length), ps.getD j (.slice none 0 0, ([], false)) = ps[j] := fun hj => by rw [List.getD_eq_getElem?_getD, List.getElem?_eq_getElem hj]; rfl
  have hget : ∀ {j : Nat} {u : Value}, (rowS ps)[j]? = some u → arr[o + j]? = some u := fun {j u} hu => by
   have hj := (List.getElem?_eq_some_iff.1 hu).1
   rw [rowS_len] at hj
   obtain ⟨g1, g2⟩ := rowS_get (l := ps) (j := j / 2) (List.getElem?_eq_getElem (by omega))
   obtain ⟨h1, h2, _⟩ := hv2 (j / 2) (by omega)
   rw [hp (by omega)] at h1 h2
   rcases Nat.mod_two_eq_zero_or_one j with e | e
   ·have ej : j / 2 * 2 = j := by omega
    rw [ej] at g1 h1
    rw [hu] at g1
    rw [h1, g1]
   ·have ej : j / 2 * 2 + 1 = j := by omega
    rw [Nat.add_assoc, ej] at h2
    rw [ej] at g2
    rw [hu] at g2
    rw [h2, g2]
  have hmap : ps.map (·.2) = l := by
   apply List.ext_getElem
   ·simp [hv1]
   ·intro j h1 h2
    rw [List.length_map] at h1
    obtain ⟨_, _, _, h4⟩ := hv2 j (by omega)
    rw [hp h1] at h4
    rw [List.getElem_map, h4, List.getD_eq_getElem?_getD, List.getElem?_eq_getElem h2]
    rfl
  refine ⟨ps, fun q hq => ?_, hmap, hv1, fun k hk L => ⟨fun hp => ⟨b, o, ?_, fun j u hu => ?_⟩, fun hp => ⟨b, o + k * 2, ?_, fun j u hu => ?_⟩⟩⟩
  ·obtain ⟨j, hj, rfl⟩ := List.getElem_of_mem hq
   obtain ⟨_, _, h3, _⟩ := hv2 j (by omega)
   rw [hp hj] at h3
   exact h3
  ·rw [if_neg (by omega)]
   rfl
  ·refine .imm arr t fz hb (hget ?_)
   have hs : rowS ps = rowS (ps.take k) ++ rowS (ps.drop k) := by unfold rowS; rw [← List.flatMap_append, List.take_append_drop]
   rw [hs, List.getElem?_append_left (List.getElem?_eq_some_iff.1 hu).1]
   exact hu
  ·rw [if_neg (by omega), Option.map_some, addr_add]
  ·refine .imm arr t fz hb ?_
   rw [Nat.add_assoc]
   refine hget ?_
   rw [← rowS_drop, List.getElem?_drop] at hu
   exact hu
 ·have e0 : l = [] := List.eq_nil_of_length_eq_zero (by omega)
  subst e0
  exact ⟨[], fun q hq => by simp at hq, rfl, rfl, fun k hk L => ⟨fun hp => absurd hk (by simp; omega), fun hp => absurd hp (by simp)⟩⟩
theorem RdI.parts {h : H} {A : Option Addr} {n c : Nat} {l : List Int} (r : RdI h (.slice A n c) l) (hc : n ≤ c) : ∀ k, k ≤ n → ∀ L : List Own,
 (0 < k → ∃ b o', (if c = 0 then A else A.map (·.add 0)) = some ⟨b, o', none⟩ ∧ ∀ j u, ((l.take k).map (Value.int .i64))[j]? = some u → Cell h L b (o' + j) u) ∧
 (0 < n - k → ∃ b o', (if c = k then A else A.map (·.add (k * 1))) = some ⟨b, o', none⟩ ∧ ∀ j u, ((l.drop k).map (Value.int .i64))[j]? = some u → Cell h L b (o' + j) u) := by
 intro k hk L
 obtain ⟨A', c', e, hm, hr⟩ := r
 simp only [Value.slice.injEq] at e
 obtain ⟨rfl, rfl, rfl⟩ := e
 have hget : ∀ {b o : Nat} {arr : Array Value}, (∀ j, j < l.length → arr[o + j]? = some (.int .i64 (l.getD j 0))) → ∀ {j : Nat} {z : Int}, l[j]? = some z → arr[o + j]? = some (.int .i64 z) := fun {b o arr} hg {j z} hu => by
  have hj := (List.getElem?_eq_some_iff.1 hu).1
  have := hg j hj
  rw [List.getD_eq_getElem?_getD, hu] at this
  exact this
 refine ⟨fun hp => ?_, fun hp => ?_⟩
 ·obtain ⟨b, o, rfl, arr, t, fz, hb, hg⟩ := hr (by omega)
  refine ⟨b, o, by rw [if_neg (by omega)]; rfl, fun j u hu => ?_⟩
  rw [List.getElem?_map, List.getElem?_take] at hu
  split at hu
  ·rw [Option.map_eq_some_iff] at hu
   obtain ⟨z, hz, rfl⟩ := hu
   exact .imm arr t fz hb (hget (b := b) hg hz)
  ·cases hu
 ·obtain ⟨b, o, rfl, arr, t, fz, hb, hg⟩ := hr (by omega)
  refine ⟨b, o + k, by rw [if_neg (by omega), Option.map_some, addr_add, Nat.mul_one], fun j u hu => ?_⟩
  rw [List.getElem?_map, List.getElem?_drop, Option.map_eq_some_iff] at hu
  obtain ⟨z, hz, rfl⟩ := hu
  refine .imm arr t fz hb ?_
  rw [Nat.add_assoc]
  exact hget (b := b) hg hz
end Go.Tal

/-
 The reference's insertions into sorted lists.
-/
namespace Go.Tal
open Go.RowKit Go.Proofs _root_.Tal
end Go.Tal

/-
 The reference's orbits and stabilizers.
-/
namespace Go.Tal
open Go.RowKit Go.Proofs _root_.Tal
end Go.Tal

/-
 GroupActs: applying after composing, inverting, and as often as the order says.
-/
namespace Go.Tal
open Go.RowKit Go.Proofs Go.Proofs.Tryz _root_.Tal
theorem s_lit {P : Program} {o : Oper} {F : List (Nat × Value)} {h : H} {L : List Own} {p q : Bool} (hs : SoftOk P o F h L (.bool p)) (e : p = q) : SoftOk P o F h L (.bool q) := e ▸ hs
set_option maxRecDepth 8000 in
theorem small_fn (f : List Int) (v : Value) (h : H) (hf : RdI0 h v f) : FnV Tryz.prog 80 #[v] h (.bool (smallB f)) := by
 refine fn_of (vs := [v]) func80 rfl ntmps80 (Nat.le_of_ble_eq_true rfl) fun w hw => ?_
 apply wp_seq'
 refine wp_text rfl ?_
 refine rm rfl ?_
 apply run_end
 apply wp_seq'
 apply wp_seq'
 refine wp_text rfl ?_
 refine rm rfl ?_
 refine rs rfl (s_lenI0 hf rfl rfl underlying35) ?_
 refine rs rfl (s_gt rfl rfl rfl) ?_
 apply run_end
 refine wp_if' rfl (fun hc6 => ?_) (fun hc6 => ?_)
 ·skip
  apply wp_seq'
  refine wp_text rfl ?_
  refine rm rfl ?_
  apply run_end
  apply wp_ret'
  exact fin_ret (res_tmp rfl rfl) (by rw [smallB_long hc6])
 ·skip
  have hf := hf.toI (by omega)
  apply wp_skip'
  apply wp_seq'
  apply wp_seq'
  refine wp_text rfl ?_
  refine rm rfl ?_
  apply run_end
  apply wp_block'
  refine wp_loop' (fun i : Nat => i ≤ f.length ∧ ∀ j, j < i → ¬ f.getD j 0 < -1000 ∧ ¬ 1000 < f.getD j 0) (fun i => ⟨[(3, .int .i64 i), (0, v)], h, []⟩) (fun i => f.length - i) 0 ⟨Nat.zero_le _, fun _ h => by omega⟩ ⟨by repeat (first|exact True.intro|refine And.intro rfl ?_), rfl, by repeat (first|exact NS _|exact SR _|apply SCC|apply SC)⟩ fun i hi => ?_
  obtain ⟨hi, hn⟩ := hi
  apply wp_seq'
  apply wp_seq'
  refine wp_text rfl ?_
  refine rm rfl ?_
  refine rm rfl ?_
  refine rs rfl (s_lenI hf rfl rfl underlying35) ?_
  refine rs rfl (s_lt rfl rfl rfl) ?_
  apply run_end
  refine wp_if' rfl (fun hc10 => ?_) (fun hc10 => ?_)
  ·skip
   apply wp_skip'
   apply wp_seq'
   apply wp_block'
   apply wp_seq'
   refine wp_text rfl ?_
   refine rm rfl ?_
   refine rm rfl ?_
   refine rs rfl (s_iaI hf (by omega) (by omega) rfl rfl rfl underlying35 sizeOf3) ?_
   refine rs rfl (s_ldI hf (by omega) (by omega) rfl rfl isAgg3) ?_
   try simp only [Int.toNat_natCast]
   refine rs rfl (s_lt rfl rfl rfl) ?_
   refine rm rfl ?_
   refine run_cases (t := 18) rfl (fun hg18 => ?_) (fun hg18 => ?_)
   ·skip
    refine run_skip rfl rfl rfl rfl rfl rfl rfl ?_
    refine run_skip rfl rfl rfl rfl rfl rfl rfl ?_
    refine run_skip rfl rfl rfl rfl rfl rfl rfl ?_
    refine run_skip rfl rfl rfl rfl rfl rfl rfl ?_
    refine run_skip rfl rfl rfl rfl rfl rfl rfl ?_
    refine rs rfl (s_pick rfl rfl (fun _ => rfl) (fun h => by cases h)) ?_
    apply run_end
    refine wp_cond' (b := true) rfl (fun _ => ?_) (fun h => by cases h)
    apply wp_seq'
    refine wp_text rfl ?_
    refine rm rfl ?_
    apply run_end
    apply wp_ret'
    exact fin_ret (res_tmp rfl rfl) (by rw [smallB_no (i := i) (by omega) (.inl hg18)])
   ·skip
    refine rsg rfl rfl (s_move rfl rfl) ?_
    refine rsg rfl rfl (s_move rfl rfl) ?_
    refine rsg rfl rfl (s_iaI hf (by omega) (by omega) rfl rfl rfl underlying35 sizeOf3) ?_
    refine rsg rfl rfl (s_ldI hf (by omega) (by omega) rfl rfl isAgg3) ?_
    try simp only [Int.toNat_natCast]
    refine rsg rfl rfl (s_gt rfl rfl rfl) ?_
    refine rs rfl (s_pick rfl rfl (fun h => by cases h) (fun _ => rfl)) ?_
    apply run_end
    refine wp_if' rfl (fun hc24 => ?_) (fun hc24 => ?_)
    ·skip
     apply wp_seq'
     refine wp_text rfl ?_
     refine rm rfl ?_
     apply run_end
     apply wp_ret'
     exact fin_ret (res_tmp rfl rfl) (by rw [smallB_no (i := i) (by omega) (.inr hc24)])
    ·skip
     apply wp_skip'
     refine wp_text rfl ?_
     refine rm rfl ?_
     refine rs rfl (s_add rfl rfl rfl (IntWalk.i64_in _ (by omega))) ?_
     refine rm rfl ?_
     apply run_end
     exact ⟨i + 1, ⟨by omega, fun j hj => (Nat.lt_succ_iff_lt_or_eq.1 hj).elim (hn j) (fun e => by rw [e]; exact ⟨hg18, hc24⟩)⟩, by omega, ⟨by repeat (first|exact True.intro|refine And.intro rfl ?_), rfl, by repeat (first|exact NS _|exact SR _|apply SCC|apply SC)⟩⟩
  ·skip
   apply wp_exit'
   apply wp_seq'
   refine wp_text rfl ?_
   refine rm rfl ?_
   apply run_end
   apply wp_ret'
   exact fin_ret (res_tmp rfl rfl) (by rw [smallB_yes hc6 (fun j hj => hn j (by omega))])
end Go.Tal

/-
 GroupLagrange: orbits, stabilizers and cosets.
-/
namespace Go.Tal
open Go.RowKit Go.Proofs Go.Proofs.Tryz _root_.Tal
set_option maxRecDepth 8000 in
theorem few_fn (l : List Sy) (c m : Int) (v : Value) (h : H) (hl : RdS0 h v l) : FnV Tryz.prog 45 #[v, .int .i64 c, .int .i64 m] h (.bool (fewB l c m)) := by
 refine fn_of (vs := [v, .int .i64 c, .int .i64 m]) func45 rfl ntmps45 (Nat.le_of_ble_eq_true rfl) fun w hw => ?_
 apply wp_seq'
 refine wp_text rfl ?_
 refine rm rfl ?_
 apply run_end
 apply wp_seq'
 refine wp_text rfl ?_
 refine rm rfl ?_
 refine rs rfl (s_lenS0 hl rfl rfl underlying22) ?_
 refine rm rfl ?_
 refine rs rfl (s_le rfl rfl rfl) ?_
 refine rm rfl ?_
 refine run_cases (t := 11) rfl (fun hg11 => ?_) (fun hg11 => ?_)
 ·skip
  refine rsg rfl rfl (s_move rfl rfl) ?_
  refine rsg rfl rfl (s_le rfl rfl rfl) ?_
  refine rs rfl (s_pick rfl rfl (fun _ => rfl) (fun h => by cases h)) ?_
  refine rm rfl ?_
  refine run_cases (t := 15) rfl (fun hg15 => ?_) (fun hg15 => ?_)
  ·skip
   refine rsg rfl rfl (s_move rfl rfl) ?_
   refine rsg rfl rfl (s_move rfl rfl) ?_
   refine run_callvg (vs := [_, _]) rfl rfl rfl rfl rfl rfl rfl rfl en20 (rgroup_fn _ _ _ _ hl) ?_
   refine rsg rfl rfl (s_eq rfl rfl rfl) ?_
   refine rs rfl (s_pick rfl rfl (fun _ => rfl) (fun h => by cases h)) ?_
   refine rm rfl ?_
   apply run_end
   apply wp_ret'
   exact fin_ret (res_tmp rfl rfl) (by rw [fewB, decide_eq_true hg11, decide_eq_true hg15]; rfl)
  ·skip
   refine run_skip rfl rfl rfl rfl rfl rfl rfl ?_
   refine run_skip rfl rfl rfl rfl rfl rfl rfl ?_
   refine run_skip rfl rfl rfl rfl rfl rfl rfl ?_
   refine run_skip rfl rfl rfl rfl rfl rfl rfl ?_
   refine rs rfl (s_pick rfl rfl (fun h => by cases h) (fun _ => rfl)) ?_
   refine rm rfl ?_
   apply run_end
   apply wp_ret'
   exact fin_ret (res_tmp rfl rfl) (by rw [fewB, decide_eq_true hg11, decide_eq_false hg15]; rfl)
 ·skip
  refine run_skip rfl rfl rfl rfl rfl rfl rfl ?_
  refine run_skip rfl rfl rfl rfl rfl rfl rfl ?_
  refine rs rfl (s_pick rfl rfl (fun h => by cases h) (fun _ => rfl)) ?_
  refine rm rfl ?_
  refine run_skip rfl rfl rfl rfl rfl rfl rfl ?_
  refine run_skip rfl rfl rfl rfl rfl rfl rfl ?_
  refine run_skip rfl rfl rfl rfl rfl rfl rfl ?_
  refine run_skip rfl rfl rfl rfl rfl rfl rfl ?_
  refine rs rfl (s_pick rfl rfl (fun h => by cases h) (fun _ => rfl)) ?_
  refine rm rfl ?_
  apply run_end
  apply wp_ret'
  exact fin_ret (res_tmp rfl rfl) (by rw [fewB, decide_eq_false hg11]; rfl)
end Go.Tal

/-
 GroupImages: canonical images and same orbits.
-/
namespace Go.Tal
open Go.RowKit Go.Proofs Go.Proofs.Tryz _root_.Tal
theorem canon_ok {l : List Sy} {f r : List Int} {v u : Value} {h : H} (e : canonO l f = (r, 0)) (hl : RdS h v l) (hf : RdI h u f) : Fn Tryz.prog 47 #[v, u] h fun x h' => ∃ sv, x = .tuple #[sv, .int .i64 0] ∧ RdI h' sv r := by
 have := canonical_fn l f v u h hl hf
 rwa [e] at this
theorem same_ok {l : List Sy} {f g : List Int} {c : Int} {v u t : Value} {h : H} (e : (sameO l f g).2 = c) (hl : RdS h v l) (hf : RdI h u f) (hg : RdI h t g) : Fn Tryz.prog 86 #[v, u, t] h fun r h' => ∃ sv, r = .tuple #[.agg #[sv, .bool (sameO l f g).1.2], .int .i64 c] ∧ RdI h' sv (sameO l f g).1.1 := by
 have := same_fn l f g v u t h hl hf hg
 rwa [e] at this
theorem before_lit {f g : List Int} {b : Bool} {v u : Value} {h : H} (e : lexLt f g = b) (hf : RdI h v f) (hg : RdI h u g) : FnV Tryz.prog 88 #[v, u] h (.bool b) := by
 have := before_fn f g v u h hf hg
 rwa [e] at this
theorem beq_dec {p q : Prop} [Decidable p] [Decidable q] (h : p ↔ q) : (decide p == decide q) = true := by
 have e : decide p = decide q := decide_eq_decide.2 h
 rw [e]; simp
set_option maxRecDepth 8000 in
set_option maxHeartbeats 4000000 in
theorem law_images (l : List Sy) (f g : List Int) (v u t : Value) (h : H) (hl : RdS0 h v l) (hf : RdI0 h u f) (hg : RdI0 h t g) : FnV Tryz.prog 17 #[v, u, t] h (.bool true) := by
 refine fn_of (vs := [v, u, t]) func17 rfl ntmps17 (Nat.le_of_ble_eq_true rfl) fun w hw => ?_
 apply wp_seq'
 refine wp_text rfl ?_
 refine rm rfl ?_
 apply run_end
 apply wp_seq'
 apply wp_seq'
 refine wp_text rfl ?_
 refine run_callv (vs := []) rfl rfl rfl rfl rfl rfl en18 (awake_fn _) ?_
 refine rs rfl (s_not rfl rfl) ?_
 refine rm rfl ?_
 refine rsg rfl rfl (s_move rfl rfl) ?_
 refine run_callvg (vs := [_]) rfl rfl rfl rfl rfl rfl rfl rfl en80 (small_fn _ _ _ hf) ?_
 refine rsg rfl rfl (s_not rfl rfl) ?_
 refine rs rfl (s_pick rfl rfl (fun h => by cases h) (fun _ => rfl)) ?_
 refine rm rfl ?_
 refine run_cb (t := 27) rfl (fun hg27 => ?_) (fun hg27 => ?_)
 ·skip
  refine run_skip rfl rfl rfl rfl rfl rfl rfl ?_
  refine run_skip rfl rfl rfl rfl rfl rfl rfl ?_
  refine run_skip rfl rfl rfl rfl rfl rfl rfl ?_
  refine rs rfl (s_pick rfl rfl (fun _ => rfl) (fun h => by cases h)) ?_
  refine rm rfl ?_
  refine run_skip rfl rfl rfl rfl rfl rfl rfl ?_
  refine run_skip rfl rfl rfl rfl rfl rfl rfl ?_
  refine run_skip rfl rfl rfl rfl rfl rfl rfl ?_
  refine run_skip rfl rfl rfl rfl rfl rfl rfl ?_
  refine run_skip rfl rfl rfl rfl rfl rfl rfl ?_
  refine rs rfl (s_pick rfl rfl (fun _ => rfl) (fun h => by cases h)) ?_
  refine rm rfl ?_
  refine run_skip rfl rfl rfl rfl rfl rfl rfl ?_
  refine run_skip rfl rfl rfl rfl rfl rfl rfl ?_
  refine run_skip rfl rfl rfl rfl rfl rfl rfl ?_
  refine run_skip rfl rfl rfl rfl rfl rfl rfl ?_
  refine run_skip rfl rfl rfl rfl rfl rfl rfl ?_
  refine rs rfl (s_pick rfl rfl (fun _ => rfl) (fun h => by cases h)) ?_
  apply run_end
  refine wp_cond' (b := true) rfl (fun _ => ?_) (fun h => by cases h)
  apply wp_seq'
  refine wp_text rfl ?_
  refine run_callv (vs := []) rfl rfl rfl rfl rfl rfl en18 (awake_fn _) ?_
  refine rm rfl ?_
  apply run_end
  apply wp_ret'
  exact fin_ret (res_tmp rfl rfl) (rfl)
 ·skip
  refine rsg rfl rfl (s_move rfl rfl) ?_
  refine run_callvg (vs := [_]) rfl rfl rfl rfl rfl rfl rfl rfl en80 (small_fn _ _ _ hg) ?_
  refine rsg rfl rfl (s_not rfl rfl) ?_
  refine rs rfl (s_pick rfl rfl (fun h => by cases h) (fun _ => rfl)) ?_
  refine rm rfl ?_
  refine run_cb (t := 32) rfl (fun hg32 => ?_) (fun hg32 => ?_)
  ·skip
   refine run_skip rfl rfl rfl rfl rfl rfl rfl ?_
   refine run_skip rfl rfl rfl rfl rfl rfl rfl ?_
   refine run_skip rfl rfl rfl rfl rfl rfl rfl ?_
   refine run_skip rfl rfl rfl rfl rfl rfl rfl ?_
   refine run_skip rfl rfl rfl rfl rfl rfl rfl ?_
   refine rs rfl (s_pick rfl rfl (fun _ => rfl) (fun h => by cases h)) ?_
   refine rm rfl ?_
   refine run_skip rfl rfl rfl rfl rfl rfl rfl ?_
   refine run_skip rfl rfl rfl rfl rfl rfl rfl ?_
   refine run_skip rfl rfl rfl rfl rfl rfl rfl ?_
   refine run_skip rfl rfl rfl rfl rfl rfl rfl ?_
   refine run_skip rfl rfl rfl rfl rfl rfl rfl ?_
   refine rs rfl (s_pick rfl rfl (fun _ => rfl) (fun h => by cases h)) ?_
   apply run_end
   refine wp_cond' (b := true) rfl (fun _ => ?_) (fun h => by cases h)
   apply wp_seq'
   refine wp_text rfl ?_
   refine run_callv (vs := []) rfl rfl rfl rfl rfl rfl en18 (awake_fn _) ?_
   refine rm rfl ?_
   apply run_end
   apply wp_ret'
   exact fin_ret (res_tmp rfl rfl) (rfl)
  ·skip
   refine rsg rfl rfl (s_move rfl rfl) ?_
   refine rsg rfl rfl (s_lenI0 hf rfl rfl underlying35) ?_
   refine rsg rfl rfl (s_move rfl rfl) ?_
   refine rsg rfl rfl (s_lenI0 hg rfl rfl underlying35) ?_
   refine rsg rfl rfl (s_ne rfl rfl rfl) ?_
   refine rs rfl (s_pick rfl rfl (fun h => by cases h) (fun _ => rfl)) ?_
   refine rm rfl ?_
   refine run_cases (t := 39) rfl (fun hg39 => ?_) (fun hg39 => ?_)
   ·skip
    refine run_skip rfl rfl rfl rfl rfl rfl rfl ?_
    refine run_skip rfl rfl rfl rfl rfl rfl rfl ?_
    refine run_skip rfl rfl rfl rfl rfl rfl rfl ?_
    refine run_skip rfl rfl rfl rfl rfl rfl rfl ?_
    refine run_skip rfl rfl rfl rfl rfl rfl rfl ?_
    refine rs rfl (s_pick rfl rfl (fun _ => rfl) (fun h => by cases h)) ?_
    apply run_end
    refine wp_cond' (b := true) rfl (fun _ => ?_) (fun h => by cases h)
    apply wp_seq'
    refine wp_text rfl ?_
    refine run_callv (vs := []) rfl rfl rfl rfl rfl rfl en18 (awake_fn _) ?_
    refine rm rfl ?_
    apply run_end
    apply wp_ret'
    exact fin_ret (res_tmp rfl rfl) (rfl)
   ·skip
    refine rsg rfl rfl (s_move rfl rfl) ?_
    refine rsg rfl rfl (s_move rfl rfl) ?_
    refine rsg rfl rfl (s_lenI0 hf rfl rfl underlying35) ?_
    refine run_callvg (vs := [_, _, _]) rfl rfl rfl rfl rfl rfl rfl rfl en45 (few_fn _ _ _ _ _ hl) ?_
    refine rsg rfl rfl (s_not rfl rfl) ?_
    refine rs rfl (s_pick rfl rfl (fun h => by cases h) (fun _ => rfl)) ?_
    apply run_end
    refine wp_cond' rfl (fun hc45 => ?_) (fun hc45 => ?_)
    ·skip
     apply wp_seq'
     refine wp_text rfl ?_
     refine run_callv (vs := []) rfl rfl rfl rfl rfl rfl en18 (awake_fn _) ?_
     refine rm rfl ?_
     apply run_end
     apply wp_ret'
     exact fin_ret (res_tmp rfl rfl) (rfl)
    ·skip
     have hlen : f.length = g.length := by have := Decidable.not_not.1 hg39; omega
     obtain ⟨m1, m2, h9, g9, h48, hok, hC1, hC2, hml, hf0, hall, hex, hiff, h07⟩ := img_ok (l := l) (f := f) (g := g) (by simpa using hg27) (by simpa using hg32) hlen (by simpa using hc45)
     have hl := hl.toS (by omega) (fun a ha => by have := (hok a ha).1; omega)
     have hf := hf.toI (by omega)
     have hg := hg.toI (by omega)
     apply wp_skip'
     apply wp_seq'
     refine wp_text rfl ?_
     refine rm rfl ?_
     refine rm rfl ?_
     refine run_call (vs := [_, _]) rfl rfl rfl rfl rfl rfl en47 (canon_ok hC1 hl hf) ?_
     intro v50 h50 hv50 hh50
     have hl := hl.mono hh50
     have hf := hf.mono hh50
     have hg := hg.mono hh50
     obtain ⟨sv50, rfl, hsv50⟩ := hv50
     refine rm rfl ?_
     refine rs rfl (s_extract rfl rfl rfl) ?_
     refine rs rfl (s_extract rfl rfl rfl) ?_
     refine rm rfl ?_
     refine rm rfl ?_
     apply run_end
     apply wp_seq'
     refine wp_text rfl ?_
     refine rm rfl ?_
     refine rm rfl ?_
     refine run_call (vs := [_, _]) rfl rfl rfl rfl rfl rfl en47 (canon_ok hC2 hl hg) ?_
     intro v56 h56 hv56 hh56
     have hl := hl.mono hh56
     have hf := hf.mono hh56
     have hg := hg.mono hh56
     have hsv50 := hsv50.mono hh56
     obtain ⟨sv56, rfl, hsv56⟩ := hv56
     refine rm rfl ?_
     refine rs rfl (s_extract rfl rfl rfl) ?_
     refine rs rfl (s_extract rfl rfl rfl) ?_
     refine rm rfl ?_
     refine rm rfl ?_
     apply run_end
     apply wp_seq'
     apply wp_seq'
     refine wp_text rfl ?_
     refine rm rfl ?_
     refine rm rfl ?_
     refine rs rfl (s_add rfl rfl rfl (IntWalk.i64_in _ (by omega))) ?_
     refine rs rfl (s_lit (q := false) (s_ne rfl rfl rfl) (by decide)) ?_
     refine rm rfl ?_
     refine rsg rfl rfl (s_move rfl rfl) ?_
     refine rsg rfl rfl (s_lenI hsv50 rfl rfl underlying35) ?_
     refine rsg rfl rfl (s_move rfl rfl) ?_
     refine rsg rfl rfl (s_lenI hf rfl rfl underlying35) ?_
     refine rsg rfl rfl (s_lit (q := false) (s_ne rfl rfl rfl) (decide_eq_false (fun h => h (by rw [hml])))) ?_
     refine rs rfl (s_pick rfl rfl (fun h => by cases h) (fun _ => rfl)) ?_
     apply run_end
     refine wp_cond' (b := false) rfl (fun h => by cases h) (fun _ => ?_)
     apply wp_skip'
     apply wp_seq'
     refine wp_text rfl ?_
     refine rm rfl ?_
     apply run_end
     apply wp_seq'
     apply wp_seq'
     refine wp_text rfl ?_
     refine rm rfl ?_
     refine rs rfl (s_lenS hl rfl rfl underlying22) ?_
     refine rm rfl ?_
     apply run_end
     apply wp_block'
     refine wp_loop' (ι := H × Nat) (fun x => (∀ b o, h56 b = some o → x.1 b = some o) ∧ x.2 ≤ l.length) (fun x => ⟨[(72, .int .i64 x.2), (71, .int .i64 l.length), (11, .bool (foundTo l f m1 x.2)), (9, sv56), (7, sv50), (2, t), (1, u), (0, v)], x.1, []⟩) (fun x => l.length - x.2) (h56, 0) ⟨fun _ _ hb => hb, Nat.zero_le _⟩ ⟨by repeat (first|exact True.intro|refine And.intro rfl ?_), rfl, by repeat (first|exact NS _|exact SR _|apply SCC|apply SC)⟩ fun x hx => ?_
     obtain ⟨hX, i⟩ := x
     obtain ⟨hhX, hi⟩ := hx
     dsimp only at hhX hi ⊢
     have hl := hl.mono hhX
     have hf := hf.mono hhX
     have hg := hg.mono hhX
     have hsv50 := hsv50.mono hhX
     have hsv56 := hsv56.mono hhX
     apply wp_seq'
     refine wp_text rfl ?_
     refine rs rfl (s_lt rfl rfl rfl) ?_
     apply run_end
     apply wp_seq'
     refine wp_if' rfl (fun hc73 => ?_) (fun hc73 => ?_)
     ·skip
      have hai := getD_mem' (l := l) (i := i) (by omega)
      have hao := hok _ hai
      obtain ⟨q1, q2, q3, q4, q5, q6, q7⟩ := hall _ hai
      have hfs := foundTo_succ (f := f) (m := m1) (show i < l.length by omega)
      have hso := hok _ q3
      apply wp_skip'
      apply wp_seq'
      apply wp_block'
      apply wp_seq'
      refine wp_text rfl ?_
      refine rm rfl ?_
      refine rm rfl ?_
      apply run_end
      apply wp_seq'
      refine wp_text rfl ?_
      refine rm rfl ?_
      refine rm rfl ?_
      refine rs rfl (s_iaS hl (by omega) (by omega) rfl rfl rfl underlying22 sizeOf37) ?_
      obtain ⟨sv78, hsv78, hat78⟩ := hl.get (j := i) (by omega)
      refine rs rfl (s_ldS hat78 (by omega) rfl rfl isAgg37 sizeOf37) ?_
      refine rm rfl ?_
      refine run_call (vs := [_, _]) rfl rfl rfl rfl rfl rfl en58 (rapply_fn (l.getD i ([], false)).1 (l.getD i ([], false)).2 f _ _ _ hsv78 hf hao (fun j hj => fillI_get hf0 hj)) ?_
      intro v80 h80 hv80 hh80
      have hl := hl.mono hh80
      have hf := hf.mono hh80
      have hg := hg.mono hh80
      have hsv50 := hsv50.mono hh80
      have hsv56 := hsv56.mono hh80
      have hsv78 := hsv78.mono hh80
      refine rm rfl ?_
      apply run_end
      apply wp_seq'
      refine wp_text rfl ?_
      refine rm rfl ?_
      refine rm rfl ?_
      refine run_call (vs := [_, _]) rfl rfl rfl rfl rfl rfl en47 (canon_ok q1 hl hv80) ?_
      intro v84 h84 hv84 hh84
      have hl := hl.mono hh84
      have hf := hf.mono hh84
      have hg := hg.mono hh84
      have hsv50 := hsv50.mono hh84
      have hsv56 := hsv56.mono hh84
      have hsv78 := hsv78.mono hh84
      have hv80 := hv80.mono hh84
      obtain ⟨sv84, rfl, hsv84⟩ := hv84
      refine rm rfl ?_
      refine rs rfl (s_extract rfl rfl rfl) ?_
      refine rs rfl (s_extract rfl rfl rfl) ?_
      refine rm rfl ?_
      refine rm rfl ?_
      apply run_end
      apply wp_seq'
      refine wp_text rfl ?_
      refine rm rfl ?_
      refine rm rfl ?_
      refine rm rfl ?_
      refine run_call (vs := [_, _, _]) rfl rfl rfl rfl rfl rfl en86 (same_ok q2 hl hv80 hsv50) ?_
      intro v91 h91 hv91 hh91
      have hl := hl.mono hh91
      have hf := hf.mono hh91
      have hg := hg.mono hh91
      have hsv50 := hsv50.mono hh91
      have hsv56 := hsv56.mono hh91
      have hsv78 := hsv78.mono hh91
      have hv80 := hv80.mono hh91
      have hsv84 := hsv84.mono hh91
      obtain ⟨sv91, rfl, hsv91⟩ := hv91
      refine rm rfl ?_
      refine rs rfl (s_extract rfl rfl rfl) ?_
      refine rs rfl (s_extract rfl rfl rfl) ?_
      refine run_alloc rfl rfl rfl rfl rfl zeroValue37 rfl fun b1 => ?_
      refine run_st2 rfl rfl rfl rfl rfl rfl (by first | rfl | assumption | exact RdI.one (by assumption)) rfl sizeOf37 (by repeat first|exact Swap.here|apply Swap.there) rfl ?_
      refine rm rfl ?_
      apply run_end
      apply wp_seq'
      apply wp_seq'
      refine wp_text rfl ?_
      refine rm rfl ?_
      refine rm rfl ?_
      refine rs rfl (s_add rfl rfl rfl (IntWalk.i64_in _ (by omega))) ?_
      refine rs rfl (s_lit (q := false) (s_ne rfl rfl rfl) (by decide)) ?_
      refine rm rfl ?_
      refine rsg rfl rfl (s_move rfl rfl) ?_
      refine rsg rfl rfl (s_move rfl rfl) ?_
      refine run_callvg (vs := [_, _]) rfl rfl rfl rfl rfl rfl rfl rfl en82 (sameI_yes _ _ _ _ _ hsv84 hsv50 rfl) ?_
      refine rsg rfl rfl (s_not rfl rfl) ?_
      refine rs rfl (s_pick rfl rfl (fun h => by cases h) (fun _ => rfl)) ?_
      refine rm rfl ?_
      refine rsg rfl rfl (s_move rfl rfl) ?_
      refine rsg rfl rfl (s_move rfl rfl) ?_
      refine run_callvg (vs := [_, _]) rfl rfl rfl rfl rfl rfl rfl rfl en88 (before_lit q5 hv80 hsv50) ?_
      refine rs rfl (s_pick rfl rfl (fun h => by cases h) (fun _ => rfl)) ?_
      refine rm rfl ?_
      refine rsg rfl rfl (s_move rfl rfl) ?_
      refine rsg rfl rfl (s_ld2 rfl rfl isAgg37 sizeOf37 (.o_ rfl) (.o_ rfl)) ?_
      refine run_callvg (vs := [_, _]) rfl rfl rfl rfl rfl rfl rfl rfl en84 (idxA_fn l (sameO l (imgI (l.getD i ([], false)).1 (l.getD i ([], false)).2 f) m1).1 _ _ _ hl hsv91) ?_
      refine rsg rfl rfl (s_lit (q := false) (s_lt rfl rfl rfl) (decide_eq_false (fun h => idx_in.1 h q3))) ?_
      refine rs rfl (s_pick rfl rfl (fun h => by cases h) (fun _ => rfl)) ?_
      refine rm rfl ?_
      refine rsg rfl rfl (s_ld2 rfl rfl isAgg37 sizeOf37 (.o_ rfl) (.o_ rfl)) ?_
      refine rsg rfl rfl (s_move rfl rfl) ?_
      refine run_callg (vs := [_, _]) rfl rfl rfl rfl rfl rfl rfl rfl en58 (rapply_fn (sameO l (imgI (l.getD i ([], false)).1 (l.getD i ([], false)).2 f) m1).1.1 (sameO l (imgI (l.getD i ([], false)).1 (l.getD i ([], false)).2 f) m1).1.2 (imgI (l.getD i ([], false)).1 (l.getD i ([], false)).2 f) _ _ _ hsv91 hv80 (by rw [q7]; exact hso) (fun j hj => fillI_get q6 hj)) ?_
      intro v118 h118 hv118 hh118
      have hl := hl.mono hh118
      have hf := hf.mono hh118
      have hg := hg.mono hh118
      have hsv50 := hsv50.mono hh118
      have hsv56 := hsv56.mono hh118
      have hsv78 := hsv78.mono hh118
      have hv80 := hv80.mono hh118
      have hsv84 := hsv84.mono hh118
      have hsv91 := hsv91.mono hh118
      refine rsg rfl rfl (s_move rfl rfl) ?_
      refine run_callvg (vs := [_, _]) rfl rfl rfl rfl rfl rfl rfl rfl en82 (sameI_yes _ _ _ _ _ hv118 hsv50 q4) ?_
      refine rsg rfl rfl (s_not rfl rfl) ?_
      refine rs rfl (s_pick rfl rfl (fun h => by cases h) (fun _ => rfl)) ?_
      apply run_end
      refine wp_cond' (b := false) rfl (fun h => by cases h) (fun _ => ?_)
      apply wp_skip'
      refine wp_text rfl ?_
      refine rm rfl ?_
      refine rm rfl ?_
      refine run_cb (t := 124) rfl (fun hg124 => ?_) (fun hg124 => ?_)
      ·skip
       refine run_skip rfl rfl rfl rfl rfl rfl rfl ?_
       refine run_skip rfl rfl rfl rfl rfl rfl rfl ?_
       refine run_skip rfl rfl rfl rfl rfl rfl rfl ?_
       refine rs rfl (s_pick rfl rfl (fun _ => rfl) (fun h => by cases h)) ?_
       refine rm rfl ?_
       apply run_end
       refine wp_text rfl ?_
       refine rs rfl (s_add rfl rfl rfl (IntWalk.i64_in _ (by omega))) ?_
       refine rm rfl ?_
       apply run_end
       rw [hg124, Bool.true_or] at hfs
       refine ⟨(h118, i + 1), ⟨fun b o hb => hh118 _ _ (hh91 _ _ (hh84 _ _ (hh80 _ _ (hhX _ _ hb)))), by dsimp only; omega⟩, by dsimp only; omega, ?_⟩
       dsimp only
       rw [hfs]
       exact ⟨by repeat (first|exact True.intro|refine And.intro rfl ?_), rfl, by repeat (first|exact NS _|exact SR _|apply SCC|apply SC)⟩
      ·skip
       refine rsg rfl rfl (s_move rfl rfl) ?_
       refine rsg rfl rfl (s_move rfl rfl) ?_
       refine run_callvg (vs := [_, _]) rfl rfl rfl rfl rfl rfl rfl rfl en82 (sameI_fn _ _ _ _ _ hv80 hsv50) ?_
       refine rs rfl (s_pick rfl rfl (fun h => by cases h) (fun _ => rfl)) ?_
       refine rm rfl ?_
       apply run_end
       refine wp_text rfl ?_
       refine rs rfl (s_add rfl rfl rfl (IntWalk.i64_in _ (by omega))) ?_
       refine rm rfl ?_
       apply run_end
       rw [hg124, Bool.false_or] at hfs
       refine ⟨(h118, i + 1), ⟨fun b o hb => hh118 _ _ (hh91 _ _ (hh84 _ _ (hh80 _ _ (hhX _ _ hb)))), by dsimp only; omega⟩, by dsimp only; omega, ?_⟩
       dsimp only
       rw [hfs]
       exact ⟨by repeat (first|exact True.intro|refine And.intro rfl ?_), rfl, by repeat (first|exact NS _|exact SR _|apply SCC|apply SC)⟩
     ·skip
      obtain rfl : i = l.length := by omega
      rw [foundTo_all hex]
      apply wp_exit'
      apply wp_seq'
      refine wp_text rfl ?_
      refine rm rfl ?_
      refine rm rfl ?_
      refine rm rfl ?_
      refine run_call (vs := [_, _, _]) rfl rfl rfl rfl rfl rfl en86 (same_fn l f g _ _ _ _ hl hf hg) ?_
      intro v134 h134 hv134 hh134
      have hl := hl.mono hh134
      have hf := hf.mono hh134
      have hg := hg.mono hh134
      have hsv50 := hsv50.mono hh134
      have hsv56 := hsv56.mono hh134
      obtain ⟨sv134, rfl, hsv134⟩ := hv134
      refine rm rfl ?_
      refine rs rfl (s_extract rfl rfl rfl) ?_
      refine rs rfl (s_extract rfl rfl rfl) ?_
      refine run_alloc rfl rfl rfl rfl rfl zeroValue37 rfl fun b2 => ?_
      refine run_st2 rfl rfl rfl rfl rfl rfl (by first | rfl | assumption | exact RdI.one (by assumption)) rfl sizeOf37 (by repeat first|exact Swap.here|apply Swap.there) rfl ?_
      refine rm rfl ?_
      apply run_end
      apply wp_seq'
      refine wp_text rfl ?_
      refine rm rfl ?_
      refine rm rfl ?_
      refine rsg rfl rfl (s_move rfl rfl) ?_
      refine rsg rfl rfl (s_eq rfl rfl rfl) ?_
      refine rsg rfl rfl (s_move rfl rfl) ?_
      refine rsg rfl rfl (s_move rfl rfl) ?_
      refine run_callvg (vs := [_, _]) rfl rfl rfl rfl rfl rfl rfl rfl en82 (sameI_fn _ _ _ _ _ hsv50 hsv56) ?_
      refine rsg rfl rfl (s_lit (q := true) (s_beq rfl rfl rfl underlying4) (beq_dec hiff)) ?_
      refine rs rfl (s_pick rfl rfl (fun _ => rfl) (fun h => by cases h)) ?_
      refine rm rfl ?_
      refine rsg rfl rfl (s_move rfl rfl) ?_
      refine rsg rfl rfl (s_eq rfl rfl rfl) ?_
      refine rsg rfl rfl (s_move rfl rfl) ?_
      refine run_cases (t := 149) rfl (fun hg149 => ?_) (fun hg149 => ?_)
      ·skip
       refine run_skip rfl rfl rfl rfl rfl rfl rfl ?_
       refine run_skip rfl rfl rfl rfl rfl rfl rfl ?_
       refine rsg rfl rfl (s_pick rfl rfl (fun _ => rfl) (fun h => by cases h)) ?_
       refine rs rfl (s_pick rfl rfl (fun _ => rfl) (fun h => by cases h)) ?_
       refine rm rfl ?_
       apply run_end
       apply wp_ret'
       exact fin_ret (res_tmp rfl rfl) (rfl)
      ·skip
       refine rsg rfl rfl (s_move rfl rfl) ?_
       refine rsg rfl rfl (s_eq rfl rfl rfl) ?_
       refine rsg rfl rfl (s_pick rfl rfl (fun h => by cases h) (fun _ => rfl)) ?_
       refine rs rfl (s_pick rfl rfl (fun _ => rfl) (fun h => by cases h)) ?_
       refine rm rfl ?_
       apply run_end
       apply wp_ret'
       exact fin_ret (res_tmp rfl rfl) (by rw [decide_eq_true (h07.resolve_left hg149)])
end Go.Tal
