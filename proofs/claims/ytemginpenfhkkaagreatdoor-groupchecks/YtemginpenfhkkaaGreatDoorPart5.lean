/-
  Part 5: symbolic states for walks, contracts of functions, plain laws; no condition.
-/
import Derived.Test.YtemginpenfhkkaaGreatDoorPart3
import Derived.Test.YtemginpenfhkkaaGreatDoorPart4
import Derived.Test.YtemginpenfhkkaaGreatDoorPart2
/-
 The reference's groups: order, places, checks.
-/
namespace Go.Tal
open Go.RowKit Go.Proofs Go.Proofs.Tryz _root_.Tal
theorem lexLt_ne {xs ys : List Int} {i : Nat} (hx : i < xs.length) (hy : i < ys.length) (hp : lexCmp (xs.drop i) (ys.drop i) = lexCmp xs ys) (h : xs.getD i 0 ≠ ys.getD i 0) : decide (xs.getD i 0 < ys.getD i 0) = lexLt xs ys := by
 rw [lexLt, ← hp, lexCmp_drop hx hy]
 have hc : cmpI (xs.getD i 0) (ys.getD i 0) ≠ 0 := by unfold cmpI; split; omega; split <;> omega
 rw [if_pos hc]
 unfold cmpI
 split
 ·rename_i h1; rw [decide_eq_true h1]; rfl
 ·rename_i h1
  rw [if_pos (by omega), decide_eq_false h1]
  rfl
theorem lexLt_end {xs ys : List Int} {i : Nat} (hi : i ≤ xs.length) (hj : i ≤ ys.length) (he : ¬ (i < xs.length ∧ i < ys.length)) (hp : lexCmp (xs.drop i) (ys.drop i) = lexCmp xs ys) : decide ((xs.length : Int) < (ys.length : Int)) = lexLt xs ys := by
 rw [lexLt, ← hp]
 rcases Nat.lt_or_ge i ys.length with h | h
 ·rw [lexCmp_nil_cons (by omega) h, decide_eq_true (show (xs.length : Int) < (ys.length : Int) by omega)]
  rfl
 ·rcases Nat.lt_or_ge i xs.length with h2 | h2
  ·rw [lexCmp_cons_nil h2 h, decide_eq_false (show ¬ (xs.length : Int) < (ys.length : Int) by omega)]
   rfl
  ·rw [lexCmp_nil_nil h2 h, decide_eq_false (show ¬ (xs.length : Int) < (ys.length : Int) by omega)]
   rfl
theorem symLt_same {xs ys : List Int} {b c : Bool} (h : xs = ys) : symLt (xs, b) (ys, c) = (!b && c) := by
 subst h
 rw [symLt, Bool.eq_iff_iff, decide_eq_true_iff, symCmp_def]
 simp [lexCmp_refl]
theorem symLt_other {xs ys : List Int} {b c : Bool} (h : xs ≠ ys) : symLt (xs, b) (ys, c) = lexLt xs ys := by
 rw [symLt, lexLt, Bool.eq_iff_iff, decide_eq_true_iff, decide_eq_true_iff, symCmp_def]
 exact ⟨fun h1 => h1.resolve_right fun h2 => h h2.1, .inl⟩
/-- The place of the first element that is as asked, or -1. -/
def idxG {α : Type} (p : α → Bool) (l : List α) : Int := if l.any p then (l.findIdx p : Int) else -1
theorem idxG_some {α : Type} {d : α} {p : α → Bool} {l : List α} {i : Nat} (hi : i < l.length) (hp : p (l.getD i d) = true) (hn : ∀ j, j < i → p (l.getD j d) = false) : idxG p l = i := by
 simp only [List.getD_eq_getElem?_getD, List.getElem?_eq_getElem hi, Option.getD_some] at hp
 have h1 : l.any p = true := List.any_eq_true.2 ⟨_, List.getElem_mem hi, hp⟩
 rw [idxG, if_pos h1, (List.findIdx_eq hi).2 ⟨hp, fun j hj => by have := hn j hj; simpa [List.getD_eq_getElem?_getD, List.getElem?_eq_getElem (show j < l.length by omega)] using this⟩]
theorem idxG_none {α : Type} {d : α} {p : α → Bool} {l : List α} (hn : ∀ j, j < l.length → p (l.getD j d) = false) : idxG p l = -1 := by
 rw [idxG, if_neg]
 rw [List.any_eq_true]
 rintro ⟨x, hx, hp⟩
 obtain ⟨j, hj, rfl⟩ := List.getElem_of_mem hx
 have := hn j hj
 simp only [List.getD_eq_getElem?_getD, List.getElem?_eq_getElem hj, Option.getD_some] at this
 rw [hp] at this; cases this
theorem idxG_neg {α : Type} {p : α → Bool} {l : List α} : decide (idxG p l < 0) = !(l.any p) := by
 unfold idxG
 cases l.any p with
 | true => simp
 | false => simp
def idxA (l : List Sy) (a : Sy) : Int := idxG (fun x => decide (x = a)) l
theorem idxA_neg {l : List Sy} {a : Sy} : decide (idxA l a < 0) = !(decide (a ∈ l)) := by
 unfold idxA
 rw [idxG_neg]
 congr 1
 rw [Bool.eq_iff_iff]
 simp [List.any_eq_true]
def heavyB (l : List Sy) (n : Int) : Bool := decide (n < (l.length : Int)) || l.any fun a => decide (16 < (a.1.length : Int))
theorem heavyB_at {l : List Sy} {n : Int} {i : Nat} (hi : i < l.length) (h : 16 < ((l.getD i ([], false)).1.length : Int)) : heavyB l n = true := by
 have e : l.getD i ([], false) = l[i] := by rw [List.getD_eq_getElem?_getD, List.getElem?_eq_getElem hi]; rfl
 rw [e] at h
 rw [heavyB, List.any_eq_true.2 ⟨l[i], List.getElem_mem hi, decide_eq_true h⟩, Bool.or_true]
theorem heavyB_end {l : List Sy} {n : Int} (h0 : ¬ n < (l.length : Int)) (hn : ∀ j, j < l.length → ¬ 16 < ((l.getD j ([], false)).1.length : Int)) : heavyB l n = false := by
 rw [heavyB, decide_eq_false h0, Bool.false_or, Bool.eq_false_iff]
 intro h
 obtain ⟨a, ha, h1⟩ := List.any_eq_true.1 h
 obtain ⟨j, hj, rfl⟩ := List.getElem_of_mem ha
 have h2 := hn j hj
 rw [List.getD_eq_getElem?_getD, List.getElem?_eq_getElem hj] at h2
 exact h2 (by simpa using h1)
theorem heavyB_false {l : List Sy} {n : Int} (h : heavyB l n = false) : (l.length : Int) ≤ n ∧ ∀ a ∈ l, a.1.length ≤ 16 := by
 simp only [heavyB, Bool.or_eq_false_iff, decide_eq_false_iff_not, List.any_eq_false, decide_eq_true_eq] at h
 exact ⟨by omega, fun a ha => by have := h.2 a ha; omega⟩
theorem adjI_end {l : List Sy} {i : Nat} (h : adjI l i = true) (hi : l.length ≤ i) (hi2 : i ≤ l.length) : adjI l l.length = true := by
 rw [show l.length = i by omega]; exact h
/-- All products of the first i elements are there. -/
theorem closedB_no {l : List Sy} {i k : Nat} (hi : i < l.length) (hk : k < l.length) (h : idxA l (comp (l.getD i ([], false)) (l.getD k ([], false))) < 0) : closedB l = false := by
 rw [Bool.eq_false_iff]
 intro h1
 have e : ∀ {j}, (hj : j < l.length) → l.getD j ([], false) ∈ l := fun hj => by rw [List.getD_eq_getElem?_getD, List.getElem?_eq_getElem hj]; exact List.getElem_mem hj
 have h2 := closedB_iff.1 h1 _ (e hi) _ (e hk)
 have h3 : decide (idxA l (comp (l.getD i ([], false)) (l.getD k ([], false))) < 0) = true := decide_eq_true h
 rw [idxA_neg, decide_eq_true h2] at h3
 cases h3
theorem closedB_yes {l : List Sy} (h : ∀ i, i < l.length → ∀ k, k < l.length → ¬ idxA l (comp (l.getD i ([], false)) (l.getD k ([], false))) < 0) : closedB l = true := by
 refine closedB_iff.2 fun a ha b hb => ?_
 obtain ⟨i, hi, rfl⟩ := List.getElem_of_mem ha
 obtain ⟨k, hk, rfl⟩ := List.getElem_of_mem hb
 have h1 := decide_eq_false (h i hi k hk)
 rw [idxA_neg] at h1
 have e : ∀ {j}, (hj : j < l.length) → l.getD j ([], false) = l[j] := fun hj => by rw [List.getD_eq_getElem?_getD, List.getElem?_eq_getElem hj]; rfl
 rw [e hi, e hk] at h1
 simpa using h1
theorem rallI_at {l : List Sy} {c : Int} {i : Nat} (hi : i < l.length) (h : rsymI (l.getD i ([], false)).1 c ≠ 0) (hn : ∀ j, j < i → rsymI (l.getD j ([], false)).1 c = 0) : rallI l c = rsymI (l.getD i ([], false)).1 c := by
 have e : (l.map fun a => rsymI a.1 c) = (List.range l.length).map fun j => rsymI (l.getD j ([], false)).1 c := by
  apply List.ext_getElem
  ·simp
  ·intro j h1 h2
   simp only [List.length_map] at h1
   simp [List.getD_eq_getElem?_getD, h1]
 rw [rallI, e]
 exact firstI_at (f := fun j => rsymI (l.getD j ([], false)).1 c) hi h hn
theorem rallI_end {l : List Sy} {c : Int} (hn : ∀ j, j < l.length → rsymI (l.getD j ([], false)).1 c = 0) : rallI l c = 0 := by
 rw [rallI, firstI_zero]
 intro x hx
 obtain ⟨a, ha, rfl⟩ := List.mem_map.1 hx
 obtain ⟨j, hj, rfl⟩ := List.getElem_of_mem ha
 have := hn j hj
 rwa [List.getD_eq_getElem?_getD, List.getElem?_eq_getElem hj] at this
theorem rsymI_ok {a : List Int} {c : Int} (h0 : cellsI c = 0) (h : rsymI a c = 0) : (0 ≤ c ∧ c ≤ 256) ∧ (a.length : Int) = c ∧ PermL a.length a := by
 rw [rsymI_sym h0] at h
 exact symI_zero.1 h
set_option maxRecDepth 8000 in
set_option maxHeartbeats 1000000 in
theorem before_fn (xs ys : List Int) (v u : Value) (h : H) (hx : RdI h v xs) (hy : RdI h u ys) : FnV Tryz.prog 88 #[v, u] h (.bool (lexLt xs ys)) := by
 have hxm := hx.len
 refine fn_of (vs := [v, u]) func88 rfl ntmps88 (Nat.le_of_ble_eq_true rfl) fun w hw => ?_
 apply wp_seq'
 refine wp_text rfl ?_
 refine rm rfl ?_
 apply run_end
 apply wp_seq'
 apply wp_seq'
 refine wp_text rfl ?_
 refine rm rfl ?_
 apply run_end
 apply wp_block'
 refine wp_loop' (fun i : Nat => i ≤ xs.length ∧ i ≤ ys.length ∧ lexCmp (xs.drop i) (ys.drop i) = lexCmp xs ys) (fun i => ⟨[(5, .int .i64 i), (1, u), (0, v)], h, []⟩) (fun i => xs.length - i) 0 ⟨Nat.zero_le _, Nat.zero_le _, by simp⟩ ⟨by repeat (first|exact True.intro|refine And.intro rfl ?_), rfl, by repeat (first|exact NS _|exact SR _|apply SCC|apply SC)⟩ fun i hi => ?_
 obtain ⟨hi, hj, hp⟩ := hi
 apply wp_seq'
 apply wp_seq'
 refine wp_text rfl ?_
 refine rm rfl ?_
 refine rm rfl ?_
 refine rs rfl (s_lenI hx rfl rfl underlying35) ?_
 refine rs rfl (s_lt rfl rfl rfl) ?_
 refine rm rfl ?_
 refine run_cases (t := 10) rfl (fun hg10 => ?_) (fun hg10 => ?_)
 ·skip
  refine rsg rfl rfl (s_move rfl rfl) ?_
  refine rsg rfl rfl (s_move rfl rfl) ?_
  refine rsg rfl rfl (s_lenI hy rfl rfl underlying35) ?_
  refine rsg rfl rfl (s_lt rfl rfl rfl) ?_
  refine rs rfl (s_pick rfl rfl (fun _ => rfl) (fun h => by cases h)) ?_
  apply run_end
  refine wp_if' rfl (fun hc15 => ?_) (fun hc15 => ?_)
  ·skip
   apply wp_skip'
   apply wp_seq'
   apply wp_block'
   apply wp_seq'
   refine wp_any [0, 1, 2, 3, 4, 5, 6, 7, 8] rfl (by kernel_rfl) ?_
   refine rm rfl ?_
   refine rm rfl ?_
   refine rs rfl (s_iaI hx (by omega) (by omega) rfl rfl rfl underlying35 sizeOf3) ?_
   refine rs rfl (s_ldI hx (by omega) (by omega) rfl rfl isAgg3) ?_
   try simp only [Int.toNat_natCast]
   refine rm rfl ?_
   refine rm rfl ?_
   refine rs rfl (s_iaI hy (by omega) (by omega) rfl rfl rfl underlying35 sizeOf3) ?_
   refine rs rfl (s_ldI hy (by omega) (by omega) rfl rfl isAgg3) ?_
   try simp only [Int.toNat_natCast]
   refine rs rfl (s_ne rfl rfl rfl) ?_
   apply run_end
   refine wp_if' rfl (fun hc26 => ?_) (fun hc26 => ?_)
   ·skip
    apply wp_seq'
    refine wp_any [0, 1, 2, 3, 4, 5, 6, 7, 8, 9] rfl (by kernel_rfl) ?_
    refine rm rfl ?_
    refine rm rfl ?_
    refine rs rfl (s_iaI hx (by omega) (by omega) rfl rfl rfl underlying35 sizeOf3) ?_
    refine rs rfl (s_ldI hx (by omega) (by omega) rfl rfl isAgg3) ?_
    try simp only [Int.toNat_natCast]
    refine rm rfl ?_
    refine rm rfl ?_
    refine rs rfl (s_iaI hy (by omega) (by omega) rfl rfl rfl underlying35 sizeOf3) ?_
    refine rs rfl (s_ldI hy (by omega) (by omega) rfl rfl isAgg3) ?_
    try simp only [Int.toNat_natCast]
    refine rs rfl (s_lt rfl rfl rfl) ?_
    refine rm rfl ?_
    apply run_end
    apply wp_ret'
    exact fin_ret (res_tmp rfl rfl) (by rw [lexLt_ne (i := i) (by omega) (by omega) hp hc26])
   ·skip
    apply wp_skip'
    refine wp_text rfl ?_
    refine rm rfl ?_
    refine rs rfl (s_add rfl rfl rfl (IntWalk.i64_in _ (by omega))) ?_
    refine rm rfl ?_
    apply run_end
    exact ⟨i + 1, ⟨by omega, by omega, by rw [← hp, lexCmp_drop (i := i) (by omega) (by omega), if_neg (by unfold cmpI; rw [Decidable.not_not.1 hc26, if_neg (Int.lt_irrefl _), if_neg (Int.lt_irrefl _)]; simp)]⟩, by omega, ⟨by repeat (first|exact True.intro|refine And.intro rfl ?_), rfl, by repeat (first|exact NS _|exact SR _|apply SCC|apply SC)⟩⟩
  ·skip
   apply wp_exit'
   apply wp_seq'
   refine wp_text rfl ?_
   refine rm rfl ?_
   refine rs rfl (s_lenI hx rfl rfl underlying35) ?_
   refine rm rfl ?_
   refine rs rfl (s_lenI hy rfl rfl underlying35) ?_
   refine rs rfl (s_lt rfl rfl rfl) ?_
   refine rm rfl ?_
   apply run_end
   apply wp_ret'
   exact fin_ret (res_tmp rfl rfl) (by rw [lexLt_end (i := i) hi hj (by omega) hp])
 ·skip
  refine run_skip rfl rfl rfl rfl rfl rfl rfl ?_
  refine run_skip rfl rfl rfl rfl rfl rfl rfl ?_
  refine run_skip rfl rfl rfl rfl rfl rfl rfl ?_
  refine run_skip rfl rfl rfl rfl rfl rfl rfl ?_
  refine rs rfl (s_pick rfl rfl (fun h => by cases h) (fun _ => rfl)) ?_
  apply run_end
  refine wp_cond' (b := false) rfl (fun h => by cases h) (fun _ => ?_)
  apply wp_exit'
  apply wp_seq'
  refine wp_text rfl ?_
  refine rm rfl ?_
  refine rs rfl (s_lenI hx rfl rfl underlying35) ?_
  refine rm rfl ?_
  refine rs rfl (s_lenI hy rfl rfl underlying35) ?_
  refine rs rfl (s_lt rfl rfl rfl) ?_
  refine rm rfl ?_
  apply run_end
  apply wp_ret'
  exact fin_ret (res_tmp rfl rfl) (by rw [lexLt_end (i := i) hi hj (by omega) hp])
set_option maxRecDepth 8000 in
theorem befS_fn (xs ys : List Int) (b c : Bool) (v u : Value) (h : H) (hx : RdI h v xs) (hy : RdI h u ys) : FnV Tryz.prog 85 #[.agg #[v, .bool b], .agg #[u, .bool c]] h (.bool (symLt (xs, b) (ys, c))) := by
 refine fn_of (vs := [.agg #[v, .bool b], .agg #[u, .bool c]]) func85 rfl ntmps85 (Nat.le_of_ble_eq_true rfl) fun w hw => ?_
 apply wp_seq'
 refine wp_text rfl ?_
 refine run_box rfl rfl rfl rfl rfl rfl rfl fun b1 => ?_
 refine run_box rfl rfl rfl rfl rfl rfl rfl fun b2 => ?_
 refine rm rfl ?_
 apply run_end
 apply wp_seq'
 apply wp_seq'
 refine wp_text rfl ?_
 refine rs rfl (s_fa (off := 0) rfl rfl underlying37 rfl sizeOf35 rfl) ?_
 refine rs rfl (s_ld rfl rfl isAgg35 (.o_ rfl)) ?_
 refine rs rfl (s_fa (off := 0) rfl rfl underlying37 rfl sizeOf35 rfl) ?_
 refine rs rfl (s_ld rfl rfl isAgg35 (.o_ rfl)) ?_
 refine run_callv (vs := [_, _]) rfl rfl rfl rfl rfl rfl en82 (sameI_fn _ _ _ _ _ hx hy) ?_
 apply run_end
 refine wp_cond' rfl (fun hc9 => ?_) (fun hc9 => ?_)
 ·skip
  apply wp_seq'
  refine wp_text rfl ?_
  refine rs rfl (s_fa (off := 1) rfl rfl underlying37 rfl sizeOf4 rfl) ?_
  refine rs rfl (s_ld rfl rfl isAgg4 (.o_ rfl)) ?_
  refine rs rfl (s_not rfl rfl) ?_
  refine rm rfl ?_
  refine run_cb (t := 13) rfl (fun hg13 => ?_) (fun hg13 => ?_)
  ·skip
   refine rsg rfl rfl (s_fa (off := 1) rfl rfl underlying37 rfl sizeOf4 rfl) ?_
   refine rsg rfl rfl (s_ld rfl rfl isAgg4 (.o_ rfl)) ?_
   refine rs rfl (s_pick rfl rfl (fun _ => rfl) (fun h => by cases h)) ?_
   refine rm rfl ?_
   apply run_end
   apply wp_ret'
   exact fin_ret (res_tmp rfl rfl) (by rw [symLt_same (by simpa using hc9), hg13]; rfl)
  ·skip
   refine run_skip rfl rfl rfl rfl rfl rfl rfl ?_
   refine run_skip rfl rfl rfl rfl rfl rfl rfl ?_
   refine rs rfl (s_pick rfl rfl (fun h => by cases h) (fun _ => rfl)) ?_
   refine rm rfl ?_
   apply run_end
   apply wp_ret'
   exact fin_ret (res_tmp rfl rfl) (by rw [symLt_same (by simpa using hc9), hg13]; rfl)
 ·skip
  apply wp_skip'
  apply wp_seq'
  refine wp_text rfl ?_
  refine rs rfl (s_fa (off := 0) rfl rfl underlying37 rfl sizeOf35 rfl) ?_
  refine rs rfl (s_ld rfl rfl isAgg35 (.o_ rfl)) ?_
  refine rs rfl (s_fa (off := 0) rfl rfl underlying37 rfl sizeOf35 rfl) ?_
  refine rs rfl (s_ld rfl rfl isAgg35 (.o_ rfl)) ?_
  refine run_callv (vs := [_, _]) rfl rfl rfl rfl rfl rfl en88 (before_fn _ _ _ _ _ hx hy) ?_
  refine rm rfl ?_
  apply run_end
  apply wp_ret'
  exact fin_ret (res_tmp rfl rfl) (by rw [symLt_other (by simpa using hc9)])
set_option maxRecDepth 8000 in
theorem idxA_fn (l : List Sy) (a : Sy) (v u : Value) (h : H) (hl : RdS h v l) (ha : RdI h u a.1) : FnV Tryz.prog 84 #[v, .agg #[u, .bool a.2]] h (.int .i64 (idxA l a)) := by
 have hlm := hl.len
 refine fn_of (vs := [v, .agg #[u, .bool a.2]]) func84 rfl ntmps84 (Nat.le_of_ble_eq_true rfl) fun w hw => ?_
 apply wp_seq'
 refine wp_text rfl ?_
 refine run_box rfl rfl rfl rfl rfl rfl rfl fun b1 => ?_
 refine rm rfl ?_
 apply run_end
 apply wp_seq'
 apply wp_seq'
 refine wp_text rfl ?_
 refine rm rfl ?_
 apply run_end
 apply wp_block'
 refine wp_loop' (fun i : Nat => i ≤ l.length ∧ ∀ j, j < i → decide (l.getD j ([], false) = a) = false) (fun i => ⟨[(5, .int .i64 i), (3, .pointer (some ⟨b1, 0, none⟩)), (0, v)], h, [.obj b1 (.cells #[u, .bool a.2] 37 (0, 0))]⟩) (fun i => l.length - i) 0 ⟨Nat.zero_le _, fun _ h => by omega⟩ ⟨by repeat (first|exact True.intro|refine And.intro rfl ?_), rfl, by repeat (first|exact NS _|exact SR _|apply SCC|apply SC)⟩ fun i hi => ?_
 obtain ⟨hi, hn⟩ := hi
 apply wp_seq'
 apply wp_seq'
 refine wp_text rfl ?_
 refine rm rfl ?_
 refine rm rfl ?_
 refine rs rfl (s_lenS hl rfl rfl underlying22) ?_
 refine rs rfl (s_lt rfl rfl rfl) ?_
 apply run_end
 refine wp_if' rfl (fun hc9 => ?_) (fun hc9 => ?_)
 ·skip
  apply wp_skip'
  apply wp_seq'
  apply wp_block'
  apply wp_seq'
  refine wp_any [0, 1, 2, 3, 4, 5] rfl (by kernel_rfl) ?_
  refine rm rfl ?_
  refine rm rfl ?_
  refine rs rfl (s_iaS hl (by omega) (by omega) rfl rfl rfl underlying22 sizeOf37) ?_
  obtain ⟨sv15, hsv15, hat15⟩ := hl.get (j := i) (by omega)
  refine rs rfl (s_ldS hat15 (by omega) rfl rfl isAgg37 sizeOf37) ?_
  refine rs rfl (s_ld2 rfl rfl isAgg37 sizeOf37 (.o_ rfl) (.o_ rfl)) ?_
  refine run_callv (vs := [_, _]) rfl rfl rfl rfl rfl rfl en30 (sameS_fn _ _ _ _ _ hsv15 ha) ?_
  apply run_end
  refine wp_cond' rfl (fun hc17 => ?_) (fun hc17 => ?_)
  ·skip
   apply wp_seq'
   refine wp_text rfl ?_
   refine rm rfl ?_
   refine rm rfl ?_
   apply run_end
   apply wp_ret'
   exact fin_ret (res_tmp rfl rfl) (by rw [idxA, idxG_some (d := ([], false)) (i := i) (by omega) hc17 hn])
  ·skip
   apply wp_skip'
   refine wp_text rfl ?_
   refine rm rfl ?_
   refine rs rfl (s_add rfl rfl rfl (IntWalk.i64_in _ (by omega))) ?_
   refine rm rfl ?_
   apply run_end
   exact ⟨i + 1, ⟨by omega, fun j hj => (Nat.lt_succ_iff_lt_or_eq.1 hj).elim (hn j) (fun e => by rw [e]; exact hc17)⟩, by omega, ⟨by repeat (first|exact True.intro|refine And.intro rfl ?_), rfl, by repeat (first|exact NS _|exact SR _|apply SCC|apply SC)⟩⟩
 ·skip
  apply wp_exit'
  apply wp_seq'
  refine wp_text rfl ?_
  refine rm rfl ?_
  apply run_end
  apply wp_ret'
  exact fin_ret (res_tmp rfl rfl) (by rw [idxA, idxG_none (d := ([], false)) (fun j hj => hn j (by omega))])
set_option maxRecDepth 8000 in
theorem heavy_fn (l : List Sy) (n : Int) (v : Value) (h : H) (hl : RdS0 h v l) : FnV Tryz.prog 19 #[v, .int .i64 n] h (.bool (heavyB l n)) := by
 have hlm := hl.len
 refine fn_of (vs := [v, .int .i64 n]) func19 rfl ntmps19 (Nat.le_of_ble_eq_true rfl) fun w hw => ?_
 apply wp_seq'
 refine wp_text rfl ?_
 refine rm rfl ?_
 apply run_end
 apply wp_seq'
 apply wp_seq'
 refine wp_text rfl ?_
 refine rm rfl ?_
 refine rs rfl (s_lenS0 hl rfl rfl underlying22) ?_
 refine rm rfl ?_
 refine rs rfl (s_gt rfl rfl rfl) ?_
 apply run_end
 refine wp_if' rfl (fun hc9 => ?_) (fun hc9 => ?_)
 ·skip
  apply wp_seq'
  refine wp_text rfl ?_
  refine rm rfl ?_
  apply run_end
  apply wp_ret'
  exact fin_ret (res_tmp rfl rfl) (by rw [heavyB, decide_eq_true hc9, Bool.true_or])
 ·skip
  apply wp_skip'
  apply wp_seq'
  apply wp_seq'
  refine wp_text rfl ?_
  refine rm rfl ?_
  apply run_end
  apply wp_block'
  refine wp_loop' (fun i : Nat => i ≤ l.length ∧ ∀ j, j < i → ¬ 16 < ((l.getD j ([], false)).1.length : Int)) (fun i => ⟨[(5, .int .i64 i), (0, v)], h, []⟩) (fun i => l.length - i) 0 ⟨Nat.zero_le _, fun _ h => by omega⟩ ⟨by repeat (first|exact True.intro|refine And.intro rfl ?_), rfl, by repeat (first|exact NS _|exact SR _|apply SCC|apply SC)⟩ fun i hi => ?_
  obtain ⟨hi, hn⟩ := hi
  apply wp_seq'
  apply wp_seq'
  refine wp_text rfl ?_
  refine rm rfl ?_
  refine rm rfl ?_
  refine rs rfl (s_lenS0 hl rfl rfl underlying22) ?_
  refine rs rfl (s_lt rfl rfl rfl) ?_
  apply run_end
  refine wp_if' rfl (fun hc13 => ?_) (fun hc13 => ?_)
  ·skip
   apply wp_skip'
   apply wp_seq'
   apply wp_block'
   apply wp_seq'
   refine wp_text rfl ?_
   refine rm rfl ?_
   refine rm rfl ?_
   refine rs rfl (s_iaS0 hl (by omega) (by omega) rfl rfl rfl underlying22 sizeOf37) ?_
   obtain ⟨sv19, hsv19, hat19⟩ := hl.get (j := i) (by omega)
   refine rs rfl (s_faS (f := 0) hat19 rfl rfl underlying37 rfl sizeOf35 rfl) ?_
   refine rs rfl (s_ldS0 hat19 (by omega) rfl rfl isAgg35) ?_
   refine rs rfl (s_lenI0 hsv19 rfl rfl underlying35) ?_
   refine rs rfl (s_gt rfl rfl rfl) ?_
   apply run_end
   refine wp_if' rfl (fun hc22 => ?_) (fun hc22 => ?_)
   ·skip
    apply wp_seq'
    refine wp_text rfl ?_
    refine rm rfl ?_
    apply run_end
    apply wp_ret'
    exact fin_ret (res_tmp rfl rfl) (by rw [heavyB_at (i := i) (by omega) hc22])
   ·skip
    apply wp_skip'
    refine wp_text rfl ?_
    refine rm rfl ?_
    refine rs rfl (s_add rfl rfl rfl (IntWalk.i64_in _ (by omega))) ?_
    refine rm rfl ?_
    apply run_end
    exact ⟨i + 1, ⟨by omega, fun j hj => (Nat.lt_succ_iff_lt_or_eq.1 hj).elim (hn j) (fun e => by rw [e]; exact hc22)⟩, by omega, ⟨by repeat (first|exact True.intro|refine And.intro rfl ?_), rfl, by repeat (first|exact NS _|exact SR _|apply SCC|apply SC)⟩⟩
  ·skip
   apply wp_exit'
   apply wp_seq'
   refine wp_text rfl ?_
   refine rm rfl ?_
   apply run_end
   apply wp_ret'
   exact fin_ret (res_tmp rfl rfl) (by rw [heavyB_end hc9 (fun j hj => hn j (by omega))])
set_option maxRecDepth 8000 in
theorem rsym0_fn (a : List Int) (cm : Bool) (c : Int) (va : Value) (h : H) (hl : RdI0 h va a) : FnV Tryz.prog 26 #[.agg #[va, .bool cm], .int .i64 c] h (.int .i64 (rsymI a c)) := by
 refine fn_of (vs := [.agg #[va, .bool cm], .int .i64 c]) func26 rfl ntmps26 (Nat.le_of_ble_eq_true rfl) fun w hw => ?_
 apply wp_seq'
 refine wp_text rfl ?_
 refine run_box rfl rfl rfl rfl rfl rfl rfl fun b1 => ?_
 refine rm rfl ?_
 apply run_end
 apply wp_seq'
 apply wp_seq'
 refine wp_text rfl ?_
 refine rm rfl ?_
 refine run_callv (vs := [_]) rfl rfl rfl rfl rfl rfl en25 (rcells_fn _ _) ?_
 refine rs rfl (s_ne rfl rfl rfl) ?_
 apply run_end
 refine wp_if' rfl (fun hc7 => ?_) (fun hc7 => ?_)
 ·skip
  apply wp_seq'
  refine wp_text rfl ?_
  refine rm rfl ?_
  apply run_end
  apply wp_ret'
  exact fin_ret (res_tmp rfl rfl) (by rw [rsymI, decide_eq_true hc7]; rfl)
 ·skip
  apply wp_skip'
  apply wp_seq'
  apply wp_seq'
  refine wp_text rfl ?_
  refine rs rfl (s_fa (off := 0) rfl rfl underlying37 rfl sizeOf35 rfl) ?_
  refine rs rfl (s_ld rfl rfl isAgg35 (.o_ rfl)) ?_
  refine rs rfl (s_lenI0 hl rfl rfl underlying35) ?_
  refine rm rfl ?_
  refine rs rfl (s_ne rfl rfl rfl) ?_
  apply run_end
  refine wp_if' rfl (fun hc12 => ?_) (fun hc12 => ?_)
  ·skip
   apply wp_seq'
   refine wp_text rfl ?_
   refine rm rfl ?_
   apply run_end
   apply wp_ret'
   exact fin_ret (res_tmp rfl rfl) (by rw [rsymI, decide_eq_false hc7, decide_eq_true hc12]; rfl)
  ·skip
   have hc0 : cellsI c = 0 := Decidable.not_not.1 hc7
   have hl := hl.toI (by have h1 := cellsI_zero.1 hc0; have h2 := Decidable.not_not.1 hc12; omega)
   apply wp_skip'
   apply wp_seq'
   refine wp_text rfl ?_
   refine rs rfl (s_fa (off := 0) rfl rfl underlying37 rfl sizeOf35 rfl) ?_
   refine rs rfl (s_ld rfl rfl isAgg35 (.o_ rfl)) ?_
   refine run_callv (vs := [_]) rfl rfl rfl rfl rfl rfl en93 (rperm_fn _ _ _ hl) ?_
   refine rm rfl ?_
   apply run_end
   apply wp_ret'
   exact fin_ret (res_tmp rfl rfl) (by rw [rsymI, decide_eq_false hc7, decide_eq_false hc12]; rfl)
set_option maxRecDepth 8000 in
theorem rsame_fn (l : List Sy) (f g : List Int) (v u t : Value) (h : H) (hl : RdS h v l) (hf : RdI h u f) (hg : RdI h t g) (hok : ∀ a ∈ l, Ok f.length a) (hf0 : fillI f = 0) : FnV Tryz.prog 87 #[v, u, t] h (.int .i64 (idxG (fun a : Sy => decide (imgI a.1 a.2 f = g)) l)) := by
 have hlm := hl.len
 refine fn_of (vs := [v, u, t]) func87 rfl ntmps87 (Nat.le_of_ble_eq_true rfl) fun w hw => ?_
 apply wp_seq'
 refine wp_text rfl ?_
 refine rm rfl ?_
 apply run_end
 apply wp_seq'
 apply wp_seq'
 refine wp_text rfl ?_
 refine rm rfl ?_
 apply run_end
 apply wp_block'
 refine wp_loopg (fun i : Nat => i ≤ l.length ∧ ∀ j, j < i → decide (imgI (l.getD j ([], false)).1 (l.getD j ([], false)).2 f = g) = false) (fun i => ⟨[(7, .int .i64 i), (2, t), (1, u), (0, v)], []⟩) (fun i => l.length - i) 0 ⟨Nat.zero_le _, fun _ h => by omega⟩ ⟨by repeat (first|exact True.intro|refine And.intro rfl ?_), (by first | exact fun _ _ hb => hb | assumption), by repeat (first|exact NS _|exact SR _|apply SCC|apply SC)⟩ fun i hi => ?_
 obtain ⟨hi, hn⟩ := hi
 apply wp_seq'
 apply wp_seq'
 refine wp_text rfl ?_
 refine rm rfl ?_
 refine rm rfl ?_
 refine rs rfl (s_lenS hl rfl rfl underlying22) ?_
 refine rs rfl (s_lt rfl rfl rfl) ?_
 apply run_end
 refine wp_if' rfl (fun hc11 => ?_) (fun hc11 => ?_)
 ·skip
  apply wp_skip'
  apply wp_seq'
  apply wp_block'
  apply wp_seq'
  refine wp_text rfl ?_
  refine rm rfl ?_
  refine rm rfl ?_
  refine rs rfl (s_iaS hl (by omega) (by omega) rfl rfl rfl underlying22 sizeOf37) ?_
  obtain ⟨sv17, hsv17, hat17⟩ := hl.get (j := i) (by omega)
  refine rs rfl (s_ldS hat17 (by omega) rfl rfl isAgg37 sizeOf37) ?_
  refine rm rfl ?_
  refine run_call (vs := [_, _]) rfl rfl rfl rfl rfl rfl en58 (rapply_fn (l.getD i ([], false)).1 (l.getD i ([], false)).2 f _ _ _ hsv17 hf (hok _ (getD_mem' (l := l) (by omega))) (fun j hj => fillI_get hf0 hj)) ?_
  intro v19 h19 hv19 hh19
  have hl := hl.mono hh19
  have hf := hf.mono hh19
  have hg := hg.mono hh19
  have hsv17 := hsv17.mono hh19
  refine rm rfl ?_
  refine run_callv (vs := [_, _]) rfl rfl rfl rfl rfl rfl en82 (sameI_fn _ _ _ _ _ hv19 hg) ?_
  apply run_end
  refine wp_cond' rfl (fun hc21 => ?_) (fun hc21 => ?_)
  ·skip
   apply wp_seq'
   refine wp_text rfl ?_
   refine rm rfl ?_
   refine rm rfl ?_
   apply run_end
   apply wp_ret'
   exact fin_ret (res_tmp rfl rfl) (by rw [idxG_some (d := ([], false)) (i := i) (by omega) hc21 hn])
  ·skip
   apply wp_skip'
   refine wp_text rfl ?_
   refine rm rfl ?_
   refine rs rfl (s_add rfl rfl rfl (IntWalk.i64_in _ (by omega))) ?_
   refine rm rfl ?_
   apply run_end
   exact ⟨i + 1, ⟨by omega, fun j hj => (Nat.lt_succ_iff_lt_or_eq.1 hj).elim (hn j) (fun e => by rw [e]; exact hc21)⟩, by omega, ⟨by repeat (first|exact True.intro|refine And.intro rfl ?_), (by first | exact fun _ _ hb => hb | assumption), by repeat (first|exact NS _|exact SR _|apply SCC|apply SC)⟩⟩
 ·skip
  apply wp_exit'
  apply wp_seq'
  refine wp_text rfl ?_
  refine rm rfl ?_
  apply run_end
  apply wp_ret'
  exact fin_ret (res_tmp rfl rfl) (by rw [idxG_none (d := ([], false)) (fun j hj => hn j (by omega))])
set_option maxRecDepth 8000 in
set_option maxHeartbeats 4000000 in
theorem rgroup_fn (l : List Sy) (c : Int) (v : Value) (h : H) (hl : RdS0 h v l) : FnV Tryz.prog 20 #[v, .int .i64 c] h (.int .i64 (rgrpI l c)) := by
 have hlm := hl.len
 refine fn_of (vs := [v, .int .i64 c]) func20 rfl ntmps20 (Nat.le_of_ble_eq_true rfl) fun w hw => ?_
 apply wp_seq'
 refine wp_text rfl ?_
 refine rm rfl ?_
 apply run_end
 apply wp_seq'
 apply wp_seq'
 refine wp_text rfl ?_
 refine rm rfl ?_
 refine run_callv (vs := [_]) rfl rfl rfl rfl rfl rfl en25 (rcells_fn _ _) ?_
 refine rs rfl (s_ne rfl rfl rfl) ?_
 apply run_end
 refine wp_if' rfl (fun hc12 => ?_) (fun hc12 => ?_)
 ·skip
  apply wp_seq'
  refine wp_text rfl ?_
  refine rm rfl ?_
  apply run_end
  apply wp_ret'
  exact fin_ret (res_tmp rfl rfl) (by rw [rgrpI, if_pos hc12])
 ·skip
  have hc0 : cellsI c = 0 := Decidable.not_not.1 hc12
  apply wp_skip'
  apply wp_seq'
  apply wp_seq'
  refine wp_text rfl ?_
  refine rm rfl ?_
  refine rs rfl (s_lenS0 hl rfl rfl underlying22) ?_
  refine rs rfl (s_eq rfl rfl rfl) ?_
  apply run_end
  refine wp_if' rfl (fun hc15 => ?_) (fun hc15 => ?_)
  ·skip
   apply wp_seq'
   refine wp_text rfl ?_
   refine rm rfl ?_
   apply run_end
   apply wp_ret'
   exact fin_ret (res_tmp rfl rfl) (by rw [rgrpI, if_neg hc12, if_pos hc15])
  ·skip
   apply wp_skip'
   apply wp_seq'
   apply wp_seq'
   refine wp_text rfl ?_
   refine rm rfl ?_
   refine rs rfl (s_lenS0 hl rfl rfl underlying22) ?_
   refine rs rfl (s_gt rfl rfl rfl) ?_
   apply run_end
   refine wp_if' rfl (fun hc18 => ?_) (fun hc18 => ?_)
   ·skip
    apply wp_seq'
    refine wp_text rfl ?_
    refine rm rfl ?_
    apply run_end
    apply wp_ret'
    exact fin_ret (res_tmp rfl rfl) (by rw [rgrpI, if_neg hc12, if_neg hc15, if_pos hc18])
   ·skip
    apply wp_skip'
    apply wp_seq'
    apply wp_seq'
    refine wp_text rfl ?_
    refine rm rfl ?_
    apply run_end
    apply wp_block'
    refine wp_loop' (fun i : Nat => i ≤ l.length ∧ ∀ j, j < i → rsymI (l.getD j ([], false)).1 c = 0) (fun i => ⟨[(5, .int .i64 i), (1, .int .i64 c), (0, v)], h, []⟩) (fun i => l.length - i) 0 ⟨Nat.zero_le _, fun _ h => by omega⟩ ⟨by repeat (first|exact True.intro|refine And.intro rfl ?_), rfl, by repeat (first|exact NS _|exact SR _|apply SCC|apply SC)⟩ fun i hi => ?_
    obtain ⟨hi, hn⟩ := hi
    apply wp_seq'
    apply wp_seq'
    refine wp_text rfl ?_
    refine rm rfl ?_
    refine rm rfl ?_
    refine rs rfl (s_lenS0 hl rfl rfl underlying22) ?_
    refine rs rfl (s_lt rfl rfl rfl) ?_
    apply run_end
    refine wp_if' rfl (fun hc22 => ?_) (fun hc22 => ?_)
    ·skip
     apply wp_skip'
     apply wp_seq'
     apply wp_block'
     apply wp_seq'
     refine wp_text rfl ?_
     refine rm rfl ?_
     refine rm rfl ?_
     refine rs rfl (s_iaS0 hl (by omega) (by omega) rfl rfl rfl underlying22 sizeOf37) ?_
     obtain ⟨sv28, hsv28, hat28⟩ := hl.get (j := i) (by omega)
     refine rs rfl (s_ldS hat28 (by omega) rfl rfl isAgg37 sizeOf37) ?_
     refine rm rfl ?_
     refine run_callv (vs := [_, _]) rfl rfl rfl rfl rfl rfl en26 (rsym0_fn _ _ _ _ _ hsv28) ?_
     refine rm rfl ?_
     apply run_end
     apply wp_seq'
     refine wp_text rfl ?_
     refine rm rfl ?_
     refine rs rfl (s_ne rfl rfl rfl) ?_
     apply run_end
     refine wp_if' rfl (fun hc32 => ?_) (fun hc32 => ?_)
     ·skip
      apply wp_seq'
      refine wp_text rfl ?_
      refine rm rfl ?_
      refine rm rfl ?_
      apply run_end
      apply wp_ret'
      exact fin_ret (res_tmp rfl rfl) (by rw [rgrpI, if_neg hc12, if_neg hc15, if_neg hc18, rallI_at (i := i) (by omega) hc32 hn, if_pos hc32])
     ·skip
      apply wp_skip'
      refine wp_text rfl ?_
      refine rm rfl ?_
      refine rs rfl (s_add rfl rfl rfl (IntWalk.i64_in _ (by omega))) ?_
      refine rm rfl ?_
      apply run_end
      exact ⟨i + 1, ⟨by omega, fun j hj => (Nat.lt_succ_iff_lt_or_eq.1 hj).elim (hn j) (fun e => by rw [e]; exact Decidable.not_not.1 hc32)⟩, by omega, ⟨by repeat (first|exact True.intro|refine And.intro rfl ?_), rfl, by repeat (first|exact NS _|exact SR _|apply SCC|apply SC)⟩⟩
    ·skip
     obtain rfl : i = l.length := by omega
     have hz := rallI_end hn
     have hok : ∀ j, j < l.length → (0 ≤ c ∧ c ≤ 256) ∧ ((l.getD j ([], false)).1.length : Int) = c ∧ PermL (l.getD j ([], false)).1.length (l.getD j ([], false)).1 := fun j hj => rsymI_ok hc0 (hn j hj)
     have hl := hl.toS (by omega) (fun a ha => by obtain ⟨j, hj, rfl⟩ := List.getElem_of_mem ha; have h1 := hok j hj; rw [List.getD_eq_getElem?_getD, List.getElem?_eq_getElem hj] at h1; simp only [Option.getD_some] at h1; omega)
     apply wp_exit'
     apply wp_seq'
     apply wp_seq'
     refine wp_text rfl ?_
     refine rm rfl ?_
     apply run_end
     apply wp_block'
     refine wp_loop' (fun i : Nat => 1 ≤ i ∧ i ≤ l.length ∧ adjI l i = true) (fun i => ⟨[(7, .int .i64 i), (1, .int .i64 c), (0, v)], h, []⟩) (fun i => l.length - i) 1 ⟨Nat.le_refl _, by omega, rfl⟩ ⟨by repeat (first|exact True.intro|refine And.intro rfl ?_), rfl, by repeat (first|exact NS _|exact SR _|apply SCC|apply SC)⟩ fun i hi => ?_
     obtain ⟨h1, hi, ha⟩ := hi
     apply wp_seq'
     apply wp_seq'
     refine wp_text rfl ?_
     refine rm rfl ?_
     refine rm rfl ?_
     refine rs rfl (s_lenS hl rfl rfl underlying22) ?_
     refine rs rfl (s_lt rfl rfl rfl) ?_
     apply run_end
     refine wp_if' rfl (fun hc37 => ?_) (fun hc37 => ?_)
     ·skip
      apply wp_skip'
      apply wp_seq'
      apply wp_block'
      apply wp_seq'
      refine wp_any [0, 1, 2, 3, 4, 5, 6, 7, 8, 9, 10] rfl (by kernel_rfl) ?_
      refine rm rfl ?_
      refine rm rfl ?_
      refine rs rfl (s_sub rfl rfl rfl (IntWalk.i64_in _ (by omega))) ?_
      refine rs rfl (s_iaS hl (by omega) (by omega) rfl rfl rfl underlying22 sizeOf37) ?_
      obtain ⟨sv44, hsv44, hat44⟩ := hl.get (j := i - 1) (by omega)
      refine rs rfl (s_ldS hat44 (by omega) rfl rfl isAgg37 sizeOf37) ?_
      refine rm rfl ?_
      refine rm rfl ?_
      refine rs rfl (s_iaS hl (by omega) (by omega) rfl rfl rfl underlying22 sizeOf37) ?_
      obtain ⟨sv48, hsv48, hat48⟩ := hl.get (j := i) (by omega)
      refine rs rfl (s_ldS hat48 (by omega) rfl rfl isAgg37 sizeOf37) ?_
      refine run_callv (vs := [_, _]) rfl rfl rfl rfl rfl rfl en85 (befS_fn _ _ _ _ _ _ _ hsv44 hsv48) ?_
      refine rs rfl (s_not rfl rfl) ?_
      apply run_end
      refine wp_cond' rfl (fun hc50 => ?_) (fun hc50 => ?_)
      ·skip
       apply wp_seq'
       refine wp_text rfl ?_
       refine rm rfl ?_
       apply run_end
       apply wp_ret'
       exact fin_ret (res_tmp rfl rfl) (by rw [rgrpI, if_neg hc12, if_neg hc15, if_neg hc18, if_neg (by simp [hz]), if_pos (adjI_false (i := i) (by omega) (by rw [decide_eq_false (show ¬ i = 0 by omega), Bool.false_or]; simpa using hc50))])
      ·skip
       apply wp_skip'
       refine wp_text rfl ?_
       refine rm rfl ?_
       refine rs rfl (s_add rfl rfl rfl (IntWalk.i64_in _ (by omega))) ?_
       refine rm rfl ?_
       apply run_end
       exact ⟨i + 1, ⟨by omega, by omega, by rw [adjI_succ, ha, decide_eq_false (show ¬ i = 0 by omega)]; simpa using hc50⟩, by omega, ⟨by repeat (first|exact True.intro|refine And.intro rfl ?_), rfl, by repeat (first|exact NS _|exact SR _|apply SCC|apply SC)⟩⟩
     ·skip
      have hadj := adjI_end ha (by omega) (by omega)
      apply wp_exit'
      apply wp_seq'
      apply wp_seq'
      refine wp_text rfl ?_
      refine rm rfl ?_
      apply run_end
      apply wp_block'
      refine wp_loopg (fun i : Nat => i ≤ l.length ∧ ∀ j, j < i → ∀ k, k < l.length → ¬ idxA l (comp (l.getD j ([], false)) (l.getD k ([], false))) < 0) (fun i => ⟨[(8, .int .i64 i), (1, .int .i64 c), (0, v)], []⟩) (fun i => l.length - i) 0 ⟨Nat.zero_le _, fun _ h => by omega⟩ ⟨by repeat (first|exact True.intro|refine And.intro rfl ?_), (by first | exact fun _ _ hb => hb | assumption), by repeat (first|exact NS _|exact SR _|apply SCC|apply SC)⟩ fun i hi => ?_
      obtain ⟨hi, hn2⟩ := hi
      apply wp_seq'
      apply wp_seq'
      refine wp_text rfl ?_
      refine rm rfl ?_
      refine rm rfl ?_
      refine rs rfl (s_lenS hl rfl rfl underlying22) ?_
      refine rs rfl (s_lt rfl rfl rfl) ?_
      apply run_end
      refine wp_if' rfl (fun hc54 => ?_) (fun hc54 => ?_)
      ·skip
       apply wp_skip'
       apply wp_seq'
       apply wp_block'
       apply wp_seq'
       refine wp_text rfl ?_
       refine rm rfl ?_
       apply run_end
       apply wp_block'
       refine wp_loopg (fun k : Nat => k ≤ l.length ∧ ∀ j, j < k → ¬ idxA l (comp (l.getD i ([], false)) (l.getD j ([], false))) < 0) (fun k => ⟨[(9, .int .i64 k), (8, .int .i64 i), (1, .int .i64 c), (0, v)], []⟩) (fun k => l.length - k) 0 ⟨Nat.zero_le _, fun _ h => by omega⟩ ⟨by repeat (first|exact True.intro|refine And.intro rfl ?_), (by first | exact fun _ _ hb => hb | assumption), by repeat (first|exact NS _|exact SR _|apply SCC|apply SC)⟩ fun k hk => ?_
       obtain ⟨hk, hn3⟩ := hk
       apply wp_seq'
       apply wp_seq'
       refine wp_text rfl ?_
       refine rm rfl ?_
       refine rm rfl ?_
       refine rs rfl (s_lenS hl rfl rfl underlying22) ?_
       refine rs rfl (s_lt rfl rfl rfl) ?_
       apply run_end
       refine wp_if' rfl (fun hc60 => ?_) (fun hc60 => ?_)
       ·skip
        apply wp_skip'
        apply wp_seq'
        apply wp_block'
        apply wp_seq'
        refine wp_any [0, 1, 2, 3, 4, 5, 6, 7, 8, 9, 10, 11] rfl (by kernel_rfl) ?_
        refine rm rfl ?_
        refine rm rfl ?_
        refine rm rfl ?_
        refine rs rfl (s_iaS hl (by omega) (by omega) rfl rfl rfl underlying22 sizeOf37) ?_
        obtain ⟨sv67, hsv67, hat67⟩ := hl.get (j := i) (by omega)
        refine rs rfl (s_ldS hat67 (by omega) rfl rfl isAgg37 sizeOf37) ?_
        refine rm rfl ?_
        refine rm rfl ?_
        refine rs rfl (s_iaS hl (by omega) (by omega) rfl rfl rfl underlying22 sizeOf37) ?_
        obtain ⟨sv71, hsv71, hat71⟩ := hl.get (j := k) (by omega)
        refine rs rfl (s_ldS hat71 (by omega) rfl rfl isAgg37 sizeOf37) ?_
        refine run_call (vs := [_, _]) rfl rfl rfl rfl rfl rfl en65 (rcompose_fn (l.getD i ([], false)) (l.getD k ([], false)) _ _ _ hsv67 hsv71 (fun j hj => by have h1 := hok i (by omega); have h2 := (hok k (by omega)); have h3 := h2.2.2.getD_range hj; omega)) ?_
        intro v72 h72 hv72 hh72
        have hl := hl.mono hh72
        have hsv67 := hsv67.mono hh72
        have hsv71 := hsv71.mono hh72
        obtain ⟨sv72, rfl, hsv72⟩ := hv72
        refine run_callv (vs := [_, _]) rfl rfl rfl rfl rfl rfl en84 (idxA_fn _ _ _ _ _ hl hsv72) ?_
        refine rs rfl (s_lt rfl rfl rfl) ?_
        apply run_end
        refine wp_if' rfl (fun hc74 => ?_) (fun hc74 => ?_)
        ·skip
         apply wp_seq'
         refine wp_text rfl ?_
         refine rm rfl ?_
         apply run_end
         apply wp_ret'
         exact fin_ret (res_tmp rfl rfl) (by rw [rgrpI, if_neg hc12, if_neg hc15, if_neg hc18, if_neg (by simp [hz]), if_neg (by simp [hadj]), if_neg (by rw [closedB_no (i := i) (k := k) (by omega) (by omega) hc74]; simp)])
        ·skip
         apply wp_skip'
         refine wp_text rfl ?_
         refine rm rfl ?_
         refine rs rfl (s_add rfl rfl rfl (IntWalk.i64_in _ (by omega))) ?_
         refine rm rfl ?_
         apply run_end
         exact ⟨k + 1, ⟨by omega, fun j hj => (Nat.lt_succ_iff_lt_or_eq.1 hj).elim (hn3 j) (fun e => by rw [e]; exact hc74)⟩, by omega, ⟨by repeat (first|exact True.intro|refine And.intro rfl ?_), (by first | exact fun _ _ hb => hb | assumption), by repeat (first|exact NS _|exact SR _|apply SCC|apply SC)⟩⟩
       ·skip
        apply wp_exit'
        refine wp_text rfl ?_
        refine rm rfl ?_
        refine rs rfl (s_add rfl rfl rfl (IntWalk.i64_in _ (by omega))) ?_
        refine rm rfl ?_
        apply run_end
        exact ⟨i + 1, ⟨by omega, fun j hj => (Nat.lt_succ_iff_lt_or_eq.1 hj).elim (hn2 j) (fun e => by rw [e]; exact fun k2 hk2 => hn3 k2 (by omega))⟩, by omega, ⟨by repeat (first|exact True.intro|refine And.intro rfl ?_), (by first | exact fun _ _ hb => hb | assumption), by repeat (first|exact NS _|exact SR _|apply SCC|apply SC)⟩⟩
      ·skip
       apply wp_exit'
       apply wp_seq'
       refine wp_text rfl ?_
       refine rm rfl ?_
       apply run_end
       apply wp_ret'
       exact fin_ret (res_tmp rfl rfl) (by rw [rgrpI, if_neg hc12, if_neg hc15, if_neg hc18, if_neg (by simp [hz]), if_neg (by simp [hadj]), if_pos (closedB_yes fun j hj k hk => hn2 j (by omega) k hk)])
set_option maxRecDepth 8000 in
theorem long0_fn (f : List Int) (v : Value) (h : H) (hl : RdI0 h v f) : FnV Tryz.prog 51 #[v] h (.bool (longI f)) := by
 refine fn_of (vs := [v]) func51 rfl ntmps51 (Nat.le_of_ble_eq_true rfl) fun w hw => ?_
 apply wp_seq'
 refine wp_text rfl ?_
 refine rm rfl ?_
 apply run_end
 apply wp_seq'
 refine wp_text rfl ?_
 refine rm rfl ?_
 refine rs rfl (s_lenI0 hl rfl rfl underlying35) ?_
 refine rs rfl (s_gt rfl rfl rfl) ?_
 refine rm rfl ?_
 refine run_cases (t := 6) rfl (fun hg6 => ?_) (fun hg6 => ?_)
 ·skip
  refine rsg rfl rfl (s_move rfl rfl) ?_
  refine rsg rfl rfl (s_lenI0 hl rfl rfl underlying35) ?_
  refine rsg rfl rfl (s_lt rfl rfl rfl) ?_
  refine rs rfl (s_pick rfl rfl (fun _ => rfl) (fun h => by cases h)) ?_
  refine rm rfl ?_
  refine run_cases (t := 11) rfl (fun hg11 => ?_) (fun hg11 => ?_)
  ·skip
   refine run_skip rfl rfl rfl rfl rfl rfl rfl ?_
   refine run_skip rfl rfl rfl rfl rfl rfl rfl ?_
   refine run_skip rfl rfl rfl rfl rfl rfl rfl ?_
   refine rs rfl (s_pick rfl rfl (fun _ => rfl) (fun h => by cases h)) ?_
   refine rm rfl ?_
   apply run_end
   apply wp_ret'
   exact fin_ret (res_tmp rfl rfl) (by first | (simp_all [longI]; done) | (simp_all [longI]; omega))
  ·skip
   refine rsg rfl rfl (s_move rfl rfl) ?_
   refine rsg rfl rfl (s_lenI0 hl rfl rfl underlying35) ?_
   refine rsg rfl rfl (s_gt rfl rfl rfl) ?_
   refine rs rfl (s_pick rfl rfl (fun h => by cases h) (fun _ => rfl)) ?_
   refine rm rfl ?_
   apply run_end
   apply wp_ret'
   exact fin_ret (res_tmp rfl rfl) (by first | (simp_all [longI]; done) | (simp_all [longI]; omega))
 ·skip
  refine run_skip rfl rfl rfl rfl rfl rfl rfl ?_
  refine run_skip rfl rfl rfl rfl rfl rfl rfl ?_
  refine run_skip rfl rfl rfl rfl rfl rfl rfl ?_
  refine rs rfl (s_pick rfl rfl (fun h => by cases h) (fun _ => rfl)) ?_
  refine rm rfl ?_
  refine rsg rfl rfl (s_move rfl rfl) ?_
  refine rsg rfl rfl (s_lenI0 hl rfl rfl underlying35) ?_
  refine rsg rfl rfl (s_gt rfl rfl rfl) ?_
  refine rs rfl (s_pick rfl rfl (fun h => by cases h) (fun _ => rfl)) ?_
  refine rm rfl ?_
  apply run_end
  apply wp_ret'
  exact fin_ret (res_tmp rfl rfl) (by first | (simp_all [longI]; done) | (simp_all [longI]; omega))
end Go.Tal

/-
 The reference's orbits of cells.
-/
namespace Go.Tal
open Go.RowKit Go.Proofs Go.Proofs.Tryz _root_.Tal
theorem inTo_len (l : List Sy) (c n i : Nat) (hi : i ≤ l.length) : (inTo l c n i).length = n := (inTo_spec (l := l) (c := c) i hi).1
set_option maxRecDepth 8000 in
set_option maxHeartbeats 4000000 in
theorem rorb_fn (l : List Sy) (n : Nat) (v : Value) (h : H) (hl : RdS h v l) (hok : ∀ a ∈ l, Ok n a) (hn : n ≤ 256) : Fn Tryz.prog 24 #[v, .int .i64 n] h fun r h' => RdT h' r (rorbTo l n n).2 := by
 have hlm := hl.len
 refine fn_of (vs := [v, .int .i64 n]) func24 rfl ntmps24 (Nat.le_of_ble_eq_true rfl) fun w hw => ?_
 repeat apply wp_seq'
 refine wp_text rfl ?_
 refine rm rfl ?_
 apply run_end
 repeat apply wp_seq'
 refine wp_text rfl ?_
 refine rm rfl ?_
 apply run_end
 repeat apply wp_seq'
 refine wp_text rfl ?_
 refine rm rfl ?_
 refine run_mksl rfl rfl rfl rfl rfl rfl rfl underlying108 info4 rfl (by omega) (by omega) fun bs => ?_
 refine rm rfl ?_
 apply run_end
 repeat apply wp_seq'
 refine wp_text rfl ?_
 refine rm rfl ?_
 apply run_end
 repeat apply wp_seq'
 apply wp_block'
 refine WP.nilrow 35 1 ?_
 rw [← List.map_replicate (f := Value.bool)]
 refine wp_loop' (ι := H × Nat × List Bool × List Value × Value × List (List Int)) (fun x => (∀ b o, h b = some o → x.1 b = some o) ∧ x.2.1 ≤ n ∧ rorbTo l n x.2.1 = (x.2.2.1, x.2.2.2.2.2) ∧ x.2.2.1.length = n ∧ AllRd x.1 x.2.2.2.1 x.2.2.2.2.2 ∧ x.2.2.2.1.length ≤ x.2.1 ∧ ∃ A c, x.2.2.2.2.1 = .slice A x.2.2.2.1.length c) (fun x => ⟨[(7, .int .i64 x.2.1), (6, (.slice (some ⟨bs, 0, none⟩) n n)), (5, x.2.2.2.2.1), (1, .int .i64 n), (0, v)], x.1, [.row x.2.2.2.2.1 35 1 x.2.2.2.1.length x.2.2.2.1, .row (.slice (some ⟨bs, 0, none⟩) n n) 4 1 n (x.2.2.1.map Value.bool)]⟩) (fun x => n - x.2.1) (h, 0, List.replicate n false, [], .slice none 0 0, []) ⟨fun _ _ hb => hb, Nat.zero_le _, rfl, by simp, ⟨rfl, fun j hj => by cases hj⟩, Nat.zero_le _, none, 0, rfl⟩ ⟨by repeat (first|exact True.intro|refine And.intro rfl ?_), rfl, by repeat (first|exact NS _|exact SR _|apply SCC|apply SC)⟩ fun x hx => ?_
 obtain ⟨h1, k, sn, vals, ov, outs⟩ := x
 obtain ⟨hh1, hk, hto, hsn, hrd, hvl, oA, oc, eov⟩ := hx
 dsimp only at hh1 hk hto hsn hrd hvl eov ⊢
 subst eov
 have hl := hl.mono hh1
 repeat apply wp_seq'
 refine wp_text rfl ?_
 refine rm rfl ?_
 refine rm rfl ?_
 refine rs rfl (s_lt rfl rfl rfl) ?_
 apply run_end
 repeat apply wp_seq'
 refine wp_if' rfl (fun hc16 => ?_) (fun hc16 => ?_)
 ·skip
  apply wp_skip'
  repeat apply wp_seq'
  apply wp_block'
  repeat apply wp_seq'
  refine wp_text rfl ?_
  refine rm rfl ?_
  refine rm rfl ?_
  refine rs rfl (s_ia1 rfl rfl rfl underlying108 sizeOf4 (by omega) (by omega)) ?_
  refine rs rfl (s_ld rfl rfl isAgg4 (.rowM (e := 4) (sz := 1) Value.bool false (by repeat first|exact MH _|apply MT) (by first | omega | (simp; omega)))) ?_
  apply run_end
  simp only [Int.toNat_natCast]
  repeat apply wp_seq'
  refine wp_cond' rfl (fun hc22 => ?_) (fun hc22 => ?_)
  ·skip
   apply wp_exit'
   repeat apply wp_seq'
   refine wp_text rfl ?_
   refine rm rfl ?_
   refine rs rfl (s_add (q := ((k + 1 : Nat) : Int)) rfl rfl rfl (IntWalk.i64_in _ (by omega))) ?_
   refine rm rfl ?_
   apply run_end
   exact ⟨(h1, k + 1, sn, vals, _, outs), ⟨hh1, by dsimp only; omega, by dsimp only; rw [rorbTo_succ, hto, rorbStep, if_pos hc22], hsn, hrd, by dsimp only; omega, _, _, rfl⟩, by dsimp only; omega, ⟨by repeat (first|exact True.intro|refine And.intro rfl ?_), rfl, by repeat (first|exact NS _|exact SR _|apply SCC|apply SC)⟩⟩
  ·skip
   apply wp_skip'
   repeat apply wp_seq'
   refine wp_text rfl ?_
   refine rm rfl ?_
   refine run_mksl rfl rfl rfl rfl rfl rfl rfl underlying108 info4 rfl (by omega) (by omega) fun bi => ?_
   refine rm rfl ?_
   apply run_end
   repeat apply wp_seq'
   refine wp_text rfl ?_
   refine rm rfl ?_
   apply run_end
   repeat apply wp_seq'
   apply wp_block'
   rw [← List.map_replicate (f := Value.bool)]
   refine wp_loop' (fun i : Nat => i ≤ l.length) (fun i => ⟨[(9, .int .i64 i), (8, (.slice (some ⟨bi, 0, none⟩) n n)), (7, .int .i64 k), (6, (.slice (some ⟨bs, 0, none⟩) n n)), (5, .slice oA vals.length oc), (1, .int .i64 n), (0, v)], h1, [.row (.slice (some ⟨bi, 0, none⟩) n n) 4 1 n ((inTo l k n i).map Value.bool), .row (.slice oA vals.length oc) 35 1 vals.length vals, .row (.slice (some ⟨bs, 0, none⟩) n n) 4 1 n (sn.map Value.bool)]⟩) (fun i => l.length - i) 0 (Nat.zero_le _) ⟨by repeat (first|exact True.intro|refine And.intro rfl ?_), rfl, by repeat (first|exact NS _|exact SR _|apply SCC|apply SC)⟩ fun i hi => ?_
   repeat apply wp_seq'
   refine wp_text rfl ?_
   refine rm rfl ?_
   refine rm rfl ?_
   refine rs rfl (s_lenS hl rfl rfl underlying22) ?_
   refine rs rfl (s_lt rfl rfl rfl) ?_
   apply run_end
   repeat apply wp_seq'
   refine wp_if' rfl (fun hc28 => ?_) (fun hc28 => ?_)
   ·skip
    apply wp_skip'
    repeat apply wp_seq'
    apply wp_block'
    have hao := hok _ (getD_mem' (l := l) (i := i) (by omega))
    have hrg := hao.getD_range (i := k) (by omega)
    have hil := inTo_len l k n i hi
    obtain ⟨sv35, hsv35, hat35⟩ := hl.get (j := i) (by omega)
    repeat apply wp_seq'
    refine wp_text rfl ?_
    refine rm rfl ?_
    refine rm rfl ?_
    refine rm rfl ?_
    refine rs rfl (s_iaS hl (by omega) (by omega) rfl rfl rfl underlying22 sizeOf37) ?_
    refine rs rfl (s_faS (f := 0) hat35 rfl rfl underlying37 rfl sizeOf35 rfl) ?_
    refine rs rfl (s_ldS0 hat35 (by omega) rfl rfl isAgg35) ?_
    refine rm rfl ?_
    refine rs rfl (s_iaI hsv35 (by omega) (by rw [hao.1]; omega) rfl rfl rfl underlying35 sizeOf3) ?_
    refine rs rfl (s_ldI hsv35 (by omega) (by rw [hao.1]; omega) rfl rfl isAgg3) ?_
    simp only [Int.toNat_natCast]
    refine rs rfl (s_ia1 rfl rfl rfl underlying108 sizeOf4 (by omega) (by omega)) ?_
    refine run_strowM Value.bool rfl rfl rfl rfl rfl rfl rfl rfl sizeOf4 (by repeat first|exact Swap.here|apply Swap.there) (by omega) ?_
    apply run_end
    repeat apply wp_seq'
    refine wp_text rfl ?_
    refine rm rfl ?_
    refine rs rfl (s_add (q := ((i + 1 : Nat) : Int)) rfl rfl rfl (IntWalk.i64_in _ (by omega))) ?_
    refine rm rfl ?_
    apply run_end
    refine ⟨i + 1, by omega, by omega, ⟨by repeat (first|exact True.intro|refine And.intro rfl ?_), rfl, ?_⟩⟩
    rw [inTo_succ (by omega)]
    exact List.Sublist.refl _
   ·skip
    apply wp_exit'
    obtain rfl : i = l.length := by omega
    repeat apply wp_seq'
    refine wp_text rfl ?_
    refine rm rfl ?_
    apply run_end
    repeat apply wp_seq'
    refine wp_text rfl ?_
    refine rm rfl ?_
    apply run_end
    repeat apply wp_seq'
    apply wp_block'
    refine WP.nilrow 3 1 ?_
    refine wp_loop' (ι := Nat × List Bool × List Int × Value) (fun x => x.1 ≤ n ∧ orbScan (inTo l k n l.length) sn x.1 = (x.2.1, x.2.2.1) ∧ x.2.1.length = n ∧ x.2.2.1.length ≤ x.1 ∧ ∃ A c, x.2.2.2 = .slice A x.2.2.1.length c) (fun x => ⟨[(11, .int .i64 x.1), (10, x.2.2.2), (8, (.slice (some ⟨bi, 0, none⟩) n n)), (7, .int .i64 k), (6, (.slice (some ⟨bs, 0, none⟩) n n)), (5, .slice oA vals.length oc), (1, .int .i64 n), (0, v)], h1, [.row x.2.2.2 3 1 x.2.2.1.length (x.2.2.1.map (Value.int .i64)), .row (.slice (some ⟨bi, 0, none⟩) n n) 4 1 n ((inTo l k n l.length).map Value.bool), .row (.slice oA vals.length oc) 35 1 vals.length vals, .row (.slice (some ⟨bs, 0, none⟩) n n) 4 1 n (x.2.1.map Value.bool)]⟩) (fun x => n - x.1) (0, sn, [], .slice none 0 0) ⟨Nat.zero_le _, rfl, hsn, Nat.le_refl _, none, 0, rfl⟩ ⟨by repeat (first|exact True.intro|refine And.intro rfl ?_), rfl, by repeat (first|exact NS _|exact SR _|apply SCC|apply SC)⟩ fun x hx => ?_
    obtain ⟨j, sn1, ys, tv⟩ := x
    obtain ⟨hj, hsc, hs1, hyl, tA, tc, etv⟩ := hx
    dsimp only at hj hsc hs1 hyl etv ⊢
    subst etv
    have hil := inTo_len l k n l.length (Nat.le_refl _)
    have hstep := orbScan_succ (inTo l k n l.length) sn j
    rw [hsc] at hstep
    dsimp only at hstep
    repeat apply wp_seq'
    refine wp_text rfl ?_
    refine rm rfl ?_
    refine rm rfl ?_
    refine rs rfl (s_lt rfl rfl rfl) ?_
    apply run_end
    repeat apply wp_seq'
    refine wp_if' rfl (fun hc43 => ?_) (fun hc43 => ?_)
    ·skip
     apply wp_skip'
     repeat apply wp_seq'
     apply wp_block'
     repeat apply wp_seq'
     refine wp_text rfl ?_
     refine rm rfl ?_
     refine rm rfl ?_
     refine rs rfl (s_ia1 rfl rfl rfl underlying108 sizeOf4 (by omega) (by omega)) ?_
     refine rs rfl (s_ld rfl rfl isAgg4 (.rowM (e := 4) (sz := 1) Value.bool false (by repeat first|exact MH _|apply MT) (by first | omega | (simp; omega)))) ?_
     apply run_end
     simp only [Int.toNat_natCast]
     repeat apply wp_seq'
     refine wp_cond' rfl (fun hc49 => ?_) (fun hc49 => ?_)
     ·skip
      rw [if_pos hc49] at hstep
      repeat apply wp_seq'
      refine wp_text rfl ?_
      refine rm rfl ?_
      refine rm rfl ?_
      refine run_bso (parts := [_]) (vs := [_]) rfl rfl rfl rfl rfl rfl (bs35_1 _) fun b52 => ?_
      refine run_app1 (Value.int .i64) _ rfl rfl rfl rfl rfl rfl rfl underlying35 info3 rfl (fun v' => (by repeat first|exact Swap.here|apply Swap.there)) (by repeat first|exact MH _|apply MT) rfl (by omega) (by decide) fun v53 hv53 => ?_
      obtain ⟨A53, c53, rfl⟩ := hv53
      refine rm rfl ?_
      apply run_end
      repeat apply wp_seq'
      refine wp_text rfl ?_
      refine rm rfl ?_
      refine rm rfl ?_
      refine rs rfl (s_ia1 rfl rfl rfl underlying108 sizeOf4 (by omega) (by omega)) ?_
      refine run_strowM Value.bool rfl rfl rfl rfl rfl rfl rfl rfl sizeOf4 (by repeat first|exact Swap.here|apply Swap.there) (by omega) ?_
      apply run_end
      simp only [Int.toNat_natCast]
      repeat apply wp_seq'
      refine wp_text rfl ?_
      refine rm rfl ?_
      refine rs rfl (s_add (q := ((j + 1 : Nat) : Int)) rfl rfl rfl (IntWalk.i64_in _ (by omega))) ?_
      refine rm rfl ?_
      apply run_end
      have el : ys.length + 1 = (ys ++ [(j : Int)]).length := by simp
      rw [el]
      exact ⟨(j + 1, sn1.set j true, ys ++ [(j : Int)], .slice A53 (ys ++ [(j : Int)]).length c53), ⟨by dsimp only; omega, hstep, by simpa using hs1, by dsimp only; rw [← el]; omega, _, _, rfl⟩, by dsimp only; omega, ⟨by repeat (first|exact True.intro|refine And.intro rfl ?_), rfl, by repeat (first|exact NS _|exact SR _|apply SCC|apply SC)⟩⟩
     ·skip
      rw [if_neg (by rw [hc49]; decide)] at hstep
      apply wp_skip'
      repeat apply wp_seq'
      refine wp_text rfl ?_
      refine rm rfl ?_
      refine rs rfl (s_add (q := ((j + 1 : Nat) : Int)) rfl rfl rfl (IntWalk.i64_in _ (by omega))) ?_
      refine rm rfl ?_
      apply run_end
      exact ⟨(j + 1, sn1, ys, .slice tA ys.length tc), ⟨by dsimp only; omega, hstep, hs1, by dsimp only; omega, _, _, rfl⟩, by dsimp only; omega, ⟨by repeat (first|exact True.intro|refine And.intro rfl ?_), rfl, by repeat (first|exact NS _|exact SR _|apply SCC|apply SC)⟩⟩
    ·skip
     apply wp_exit'
     obtain rfl : j = n := by omega
     refine WP.letO rfl (by repeat first|exact Pick.here|apply Pick.there) (by omega) fun h5 hh5 hov => ?_
     have hrd := hrd.mono hh5
     repeat apply wp_seq'
     refine wp_text rfl ?_
     refine rm rfl ?_
     refine rm rfl ?_
     refine run_bso (parts := [_]) (vs := [_]) rfl rfl rfl rfl rfl rfl (bs26_r hov) fun b59 => ?_
     refine run_app1v _ rfl rfl rfl rfl rfl rfl rfl underlying26 info35 rfl (fun v' => (by repeat first|exact Swap.here|apply Swap.there)) (by repeat first|exact MH _|apply MT) (RdI.one hov) (by omega) (by decide) fun v60 hv60 => ?_
     obtain ⟨A60, c60, rfl⟩ := hv60
     refine rm rfl ?_
     apply run_end
     repeat apply wp_seq'
     refine wp_text rfl ?_
     refine rm rfl ?_
     refine rs rfl (s_add (q := ((k + 1 : Nat) : Int)) rfl rfl rfl (IntWalk.i64_in _ (by omega))) ?_
     refine rm rfl ?_
     apply run_end
     have el : vals.length + 1 = (vals ++ [Value.slice tA ys.length tc]).length := by simp
     rw [el]
     exact ⟨(h5, k + 1, sn1, vals ++ [.slice tA ys.length tc], _, outs ++ [ys]), ⟨fun b o hb => hh5 _ _ (hh1 _ _ hb), by dsimp only; omega, by dsimp only; rw [rorbTo_succ, hto, rorbStep, if_neg (by rw [hc22]; decide)]; dsimp only; rw [hsc], hs1, hrd.snoc hov, by dsimp only; rw [← el]; omega, _, _, rfl⟩, by dsimp only; omega, ⟨by repeat (first|exact True.intro|refine And.intro rfl ?_), rfl, by repeat (first|exact NS _|exact SR _|apply SCC|apply SC)⟩⟩
 ·skip
  apply wp_exit'
  obtain rfl : k = n := by omega
  repeat apply wp_seq'
  refine wp_text rfl ?_
  refine rm rfl ?_
  refine rm rfl ?_
  apply run_end
  refine WP.letT outs rfl (by repeat first|exact Pick.here|apply Pick.there) (by omega) hrd.1 hrd.2 fun h6 hh6 hrt => ?_
  apply wp_ret'
  refine fin_ret (res_tmp rfl rfl) ?_
  rw [hto]
  exact hrt
end Go.Tal

/-
 GroupSames: Same returns the symmetry of the reference, or the first error.
-/
namespace Go.Tal
open Go.RowKit Go.Proofs Go.Proofs.Tryz _root_.Tal
theorem bs35_3 (x y z : Int) : ∀ w, (Instr.buildSlice 35 3 #[(0, .int .i64 x), (1, .int .i64 y), (2, .int .i64 z)]).run Tryz.prog w = .ok (.slice (some ⟨w.heap.size, 0, none⟩) 3 3) (w.alloc (.cells #[.int .i64 x, .int .i64 y, .int .i64 z] 3)) := fun _ => by kernel_rfl
theorem rfillI_eq (f : List Int) : rfillI f = fillI f := by
 unfold rfillI fillI rangeI
 cases h : decide (256 < (f.length : Int)) with
 | true => rfl
 | false =>
  rw [firstI_cons]
  simp only [cond_false, whenI, if_false, ne_eq, not_true_eq_false]
  cases f.any farI <;> rfl
theorem long_len {f : List Int} (h : longI f = false) : f.length ≤ 4294967296 := by
 simp only [longI, Bool.or_eq_false_iff, decide_eq_false_iff_not] at h
 omega
theorem sameI1_eq (l : List Sy) (f g : List Int) : firstI [rfillI f, rfillI g, whenI (decide ((f.length : Int) ≠ g.length)) 2] = sameI1 l f g := by
 rw [rfillI_eq, rfillI_eq]
 rfl
theorem symB_err {e : Int} (h : e ≠ 0) (w : Sy) : symB ([], false) e e w = true := by
 unfold symB
 rw [decide_eq_true h]
 simp
theorem symB_ok (a : Sy) : symB a 0 0 a = true := by
 unfold symB
 rw [decide_eq_false (by simp)]
 simp
theorem same_bad1 {l : List Sy} {f g : List Int} (h : firstI [rfillI f, rfillI g, whenI (decide ((f.length : Int) ≠ g.length)) 2] ≠ 0) : symB (sameO l f g).1 (sameO l f g).2 (firstI [rfillI f, rfillI g, whenI (decide ((f.length : Int) ≠ g.length)) 2]) (sameO l f g).1 = true := by
 rw [sameI1_eq l] at h ⊢
 have hO : sameO l f g = (([], false), sameI1 l f g) := by rw [sameO, if_pos h]
 rw [hO]
 exact symB_err h _
theorem same_bad2 {l : List Sy} {f g : List Int} (h : firstI [rfillI f, rfillI g, whenI (decide ((f.length : Int) ≠ g.length)) 2] = 0) (h2 : rgrpI l f.length ≠ 0) : symB (sameO l f g).1 (sameO l f g).2 (rgrpI l f.length) (sameO l f g).1 = true := by
 rw [sameI1_eq l] at h
 rw [rgrpI_eq] at h2 ⊢
 have hO : sameO l f g = (([], false), groupI l f.length) := by rw [sameO, if_neg (by simp [h]), if_pos h2]
 rw [hO]
 exact symB_err h2 _
theorem same_good {l : List Sy} {f g : List Int} (h : firstI [rfillI f, rfillI g, whenI (decide ((f.length : Int) ≠ g.length)) 2] = 0) (h2 : rgrpI l f.length = 0) : fillI f = 0 ∧ (∀ a ∈ l, Ok f.length a) ∧ sameO l f g = match l.find? fun a => decide (imgI a.1 a.2 f = g) with | none => (([], false), 7) | some a => (a, 0) := by
 rw [sameI1_eq l] at h
 rw [rgrpI_eq] at h2
 obtain ⟨_, _, _, hok, _⟩ := groupI_zero h2
 rw [Int.toNat_natCast] at hok
 exact ⟨firstI_zero.1 h (fillI f) (by simp), hok, by rw [sameO, if_neg (by simp [h]), if_neg (by simp [h2])]; rfl⟩
theorem idxG_find {α : Type} {d : α} {p : α → Bool} {l : List α} : (idxG p l < 0 ∧ l.find? p = none) ∨ (0 ≤ idxG p l ∧ idxG p l < l.length ∧ l.find? p = some (l.getD (idxG p l).toNat d)) := by
 unfold idxG
 cases h : l.any p with
 | false =>
  refine .inl ⟨by simp, ?_⟩
  rw [List.find?_eq_none]
  intro x hx hp
  have := List.any_eq_false.1 h x hx
  exact this hp
 | true =>
  refine .inr ?_
  obtain ⟨x, hx, hp⟩ := List.any_eq_true.1 h
  have hlt : l.findIdx p < l.length := List.findIdx_lt_length_of_exists ⟨x, hx, hp⟩
  simp only [if_true, Int.toNat_natCast]
  refine ⟨by omega, by omega, ?_⟩
  rw [List.find?_eq_some_iff_getElem]
  rw [List.getD_eq_getElem?_getD, List.getElem?_eq_getElem hlt]
  refine ⟨List.findIdx_getElem, _, hlt, rfl, fun j hj => ?_⟩
  have := List.not_of_lt_findIdx hj
  simpa using this
theorem same_none {l : List Sy} {f g : List Int} (hO : sameO l f g = match l.find? fun a => decide (imgI a.1 a.2 f = g) with | none => (([], false), 7) | some a => (a, 0)) (h : idxG (fun a : Sy => decide (imgI a.1 a.2 f = g)) l < 0) : symB (sameO l f g).1 (sameO l f g).2 7 (sameO l f g).1 = true := by
 rcases idxG_find (d := (([], false) : Sy)) (p := fun a : Sy => decide (imgI a.1 a.2 f = g)) (l := l) with ⟨_, h2⟩ | ⟨h2, _⟩
 ·rw [h2] at hO
  rw [hO]
  exact symB_err (by decide) _
 ·omega
theorem same_some {l : List Sy} {f g : List Int} (hO : sameO l f g = match l.find? fun a => decide (imgI a.1 a.2 f = g) with | none => (([], false), 7) | some a => (a, 0)) (h : ¬ idxG (fun a : Sy => decide (imgI a.1 a.2 f = g)) l < 0) : symB (sameO l f g).1 (sameO l f g).2 0 (l.getD (idxG (fun a : Sy => decide (imgI a.1 a.2 f = g)) l).toNat ([], false)) = true := by
 rcases idxG_find (d := (([], false) : Sy)) (p := fun a : Sy => decide (imgI a.1 a.2 f = g)) (l := l) with ⟨h2, _⟩ | ⟨_, _, h2⟩
 ·exact absurd h2 h
 ·rw [h2] at hO
  rw [hO]
  exact symB_ok _
theorem idxG_lt {l : List Sy} {p : Sy → Bool} (h : ¬ idxG p l < 0) : 0 ≤ idxG p l ∧ idxG p l < l.length := by
 rcases idxG_find (d := (([], false) : Sy)) (p := p) (l := l) with ⟨h2, _⟩ | ⟨h1, h2, _⟩
 ·exact absurd h2 h
 ·exact ⟨h1, h2⟩
set_option maxRecDepth 8000 in
set_option maxHeartbeats 4000000 in
theorem law_sames (l : List Sy) (f g : List Int) (v u t : Value) (h : H) (hl : RdS0 h v l) (hf : RdI0 h u f) (hg : RdI0 h t g) : FnV Tryz.prog 16 #[v, u, t] h (.bool true) := by
 refine fn_of (vs := [v, u, t]) func16 rfl ntmps16 (Nat.le_of_ble_eq_true rfl) fun w hw => ?_
 apply wp_seq'
 refine wp_text rfl ?_
 refine rm rfl ?_
 apply run_end
 apply wp_seq'
 apply wp_seq'
 refine wp_text rfl ?_
 refine run_callv (vs := []) rfl rfl rfl rfl rfl rfl en18 (awake_fn _) ?_
 refine rs rfl (s_not rfl rfl) ?_
 refine rm rfl ?_
 refine rsg rfl rfl (s_move rfl rfl) ?_
 refine run_callvg (vs := [_, _]) rfl rfl rfl rfl rfl rfl rfl rfl en19 (heavy_fn _ _ _ _ hl) ?_
 refine rs rfl (s_pick rfl rfl (fun h => by cases h) (fun _ => rfl)) ?_
 refine rm rfl ?_
 refine run_cb (t := 17) rfl (fun hg17 => ?_) (fun hg17 => ?_)
 ·skip
  refine run_skip rfl rfl rfl rfl rfl rfl rfl ?_
  refine run_skip rfl rfl rfl rfl rfl rfl rfl ?_
  refine rs rfl (s_pick rfl rfl (fun _ => rfl) (fun h => by cases h)) ?_
  refine rm rfl ?_
  refine run_skip rfl rfl rfl rfl rfl rfl rfl ?_
  refine run_skip rfl rfl rfl rfl rfl rfl rfl ?_
  refine rs rfl (s_pick rfl rfl (fun _ => rfl) (fun h => by cases h)) ?_
  apply run_end
  refine wp_cond' (b := true) rfl (fun _ => ?_) (fun h => by cases h)
  apply wp_seq'
  refine wp_text rfl ?_
  refine run_callv (vs := []) rfl rfl rfl rfl rfl rfl en18 (awake_fn _) ?_
  refine rm rfl ?_
  apply run_end
  apply wp_ret'
  exact fin_ret (res_tmp rfl rfl) (rfl)
 ·skip
  refine rsg rfl rfl (s_move rfl rfl) ?_
  refine run_callvg (vs := [_]) rfl rfl rfl rfl rfl rfl rfl rfl en51 (long0_fn _ _ _ hf) ?_
  refine rs rfl (s_pick rfl rfl (fun h => by cases h) (fun _ => rfl)) ?_
  refine rm rfl ?_
  refine run_cb (t := 21) rfl (fun hg21 => ?_) (fun hg21 => ?_)
  ·skip
   refine run_skip rfl rfl rfl rfl rfl rfl rfl ?_
   refine run_skip rfl rfl rfl rfl rfl rfl rfl ?_
   refine rs rfl (s_pick rfl rfl (fun _ => rfl) (fun h => by cases h)) ?_
   apply run_end
   refine wp_cond' (b := true) rfl (fun _ => ?_) (fun h => by cases h)
   apply wp_seq'
   refine wp_text rfl ?_
   refine run_callv (vs := []) rfl rfl rfl rfl rfl rfl en18 (awake_fn _) ?_
   refine rm rfl ?_
   apply run_end
   apply wp_ret'
   exact fin_ret (res_tmp rfl rfl) (rfl)
  ·skip
   refine rsg rfl rfl (s_move rfl rfl) ?_
   refine run_callvg (vs := [_]) rfl rfl rfl rfl rfl rfl rfl rfl en51 (long0_fn _ _ _ hg) ?_
   refine rs rfl (s_pick rfl rfl (fun h => by cases h) (fun _ => rfl)) ?_
   apply run_end
   refine wp_cond' rfl (fun hc24 => ?_) (fun hc24 => ?_)
   ·skip
    apply wp_seq'
    refine wp_text rfl ?_
    refine run_callv (vs := []) rfl rfl rfl rfl rfl rfl en18 (awake_fn _) ?_
    refine rm rfl ?_
    apply run_end
    apply wp_ret'
    exact fin_ret (res_tmp rfl rfl) (rfl)
   ·skip
    have hl2 := heavyB_false hg17
    have hl := hl.toS (by omega) (fun a ha => by have := hl2.2 a ha; omega)
    have hf := hf.toI (long_len hg21)
    have hg := hg.toI (long_len hc24)
    apply wp_skip'
    apply wp_seq'
    refine wp_text rfl ?_
    refine rm rfl ?_
    refine rm rfl ?_
    refine rm rfl ?_
    refine run_call (vs := [_, _, _]) rfl rfl rfl rfl rfl rfl en86 (same_fn l f g _ _ _ _ hl hf hg) ?_
    intro v30 h30 hv30 hh30
    have hl := hl.mono hh30
    have hf := hf.mono hh30
    have hg := hg.mono hh30
    obtain ⟨sv30, rfl, hsv30⟩ := hv30
    refine rm rfl ?_
    refine rs rfl (s_extract rfl rfl rfl) ?_
    refine rs rfl (s_extract rfl rfl rfl) ?_
    refine run_alloc rfl rfl rfl rfl rfl zeroValue37 rfl fun b1 => ?_
    refine run_st2 rfl rfl rfl rfl rfl rfl (by first | rfl | assumption | exact RdI.one (by assumption)) rfl sizeOf37 (by repeat first|exact Swap.here|apply Swap.there) rfl ?_
    refine rm rfl ?_
    apply run_end
    apply wp_seq'
    refine wp_text rfl ?_
    refine rm rfl ?_
    refine run_callv (vs := [_]) rfl rfl rfl rfl rfl rfl en57 (rfill_fn _ _ _ hf) ?_
    refine rm rfl ?_
    refine run_callv (vs := [_]) rfl rfl rfl rfl rfl rfl en57 (rfill_fn _ _ _ hg) ?_
    refine rm rfl ?_
    refine rs rfl (s_lenI hf rfl rfl underlying35) ?_
    refine rm rfl ?_
    refine rs rfl (s_lenI hg rfl rfl underlying35) ?_
    refine rs rfl (s_ne rfl rfl rfl) ?_
    refine run_callv (vs := [_, _]) rfl rfl rfl rfl rfl rfl en37 (lwhen_fn _ _ _) ?_
    refine run_bsl (parts := [_, _, _]) (vs := [_, _, _]) rfl rfl rfl rfl rfl rfl (bs35_3 _ _ _) fun b2 h2 hh2 hb2 => ?_
    have hr2 := rdI_of (xs := [_, _, _]) hb2 rfl rfl (Nat.le_of_ble_eq_true rfl)
    have hl := hl.mono hh2
    have hf := hf.mono hh2
    have hg := hg.mono hh2
    have hsv30 := hsv30.mono hh2
    refine run_callv (vs := [_]) rfl rfl rfl rfl rfl rfl en41 (lfirst_fn _ _ _ hr2) ?_
    refine rm rfl ?_
    apply run_end
    apply wp_seq'
    apply wp_seq'
    refine wp_text rfl ?_
    refine rm rfl ?_
    refine rs rfl (s_eq rfl rfl rfl) ?_
    apply run_end
    refine wp_if' rfl (fun hc46 => ?_) (fun hc46 => ?_)
    ·skip
     refine wp_text rfl ?_
     refine rm rfl ?_
     refine rm rfl ?_
     refine rs rfl (s_lenI hf rfl rfl underlying35) ?_
     refine run_callv (vs := [_, _]) rfl rfl rfl rfl rfl rfl en20 (rgroup_fn _ _ _ _ (RdS.to0 hl)) ?_
     refine rm rfl ?_
     apply run_end
     apply wp_seq'
     apply wp_seq'
     refine wp_text rfl ?_
     refine rm rfl ?_
     refine rs rfl (s_ne rfl rfl rfl) ?_
     apply run_end
     refine wp_if' rfl (fun hc52 => ?_) (fun hc52 => ?_)
     ·skip
      apply wp_seq'
      refine wp_text rfl ?_
      refine rs rfl (s_ld2 rfl rfl isAgg37 sizeOf37 (.o_ rfl) (.o_ rfl)) ?_
      refine rm rfl ?_
      refine rm rfl ?_
      refine rs rfl (s_ld2 rfl rfl isAgg37 sizeOf37 (.o_ rfl) (.o_ rfl)) ?_
      refine run_callv (vs := [_, _, _, _]) rfl rfl rfl rfl rfl rfl en62 (symmetry_fn (sameO l f g).1 _ _ (sameO l f g).1 _ _ _ hsv30 (fun _ => hsv30) hsv30.one) ?_
      refine rm rfl ?_
      apply run_end
      apply wp_ret'
      exact fin_ret (res_tmp rfl rfl) (by rw [same_bad2 hc46 hc52])
     ·skip
      obtain ⟨hf0, hok, hO⟩ := same_good (l := l) (f := f) (g := g) (by first | exact hc46 | exact absurd (Decidable.not_not.1 hc52) hc46) (by first | exact Decidable.not_not.1 hc52 | exact absurd (Decidable.not_not.1 hc52) hc46)
      apply wp_skip'
      apply wp_seq'
      refine wp_text rfl ?_
      refine rm rfl ?_
      refine rm rfl ?_
      refine rm rfl ?_
      refine run_callv (vs := [_, _, _]) rfl rfl rfl rfl rfl rfl en87 (rsame_fn l f g _ _ _ _ hl hf hg hok hf0) ?_
      refine rm rfl ?_
      apply run_end
      apply wp_seq'
      apply wp_seq'
      refine wp_text rfl ?_
      refine rm rfl ?_
      refine rs rfl (s_lt rfl rfl rfl) ?_
      apply run_end
      refine wp_if' rfl (fun hc63 => ?_) (fun hc63 => ?_)
      ·skip
       apply wp_seq'
       refine wp_text rfl ?_
       refine rs rfl (s_ld2 rfl rfl isAgg37 sizeOf37 (.o_ rfl) (.o_ rfl)) ?_
       refine rm rfl ?_
       refine rs rfl (s_ld2 rfl rfl isAgg37 sizeOf37 (.o_ rfl) (.o_ rfl)) ?_
       refine run_callv (vs := [_, _, _, _]) rfl rfl rfl rfl rfl rfl en62 (symmetry_fn (sameO l f g).1 _ _ (sameO l f g).1 _ _ _ hsv30 (fun _ => hsv30) hsv30.one) ?_
       refine rm rfl ?_
       apply run_end
       apply wp_ret'
       exact fin_ret (res_tmp rfl rfl) (by rw [same_none hO hc63])
      ·skip
       have hix := idxG_lt hc63
       apply wp_skip'
       apply wp_seq'
       refine wp_any [0, 1, 2, 3, 4, 5, 6, 7] rfl (by kernel_rfl) ?_
       refine rs rfl (s_ld2 rfl rfl isAgg37 sizeOf37 (.o_ rfl) (.o_ rfl)) ?_
       refine rm rfl ?_
       refine rm rfl ?_
       refine rm rfl ?_
       refine rs rfl (s_iaS hl (by omega) (by omega) rfl rfl rfl underlying22 sizeOf37) ?_
       obtain ⟨sv73, hsv73, hat73⟩ := hl.get (j := (idxG (fun a : Sy => decide (imgI a.1 a.2 f = g)) l).toNat) (by omega)
       refine rs rfl (s_ldS hat73 (by omega) rfl rfl isAgg37 sizeOf37) ?_
       refine run_callv (vs := [_, _, _, _]) rfl rfl rfl rfl rfl rfl en62 (symmetry_fn (sameO l f g).1 _ _ (l.getD (idxG (fun a : Sy => decide (imgI a.1 a.2 f = g)) l).toNat ([], false)) _ _ _ hsv30 (fun _ => hsv73) hsv73.one) ?_
       refine rm rfl ?_
       apply run_end
       apply wp_ret'
       exact fin_ret (res_tmp rfl rfl) (by rw [same_some hO hc63])
    ·skip
     apply wp_skip'
     apply wp_seq'
     apply wp_seq'
     refine wp_text rfl ?_
     refine rm rfl ?_
     refine rs rfl (s_ne rfl rfl rfl) ?_
     apply run_end
     refine wp_if' rfl (fun hc52 => ?_) (fun hc52 => ?_)
     ·skip
      apply wp_seq'
      refine wp_text rfl ?_
      refine rs rfl (s_ld2 rfl rfl isAgg37 sizeOf37 (.o_ rfl) (.o_ rfl)) ?_
      refine rm rfl ?_
      refine rm rfl ?_
      refine rs rfl (s_ld2 rfl rfl isAgg37 sizeOf37 (.o_ rfl) (.o_ rfl)) ?_
      refine run_callv (vs := [_, _, _, _]) rfl rfl rfl rfl rfl rfl en62 (symmetry_fn (sameO l f g).1 _ _ (sameO l f g).1 _ _ _ hsv30 (fun _ => hsv30) hsv30.one) ?_
      refine rm rfl ?_
      apply run_end
      apply wp_ret'
      exact fin_ret (res_tmp rfl rfl) (by rw [same_bad1 hc46])
     ·skip
      obtain ⟨hf0, hok, hO⟩ := same_good (l := l) (f := f) (g := g) (by first | exact hc46 | exact absurd (Decidable.not_not.1 hc52) hc46) (by first | exact Decidable.not_not.1 hc52 | exact absurd (Decidable.not_not.1 hc52) hc46)
      apply wp_skip'
      apply wp_seq'
      refine wp_text rfl ?_
      refine rm rfl ?_
      refine rm rfl ?_
      refine rm rfl ?_
      refine run_callv (vs := [_, _, _]) rfl rfl rfl rfl rfl rfl en87 (rsame_fn l f g _ _ _ _ hl hf hg hok hf0) ?_
      refine rm rfl ?_
      apply run_end
      apply wp_seq'
      apply wp_seq'
      refine wp_text rfl ?_
      refine rm rfl ?_
      refine rs rfl (s_lt rfl rfl rfl) ?_
      apply run_end
      refine wp_if' rfl (fun hc63 => ?_) (fun hc63 => ?_)
      ·skip
       apply wp_seq'
       refine wp_text rfl ?_
       refine rs rfl (s_ld2 rfl rfl isAgg37 sizeOf37 (.o_ rfl) (.o_ rfl)) ?_
       refine rm rfl ?_
       refine rs rfl (s_ld2 rfl rfl isAgg37 sizeOf37 (.o_ rfl) (.o_ rfl)) ?_
       refine run_callv (vs := [_, _, _, _]) rfl rfl rfl rfl rfl rfl en62 (symmetry_fn (sameO l f g).1 _ _ (sameO l f g).1 _ _ _ hsv30 (fun _ => hsv30) hsv30.one) ?_
       refine rm rfl ?_
       apply run_end
       apply wp_ret'
       exact fin_ret (res_tmp rfl rfl) (by rw [same_none hO hc63])
      ·skip
       have hix := idxG_lt hc63
       apply wp_skip'
       apply wp_seq'
       refine wp_any [0, 1, 2, 3, 4, 5, 6, 7] rfl (by kernel_rfl) ?_
       refine rs rfl (s_ld2 rfl rfl isAgg37 sizeOf37 (.o_ rfl) (.o_ rfl)) ?_
       refine rm rfl ?_
       refine rm rfl ?_
       refine rm rfl ?_
       refine rs rfl (s_iaS hl (by omega) (by omega) rfl rfl rfl underlying22 sizeOf37) ?_
       obtain ⟨sv73, hsv73, hat73⟩ := hl.get (j := (idxG (fun a : Sy => decide (imgI a.1 a.2 f = g)) l).toNat) (by omega)
       refine rs rfl (s_ldS hat73 (by omega) rfl rfl isAgg37 sizeOf37) ?_
       refine run_callv (vs := [_, _, _, _]) rfl rfl rfl rfl rfl rfl en62 (symmetry_fn (sameO l f g).1 _ _ (l.getD (idxG (fun a : Sy => decide (imgI a.1 a.2 f = g)) l).toNat ([], false)) _ _ _ hsv30 (fun _ => hsv73) hsv73.one) ?_
       refine rm rfl ?_
       apply run_end
       apply wp_ret'
       exact fin_ret (res_tmp rfl rfl) (by rw [same_some hO hc63])
end Go.Tal

/-
 GroupChecks: CheckGroup and CellOrbits return what the reference returns, or the first error.
-/
namespace Go.Tal
open Go.RowKit Go.Proofs Go.Proofs.Tryz _root_.Tal
def tabB (a : List (List Int)) (e bad : Int) (want : List (List Int)) : Bool := bif decide (bad ≠ 0) then decide ((a.length : Int) = 0) && decide (e = bad) else decide (e = 0) && decide (a = want)
def symsB (a : List Sy) (e bad : Int) (want : List Sy) : Bool := bif decide (bad ≠ 0) then decide ((a.length : Int) = 0) && decide (e = bad) else decide (e = 0) && decide (a = want)
theorem tabB_err {e : Int} (h : e ≠ 0) (w : List (List Int)) : tabB [] e e w = true := by
 unfold tabB
 rw [decide_eq_true h]
 simp
theorem tabB_ok (a : List (List Int)) : tabB a 0 0 a = true := by
 unfold tabB
 rw [decide_eq_false (by simp)]
 simp
theorem symsB_err {e : Int} (h : e ≠ 0) (w : List Sy) : symsB [] e e w = true := by
 unfold symsB
 rw [decide_eq_true h]
 simp
theorem symsB_ok (a : List Sy) : symsB a 0 0 a = true := by
 unfold symsB
 rw [decide_eq_false (by simp)]
 simp
theorem checks_bad {l : List Sy} {c : Int} (h : rgrpI l c ≠ 0) : tabB (cellOrbO l c).1 (cellOrbO l c).2 (rgrpI l c) [] = true := by
 rw [rgrpI_eq] at h ⊢
 rw [cellOrbO, if_pos h]
 exact tabB_err h _
theorem checks_good {l : List Sy} {c : Int} (h : ¬ rgrpI l c ≠ 0) : (0 ≤ c ∧ c ≤ 256) ∧ (∀ a ∈ l, Ok c.toNat a) ∧ tabB (cellOrbO l c).1 (cellOrbO l c).2 0 (rorbTo l c.toNat c.toNat).2 = true := by
 rw [Decidable.not_not, rgrpI_eq] at h
 obtain ⟨h1, _, _, hok, _⟩ := groupI_zero h
 refine ⟨h1, hok, ?_⟩
 rw [cellOrbO_eq h]
 exact tabB_ok _
set_option maxRecDepth 8000 in
theorem table_fn (a : List (List Int)) (e bad : Int) (want : List (List Int)) (v u : Value) (h : H) (hx : RdT h v a) (hy : bad = 0 → RdT h u want) : FnV Tryz.prog 23 #[v, .int .i64 e, .int .i64 bad, u] h (.bool (tabB a e bad want)) := by
 refine fn_of (vs := [v, .int .i64 e, .int .i64 bad, u]) func23 rfl ntmps23 (Nat.le_of_ble_eq_true rfl) fun w hw => ?_
 apply wp_seq'
 refine wp_text rfl ?_
 refine rm rfl ?_
 apply run_end
 apply wp_seq'
 apply wp_seq'
 refine wp_text rfl ?_
 refine rm rfl ?_
 refine rs rfl (s_ne rfl rfl rfl) ?_
 apply run_end
 refine wp_if' rfl (fun hc10 => ?_) (fun hc10 => ?_)
 ·skip
  apply wp_seq'
  refine wp_text rfl ?_
  refine rm rfl ?_
  refine rs rfl (s_lenT hx rfl rfl underlying26) ?_
  refine rs rfl (s_eq rfl rfl rfl) ?_
  refine rm rfl ?_
  refine run_cases (t := 14) rfl (fun hg14 => ?_) (fun hg14 => ?_)
  ·skip
   refine rsg rfl rfl (s_move rfl rfl) ?_
   refine rsg rfl rfl (s_move rfl rfl) ?_
   refine rsg rfl rfl (s_eq rfl rfl rfl) ?_
   refine rs rfl (s_pick rfl rfl (fun _ => rfl) (fun h => by cases h)) ?_
   refine rm rfl ?_
   apply run_end
   apply wp_ret'
   exact fin_ret (res_tmp rfl rfl) (by simp_all [tabB])
  ·skip
   refine run_skip rfl rfl rfl rfl rfl rfl rfl ?_
   refine run_skip rfl rfl rfl rfl rfl rfl rfl ?_
   refine run_skip rfl rfl rfl rfl rfl rfl rfl ?_
   refine rs rfl (s_pick rfl rfl (fun h => by cases h) (fun _ => rfl)) ?_
   refine rm rfl ?_
   apply run_end
   apply wp_ret'
   exact fin_ret (res_tmp rfl rfl) (by simp_all [tabB])
 ·skip
  have hy := hy (Decidable.not_not.1 hc10)
  have hb := Decidable.not_not.1 hc10
  apply wp_skip'
  apply wp_seq'
  refine wp_text rfl ?_
  refine rm rfl ?_
  refine rs rfl (s_eq rfl rfl rfl) ?_
  refine rm rfl ?_
  refine run_cases (t := 21) rfl (fun hg21 => ?_) (fun hg21 => ?_)
  ·skip
   refine rsg rfl rfl (s_move rfl rfl) ?_
   refine rsg rfl rfl (s_move rfl rfl) ?_
   refine run_callvg (vs := [_, _]) rfl rfl rfl rfl rfl rfl rfl rfl en81 (sameT_fn _ _ _ _ _ hx hy) ?_
   refine rs rfl (s_pick rfl rfl (fun _ => rfl) (fun h => by cases h)) ?_
   refine rm rfl ?_
   apply run_end
   apply wp_ret'
   exact fin_ret (res_tmp rfl rfl) (by simp_all [tabB])
  ·skip
   refine run_skip rfl rfl rfl rfl rfl rfl rfl ?_
   refine run_skip rfl rfl rfl rfl rfl rfl rfl ?_
   refine run_skip rfl rfl rfl rfl rfl rfl rfl ?_
   refine rs rfl (s_pick rfl rfl (fun h => by cases h) (fun _ => rfl)) ?_
   refine rm rfl ?_
   apply run_end
   apply wp_ret'
   exact fin_ret (res_tmp rfl rfl) (by simp_all [tabB])
set_option maxRecDepth 8000 in
theorem symmetries_fn (a : List Sy) (e bad : Int) (want : List Sy) (v u : Value) (h : H) (hx : RdS h v a) (hy : bad = 0 → RdS h u want) : FnV Tryz.prog 28 #[v, .int .i64 e, .int .i64 bad, u] h (.bool (symsB a e bad want)) := by
 refine fn_of (vs := [v, .int .i64 e, .int .i64 bad, u]) func28 rfl ntmps28 (Nat.le_of_ble_eq_true rfl) fun w hw => ?_
 apply wp_seq'
 refine wp_text rfl ?_
 refine rm rfl ?_
 apply run_end
 apply wp_seq'
 apply wp_seq'
 refine wp_text rfl ?_
 refine rm rfl ?_
 refine rs rfl (s_ne rfl rfl rfl) ?_
 apply run_end
 refine wp_if' rfl (fun hc10 => ?_) (fun hc10 => ?_)
 ·skip
  apply wp_seq'
  refine wp_text rfl ?_
  refine rm rfl ?_
  refine rs rfl (s_lenS hx rfl rfl underlying22) ?_
  refine rs rfl (s_eq rfl rfl rfl) ?_
  refine rm rfl ?_
  refine run_cases (t := 14) rfl (fun hg14 => ?_) (fun hg14 => ?_)
  ·skip
   refine rsg rfl rfl (s_move rfl rfl) ?_
   refine rsg rfl rfl (s_move rfl rfl) ?_
   refine rsg rfl rfl (s_eq rfl rfl rfl) ?_
   refine rs rfl (s_pick rfl rfl (fun _ => rfl) (fun h => by cases h)) ?_
   refine rm rfl ?_
   apply run_end
   apply wp_ret'
   exact fin_ret (res_tmp rfl rfl) (by simp_all [symsB])
  ·skip
   refine run_skip rfl rfl rfl rfl rfl rfl rfl ?_
   refine run_skip rfl rfl rfl rfl rfl rfl rfl ?_
   refine run_skip rfl rfl rfl rfl rfl rfl rfl ?_
   refine rs rfl (s_pick rfl rfl (fun h => by cases h) (fun _ => rfl)) ?_
   refine rm rfl ?_
   apply run_end
   apply wp_ret'
   exact fin_ret (res_tmp rfl rfl) (by simp_all [symsB])
 ·skip
  have hy := hy (Decidable.not_not.1 hc10)
  have hb := Decidable.not_not.1 hc10
  apply wp_skip'
  apply wp_seq'
  refine wp_text rfl ?_
  refine rm rfl ?_
  refine rs rfl (s_eq rfl rfl rfl) ?_
  refine rm rfl ?_
  refine run_cases (t := 21) rfl (fun hg21 => ?_) (fun hg21 => ?_)
  ·skip
   refine rsg rfl rfl (s_move rfl rfl) ?_
   refine rsg rfl rfl (s_move rfl rfl) ?_
   refine run_callvg (vs := [_, _]) rfl rfl rfl rfl rfl rfl rfl rfl en69 (sameL_fn _ _ _ _ _ hx hy) ?_
   refine rs rfl (s_pick rfl rfl (fun _ => rfl) (fun h => by cases h)) ?_
   refine rm rfl ?_
   apply run_end
   apply wp_ret'
   exact fin_ret (res_tmp rfl rfl) (by simp_all [symsB])
  ·skip
   refine run_skip rfl rfl rfl rfl rfl rfl rfl ?_
   refine run_skip rfl rfl rfl rfl rfl rfl rfl ?_
   refine run_skip rfl rfl rfl rfl rfl rfl rfl ?_
   refine rs rfl (s_pick rfl rfl (fun h => by cases h) (fun _ => rfl)) ?_
   refine rm rfl ?_
   apply run_end
   apply wp_ret'
   exact fin_ret (res_tmp rfl rfl) (by simp_all [symsB])
set_option maxRecDepth 8000 in
set_option maxHeartbeats 4000000 in
theorem law_checks (l : List Sy) (c : Int) (v : Value) (h : H) (hl : RdS0 h v l) : FnV Tryz.prog 3 #[v, .int .i64 c] h (.bool true) := by
 refine fn_of (vs := [v, .int .i64 c]) func3 rfl ntmps3 (Nat.le_of_ble_eq_true rfl) fun w hw => ?_
 apply wp_seq'
 refine wp_text rfl ?_
 refine rm rfl ?_
 apply run_end
 apply wp_seq'
 apply wp_seq'
 refine wp_text rfl ?_
 refine run_callv (vs := []) rfl rfl rfl rfl rfl rfl en18 (awake_fn _) ?_
 refine rs rfl (s_not rfl rfl) ?_
 refine rm rfl ?_
 refine rsg rfl rfl (s_move rfl rfl) ?_
 refine run_callvg (vs := [_, _]) rfl rfl rfl rfl rfl rfl rfl rfl en19 (heavy_fn _ _ _ _ hl) ?_
 refine rs rfl (s_pick rfl rfl (fun h => by cases h) (fun _ => rfl)) ?_
 apply run_end
 refine wp_cond' rfl (fun hc13 => ?_) (fun hc13 => ?_)
 ·skip
  apply wp_seq'
  refine wp_text rfl ?_
  refine run_callv (vs := []) rfl rfl rfl rfl rfl rfl en18 (awake_fn _) ?_
  refine rm rfl ?_
  apply run_end
  apply wp_ret'
  exact fin_ret (res_tmp rfl rfl) (rfl)
 ·skip
  have hl2 := heavyB_false hc13
  have hl := hl.toS (by omega) (fun a ha => by have := hl2.2 a ha; omega)
  apply wp_skip'
  apply wp_seq'
  refine wp_text rfl ?_
  refine rm rfl ?_
  refine rm rfl ?_
  refine run_callv (vs := [_, _]) rfl rfl rfl rfl rfl rfl en20 (rgroup_fn _ _ _ _ (RdS.to0 hl)) ?_
  refine rm rfl ?_
  apply run_end
  apply wp_seq'
  refine wp_text rfl ?_
  refine rm rfl ?_
  refine rm rfl ?_
  refine run_call (vs := [_, _]) rfl rfl rfl rfl rfl rfl en21 (cellOrbits_fn l c _ _ hl) ?_
  intro v21 h21 hv21 hh21
  have hl := hl.mono hh21
  obtain ⟨sv21, rfl, hsv21⟩ := hv21
  refine rm rfl ?_
  refine rs rfl (s_extract rfl rfl rfl) ?_
  refine rs rfl (s_extract rfl rfl rfl) ?_
  refine rm rfl ?_
  refine rm rfl ?_
  apply run_end
  apply wp_seq'
  apply wp_seq'
  refine wp_text rfl ?_
  refine rm rfl ?_
  refine rm rfl ?_
  refine run_callv (vs := [_, _]) rfl rfl rfl rfl rfl rfl en22 (checkGroup_fn _ _ _ _ hl) ?_
  refine rm rfl ?_
  refine rs rfl (s_ne rfl rfl rfl) ?_
  apply run_end
  refine wp_if' rfl (fun hc28 => ?_) (fun hc28 => ?_)
  ·skip
   apply wp_seq'
   refine wp_text rfl ?_
   refine rm rfl ?_
   apply run_end
   apply wp_ret'
   exact fin_ret (res_tmp rfl rfl) (by exact absurd (rgrpI_eq l c).symm hc28)
  ·skip
   apply wp_skip'
   apply wp_seq'
   apply wp_seq'
   refine wp_text rfl ?_
   refine rm rfl ?_
   refine rs rfl (s_ne rfl rfl rfl) ?_
   apply run_end
   refine wp_if' rfl (fun hc30 => ?_) (fun hc30 => ?_)
   ·skip
    apply wp_seq'
    refine wp_text rfl ?_
    refine rm rfl ?_
    refine rm rfl ?_
    refine rm rfl ?_
    refine run_callv (vs := [_, _, _, _]) rfl rfl rfl rfl rfl rfl en23 (table_fn _ _ _ [] _ _ _ hsv21 (fun _ => RdT.nil _ 0)) ?_
    refine rm rfl ?_
    apply run_end
    apply wp_ret'
    exact fin_ret (res_tmp rfl rfl) (by rw [checks_bad hc30])
   ·skip
    obtain ⟨hcr, hok, hO⟩ := checks_good hc30
    have hcn : ((c.toNat : Nat) : Int) = c := Int.toNat_of_nonneg hcr.1
    apply wp_skip'
    apply wp_seq'
    refine wp_text rfl ?_
    refine rm rfl ?_
    refine rm rfl ?_
    refine rm rfl ?_
    refine rm rfl ?_
    refine run_call (vs := [_, _]) rfl rfl rfl rfl rfl rfl en24 (by have := rorb_fn l c.toNat _ _ hl hok (by omega); rw [hcn] at this; exact this) ?_
    intro v39 h39 hv39 hh39
    have hl := hl.mono hh39
    have hsv21 := hsv21.mono hh39
    refine run_callv (vs := [_, _, _, _]) rfl rfl rfl rfl rfl rfl en23 (table_fn _ _ _ _ _ _ _ hsv21 (fun _ => hv39)) ?_
    refine rm rfl ?_
    apply run_end
    apply wp_ret'
    exact fin_ret (res_tmp rfl rfl) (by rw [hO])
end Go.Tal
