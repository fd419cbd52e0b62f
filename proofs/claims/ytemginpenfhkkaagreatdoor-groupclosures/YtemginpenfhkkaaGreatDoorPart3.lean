/-
  Part 3: symbolic states for walks, contracts of functions, plain laws; no condition.
-/
import Derived.Test.YtemginpenfhkkaaGreatDoorPart2
import Derived.Shelf.Strconv.Itoa3
import Derived.Shelf.Strconv.Itoa0
import Derived.Shelf.Bits.Mul64
import Derived.Shelf.Spec.BitsCarry
import Derived.Shelf.Strings.Repeat
import Derived.Shelf.Strings.Builder1
import Derived.Shelf.Strings.Prefix
import Derived.Shelf.Small.Bits
import Derived.Test.YtemginpenfhkkaaGreatDoorProg
import Derived.Laws.Small
import Derived.Laws.Cover3
namespace Go.Tal
open Go.RowKit Go.Proofs Go.Proofs.Tryz _root_.Tal
theorem and1_ {k : Nat} (hk : k < 8) : ∀ w, (binOp .and 3 (.int .i64 k) (.int .i64 1)).run Tryz.prog w = .ok (.int .i64 (if k % 2 = 1 then 1 else 0)) w := by
 match k, hk with
 | 0, _ | 1, _ | 2, _ | 3, _ | 4, _ | 5, _ | 6, _ | 7, _ => exact fun _ => by kernel_rfl
theorem and2_ {k : Nat} (hk : k < 8) : ∀ w, (binOp .and 3 (.int .i64 k) (.int .i64 2)).run Tryz.prog w = .ok (.int .i64 (if k / 2 % 2 = 1 then 2 else 0)) w := by
 match k, hk with
 | 0, _ | 1, _ | 2, _ | 3, _ | 4, _ | 5, _ | 6, _ | 7, _ => exact fun _ => by kernel_rfl
theorem and4_ {k : Nat} (hk : k < 8) : ∀ w, (binOp .and 3 (.int .i64 k) (.int .i64 4)).run Tryz.prog w = .ok (.int .i64 (if k / 4 % 2 = 1 then 4 else 0)) w := by
 match k, hk with
 | 0, _ | 1, _ | 2, _ | 3, _ | 4, _ | 5, _ | 6, _ | 7, _ => exact fun _ => by kernel_rfl
def flipI (b : Bool) (n i : Int) : Int := if b then n - 1 - i else i
def dihMv (n k : Nat) (i j : Int) : Int × Int :=
 if k / 4 % 2 = 1 then (flipI (decide (k / 2 % 2 = 1)) n j, flipI (decide (k % 2 = 1)) n i) else (flipI (decide (k % 2 = 1)) n i, flipI (decide (k / 2 % 2 = 1)) n j)
theorem flip_rng {b : Bool} {n i : Nat} (hi : i < n) : 0 ≤ flipI b n i ∧ flipI b n i < n := by
 cases b <;> simp [flipI] <;> omega
theorem dih_rng {n k i j : Nat} (hi : i < n) (hj : j < n) : (0 ≤ (dihMv n k i j).1 ∧ (dihMv n k i j).1 < n) ∧ 0 ≤ (dihMv n k i j).2 ∧ (dihMv n k i j).2 < n := by
 unfold dihMv
 split
 ·exact ⟨flip_rng hj, flip_rng hi⟩
 ·exact ⟨flip_rng hi, flip_rng hj⟩
set_option maxRecDepth 8000 in
set_option maxHeartbeats 4000000 in
theorem dihMv_fn (n k i j bk bn : Nat) (h : H) (hn : n ≤ 16) (hk : k < 8) (hi : i < n) (hj : j < n) : FnM Tryz.prog 147 #[.int .i64 i, .int .i64 j, .pointer (some ⟨bk, 0, none⟩), .pointer (some ⟨bn, 0, none⟩)] h [.obj bk (.cells #[.int .i64 k] 3 (0, 0)), .obj bn (.cells #[.int .i64 n] 3 (0, 0))] fun v _ L' => v = .tuple #[.int .i64 (dihMv n k i j).1, .int .i64 (dihMv n k i j).2] ∧ L' = [.obj bk (.cells #[.int .i64 k] 3 (0, 0)), .obj bn (.cells #[.int .i64 n] 3 (0, 0))] := by
 refine fnM_of (vs := [.int .i64 i, .int .i64 j, .pointer (some ⟨bk, 0, none⟩), .pointer (some ⟨bn, 0, none⟩)]) func147 rfl ntmps147 (Nat.le_of_ble_eq_true rfl) fun w hw => ?_
 repeat apply wp_seq'
 refine wp_text rfl ?_
 refine rm rfl ?_
 refine rm rfl ?_
 apply run_end
 repeat apply wp_seq'
 refine wp_text rfl ?_
 refine rs rfl (s_ld rfl rfl isAgg3 (.o_ rfl)) ?_
 refine rs rfl (s_and rfl rfl rfl (and1_ hk)) ?_
 refine rs rfl (s_ne rfl rfl rfl) ?_
 apply run_end
 repeat apply wp_seq'
 refine wp_if' rfl (fun h1 => ?_) (fun h1 => ?_)
 ·skip
  repeat apply wp_seq'
  refine wp_text rfl ?_
  refine rs rfl (s_ld rfl rfl isAgg3 (.o_ rfl)) ?_
  refine rs rfl (s_sub rfl rfl rfl (IntWalk.i64_in _ (by omega))) ?_
  refine rm rfl ?_
  refine rs rfl (s_sub rfl rfl rfl (IntWalk.i64_in _ (by omega))) ?_
  refine rm rfl ?_
  apply run_end
  repeat apply wp_seq'
  refine wp_text rfl ?_
  refine rs rfl (s_ld rfl rfl isAgg3 (.o_ rfl)) ?_
  refine rs rfl (s_and rfl rfl rfl (and2_ hk)) ?_
  refine rs rfl (s_ne rfl rfl rfl) ?_
  apply run_end
  repeat apply wp_seq'
  refine wp_if' rfl (fun h2 => ?_) (fun h2 => ?_)
  ·skip
   repeat apply wp_seq'
   refine wp_text rfl ?_
   refine rs rfl (s_ld rfl rfl isAgg3 (.o_ rfl)) ?_
   refine rs rfl (s_sub rfl rfl rfl (IntWalk.i64_in _ (by omega))) ?_
   refine rm rfl ?_
   refine rs rfl (s_sub rfl rfl rfl (IntWalk.i64_in _ (by omega))) ?_
   refine rm rfl ?_
   apply run_end
   repeat apply wp_seq'
   refine wp_text rfl ?_
   refine rs rfl (s_ld rfl rfl isAgg3 (.o_ rfl)) ?_
   refine rs rfl (s_and rfl rfl rfl (and4_ hk)) ?_
   refine rs rfl (s_ne rfl rfl rfl) ?_
   apply run_end
   repeat apply wp_seq'
   refine wp_if' rfl (fun h4 => ?_) (fun h4 => ?_)
   ·skip
    repeat apply wp_seq'
    refine wp_text rfl ?_
    refine rm rfl ?_
    refine rm rfl ?_
    refine rm rfl ?_
    refine rm rfl ?_
    apply run_end
    apply wp_ret'
    refine finM_ret [.obj bk (.cells #[.int .i64 k] 3 (0, 0)), .obj bn (.cells #[.int .i64 n] 3 (0, 0))] (res_tt rfl rfl rfl) ⟨_, .refl _, .refl _⟩ ⟨?_, rfl⟩
    simp_all [dihMv, flipI]
   ·skip
    apply wp_skip'
    repeat apply wp_seq'
    refine wp_text rfl ?_
    refine rm rfl ?_
    refine rm rfl ?_
    refine rm rfl ?_
    refine rm rfl ?_
    apply run_end
    apply wp_ret'
    refine finM_ret [.obj bk (.cells #[.int .i64 k] 3 (0, 0)), .obj bn (.cells #[.int .i64 n] 3 (0, 0))] (res_tt rfl rfl rfl) ⟨_, .refl _, .refl _⟩ ⟨?_, rfl⟩
    simp_all [dihMv, flipI]
  ·skip
   apply wp_skip'
   repeat apply wp_seq'
   refine wp_text rfl ?_
   refine rs rfl (s_ld rfl rfl isAgg3 (.o_ rfl)) ?_
   refine rs rfl (s_and rfl rfl rfl (and4_ hk)) ?_
   refine rs rfl (s_ne rfl rfl rfl) ?_
   apply run_end
   repeat apply wp_seq'
   refine wp_if' rfl (fun h4 => ?_) (fun h4 => ?_)
   ·skip
    repeat apply wp_seq'
    refine wp_text rfl ?_
    refine rm rfl ?_
    refine rm rfl ?_
    refine rm rfl ?_
    refine rm rfl ?_
    apply run_end
    apply wp_ret'
    refine finM_ret [.obj bk (.cells #[.int .i64 k] 3 (0, 0)), .obj bn (.cells #[.int .i64 n] 3 (0, 0))] (res_tt rfl rfl rfl) ⟨_, .refl _, .refl _⟩ ⟨?_, rfl⟩
    simp_all [dihMv, flipI]
   ·skip
    apply wp_skip'
    repeat apply wp_seq'
    refine wp_text rfl ?_
    refine rm rfl ?_
    refine rm rfl ?_
    refine rm rfl ?_
    refine rm rfl ?_
    apply run_end
    apply wp_ret'
    refine finM_ret [.obj bk (.cells #[.int .i64 k] 3 (0, 0)), .obj bn (.cells #[.int .i64 n] 3 (0, 0))] (res_tt rfl rfl rfl) ⟨_, .refl _, .refl _⟩ ⟨?_, rfl⟩
    simp_all [dihMv, flipI]
 ·skip
  apply wp_skip'
  repeat apply wp_seq'
  refine wp_text rfl ?_
  refine rs rfl (s_ld rfl rfl isAgg3 (.o_ rfl)) ?_
  refine rs rfl (s_and rfl rfl rfl (and2_ hk)) ?_
  refine rs rfl (s_ne rfl rfl rfl) ?_
  apply run_end
  repeat apply wp_seq'
  refine wp_if' rfl (fun h2 => ?_) (fun h2 => ?_)
  ·skip
   repeat apply wp_seq'
   refine wp_text rfl ?_
   refine rs rfl (s_ld rfl rfl isAgg3 (.o_ rfl)) ?_
   refine rs rfl (s_sub rfl rfl rfl (IntWalk.i64_in _ (by omega))) ?_
   refine rm rfl ?_
   refine rs rfl (s_sub rfl rfl rfl (IntWalk.i64_in _ (by omega))) ?_
   refine rm rfl ?_
   apply run_end
   repeat apply wp_seq'
   refine wp_text rfl ?_
   refine rs rfl (s_ld rfl rfl isAgg3 (.o_ rfl)) ?_
   refine rs rfl (s_and rfl rfl rfl (and4_ hk)) ?_
   refine rs rfl (s_ne rfl rfl rfl) ?_
   apply run_end
   repeat apply wp_seq'
   refine wp_if' rfl (fun h4 => ?_) (fun h4 => ?_)
   ·skip
    repeat apply wp_seq'
    refine wp_text rfl ?_
    refine rm rfl ?_
    refine rm rfl ?_
    refine rm rfl ?_
    refine rm rfl ?_
    apply run_end
    apply wp_ret'
    refine finM_ret [.obj bk (.cells #[.int .i64 k] 3 (0, 0)), .obj bn (.cells #[.int .i64 n] 3 (0, 0))] (res_tt rfl rfl rfl) ⟨_, .refl _, .refl _⟩ ⟨?_, rfl⟩
    simp_all [dihMv, flipI]
   ·skip
    apply wp_skip'
    repeat apply wp_seq'
    refine wp_text rfl ?_
    refine rm rfl ?_
    refine rm rfl ?_
    refine rm rfl ?_
    refine rm rfl ?_
    apply run_end
    apply wp_ret'
    refine finM_ret [.obj bk (.cells #[.int .i64 k] 3 (0, 0)), .obj bn (.cells #[.int .i64 n] 3 (0, 0))] (res_tt rfl rfl rfl) ⟨_, .refl _, .refl _⟩ ⟨?_, rfl⟩
    simp_all [dihMv, flipI]
  ·skip
   apply wp_skip'
   repeat apply wp_seq'
   refine wp_text rfl ?_
   refine rs rfl (s_ld rfl rfl isAgg3 (.o_ rfl)) ?_
   refine rs rfl (s_and rfl rfl rfl (and4_ hk)) ?_
   refine rs rfl (s_ne rfl rfl rfl) ?_
   apply run_end
   repeat apply wp_seq'
   refine wp_if' rfl (fun h4 => ?_) (fun h4 => ?_)
   ·skip
    repeat apply wp_seq'
    refine wp_text rfl ?_
    refine rm rfl ?_
    refine rm rfl ?_
    refine rm rfl ?_
    refine rm rfl ?_
    apply run_end
    apply wp_ret'
    refine finM_ret [.obj bk (.cells #[.int .i64 k] 3 (0, 0)), .obj bn (.cells #[.int .i64 n] 3 (0, 0))] (res_tt rfl rfl rfl) ⟨_, .refl _, .refl _⟩ ⟨?_, rfl⟩
    simp_all [dihMv, flipI]
   ·skip
    apply wp_skip'
    repeat apply wp_seq'
    refine wp_text rfl ?_
    refine rm rfl ?_
    refine rm rfl ?_
    refine rm rfl ?_
    refine rm rfl ?_
    apply run_end
    apply wp_ret'
    refine finM_ret [.obj bk (.cells #[.int .i64 k] 3 (0, 0)), .obj bn (.cells #[.int .i64 n] 3 (0, 0))] (res_tt rfl rfl rfl) ⟨_, .refl _, .refl _⟩ ⟨?_, rfl⟩
    simp_all [dihMv, flipI]
def putAll (n : Nat) (ms : List (Int → Int → Int × Int)) (g : List Sy) : List Sy := ms.foldl (fun g mv => putL g (moveS n mv)) g
def dihTo (n k : Nat) : List Sy := putAll n ((List.range k).map (dihMv n)) []
theorem dihTo_succ (n k : Nat) : dihTo n (k + 1) = putL (dihTo n k) (moveS n (dihMv n k)) := by simp [dihTo, putAll, List.range_succ]
theorem putL_len (g : List Sy) (a : Sy) : (putL g a).length ≤ g.length + 1 := by unfold putL; split <;> simp
def dihO (n : Int) : List Sy × Int := if ordI n ≠ 0 then ([], ordI n) else (sorted symLt (dihTo n.toNat 8), 0)
set_option maxRecDepth 8000 in
set_option maxHeartbeats 4000000 in
theorem dihedral_fn (n : Int) (h : H) : Fn Tryz.prog 66 #[.int .i64 n] h fun r h' => ∃ sv, r = .tuple #[sv, .int .i64 (dihO n).2] ∧ RdS h' sv (dihO n).1 := by
 refine fn_of (vs := [.int .i64 n]) func66 rfl ntmps66 (Nat.le_of_ble_eq_true rfl) fun w hw => ?_
 repeat apply wp_seq'
 refine wp_text rfl ?_
 refine run_box rfl rfl rfl rfl rfl rfl rfl fun b1 => ?_
 refine rm rfl ?_
 refine rm rfl ?_
 apply run_end
 repeat apply wp_seq'
 refine wp_text rfl ?_
 refine rs rfl (s_ld rfl rfl isAgg3 (.o_ rfl)) ?_
 refine run_callv (vs := [_]) rfl rfl rfl rfl rfl rfl en145 (checkOrder_fn _ _) ?_
 refine rm rfl ?_
 apply run_end
 repeat apply wp_seq'
 refine wp_text rfl ?_
 refine rm rfl ?_
 refine rs rfl (s_ne rfl rfl rfl) ?_
 apply run_end
 repeat apply wp_seq'
 refine wp_if' rfl (fun hc10 => ?_) (fun hc10 => ?_)
 ·skip
  repeat apply wp_seq'
  refine wp_text rfl ?_
  refine rm rfl ?_
  refine rm rfl ?_
  refine rm rfl ?_
  apply run_end
  apply wp_ret'
  refine fin_ret (res_tt rfl rfl rfl) ?_
  rw [dihO, if_pos hc10]
  exact ⟨_, rfl, RdS.nil _ 0⟩
 ·skip
  apply wp_skip'
  have ho := ordI_zero (Decidable.not_not.1 hc10)
  obtain ⟨N, rfl⟩ := Int.eq_ofNat_of_zero_le (show 0 ≤ n by omega)
  have hO : dihO N = (sorted symLt (dihTo N 8), 0) := by rw [dihO, if_neg hc10, Int.toNat_natCast]
  repeat apply wp_seq'
  refine wp_text rfl ?_
  refine run_mkmapO rfl rfl rfl rfl rfl fun m => ?_
  refine rm rfl ?_
  apply run_end
  repeat apply wp_seq'
  refine wp_text rfl ?_
  refine rm rfl ?_
  apply run_end
  repeat apply wp_seq'
  apply wp_block'
  refine wp_loop' (ι := H × Nat × List (Value × Sy)) (fun x => x.2.1 ≤ 8 ∧ SetOk x.1 x.2.2 ∧ (∀ p ∈ x.2.2, Kk (N * N) p.2) ∧ x.2.2.map (·.2) = dihTo N x.2.1 ∧ (x.2.2.map (·.2)).Nodup ∧ x.2.2.length ≤ x.2.1) (fun x => ⟨[(13, .int .i64 x.2.1), (5, .map (some m)), (1, .pointer (some ⟨b1, 0, none⟩))], x.1, [.obj m (mapO (symKV x.2.2)), .obj b1 (.cells #[.int .i64 N] 3 (0, 0))]⟩) (fun x => 8 - x.2.1) (h, 0, []) ⟨Nat.zero_le _, (fun p hp => by cases hp), (fun p hp => by cases hp), rfl, List.nodup_nil, Nat.le_refl _⟩ ⟨by repeat (first|exact True.intro|refine And.intro rfl ?_), rfl, by repeat (first|exact NS _|exact SR _|apply SCC|apply SC)⟩ fun x hx => ?_
  obtain ⟨h1, k, kvs⟩ := x
  obtain ⟨hk, hks, hko, hto, hnd, hkl⟩ := hx
  dsimp only at hk hks hko hto hnd hkl ⊢
  repeat apply wp_seq'
  refine wp_text rfl ?_
  refine rs rfl (s_lt rfl rfl rfl) ?_
  apply run_end
  repeat apply wp_seq'
  refine wp_if' rfl (fun hc14 => ?_) (fun hc14 => ?_)
  ·skip
   apply wp_skip'
   repeat apply wp_seq'
   apply wp_block'
   repeat apply wp_seq'
   refine wp_text rfl ?_
   refine rm rfl ?_
   refine run_alloc rfl rfl rfl rfl rfl zeroValue3 rfl fun b6 => ?_
   refine run_st rfl rfl rfl rfl rfl rfl rfl rfl sizeOf3 (by repeat first|exact Swap.here|apply Swap.there) rfl ?_
   apply run_end
   have hk8 : k < 8 := by omega
   repeat apply wp_seq'
   refine wp_text rfl ?_
   refine rm rfl ?_
   refine rs rfl (s_ld rfl rfl isAgg3 (.o_ rfl)) ?_
   refine rs rfl (s_mkf (vs := [.pointer (some ⟨b6, 0, none⟩), .pointer (some ⟨b1, 0, none⟩)]) rfl rfl) ?_
   refine run_callM (L := [_, _, _]) (M := []) (vs := [_, _, _]) rfl rfl rfl (dst_lt rfl rfl) rfl rfl en146 ((List.Perm.swap _ _ _).trans (List.Perm.refl _)) (add_fn N kvs m 147 _ (dihMv N k) [.obj b6 (.cells #[.int .i64 k] 3 (0, 0)), .obj b1 (.cells #[.int .i64 N] 3 (0, 0))] _ hks hko (by omega) (by omega) (fun i j hi hj => dih_rng hi hj) en147 (fun h' _ i j hi hj => dihMv_fn N k i j b6 b1 h' (by omega) hk8 hi hj)) ?_
   rintro r19 h2 _ ⟨kvs2, rfl, hks2, hko2, hmap⟩ hh2
   apply run_end
   refine wp_text rfl ?_
   refine rs rfl (s_add rfl rfl rfl (IntWalk.i64_in _ (by omega))) ?_
   refine rm rfl ?_
   apply run_end
   have hl2 : kvs2.length ≤ k + 1 := by have := congrArg List.length hmap; rw [List.length_map] at this; have := putL_len (kvs.map (·.2)) (moveS N (dihMv N k)); rw [List.length_map] at this; omega
   exact ⟨(h2, k + 1, kvs2), ⟨by dsimp only; omega, hks2, hko2, by dsimp only; rw [dihTo_succ, hmap, hto], by dsimp only; rw [hmap]; exact nodup_putL hnd, hl2⟩, by dsimp only; omega, ⟨by repeat (first|exact True.intro|refine And.intro rfl ?_), rfl, by repeat (first|exact NS _|exact SR _|apply SCC|apply SC)⟩⟩
  ·skip
   apply wp_exit'
   obtain rfl : k = 8 := by omega
   refine WP.letObj (b := m) rfl (by repeat first|exact Pick.here|apply Pick.there) fun h5 hh5 hm5 => ?_
   repeat apply wp_seq'
   refine wp_text rfl ?_
   refine rm rfl ?_
   refine run_call (vs := [_]) rfl rfl rfl rfl rfl rfl en99 (glist_fn kvs m _ hm5 (hks.mono hh5) (by omega) hnd) ?_
   intro v22 h6 hv22 hh6
   refine rm rfl ?_
   refine rm rfl ?_
   apply run_end
   apply wp_ret'
   refine fin_ret (res_tt rfl rfl rfl) ?_
   rw [hO]
   rw [hto] at hv22
   exact ⟨_, rfl, hv22⟩
def shMv (n a b : Nat) (i j : Int) : Int × Int := (Int.tmod (i + a) n, Int.tmod (j + b) n)
theorem sh_cast (n a i : Nat) : Int.tmod ((i : Int) + a) n = (((i + a) % n : Nat) : Int) := rfl
theorem sh_rng {n a b i j : Nat} (hn : 0 < n) : (0 ≤ (shMv n a b i j).1 ∧ (shMv n a b i j).1 < n) ∧ 0 ≤ (shMv n a b i j).2 ∧ (shMv n a b i j).2 < n := by
 simp only [shMv, sh_cast]
 have h1 := Nat.mod_lt (i + a) hn
 have h2 := Nat.mod_lt (j + b) hn
 omega
set_option maxRecDepth 8000 in
theorem shMv_fn (n a b i j ba bn bb : Nat) (h : H) (hn : n ≤ 16) (hn0 : 1 ≤ n) (ha : a < n) (hb : b < n) (hi : i < n) (hj : j < n) : FnM Tryz.prog 148 #[.int .i64 i, .int .i64 j, .pointer (some ⟨ba, 0, none⟩), .pointer (some ⟨bn, 0, none⟩), .pointer (some ⟨bb, 0, none⟩)] h [.obj bb (.cells #[.int .i64 b] 3 (0, 0)), .obj ba (.cells #[.int .i64 a] 3 (0, 0)), .obj bn (.cells #[.int .i64 n] 3 (0, 0))] fun v _ L' => v = .tuple #[.int .i64 (shMv n a b i j).1, .int .i64 (shMv n a b i j).2] ∧ L' = [.obj bb (.cells #[.int .i64 b] 3 (0, 0)), .obj ba (.cells #[.int .i64 a] 3 (0, 0)), .obj bn (.cells #[.int .i64 n] 3 (0, 0))] := by
 refine fnM_of (vs := [.int .i64 i, .int .i64 j, .pointer (some ⟨ba, 0, none⟩), .pointer (some ⟨bn, 0, none⟩), .pointer (some ⟨bb, 0, none⟩)]) func148 rfl ntmps148 (Nat.le_of_ble_eq_true rfl) fun w hw => ?_
 repeat apply wp_seq'
 refine wp_text rfl ?_
 refine rm rfl ?_
 refine rm rfl ?_
 apply run_end
 repeat apply wp_seq'
 refine wp_any [0, 1, 2, 3, 4, 5, 6, 7, 8, 9, 10, 11] rfl (by kernel_rfl) ?_
 refine rm rfl ?_
 refine rs rfl (s_ld rfl rfl isAgg3 (.o_ rfl)) ?_
 refine rs rfl (s_add rfl rfl rfl (IntWalk.i64_in _ (by omega))) ?_
 refine rs rfl (s_ld rfl rfl isAgg3 (.o_ rfl)) ?_
 refine rs rfl (s_rem rfl rfl rfl (by omega) rfl) ?_
 refine rm rfl ?_
 refine rs rfl (s_ld rfl rfl isAgg3 (.o_ rfl)) ?_
 refine rs rfl (s_add rfl rfl rfl (IntWalk.i64_in _ (by omega))) ?_
 refine rs rfl (s_ld rfl rfl isAgg3 (.o_ rfl)) ?_
 refine rs rfl (s_rem rfl rfl rfl (by omega) rfl) ?_
 refine rm rfl ?_
 refine rm rfl ?_
 apply run_end
 apply wp_ret'
 exact finM_ret _ (res_tt rfl rfl rfl) ⟨_, .refl _, .refl _⟩ ⟨rfl, rfl⟩
def shRow (n a : Nat) (b : Nat) (g : List Sy) : List Sy := putAll n ((List.range b).map (shMv n a)) g
theorem shRow_succ (n a b : Nat) (g : List Sy) : shRow n a (b + 1) g = putL (shRow n a b g) (moveS n (shMv n a b)) := by simp [shRow, putAll, List.range_succ]
def shTo (n a : Nat) : List Sy := (List.range a).foldl (fun g a => shRow n a n g) []
theorem shTo_succ (n a : Nat) : shTo n (a + 1) = shRow n a n (shTo n a) := by simp [shTo, List.range_succ]
def shiftO (n : Int) : List Sy × Int := if ordI n ≠ 0 then ([], ordI n) else (sorted symLt (shTo n.toNat n.toNat), 0)
set_option maxRecDepth 8000 in
set_option maxHeartbeats 4000000 in
theorem shifts_fn (n : Int) (h : H) : Fn Tryz.prog 67 #[.int .i64 n] h fun r h' => ∃ sv, r = .tuple #[sv, .int .i64 (shiftO n).2] ∧ RdS h' sv (shiftO n).1 := by
 refine fn_of (vs := [.int .i64 n]) func67 rfl ntmps67 (Nat.le_of_ble_eq_true rfl) fun w hw => ?_
 repeat apply wp_seq'
 refine wp_text rfl ?_
 refine run_box rfl rfl rfl rfl rfl rfl rfl fun b1 => ?_
 refine rm rfl ?_
 refine rm rfl ?_
 apply run_end
 repeat apply wp_seq'
 refine wp_text rfl ?_
 refine rs rfl (s_ld rfl rfl isAgg3 (.o_ rfl)) ?_
 refine run_callv (vs := [_]) rfl rfl rfl rfl rfl rfl en145 (checkOrder_fn _ _) ?_
 refine rm rfl ?_
 apply run_end
 repeat apply wp_seq'
 refine wp_text rfl ?_
 refine rm rfl ?_
 refine rs rfl (s_ne rfl rfl rfl) ?_
 apply run_end
 repeat apply wp_seq'
 refine wp_if' rfl (fun hc11 => ?_) (fun hc11 => ?_)
 ·skip
  repeat apply wp_seq'
  refine wp_text rfl ?_
  refine rm rfl ?_
  refine rm rfl ?_
  refine rm rfl ?_
  apply run_end
  apply wp_ret'
  refine fin_ret (res_tt rfl rfl rfl) ?_
  rw [shiftO, if_pos hc11]
  exact ⟨_, rfl, RdS.nil _ 0⟩
 ·skip
  apply wp_skip'
  have ho := ordI_zero (Decidable.not_not.1 hc11)
  obtain ⟨N, rfl⟩ := Int.eq_ofNat_of_zero_le (show 0 ≤ n by omega)
  have hO : shiftO N = (sorted symLt (shTo N N), 0) := by rw [shiftO, if_neg hc11, Int.toNat_natCast]
  repeat apply wp_seq'
  refine wp_text rfl ?_
  refine run_mkmapO rfl rfl rfl rfl rfl fun m => ?_
  refine rm rfl ?_
  apply run_end
  repeat apply wp_seq'
  refine wp_text rfl ?_
  refine rs rfl (s_ld rfl rfl isAgg3 (.o_ rfl)) ?_
  refine rm rfl ?_
  apply run_end
  repeat apply wp_seq'
  apply wp_block'
  refine wp_loop' (ι := H × Nat × List (Value × Sy)) (fun x => x.2.1 ≤ N ∧ SetOk x.1 x.2.2 ∧ (∀ p ∈ x.2.2, Kk (N * N) p.2) ∧ x.2.2.map (·.2) = shTo N x.2.1 ∧ (x.2.2.map (·.2)).Nodup ∧ x.2.2.length ≤ x.2.1 * 16) (fun x => ⟨[(15, .int .i64 x.2.1), (14, .int .i64 N), (5, .map (some m)), (1, .pointer (some ⟨b1, 0, none⟩))], x.1, [.obj m (mapO (symKV x.2.2)), .obj b1 (.cells #[.int .i64 N] 3 (0, 0))]⟩) (fun x => N - x.2.1) (h, 0, []) ⟨Nat.zero_le _, (fun p hp => by cases hp), (fun p hp => by cases hp), rfl, List.nodup_nil, Nat.le_refl _⟩ ⟨by repeat (first|exact True.intro|refine And.intro rfl ?_), rfl, by repeat (first|exact NS _|exact SR _|apply SCC|apply SC)⟩ fun x hx => ?_
  obtain ⟨h1, k, kvs⟩ := x
  obtain ⟨hk, hks, hko, hto, hnd, hkl⟩ := hx
  dsimp only at hk hks hko hto hnd hkl ⊢
  repeat apply wp_seq'
  refine wp_text rfl ?_
  refine rs rfl (s_lt rfl rfl rfl) ?_
  apply run_end
  repeat apply wp_seq'
  refine wp_if' rfl (fun hc16 => ?_) (fun hc16 => ?_)
  ·skip
   apply wp_skip'
   repeat apply wp_seq'
   apply wp_block'
   repeat apply wp_seq'
   refine wp_text rfl ?_
   refine rm rfl ?_
   refine run_alloc rfl rfl rfl rfl rfl zeroValue3 rfl fun b6 => ?_
   refine run_st rfl rfl rfl rfl rfl rfl rfl rfl sizeOf3 (by repeat first|exact Swap.here|apply Swap.there) rfl ?_
   apply run_end
   repeat apply wp_seq'
   refine wp_text rfl ?_
   refine rs rfl (s_ld rfl rfl isAgg3 (.o_ rfl)) ?_
   refine rm rfl ?_
   apply run_end
   repeat apply wp_seq'
   apply wp_block'
   refine WP.wq (t := ⟨[(19, .int .i64 0), (18, .int .i64 N), (6, .pointer (some ⟨b6, 0, none⟩)), (15, .int .i64 k), (14, .int .i64 N), (5, .map (some m)), (1, .pointer (some ⟨b1, 0, none⟩))], h1, [.obj m (mapO (symKV kvs)), .obj b6 (.cells #[.int .i64 k] 3 (0, 0)), .obj b1 (.cells #[.int .i64 N] 3 (0, 0))]⟩) ⟨by repeat (first|exact True.intro|refine And.intro rfl ?_), rfl, _, List.Perm.swap _ _ _, .refl _⟩ ?_
   refine wp_loop' (ι := H × Nat × List (Value × Sy)) (fun x => x.2.1 ≤ N ∧ SetOk x.1 x.2.2 ∧ (∀ p ∈ x.2.2, Kk (N * N) p.2) ∧ x.2.2.map (·.2) = shRow N k x.2.1 (shTo N k) ∧ (x.2.2.map (·.2)).Nodup ∧ x.2.2.length ≤ k * 16 + x.2.1) (fun x => ⟨[(19, .int .i64 x.2.1), (18, .int .i64 N), (6, .pointer (some ⟨b6, 0, none⟩)), (15, .int .i64 k), (14, .int .i64 N), (5, .map (some m)), (1, .pointer (some ⟨b1, 0, none⟩))], x.1, [.obj m (mapO (symKV x.2.2)), .obj b6 (.cells #[.int .i64 k] 3 (0, 0)), .obj b1 (.cells #[.int .i64 N] 3 (0, 0))]⟩) (fun x => N - x.2.1) (h1, 0, kvs) ⟨Nat.zero_le _, hks, hko, hto, hnd, by dsimp only; omega⟩ ⟨by repeat (first|exact True.intro|refine And.intro rfl ?_), rfl, by repeat (first|exact NS _|exact SR _|apply SCC|apply SC)⟩ fun x hx => ?_
   clear hks hko hto hnd hkl
   obtain ⟨h2, q, kvs⟩ := x
   obtain ⟨hq, hks, hko, hto, hnd, hkl⟩ := hx
   dsimp only at hq hks hko hto hnd hkl ⊢
   repeat apply wp_seq'
   refine wp_text rfl ?_
   refine rs rfl (s_lt rfl rfl rfl) ?_
   apply run_end
   repeat apply wp_seq'
   refine wp_if' rfl (fun hc20 => ?_) (fun hc20 => ?_)
   ·skip
    apply wp_skip'
    repeat apply wp_seq'
    apply wp_block'
    repeat apply wp_seq'
    refine wp_text rfl ?_
    refine rm rfl ?_
    refine run_alloc rfl rfl rfl rfl rfl zeroValue3 rfl fun b7 => ?_
    refine run_st rfl rfl rfl rfl rfl rfl rfl rfl sizeOf3 (by repeat first|exact Swap.here|apply Swap.there) rfl ?_
    apply run_end
    repeat apply wp_seq'
    refine wp_text rfl ?_
    refine rm rfl ?_
    refine rs rfl (s_ld rfl rfl isAgg3 (.o_ rfl)) ?_
    refine rs rfl (s_mkf (vs := [.pointer (some ⟨b6, 0, none⟩), .pointer (some ⟨b1, 0, none⟩), .pointer (some ⟨b7, 0, none⟩)]) rfl rfl) ?_
    refine run_callM (L := [_, _, _, _]) (M := []) (vs := [_, _, _]) rfl rfl rfl (dst_lt rfl rfl) rfl rfl en146 (List.Perm.swap _ _ _) (add_fn N kvs m 148 _ (shMv N k q) [.obj b7 (.cells #[.int .i64 q] 3 (0, 0)), .obj b6 (.cells #[.int .i64 k] 3 (0, 0)), .obj b1 (.cells #[.int .i64 N] 3 (0, 0))] _ hks hko (by omega) (by omega) (fun i j hi hj => sh_rng (by omega)) en148 (fun h' _ i j hi hj => shMv_fn N k q i j b6 b1 b7 h' (by omega) (by omega) (by omega) (by omega) hi hj)) ?_
    rintro r19 h3 _ ⟨kvs2, rfl, hks2, hko2, hmap⟩ hh3
    apply run_end
    refine wp_text rfl ?_
    refine rs rfl (s_add rfl rfl rfl (IntWalk.i64_in _ (by omega))) ?_
    refine rm rfl ?_
    apply run_end
    have hl2 : kvs2.length ≤ kvs.length + 1 := by have := congrArg List.length hmap; rw [List.length_map] at this; have := putL_len (kvs.map (·.2)) (moveS N (shMv N k q)); rw [List.length_map] at this; omega
    refine ⟨(h3, q + 1, kvs2), ⟨by dsimp only; omega, hks2, hko2, by dsimp only; rw [shRow_succ, hmap, hto], by dsimp only; rw [hmap]; exact nodup_putL hnd, by dsimp only; omega⟩, by dsimp only; omega, ⟨by repeat (first|exact True.intro|refine And.intro rfl ?_), rfl, by repeat (first|exact NS _|exact SR _|apply SCC|apply SC)⟩⟩
   ·skip
    apply wp_exit'
    obtain rfl : q = N := by omega
    refine wp_text rfl ?_
    refine rs rfl (s_add rfl rfl rfl (IntWalk.i64_in _ (by omega))) ?_
    refine rm rfl ?_
    apply run_end
    exact ⟨(h2, k + 1, kvs), ⟨by dsimp only; omega, hks, hko, by dsimp only; rw [shTo_succ, hto], hnd, by dsimp only; omega⟩, by dsimp only; omega, ⟨by repeat (first|exact True.intro|refine And.intro rfl ?_), rfl, by repeat (first|exact NS _|exact SR _|apply SCC|apply SC)⟩⟩
  ·skip
   apply wp_exit'
   obtain rfl : k = N := by omega
   refine WP.letObj (b := m) rfl (by repeat first|exact Pick.here|apply Pick.there) fun h5 hh5 hm5 => ?_
   repeat apply wp_seq'
   refine wp_text rfl ?_
   refine rm rfl ?_
   refine run_call (vs := [_]) rfl rfl rfl rfl rfl rfl en99 (glist_fn kvs m _ hm5 (hks.mono hh5) (by omega) hnd) ?_
   intro v29 h6 hv29 hh6
   refine rm rfl ?_
   refine rm rfl ?_
   apply run_end
   apply wp_ret'
   refine fin_ret (res_tt rfl rfl rfl) ?_
   rw [hO]
   rw [hto] at hv29
   exact ⟨_, rfl, hv29⟩
end Go.Tal

/-
 Symbolic states: regions whose orders are told by the order of what is hard, and by the sides of chosen pairs.
-/
namespace Go.Tal
open Go.RowKit
/-- j comes ahead of i. -/
def Bf (p : List Nat) (j i : Nat) : Prop := p.idxOf j < p.idxOf i
def okPairB (ops : Array Oper) (j i : Nat) : Bool := match ops[j]?, ops[i]? with
 | some x, some y => okPair ops x y
 | _, _ => false
theorem idxOf_tl {x j : Nat} {p : List Nat} (h : x ≠ j) : (x :: p).idxOf j = p.idxOf j + 1 := by
 rw [List.idxOf_cons, show (x == j) = false from by simpa using h]
 rfl
theorem Run.linP {ro : Option Nat} {m : Nat} {M : List Own} {C : Ctx} {ops : Array Oper} {K : S → Prop} {Q : Exit → Act → World → Prop} (hK : ∀ s a w, St C M s a w → K s → Q .normal a w) : ∀ (p l : List Nat) {s : S} {a : Act} {w : World}, l.Perm p → p.Nodup → (∀ i ∈ p, i < ops.size) → l.Pairwise (fun j i => okPairB ops j i = true ∨ Bf p j i) → Run true C ops K l s → St C M s a w → wpOpsIn (wr ro) m C.P ops Q p a w
 | [], l, s, a, w, hp, _, _, _, hr, hs => by
  obtain rfl : l = [] := List.perm_nil.1 hp
  obtain ⟨F, he, hk⟩ := hr
  exact hK (⟨F, s.h, s.L⟩ : S) a w (hs.eqF he) hk
 | i :: p, l, s, a, w, hp, hn, hlt, hpw, hr, hs => by
  have hil : i ∈ l := hp.symm.subset List.mem_cons_self
  obtain ⟨x, y, rfl⟩ := List.append_of_mem hil
  have hperm : (x ++ y).Perm p := (List.perm_middle.symm.trans hp).cons_inv
  have hn' := List.nodup_cons.1 hn
  have hmem : ∀ j, j ∈ x ++ y → j ∈ p ∧ j ≠ i := fun j hj => by
   have := hperm.subset hj
   exact ⟨this, fun e => hn'.1 (by rw [← e]; exact this)⟩
  have hil' : i < ops.size := hlt i List.mem_cons_self
  have ho : ops[i]? = some ops[i] := Array.getElem?_eq_getElem hil'
  have hx : ∀ j ∈ x, ∃ o, ops[j]? = some o ∧ okPair ops o ops[i] = true := fun j hj => by
   have h1 := (List.pairwise_append.1 hpw).2.2 j hj i List.mem_cons_self
   rcases h1 with h1 | h1
   ·unfold okPairB at h1
    have hjp := hmem j (List.mem_append_left _ hj)
    have hjl := hlt j (List.mem_cons_of_mem _ hjp.1)
    rw [Array.getElem?_eq_getElem hjl, ho] at h1
    exact ⟨_, Array.getElem?_eq_getElem hjl, h1⟩
   ·unfold Bf at h1
    rw [List.idxOf_cons_self] at h1
    omega
  obtain ⟨o', ho', hn2⟩ := Run.front ho x y hx hr
  rw [ho] at ho'
  cases ho'
  rw [wpOpsIn_cons]
  refine wpOpIn_mono (fun a' w' ⟨s', hs', hr'⟩ => Run.linP hK p (x ++ y) hperm hn'.2 (fun j hj => hlt j (List.mem_cons_of_mem _ hj)) ?_ hr' hs') (hn2.step ho hs)
  have hpw2 : (x ++ y).Pairwise (fun j k => okPairB ops j k = true ∨ Bf (i :: p) j k) := hpw.sublist ((List.Sublist.refl x).append (List.sublist_cons_self i y))
  refine hpw2.imp_of_mem fun {j k} hj hk h => ?_
  rcases h with h | h
  ·exact .inl h
  ·right
   unfold Bf at h ⊢
   rw [idxOf_tl (hmem j hj).2.symm, idxOf_tl (hmem k hk).2.symm] at h
   omega
def vecs : List (Nat × Nat) → List (List ((Nat × Nat) × Bool))
 | [] => [[]]
 | c :: r => (vecs r).flatMap fun v => [(c, true) :: v, (c, false) :: v]
theorem mem_vecs (f : Nat × Nat → Bool) : ∀ cp, cp.map (fun c => (c, f c)) ∈ vecs cp
 | [] => by simp [vecs]
 | c :: r => by
  simp only [List.map_cons, vecs, List.mem_flatMap]
  refine ⟨_, mem_vecs f r, ?_⟩
  cases f c <;> simp
/-- x comes no later than y. -/
def leB (ops : Array Oper) (B : List Nat) (x y : Nat) : Bool := x == y || ((B.getD y 0).testBit x && decide (x < ops.size) && decide (y < ops.size) && decide (x ≠ y))
def pairOk (ops : Array Oper) (B : List Nat) (h : List Nat) (v : List ((Nat × Nat) × Bool)) (j i : Nat) : Bool :=
 okPairB ops j i || (B.getD i 0).testBit j || (hardB ops j && hardB ops i && decide (h.idxOf j < h.idxOf i)) || v.any fun e => (e.1.1 == j && e.1.2 == i && e.2) || (!e.2 && leB ops B j e.1.2 && leB ops B e.1.1 i)
def allPairs (f : Nat → Nat → Bool) : List Nat → Bool
 | [] => true
 | j :: r => r.all (f j) && allPairs f r
theorem allPairs_pw {f : Nat → Nat → Bool} : ∀ {l : List Nat}, allPairs f l = true → l.Pairwise fun j i => f j i = true
 | [], _ => List.Pairwise.nil
 | j :: r, h => by
  simp only [allPairs, Bool.and_eq_true, List.all_eq_true] at h
  exact List.pairwise_cons.2 ⟨h.1, allPairs_pw h.2⟩
def drawsOkP (ops : Array Oper) (cp : List (Nat × Nat)) (ords : List (List Nat)) : Bool :=
 let B := bitsOf ops
 bitsOk ops B && ords.all (fun l => decide (l.length = ops.size) && (List.range ops.size).all fun i => l.contains i) &&
 (perms ((List.range ops.size).filter (hardB ops))).all fun h => !waits B h || (vecs cp).all fun v => ords.any fun l => allPairs (pairOk ops B h v) l
theorem idxOf_filter {q : Nat → Bool} {j i : Nat} (hj : q j = true) (hi : q i = true) : ∀ {p : List Nat}, (p.filter q).idxOf j < (p.filter q).idxOf i → p.idxOf j < p.idxOf i
 | [], h => by simp at h
 | x :: p, h => by
  by_cases hx : q x = true
  ·rw [List.filter_cons_of_pos hx] at h
   simp only [List.idxOf_cons] at h ⊢
   by_cases e1 : x == i
   ·rw [e1] at h; simp at h
   ·by_cases e2 : x == j
    ·simp [e1, e2]
    ·simp only [Bool.not_eq_true] at e1 e2
     rw [e1, e2] at h ⊢
     simp only [cond_false] at h ⊢
     have := idxOf_filter hj hi (p := p) (by omega)
     omega
  ·rw [List.filter_cons_of_neg hx] at h
   have h1 : (x == j) = false := by
    rw [Bool.eq_false_iff]; intro e; rw [beq_iff_eq] at e; subst e; exact hx hj
   have h2 : (x == i) = false := by
    rw [Bool.eq_false_iff]; intro e; rw [beq_iff_eq] at e; subst e; exact hx hi
   simp only [List.idxOf_cons, h1, h2, cond_false]
   have := idxOf_filter hj hi h
   omega
theorem idxOf_inj' {p : List Nat} {j i : Nat} (hj : j ∈ p) (h : p.idxOf j = p.idxOf i) : j = i := by
 have h1 := List.idxOf_lt_length_of_mem hj
 have h2 := List.getElem_idxOf h1
 have h3 : p.idxOf i < p.length := by omega
 have h4 := List.getElem_idxOf h3
 rw [← h2, ← h4]
 congr 1
theorem pw_bf {R : Nat → Nat → Prop} : ∀ {p : List Nat}, p.Pairwise R → ∀ {j i : Nat}, i ∈ p → p.idxOf j < p.idxOf i → R j i
 | [], _, _, _, hi, _ => by cases hi
 | x :: p, h, j, i, hi, hlt => by
  have h' := List.pairwise_cons.1 h
  simp only [List.idxOf_cons] at hlt
  cases e1 : (x == i) with
  | true => rw [e1] at hlt; simp at hlt
  | false =>
   have hip : i ∈ p := by
    rcases List.mem_cons.1 hi with rfl | hi
    ·simp at e1
    ·exact hi
   cases e2 : (x == j) with
   | true => rw [beq_iff_eq] at e2; subst e2; exact h'.1 i hip
   | false =>
    rw [e1, e2] at hlt
    simp only [cond_false] at hlt
    exact pw_bf h'.2 hip (by omega)
theorem wp_anysP {C : Ctx} {id : Nat} {ops : Array Oper} {Q : Exit → S → Prop} {s : S} (cp : List (Nat × Nat)) (ords : List (List Nat)) (hm : C.P.follows .mixedOrders = true) (hc : drawsOkP ops cp ords = true) (hr : ∀ l ∈ ords, Run true C ops (Q .normal) l s) : WP C (.region id ops true) Q s := by
 intro ro m M hG a w hs
 simp only [drawsOkP, Bool.and_eq_true, decide_eq_true_eq, List.all_eq_true] at hc
 obtain ⟨⟨hB, hords⟩, hcov⟩ := hc
 refine wpIn_region_draw fun t => ?_
 simp only [Region.schedule, hm, Bool.true_or, if_true]
 have hall : ∀ i, i < ops.size → (Array.replicate ops.size false).getD i true = false := fun i hi => by simp [Array.getD, hi]
 have R0 : Rest ops (List.range ops.size) (Array.replicate ops.size false) := ⟨by simp, fun i hi => by simp [hall i hi, hi], fun i hi => List.mem_range.1 hi, List.nodup_range, fun k o hk hn => absurd (List.mem_range.2 (Array.getElem?_eq_some_iff.1 hk).1) hn⟩
 obtain ⟨hp1, hp2⟩ := lin_props hB ops.size t (List.range ops.size) _ (by simp) R0
 have hgo : Region.linearise .any ops t = Region.linearise.go .any ops ops.size t (Array.replicate ops.size false) [] := rfl
 generalize Region.linearise.go .any ops ops.size t (Array.replicate ops.size false) [] = p at hp1 hp2 hgo
 have hpf := hp1.filter (hardB ops)
 have hmem := hcov _ (mem_perms hpf.symm)
 rw [waits_of (hp2.filter _)] at hmem
 simp only [Bool.not_true, Bool.false_or, List.all_eq_true, List.any_eq_true] at hmem
 obtain ⟨l, hl, hpo⟩ := hmem _ (mem_vecs (fun c => decide (p.idxOf c.1 < p.idxOf c.2)) cp)
 obtain ⟨hlen, hin⟩ := hords l hl
 have hin' : ∀ i, i < ops.size → i ∈ l := fun i hi => by simpa using hin i (List.mem_range.2 hi)
 have hpn : p.Nodup := hp1.symm.nodup_iff.1 List.nodup_range
 have hrl : (List.range ops.size).Perm l := by
  have hsub := sub_len (xs := List.range ops.size) (ys := l) List.nodup_range fun x hx => hin' x (List.mem_range.1 hx)
  have hlt : ∀ i ∈ l, i < ops.size := by
   intro i hi
   refine Classical.byContradiction fun hn => ?_
   obtain ⟨p, q, rfl⟩ := List.append_of_mem hi
   have := sub_len (xs := List.range ops.size) List.nodup_range (ys := p ++ q) (fun x hx => by
    have h1 := hin' x (List.mem_range.1 hx)
    simp only [List.mem_append, List.mem_cons] at h1 ⊢
    rcases h1 with h1 | rfl | h1
    ·exact .inl h1
    ·exact absurd (List.mem_range.1 hx) hn
    ·exact .inr h1)
   simp at this hlen
   omega
  have hndo : l.Nodup := by
   refine Classical.byContradiction fun hn => ?_
   obtain ⟨x, p, q, r, rfl⟩ := dup_of hn
   have := sub_len (xs := List.range ops.size) List.nodup_range (ys := p ++ q ++ x :: r) (fun y hy => by
    have h1 := hin' y (List.mem_range.1 hy)
    simp only [List.mem_append, List.mem_cons] at h1 ⊢
    rcases h1 with h1 | rfl | h1 | rfl | h1 <;> simp [*])
   simp at this hlen
   omega
  exact (List.perm_ext_iff_of_nodup List.nodup_range hndo).2 fun a => ⟨fun ha => hin' a (List.mem_range.1 ha), fun ha => List.mem_range.2 (hlt a ha)⟩
 have hlp : l.Perm p := hrl.symm.trans hp1.symm
 rw [hgo]
 refine Run.linP (fun s a w h1 h2 => ⟨s, h1, h2⟩) p l hlp hpn (fun i hi => List.mem_range.1 (hp1.mem_iff.1 hi)) ?_ (hr l hl) hs.drew
 have hpw := allPairs_pw hpo
 have hlnd : l.Nodup := hlp.nodup_iff.2 hpn
 refine (hpw.and hlnd).imp_of_mem fun {j i} hj hi ⟨hji, hne⟩ => ?_
 have hjp := hlp.mem_iff.1 hj
 have hip := hlp.mem_iff.1 hi
 simp only [pairOk, Bool.or_eq_true, Bool.and_eq_true, decide_eq_true_eq, List.any_eq_true, List.mem_map] at hji
 rcases hji with ((h1 | h1) | ⟨⟨h1, h2⟩, h3⟩) | ⟨e, ⟨c, hc, rfl⟩, h1⟩
 ·exact .inl h1
 ·right
  unfold Bf
  refine Classical.byContradiction fun hn => ?_
  have hlt : p.idxOf i < p.idxOf j := by
   rcases Nat.lt_trichotomy (p.idxOf j) (p.idxOf i) with h | h | h
   ·exact absurd h hn
   ·exact absurd (idxOf_inj' hjp h) hne
   ·exact h
  have := pw_bf hp2 hjp hlt
  rw [this] at h1
  cases h1
 ·exact .inr (idxOf_filter h1 h2 h3)
 ·right
  unfold Bf
  rcases h1 with ⟨⟨e1, e2⟩, e3⟩ | ⟨⟨e3, e2⟩, e1⟩
  ·rw [beq_iff_eq] at e1 e2
   dsimp only at e1 e2 e3
   subst e1 e2
   simpa using e3
  ·dsimp only at e1 e2 e3
   have h4 : ¬ p.idxOf c.1 < p.idxOf c.2 := by simpa using e3
   have hle : ∀ {x y : Nat}, leB ops (bitsOf ops) x y = true → p.idxOf x ≤ p.idxOf y := fun {x y} h => by
    simp only [leB, Bool.or_eq_true, Bool.and_eq_true, decide_eq_true_eq, beq_iff_eq] at h
    rcases h with rfl | ⟨⟨⟨h1, hx⟩, hy⟩, hxy⟩
    ·exact Nat.le_refl _
    ·have hxp : x ∈ p := hp1.mem_iff.2 (List.mem_range.2 hx)
     refine Classical.byContradiction fun hn => ?_
     have := pw_bf hp2 hxp (show p.idxOf y < p.idxOf x by omega)
     rw [this] at h1
     cases h1
   have h5 := hle e2
   have h6 := hle e1
   rcases Nat.lt_or_ge (p.idxOf j) (p.idxOf i) with h | h
   ·exact h
   ·exact absurd (idxOf_inj' hjp (by omega)) hne
theorem wp_cutP {C : Ctx} {id : Nat} {ops : Array Oper} {Q : Exit → S → Prop} {s : S} {ι : Type} {y : Code} {Q1 : Exit → S → Prop} (T : ι → S) (cp : List (Nat × Nat)) (ords : List (List Nat)) (hQ : ∀ s, Q .normal s = WP C y Q1 s) (hm : C.P.follows .mixedOrders = true) (hc : drawsOkP ops cp ords = true)
 (hr : ∀ l ∈ ords, Run true C ops (fun s => ∃ p, Wq s (T p)) l s) (hk : ∀ p, WP C y Q1 (T p)) : WP C (.region id ops true) Q s := by
 refine wp_anysP cp ords hm hc fun l hl => ?_
 refine Run.imp (fun s' ⟨p, hp⟩ => ?_) l (hr l hl)
 rw [hQ]
 exact fun ro m M hG a w hs => hk p ro m M hG a w (hs.wq hp)
end Go.Tal

namespace Go.Tal
open Go.RowKit Go.Proofs Go.Proofs.Tryz _root_.Tal
def rcMv (q : List Int) (i j : Int) : Int × Int := (q.getD i.toNat 0, q.getD j.toNat 0)
def opp (n x : Nat) : Int := (n : Int) - 1 - x
abbrev RcSt := List Int × List Bool × List Sy
def rcNo (n k x : Nat) (u : List Bool) : Bool := u.getD x false || (decide (2 * (k : Int) = n - 1) != decide (2 * (x : Int) = n - 1))
def rcIn (n k x : Nat) (st : RcSt) : RcSt := ((st.1.set k x).set (opp n k).toNat (opp n x), (st.2.1.set x true).set (opp n x).toNat true, st.2.2)
def rcOut (n x : Nat) (st : RcSt) : RcSt := (st.1, (st.2.1.set x false).set (opp n x).toNat false, st.2.2)
def rcGo (n : Nat) : Nat → Nat → RcSt → RcSt
 | 0, _, st => (st.1, st.2.1, putL st.2.2 (moveS n (rcMv st.1)))
 | f + 1, k, st => (List.range n).foldl (fun st x => if rcNo n k x st.2.1 then st else rcOut n x (rcGo n f (k + 1) (rcIn n k x st))) st
def rcStep (n f k : Nat) (st : RcSt) (x : Nat) : RcSt := if rcNo n k x st.2.1 then st else rcOut n x (rcGo n f (k + 1) (rcIn n k x st))
def rcTo (n f k x : Nat) (st : RcSt) : RcSt := (List.range x).foldl (rcStep n f k) st
theorem rcTo_succ (n f k x : Nat) (st : RcSt) : rcTo n f k (x + 1) st = rcStep n f k (rcTo n f k x st) x := by simp [rcTo, List.range_succ]
theorem rcGo_succ (n f k : Nat) (st : RcSt) : rcGo n (f + 1) k st = rcTo n f k n st := rfl
theorem rcGo_len (n : Nat) : ∀ (f k : Nat) (st : RcSt), (rcGo n f k st).2.2.length ≤ st.2.2.length + n ^ f
 | 0, k, st => by
  have := putL_len st.2.2 (moveS n (rcMv st.1))
  simpa [rcGo] using this
 | f + 1, k, st => by
  rw [rcGo_succ]
  have h : ∀ x, (rcTo n f k x st).2.2.length ≤ st.2.2.length + x * n ^ f := by
   intro x
   induction x with
   | zero => simp [rcTo]
   | succ x ih =>
    rw [rcTo_succ, rcStep]
    split
    ·rw [Nat.succ_mul]; omega
    ·have := rcGo_len n f (k + 1) (rcIn n k x (rcTo n f k x st))
     have e : (rcIn n k x (rcTo n f k x st)).2.2 = (rcTo n f k x st).2.2 := rfl
     rw [e] at this
     have e2 : (rcOut n x (rcGo n f (k + 1) (rcIn n k x (rcTo n f k x st)))).2.2 = (rcGo n f (k + 1) (rcIn n k x (rcTo n f k x st))).2.2 := rfl
     rw [e2, Nat.succ_mul]
     omega
  have := h n
  rw [Nat.pow_succ, Nat.mul_comm]
  exact this
structure RcOk (n : Nat) (st : RcSt) : Prop where
 q : st.1.length = n
 u : st.2.1.length = n
 r : ∀ x ∈ st.1, 0 ≤ x ∧ x < (n : Int)
 k : ∀ a ∈ st.2.2, Kk (n * n) a
 nd : st.2.2.Nodup
theorem RcOk.rng {n : Nat} {st : RcSt} (h : RcOk n st) {i j : Nat} (hi : i < n) (hj : j < n) : (0 ≤ (rcMv st.1 i j).1 ∧ (rcMv st.1 i j).1 < n) ∧ 0 ≤ (rcMv st.1 i j).2 ∧ (rcMv st.1 i j).2 < n :=
 ⟨h.r _ (getD_mem (by rw [Int.toNat_natCast, h.q]; exact hi)), h.r _ (getD_mem (by rw [Int.toNat_natCast, h.q]; exact hj))⟩
theorem RcOk.in_ {n k x : Nat} {st : RcSt} (h : RcOk n st) (hx : x < n) : RcOk n (rcIn n k x st) :=
 ⟨by simp [rcIn, h.q], by simp [rcIn, h.u], fun y hy => by
  rcases List.mem_or_eq_of_mem_set hy with hy | rfl
  ·rcases List.mem_or_eq_of_mem_set hy with hy | rfl
   ·exact h.r y hy
   ·omega
  ·unfold opp; omega, h.k, h.nd⟩
theorem RcOk.out {n x : Nat} {st : RcSt} (h : RcOk n st) : RcOk n (rcOut n x st) := ⟨h.q, by simp [rcOut, h.u], h.r, h.k, h.nd⟩
theorem RcOk.go {n : Nat} (hn : n ≤ 16) : ∀ {f k : Nat} {st : RcSt}, RcOk n st → RcOk n (rcGo n f k st)
 | 0, k, st, h => ⟨h.q, h.u, h.r, fun a ha => by
  rcases mem_putL.1 ha with ha | rfl
  ·exact h.k a ha
  ·exact moveS_kk hn fun i j hi hj => h.rng hi hj, nodup_putL h.nd⟩
 | f + 1, k, st, h => by
  rw [rcGo_succ]
  have : ∀ x, x ≤ n → RcOk n (rcTo n f k x st) := by
   intro x
   induction x with
   | zero => exact fun _ => h
   | succ x ih =>
    intro hx
    rw [rcTo_succ, rcStep]
    split
    ·exact ih (by omega)
    ·exact (RcOk.go hn ((ih (by omega)).in_ (by omega))).out
  exact this n (Nat.le_refl n)
theorem RcOk.to {n : Nat} (hn : n ≤ 16) {f k x : Nat} {st : RcSt} (h : RcOk n st) (hx : x ≤ n) : RcOk n (rcTo n f k x st) := by
 induction x with
 | zero => exact h
 | succ x ih =>
  rw [rcTo_succ, rcStep]
  split
  ·exact ih (by omega)
  ·exact (RcOk.go hn ((ih (by omega)).in_ (by omega))).out
set_option maxRecDepth 8000 in
theorem rcMv_fn (n i j bq rq : Nat) (q : List Int) (h : H) (hq : q.length = n) (hi : i < n) (hj : j < n) : FnM Tryz.prog 150 #[.int .i64 i, .int .i64 j, .pointer (some ⟨bq, 0, none⟩)] h [.obj bq (.cells #[.slice (some ⟨rq, 0, none⟩) n n] 35 (0, 0)), .row (.slice (some ⟨rq, 0, none⟩) n n) 3 1 n (q.map (Value.int .i64))] fun v _ L' => v = .tuple #[.int .i64 (rcMv q i j).1, .int .i64 (rcMv q i j).2] ∧ L' = [.obj bq (.cells #[.slice (some ⟨rq, 0, none⟩) n n] 35 (0, 0)), .row (.slice (some ⟨rq, 0, none⟩) n n) 3 1 n (q.map (Value.int .i64))] := by
 refine fnM_of (vs := [.int .i64 i, .int .i64 j, .pointer (some ⟨bq, 0, none⟩)]) func150 rfl ntmps150 (Nat.le_of_ble_eq_true rfl) fun w hw => ?_
 repeat apply wp_seq'
 refine wp_text rfl ?_
 refine rm rfl ?_
 refine rm rfl ?_
 apply run_end
 repeat apply wp_seq'
 refine wp_any [0, 1, 2, 3, 4, 5, 6, 7, 8, 9] rfl (by kernel_rfl) ?_
 refine rs rfl (s_ld rfl rfl isAgg35 (.o_ rfl)) ?_
 refine rm rfl ?_
 refine rs rfl (s_ia1 rfl rfl rfl underlying35 sizeOf3 (by omega) (by omega)) ?_
 refine rs rfl (s_ld rfl rfl isAgg3 (.rowM (e := 3) (sz := 1) (Value.int .i64) 0 (by repeat first|exact MH _|apply MT) (by first | omega | (simp; omega)))) ?_
 refine rs rfl (s_ld rfl rfl isAgg35 (.o_ rfl)) ?_
 refine rm rfl ?_
 refine rs rfl (s_ia1 rfl rfl rfl underlying35 sizeOf3 (by omega) (by omega)) ?_
 refine rs rfl (s_ld rfl rfl isAgg3 (.rowM (e := 3) (sz := 1) (Value.int .i64) 0 (by repeat first|exact MH _|apply MT) (by first | omega | (simp; omega)))) ?_
 refine rm rfl ?_
 refine rm rfl ?_
 apply run_end
 apply wp_ret'
 exact finM_ret _ (res_tt rfl rfl rfl) ⟨_, .refl _, .refl _⟩ ⟨rfl, rfl⟩
/-- What the search holds. -/
abbrev rcL (n m b1 b5 bq rq bu ru b8 : Nat) (q : List Int) (u : List Bool) (kvs : List (Value × Sy)) : List Own := [.obj m (mapO (symKV kvs)), .obj bq (.cells #[.slice (some ⟨rq, 0, none⟩) n n] 35 (0, 0)), .row (.slice (some ⟨rq, 0, none⟩) n n) 3 1 n (q.map (Value.int .i64)), .obj bu (.cells #[.slice (some ⟨ru, 0, none⟩) n n] 108 (0, 0)), .row (.slice (some ⟨ru, 0, none⟩) n n) 4 1 n (u.map Value.bool), .obj b5 (.cells #[.map (some m)] 115 (0, 0)), .obj b8 (.cells #[.func (.func 149) #[] #[.pointer (some ⟨b1, 0, none⟩), .pointer (some ⟨b5, 0, none⟩), .pointer (some ⟨bq, 0, none⟩), .pointer (some ⟨bu, 0, none⟩), .pointer (some ⟨b8, 0, none⟩)]] 169 (0, 0)), .obj b1 (.cells #[.int .i64 n] 3 (0, 0))]
set_option maxRecDepth 8000 in
set_option maxHeartbeats 8000000 in
theorem rcChoose_fn (n m b1 b5 bq rq bu ru b8 : Nat) (hn0 : 1 ≤ n) (hn : n ≤ 16) : ∀ (f k : Nat), k + f = (n + 1) / 2 → ∀ (q : List Int) (u : List Bool) (kvs : List (Value × Sy)) (h : H), RcOk n (q, u, kvs.map (·.2)) → SetOk h kvs → FnM Tryz.prog 149 (#[.int .i64 k] ++ #[.pointer (some ⟨b1, 0, none⟩), .pointer (some ⟨b5, 0, none⟩), .pointer (some ⟨bq, 0, none⟩), .pointer (some ⟨bu, 0, none⟩), .pointer (some ⟨b8, 0, none⟩)]) h (rcL n m b1 b5 bq rq bu ru b8 q u kvs) fun _ h' L' => ∃ q' u' kvs', L' = rcL n m b1 b5 bq rq bu ru b8 q' u' kvs' ∧ SetOk h' kvs' ∧ (q', u', kvs'.map (·.2)) = rcGo n f k (q, u, kvs.map (·.2)) := by
 intro f
 induction f with
 | zero =>
  intro k hk q u kvs h hok hks
  refine fnM_of (vs := [.int .i64 k, .pointer (some ⟨b1, 0, none⟩), .pointer (some ⟨b5, 0, none⟩), .pointer (some ⟨bq, 0, none⟩), .pointer (some ⟨bu, 0, none⟩), .pointer (some ⟨b8, 0, none⟩)]) func149 rfl ntmps149 (Nat.le_of_ble_eq_true rfl) fun w hw => ?_
  repeat apply wp_seq'
  refine wp_text rfl ?_
  refine rm rfl ?_
  refine rs rfl (s_ld rfl rfl isAgg3 (.o_ rfl)) ?_
  refine rs rfl (s_add (q := ((n + 1 : Nat) : Int)) rfl rfl rfl (by rw [show (n : Int) + 1 = ((n + 1 : Nat) : Int) from rfl]; exact IntWalk.i64_in _ (by omega))) ?_
  refine rs rfl (s_quo (q := (((n + 1) / 2 : Nat) : Int)) rfl rfl rfl (by decide) (by rw [show (2 : Int) = ((2 : Nat) : Int) from rfl, tdiv_cast]; exact IntWalk.i64_in _ (by omega))) ?_
  refine rs rfl (s_eq rfl rfl rfl) ?_
  apply run_end
  repeat apply wp_seq'
  refine wp_if' rfl (fun hc12 => ?_) (fun hc12 => ?_)
  ·skip
   repeat apply wp_seq'
   refine wp_text rfl ?_
   refine rs rfl (s_ld rfl rfl isAgg115 (.o_ rfl)) ?_
   refine rs rfl (s_ld rfl rfl isAgg3 (.o_ rfl)) ?_
   refine rs rfl (s_mkf (vs := [.pointer (some ⟨bq, 0, none⟩)]) rfl rfl) ?_
   refine run_callM (L := [_, _, _]) (M := [_, _, _, _, _]) (vs := [_, _, _]) rfl rfl rfl (dst_lt rfl rfl) rfl rfl en146 (List.Perm.refl _) (add_fn n kvs m 150 _ (rcMv q) [.obj bq (.cells #[.slice (some ⟨rq, 0, none⟩) n n] 35 (0, 0)), .row (.slice (some ⟨rq, 0, none⟩) n n) 3 1 n (q.map (Value.int .i64))] _ hks (fun p hp => hok.k _ (List.mem_map.2 ⟨p, hp, rfl⟩)) hn0 hn (fun i j hi hj => hok.rng hi hj) en150 (fun h' _ i j hi hj => rcMv_fn n i j bq rq q h' hok.q hi hj)) ?_
   rintro r19 h2 _ ⟨kvs2, rfl, hks2, hko2, hmap⟩ hh2
   apply run_end
   apply wp_ret'
   exact finM_ret (rcL n m b1 b5 bq rq bu ru b8 q u kvs2) (res_none rfl) ⟨_, .refl _, .refl _⟩ ⟨q, u, kvs2, rfl, hks2, by rw [hmap]; rfl⟩
  ·skip
   omega
 | succ f ih =>
  intro k hk q u kvs h hok hks
  refine fnM_of (vs := [.int .i64 k, .pointer (some ⟨b1, 0, none⟩), .pointer (some ⟨b5, 0, none⟩), .pointer (some ⟨bq, 0, none⟩), .pointer (some ⟨bu, 0, none⟩), .pointer (some ⟨b8, 0, none⟩)]) func149 rfl ntmps149 (Nat.le_of_ble_eq_true rfl) fun w hw => ?_
  repeat apply wp_seq'
  refine wp_text rfl ?_
  refine rm rfl ?_
  refine rs rfl (s_ld rfl rfl isAgg3 (.o_ rfl)) ?_
  refine rs rfl (s_add (q := ((n + 1 : Nat) : Int)) rfl rfl rfl (by rw [show (n : Int) + 1 = ((n + 1 : Nat) : Int) from rfl]; exact IntWalk.i64_in _ (by omega))) ?_
  refine rs rfl (s_quo (q := (((n + 1) / 2 : Nat) : Int)) rfl rfl rfl (by decide) (by rw [show (2 : Int) = ((2 : Nat) : Int) from rfl, tdiv_cast]; exact IntWalk.i64_in _ (by omega))) ?_
  refine rs rfl (s_eq rfl rfl rfl) ?_
  apply run_end
  repeat apply wp_seq'
  refine wp_if' rfl (fun hc12 => ?_) (fun hc12 => ?_)
  ·skip
   omega
  ·skip
   apply wp_skip'
   repeat apply wp_seq'
   refine wp_text rfl ?_
   refine rs rfl (s_ld rfl rfl isAgg3 (.o_ rfl)) ?_
   refine rm rfl ?_
   apply run_end
   repeat apply wp_seq'
   apply wp_block'
   refine wp_loop' (ι := H × Nat × List Int × List Bool × List (Value × Sy)) (fun x => (x.2.1 ≤ n ∧ SetOk x.1 x.2.2.2.2) ∧ (x.2.2.1, x.2.2.2.1, x.2.2.2.2.map (·.2)) = rcTo n f k x.2.1 (q, u, kvs.map (·.2))) (fun x => ⟨[(18, .int .i64 x.2.1), (17, .int .i64 n), (5, .pointer (some ⟨b8, 0, none⟩)), (4, .pointer (some ⟨bu, 0, none⟩)), (3, .pointer (some ⟨bq, 0, none⟩)), (2, .pointer (some ⟨b5, 0, none⟩)), (1, .pointer (some ⟨b1, 0, none⟩)), (0, .int .i64 k)], x.1, rcL n m b1 b5 bq rq bu ru b8 x.2.2.1 x.2.2.2.1 x.2.2.2.2⟩) (fun x => n - x.2.1) (h, 0, q, u, kvs) ⟨⟨Nat.zero_le _, hks⟩, rfl⟩ ⟨by repeat (first|exact True.intro|refine And.intro rfl ?_), rfl, by repeat (first|exact NS _|exact SR _|apply SCC|apply SC)⟩ fun x hx => ?_
   obtain ⟨h1, x, q1, u1, kvs1⟩ := x
   obtain ⟨⟨hx, hks1⟩, hto⟩ := hx
   dsimp only at hx hks1 hto ⊢
   repeat apply wp_seq'
   refine wp_text rfl ?_
   refine rs rfl (s_lt rfl rfl rfl) ?_
   apply run_end
   repeat apply wp_seq'
   refine wp_if' rfl (fun hc19 => ?_) (fun hc19 => ?_)
   ·skip
    apply wp_skip'
    have hok1 := hok.to (f := f) (k := k) hn hx
    rw [← hto] at hok1
    have hql := hok1.q
    have hul := hok1.u
    dsimp only at hql hul
    have hst := rcTo_succ n f k x (q, u, kvs.map (·.2))
    rw [← hto] at hst
    have hkn : k < n := by omega
    repeat apply wp_seq'
    apply wp_block'
    repeat apply wp_seq'
    refine wp_text rfl ?_
    refine rm rfl ?_
    refine rm rfl ?_
    apply run_end
    repeat apply wp_seq'
    refine wp_text rfl ?_
    refine rs rfl (s_ld rfl rfl isAgg108 (.o_ rfl)) ?_
    refine rm rfl ?_
    refine rs rfl (s_ia1 rfl rfl rfl underlying108 sizeOf4 (by omega) (by omega)) ?_
    refine rs rfl (s_ld rfl rfl isAgg4 (.rowM (e := 4) (sz := 1) Value.bool false (by repeat first|exact MH _|apply MT) (by first | omega | (simp; omega)))) ?_
    refine rm rfl ?_
    refine run_cb (t := 25) rfl (fun hg25 => ?_) (fun hg25 => ?_)
    ·skip
     refine run_skip rfl rfl rfl rfl rfl rfl rfl ?_
     refine run_skip rfl rfl rfl rfl rfl rfl rfl ?_
     refine run_skip rfl rfl rfl rfl rfl rfl rfl ?_
     refine run_skip rfl rfl rfl rfl rfl rfl rfl ?_
     refine run_skip rfl rfl rfl rfl rfl rfl rfl ?_
     refine run_skip rfl rfl rfl rfl rfl rfl rfl ?_
     refine run_skip rfl rfl rfl rfl rfl rfl rfl ?_
     refine run_skip rfl rfl rfl rfl rfl rfl rfl ?_
     refine run_skip rfl rfl rfl rfl rfl rfl rfl ?_
     refine run_skip rfl rfl rfl rfl rfl rfl rfl ?_
     refine run_skip rfl rfl rfl rfl rfl rfl rfl ?_
     refine rs rfl (s_pick (c := true) rfl rfl (fun _ => rfl) (fun h => by cases h)) ?_
     apply run_end
     repeat apply wp_seq'
     refine wp_cond' (b := true) rfl (fun _ => ?_) (fun h => by cases h)
     apply wp_exit'
     simp only [Int.toNat_natCast] at hg25
     rw [rcStep, if_pos (by dsimp only [rcNo]; rw [hg25]; rfl)] at hst
     refine wp_text rfl ?_
     refine rs rfl (s_add rfl rfl rfl (IntWalk.i64_in _ (by omega))) ?_
     refine rm rfl ?_
     apply run_end
     exact ⟨(h1, x + 1, q1, u1, kvs1), ⟨⟨by dsimp only; omega, hks1⟩, hst.symm⟩, by dsimp only; omega, ⟨by repeat (first|exact True.intro|refine And.intro rfl ?_), rfl, by repeat (first|exact NS _|exact SR _|apply SCC|apply SC)⟩⟩
    ·skip
     refine rsg rfl rfl (s_move rfl rfl) ?_
     refine rsg rfl rfl (s_mul (q := 2 * (k : Int)) rfl rfl rfl (IntWalk.i64_in _ (by omega))) ?_
     refine rsg rfl rfl (s_ld rfl rfl isAgg3 (.o_ rfl)) ?_
     refine rsg rfl rfl (s_sub rfl rfl rfl (IntWalk.i64_in _ (by omega))) ?_
     refine rsg rfl rfl (s_eq rfl rfl rfl) ?_
     refine rsg rfl rfl (s_move rfl rfl) ?_
     refine rsg rfl rfl (s_mul (q := 2 * (x : Int)) rfl rfl rfl (IntWalk.i64_in _ (by omega))) ?_
     refine rsg rfl rfl (s_ld rfl rfl isAgg3 (.o_ rfl)) ?_
     refine rsg rfl rfl (s_sub rfl rfl rfl (IntWalk.i64_in _ (by omega))) ?_
     refine rsg rfl rfl (s_eq rfl rfl rfl) ?_
     refine rsg rfl rfl (s_bne rfl rfl rfl underlying4) ?_
     refine rs rfl (s_pick (c := false) rfl rfl (fun h => by cases h) (fun _ => rfl)) ?_
     apply run_end
     simp only [Int.toNat_natCast] at hg25
     repeat apply wp_seq'
     refine wp_cond' rfl (fun hc37 => ?_) (fun hc37 => ?_)
     ·skip
      apply wp_exit'
      rw [rcStep, if_pos (by dsimp only [rcNo]; rw [hg25, hc37]; rfl)] at hst
      refine wp_text rfl ?_
      refine rs rfl (s_add rfl rfl rfl (IntWalk.i64_in _ (by omega))) ?_
      refine rm rfl ?_
      apply run_end
      exact ⟨(h1, x + 1, q1, u1, kvs1), ⟨⟨by dsimp only; omega, hks1⟩, hst.symm⟩, by dsimp only; omega, ⟨by repeat (first|exact True.intro|refine And.intro rfl ?_), rfl, by repeat (first|exact NS _|exact SR _|apply SCC|apply SC)⟩⟩
     ·skip
      apply wp_skip'
      rw [rcStep, if_neg (by dsimp only [rcNo]; rw [hg25, hc37]; decide)] at hst
      have hin := hok1.in_ (k := k) (x := x) (by omega)
      repeat apply wp_seq'
      refine (wp_cutP (fun _ : Unit => ⟨[(7, .int .i64 x), (18, .int .i64 x), (17, .int .i64 n), (5, .pointer (some ⟨b8, 0, none⟩)), (4, .pointer (some ⟨bu, 0, none⟩)), (3, .pointer (some ⟨bq, 0, none⟩)), (2, .pointer (some ⟨b5, 0, none⟩)), (1, .pointer (some ⟨b1, 0, none⟩)), (0, .int .i64 k)], h1, rcL n m b1 b5 bq rq bu ru b8 ((q1.set k x).set (opp n k).toNat (opp n x)) u1 kvs1⟩) [(2, 13), (3, 13), (8, 13)] [[0, 1, 2, 3, 4, 5, 6, 7, 8, 9, 10, 11, 12, 13, 14, 15], [0, 1, 3, 4, 5, 6, 7, 8, 9, 10, 11, 12, 13, 2, 14, 15], [0, 1, 2, 5, 7, 8, 9, 10, 11, 12, 13, 3, 4, 6, 14, 15], [0, 1, 5, 7, 8, 9, 10, 11, 12, 13, 2, 3, 4, 6, 14, 15], [0, 1, 2, 3, 4, 5, 6, 7, 10, 12, 13, 8, 9, 11, 14, 15], [0, 1, 3, 4, 5, 6, 7, 10, 12, 13, 2, 8, 9, 11, 14, 15], [0, 1, 2, 5, 7, 10, 12, 13, 3, 4, 6, 8, 9, 11, 14, 15], [0, 1, 5, 7, 10, 12, 13, 2, 3, 4, 6, 8, 9, 11, 14, 15]] (fun _ => rfl) rfl (by kernel_rfl) ?_ ?_)
      ·intro l hl
       simp only [List.mem_cons, List.not_mem_nil, or_false] at hl
       rcases hl with rfl | rfl | rfl | rfl | rfl | rfl | rfl | rfl
       ·skip
        refine rs rfl (s_ld rfl rfl isAgg35 (.o_ rfl)) ?_
        refine rm rfl ?_
        refine rs rfl (s_ld rfl rfl isAgg35 (.o_ rfl)) ?_
        refine rs rfl (s_ld rfl rfl isAgg3 (.o_ rfl)) ?_
        refine rs rfl (s_sub rfl rfl rfl (IntWalk.i64_in _ (by omega))) ?_
        refine rm rfl ?_
        refine rs rfl (s_sub rfl rfl rfl (IntWalk.i64_in _ (by omega))) ?_
        refine rm rfl ?_
        refine rs rfl (s_ld rfl rfl isAgg3 (.o_ rfl)) ?_
        refine rs rfl (s_sub rfl rfl rfl (IntWalk.i64_in _ (by omega))) ?_
        refine rm rfl ?_
        refine rs rfl (s_sub rfl rfl rfl (IntWalk.i64_in _ (by omega))) ?_
        refine rs rfl (s_ia1 rfl rfl rfl underlying35 sizeOf3 (by omega) (by omega)) ?_
        refine run_strowM (Value.int .i64) rfl rfl rfl rfl rfl rfl rfl rfl sizeOf3 (by repeat first|exact Swap.here|apply Swap.there) (by omega) ?_
        refine rs rfl (s_ia1 rfl rfl rfl underlying35 sizeOf3 (by omega) (by omega)) ?_
        refine run_strowM (Value.int .i64) rfl rfl rfl rfl rfl rfl rfl rfl sizeOf3 (by repeat first|exact Swap.here|apply Swap.there) (by omega) ?_
        apply run_end
        exact ⟨(), by repeat (first|exact True.intro|refine And.intro rfl ?_), rfl, _, .refl _, (by repeat (first|exact NS _|exact SR _|apply SCC|apply SC))⟩
       ·skip
        refine rs rfl (s_ld rfl rfl isAgg35 (.o_ rfl)) ?_
        refine rm rfl ?_
        refine rs rfl (s_ld rfl rfl isAgg3 (.o_ rfl)) ?_
        refine rs rfl (s_sub rfl rfl rfl (IntWalk.i64_in _ (by omega))) ?_
        refine rm rfl ?_
        refine rs rfl (s_sub rfl rfl rfl (IntWalk.i64_in _ (by omega))) ?_
        refine rm rfl ?_
        refine rs rfl (s_ld rfl rfl isAgg3 (.o_ rfl)) ?_
        refine rs rfl (s_sub rfl rfl rfl (IntWalk.i64_in _ (by omega))) ?_
        refine rm rfl ?_
        refine rs rfl (s_sub rfl rfl rfl (IntWalk.i64_in _ (by omega))) ?_
        refine rs rfl (s_ia1 rfl rfl rfl underlying35 sizeOf3 (by omega) (by omega)) ?_
        refine run_strowM (Value.int .i64) rfl rfl rfl rfl rfl rfl rfl rfl sizeOf3 (by repeat first|exact Swap.here|apply Swap.there) (by omega) ?_
        refine rs rfl (s_ld rfl rfl isAgg35 (.o_ rfl)) ?_
        refine rs rfl (s_ia1 rfl rfl rfl underlying35 sizeOf3 (by omega) (by omega)) ?_
        refine run_strowM (Value.int .i64) rfl rfl rfl rfl rfl rfl rfl rfl sizeOf3 (by repeat first|exact Swap.here|apply Swap.there) (by omega) ?_
        apply run_end
        exact ⟨(), by repeat (first|exact True.intro|refine And.intro rfl ?_), rfl, _, .refl _, (by repeat (first|exact NS _|exact SR _|apply SCC|apply SC))⟩
       ·skip
        refine rs rfl (s_ld rfl rfl isAgg35 (.o_ rfl)) ?_
        refine rm rfl ?_
        refine rs rfl (s_ld rfl rfl isAgg35 (.o_ rfl)) ?_
        refine rm rfl ?_
        refine rm rfl ?_
        refine rs rfl (s_ld rfl rfl isAgg3 (.o_ rfl)) ?_
        refine rs rfl (s_sub rfl rfl rfl (IntWalk.i64_in _ (by omega))) ?_
        refine rm rfl ?_
        refine rs rfl (s_sub rfl rfl rfl (IntWalk.i64_in _ (by omega))) ?_
        refine rs rfl (s_ia1 rfl rfl rfl underlying35 sizeOf3 (by omega) (by omega)) ?_
        refine run_strowM (Value.int .i64) rfl rfl rfl rfl rfl rfl rfl rfl sizeOf3 (by repeat first|exact Swap.here|apply Swap.there) (by omega) ?_
        refine rs rfl (s_ld rfl rfl isAgg3 (.o_ rfl)) ?_
        refine rs rfl (s_sub rfl rfl rfl (IntWalk.i64_in _ (by omega))) ?_
        refine rs rfl (s_sub rfl rfl rfl (IntWalk.i64_in _ (by omega))) ?_
        refine rs rfl (s_ia1 rfl rfl rfl underlying35 sizeOf3 (by omega) (by omega)) ?_
        refine run_strowM (Value.int .i64) rfl rfl rfl rfl rfl rfl rfl rfl sizeOf3 (by repeat first|exact Swap.here|apply Swap.there) (by omega) ?_
        apply run_end
        exact ⟨(), by repeat (first|exact True.intro|refine And.intro rfl ?_), rfl, _, .refl _, (by repeat (first|exact NS _|exact SR _|apply SCC|apply SC))⟩
       ·skip
        refine rs rfl (s_ld rfl rfl isAgg35 (.o_ rfl)) ?_
        refine rm rfl ?_
        refine rm rfl ?_
        refine rm rfl ?_
        refine rs rfl (s_ld rfl rfl isAgg3 (.o_ rfl)) ?_
        refine rs rfl (s_sub rfl rfl rfl (IntWalk.i64_in _ (by omega))) ?_
        refine rm rfl ?_
        refine rs rfl (s_sub rfl rfl rfl (IntWalk.i64_in _ (by omega))) ?_
        refine rs rfl (s_ia1 rfl rfl rfl underlying35 sizeOf3 (by omega) (by omega)) ?_
        refine run_strowM (Value.int .i64) rfl rfl rfl rfl rfl rfl rfl rfl sizeOf3 (by repeat first|exact Swap.here|apply Swap.there) (by omega) ?_
        refine rs rfl (s_ld rfl rfl isAgg35 (.o_ rfl)) ?_
        refine rs rfl (s_ld rfl rfl isAgg3 (.o_ rfl)) ?_
        refine rs rfl (s_sub rfl rfl rfl (IntWalk.i64_in _ (by omega))) ?_
        refine rs rfl (s_sub rfl rfl rfl (IntWalk.i64_in _ (by omega))) ?_
        refine rs rfl (s_ia1 rfl rfl rfl underlying35 sizeOf3 (by omega) (by omega)) ?_
        refine run_strowM (Value.int .i64) rfl rfl rfl rfl rfl rfl rfl rfl sizeOf3 (by repeat first|exact Swap.here|apply Swap.there) (by omega) ?_
        apply run_end
        exact ⟨(), by repeat (first|exact True.intro|refine And.intro rfl ?_), rfl, _, .refl _, (by repeat (first|exact NS _|exact SR _|apply SCC|apply SC))⟩
       ·skip
        refine rs rfl (s_ld rfl rfl isAgg35 (.o_ rfl)) ?_
        refine rm rfl ?_
        refine rs rfl (s_ld rfl rfl isAgg35 (.o_ rfl)) ?_
        refine rs rfl (s_ld rfl rfl isAgg3 (.o_ rfl)) ?_
        refine rs rfl (s_sub rfl rfl rfl (IntWalk.i64_in _ (by omega))) ?_
        refine rm rfl ?_
        refine rs rfl (s_sub rfl rfl rfl (IntWalk.i64_in _ (by omega))) ?_
        refine rm rfl ?_
        refine rm rfl ?_
        refine rs rfl (s_ia1 rfl rfl rfl underlying35 sizeOf3 (by omega) (by omega)) ?_
        refine run_strowM (Value.int .i64) rfl rfl rfl rfl rfl rfl rfl rfl sizeOf3 (by repeat first|exact Swap.here|apply Swap.there) (by omega) ?_
        refine rs rfl (s_ld rfl rfl isAgg3 (.o_ rfl)) ?_
        refine rs rfl (s_sub rfl rfl rfl (IntWalk.i64_in _ (by omega))) ?_
        refine rs rfl (s_sub rfl rfl rfl (IntWalk.i64_in _ (by omega))) ?_
        refine rs rfl (s_ia1 rfl rfl rfl underlying35 sizeOf3 (by omega) (by omega)) ?_
        refine run_strowM (Value.int .i64) rfl rfl rfl rfl rfl rfl rfl rfl sizeOf3 (by repeat first|exact Swap.here|apply Swap.there) (by omega) ?_
        apply run_end
        exact ⟨(), by repeat (first|exact True.intro|refine And.intro rfl ?_), rfl, _, .refl _, (by repeat (first|exact NS _|exact SR _|apply SCC|apply SC))⟩
       ·skip
        refine rs rfl (s_ld rfl rfl isAgg35 (.o_ rfl)) ?_
        refine rm rfl ?_
        refine rs rfl (s_ld rfl rfl isAgg3 (.o_ rfl)) ?_
        refine rs rfl (s_sub rfl rfl rfl (IntWalk.i64_in _ (by omega))) ?_
        refine rm rfl ?_
        refine rs rfl (s_sub rfl rfl rfl (IntWalk.i64_in _ (by omega))) ?_
        refine rm rfl ?_
        refine rm rfl ?_
        refine rs rfl (s_ia1 rfl rfl rfl underlying35 sizeOf3 (by omega) (by omega)) ?_
        refine run_strowM (Value.int .i64) rfl rfl rfl rfl rfl rfl rfl rfl sizeOf3 (by repeat first|exact Swap.here|apply Swap.there) (by omega) ?_
        refine rs rfl (s_ld rfl rfl isAgg35 (.o_ rfl)) ?_
        refine rs rfl (s_ld rfl rfl isAgg3 (.o_ rfl)) ?_
        refine rs rfl (s_sub rfl rfl rfl (IntWalk.i64_in _ (by omega))) ?_
        refine rs rfl (s_sub rfl rfl rfl (IntWalk.i64_in _ (by omega))) ?_
        refine rs rfl (s_ia1 rfl rfl rfl underlying35 sizeOf3 (by omega) (by omega)) ?_
        refine run_strowM (Value.int .i64) rfl rfl rfl rfl rfl rfl rfl rfl sizeOf3 (by repeat first|exact Swap.here|apply Swap.there) (by omega) ?_
        apply run_end
        exact ⟨(), by repeat (first|exact True.intro|refine And.intro rfl ?_), rfl, _, .refl _, (by repeat (first|exact NS _|exact SR _|apply SCC|apply SC))⟩
       ·skip
        refine rs rfl (s_ld rfl rfl isAgg35 (.o_ rfl)) ?_
        refine rm rfl ?_
        refine rs rfl (s_ld rfl rfl isAgg35 (.o_ rfl)) ?_
        refine rm rfl ?_
        refine rm rfl ?_
        refine rm rfl ?_
        refine rs rfl (s_ia1 rfl rfl rfl underlying35 sizeOf3 (by omega) (by omega)) ?_
        refine run_strowM (Value.int .i64) rfl rfl rfl rfl rfl rfl rfl rfl sizeOf3 (by repeat first|exact Swap.here|apply Swap.there) (by omega) ?_
        refine rs rfl (s_ld rfl rfl isAgg3 (.o_ rfl)) ?_
        refine rs rfl (s_sub rfl rfl rfl (IntWalk.i64_in _ (by omega))) ?_
        refine rs rfl (s_sub rfl rfl rfl (IntWalk.i64_in _ (by omega))) ?_
        refine rs rfl (s_ld rfl rfl isAgg3 (.o_ rfl)) ?_
        refine rs rfl (s_sub rfl rfl rfl (IntWalk.i64_in _ (by omega))) ?_
        refine rs rfl (s_sub rfl rfl rfl (IntWalk.i64_in _ (by omega))) ?_
        refine rs rfl (s_ia1 rfl rfl rfl underlying35 sizeOf3 (by omega) (by omega)) ?_
        refine run_strowM (Value.int .i64) rfl rfl rfl rfl rfl rfl rfl rfl sizeOf3 (by repeat first|exact Swap.here|apply Swap.there) (by omega) ?_
        apply run_end
        exact ⟨(), by repeat (first|exact True.intro|refine And.intro rfl ?_), rfl, _, .refl _, (by repeat (first|exact NS _|exact SR _|apply SCC|apply SC))⟩
       ·skip
        refine rs rfl (s_ld rfl rfl isAgg35 (.o_ rfl)) ?_
        refine rm rfl ?_
        refine rm rfl ?_
        refine rm rfl ?_
        refine rm rfl ?_
        refine rs rfl (s_ia1 rfl rfl rfl underlying35 sizeOf3 (by omega) (by omega)) ?_
        refine run_strowM (Value.int .i64) rfl rfl rfl rfl rfl rfl rfl rfl sizeOf3 (by repeat first|exact Swap.here|apply Swap.there) (by omega) ?_
        refine rs rfl (s_ld rfl rfl isAgg35 (.o_ rfl)) ?_
        refine rs rfl (s_ld rfl rfl isAgg3 (.o_ rfl)) ?_
        refine rs rfl (s_sub rfl rfl rfl (IntWalk.i64_in _ (by omega))) ?_
        refine rs rfl (s_sub rfl rfl rfl (IntWalk.i64_in _ (by omega))) ?_
        refine rs rfl (s_ld rfl rfl isAgg3 (.o_ rfl)) ?_
        refine rs rfl (s_sub rfl rfl rfl (IntWalk.i64_in _ (by omega))) ?_
        refine rs rfl (s_sub rfl rfl rfl (IntWalk.i64_in _ (by omega))) ?_
        refine rs rfl (s_ia1 rfl rfl rfl underlying35 sizeOf3 (by omega) (by omega)) ?_
        refine run_strowM (Value.int .i64) rfl rfl rfl rfl rfl rfl rfl rfl sizeOf3 (by repeat first|exact Swap.here|apply Swap.there) (by omega) ?_
        apply run_end
        exact ⟨(), by repeat (first|exact True.intro|refine And.intro rfl ?_), rfl, _, .refl _, (by repeat (first|exact NS _|exact SR _|apply SCC|apply SC))⟩
      intro _
      repeat apply wp_seq'
      refine (wp_cutP (fun _ : Unit => ⟨[(7, .int .i64 x), (18, .int .i64 x), (17, .int .i64 n), (5, .pointer (some ⟨b8, 0, none⟩)), (4, .pointer (some ⟨bu, 0, none⟩)), (3, .pointer (some ⟨bq, 0, none⟩)), (2, .pointer (some ⟨b5, 0, none⟩)), (1, .pointer (some ⟨b1, 0, none⟩)), (0, .int .i64 k)], h1, rcL n m b1 b5 bq rq bu ru b8 ((q1.set k x).set (opp n k).toNat (opp n x)) ((u1.set x true).set (opp n x).toNat true) kvs1⟩) [(2, 8), (3, 8)] [[0, 1, 2, 3, 4, 5, 6, 7, 8, 9, 10], [0, 1, 3, 4, 5, 6, 7, 8, 2, 9, 10], [0, 1, 2, 5, 7, 8, 3, 4, 6, 9, 10], [0, 1, 5, 7, 8, 2, 3, 4, 6, 9, 10]] (fun _ => rfl) rfl (by kernel_rfl) ?_ ?_)
      ·intro l hl
       simp only [List.mem_cons, List.not_mem_nil, or_false] at hl
       rcases hl with rfl | rfl | rfl | rfl
       ·skip
        refine rs rfl (s_ld rfl rfl isAgg108 (.o_ rfl)) ?_
        refine rm rfl ?_
        refine rs rfl (s_ld rfl rfl isAgg108 (.o_ rfl)) ?_
        refine rs rfl (s_ld rfl rfl isAgg3 (.o_ rfl)) ?_
        refine rs rfl (s_sub rfl rfl rfl (IntWalk.i64_in _ (by omega))) ?_
        refine rm rfl ?_
        refine rs rfl (s_sub rfl rfl rfl (IntWalk.i64_in _ (by omega))) ?_
        refine rs rfl (s_ia1 rfl rfl rfl underlying108 sizeOf4 (by omega) (by omega)) ?_
        refine run_strowM Value.bool rfl rfl rfl rfl rfl rfl rfl rfl sizeOf4 (by repeat first|exact Swap.here|apply Swap.there) (by omega) ?_
        refine rs rfl (s_ia1 rfl rfl rfl underlying108 sizeOf4 (by omega) (by omega)) ?_
        refine run_strowM Value.bool rfl rfl rfl rfl rfl rfl rfl rfl sizeOf4 (by repeat first|exact Swap.here|apply Swap.there) (by omega) ?_
        apply run_end
        exact ⟨(), by repeat (first|exact True.intro|refine And.intro rfl ?_), rfl, _, .refl _, (by repeat (first|exact NS _|exact SR _|apply SCC|apply SC))⟩
       ·skip
        refine rs rfl (s_ld rfl rfl isAgg108 (.o_ rfl)) ?_
        refine rm rfl ?_
        refine rs rfl (s_ld rfl rfl isAgg3 (.o_ rfl)) ?_
        refine rs rfl (s_sub rfl rfl rfl (IntWalk.i64_in _ (by omega))) ?_
        refine rm rfl ?_
        refine rs rfl (s_sub rfl rfl rfl (IntWalk.i64_in _ (by omega))) ?_
        refine rs rfl (s_ia1 rfl rfl rfl underlying108 sizeOf4 (by omega) (by omega)) ?_
        refine run_strowM Value.bool rfl rfl rfl rfl rfl rfl rfl rfl sizeOf4 (by repeat first|exact Swap.here|apply Swap.there) (by omega) ?_
        refine rs rfl (s_ld rfl rfl isAgg108 (.o_ rfl)) ?_
        refine rs rfl (s_ia1 rfl rfl rfl underlying108 sizeOf4 (by omega) (by omega)) ?_
        refine run_strowM Value.bool rfl rfl rfl rfl rfl rfl rfl rfl sizeOf4 (by repeat first|exact Swap.here|apply Swap.there) (by omega) ?_
        apply run_end
        exact ⟨(), by repeat (first|exact True.intro|refine And.intro rfl ?_), rfl, _, .refl _, (by repeat (first|exact NS _|exact SR _|apply SCC|apply SC))⟩
       ·skip
        refine rs rfl (s_ld rfl rfl isAgg108 (.o_ rfl)) ?_
        refine rm rfl ?_
        refine rs rfl (s_ld rfl rfl isAgg108 (.o_ rfl)) ?_
        refine rm rfl ?_
        refine rs rfl (s_ia1 rfl rfl rfl underlying108 sizeOf4 (by omega) (by omega)) ?_
        refine run_strowM Value.bool rfl rfl rfl rfl rfl rfl rfl rfl sizeOf4 (by repeat first|exact Swap.here|apply Swap.there) (by omega) ?_
        refine rs rfl (s_ld rfl rfl isAgg3 (.o_ rfl)) ?_
        refine rs rfl (s_sub rfl rfl rfl (IntWalk.i64_in _ (by omega))) ?_
        refine rs rfl (s_sub rfl rfl rfl (IntWalk.i64_in _ (by omega))) ?_
        refine rs rfl (s_ia1 rfl rfl rfl underlying108 sizeOf4 (by omega) (by omega)) ?_
        refine run_strowM Value.bool rfl rfl rfl rfl rfl rfl rfl rfl sizeOf4 (by repeat first|exact Swap.here|apply Swap.there) (by omega) ?_
        apply run_end
        exact ⟨(), by repeat (first|exact True.intro|refine And.intro rfl ?_), rfl, _, .refl _, (by repeat (first|exact NS _|exact SR _|apply SCC|apply SC))⟩
       ·skip
        refine rs rfl (s_ld rfl rfl isAgg108 (.o_ rfl)) ?_
        refine rm rfl ?_
        refine rm rfl ?_
        refine rs rfl (s_ia1 rfl rfl rfl underlying108 sizeOf4 (by omega) (by omega)) ?_
        refine run_strowM Value.bool rfl rfl rfl rfl rfl rfl rfl rfl sizeOf4 (by repeat first|exact Swap.here|apply Swap.there) (by omega) ?_
        refine rs rfl (s_ld rfl rfl isAgg108 (.o_ rfl)) ?_
        refine rs rfl (s_ld rfl rfl isAgg3 (.o_ rfl)) ?_
        refine rs rfl (s_sub rfl rfl rfl (IntWalk.i64_in _ (by omega))) ?_
        refine rs rfl (s_sub rfl rfl rfl (IntWalk.i64_in _ (by omega))) ?_
        refine rs rfl (s_ia1 rfl rfl rfl underlying108 sizeOf4 (by omega) (by omega)) ?_
        refine run_strowM Value.bool rfl rfl rfl rfl rfl rfl rfl rfl sizeOf4 (by repeat first|exact Swap.here|apply Swap.there) (by omega) ?_
        apply run_end
        exact ⟨(), by repeat (first|exact True.intro|refine And.intro rfl ?_), rfl, _, .refl _, (by repeat (first|exact NS _|exact SR _|apply SCC|apply SC))⟩
      intro _
      repeat apply wp_seq'
      refine wp_text rfl ?_
      refine rs rfl (s_ld rfl rfl isAgg169 (.o_ rfl)) ?_
      refine rm rfl ?_
      refine rs rfl (s_add (q := ((k + 1 : Nat) : Int)) rfl rfl rfl (by rw [show (k : Int) + 1 = ((k + 1 : Nat) : Int) from rfl]; exact IntWalk.i64_in _ (by omega))) ?_
      refine run_callM (L := rcL n m b1 b5 bq rq bu ru b8 (rcIn n k x (q1, u1, kvs1.map (·.2))).1 (rcIn n k x (q1, u1, kvs1.map (·.2))).2.1 kvs1) (M := []) (vs := [_]) rfl rfl rfl (dst_lt rfl rfl) rfl rfl en149 (List.Perm.refl _) (ih (k + 1) (by omega) _ _ kvs1 h1 hin hks1) ?_
      rintro r64 h2 _ ⟨q2, u2, kvs2, rfl, hks2, hgo⟩ hh2
      apply run_end
      have hok2 := RcOk.go hn (f := f) (k := k + 1) hin
      rw [show rcIn n k x (q1, u1, kvs1.map (·.2)) = ((rcIn n k x (q1, u1, kvs1.map (·.2))).1, (rcIn n k x (q1, u1, kvs1.map (·.2))).2.1, kvs1.map (·.2)) from rfl, ← hgo] at hok2 hst
      have hul2 := hok2.u
      dsimp only at hul2
      repeat apply wp_seq'
      refine (wp_cutP (fun _ : Unit => ⟨[(7, .int .i64 x), (18, .int .i64 x), (17, .int .i64 n), (5, .pointer (some ⟨b8, 0, none⟩)), (4, .pointer (some ⟨bu, 0, none⟩)), (3, .pointer (some ⟨bq, 0, none⟩)), (2, .pointer (some ⟨b5, 0, none⟩)), (1, .pointer (some ⟨b1, 0, none⟩)), (0, .int .i64 k)], h2, rcL n m b1 b5 bq rq bu ru b8 q2 ((u2.set x false).set (opp n x).toNat false) kvs2⟩) [(2, 8), (3, 8)] [[0, 1, 2, 3, 4, 5, 6, 7, 8, 9, 10], [0, 1, 3, 4, 5, 6, 7, 8, 2, 9, 10], [0, 1, 2, 5, 7, 8, 3, 4, 6, 9, 10], [0, 1, 5, 7, 8, 2, 3, 4, 6, 9, 10]] (fun _ => rfl) rfl (by kernel_rfl) ?_ ?_)
      ·intro l hl
       simp only [List.mem_cons, List.not_mem_nil, or_false] at hl
       rcases hl with rfl | rfl | rfl | rfl
       ·skip
        refine rs rfl (s_ld rfl rfl isAgg108 (.o_ rfl)) ?_
        refine rm rfl ?_
        refine rs rfl (s_ld rfl rfl isAgg108 (.o_ rfl)) ?_
        refine rs rfl (s_ld rfl rfl isAgg3 (.o_ rfl)) ?_
        refine rs rfl (s_sub rfl rfl rfl (IntWalk.i64_in _ (by omega))) ?_
        refine rm rfl ?_
        refine rs rfl (s_sub rfl rfl rfl (IntWalk.i64_in _ (by omega))) ?_
        refine rs rfl (s_ia1 rfl rfl rfl underlying108 sizeOf4 (by omega) (by omega)) ?_
        refine run_strowM Value.bool rfl rfl rfl rfl rfl rfl rfl rfl sizeOf4 (by repeat first|exact Swap.here|apply Swap.there) (by omega) ?_
        refine rs rfl (s_ia1 rfl rfl rfl underlying108 sizeOf4 (by omega) (by omega)) ?_
        refine run_strowM Value.bool rfl rfl rfl rfl rfl rfl rfl rfl sizeOf4 (by repeat first|exact Swap.here|apply Swap.there) (by omega) ?_
        apply run_end
        exact ⟨(), by repeat (first|exact True.intro|refine And.intro rfl ?_), rfl, _, .refl _, (by repeat (first|exact NS _|exact SR _|apply SCC|apply SC))⟩
       ·skip
        refine rs rfl (s_ld rfl rfl isAgg108 (.o_ rfl)) ?_
        refine rm rfl ?_
        refine rs rfl (s_ld rfl rfl isAgg3 (.o_ rfl)) ?_
        refine rs rfl (s_sub rfl rfl rfl (IntWalk.i64_in _ (by omega))) ?_
        refine rm rfl ?_
        refine rs rfl (s_sub rfl rfl rfl (IntWalk.i64_in _ (by omega))) ?_
        refine rs rfl (s_ia1 rfl rfl rfl underlying108 sizeOf4 (by omega) (by omega)) ?_
        refine run_strowM Value.bool rfl rfl rfl rfl rfl rfl rfl rfl sizeOf4 (by repeat first|exact Swap.here|apply Swap.there) (by omega) ?_
        refine rs rfl (s_ld rfl rfl isAgg108 (.o_ rfl)) ?_
        refine rs rfl (s_ia1 rfl rfl rfl underlying108 sizeOf4 (by omega) (by omega)) ?_
        refine run_strowM Value.bool rfl rfl rfl rfl rfl rfl rfl rfl sizeOf4 (by repeat first|exact Swap.here|apply Swap.there) (by omega) ?_
        apply run_end
        exact ⟨(), by repeat (first|exact True.intro|refine And.intro rfl ?_), rfl, _, .refl _, (by repeat (first|exact NS _|exact SR _|apply SCC|apply SC))⟩
       ·skip
        refine rs rfl (s_ld rfl rfl isAgg108 (.o_ rfl)) ?_
        refine rm rfl ?_
        refine rs rfl (s_ld rfl rfl isAgg108 (.o_ rfl)) ?_
        refine rm rfl ?_
        refine rs rfl (s_ia1 rfl rfl rfl underlying108 sizeOf4 (by omega) (by omega)) ?_
        refine run_strowM Value.bool rfl rfl rfl rfl rfl rfl rfl rfl sizeOf4 (by repeat first|exact Swap.here|apply Swap.there) (by omega) ?_
        refine rs rfl (s_ld rfl rfl isAgg3 (.o_ rfl)) ?_
        refine rs rfl (s_sub rfl rfl rfl (IntWalk.i64_in _ (by omega))) ?_
        refine rs rfl (s_sub rfl rfl rfl (IntWalk.i64_in _ (by omega))) ?_
        refine rs rfl (s_ia1 rfl rfl rfl underlying108 sizeOf4 (by omega) (by omega)) ?_
        refine run_strowM Value.bool rfl rfl rfl rfl rfl rfl rfl rfl sizeOf4 (by repeat first|exact Swap.here|apply Swap.there) (by omega) ?_
        apply run_end
        exact ⟨(), by repeat (first|exact True.intro|refine And.intro rfl ?_), rfl, _, .refl _, (by repeat (first|exact NS _|exact SR _|apply SCC|apply SC))⟩
       ·skip
        refine rs rfl (s_ld rfl rfl isAgg108 (.o_ rfl)) ?_
        refine rm rfl ?_
        refine rm rfl ?_
        refine rs rfl (s_ia1 rfl rfl rfl underlying108 sizeOf4 (by omega) (by omega)) ?_
        refine run_strowM Value.bool rfl rfl rfl rfl rfl rfl rfl rfl sizeOf4 (by repeat first|exact Swap.here|apply Swap.there) (by omega) ?_
        refine rs rfl (s_ld rfl rfl isAgg108 (.o_ rfl)) ?_
        refine rs rfl (s_ld rfl rfl isAgg3 (.o_ rfl)) ?_
        refine rs rfl (s_sub rfl rfl rfl (IntWalk.i64_in _ (by omega))) ?_
        refine rs rfl (s_sub rfl rfl rfl (IntWalk.i64_in _ (by omega))) ?_
        refine rs rfl (s_ia1 rfl rfl rfl underlying108 sizeOf4 (by omega) (by omega)) ?_
        refine run_strowM Value.bool rfl rfl rfl rfl rfl rfl rfl rfl sizeOf4 (by repeat first|exact Swap.here|apply Swap.there) (by omega) ?_
        apply run_end
        exact ⟨(), by repeat (first|exact True.intro|refine And.intro rfl ?_), rfl, _, .refl _, (by repeat (first|exact NS _|exact SR _|apply SCC|apply SC))⟩
      intro _
      refine wp_text rfl ?_
      refine rs rfl (s_add rfl rfl rfl (IntWalk.i64_in _ (by omega))) ?_
      refine rm rfl ?_
      apply run_end
      exact ⟨(h2, x + 1, q2, (u2.set x false).set (opp n x).toNat false, kvs2), ⟨⟨by dsimp only; omega, hks2⟩, hst.symm⟩, by dsimp only; omega, ⟨by repeat (first|exact True.intro|refine And.intro rfl ?_), rfl, by repeat (first|exact NS _|exact SR _|apply SCC|apply SC)⟩⟩
   ·skip
    apply wp_exit'
    obtain rfl : x = n := by omega
    exact finM_end (rcL x m b1 b5 bq rq bu ru b8 q1 u1 kvs1) (res_none rfl) ⟨_, .refl _, .refl _⟩ ⟨q1, u1, kvs1, rfl, hks1, hto⟩
theorem Pick.tail {x : Own} {L L' T : List Own} (p : Pick x L L') (k : L'.Perm T) : L.Perm (x :: T) := p.perm.trans (k.cons x)
def rc0 (N : Nat) : RcSt := (List.replicate N 0, List.replicate N false, [])
def rcAll (N : Nat) : List Sy := (rcGo N ((N + 1) / 2) 0 (rc0 N)).2.2
def rcI (n : Int) : Int := firstI [ordI n, whenI (decide (10 ≤ n)) 5]
def rcO (n : Int) : List Sy × Int := if rcI n ≠ 0 then ([], rcI n) else (sorted symLt (rcAll n.toNat), 0)
theorem rcI_zero {n : Int} (h : rcI n = 0) : 1 ≤ n ∧ n ≤ 9 := by
 simp only [rcI, firstI_zero, List.mem_cons, List.not_mem_nil, or_false, forall_eq_or_imp, forall_eq, whenI_zero (show (5 : Int) ≠ 0 by decide), decide_eq_false_iff_not] at h
 have := ordI_zero h.1
 omega
theorem rc0_ok {N : Nat} (h : 1 ≤ N) : RcOk N (rc0 N) := ⟨by simp [rc0], by simp [rc0], fun x hx => by
 obtain ⟨_, rfl⟩ := List.mem_replicate.1 hx
 omega, (fun a ha => by cases ha), List.nodup_nil⟩
theorem rcAll_len {N : Nat} (h1 : 1 ≤ N) (h : N ≤ 9) : (rcAll N).length ≤ 59049 := by
 have h2 := rcGo_len N ((N + 1) / 2) 0 (rc0 N)
 have h3 : N ^ ((N + 1) / 2) ≤ 9 ^ 5 := Nat.le_trans (Nat.pow_le_pow_left h _) (Nat.pow_le_pow_right (by decide) (by omega))
 have h4 : (rc0 N).2.2.length = 0 := rfl
 unfold rcAll
 omega
set_option maxRecDepth 8000 in
set_option maxHeartbeats 4000000 in
theorem rowColumn_fn (n : Int) (h : H) : Fn Tryz.prog 68 #[.int .i64 n] h fun r h' => ∃ sv, r = .tuple #[sv, .int .i64 (rcO n).2] ∧ RdS h' sv (rcO n).1 := by
 refine fn_of (vs := [.int .i64 n]) func68 rfl ntmps68 (Nat.le_of_ble_eq_true rfl) fun w hw => ?_
 repeat apply wp_seq'
 refine wp_text rfl ?_
 refine run_box rfl rfl rfl rfl rfl rfl rfl fun b1 => ?_
 refine rm rfl ?_
 refine rm rfl ?_
 apply run_end
 repeat apply wp_seq'
 refine wp_any [0, 2, 3, 1, 4, 5, 6, 7] rfl (by kernel_rfl) ?_
 refine rs rfl (s_ld rfl rfl isAgg3 (.o_ rfl)) ?_
 refine rs rfl (s_ld rfl rfl isAgg3 (.o_ rfl)) ?_
 refine rs rfl (s_ge rfl rfl rfl) ?_
 refine run_callv (vs := [_]) rfl rfl rfl rfl rfl rfl en145 (checkOrder_fn _ _) ?_
 refine run_callv (vs := [_, _]) rfl rfl rfl rfl rfl rfl en96 (when_fn _ _ _) ?_
 refine run_bsl (parts := [_, _]) (vs := [_, _]) rfl rfl rfl rfl rfl rfl (bs178_2 _ _) fun b10 h10 hh10 hb10 => ?_
 have hr10 := rdI_of (xs := [_, _]) hb10 rfl rfl (Nat.le_of_ble_eq_true rfl)
 refine run_callv (vs := [_]) rfl rfl rfl rfl rfl rfl en94 (first_fn _ _ _ hr10) ?_
 refine rm rfl ?_
 apply run_end
 rw [show firstI [ordI n, whenI (decide (10 ≤ n)) 5] = rcI n from rfl]
 repeat apply wp_seq'
 refine wp_text rfl ?_
 refine rm rfl ?_
 refine rs rfl (s_ne rfl rfl rfl) ?_
 apply run_end
 repeat apply wp_seq'
 refine wp_if' rfl (fun hc17 => ?_) (fun hc17 => ?_)
 ·skip
  repeat apply wp_seq'
  refine wp_text rfl ?_
  refine rm rfl ?_
  refine rm rfl ?_
  refine rm rfl ?_
  apply run_end
  apply wp_ret'
  refine fin_ret (res_tt rfl rfl rfl) ?_
  rw [rcO, if_pos hc17]
  exact ⟨_, rfl, RdS.nil _ 0⟩
 ·skip
  apply wp_skip'
  have ho := rcI_zero (Decidable.not_not.1 hc17)
  obtain ⟨N, rfl⟩ := Int.eq_ofNat_of_zero_le (show 0 ≤ n by omega)
  have hN1 : 1 ≤ N := by omega
  have hN9 : N ≤ 9 := by omega
  have hO : rcO N = (sorted symLt (rcAll N), 0) := by rw [rcO, if_neg hc17, Int.toNat_natCast]
  repeat apply wp_seq'
  refine wp_text rfl ?_
  refine run_mkmapO rfl rfl rfl rfl rfl fun m => ?_
  refine run_alloc rfl rfl rfl rfl rfl zeroValue115 rfl fun b5 => ?_
  refine run_st rfl rfl rfl rfl rfl rfl rfl rfl sizeOf115 (by repeat first|exact Swap.here|apply Swap.there) rfl ?_
  apply run_end
  repeat apply wp_seq'
  refine wp_text rfl ?_
  refine rs rfl (s_ld rfl rfl isAgg3 (.o_ rfl)) ?_
  refine run_mksl rfl rfl rfl rfl rfl rfl rfl underlying35 info3 rfl (by omega) (by omega) fun rq => ?_
  refine run_alloc rfl rfl rfl rfl rfl zeroValue35 rfl fun bq => ?_
  refine run_st rfl rfl rfl rfl rfl rfl rfl rfl sizeOf35 (by repeat first|exact Swap.here|apply Swap.there) rfl ?_
  apply run_end
  repeat apply wp_seq'
  refine wp_text rfl ?_
  refine rs rfl (s_ld rfl rfl isAgg3 (.o_ rfl)) ?_
  refine run_mksl rfl rfl rfl rfl rfl rfl rfl underlying108 info4 rfl (by omega) (by omega) fun ru => ?_
  refine run_alloc rfl rfl rfl rfl rfl zeroValue108 rfl fun bu => ?_
  refine run_st rfl rfl rfl rfl rfl rfl rfl rfl sizeOf108 (by repeat first|exact Swap.here|apply Swap.there) rfl ?_
  apply run_end
  repeat apply wp_seq'
  refine wp_text rfl ?_
  refine run_alloc rfl rfl rfl rfl rfl zeroValue169 rfl fun b8 => ?_
  apply run_end
  repeat apply wp_seq'
  refine wp_text rfl ?_
  refine rs rfl (s_mkf (vs := [.pointer (some ⟨b1, 0, none⟩), .pointer (some ⟨b5, 0, none⟩), .pointer (some ⟨bq, 0, none⟩), .pointer (some ⟨bu, 0, none⟩), .pointer (some ⟨b8, 0, none⟩)]) rfl rfl) ?_
  refine run_st rfl rfl rfl rfl rfl rfl rfl rfl sizeOf169 (by repeat first|exact Swap.here|apply Swap.there) rfl ?_
  apply run_end
  repeat apply wp_seq'
  refine wp_text rfl ?_
  refine rs rfl (s_ld rfl rfl isAgg169 (.o_ rfl)) ?_
  refine run_callM (L := rcL N m b1 b5 bq rq bu ru b8 (List.replicate N 0) (List.replicate N false) []) (M := []) (vs := [_]) rfl rfl rfl (dst_lt rfl rfl) rfl rfl en149 ?_ (rcChoose_fn N m b1 b5 bq rq bu ru b8 hN1 (by omega) ((N + 1) / 2) 0 (by omega) _ _ [] _ (rc0_ok hN1) (fun p hp => by cases hp)) ?_
  ·skip
   simp only [rcL, List.map_replicate, List.append_nil]
   repeat (first | exact List.Perm.refl _ | refine Pick.tail (by repeat first|exact Pick.here|apply Pick.there) ?_)
  rintro r26 h2 _ ⟨q2, u2, kvs2, rfl, hks2, hgo⟩ hh2
  apply run_end
  have hok2 := RcOk.go (n := N) (by omega) (f := (N + 1) / 2) (k := 0) (rc0_ok hN1)
  have hall : kvs2.map (·.2) = rcAll N := congrArg (·.2.2) hgo
  have hlen := rcAll_len hN1 hN9
  rw [← hall, List.length_map] at hlen
  have hnd := hok2.nd
  rw [show (rcGo N ((N + 1) / 2) 0 (rc0 N)).2.2 = rcAll N from rfl, ← hall] at hnd
  refine WP.letObj (b := m) rfl (by repeat first|exact Pick.here|apply Pick.there) fun h5 hh5 hm5 => ?_
  repeat apply wp_seq'
  refine wp_text rfl ?_
  refine rs rfl (s_ld rfl rfl isAgg115 (.o_ rfl)) ?_
  refine run_call (vs := [_]) rfl rfl rfl rfl rfl rfl en99 (glist_fn kvs2 m _ hm5 (hks2.mono hh5) (by omega) hnd) ?_
  intro v28 h6 hv28 hh6
  refine rm rfl ?_
  refine rm rfl ?_
  apply run_end
  apply wp_ret'
  refine fin_ret (res_tt rfl rfl rfl) ?_
  rw [hO]
  rw [hall] at hv28
  exact ⟨_, rfl, hv28⟩
end Go.Tal

set_option linter.unusedSimpArgs false
namespace Go.Tal
open Go.RowKit Go.Proofs Go.Proofs.Tryz _root_.Tal
def outI (lo hi x : Int) : Bool := decide (x < lo) || decide (hi < x)
/-- A slice has room for its length. -/
def CapOk (v : Value) (n : Nat) : Prop := ∃ A c, v = .slice A n c ∧ n ≤ c
theorem RdT.take {h : H} {A : Option Addr} {n c k : Nat} {l : List (List Int)} (r : RdT h (.slice A n c) l) (hk : k ≤ n) (hn : n ≤ c) : RdT h (.slice (if c = 0 then A else A.map (·.add 0)) k c) (l.take k) := by
 obtain ⟨A', c', e, hm, hr⟩ := r
 simp only [Value.slice.injEq] at e
 obtain ⟨rfl, rfl, rfl⟩ := e
 refine ⟨_, c, by rw [List.length_take, Nat.min_eq_left hk], by rw [List.length_take]; omega, fun hp => ?_⟩
 rw [List.length_take] at hp
 obtain ⟨b, o, rfl, arr, t, fz, h1, h2⟩ := hr (by omega)
 refine ⟨b, o, ?_, arr, t, fz, h1, fun j hj => ?_⟩
 ·rw [if_neg (by omega)]
  rfl
 ·rw [List.length_take] at hj
  obtain ⟨sv, h3, h4⟩ := h2 j (by omega)
  refine ⟨sv, h3, ?_⟩
  rw [List.getD_eq_getElem?_getD] at h4 ⊢
  rw [List.getElem?_take, if_pos (by omega)]
  exact h4
def idxT (p : List Int → Bool) (l : List (List Int)) : Int := if l.any p then (l.findIdx p : Int) else -1
theorem idxT_some {p : List Int → Bool} {l : List (List Int)} {i : Nat} (hi : i < l.length) (hp : p (l.getD i []) = true) (hn : ∀ j, j < i → p (l.getD j []) = false) : idxT p l = i := by
 simp only [List.getD_eq_getElem?_getD, List.getElem?_eq_getElem hi, Option.getD_some] at hp
 have h1 : l.any p = true := List.any_eq_true.2 ⟨_, List.getElem_mem hi, hp⟩
 rw [idxT, if_pos h1, (List.findIdx_eq hi).2 ⟨hp, fun j hj => by have := hn j hj; simpa [List.getD_eq_getElem?_getD, List.getElem?_eq_getElem (show j < l.length by omega)] using this⟩]
theorem idxT_none {p : List Int → Bool} {l : List (List Int)} (hn : ∀ j, j < l.length → p (l.getD j []) = false) : idxT p l = -1 := by
 rw [idxT, if_neg]
 rw [List.any_eq_true]
 rintro ⟨x, hx, hp⟩
 obtain ⟨j, hj, rfl⟩ := List.getElem_of_mem hx
 have := hn j hj
 simp only [List.getD_eq_getElem?_getD, List.getElem?_eq_getElem hj, Option.getD_some] at this
 rw [hp] at this; cases this
theorem idxT_any (p : List Int → Bool) (l : List (List Int)) : decide (0 ≤ idxT p l) = l.any p := by
 unfold idxT
 cases l.any p with
 | true => simp
 | false => simp
theorem en215 : ∀ args w, (callFunc 215 args).run Tryz.prog w = .ok (.enter 215 args) w := enters_of func215 (by kernel_rfl) rfl
theorem en217 : ∀ args w, (callFunc 217 args).run Tryz.prog w = .ok (.enter 217 args) w := enters_of func217 (by kernel_rfl) rfl
theorem firstI_at {f : Nat → Int} {n k : Nat} (hk : k < n) (h0 : f k ≠ 0) (hn : ∀ j, j < k → f j = 0) : firstI ((List.range n).map f) = f k := by
 have e : (List.range n).map f = (List.range k).map f ++ f k :: ((List.range (n - k - 1)).map fun j => f (k + 1 + j)) := by
  apply List.ext_getElem
  ·simp; omega
  ·intro j h1 h2
   simp only [List.length_map, List.length_range] at h1
   rw [List.getElem_map, List.getElem_range, List.getElem_append]
   split
   ·rw [List.getElem_map, List.getElem_range]
   ·rename_i h3
    simp only [List.length_map, List.length_range] at h3 ⊢
    rw [List.getElem_cons]
    split
    ·congr 1; omega
    ·rw [List.getElem_map, List.getElem_range]; congr 1; omega
 rw [e]
 unfold firstI
 rw [List.find?_append, List.find?_eq_none.2 (fun x hx => by obtain ⟨j, hj, rfl⟩ := List.mem_map.1 hx; simp [hn j (List.mem_range.1 hj)])]
 simp [h0]
theorem firstI_no {f : Nat → Int} {n : Nat} (hn : ∀ j, j < n → f j = 0) : firstI ((List.range n).map f) = 0 := by
 unfold firstI
 rw [List.find?_eq_none.2 (fun x hx => by obtain ⟨j, hj, rfl⟩ := List.mem_map.1 hx; simp [hn j (List.mem_range.1 hj)])]
 rfl
def cellI (n : Int) (l : List Int) (k : Nat) : Int := firstI [whenI (decide (l.getD k 0 < 0) || decide (n ≤ l.getD k 0)) 10, whenI (decide (0 < (k : Int)) && decide (l.getD k 0 ≤ l.getD ((k : Int) - 1).toNat 0)) 11]
def rowI (n : Int) (l : List Int) : Int := firstI ((List.range l.length).map (cellI n l))
def lineI (n : Int) (ls : List (List Int)) (i : Nat) : Int := if ((ls.getD i []).length : Int) = 0 then 12 else if rowI n (ls.getD i []) ≠ 0 then rowI n (ls.getD i []) else whenI ((ls.take i).any fun o => decide (o = ls.getD i [])) 9
def sysI0 (n : Int) (ls : List (List Int)) : Int := firstI [whenI ([n].any (outI 1 256)) 3, whenI (decide (128 < (ls.length : Int))) 5]
def sysI (n : Int) (ls : List (List Int)) : Int := if sysI0 n ls ≠ 0 then sysI0 n ls else firstI ((List.range ls.length).map (lineI n ls))
theorem lineI_row {n : Int} {ls : List (List Int)} {i k : Nat} (h0 : ¬ ((ls.getD i []).length : Int) = 0) (hk : k < (ls.getD i []).length) (hc : cellI n (ls.getD i []) k ≠ 0) (hn : ∀ j, j < k → cellI n (ls.getD i []) j = 0) : lineI n ls i = cellI n (ls.getD i []) k := by
 have e : rowI n (ls.getD i []) = cellI n (ls.getD i []) k := firstI_at hk hc hn
 rw [lineI, if_neg h0, e, if_pos hc]
theorem lineI_end {n : Int} {ls : List (List Int)} {i : Nat} (h0 : ¬ ((ls.getD i []).length : Int) = 0) (hn : ∀ j, j < (ls.getD i []).length → cellI n (ls.getD i []) j = 0) : lineI n ls i = whenI ((ls.take i).any fun o => decide (o = ls.getD i [])) 9 := by
 have e : rowI n (ls.getD i []) = 0 := firstI_no hn
 rw [lineI, if_neg h0, e, if_neg (by simp)]
theorem RdI.cs {h : H} {v : Value} {xs : List Int} (r : RdI h v xs) : v.cells = #[v] := by
 obtain ⟨A, c, e, _⟩ := r
 subst e
 rfl
theorem en216 : ∀ args w, (callFunc 216 args).run Tryz.prog w = .ok (.enter 216 args) w := enters_of func216 (by kernel_rfl) rfl
set_option maxRecDepth 8000 in
theorem first2_fn (l : List Int) (v : Value) (h : H) (hl : RdI h v l) : FnV Tryz.prog 165 #[v] h (.int .i64 (firstI l)) := by
 have hlm := hl.len
 refine fn_of (vs := [v]) func165 rfl ntmps165 (Nat.le_of_ble_eq_true rfl) fun w hw => ?_
 apply wp_seq'
 refine wp_text rfl ?_
 refine rm rfl ?_
 apply run_end
 apply wp_seq'
 apply wp_seq'
 refine wp_text rfl ?_
 refine rm rfl ?_
 refine rs rfl (s_lenI hl rfl rfl underlying178) ?_
 refine rm rfl ?_
 apply run_end
 apply wp_block'
 refine wp_loop' (fun i : Nat => i ≤ l.length ∧ firstI (l.drop i) = firstI l) (fun i => ⟨[(7, .int .i64 i), (6, .int .i64 l.length), (5, v)], h, []⟩) (fun i => l.length - i) 0 ⟨Nat.zero_le _, by simp⟩ ⟨by repeat (first|exact True.intro|refine And.intro rfl ?_), rfl, by repeat (first|exact NS _|exact SR _|apply SCC|apply SC)⟩ fun i hi => ?_
 obtain ⟨hi, hp⟩ := hi
 apply wp_seq'
 refine wp_text rfl ?_
 refine rs rfl (s_lt rfl rfl rfl) ?_
 apply run_end
 apply wp_seq'
 refine wp_if' rfl (fun hc8 => ?_) (fun hc8 => ?_)
 ·skip
  apply wp_skip'
  apply wp_seq'
  apply wp_block'
  apply wp_seq'
  refine wp_text rfl ?_
  refine rs rfl (s_iaI hl (by omega) (by omega) rfl rfl rfl underlying178 sizeOf27) ?_
  refine rs rfl (s_ldI hl (by omega) (by omega) rfl rfl isAgg27) ?_
  try simp only [Int.toNat_natCast]
  refine rm rfl ?_
  apply run_end
  apply wp_seq'
  refine wp_text rfl ?_
  refine rm rfl ?_
  refine rs rfl (s_ne rfl rfl rfl) ?_
  apply run_end
  refine wp_if' rfl (fun hc12 => ?_) (fun hc12 => ?_)
  ·skip
   apply wp_seq'
   refine wp_text rfl ?_
   refine rm rfl ?_
   refine rm rfl ?_
   apply run_end
   apply wp_ret'
   exact fin_ret (res_tmp rfl rfl) (by rw [← hp, firstI_drop (i := i) (by omega), if_neg hc12])
  ·skip
   apply wp_skip'
   refine wp_text rfl ?_
   refine rs rfl (s_add rfl rfl rfl (IntWalk.i64_in _ (by omega))) ?_
   refine rm rfl ?_
   apply run_end
   exact ⟨i + 1, ⟨by omega, by rw [← hp, firstI_drop (i := i) (by omega), if_pos (Decidable.not_not.1 hc12)]⟩, by omega, ⟨by repeat (first|exact True.intro|refine And.intro rfl ?_), rfl, by repeat (first|exact NS _|exact SR _|apply SCC|apply SC)⟩⟩
 ·skip
  apply wp_exit'
  apply wp_seq'
  refine wp_text rfl ?_
  refine rm rfl ?_
  apply run_end
  apply wp_ret'
  exact fin_ret (res_tmp rfl rfl) (by rw [← hp, List.drop_eq_nil_of_le (by omega)]; rfl)
set_option maxRecDepth 8000 in
theorem when2_fn (b : Bool) (e : Int) (h : H) : FnV Tryz.prog 167 #[.bool b, .int .i64 e] h (.int .i64 (whenI b e)) := by
 refine fn_of (vs := [.bool b, .int .i64 e]) func167 rfl ntmps167 (Nat.le_of_ble_eq_true rfl) fun w hw => ?_
 apply wp_seq'
 refine wp_text rfl ?_
 refine rm rfl ?_
 apply run_end
 apply wp_seq'
 apply wp_seq'
 refine wp_text rfl ?_
 refine rm rfl ?_
 apply run_end
 refine wp_cond' rfl (fun hc5 => ?_) (fun hc5 => ?_)
 ·skip
  apply wp_seq'
  refine wp_text rfl ?_
  refine rm rfl ?_
  refine rm rfl ?_
  apply run_end
  apply wp_ret'
  exact fin_ret (res_tmp rfl rfl) (by rw [hc5]; rfl)
 ·skip
  apply wp_skip'
  apply wp_seq'
  refine wp_text rfl ?_
  refine rm rfl ?_
  apply run_end
  apply wp_ret'
  exact fin_ret (res_tmp rfl rfl) (by rw [hc5]; rfl)
set_option maxRecDepth 8000 in
theorem out_fn (x lo hi : Int) (b1 b2 : Nat) (h : H) (hb1 : h b1 = some (.cells #[.int .i64 lo] 3 (0, 0))) (hb2 : h b2 = some (.cells #[.int .i64 hi] 3 (0, 0))) : FnV Tryz.prog 215 #[.int .i64 x, .pointer (some ⟨b1, 0, none⟩), .pointer (some ⟨b2, 0, none⟩)] h (.bool (outI lo hi x)) := by
 refine fn_of (vs := [.int .i64 x, .pointer (some ⟨b1, 0, none⟩), .pointer (some ⟨b2, 0, none⟩)]) func215 rfl ntmps215 (Nat.le_of_ble_eq_true rfl) fun w hw => ?_
 apply wp_seq'
 refine wp_text rfl ?_
 refine rm rfl ?_
 apply run_end
 apply wp_seq'
 refine wp_text rfl ?_
 refine rm rfl ?_
 refine rs rfl (s_ld rfl rfl isAgg3 (.imm _ _ _ hb1 rfl)) ?_
 refine rs rfl (s_lt rfl rfl rfl) ?_
 refine rm rfl ?_
 refine run_cases (t := 8) rfl (fun hg8 => ?_) (fun hg8 => ?_)
 ·skip
  refine run_skip rfl rfl rfl rfl rfl rfl rfl ?_
  refine run_skip rfl rfl rfl rfl rfl rfl rfl ?_
  refine run_skip rfl rfl rfl rfl rfl rfl rfl ?_
  refine rs rfl (s_pick rfl rfl (fun _ => rfl) (fun h => by cases h)) ?_
  refine rm rfl ?_
  apply run_end
  apply wp_ret'
  exact fin_ret (res_tmp rfl rfl) (by simp [outI, *])
 ·skip
  refine rsg rfl rfl (s_move rfl rfl) ?_
  refine rsg rfl rfl (s_ld rfl rfl isAgg3 (.imm _ _ _ hb2 rfl)) ?_
  refine rsg rfl rfl (s_gt rfl rfl rfl) ?_
  refine rs rfl (s_pick rfl rfl (fun h => by cases h) (fun _ => rfl)) ?_
  refine rm rfl ?_
  apply run_end
  apply wp_ret'
  exact fin_ret (res_tmp rfl rfl) (by simp [outI, *])
set_option maxRecDepth 8000 in
theorem same_line_fn (o l : List Int) (vo vl : Value) (b1 : Nat) (h : H) (ho : RdI h vo o) (hl : RdI h vl l) (hb1 : h b1 = some (.cells #[vl] 35 (0, 0))) : FnV Tryz.prog 217 #[vo, .pointer (some ⟨b1, 0, none⟩)] h (.bool (decide (o = l))) := by
 refine fn_of (vs := [vo, .pointer (some ⟨b1, 0, none⟩)]) func217 rfl ntmps217 (Nat.le_of_ble_eq_true rfl) fun w hw => ?_
 apply wp_seq'
 refine wp_text rfl ?_
 refine rm rfl ?_
 apply run_end
 apply wp_seq'
 refine wp_text rfl ?_
 refine rm rfl ?_
 refine rs rfl (s_ld rfl rfl isAgg35 (.imm _ _ _ hb1 rfl)) ?_
 refine run_callv (vs := [_, _]) rfl rfl rfl rfl rfl rfl en158 (eqI_fn _ _ _ _ _ ho hl) ?_
 refine rm rfl ?_
 apply run_end
 apply wp_ret'
 exact fin_ret (res_tmp rfl rfl) (rfl)
set_option maxRecDepth 8000 in
theorem idxC_fn (p : Int → Bool) (l : List Int) (v : Value) (g : Nat) (cb : Array Value) (h : H) (hl : RdI h v l) (hen : ∀ args w, (callFunc g args).run Tryz.prog w = .ok (.enter g args) w) (hp : ∀ x, FnV Tryz.prog g (#[.int .i64 x] ++ cb) h (.bool (p x))) : FnV Tryz.prog 197 #[v, .func (.func g) #[] cb] h (.int .i64 (idxF p l)) := by
 have hlm := hl.len
 refine fn_of (vs := [v, .func (.func g) #[] cb]) func197 rfl ntmps197 (Nat.le_of_ble_eq_true rfl) fun w hw => ?_
 apply wp_seq'
 refine wp_text rfl ?_
 refine rm rfl ?_
 apply run_end
 apply wp_seq'
 apply wp_seq'
 refine wp_text rfl ?_
 refine rm rfl ?_
 refine rs rfl (s_lenI hl rfl rfl underlying35) ?_
 refine rm rfl ?_
 apply run_end
 apply wp_block'
 refine wp_loop' (fun i : Nat => i ≤ l.length ∧ ∀ j, j < i → p (l.getD j 0) = false) (fun i => ⟨[(8, .int .i64 i), (7, .int .i64 l.length), (1, .func (.func g) #[] cb), (0, v)], h, []⟩) (fun i => l.length - i) 0 ⟨Nat.zero_le _, fun _ h => by omega⟩ ⟨by repeat (first|exact True.intro|refine And.intro rfl ?_), rfl, by repeat (first|exact NS _|exact SR _|apply SCC|apply SC)⟩ fun i hi => ?_
 obtain ⟨hi, hn⟩ := hi
 apply wp_seq'
 refine wp_text rfl ?_
 refine rs rfl (s_lt rfl rfl rfl) ?_
 apply run_end
 apply wp_seq'
 refine wp_if' rfl (fun hc9 => ?_) (fun hc9 => ?_)
 ·skip
  apply wp_skip'
  apply wp_seq'
  apply wp_block'
  apply wp_seq'
  refine wp_text rfl ?_
  refine rm rfl ?_
  refine rm rfl ?_
  apply run_end
  apply wp_seq'
  refine wp_text rfl ?_
  refine rm rfl ?_
  refine rm rfl ?_
  refine rm rfl ?_
  refine rs rfl (s_iaI hl (by omega) (by omega) rfl rfl rfl underlying35 sizeOf3) ?_
  refine rs rfl (s_ldI hl (by omega) (by omega) rfl rfl isAgg3) ?_
  try simp only [Int.toNat_natCast]
  refine run_callwv (vs := [_]) rfl rfl rfl rfl rfl rfl rfl hen (hp _) ?_
  apply run_end
  refine wp_cond' rfl (fun hc16 => ?_) (fun hc16 => ?_)
  ·skip
   apply wp_seq'
   refine wp_text rfl ?_
   refine rm rfl ?_
   refine rm rfl ?_
   apply run_end
   apply wp_ret'
   exact fin_ret (res_tmp rfl rfl) (by rw [idxF_some (i := i) (by omega) hc16 hn])
  ·skip
   apply wp_skip'
   refine wp_text rfl ?_
   refine rs rfl (s_add rfl rfl rfl (IntWalk.i64_in _ (by omega))) ?_
   refine rm rfl ?_
   apply run_end
   exact ⟨i + 1, ⟨by omega, fun j hj => (Nat.lt_succ_iff_lt_or_eq.1 hj).elim (hn j) (fun e => by rw [e]; exact hc16)⟩, by omega, ⟨by repeat (first|exact True.intro|refine And.intro rfl ?_), rfl, by repeat (first|exact NS _|exact SR _|apply SCC|apply SC)⟩⟩
 ·skip
  apply wp_exit'
  apply wp_seq'
  refine wp_text rfl ?_
  refine rm rfl ?_
  apply run_end
  apply wp_ret'
  exact fin_ret (res_tmp rfl rfl) (by rw [idxF_none (fun j hj => hn j (by omega))])
set_option maxRecDepth 8000 in
theorem containsC_fn (p : Int → Bool) (l : List Int) (v : Value) (g : Nat) (cb : Array Value) (h : H) (hl : RdI h v l) (hen : ∀ args w, (callFunc g args).run Tryz.prog w = .ok (.enter g args) w) (hp : ∀ x, FnV Tryz.prog g (#[.int .i64 x] ++ cb) h (.bool (p x))) : FnV Tryz.prog 136 #[v, .func (.func g) #[] cb] h (.bool (l.any p)) := by
 refine fn_of (vs := [v, .func (.func g) #[] cb]) func136 rfl ntmps136 (Nat.le_of_ble_eq_true rfl) fun w hw => ?_
 apply wp_seq'
 refine wp_text rfl ?_
 refine rm rfl ?_
 apply run_end
 apply wp_seq'
 refine wp_text rfl ?_
 refine rm rfl ?_
 refine rm rfl ?_
 refine run_callv (vs := [_, _]) rfl rfl rfl rfl rfl rfl en197 (idxC_fn _ _ _ _ _ _ hl (by assumption) (by assumption)) ?_
 refine rs rfl (s_ge rfl rfl rfl) ?_
 refine rm rfl ?_
 apply run_end
 apply wp_ret'
 exact fin_ret (res_tmp rfl rfl) (by rw [idxF_any])
set_option maxRecDepth 8000 in
theorem idxT_fn (p : List Int → Bool) (l : List (List Int)) (v : Value) (g : Nat) (cb : Array Value) (h : H) (hl : RdT h v l) (hen : ∀ args w, (callFunc g args).run Tryz.prog w = .ok (.enter g args) w) (hp : ∀ x xv, RdI h xv x → FnV Tryz.prog g (#[xv] ++ cb) h (.bool (p x))) : FnV Tryz.prog 259 #[v, .func (.func g) #[] cb] h (.int .i64 (idxT p l)) := by
 have hlm := hl.len
 refine fn_of (vs := [v, .func (.func g) #[] cb]) func259 rfl ntmps259 (Nat.le_of_ble_eq_true rfl) fun w hw => ?_
 apply wp_seq'
 refine wp_text rfl ?_
 refine rm rfl ?_
 apply run_end
 apply wp_seq'
 apply wp_seq'
 refine wp_text rfl ?_
 refine rm rfl ?_
 refine rs rfl (s_lenT hl rfl rfl underlying26) ?_
 refine rm rfl ?_
 apply run_end
 apply wp_block'
 refine wp_loop' (fun i : Nat => i ≤ l.length ∧ ∀ j, j < i → p (l.getD j []) = false) (fun i => ⟨[(8, .int .i64 i), (7, .int .i64 l.length), (1, .func (.func g) #[] cb), (0, v)], h, []⟩) (fun i => l.length - i) 0 ⟨Nat.zero_le _, fun _ h => by omega⟩ ⟨by repeat (first|exact True.intro|refine And.intro rfl ?_), rfl, by repeat (first|exact NS _|exact SR _|apply SCC|apply SC)⟩ fun i hi => ?_
 obtain ⟨hi, hn⟩ := hi
 apply wp_seq'
 refine wp_text rfl ?_
 refine rs rfl (s_lt rfl rfl rfl) ?_
 apply run_end
 apply wp_seq'
 refine wp_if' rfl (fun hc9 => ?_) (fun hc9 => ?_)
 ·skip
  apply wp_skip'
  apply wp_seq'
  apply wp_block'
  apply wp_seq'
  refine wp_text rfl ?_
  refine rm rfl ?_
  refine rm rfl ?_
  apply run_end
  apply wp_seq'
  refine wp_text rfl ?_
  refine rm rfl ?_
  refine rm rfl ?_
  refine rm rfl ?_
  refine rs rfl (s_iaT hl (by omega) (by omega) rfl rfl rfl underlying26 sizeOf35) ?_
  obtain ⟨sv15, hsv15, hat15⟩ := hl.get (j := i) (by omega)
  refine rs rfl (s_ldT hat15 (by omega) rfl rfl isAgg35) ?_
  refine run_callwv (vs := [_]) rfl rfl rfl rfl rfl rfl rfl hen (hp _ _ hsv15) ?_
  apply run_end
  refine wp_cond' rfl (fun hc16 => ?_) (fun hc16 => ?_)
  ·skip
   apply wp_seq'
   refine wp_text rfl ?_
   refine rm rfl ?_
   refine rm rfl ?_
   apply run_end
   apply wp_ret'
   exact fin_ret (res_tmp rfl rfl) (by rw [idxT_some (i := i) (by omega) hc16 hn])
  ·skip
   apply wp_skip'
   refine wp_text rfl ?_
   refine rs rfl (s_add rfl rfl rfl (IntWalk.i64_in _ (by omega))) ?_
   refine rm rfl ?_
   apply run_end
   exact ⟨i + 1, ⟨by omega, fun j hj => (Nat.lt_succ_iff_lt_or_eq.1 hj).elim (hn j) (fun e => by rw [e]; exact hc16)⟩, by omega, ⟨by repeat (first|exact True.intro|refine And.intro rfl ?_), rfl, by repeat (first|exact NS _|exact SR _|apply SCC|apply SC)⟩⟩
 ·skip
  apply wp_exit'
  apply wp_seq'
  refine wp_text rfl ?_
  refine rm rfl ?_
  apply run_end
  apply wp_ret'
  exact fin_ret (res_tmp rfl rfl) (by rw [idxT_none (fun j hj => hn j (by omega))])
set_option maxRecDepth 8000 in
theorem containsT_fn (p : List Int → Bool) (l : List (List Int)) (v : Value) (g : Nat) (cb : Array Value) (h : H) (hl : RdT h v l) (hen : ∀ args w, (callFunc g args).run Tryz.prog w = .ok (.enter g args) w) (hp : ∀ x xv, RdI h xv x → FnV Tryz.prog g (#[xv] ++ cb) h (.bool (p x))) : FnV Tryz.prog 216 #[v, .func (.func g) #[] cb] h (.bool (l.any p)) := by
 refine fn_of (vs := [v, .func (.func g) #[] cb]) func216 rfl ntmps216 (Nat.le_of_ble_eq_true rfl) fun w hw => ?_
 apply wp_seq'
 refine wp_text rfl ?_
 refine rm rfl ?_
 apply run_end
 apply wp_seq'
 refine wp_text rfl ?_
 refine rm rfl ?_
 refine rm rfl ?_
 refine run_callv (vs := [_, _]) rfl rfl rfl rfl rfl rfl en259 (idxT_fn _ _ _ _ _ _ hl (by assumption) (by assumption)) ?_
 refine rs rfl (s_ge rfl rfl rfl) ?_
 refine rm rfl ?_
 apply run_end
 apply wp_ret'
 exact fin_ret (res_tmp rfl rfl) (by rw [idxT_any])
set_option maxRecDepth 8000 in
theorem from_fn (lo hi : Int) (l : List Int) (v : Value) (h : H) (hl : RdI h v l) : FnV Tryz.prog 166 #[.int .i64 lo, .int .i64 hi, v] h (.int .i64 (whenI (l.any (outI lo hi)) 3)) := by
 refine fn_of (vs := [.int .i64 lo, .int .i64 hi, v]) func166 rfl ntmps166 (Nat.le_of_ble_eq_true rfl) fun w hw => ?_
 apply wp_seq'
 refine wp_text rfl ?_
 refine run_box rfl rfl rfl rfl rfl rfl rfl fun b1 => ?_
 refine run_box rfl rfl rfl rfl rfl rfl rfl fun b2 => ?_
 refine rm rfl ?_
 apply run_end
 refine WP.letObj (b := b1) rfl (by repeat first|exact Pick.here|apply Pick.there) fun h1 hh1 hb1 => ?_
 have hl := hl.mono hh1
 refine WP.letObj (b := b2) rfl (by repeat first|exact Pick.here|apply Pick.there) fun h2 hh2 hb2 => ?_
 have hl := hl.mono hh2
 have hb1 := hh2 _ _ hb1
 apply wp_seq'
 refine wp_text rfl ?_
 refine rm rfl ?_
 refine rs rfl (s_mkf (vs := [.pointer (some ⟨b1, 0, none⟩), .pointer (some ⟨b2, 0, none⟩)]) rfl rfl) ?_
 refine run_callv (vs := [_, _]) rfl rfl rfl rfl rfl rfl en136 (containsC_fn (outI lo hi) _ _ 215 _ _ hl en215 (fun x => out_fn x lo hi b1 b2 _ hb1 hb2)) ?_
 refine run_callv (vs := [_, _]) rfl rfl rfl rfl rfl rfl en167 (when2_fn _ _ _) ?_
 refine rm rfl ?_
 apply run_end
 apply wp_ret'
 exact fin_ret (res_tmp rfl rfl) (rfl)
set_option maxRecDepth 8000 in
set_option maxHeartbeats 4000000 in
theorem line_fn (n : Int) (ls : List (List Int)) (tv : Value) (i : Nat) (h : H) (hi : i < ls.length) (ht : RdT h tv ls) (hcap : CapOk tv ls.length) : FnV Tryz.prog 168 #[.agg #[.int .i64 n, tv], .int .i64 i] h (.int .i64 (lineI n ls i)) := by
 obtain ⟨A, c, rfl, hc⟩ := hcap
 have htm := ht.len
 refine fn_of (vs := [.agg #[.int .i64 n, .slice A ls.length c], .int .i64 i]) func168 rfl ntmps168 (Nat.le_of_ble_eq_true rfl) fun w hw => ?_
 apply wp_seq'
 refine wp_text rfl ?_
 refine run_box rfl rfl rfl rfl rfl rfl rfl fun b1 => ?_
 refine rm rfl ?_
 apply run_end
 apply wp_seq'
 refine wp_text rfl ?_
 refine rs rfl (s_fa (off := 1) rfl rfl underlying46 rfl sizeOf26 rfl) ?_
 refine rs rfl (s_ld rfl rfl isAgg26 (.o_ rfl)) ?_
 refine rm rfl ?_
 refine rs rfl (s_iaT ht (by omega) (by omega) rfl rfl rfl underlying26 sizeOf35) ?_
 obtain ⟨sv13, hsv13, hat13⟩ := ht.get (j := i) (by omega)
 refine rs rfl (s_ldT hat13 (by omega) rfl rfl isAgg35) ?_
 refine run_alloc rfl rfl rfl rfl rfl zeroValue35 rfl fun b2 => ?_
 refine run_st rfl rfl rfl rfl rfl rfl (RdI.one (by assumption)) (RdI.cs (by assumption)) sizeOf35 (by repeat first|exact Swap.here|apply Swap.there) rfl ?_
 apply run_end
 have hlm := hsv13.len
 refine WP.letObj (b := b1) rfl (by repeat first|exact Pick.here|apply Pick.there) fun h1 hh1 hb1 => ?_
 have ht := ht.mono hh1
 have hsv13 := hsv13.mono hh1
 refine WP.letObj (b := b2) rfl (by repeat first|exact Pick.here|apply Pick.there) fun h2 hh2 hb2 => ?_
 have ht := ht.mono hh2
 have hsv13 := hsv13.mono hh2
 have hb1 := hh2 _ _ hb1
 apply wp_seq'
 apply wp_seq'
 refine wp_text rfl ?_
 refine rs rfl (s_ld rfl rfl isAgg35 (.imm _ _ _ hb2 rfl)) ?_
 refine rs rfl (s_lenI hsv13 rfl rfl underlying35) ?_
 refine rs rfl (s_eq rfl rfl rfl) ?_
 apply run_end
 refine wp_if' rfl (fun hc16 => ?_) (fun hc16 => ?_)
 ·skip
  apply wp_seq'
  refine wp_text rfl ?_
  refine rm rfl ?_
  apply run_end
  apply wp_ret'
  exact fin_ret (res_tmp rfl rfl) (by rw [lineI, if_pos hc16])
 ·skip
  apply wp_skip'
  apply wp_seq'
  apply wp_seq'
  refine wp_text rfl ?_
  refine rs rfl (s_ld rfl rfl isAgg35 (.imm _ _ _ hb2 rfl)) ?_
  refine rs rfl (s_lenI hsv13 rfl rfl underlying35) ?_
  refine rm rfl ?_
  apply run_end
  apply wp_block'
  refine wp_loopg (fun k : Nat => k ≤ (ls.getD i []).length ∧ ∀ j, j < k → cellI n (ls.getD i []) j = 0) (fun k => ⟨[(19, .int .i64 k), (18, .int .i64 (ls.getD i []).length), (17, sv13), (5, .pointer (some ⟨b2, 0, none⟩)), (2, .pointer (some ⟨b1, 0, none⟩)), (1, .int .i64 i)], []⟩) (fun k => (ls.getD i []).length - k) 0 ⟨Nat.zero_le _, fun _ h => by omega⟩ ⟨by repeat (first|exact True.intro|refine And.intro rfl ?_), (by first | exact fun _ _ hb => hb | assumption), by repeat (first|exact NS _|exact SR _|apply SCC|apply SC)⟩ fun k hk => ?_
  obtain ⟨hk, hn⟩ := hk
  apply wp_seq'
  refine wp_text rfl ?_
  refine rs rfl (s_lt rfl rfl rfl) ?_
  apply run_end
  apply wp_seq'
  refine wp_if' rfl (fun hc20 => ?_) (fun hc20 => ?_)
  ·skip
   apply wp_skip'
   apply wp_seq'
   apply wp_block'
   apply wp_seq'
   refine wp_text rfl ?_
   refine rm rfl ?_
   refine rs rfl (s_iaI hsv13 (by omega) (by omega) rfl rfl rfl underlying35 sizeOf3) ?_
   refine rs rfl (s_ldI hsv13 (by omega) (by omega) rfl rfl isAgg3) ?_
   try simp only [Int.toNat_natCast]
   refine rm rfl ?_
   refine rm rfl ?_
   apply run_end
   apply wp_seq'
   refine wp_text rfl ?_
   refine rm rfl ?_
   refine rs rfl (s_lt rfl rfl rfl) ?_
   refine rm rfl ?_
   refine run_cases (t := 26) rfl (fun hg26 => ?_) (fun hg26 => ?_)
   ·skip
    refine run_skip rfl rfl rfl rfl rfl rfl rfl ?_
    refine run_skip rfl rfl rfl rfl rfl rfl rfl ?_
    refine run_skip rfl rfl rfl rfl rfl rfl rfl ?_
    refine run_skip rfl rfl rfl rfl rfl rfl rfl ?_
    refine rs rfl (s_pick rfl rfl (fun _ => rfl) (fun h => by cases h)) ?_
    refine run_callv (vs := [_, _]) rfl rfl rfl rfl rfl rfl en167 (when2_fn _ _ _) ?_
    refine rm rfl ?_
    refine rs rfl (s_gt rfl rfl rfl) ?_
    refine rm rfl ?_
    refine run_cases (t := 35) rfl (fun hg35 => ?_) (fun hg35 => ?_)
    ·skip
     refine rsg rfl rfl (s_ld rfl rfl isAgg35 (.imm _ _ _ hb2 rfl)) ?_
     refine rsg rfl rfl (s_move rfl rfl) ?_
     refine rsg rfl rfl (s_sub rfl rfl rfl (IntWalk.i64_in _ (by omega))) ?_
     refine rsg rfl rfl (s_iaI hsv13 (by omega) (by omega) rfl rfl rfl underlying35 sizeOf3) ?_
     refine rsg rfl rfl (s_ldI hsv13 (by omega) (by omega) rfl rfl isAgg3) ?_
     try simp only [Int.toNat_natCast]
     refine rsg rfl rfl (s_move rfl rfl) ?_
     refine rsg rfl rfl (s_ge rfl rfl rfl) ?_
     refine rs rfl (s_pick rfl rfl (fun _ => rfl) (fun h => by cases h)) ?_
     refine run_callv (vs := [_, _]) rfl rfl rfl rfl rfl rfl en167 (when2_fn _ _ _) ?_
     refine run_bsl (parts := [_, _]) (vs := [_, _]) rfl rfl rfl rfl rfl rfl (bs178_2 _ _) fun b3 h3 hh3 hb3 => ?_
     have hr3 := rdI_of (xs := [_, _]) hb3 rfl rfl (Nat.le_of_ble_eq_true rfl)
     have ht := ht.mono hh3
     have hsv13 := hsv13.mono hh3
     refine run_callv (vs := [_]) rfl rfl rfl rfl rfl rfl en165 (first2_fn _ _ _ hr3) ?_
     refine rm rfl ?_
     apply run_end
     apply wp_seq'
     refine wp_text rfl ?_
     refine rm rfl ?_
     refine rs rfl (s_ne rfl rfl rfl) ?_
     apply run_end
     refine wp_if' rfl (fun hc48 => ?_) (fun hc48 => ?_)
     ·skip
      have hck : cellI n (ls.getD i []) k ≠ 0 := by (unfold cellI; (try simp only [Int.toNat_natCast] at hg26 hg35 hc48 ⊢); simp only [hg26, hg35, decide_true, decide_false, Bool.true_or, Bool.false_or, Bool.true_and, Bool.false_and]; exact hc48)
      apply wp_seq'
      refine wp_text rfl ?_
      refine rm rfl ?_
      refine rm rfl ?_
      apply run_end
      apply wp_ret'
      exact fin_ret (res_tmp rfl rfl) (by rw [lineI_row hc16 (by omega) hck hn]; unfold cellI; (try simp only [Int.toNat_natCast] at hg26 hg35 ⊢); simp only [hg26, hg35, decide_true, decide_false, Bool.true_or, Bool.false_or, Bool.true_and, Bool.false_and])
     ·skip
      have hck : cellI n (ls.getD i []) k = 0 := by (unfold cellI; (try simp only [Int.toNat_natCast] at hg26 hg35 hc48 ⊢); simp only [hg26, hg35, decide_true, decide_false, Bool.true_or, Bool.false_or, Bool.true_and, Bool.false_and]; exact Decidable.not_not.1 hc48)
      apply wp_skip'
      refine wp_text rfl ?_
      refine rs rfl (s_add rfl rfl rfl (IntWalk.i64_in _ (by omega))) ?_
      refine rm rfl ?_
      apply run_end
      exact ⟨k + 1, ⟨by omega, fun j hj => (Nat.lt_succ_iff_lt_or_eq.1 hj).elim (hn j) (fun e => by rw [e]; exact hck)⟩, by omega, ⟨by repeat (first|exact True.intro|refine And.intro rfl ?_), (by first | exact fun _ _ hb => hb | assumption), by repeat (first|exact NS _|exact SR _|apply SCC|apply SC)⟩⟩
    ·skip
     refine run_skip rfl rfl rfl rfl rfl rfl rfl ?_
     refine run_skip rfl rfl rfl rfl rfl rfl rfl ?_
     refine run_skip rfl rfl rfl rfl rfl rfl rfl ?_
     refine run_skip rfl rfl rfl rfl rfl rfl rfl ?_
     refine run_skip rfl rfl rfl rfl rfl rfl rfl ?_
     refine run_skip rfl rfl rfl rfl rfl rfl rfl ?_
     refine run_skip rfl rfl rfl rfl rfl rfl rfl ?_
     refine rs rfl (s_pick rfl rfl (fun h => by cases h) (fun _ => rfl)) ?_
     refine run_callv (vs := [_, _]) rfl rfl rfl rfl rfl rfl en167 (when2_fn _ _ _) ?_
     refine run_bsl (parts := [_, _]) (vs := [_, _]) rfl rfl rfl rfl rfl rfl (bs178_2 _ _) fun b4 h4 hh4 hb4 => ?_
     have hr4 := rdI_of (xs := [_, _]) hb4 rfl rfl (Nat.le_of_ble_eq_true rfl)
     have ht := ht.mono hh4
     have hsv13 := hsv13.mono hh4
     refine run_callv (vs := [_]) rfl rfl rfl rfl rfl rfl en165 (first2_fn _ _ _ hr4) ?_
     refine rm rfl ?_
     apply run_end
     apply wp_seq'
     refine wp_text rfl ?_
     refine rm rfl ?_
     refine rs rfl (s_ne rfl rfl rfl) ?_
     apply run_end
     refine wp_if' rfl (fun hc48 => ?_) (fun hc48 => ?_)
     ·skip
      have hck : cellI n (ls.getD i []) k ≠ 0 := by (unfold cellI; (try simp only [Int.toNat_natCast] at hg26 hg35 hc48 ⊢); simp only [hg26, hg35, decide_true, decide_false, Bool.true_or, Bool.false_or, Bool.true_and, Bool.false_and]; exact hc48)
      apply wp_seq'
      refine wp_text rfl ?_
      refine rm rfl ?_
      refine rm rfl ?_
      apply run_end
      apply wp_ret'
      exact fin_ret (res_tmp rfl rfl) (by rw [lineI_row hc16 (by omega) hck hn]; unfold cellI; (try simp only [Int.toNat_natCast] at hg26 hg35 ⊢); simp only [hg26, hg35, decide_true, decide_false, Bool.true_or, Bool.false_or, Bool.true_and, Bool.false_and])
     ·skip
      have hck : cellI n (ls.getD i []) k = 0 := by (unfold cellI; (try simp only [Int.toNat_natCast] at hg26 hg35 hc48 ⊢); simp only [hg26, hg35, decide_true, decide_false, Bool.true_or, Bool.false_or, Bool.true_and, Bool.false_and]; exact Decidable.not_not.1 hc48)
      apply wp_skip'
      refine wp_text rfl ?_
      refine rs rfl (s_add rfl rfl rfl (IntWalk.i64_in _ (by omega))) ?_
      refine rm rfl ?_
      apply run_end
      exact ⟨k + 1, ⟨by omega, fun j hj => (Nat.lt_succ_iff_lt_or_eq.1 hj).elim (hn j) (fun e => by rw [e]; exact hck)⟩, by omega, ⟨by repeat (first|exact True.intro|refine And.intro rfl ?_), (by first | exact fun _ _ hb => hb | assumption), by repeat (first|exact NS _|exact SR _|apply SCC|apply SC)⟩⟩
   ·skip
    refine rsg rfl rfl (s_move rfl rfl) ?_
    refine rsg rfl rfl (s_fa (off := 0) rfl rfl underlying46 rfl sizeOf3 rfl) ?_
    refine rsg rfl rfl (s_ld rfl rfl isAgg3 (.imm _ _ _ hb1 rfl)) ?_
    refine rsg rfl rfl (s_ge rfl rfl rfl) ?_
    refine rs rfl (s_pick rfl rfl (fun h => by cases h) (fun _ => rfl)) ?_
    refine run_callv (vs := [_, _]) rfl rfl rfl rfl rfl rfl en167 (when2_fn _ _ _) ?_
    refine rm rfl ?_
    refine rs rfl (s_gt rfl rfl rfl) ?_
    refine rm rfl ?_
    refine run_cases (t := 35) rfl (fun hg35 => ?_) (fun hg35 => ?_)
    ·skip
     refine rsg rfl rfl (s_ld rfl rfl isAgg35 (.imm _ _ _ hb2 rfl)) ?_
     refine rsg rfl rfl (s_move rfl rfl) ?_
     refine rsg rfl rfl (s_sub rfl rfl rfl (IntWalk.i64_in _ (by omega))) ?_
     refine rsg rfl rfl (s_iaI hsv13 (by omega) (by omega) rfl rfl rfl underlying35 sizeOf3) ?_
     refine rsg rfl rfl (s_ldI hsv13 (by omega) (by omega) rfl rfl isAgg3) ?_
     try simp only [Int.toNat_natCast]
     refine rsg rfl rfl (s_move rfl rfl) ?_
     refine rsg rfl rfl (s_ge rfl rfl rfl) ?_
     refine rs rfl (s_pick rfl rfl (fun _ => rfl) (fun h => by cases h)) ?_
     refine run_callv (vs := [_, _]) rfl rfl rfl rfl rfl rfl en167 (when2_fn _ _ _) ?_
     refine run_bsl (parts := [_, _]) (vs := [_, _]) rfl rfl rfl rfl rfl rfl (bs178_2 _ _) fun b5 h5 hh5 hb5 => ?_
     have hr5 := rdI_of (xs := [_, _]) hb5 rfl rfl (Nat.le_of_ble_eq_true rfl)
     have ht := ht.mono hh5
     have hsv13 := hsv13.mono hh5
     refine run_callv (vs := [_]) rfl rfl rfl rfl rfl rfl en165 (first2_fn _ _ _ hr5) ?_
     refine rm rfl ?_
     apply run_end
     apply wp_seq'
     refine wp_text rfl ?_
     refine rm rfl ?_
     refine rs rfl (s_ne rfl rfl rfl) ?_
     apply run_end
     refine wp_if' rfl (fun hc48 => ?_) (fun hc48 => ?_)
     ·skip
      have hck : cellI n (ls.getD i []) k ≠ 0 := by (unfold cellI; (try simp only [Int.toNat_natCast] at hg26 hg35 hc48 ⊢); simp only [hg26, hg35, decide_true, decide_false, Bool.true_or, Bool.false_or, Bool.true_and, Bool.false_and]; exact hc48)
      apply wp_seq'
      refine wp_text rfl ?_
      refine rm rfl ?_
      refine rm rfl ?_
      apply run_end
      apply wp_ret'
      exact fin_ret (res_tmp rfl rfl) (by rw [lineI_row hc16 (by omega) hck hn]; unfold cellI; (try simp only [Int.toNat_natCast] at hg26 hg35 ⊢); simp only [hg26, hg35, decide_true, decide_false, Bool.true_or, Bool.false_or, Bool.true_and, Bool.false_and])
     ·skip
      have hck : cellI n (ls.getD i []) k = 0 := by (unfold cellI; (try simp only [Int.toNat_natCast] at hg26 hg35 hc48 ⊢); simp only [hg26, hg35, decide_true, decide_false, Bool.true_or, Bool.false_or, Bool.true_and, Bool.false_and]; exact Decidable.not_not.1 hc48)
      apply wp_skip'
      refine wp_text rfl ?_
      refine rs rfl (s_add rfl rfl rfl (IntWalk.i64_in _ (by omega))) ?_
      refine rm rfl ?_
      apply run_end
      exact ⟨k + 1, ⟨by omega, fun j hj => (Nat.lt_succ_iff_lt_or_eq.1 hj).elim (hn j) (fun e => by rw [e]; exact hck)⟩, by omega, ⟨by repeat (first|exact True.intro|refine And.intro rfl ?_), (by first | exact fun _ _ hb => hb | assumption), by repeat (first|exact NS _|exact SR _|apply SCC|apply SC)⟩⟩
    ·skip
     refine run_skip rfl rfl rfl rfl rfl rfl rfl ?_
     refine run_skip rfl rfl rfl rfl rfl rfl rfl ?_
     refine run_skip rfl rfl rfl rfl rfl rfl rfl ?_
     refine run_skip rfl rfl rfl rfl rfl rfl rfl ?_
     refine run_skip rfl rfl rfl rfl rfl rfl rfl ?_
     refine run_skip rfl rfl rfl rfl rfl rfl rfl ?_
     refine run_skip rfl rfl rfl rfl rfl rfl rfl ?_
     refine rs rfl (s_pick rfl rfl (fun h => by cases h) (fun _ => rfl)) ?_
     refine run_callv (vs := [_, _]) rfl rfl rfl rfl rfl rfl en167 (when2_fn _ _ _) ?_
     refine run_bsl (parts := [_, _]) (vs := [_, _]) rfl rfl rfl rfl rfl rfl (bs178_2 _ _) fun b6 h6 hh6 hb6 => ?_
     have hr6 := rdI_of (xs := [_, _]) hb6 rfl rfl (Nat.le_of_ble_eq_true rfl)
     have ht := ht.mono hh6
     have hsv13 := hsv13.mono hh6
     refine run_callv (vs := [_]) rfl rfl rfl rfl rfl rfl en165 (first2_fn _ _ _ hr6) ?_
     refine rm rfl ?_
     apply run_end
     apply wp_seq'
     refine wp_text rfl ?_
     refine rm rfl ?_
     refine rs rfl (s_ne rfl rfl rfl) ?_
     apply run_end
     refine wp_if' rfl (fun hc48 => ?_) (fun hc48 => ?_)
     ·skip
      have hck : cellI n (ls.getD i []) k ≠ 0 := by (unfold cellI; (try simp only [Int.toNat_natCast] at hg26 hg35 hc48 ⊢); simp only [hg26, hg35, decide_true, decide_false, Bool.true_or, Bool.false_or, Bool.true_and, Bool.false_and]; exact hc48)
      apply wp_seq'
      refine wp_text rfl ?_
      refine rm rfl ?_
      refine rm rfl ?_
      apply run_end
      apply wp_ret'
      exact fin_ret (res_tmp rfl rfl) (by rw [lineI_row hc16 (by omega) hck hn]; unfold cellI; (try simp only [Int.toNat_natCast] at hg26 hg35 ⊢); simp only [hg26, hg35, decide_true, decide_false, Bool.true_or, Bool.false_or, Bool.true_and, Bool.false_and])
     ·skip
      have hck : cellI n (ls.getD i []) k = 0 := by (unfold cellI; (try simp only [Int.toNat_natCast] at hg26 hg35 hc48 ⊢); simp only [hg26, hg35, decide_true, decide_false, Bool.true_or, Bool.false_or, Bool.true_and, Bool.false_and]; exact Decidable.not_not.1 hc48)
      apply wp_skip'
      refine wp_text rfl ?_
      refine rs rfl (s_add rfl rfl rfl (IntWalk.i64_in _ (by omega))) ?_
      refine rm rfl ?_
      apply run_end
      exact ⟨k + 1, ⟨by omega, fun j hj => (Nat.lt_succ_iff_lt_or_eq.1 hj).elim (hn j) (fun e => by rw [e]; exact hck)⟩, by omega, ⟨by repeat (first|exact True.intro|refine And.intro rfl ?_), (by first | exact fun _ _ hb => hb | assumption), by repeat (first|exact NS _|exact SR _|apply SCC|apply SC)⟩⟩
  ·skip
   apply wp_exit'
   apply wp_seq'
   refine wp_text rfl ?_
   refine rs rfl (s_fa (off := 1) rfl rfl underlying46 rfl sizeOf26 rfl) ?_
   refine rs rfl (s_ld rfl rfl isAgg26 (.imm _ _ _ hb1 rfl)) ?_
   refine rm rfl ?_
   have htk := RdT.take (k := i) ht (by omega) hc
   refine rs rfl (s_hi rfl rfl rfl underlying26 sizeOf35 (by omega)) ?_
   refine rs rfl (s_mkf (vs := [.pointer (some ⟨b2, 0, none⟩)]) rfl rfl) ?_
   refine run_callv (vs := [_, _]) rfl rfl rfl rfl rfl rfl en216 (containsT_fn (fun o => decide (o = ls.getD i [])) _ _ 217 _ _ htk en217 (fun x xv hx => same_line_fn x _ xv _ b2 _ hx hsv13 hb2)) ?_
   refine run_callv (vs := [_, _]) rfl rfl rfl rfl rfl rfl en167 (when2_fn _ _ _) ?_
   refine rm rfl ?_
   apply run_end
   apply wp_ret'
   exact fin_ret (res_tmp rfl rfl) (by rw [lineI_end hc16 (fun j hj => hn j (by omega))])
set_option maxRecDepth 8000 in
set_option maxHeartbeats 4000000 in
theorem system_fn (n : Int) (ls : List (List Int)) (tv : Value) (h : H) (ht : RdT h tv ls) (hcap : CapOk tv ls.length) : FnV Tryz.prog 103 #[.agg #[.int .i64 n, tv]] h (.int .i64 (sysI n ls)) := by
 obtain ⟨A, c, rfl, hc⟩ := hcap
 have htm := ht.len
 refine fn_of (vs := [.agg #[.int .i64 n, .slice A ls.length c]]) func103 rfl ntmps103 (Nat.le_of_ble_eq_true rfl) fun w hw => ?_
 apply wp_seq'
 refine wp_text rfl ?_
 refine run_box rfl rfl rfl rfl rfl rfl rfl fun b1 => ?_
 refine rm rfl ?_
 apply run_end
 apply wp_seq'
 apply wp_seq'
 refine wp_any [0, 1, 4, 5, 6, 7, 2, 3, 8, 9, 10, 11] rfl (by kernel_rfl) ?_
 refine rs rfl (s_fa (off := 0) rfl rfl underlying46 rfl sizeOf3 rfl) ?_
 refine rs rfl (s_ld rfl rfl isAgg3 (.o_ rfl)) ?_
 refine rs rfl (s_fa (off := 1) rfl rfl underlying46 rfl sizeOf26 rfl) ?_
 refine rs rfl (s_ld rfl rfl isAgg26 (.o_ rfl)) ?_
 refine rs rfl (s_lenT ht rfl rfl underlying26) ?_
 refine rs rfl (s_gt rfl rfl rfl) ?_
 refine run_bsl (parts := [_]) (vs := [_]) rfl rfl rfl rfl rfl rfl (bs35_1 _) fun b2 h2 hh2 hb2 => ?_
 have hr2 := rdI_of (xs := [_]) hb2 rfl rfl (Nat.le_of_ble_eq_true rfl)
 have ht := ht.mono hh2
 refine run_callv (vs := [_, _, _]) rfl rfl rfl rfl rfl rfl en166 (from_fn _ _ _ _ _ hr2) ?_
 refine run_callv (vs := [_, _]) rfl rfl rfl rfl rfl rfl en167 (when2_fn _ _ _) ?_
 refine run_bsl (parts := [_, _]) (vs := [_, _]) rfl rfl rfl rfl rfl rfl (bs178_2 _ _) fun b3 h3 hh3 hb3 => ?_
 have hr3 := rdI_of (xs := [_, _]) hb3 rfl rfl (Nat.le_of_ble_eq_true rfl)
 have ht := ht.mono hh3
 have hr2 := hr2.mono hh3
 refine run_callv (vs := [_]) rfl rfl rfl rfl rfl rfl en165 (first2_fn _ _ _ hr3) ?_
 refine rm rfl ?_
 apply run_end
 rw [show firstI [whenI ([n].any (outI 1 256)) 3, whenI (decide (128 < (ls.length : Int))) 5] = sysI0 n ls from rfl]
 apply wp_seq'
 refine wp_text rfl ?_
 refine rm rfl ?_
 refine rs rfl (s_ne rfl rfl rfl) ?_
 apply run_end
 refine wp_if' rfl (fun hc18 => ?_) (fun hc18 => ?_)
 ·skip
  apply wp_seq'
  refine wp_text rfl ?_
  refine rm rfl ?_
  refine rm rfl ?_
  apply run_end
  apply wp_ret'
  exact fin_ret (res_tmp rfl rfl) (by rw [sysI, if_pos hc18])
 ·skip
  apply wp_skip'
  apply wp_seq'
  apply wp_seq'
  refine wp_text rfl ?_
  refine rs rfl (s_fa (off := 1) rfl rfl underlying46 rfl sizeOf26 rfl) ?_
  refine rs rfl (s_ld rfl rfl isAgg26 (.o_ rfl)) ?_
  refine rs rfl (s_lenT ht rfl rfl underlying26) ?_
  refine rm rfl ?_
  apply run_end
  apply wp_block'
  refine wp_loop' (fun k : Nat => k ≤ ls.length ∧ ∀ j, j < k → lineI n ls j = 0) (fun k => ⟨[(23, .int .i64 k), (22, .int .i64 ls.length), (1, .pointer (some ⟨b1, 0, none⟩))], h3, [.obj b1 (.cells #[.int .i64 n, .slice A ls.length c] 46 (0, 0))]⟩) (fun k => ls.length - k) 0 ⟨Nat.zero_le _, fun _ h => by omega⟩ ⟨by repeat (first|exact True.intro|refine And.intro rfl ?_), rfl, by repeat (first|exact NS _|exact SR _|apply SCC|apply SC)⟩ fun k hk => ?_
  obtain ⟨hk, hn⟩ := hk
  apply wp_seq'
  refine wp_text rfl ?_
  refine rs rfl (s_lt rfl rfl rfl) ?_
  apply run_end
  apply wp_seq'
  refine wp_if' rfl (fun hc24 => ?_) (fun hc24 => ?_)
  ·skip
   apply wp_skip'
   apply wp_seq'
   apply wp_block'
   apply wp_seq'
   refine wp_text rfl ?_
   refine rm rfl ?_
   refine rm rfl ?_
   apply run_end
   apply wp_seq'
   refine wp_text rfl ?_
   refine rs rfl (s_ld2 rfl rfl isAgg46 sizeOf46 (.o_ rfl) (.o_ rfl)) ?_
   refine rm rfl ?_
   refine run_callv (vs := [_, _]) rfl rfl rfl rfl rfl rfl en168 (line_fn n ls _ k _ (by omega) ht ⟨_, _, rfl, hc⟩) ?_
   refine rm rfl ?_
   apply run_end
   apply wp_seq'
   refine wp_text rfl ?_
   refine rm rfl ?_
   refine rs rfl (s_ne rfl rfl rfl) ?_
   apply run_end
   refine wp_if' rfl (fun hc30 => ?_) (fun hc30 => ?_)
   ·skip
    apply wp_seq'
    refine wp_text rfl ?_
    refine rm rfl ?_
    refine rm rfl ?_
    apply run_end
    apply wp_ret'
    exact fin_ret (res_tmp rfl rfl) (by rw [sysI, if_neg hc18, firstI_at (k := k) (by omega) hc30 hn])
   ·skip
    apply wp_skip'
    refine wp_text rfl ?_
    refine rs rfl (s_add rfl rfl rfl (IntWalk.i64_in _ (by omega))) ?_
    refine rm rfl ?_
    apply run_end
    exact ⟨k + 1, ⟨by omega, fun j hj => (Nat.lt_succ_iff_lt_or_eq.1 hj).elim (hn j) (fun e => by rw [e]; exact Decidable.not_not.1 hc30)⟩, by omega, ⟨by repeat (first|exact True.intro|refine And.intro rfl ?_), rfl, by repeat (first|exact NS _|exact SR _|apply SCC|apply SC)⟩⟩
  ·skip
   apply wp_exit'
   apply wp_seq'
   refine wp_text rfl ?_
   refine rm rfl ?_
   apply run_end
   apply wp_ret'
   exact fin_ret (res_tmp rfl rfl) (by rw [sysI, if_neg hc18, firstI_no (fun j hj => hn j (by omega))])
end Go.Tal

/-
 Symbolic states: lookups without a second result.
-/
namespace Go.Tal
open Go.RowKit
theorem run_look1 {P : Program} {t k e : TypeId} {b : Nat} {s : ByteArray} {z : Value} {kvs : List (ByteArray × Value)} (ht : P.underlying t = some (.map k e)) (hk : P.underlying k = some .string) (hz : ∀ w, (zeroValue e).run P w = .ok z w) {w : World} (hb : w.heap[b]? = some (mapO kvs)) :
 (Instr.lookup t (.map (some b)) (.string s) false).run P w = .ok ((kvGet kvs s).getD z) w := by
 obtain ⟨r, h1, h2⟩ := run_findKey_str (s := s) hk kvs w
 have hg : (getObj b).run P w = .ok (mapO kvs) w := by simp [getObj, Sem.run, hb, mapO]
 simp only [Instr.lookup, Sem.run_bind, run_underlying ht, Result.andThen_ok, hg, mapO, Sem.run_pure, run_checkKey' hk, h1]
 rw [← h2]
 cases r with
 | none => simp [hz w]
 | some p => simp
theorem s_look1 {P : Program} {o : Oper} {F : List (Nat × Value)} {h : H} {L : List Own} {x y : Operand} {t k e : TypeId} {b : Nat} {s : ByteArray} {zv : Value} {kvs : List (ByteArray × Value)} (ho : o.op = .lookup t x y false) (hx : evF F x = some (.map (some b))) (hy : evF F y = some (.string s)) (ht : P.underlying t = some (.map k e)) (hk : P.underlying k = some .string) (hz : ∀ w, (zeroValue e).run P w = .ok zv w) (hm : MapAt h L b kvs) :
 SoftOk P o F h L ((kvGet kvs s).getD zv) := fun a w ha hw => by
 have h1 := agree_of ha (by rw [ho]; simp [Op.operands]) hx
 have h2 := agree_of ha (x := y) (by rw [ho]; simp [Op.operands]) hy
 have hw : Sat h L w := by
  rcases hw with hw | hw
  ·simp [cls, ho] at hw
  ·exact hw
 simp only [execOp, ho, h1, h2]
 exact run_v (run_look1 ht hk hz (hm.at_ hw))
theorem kvGet_put {kvs : List (ByteArray × Value)} {s t : ByteArray} {v : Value} : kvGet (kvPut kvs s v) t = if t == s then some v else kvGet kvs t := by
 induction kvs with
 | nil => simp only [kvPut, kvGet, List.find?_cons, List.find?_nil]; cases t == s <;> rfl
 | cons p r ih =>
  obtain ⟨k, u⟩ := p
  simp only [kvPut]
  by_cases h : s == k
  ·rw [if_pos h]
   have e : s = k := (MapKept.bytes_beq s k).1 h
   subst e
   simp only [kvGet, List.find?_cons]
   cases t == s <;> rfl
  ·rw [if_neg h]
   simp only [kvGet, List.find?_cons] at ih ⊢
   by_cases h2 : t == k
   ·have e : t = k := (MapKept.bytes_beq t k).1 h2
    subst e
    have h3 : (t == s) = false := by
     rw [Bool.eq_false_iff]; intro h4; apply h
     have e2 : t = s := (MapKept.bytes_beq t s).1 h4
     subst e2; exact h2
    rw [h2, h3]; rfl
   ·rw [Bool.not_eq_true] at h2
    rw [h2]
    exact ih
end Go.Tal

namespace Go.Tal
open Go.RowKit Go.Proofs Go.Proofs.Tryz _root_.Tal
theorem getD_memL {l : List (List Int)} {i : Nat} (h : i < l.length) : l.getD i [] ∈ l := by
 rw [List.getD_eq_getElem?_getD, List.getElem?_eq_getElem h]
 exact List.getElem_mem h
def keyS (o : List Int) : ByteArray := strOfNums (keyL o false)
def lineKV (ls : List (List Int)) : List (ByteArray × Value) := ls.foldl (fun kvs l => kvPut kvs (keyS l) (.bool true)) []
theorem lineKV_succ {ls : List (List Int)} {k : Nat} (hk : k < ls.length) : lineKV (ls.take (k + 1)) = kvPut (lineKV (ls.take k)) (keyS (ls.getD k [])) (.bool true) := foldl_take _ _ hk
theorem kvGet_fold (s : ByteArray) : ∀ (ls : List (List Int)) (kvs : List (ByteArray × Value)), kvGet (ls.foldl (fun kvs l => kvPut kvs (keyS l) (.bool true)) kvs) s = if ls.any (fun o => s == keyS o) then some (.bool true) else kvGet kvs s
 | [], kvs => rfl
 | l :: ls, kvs => by
  rw [List.foldl_cons, kvGet_fold s ls, kvGet_put, List.any_cons]
  cases ls.any (fun o => s == keyS o) <;> cases (s == keyS l) <;> rfl
theorem kvGet_lines (ls : List (List Int)) (s : ByteArray) : kvGet (lineKV ls) s = if ls.any (fun o => s == keyS o) then some (.bool true) else none := kvGet_fold s ls []
def imgS (a l : List Int) : List Int := sortedI (l.map fun x => a.getD x.toNat 0)
def keepI (ls : List (List Int)) (a l : List Int) : Bool := ls.any fun o => keyS (imgS a l) == keyS o
theorem keepI_get (ls : List (List Int)) (a l : List Int) : (kvGet (lineKV ls) (keyS (imgS a l))).getD (.bool false) = .bool (keepI ls a l) := by
 rw [kvGet_lines, keepI]
 cases ls.any fun o => keyS (imgS a l) == keyS o <;> rfl
theorem lineI_zero {n : Int} {ls : List (List Int)} {i : Nat} (h : lineI n ls i = 0) : 0 < (ls.getD i []).length ∧ (∀ k, k < (ls.getD i []).length → (0 ≤ (ls.getD i []).getD k 0 ∧ (ls.getD i []).getD k 0 < n) ∧ (0 < k → (ls.getD i []).getD (k - 1) 0 < (ls.getD i []).getD k 0)) ∧ ∀ o ∈ ls.take i, o ≠ ls.getD i [] := by
 unfold lineI at h
 by_cases h0 : ((ls.getD i []).length : Int) = 0
 ·rw [if_pos h0] at h; cases h
 rw [if_neg h0] at h
 by_cases h1 : rowI n (ls.getD i []) ≠ 0
 ·rw [if_pos h1] at h; exact absurd h h1
 rw [if_neg h1, whenI_zero (by decide)] at h
 have h2 := Decidable.not_not.1 h1
 unfold rowI at h2
 rw [firstI_zero] at h2
 refine ⟨by omega, fun k hk => ?_, fun o ho e => ?_⟩
 ·have h3 := h2 _ (List.mem_map.2 ⟨k, List.mem_range.2 hk, rfl⟩)
  simp only [cellI, firstI_zero, List.mem_cons, List.not_mem_nil, or_false, forall_eq_or_imp, forall_eq, whenI_zero (show (10 : Int) ≠ 0 by decide), whenI_zero (show (11 : Int) ≠ 0 by decide), Bool.or_eq_false_iff, Bool.and_eq_false_iff, decide_eq_false_iff_not] at h3
  obtain ⟨⟨h4, h5⟩, h6⟩ := h3
  refine ⟨by omega, fun hk0 => ?_⟩
  rcases h6 with h6 | h6
  ·omega
  ·rw [show ((k : Int) - 1).toNat = k - 1 from by omega] at h6; omega
 ·have h3 := List.any_eq_false.1 h o ho
  exact h3 (by simpa using e)
theorem sysI_zero {n : Int} {ls : List (List Int)} (h : sysI n ls = 0) : (1 ≤ n ∧ n ≤ 256) ∧ ls.length ≤ 128 ∧ ∀ i, i < ls.length → lineI n ls i = 0 := by
 unfold sysI at h
 by_cases h0 : sysI0 n ls ≠ 0
 ·rw [if_pos h0] at h; exact absurd h h0
 rw [if_neg h0, firstI_zero] at h
 have h1 := Decidable.not_not.1 h0
 simp only [sysI0, firstI_zero, List.mem_cons, List.not_mem_nil, or_false, forall_eq_or_imp, forall_eq, whenI_zero (show (3 : Int) ≠ 0 by decide), whenI_zero (show (5 : Int) ≠ 0 by decide), List.any_cons, List.any_nil, Bool.or_false, outI, Bool.or_eq_false_iff, decide_eq_false_iff_not] at h1
 exact ⟨by omega, by omega, fun i hi => h _ (List.mem_map.2 ⟨i, List.mem_range.2 hi, rfl⟩)⟩
theorem line_rng {n : Int} {ls : List (List Int)} (h : sysI n ls = 0) {i : Nat} (hi : i < ls.length) : ∀ k, k < (ls.getD i []).length → 0 ≤ (ls.getD i []).getD k 0 ∧ (ls.getD i []).getD k 0 < n := fun k hk => ((lineI_zero ((sysI_zero h).2.2 i hi)).2.1 k hk).1
set_option maxRecDepth 8000 in
set_option maxHeartbeats 4000000 in
theorem keep1_fn (ls : List (List Int)) (a l : List Int) (va vl : Value) (b3 m : Nat) (h : H) (ha : RdI h va a) (hl : RdI h vl l) (hb : h b3 = some (.cells #[.map (some m)] 184 (0, 0))) (hm : h m = some (mapO (lineKV ls))) (hr : ∀ k, k < l.length → 0 ≤ l.getD k 0 ∧ l.getD k 0 < a.length) : FnV Tryz.prog 169 #[va, vl, .pointer (some ⟨b3, 0, none⟩)] h (.bool (keepI ls a l)) := by
 have hlm := hl.len
 have ham := ha.len
 refine fn_of (vs := [va, vl, .pointer (some ⟨b3, 0, none⟩)]) func169 rfl ntmps169 (Nat.le_of_ble_eq_true rfl) fun w hw => ?_
 repeat apply wp_seq'
 refine wp_text rfl ?_
 refine rm rfl ?_
 apply run_end
 repeat apply wp_seq'
 refine wp_text rfl ?_
 refine rm rfl ?_
 apply run_end
 repeat apply wp_seq'
 refine wp_text rfl ?_
 refine rm rfl ?_
 refine rs rfl (s_lenI hl rfl rfl underlying35) ?_
 refine rm rfl ?_
 apply run_end
 repeat apply wp_seq'
 apply wp_block'
 refine WP.nilrow 3 1 ?_
 refine wp_loop' (ι := Nat × Option Addr × Nat) (fun x => x.1 ≤ l.length) (fun x => ⟨[(11, .int .i64 x.1), (10, .int .i64 l.length), (9, vl), (6, .slice x.2.1 x.1 x.2.2), (2, .pointer (some ⟨b3, 0, none⟩)), (0, va)], h, [.row (.slice x.2.1 x.1 x.2.2) 3 1 x.1 (((l.take x.1).map fun y => a.getD y.toNat 0).map (Value.int .i64))]⟩) (fun x => l.length - x.1) (0, none, 0) (Nat.zero_le _) ⟨by repeat (first|exact True.intro|refine And.intro rfl ?_), rfl, by repeat (first|exact NS _|exact SR _|apply SCC|apply SC)⟩ fun x hx => ?_
 obtain ⟨k, A, q⟩ := x
 dsimp only at hx ⊢
 repeat apply wp_seq'
 refine wp_text rfl ?_
 refine rs rfl (s_lt rfl rfl rfl) ?_
 apply run_end
 repeat apply wp_seq'
 refine wp_if' rfl (fun hc12 => ?_) (fun hc12 => ?_)
 ·skip
  apply wp_skip'
  have hrk := hr k (by omega)
  repeat apply wp_seq'
  apply wp_block'
  repeat apply wp_seq'
  refine wp_text rfl ?_
  refine rs rfl (s_iaI hl (by omega) (by omega) rfl rfl rfl underlying35 sizeOf3) ?_
  refine rs rfl (s_ldI hl (by omega) (by omega) rfl rfl isAgg3) ?_
  refine rm rfl ?_
  apply run_end
  simp only [Int.toNat_natCast]
  repeat apply wp_seq'
  refine wp_text rfl ?_
  refine rm rfl ?_
  refine rm rfl ?_
  refine rm rfl ?_
  refine rs rfl (s_iaI ha (by omega) (by omega) rfl rfl rfl underlying35 sizeOf3) ?_
  refine rs rfl (s_ldI ha (by omega) (by omega) rfl rfl isAgg3) ?_
  refine run_bso (parts := [_]) (vs := [_]) rfl rfl rfl rfl rfl rfl (bs35_1 _) fun b20 => ?_
  refine run_app1 (Value.int .i64) _ rfl rfl rfl rfl rfl rfl rfl underlying35 info3 rfl (fun v' => (by repeat first|exact Swap.here|apply Swap.there)) (by repeat first|exact MH _|apply MT) rfl (by omega) (by decide) fun v21 hv21 => ?_
  obtain ⟨A21, c21, rfl⟩ := hv21
  refine rm rfl ?_
  apply run_end
  refine wp_text rfl ?_
  refine rs rfl (s_add rfl rfl rfl (IntWalk.i64_in _ (by omega))) ?_
  refine rm rfl ?_
  apply run_end
  have e := map_take_succ (f := fun y => a.getD y.toNat 0) (a := l) (i := k) (by omega)
  rw [← e]
  exact ⟨(k + 1, A21, c21), by dsimp only; omega, by dsimp only; omega, ⟨by repeat (first|exact True.intro|refine And.intro rfl ?_), rfl, by repeat (first|exact NS _|exact SR _|apply SCC|apply SC)⟩⟩
 ·skip
  apply wp_exit'
  obtain rfl : k = l.length := by omega
  rw [List.take_length]
  repeat apply wp_seq'
  refine wp_text rfl ?_
  refine rm rfl ?_
  refine run_callM (L := [_]) (M := []) (vs := [_]) rfl rfl rfl (dst_lt rfl rfl) rfl rfl en91 (List.Perm.refl _) (sortIv_fn _ _ _ _ (by omega)) ?_
  rintro _ h20 _ ⟨rfl, e20, rfl⟩ _
  have e21 := e20.symm
  subst e21
  apply run_end
  refine WP.letO rfl (by repeat first|exact Pick.here|apply Pick.there) (by omega) fun h5 hh5 hov => ?_
  have hb := hh5 _ _ hb
  have hm := hh5 _ _ hm
  repeat apply wp_seq'
  refine wp_any [0, 1, 2, 3, 4, 5] rfl (by kernel_rfl) ?_
  refine rs rfl (s_ld rfl rfl isAgg184 (.imm _ _ _ hb rfl)) ?_
  refine rm rfl ?_
  refine rs rfl (s_build1 rfl rfl (b112_0 _ _ _)) ?_
  refine run_callv (vs := [_]) rfl rfl rfl rfl rfl rfl en123 (key_fn _ _ _ _ hov) ?_
  refine rs rfl (s_look1 rfl rfl rfl underlying184 underlying9 zeroValue4 (.imm hm)) ?_
  refine rm rfl ?_
  apply run_end
  apply wp_ret'
  exact fin_ret (res_tmp rfl rfl) (keepI_get ls a l)
set_option maxRecDepth 8000 in
set_option maxHeartbeats 4000000 in
theorem keeper_fn (n : Int) (ls : List (List Int)) (tv : Value) (h : H) (ht : RdT h tv ls) : Fn Tryz.prog 104 #[.agg #[.int .i64 n, tv]] h fun r h' => ∃ b3 m, r = .func (.func 169) #[] #[.pointer (some ⟨b3, 0, none⟩)] ∧ h' b3 = some (.cells #[.map (some m)] 184 (0, 0)) ∧ h' m = some (mapO (lineKV ls)) := by
 have htm := ht.len
 refine fn_of (vs := [.agg #[.int .i64 n, tv]]) func104 rfl ntmps104 (Nat.le_of_ble_eq_true rfl) fun w hw => ?_
 obtain ⟨A, c, rfl, _⟩ := id ht
 repeat apply wp_seq'
 refine wp_text rfl ?_
 refine run_box rfl rfl rfl rfl rfl rfl rfl fun b1 => ?_
 refine rm rfl ?_
 apply run_end
 repeat apply wp_seq'
 refine wp_text rfl ?_
 refine run_mkmapO rfl rfl rfl rfl rfl fun m => ?_
 refine run_alloc rfl rfl rfl rfl rfl zeroValue184 rfl fun b3 => ?_
 refine run_st rfl rfl rfl rfl rfl rfl rfl rfl sizeOf184 (by repeat first|exact Swap.here|apply Swap.there) rfl ?_
 apply run_end
 repeat apply wp_seq'
 refine wp_text rfl ?_
 refine rs rfl (s_fa (off := 1) rfl rfl underlying46 rfl sizeOf26 rfl) ?_
 refine rs rfl (s_ld rfl rfl isAgg26 (.o_ rfl)) ?_
 refine rs rfl (s_lenT ht rfl rfl underlying26) ?_
 refine rm rfl ?_
 apply run_end
 repeat apply wp_seq'
 apply wp_block'
 refine wp_loop' (fun k : Nat => k ≤ ls.length) (fun k => ⟨[(10, .int .i64 k), (9, .int .i64 ls.length), (8, .slice A ls.length c), (3, .pointer (some ⟨b3, 0, none⟩))], h, [.obj b3 (.cells #[.map (some m)] 184 (0, 0)), .obj m (mapO (lineKV (ls.take k)))]⟩) (fun k => ls.length - k) 0 (Nat.zero_le _) ⟨by repeat (first|exact True.intro|refine And.intro rfl ?_), rfl, by repeat (first|exact NS _|exact SR _|apply SCC|apply SC)⟩ fun k hk => ?_
 repeat apply wp_seq'
 refine wp_text rfl ?_
 refine rs rfl (s_lt rfl rfl rfl) ?_
 apply run_end
 repeat apply wp_seq'
 refine wp_if' rfl (fun hc11 => ?_) (fun hc11 => ?_)
 ·skip
  apply wp_skip'
  obtain ⟨sv, hsv, hat⟩ := ht.get (j := k) (by omega)
  obtain ⟨sA, sq, rfl, _⟩ := id hsv
  repeat apply wp_seq'
  apply wp_block'
  repeat apply wp_seq'
  refine wp_text rfl ?_
  refine rs rfl (s_iaT ht (by omega) (by omega) rfl rfl rfl underlying26 sizeOf35) ?_
  refine rs rfl (s_ldT hat (by omega) rfl rfl isAgg35) ?_
  refine rm rfl ?_
  apply run_end
  repeat apply wp_seq'
  refine wp_any [0, 1, 2, 3, 4] rfl (by kernel_rfl) ?_
  refine rs rfl (s_ld rfl rfl isAgg184 (.o_ rfl)) ?_
  refine rm rfl ?_
  refine rs rfl (s_build1 rfl rfl (b112_0 _ _ _)) ?_
  refine run_callv (vs := [_]) rfl rfl rfl rfl rfl rfl en123 (key_fn _ _ _ _ hsv) ?_
  refine run_mapup1 rfl (.inl rfl) rfl rfl rfl rfl rfl underlying184 underlying9 (by repeat first|exact Swap.here|apply Swap.there) ?_
  apply run_end
  have e := lineKV_succ (ls := ls) (k := k) (by omega)
  unfold keyS at e
  rw [← e]
  refine wp_text rfl ?_
  refine rs rfl (s_add rfl rfl rfl (IntWalk.i64_in _ (by omega))) ?_
  refine rm rfl ?_
  apply run_end
  exact ⟨k + 1, by omega, by omega, ⟨by repeat (first|exact True.intro|refine And.intro rfl ?_), rfl, by repeat (first|exact NS _|exact SR _|apply SCC|apply SC)⟩⟩
 ·skip
  apply wp_exit'
  obtain rfl : k = ls.length := by omega
  rw [List.take_length]
  refine WP.letObj (b := m) rfl (by repeat first|exact Pick.here|apply Pick.there) fun h1 hh1 hm => ?_
  refine WP.letObj (b := b3) rfl (by repeat first|exact Pick.here|apply Pick.there) fun h2 hh2 hb3 => ?_
  have hm := hh2 _ _ hm
  repeat apply wp_seq'
  refine wp_text rfl ?_
  refine rs rfl (s_mkf (vs := [.pointer (some ⟨b3, 0, none⟩)]) rfl rfl) ?_
  refine rm rfl ?_
  apply run_end
  apply wp_ret'
  exact fin_ret (res_tmp rfl rfl) ⟨b3, m, rfl, hb3, hm⟩
def keepsE (n : Int) (ls : List (List Int)) (a : List Int) : Int := firstI [sysI n ls, symI a n]
def keepsO (n : Int) (ls : List (List Int)) (a : List Int) : Bool × Int := if keepsE n ls a ≠ 0 then (false, keepsE n ls a) else (ls.all (keepI ls a), 0)
theorem keepsE_zero {n : Int} {ls : List (List Int)} {a : List Int} (h : keepsE n ls a = 0) : sysI n ls = 0 ∧ symI a n = 0 := by
 simpa [keepsE, firstI_zero] using h
set_option maxRecDepth 8000 in
set_option maxHeartbeats 4000000 in
theorem keeps_fn (n : Int) (ls : List (List Int)) (a : List Int) (cm : Bool) (tv va : Value) (h : H) (ht : RdT h tv ls) (hcap : CapOk tv ls.length) (ha : RdI h va a) : FnV Tryz.prog 73 #[.agg #[.int .i64 n, tv], .agg #[va, .bool cm]] h (.tuple #[.bool (keepsO n ls a).1, .int .i64 (keepsO n ls a).2]) := by
 have htm := ht.len
 have ham := ha.len
 refine fn_of (vs := [.agg #[.int .i64 n, tv], .agg #[va, .bool cm]]) func73 rfl ntmps73 (Nat.le_of_ble_eq_true rfl) fun w hw => ?_
 obtain ⟨A, c, rfl, _⟩ := id ht
 repeat apply wp_seq'
 refine wp_text rfl ?_
 refine run_box rfl rfl rfl rfl rfl rfl rfl fun b2 => ?_
 refine run_box rfl rfl rfl rfl rfl rfl rfl fun b3 => ?_
 refine rm rfl ?_
 refine rm rfl ?_
 apply run_end
 repeat apply wp_seq'
 refine wp_any [0, 2, 3, 4, 1, 5, 6, 7, 8] rfl (by kernel_rfl) ?_
 refine rs rfl (s_ld2 rfl rfl isAgg46 sizeOf46 (.o_ rfl) (.o_ rfl)) ?_
 refine rs rfl (s_ld2 rfl rfl isAgg37 sizeOf37 (.o_ rfl) (.o_ rfl)) ?_
 refine rs rfl (s_fa (off := 0) rfl rfl underlying46 rfl sizeOf3 rfl) ?_
 refine rs rfl (s_ld rfl rfl isAgg3 (.o_ rfl)) ?_
 refine run_callv (vs := [_]) rfl rfl rfl rfl rfl rfl en103 (system_fn _ _ _ _ ht hcap) ?_
 refine run_callv (vs := [_, _]) rfl rfl rfl rfl rfl rfl en56 (checkSym_fn _ _ _ _ _ ha) ?_
 refine run_bsl (parts := [_, _]) (vs := [_, _]) rfl rfl rfl rfl rfl rfl (bs178_2 _ _) fun b10 h10 hh10 hb10 => ?_
 have hr10 := rdI_of (xs := [_, _]) hb10 rfl rfl (Nat.le_of_ble_eq_true rfl)
 have ht := ht.mono hh10
 have ha := ha.mono hh10
 refine run_callv (vs := [_]) rfl rfl rfl rfl rfl rfl en94 (first_fn _ _ _ hr10) ?_
 refine rm rfl ?_
 apply run_end
 rw [show firstI [sysI n ls, symI a n] = keepsE n ls a from rfl]
 repeat apply wp_seq'
 refine wp_text rfl ?_
 refine rm rfl ?_
 refine rs rfl (s_ne rfl rfl rfl) ?_
 apply run_end
 repeat apply wp_seq'
 refine wp_if' rfl (fun hc19 => ?_) (fun hc19 => ?_)
 ·skip
  repeat apply wp_seq'
  refine wp_text rfl ?_
  refine rm rfl ?_
  refine rm rfl ?_
  refine rm rfl ?_
  apply run_end
  apply wp_ret'
  exact fin_ret (res_tt rfl rfl rfl) (by rw [keepsO, if_pos hc19])
 ·skip
  apply wp_skip'
  obtain ⟨hs0, ha0⟩ := keepsE_zero (Decidable.not_not.1 hc19)
  have hal := (symI_zero.1 ha0).2.1
  have hO : keepsO n ls a = (ls.all (keepI ls a), 0) := by rw [keepsO, if_neg hc19]
  repeat apply wp_seq'
  refine wp_text rfl ?_
  refine rs rfl (s_ld2 rfl rfl isAgg46 sizeOf46 (.o_ rfl) (.o_ rfl)) ?_
  refine run_call (vs := [_]) rfl rfl rfl rfl rfl rfl en104 (keeper_fn _ _ _ _ ht) ?_
  intro v22 h5 ⟨b5, m, e22, hb5, hm5⟩ hh5
  subst e22
  have ht := ht.mono hh5
  have ha := ha.mono hh5
  refine rm rfl ?_
  apply run_end
  repeat apply wp_seq'
  refine wp_text rfl ?_
  refine rs rfl (s_fa (off := 1) rfl rfl underlying46 rfl sizeOf26 rfl) ?_
  refine rs rfl (s_ld rfl rfl isAgg26 (.o_ rfl)) ?_
  refine rs rfl (s_lenT ht rfl rfl underlying26) ?_
  refine rm rfl ?_
  apply run_end
  repeat apply wp_seq'
  apply wp_block'
  refine wp_loop' (fun k : Nat => k ≤ ls.length ∧ ∀ j, j < k → keepI ls a (ls.getD j []) = true) (fun k => ⟨[(26, .int .i64 k), (25, .int .i64 ls.length), (24, .slice A ls.length c), (7, .func (.func 169) #[] #[.pointer (some ⟨b5, 0, none⟩)]), (3, .pointer (some ⟨b3, 0, none⟩))], h5, [.obj b3 (.cells #[va, .bool cm] 37 (0, 0))]⟩) (fun k => ls.length - k) 0 ⟨Nat.zero_le _, fun _ h => by omega⟩ ⟨by repeat (first|exact True.intro|refine And.intro rfl ?_), rfl, by repeat (first|exact NS _|exact SR _|apply SCC|apply SC)⟩ fun k hk => ?_
  obtain ⟨hk, hn⟩ := hk
  repeat apply wp_seq'
  refine wp_text rfl ?_
  refine rs rfl (s_lt rfl rfl rfl) ?_
  apply run_end
  repeat apply wp_seq'
  refine wp_if' rfl (fun hc27 => ?_) (fun hc27 => ?_)
  ·skip
   apply wp_skip'
   obtain ⟨sv, hsv, hat⟩ := ht.get (j := k) (by omega)
   have hrk := line_rng hs0 (i := k) (by omega)
   rw [← hal] at hrk
   repeat apply wp_seq'
   apply wp_block'
   repeat apply wp_seq'
   refine wp_text rfl ?_
   refine rs rfl (s_iaT ht (by omega) (by omega) rfl rfl rfl underlying26 sizeOf35) ?_
   refine rs rfl (s_ldT hat (by omega) rfl rfl isAgg35) ?_
   refine rm rfl ?_
   apply run_end
   repeat apply wp_seq'
   refine wp_text rfl ?_
   refine rm rfl ?_
   refine rs rfl (s_fa (off := 0) rfl rfl underlying37 rfl sizeOf35 rfl) ?_
   refine rs rfl (s_ld rfl rfl isAgg35 (.o_ rfl)) ?_
   refine rm rfl ?_
   refine run_callwv (vs := [_, _]) rfl rfl rfl rfl rfl rfl rfl en169 (keep1_fn ls a _ _ _ b5 m _ ha hsv hb5 hm5 hrk) ?_
   refine rs rfl (s_not rfl rfl) ?_
   apply run_end
   repeat apply wp_seq'
   refine wp_cond' rfl (fun hc35 => ?_) (fun hc35 => ?_)
   ·skip
    repeat apply wp_seq'
    refine wp_text rfl ?_
    refine rm rfl ?_
    refine rm rfl ?_
    apply run_end
    apply wp_ret'
    exact fin_ret (res_tt rfl rfl rfl) (by rw [hO, show ls.all (keepI ls a) = false from List.all_eq_false.2 ⟨_, getD_memL (i := k) (by omega), by simpa using hc35⟩])
   ·skip
    apply wp_skip'
    refine wp_text rfl ?_
    refine rs rfl (s_add rfl rfl rfl (IntWalk.i64_in _ (by omega))) ?_
    refine rm rfl ?_
    apply run_end
    exact ⟨k + 1, ⟨by omega, fun j hj => (Nat.lt_succ_iff_lt_or_eq.1 hj).elim (hn j) (fun e => by rw [e]; simpa using hc35)⟩, by omega, ⟨by repeat (first|exact True.intro|refine And.intro rfl ?_), rfl, by repeat (first|exact NS _|exact SR _|apply SCC|apply SC)⟩⟩
  ·skip
   apply wp_exit'
   repeat apply wp_seq'
   refine wp_text rfl ?_
   refine rm rfl ?_
   refine rm rfl ?_
   apply run_end
   apply wp_ret'
   exact fin_ret (res_tt rfl rfl rfl) (by rw [hO, show ls.all (keepI ls a) = true from List.all_eq_true.2 fun o ho => by obtain ⟨j, hj, rfl⟩ := List.getElem_of_mem ho; have := hn j (by omega); simpa [List.getD_eq_getElem?_getD, List.getElem?_eq_getElem hj] using this])
end Go.Tal

/-
 Symbolic states: a row of one's own is lent to a call that reads it; lists of rows.
-/
namespace Go.Tal
open Go.RowKit
theorem Mem.self_ {P : Program} {h : H} {L : List Own} {w : World} (hs : Sat h L w) : Mem (ctxM P w h L 0) h L w := ⟨hs, fun _ hx _ hb => .inr (blk_mem hx hb), fun _ _ => rfl, ⟨rfl, rfl, rfl, Nat.le_refl _, Nat.le_refl _, fun _ _ _ => rfl⟩⟩
/-- A row of integers is read by a call. -/
theorem fnM_lend {P : Program} {f : FuncId} {args : Array Value} {h : H} {v r : Value} {e : TypeId} {n : Nat} {xs : List Int} (hn : n ≤ 4294967296) (hf : ∀ h', (∀ b o, h b = some o → h' b = some o) → RdI h' v xs → FnV P f args h' r) :
 FnM P f args h [.row v e 1 n (xs.map (Value.int .i64))] fun u h' L' => (u = r ∧ h' = h) ∧ L' = [.row v e 1 n (xs.map (Value.int .i64))] := by
 intro w hs
 have key : ∃ h1 : H, (∀ b o, h b = some o → h1 b = some o) ∧ (∀ b o, h1 b = some o → w.heap[b]? = some o) ∧ RdI h1 v xs := by
  have hin : w.ownsRow 0 e 1 v n (xs.map (Value.int .i64)) := hs.own _ List.mem_cons_self
  have hl : xs.length = n := by have := hin.1; simpa using this
  rcases hin.2 with ⟨h1, h2⟩ | ⟨g, cap, cur, h1, _, hg, _, _, hsz, htk⟩
  ·exact ⟨h, fun _ _ hb => hb, hs.imm, none, 0, by rw [hl, h2]; exact h1, by omega, fun hp => by omega⟩
  ·have hhb : h g = none := hs.off _ List.mem_cons_self g (by subst h1; rfl)
   refine ⟨updH h g w.heap[g]?, upd_mono hhb, fun b o hb => ?_, ?_⟩
   ·unfold updH at hb
    split at hb
    ·rename_i e; rw [e]; exact hb
    ·exact hs.imm b o hb
   ·refine ⟨some ⟨g, 0, none⟩, cap, by rw [hl]; exact h1, by omega, fun hp => ⟨g, 0, rfl, cur, e, (0, 0), by simp [updH, hg], fun j hj => ?_⟩⟩
    have := congrArg (fun l => l[j]?) htk
    simp only [List.getElem?_take, List.getElem?_map, List.getElem?_eq_getElem hj, Option.map_some] at this
    rw [if_pos (by omega)] at this
    rw [Nat.zero_add]
    simpa [List.getD_eq_getElem?_getD, List.getElem?_eq_getElem hj] using this
 obtain ⟨h1, e1, e2, e3⟩ := key
 refine (hf h1 e1 e3 w e2).mono fun ex w' ⟨u, h2, he, hr, k1, k2, k3⟩ => ⟨u, h, _, he, ⟨⟨hr, rfl⟩, rfl⟩, ?_⟩
 refine (Mem.self_ hs).call (fun b o hb => ?_) (fun _ _ => rfl) k3
 have hb1 := hs.imm b o hb
 rw [k3.block b (Array.getElem?_eq_some_iff.1 hb1).1 (by simp)]
 exact hb1
theorem Swap.map_at {α : Type} {f : α → Own} {y z : α} : ∀ {l : List α} {i : Nat}, l[i]? = some y → Swap (f y) (f z) (l.map f) ((l.set i z).map f)
 | [], _, h => by cases h
 | x :: l, 0, h => by
  simp only [List.getElem?_cons_zero, Option.some.injEq] at h
  subst h
  exact Swap.here
 | x :: l, i + 1, h => by
  simp only [List.getElem?_cons_succ] at h
  exact Swap.there (Swap.map_at h)
theorem Pick.mid {X : Own} {M : List Own} : ∀ (L : List Own), Pick X (L ++ X :: M) (L ++ M)
 | [] => .here
 | _ :: L => .there (Pick.mid L)
theorem WP.nilrows {C : Ctx} {Q : Exit → S → Prop} {c : Code} {F : List (Nat × Value)} {h : H} {L : List Own} (e : TypeId) (sz : Nat) : ∀ (n : Nat), WP C c Q ⟨F, h, L ++ List.replicate n (.row (.slice none 0 0) e sz 0 [])⟩ → WP C c Q ⟨F, h, L⟩
 | 0, k => by simpa using k
 | n + 1, k => by
  refine WP.nilrow e sz (WP.nilrows e sz n ?_)
  intro ro m M hG a w hs
  exact k ro m M hG a w (St.map (s := ⟨F, h, .row (.slice none 0 0) e sz 0 [] :: L ++ List.replicate n (.row (.slice none 0 0) e sz 0 [])⟩) (t := ⟨F, h, L ++ List.replicate (n + 1) (.row (.slice none 0 0) e sz 0 [])⟩) (fun _ _ hv => hv) (fun N m => m.perm (List.Perm.append_right N (by rw [List.replicate_succ]; exact List.perm_middle.symm))) hs)
/-- Rows of values that are read as lists. -/
abbrev Bkt := Value × List Value × List (List Int)
def bktRow (b : Bkt) : Own := .row b.1 35 1 b.2.1.length b.2.1
def BktOk (h : H) (b : Bkt) : Prop := b.2.2.length = b.2.1.length ∧ (∀ j, j < b.2.1.length → ∃ sv, b.2.1[j]? = some sv ∧ RdI h sv (b.2.2.getD j [])) ∧ b.2.1.length ≤ 4294967296
theorem BktOk.mono {h h' : H} {b : Bkt} (r : BktOk h b) (hh : ∀ b o, h b = some o → h' b = some o) : BktOk h' b := ⟨r.1, fun j hj => by obtain ⟨sv, h1, h2⟩ := r.2.1 j hj; exact ⟨sv, h1, h2.mono hh⟩, r.2.2⟩
theorem WP.letTs {C : Ctx} {Q : Exit → S → Prop} {c : Code} {F : List (Nat × Value)} (hI : C.I = []) : ∀ (bs : List Bkt) {h : H} {L : List Own}, (∀ b ∈ bs, BktOk h b) → (∀ h', (∀ b o, h b = some o → h' b = some o) → (∀ b ∈ bs, RdT h' b.1 b.2.2) → WP C c Q ⟨F, h', L⟩) → WP C c Q ⟨F, h, L ++ bs.map bktRow⟩
 | [], h, L, _, k => by simpa using k h (fun _ _ hb => hb) (fun b hb => by cases hb)
 | b :: bs, h, L, hb, k => by
  rw [List.map_cons]
  have hb0 := hb b List.mem_cons_self
  refine WP.letT b.2.2 hI (Pick.mid L) hb0.2.2 hb0.1 hb0.2.1 fun h1 hh1 hr => ?_
  refine WP.letTs hI bs (fun c hc => (hb c (List.mem_cons_of_mem _ hc)).mono hh1) fun h2 hh2 hr2 => ?_
  refine k h2 (fun b o hb => hh2 _ _ (hh1 _ _ hb)) fun c hc => ?_
  rcases List.mem_cons.1 hc with rfl | hc
  ·exact hr.mono hh2
  ·exact hr2 c hc
theorem stepR_scope {P : Program} {b : Frame} {a : Act} {k : List Item} {cs : List Frame} {w : World} {c : Code} : step P (lone (b.atR a (.code (.scope c) :: k)) cs w) = .next (lone (b.atR a (.code c :: .inScope c :: k)) cs w) :=
 step_lone_go (by simp [stepG, stepG.exec, Frame.atR])
theorem stepR_inScope {P : Program} {b : Frame} {a : Act} {k : List Item} {cs : List Frame} {w : World} {c : Code} : step P (lone (b.atR a (.inScope c :: k)) cs w) = .next (lone (b.atR a k) cs w) :=
 step_lone_go (by simp [stepG, stepG.exec, Frame.atR])
/-- A scope that is run through without a jump. -/
theorem wpIn_scope_straight {F : Fence} {n : Nat} {P : Program} {Q : Exit → Act → World → Prop} {a : Act} {w : World} {c : Code} (h : c.wpIn F n P (Exit.noGoto Q) a w) : (Code.scope c).wpIn F n P Q a w := by
 intro b k cs hro hb hr
 have h0 : (lone (b.atR a (.code (.scope c) :: k)) cs w).fenced P F := fenced_calm hb hr rfl
 obtain ⟨e, a₁, w₁, hq, harr⟩ := h b (.inScope c :: k) cs hro hb hr
 cases e with
 | normal => exact ⟨.normal, a₁, w₁, hq, .head h0 stepR_scope (StepsIn.trans harr (.one (fenced_calm hb hr rfl) stepR_inScope))⟩
 | exit id =>
  have hx : exitTo id (.inScope c :: k) = exitTo id k := by simp [exitTo]
  exact ⟨_, a₁, w₁, hq, fun k' hk => .head h0 stepR_scope (harr.1 k' (by rw [hx]; exact hk)),
   fun hr' hk => let ⟨k₁, h1, h2⟩ := harr.2 hr' (by rw [hx]; exact hk); ⟨k₁, h1, .head h0 stepR_scope h2⟩⟩
 | goto l => exact hq.elim
 | ret => exact ⟨_, a₁, w₁, hq, .of_steps (.one h0 stepR_scope) harr⟩
 | panic ch => exact ⟨_, a₁, w₁, hq, .of_steps (.one h0 stepR_scope) harr⟩
 | outgrown => exact ⟨_, a₁, w₁, hq, .of_steps (.one h0 stepR_scope) harr⟩
def noGo (Q : Exit → S → Prop) : Exit → S → Prop
 | .goto _, _ => False
 | e, s => Q e s
theorem wp_scope' {C : Ctx} {Q : Exit → S → Prop} {s : S} {c : Code} (h : WP C c (noGo Q) s) : WP C (.scope c) Q s := by
 intro ro m M hG a w hs
 refine wpIn_scope_straight (Go.wpIn_mono (h ro m M hG a w hs) fun e a' w' ⟨s', h1, h2⟩ => ?_)
 cases e with
 | goto l => exact h2.elim
 | _ => exact ⟨s', h1, h2⟩
theorem wp_label' {C : Ctx} {Q : Exit → S → Prop} {s : S} {l : Nat} (h : Q .normal s) : WP C (.label l) Q s := fun _ _ _ _ _ _ hs => Go.wpIn_label ⟨s, hs, h⟩
end Go.Tal

namespace Go.Tal
open Go.RowKit Go.Proofs Go.Proofs.Tryz _root_.Tal
theorem b37_s (A : Option Addr) (n c : Nat) : ∀ w, (Instr.build 37 #[(0, .slice A n c)]).run Tryz.prog w = .ok (.agg #[.slice A n c, .bool false]) w := fun _ => by kernel_rfl
set_option maxRecDepth 8000 in
/-- slices.Clone over a row of one's own. -/
theorem cloneR_fn (xs : List Int) (b n c : Nat) (h : H) (hn : xs.length = n) (hm : n ≤ 4294967296) : FnM Tryz.prog 106 #[.slice (some ⟨b, 0, none⟩) n c] h [.row (.slice (some ⟨b, 0, none⟩) n c) 3 1 n (xs.map (Value.int .i64))] fun r h' L' => RdI h' r xs ∧ L' = [.row (.slice (some ⟨b, 0, none⟩) n c) 3 1 n (xs.map (Value.int .i64))] := by
 subst hn
 refine fnM_of (vs := [.slice (some ⟨b, 0, none⟩) xs.length c]) func106 rfl ntmps106 (Nat.le_of_ble_eq_true rfl) fun w hw => ?_
 repeat apply wp_seq'
 refine wp_text rfl ?_
 refine rm rfl ?_
 apply run_end
 repeat apply wp_seq'
 refine wp_text rfl ?_
 refine rm rfl ?_
 refine rs rfl (s_eqnil rfl rfl rfl underlying35) ?_
 apply run_end
 repeat apply wp_seq'
 refine wp_cond' (b := false) rfl (fun h => by cases h) (fun _ => ?_)
 apply wp_skip'
 repeat apply wp_seq'
 refine wp_text rfl ?_
 refine run_bsr (parts := []) (vs := []) (sz := 1) rfl rfl rfl rfl rfl rfl bs35_0 rfl rfl fun b5 => ?_
 refine rm rfl ?_
 refine run_appv (xs := []) (news := xs.map (Value.int .i64)) rfl rfl rfl rfl rfl rfl rfl underlying35 info3 rfl (by decide) (fun v' => (by repeat first|exact Swap.here|apply Swap.there)) (by simp) (fun hp => ⟨b, 0, rfl, fun j u hj => .row 3 1 xs.length c _ (by repeat first|exact MH _|apply MT) (by rw [Nat.zero_add]; exact hj)⟩) (fun u hu => by obtain ⟨x, _, rfl⟩ := List.mem_map.1 hu; rfl) (by omega) (by omega) fun v7 hv7 => ?_
 refine rm rfl ?_
 apply run_end
 rw [Nat.zero_add, List.nil_append]
 refine WP.letOH (L' := [.row (.slice (some ⟨b, 0, none⟩) xs.length c) 3 1 xs.length (xs.map (Value.int .i64))]) ?_ (by repeat first|exact Pick.here|apply Pick.there) (by omega) fun h2 hh2 hr2 => ?_
 ·exact held_sub fun x hx => by rw [List.mem_singleton] at hx; subst hx; repeat (first | exact List.Mem.head _ | apply List.Mem.tail)
 apply wp_ret'
 exact finM_ret _ (res_tmp rfl rfl) ⟨_, .refl _, (by repeat (first|exact NS _|exact SR _|apply SCC|apply SC))⟩ ⟨hr2, rfl⟩
def endsL (ls : List (List Int)) (k : Nat) : List (List Int) := ls.filter fun l => l.getD (l.length - 1) 0 == (k : Int)
abbrev AuSt := List Int × List Bool × List Sy
def auNext (k x : Nat) (st : AuSt) : AuSt := (st.1.set k x, st.2.1.set x true, st.2.2)
def auBack (x : Nat) (st : AuSt) : AuSt := (st.1, st.2.1.set x false, st.2.2)
def auGo (n : Nat) (ls : List (List Int)) : Nat → Nat → AuSt → Bool × AuSt
 | 0, _, st => (decide (((st.2.2.length + 1 : Nat) : Int) ≤ 1536), (st.1, st.2.1, st.2.2 ++ [(st.1, false)]))
 | f + 1, k, st => (List.range n).foldl (fun p x => if p.1 then (if p.2.2.1.getD x false then p else if (endsL ls k).all (keepI ls (p.2.1.set k x)) then ((auGo n ls f (k + 1) (auNext k x p.2)).1, auBack x (auGo n ls f (k + 1) (auNext k x p.2)).2) else (true, (p.2.1.set k x, p.2.2))) else p) (true, st)
def auStep (n : Nat) (ls : List (List Int)) (f k : Nat) (p : Bool × AuSt) (x : Nat) : Bool × AuSt :=
 if p.1 then (if p.2.2.1.getD x false then p else if (endsL ls k).all (keepI ls (p.2.1.set k x)) then ((auGo n ls f (k + 1) (auNext k x p.2)).1, auBack x (auGo n ls f (k + 1) (auNext k x p.2)).2) else (true, (p.2.1.set k x, p.2.2))) else p
def auTo (n : Nat) (ls : List (List Int)) (f k x : Nat) (st : AuSt) : Bool × AuSt := (List.range x).foldl (auStep n ls f k) (true, st)
theorem auTo_succ (n : Nat) (ls : List (List Int)) (f k x : Nat) (st : AuSt) : auTo n ls f k (x + 1) st = auStep n ls f k (auTo n ls f k x st) x := by simp [auTo, List.range_succ]
theorem auGo_zero (n : Nat) (ls : List (List Int)) (k : Nat) (q : List Int) (u : List Bool) (o : List Sy) : auGo n ls 0 k (q, u, o) = (decide (((o.length + 1 : Nat) : Int) ≤ 1536), (q, u, o ++ [(q, false)])) := rfl
theorem auGo_succ (n : Nat) (ls : List (List Int)) (f k : Nat) (st : AuSt) : auGo n ls (f + 1) k st = auTo n ls f k n st := rfl
theorem auTo_stop {n : Nat} {ls : List (List Int)} {f k x : Nat} {st : AuSt} (h : (auTo n ls f k x st).1 = false) : ∀ j, auTo n ls f k (x + j) st = auTo n ls f k x st
 | 0 => rfl
 | j + 1 => by rw [← Nat.add_assoc, auTo_succ, auTo_stop h j, auStep, if_neg (by rw [h]; decide)]
structure AuOk (n : Nat) (st : AuSt) : Prop where
 q : st.1.length = n
 u : st.2.1.length = n
 o : st.2.2.length ≤ 1536
structure AuR (n : Nat) (p : Bool × AuSt) : Prop where
 q : p.2.1.length = n
 u : p.2.2.1.length = n
 o : p.1 = true → p.2.2.2.length ≤ 1536
theorem AuR.ok {n : Nat} {p : Bool × AuSt} (h : AuR n p) (h1 : p.1 = true) : AuOk n p.2 := ⟨h.q, h.u, h.o h1⟩
theorem AuOk.next {n k x : Nat} {st : AuSt} (h : AuOk n st) : AuOk n (auNext k x st) := ⟨by simp [auNext, h.q], by simp [auNext, h.u], h.o⟩
theorem AuOk.step {n : Nat} {ls : List (List Int)} {f k : Nat} (ih : ∀ k st, AuOk n st → AuR n (auGo n ls f k st)) {p : Bool × AuSt} (h : AuR n p) (x : Nat) : AuR n (auStep n ls f k p x) := by
 unfold auStep
 by_cases h1 : p.1 = true
 ·rw [if_pos h1]
  by_cases h2 : p.2.2.1.getD x false = true
  ·rw [if_pos h2]; exact h
  ·rw [if_neg h2]
   by_cases h3 : (endsL ls k).all (keepI ls (p.2.1.set k x)) = true
   ·rw [if_pos h3]
    have := ih (k + 1) (auNext k x p.2) (h.ok h1).next
    exact ⟨this.q, by simp [auBack, this.u], this.o⟩
   ·rw [if_neg h3]
    exact ⟨by simp [h.q], h.u, fun _ => h.o h1⟩
 ·rw [if_neg h1]; exact h
set_option maxRecDepth 8000 in
theorem AuOk.go {n : Nat} {ls : List (List Int)} : ∀ {f k : Nat} {st : AuSt}, AuOk n st → AuR n (auGo n ls f k st)
 | 0, k, st, h => ⟨h.q, h.u, fun h1 => by
  have e1 : (auGo n ls 0 k st).1 = decide (((st.2.2.length + 1 : Nat) : Int) ≤ 1536) := rfl
  have e2 : (auGo n ls 0 k st).2.2.2 = st.2.2 ++ [(st.1, false)] := rfl
  rw [e1] at h1
  have h2 := of_decide_eq_true h1
  rw [e2, List.length_append, List.length_singleton]
  omega⟩
 | f + 1, k, st, h => by
  rw [auGo_succ]
  have : ∀ x, AuR n (auTo n ls f k x st) := by
   intro x
   induction x with
   | zero => exact ⟨h.q, h.u, fun _ => h.o⟩
   | succ x ih => rw [auTo_succ]; exact AuOk.step (fun k st hs => AuOk.go hs) ih x
  exact this n
theorem AuOk.to {n : Nat} {ls : List (List Int)} {f k : Nat} {st : AuSt} (h : AuOk n st) (x : Nat) : AuR n (auTo n ls f k x st) := by
 induction x with
 | zero => exact ⟨h.q, h.u, fun _ => h.o⟩
 | succ x ih => rw [auTo_succ]; exact AuOk.step (fun k st hs => AuOk.go hs) ih x
theorem LsAt.mono {h h' : H} {v sv : Value} {j : Nat} (r : LsAt h v j sv) (hh : ∀ b o, h b = some o → h' b = some o) : LsAt h' v j sv := by
 obtain ⟨b, o, n, c, arr, t, fz, e1, e2, e3⟩ := r.at_
 exact ⟨⟨b, o, n, c, arr, t, fz, e1, hh _ _ e2, e3⟩⟩
structure AuRd (h : H) (n : Nat) (ls : List (List Int)) (b1 b5 b6 b3 m be : Nat) (tv : Value) : Prop where
 s : h b1 = some (.cells #[.int .i64 n, tv] 46 (0, 0))
 e : h b6 = some (.cells #[.slice (some ⟨be, 0, none⟩) n n] 130 (0, 0))
 t : ∀ k, k < n → ∃ tk, LsAt h (.slice (some ⟨be, 0, none⟩) n n) k tk ∧ RdT h tk (endsL ls k)
 k : h b5 = some (.cells #[.func (.func 169) #[] #[.pointer (some ⟨b3, 0, none⟩)]] 101 (0, 0))
 m3 : h b3 = some (.cells #[.map (some m)] 184 (0, 0))
 m : h m = some (mapO (lineKV ls))
theorem AuRd.mono {h h' : H} {n : Nat} {ls : List (List Int)} {b1 b5 b6 b3 m be : Nat} {tv : Value} (r : AuRd h n ls b1 b5 b6 b3 m be tv) (hh : ∀ b o, h b = some o → h' b = some o) : AuRd h' n ls b1 b5 b6 b3 m be tv :=
 ⟨hh _ _ r.s, hh _ _ r.e, fun k hk => by obtain ⟨tk, h1, h2⟩ := r.t k hk; exact ⟨tk, h1.mono hh, h2.mono hh⟩, hh _ _ r.k, hh _ _ r.m3, hh _ _ r.m⟩
/-- What the search holds. -/
abbrev auL (n b1 b5 b6 b10 b11 rq b12 ru b13 : Nat) (q : List Int) (u : List Bool) (us : List (Value × Sy)) (oA : Option Addr) (oc : Nat) : List Own := [.obj b10 (.cells #[.slice oA us.length oc] 22 (0, 0)), .row (.slice oA us.length oc) 37 2 us.length (rowS us), .obj b11 (.cells #[.slice (some ⟨rq, 0, none⟩) n n] 35 (0, 0)), .row (.slice (some ⟨rq, 0, none⟩) n n) 3 1 n (q.map (Value.int .i64)), .obj b12 (.cells #[.slice (some ⟨ru, 0, none⟩) n n] 108 (0, 0)), .row (.slice (some ⟨ru, 0, none⟩) n n) 4 1 n (u.map Value.bool), .obj b13 (.cells #[.func (.func 105) #[] #[.pointer (some ⟨b1, 0, none⟩), .pointer (some ⟨b10, 0, none⟩), .pointer (some ⟨b11, 0, none⟩), .pointer (some ⟨b12, 0, none⟩), .pointer (some ⟨b6, 0, none⟩), .pointer (some ⟨b5, 0, none⟩), .pointer (some ⟨b13, 0, none⟩)]] 90 (0, 0))]
set_option maxRecDepth 8000 in
set_option maxHeartbeats 8000000 in
theorem au_fn (n b1 b5 b6 b10 b11 rq b12 ru b13 b3 m be : Nat) (ls : List (List Int)) (tv : Value) (hn : n ≤ 9) (hs0 : sysI n ls = 0) : ∀ (f k : Nat), k + f = n → ∀ (q : List Int) (u : List Bool) (us : List (Value × Sy)) (oA : Option Addr) (oc : Nat) (h : H), AuOk n (q, u, us.map (·.2)) → SetOk h us → AuRd h n ls b1 b5 b6 b3 m be tv →
 FnM Tryz.prog 105 (#[.int .i64 k] ++ #[.pointer (some ⟨b1, 0, none⟩), .pointer (some ⟨b10, 0, none⟩), .pointer (some ⟨b11, 0, none⟩), .pointer (some ⟨b12, 0, none⟩), .pointer (some ⟨b6, 0, none⟩), .pointer (some ⟨b5, 0, none⟩), .pointer (some ⟨b13, 0, none⟩)]) h (auL n b1 b5 b6 b10 b11 rq b12 ru b13 q u us oA oc) fun r h' L' => ∃ bb q' u' us' oA' oc', r = .bool bb ∧ L' = auL n b1 b5 b6 b10 b11 rq b12 ru b13 q' u' us' oA' oc' ∧ SetOk h' us' ∧ auGo n ls f k (q, u, us.map (·.2)) = (bb, (q', u', us'.map (·.2))) := by
 intro f
 induction f with
 | zero =>
  intro k hk q u us oA oc h hok hus hrd
  have hol := hok.o
  have hql := hok.q
  have hul := hok.u
  dsimp only at hol hql hul
  rw [List.length_map] at hol
  refine fnM_of (vs := [.int .i64 k, .pointer (some ⟨b1, 0, none⟩), .pointer (some ⟨b10, 0, none⟩), .pointer (some ⟨b11, 0, none⟩), .pointer (some ⟨b12, 0, none⟩), .pointer (some ⟨b6, 0, none⟩), .pointer (some ⟨b5, 0, none⟩), .pointer (some ⟨b13, 0, none⟩)]) func105 rfl ntmps105 (Nat.le_of_ble_eq_true rfl) fun w hw => ?_
  repeat apply wp_seq'
  refine wp_text rfl ?_
  refine rm rfl ?_
  apply run_end
  repeat apply wp_seq'
  refine wp_scope' ?_
  repeat apply wp_seq'
  refine wp_text rfl ?_
  refine rm rfl ?_
  refine rs rfl (s_fa (off := 0) rfl rfl underlying46 rfl sizeOf3 rfl) ?_
  refine rs rfl (s_ld rfl rfl isAgg3 (.imm _ _ _ hrd.s rfl)) ?_
  refine rs rfl (s_eq rfl rfl rfl) ?_
  apply run_end
  repeat apply wp_seq'
  refine wp_if' rfl (fun hc17 => ?_) (fun hc17 => ?_)
  ·skip
   repeat apply wp_seq'
   refine wp_any [0, 1, 2, 3, 4, 5, 6] rfl (by kernel_rfl) ?_
   refine rs rfl (s_ld rfl rfl isAgg22 (.o_ rfl)) ?_
   refine rs rfl (s_ld rfl rfl isAgg35 (.o_ rfl)) ?_
   refine run_callKs (vs := [_]) (Lq := [.row (.slice (some ⟨rq, 0, none⟩) n n) 3 1 n (q.map (Value.int .i64))]) rfl rfl rfl (dst_lt rfl rfl) rfl rfl en106 (Pick.perm (by repeat first|exact Pick.here|apply Pick.there)) (cloneR_fn q rq n n _ hql (by omega)) ?_
   intro v20 h2 hv20 hh2
   have hus := hus.mono hh2
   obtain ⟨A20, c20, rfl, _⟩ := id hv20
   refine rs rfl (s_build1 rfl rfl (b37_s _ _ _)) ?_
   refine run_bso (parts := [_]) (vs := [_]) rfl rfl rfl rfl rfl rfl (bs22_r hv20 _) fun b22 => ?_
   refine run_app2 (fun p : Value × Sy => p.1) (fun p : Value × Sy => .bool p.2.2) (Value.slice A20 q.length c20, ((q, false) : Sy)) (xs := us) rfl rfl rfl rfl rfl rfl rfl underlying22 info37 rfl (fun v' => (by repeat first|exact Swap.here|apply Swap.there)) (by repeat first|exact MH _|apply MT) (RdI.one hv20) rfl (by omega) (by decide) fun v23 hv23 => ?_
   obtain ⟨A23, c23, rfl⟩ := hv23
   refine run_st rfl rfl rfl rfl rfl rfl rfl rfl sizeOf22 (by repeat first|exact Swap.here|apply Swap.there) rfl ?_
   apply run_end
   have el : us.length + 1 = (us ++ [(Value.slice A20 q.length c20, ((q, false) : Sy))]).length := by simp
   rw [el]
   repeat apply wp_seq'
   refine wp_text rfl ?_
   refine rs rfl (s_ld rfl rfl isAgg22 (.o_ rfl)) ?_
   refine rs rfl (s_len rfl rfl underlying22) ?_
   refine rs rfl (s_le rfl rfl rfl) ?_
   refine rm rfl ?_
   apply run_end
   apply wp_ret'
   refine finM_ret (auL n b1 b5 b6 b10 b11 rq b12 ru b13 q u (us ++ [(Value.slice A20 q.length c20, ((q, false) : Sy))]) A23 c23) (res_tmp rfl rfl) ⟨_, .refl _, (by repeat (first|exact NS _|exact SR _|apply SCC|apply SC))⟩ ⟨_, _, _, _, _, _, rfl, rfl, ?_, ?_⟩
   ·intro p hp; rcases List.mem_append.1 hp with hp | hp; exact hus p hp; rw [List.mem_singleton] at hp; subst hp; exact hv20
   ·rw [auGo_zero, List.map_append, List.length_map, ← el]; rfl
  ·skip
   omega
 | succ f ih =>
  intro k hk q u us oA oc h hok hus hrd
  have hol := hok.o
  have hql := hok.q
  have hul := hok.u
  dsimp only at hol hql hul
  rw [List.length_map] at hol
  refine fnM_of (vs := [.int .i64 k, .pointer (some ⟨b1, 0, none⟩), .pointer (some ⟨b10, 0, none⟩), .pointer (some ⟨b11, 0, none⟩), .pointer (some ⟨b12, 0, none⟩), .pointer (some ⟨b6, 0, none⟩), .pointer (some ⟨b5, 0, none⟩), .pointer (some ⟨b13, 0, none⟩)]) func105 rfl ntmps105 (Nat.le_of_ble_eq_true rfl) fun w hw => ?_
  repeat apply wp_seq'
  refine wp_text rfl ?_
  refine rm rfl ?_
  apply run_end
  repeat apply wp_seq'
  refine wp_scope' ?_
  repeat apply wp_seq'
  refine wp_text rfl ?_
  refine rm rfl ?_
  refine rs rfl (s_fa (off := 0) rfl rfl underlying46 rfl sizeOf3 rfl) ?_
  refine rs rfl (s_ld rfl rfl isAgg3 (.imm _ _ _ hrd.s rfl)) ?_
  refine rs rfl (s_eq rfl rfl rfl) ?_
  apply run_end
  repeat apply wp_seq'
  refine wp_if' rfl (fun hc17 => ?_) (fun hc17 => ?_)
  ·skip
   omega
  ·skip
   apply wp_skip'
   repeat apply wp_seq'
   refine wp_label' ?_
   repeat apply wp_seq'
   refine wp_text rfl ?_
   refine rs rfl (s_fa (off := 0) rfl rfl underlying46 rfl sizeOf3 rfl) ?_
   refine rs rfl (s_ld rfl rfl isAgg3 (.imm _ _ _ hrd.s rfl)) ?_
   refine rm rfl ?_
   apply run_end
   repeat apply wp_seq'
   apply wp_block'
   refine wp_loop' (ι := H × Nat × List Int × List Bool × List (Value × Sy) × Option Addr × Nat) (fun x => (x.2.1 ≤ n ∧ SetOk x.1 x.2.2.2.2.1 ∧ ∀ b o, h b = some o → x.1 b = some o) ∧ auTo n ls f k x.2.1 (q, u, us.map (·.2)) = (true, (x.2.2.1, x.2.2.2.1, x.2.2.2.2.1.map (·.2)))) (fun x => ⟨[(29, .int .i64 x.2.1), (28, .int .i64 n), (7, .pointer (some ⟨b13, 0, none⟩)), (6, .pointer (some ⟨b5, 0, none⟩)), (5, .pointer (some ⟨b6, 0, none⟩)), (4, .pointer (some ⟨b12, 0, none⟩)), (3, .pointer (some ⟨b11, 0, none⟩)), (2, .pointer (some ⟨b10, 0, none⟩)), (1, .pointer (some ⟨b1, 0, none⟩)), (0, .int .i64 k)], x.1, auL n b1 b5 b6 b10 b11 rq b12 ru b13 x.2.2.1 x.2.2.2.1 x.2.2.2.2.1 x.2.2.2.2.2.1 x.2.2.2.2.2.2⟩) (fun x => n - x.2.1) (h, 0, q, u, us, oA, oc) ⟨⟨Nat.zero_le _, hus, fun _ _ hb => hb⟩, rfl⟩ ⟨by repeat (first|exact True.intro|refine And.intro rfl ?_), rfl, by repeat (first|exact NS _|exact SR _|apply SCC|apply SC)⟩ fun x hx => ?_
   obtain ⟨h1, x, q1, u1, us1, oA1, oc1⟩ := x
   obtain ⟨⟨hx, hus1, hh1⟩, hto⟩ := hx
   dsimp only at hx hus1 hh1 hto ⊢
   have hrd1 := hrd.mono hh1
   repeat apply wp_seq'
   refine wp_text rfl ?_
   refine rs rfl (s_lt rfl rfl rfl) ?_
   apply run_end
   repeat apply wp_seq'
   refine wp_if' rfl (fun hc30 => ?_) (fun hc30 => ?_)
   ·skip
    apply wp_skip'
    have hR := hok.to (ls := ls) (f := f) (k := k) x
    rw [hto] at hR
    have hok1 := hR.ok rfl
    have hql1 := hok1.q
    have hul1 := hok1.u
    dsimp only at hql1 hul1
    have hst := auTo_succ n ls f k x (q, u, us.map (·.2))
    rw [hto, auStep, if_pos rfl] at hst
    dsimp only at hst
    have hkn : k < n := by omega
    obtain ⟨tk, hatk, htk⟩ := hrd1.t k hkn
    have htkm := htk.len
    repeat apply wp_seq'
    apply wp_block'
    repeat apply wp_seq'
    refine wp_text rfl ?_
    refine rm rfl ?_
    refine rm rfl ?_
    apply run_end
    repeat apply wp_seq'
    refine wp_text rfl ?_
    refine rs rfl (s_ld rfl rfl isAgg108 (.o_ rfl)) ?_
    refine rm rfl ?_
    refine rs rfl (s_ia1 rfl rfl rfl underlying108 sizeOf4 (by omega) (by omega)) ?_
    refine rs rfl (s_ld rfl rfl isAgg4 (.rowM (e := 4) (sz := 1) Value.bool false (by repeat first|exact MH _|apply MT) (by first | omega | (simp; omega)))) ?_
    apply run_end
    simp only [Int.toNat_natCast]
    repeat apply wp_seq'
    refine wp_cond' rfl (fun hc35 => ?_) (fun hc35 => ?_)
    ·skip
     apply wp_exit'
     rw [if_pos hc35] at hst
     refine wp_text rfl ?_
     refine rs rfl (s_add rfl rfl rfl (IntWalk.i64_in _ (by omega))) ?_
     refine rm rfl ?_
     apply run_end
     exact ⟨(h1, x + 1, q1, u1, us1, oA1, oc1), ⟨⟨by dsimp only; omega, hus1, hh1⟩, hst⟩, by dsimp only; omega, ⟨by repeat (first|exact True.intro|refine And.intro rfl ?_), rfl, by repeat (first|exact NS _|exact SR _|apply SCC|apply SC)⟩⟩
    ·skip
     apply wp_skip'
     rw [if_neg (by rw [hc35]; decide)] at hst
     repeat apply wp_seq'
     refine wp_text rfl ?_
     refine rs rfl (s_ld rfl rfl isAgg35 (.o_ rfl)) ?_
     refine rm rfl ?_
     refine rm rfl ?_
     refine rs rfl (s_ia1 rfl rfl rfl underlying35 sizeOf3 (by omega) (by omega)) ?_
     refine run_strowM (Value.int .i64) rfl rfl rfl rfl rfl rfl rfl rfl sizeOf3 (by repeat first|exact Swap.here|apply Swap.there) (by omega) ?_
     apply run_end
     simp only [Int.toNat_natCast]
     repeat apply wp_seq'
     refine wp_text rfl ?_
     refine rs rfl (s_ld rfl rfl isAgg130 (.imm _ _ _ hrd1.e rfl)) ?_
     refine rm rfl ?_
     refine rs rfl (s_iav rfl rfl rfl rfl rfl underlying130 sizeOf26 (by omega) (by omega)) ?_
     refine rs rfl (s_ldT hatk (by omega) rfl rfl isAgg26) ?_
     refine rs rfl (s_lenT htk rfl rfl underlying26) ?_
     refine rm rfl ?_
     apply run_end
     repeat apply wp_seq'
     apply wp_block'
     refine wp_loop' (fun j : Nat => j ≤ (endsL ls k).length ∧ ∀ i, i < j → keepI ls (q1.set k x) ((endsL ls k).getD i []) = true) (fun j => ⟨[(45, .int .i64 j), (44, .int .i64 (endsL ls k).length), (43, tk), (10, .int .i64 x), (29, .int .i64 x), (28, .int .i64 n), (7, .pointer (some ⟨b13, 0, none⟩)), (6, .pointer (some ⟨b5, 0, none⟩)), (5, .pointer (some ⟨b6, 0, none⟩)), (4, .pointer (some ⟨b12, 0, none⟩)), (3, .pointer (some ⟨b11, 0, none⟩)), (2, .pointer (some ⟨b10, 0, none⟩)), (1, .pointer (some ⟨b1, 0, none⟩)), (0, .int .i64 k)], h1, auL n b1 b5 b6 b10 b11 rq b12 ru b13 (q1.set k x) u1 us1 oA1 oc1⟩) (fun j => (endsL ls k).length - j) 0 ⟨Nat.zero_le _, fun _ h => by omega⟩ ⟨by repeat (first|exact True.intro|refine And.intro rfl ?_), rfl, by repeat (first|exact NS _|exact SR _|apply SCC|apply SC)⟩ fun j hj => ?_
     obtain ⟨hj, hall⟩ := hj
     repeat apply wp_seq'
     refine wp_text rfl ?_
     refine rs rfl (s_lt rfl rfl rfl) ?_
     apply run_end
     repeat apply wp_seq'
     refine wp_if' rfl (fun hc46 => ?_) (fun hc46 => ?_)
     ·skip
      apply wp_skip'
      obtain ⟨sv, hsv, hat⟩ := htk.get (j := j) (by omega)
      have hm0 := getD_memL (l := endsL ls k) (i := j) (by omega)
      have hmem : (endsL ls k).getD j [] ∈ ls := (List.mem_filter.1 hm0).1
      have hrk : ∀ i, i < ((endsL ls k).getD j []).length → 0 ≤ ((endsL ls k).getD j []).getD i 0 ∧ ((endsL ls k).getD j []).getD i 0 < ((q1.set k (x : Int)).length : Int) := by
       obtain ⟨i, hi, e⟩ := List.getElem_of_mem hmem
       have := line_rng hs0 (i := i) hi
       rw [List.getD_eq_getElem?_getD, List.getElem?_eq_getElem hi, Option.getD_some, e] at this
       rw [List.length_set, hql1]
       exact this
      repeat apply wp_seq'
      apply wp_block'
      repeat apply wp_seq'
      refine wp_text rfl ?_
      refine rs rfl (s_iaT htk (by omega) (by omega) rfl rfl rfl underlying26 sizeOf35) ?_
      refine rs rfl (s_ldT hat (by omega) rfl rfl isAgg35) ?_
      refine rm rfl ?_
      apply run_end
      repeat apply wp_seq'
      refine wp_text rfl ?_
      refine rs rfl (s_ld rfl rfl isAgg101 (.imm _ _ _ hrd1.k rfl)) ?_
      refine rs rfl (s_ld rfl rfl isAgg35 (.o_ rfl)) ?_
      refine rm rfl ?_
      refine run_callKs (vs := [_, _]) (Lq := [.row (.slice (some ⟨rq, 0, none⟩) n n) 3 1 n ((q1.set k (x : Int)).map (Value.int .i64))]) rfl rfl rfl (dst_lt rfl rfl) rfl rfl en169 (Pick.perm (by repeat first|exact Pick.here|apply Pick.there)) (fnM_lend (by omega) fun h' hh' hr' => keep1_fn ls (q1.set k x) _ _ _ b3 m h' hr' (hsv.mono hh') (hh' _ _ hrd1.m3) (hh' _ _ hrd1.m) hrk) ?_
      rintro _ h2 ⟨rfl, e2⟩ _
      subst e2
      refine rs rfl (s_not rfl rfl) ?_
      apply run_end
      repeat apply wp_seq'
      refine wp_cond' rfl (fun hc53 => ?_) (fun hc53 => ?_)
      ·skip
       apply wp_exit'
       rw [if_neg (by rw [List.all_eq_false.2 ⟨_, getD_memL (i := j) (by omega), by simpa using hc53⟩]; decide)] at hst
       refine wp_text rfl ?_
       refine rs rfl (s_add rfl rfl rfl (IntWalk.i64_in _ (by omega))) ?_
       refine rm rfl ?_
       apply run_end
       exact ⟨(h2, x + 1, q1.set k x, u1, us1, oA1, oc1), ⟨⟨by dsimp only; omega, hus1, hh1⟩, hst⟩, by dsimp only; omega, ⟨by repeat (first|exact True.intro|refine And.intro rfl ?_), rfl, by repeat (first|exact NS _|exact SR _|apply SCC|apply SC)⟩⟩
      ·skip
       apply wp_skip'
       refine wp_text rfl ?_
       refine rs rfl (s_add rfl rfl rfl (IntWalk.i64_in _ (by omega))) ?_
       refine rm rfl ?_
       apply run_end
       exact ⟨j + 1, ⟨by omega, fun i hi => (Nat.lt_succ_iff_lt_or_eq.1 hi).elim (hall i) (fun e => by rw [e]; simpa using hc53)⟩, by omega, ⟨by repeat (first|exact True.intro|refine And.intro rfl ?_), rfl, by repeat (first|exact NS _|exact SR _|apply SCC|apply SC)⟩⟩
     ·skip
      apply wp_exit'
      have hallT : (endsL ls k).all (keepI ls (q1.set k x)) = true := List.all_eq_true.2 fun o ho => by obtain ⟨i, hi, rfl⟩ := List.getElem_of_mem ho; have := hall i (by omega); simpa [List.getD_eq_getElem?_getD, List.getElem?_eq_getElem hi] using this
      rw [if_pos hallT] at hst
      have hnx := hok1.next (k := k) (x := x)
      repeat apply wp_seq'
      refine wp_text rfl ?_
      refine rs rfl (s_ld rfl rfl isAgg108 (.o_ rfl)) ?_
      refine rm rfl ?_
      refine rs rfl (s_ia1 rfl rfl rfl underlying108 sizeOf4 (by omega) (by omega)) ?_
      refine run_strowM Value.bool rfl rfl rfl rfl rfl rfl rfl rfl sizeOf4 (by repeat first|exact Swap.here|apply Swap.there) (by omega) ?_
      apply run_end
      simp only [Int.toNat_natCast]
      repeat apply wp_seq'
      refine wp_text rfl ?_
      refine rs rfl (s_ld rfl rfl isAgg90 (.o_ rfl)) ?_
      refine rm rfl ?_
      refine rs rfl (s_add (q := ((k + 1 : Nat) : Int)) rfl rfl rfl (by rw [show (k : Int) + 1 = ((k + 1 : Nat) : Int) from rfl]; exact IntWalk.i64_in _ (by omega))) ?_
      refine run_callM (L := auL n b1 b5 b6 b10 b11 rq b12 ru b13 (q1.set k x) (u1.set x true) us1 oA1 oc1) (M := []) (vs := [_]) rfl rfl rfl (dst_lt rfl rfl) rfl rfl en105 (List.Perm.refl _) (ih (k + 1) (by omega) _ _ us1 oA1 oc1 h1 hnx hus1 hrd1) ?_
      rintro r61 h2 _ ⟨bb, q2, u2, us2, oA2, oc2, rfl, rfl, hus2, hgo⟩ hh2
      refine rm rfl ?_
      apply run_end
      have hR2 := AuOk.go (ls := ls) (f := f) (k := k + 1) hnx
      rw [show auNext k x (q1, u1, us1.map (·.2)) = (q1.set k x, u1.set x true, us1.map (·.2)) from rfl, hgo] at hR2 hst
      have hul2 := hR2.u
      dsimp only at hul2 hst
      repeat apply wp_seq'
      refine wp_text rfl ?_
      refine rs rfl (s_ld rfl rfl isAgg108 (.o_ rfl)) ?_
      refine rm rfl ?_
      refine rs rfl (s_ia1 rfl rfl rfl underlying108 sizeOf4 (by omega) (by omega)) ?_
      refine run_strowM Value.bool rfl rfl rfl rfl rfl rfl rfl rfl sizeOf4 (by repeat first|exact Swap.here|apply Swap.there) (by omega) ?_
      apply run_end
      simp only [Int.toNat_natCast]
      repeat apply wp_seq'
      refine wp_text rfl ?_
      refine rm rfl ?_
      refine rs rfl (s_not rfl rfl) ?_
      apply run_end
      repeat apply wp_seq'
      refine wp_cond' rfl (fun hc66 => ?_) (fun hc66 => ?_)
      ·skip
       repeat apply wp_seq'
       refine wp_text rfl ?_
       refine rm rfl ?_
       apply run_end
       apply wp_ret'
       have hb : bb = false := by simpa using hc66
       subst hb
       refine finM_ret (auL n b1 b5 b6 b10 b11 rq b12 ru b13 q2 (u2.set x false) us2 oA2 oc2) (res_tmp rfl rfl) ⟨_, .refl _, (by repeat (first|exact NS _|exact SR _|apply SCC|apply SC))⟩ ⟨_, _, _, _, _, _, rfl, rfl, hus2, ?_⟩
       rw [auGo_succ, show n = x + 1 + (n - x - 1) from by omega, auTo_stop]
       ·rw [show x + 1 + (n - x - 1) = n from by omega]; exact hst
       ·rw [show x + 1 + (n - x - 1) = n from by omega, hst]
      ·skip
       apply wp_skip'
       have hb : bb = true := by simpa using hc66
       subst hb
       refine wp_text rfl ?_
       refine rs rfl (s_add rfl rfl rfl (IntWalk.i64_in _ (by omega))) ?_
       refine rm rfl ?_
       apply run_end
       exact ⟨(h2, x + 1, q2, u2.set x false, us2, oA2, oc2), ⟨⟨by dsimp only; omega, hus2, fun b o hb => hh2 _ _ (hh1 _ _ hb)⟩, hst⟩, by dsimp only; omega, ⟨by repeat (first|exact True.intro|refine And.intro rfl ?_), rfl, by repeat (first|exact NS _|exact SR _|apply SCC|apply SC)⟩⟩
   ·skip
    apply wp_exit'
    obtain rfl : x = n := by omega
    repeat apply wp_seq'
    refine wp_text rfl ?_
    refine rm rfl ?_
    apply run_end
    apply wp_ret'
    refine finM_ret (auL x b1 b5 b6 b10 b11 rq b12 ru b13 q1 u1 us1 oA1 oc1) (res_tmp rfl rfl) ⟨_, .refl _, (by repeat (first|exact NS _|exact SR _|apply SCC|apply SC))⟩ ⟨_, _, _, _, _, _, rfl, rfl, hus1, hto⟩
theorem info26 : (Tryz.prog.info? 26).map (fun i => (i.zero, i.size, i.bytes)) = some (some (.slice none 0 0), 1, 24) := by kernel_rfl
theorem bkt_swap {bs : List Bkt} {e : Nat} {b : Bkt} (hb : bs[e]? = some b) (v' u : Value) (line : List Int) : Swap (.row b.1 35 1 b.2.1.length b.2.1) (.row v' 35 1 (b.2.1.length + 1) (b.2.1 ++ [u])) (bs.map bktRow) ((bs.set e (v', b.2.1 ++ [u], b.2.2 ++ [line])).map bktRow) := by
 have := Swap.map_at (f := bktRow) (z := (v', b.2.1 ++ [u], b.2.2 ++ [line])) hb
 simpa only [bktRow, List.length_append, List.length_singleton] using this
structure BsOk (h : H) (N : Nat) (ls : List (List Int)) (k : Nat) (bs : List Bkt) : Prop where
 n : bs.length = N
 b : ∀ i b, bs[i]? = some b → BktOk h b ∧ b.2.2 = endsL (ls.take k) i ∧ b.2.1.length ≤ k
theorem endsL_succ {ls : List (List Int)} {k : Nat} (hk : k < ls.length) (i : Nat) : endsL (ls.take (k + 1)) i = endsL (ls.take k) i ++ (if (ls.getD k []).getD ((ls.getD k []).length - 1) 0 == (i : Int) then [ls.getD k []] else []) := by
 unfold endsL
 rw [List.take_succ_eq_append_getElem hk, List.filter_append, List.getD_eq_getElem?_getD (l := ls), List.getElem?_eq_getElem hk, Option.getD_some]
 congr 1
 simp only [List.filter_cons, List.filter_nil]
theorem BsOk.step {h : H} {N : Nat} {ls : List (List Int)} {k e : Nat} {bs : List Bkt} (r : BsOk h N ls k bs) (hk : k < ls.length) (hm : ls.length ≤ 4294967296) {b : Bkt} (hb : bs[e]? = some b) (he : (ls.getD k []).getD ((ls.getD k []).length - 1) 0 = (e : Int)) {sv : Value} (hsv : RdI h sv (ls.getD k [])) (v' : Value) : BsOk h N ls (k + 1) (bs.set e (v', b.2.1 ++ [sv], b.2.2 ++ [ls.getD k []])) := by
 refine ⟨by simp [r.n], fun i c hc => ?_⟩
 by_cases hie : e = i
 ·subst hie
  rw [List.getElem?_set_self (List.getElem?_eq_some_iff.1 hb).1] at hc
  cases hc
  obtain ⟨⟨h1, h2, h3⟩, h4, h5⟩ := r.b e b hb
  have h6 : AllRd h (b.2.1 ++ [sv]) (b.2.2 ++ [ls.getD k []]) := AllRd.snoc ⟨h1, h2⟩ hsv
  refine ⟨⟨h6.1, h6.2, by simp; omega⟩, ?_, by simp; omega⟩
  rw [endsL_succ hk, if_pos (by rw [he]; simp), h4]
 ·rw [List.getElem?_set_ne hie] at hc
  obtain ⟨h1, h4, h5⟩ := r.b i c hc
  refine ⟨h1, ?_, by omega⟩
  rw [endsL_succ hk, if_neg (by rw [he]; simp only [beq_iff_eq]; omega), List.append_nil, h4]
def autE (n : Int) (ls : List (List Int)) : Int := firstI [sysI n ls, whenI (decide (9 < n)) 20]
def au0 (N : Nat) : AuSt := (List.replicate N 0, List.replicate N false, [])
def autO (n : Int) (ls : List (List Int)) : List Sy × Int := if autE n ls ≠ 0 then ([], autE n ls) else if (auGo n.toNat ls n.toNat 0 (au0 n.toNat)).1 then ((auGo n.toNat ls n.toNat 0 (au0 n.toNat)).2.2.2, 0) else ([], 5)
theorem autE_zero {n : Int} {ls : List (List Int)} (h : autE n ls = 0) : sysI n ls = 0 ∧ n ≤ 9 := by
 simp only [autE, firstI_zero, List.mem_cons, List.not_mem_nil, or_false, forall_eq_or_imp, forall_eq, whenI_zero (show (20 : Int) ≠ 0 by decide), decide_eq_false_iff_not] at h
 omega
theorem au0_ok (N : Nat) : AuOk N (au0 N) := ⟨by simp [au0], by simp [au0], by simp [au0]⟩
set_option maxRecDepth 8000 in
set_option maxHeartbeats 8000000 in
theorem automorphisms_fn (n : Int) (ls : List (List Int)) (tv : Value) (h : H) (ht : RdT h tv ls) (hcap : CapOk tv ls.length) : Fn Tryz.prog 34 #[.agg #[.int .i64 n, tv]] h fun r h' => ∃ sv, r = .tuple #[sv, .int .i64 (autO n ls).2] ∧ RdS h' sv (autO n ls).1 := by
 have htm := ht.len
 obtain ⟨A, c, rfl, _⟩ := id ht
 refine fn_of (vs := [.agg #[.int .i64 n, .slice A ls.length c]]) func34 rfl ntmps34 (Nat.le_of_ble_eq_true rfl) fun w hw => ?_
 repeat apply wp_seq'
 refine wp_text rfl ?_
 refine run_box rfl rfl rfl rfl rfl rfl rfl fun b1 => ?_
 refine rm rfl ?_
 refine rm rfl ?_
 apply run_end
 repeat apply wp_seq'
 refine wp_any [0, 2, 3, 4, 1, 5, 6, 7, 8] rfl (by kernel_rfl) ?_
 refine rs rfl (s_ld2 rfl rfl isAgg46 sizeOf46 (.o_ rfl) (.o_ rfl)) ?_
 refine rs rfl (s_fa (off := 0) rfl rfl underlying46 rfl sizeOf3 rfl) ?_
 refine rs rfl (s_ld rfl rfl isAgg3 (.o_ rfl)) ?_
 refine rs rfl (s_gt rfl rfl rfl) ?_
 refine run_callv (vs := [_]) rfl rfl rfl rfl rfl rfl en103 (system_fn _ _ _ _ ht hcap) ?_
 refine run_callv (vs := [_, _]) rfl rfl rfl rfl rfl rfl en96 (when_fn _ _ _) ?_
 refine run_bsl (parts := [_, _]) (vs := [_, _]) rfl rfl rfl rfl rfl rfl (bs178_2 _ _) fun b20 h2 hh2 hb20 => ?_
 have hr20 := rdI_of (xs := [_, _]) hb20 rfl rfl (Nat.le_of_ble_eq_true rfl)
 have ht := ht.mono hh2
 refine run_callv (vs := [_]) rfl rfl rfl rfl rfl rfl en94 (first_fn _ _ _ hr20) ?_
 refine rm rfl ?_
 apply run_end
 rw [show firstI [sysI n ls, whenI (decide (9 < n)) 20] = autE n ls from rfl]
 repeat apply wp_seq'
 refine wp_text rfl ?_
 refine rm rfl ?_
 refine rs rfl (s_ne rfl rfl rfl) ?_
 apply run_end
 repeat apply wp_seq'
 refine wp_if' rfl (fun hc23 => ?_) (fun hc23 => ?_)
 ·skip
  repeat apply wp_seq'
  refine wp_text rfl ?_
  refine rm rfl ?_
  refine rm rfl ?_
  refine rm rfl ?_
  apply run_end
  apply wp_ret'
  refine fin_ret (res_tt rfl rfl rfl) ?_
  have e : autO n ls = ([], autE n ls) := by rw [autO, if_pos hc23]
  rw [e]
  exact ⟨_, rfl, RdS.nil _ 0⟩
 ·skip
  apply wp_skip'
  obtain ⟨hs0, hn9⟩ := autE_zero (Decidable.not_not.1 hc23)
  obtain ⟨⟨hn1, _⟩, hl128, hlin⟩ := sysI_zero hs0
  obtain ⟨N, rfl⟩ := Int.eq_ofNat_of_zero_le (show 0 ≤ n by omega)
  have hN9 : N ≤ 9 := by omega
  have hO : autO N ls = if (auGo N ls N 0 (au0 N)).1 then ((auGo N ls N 0 (au0 N)).2.2.2, 0) else ([], 5) := by rw [autO, if_neg hc23, Int.toNat_natCast]
  repeat apply wp_seq'
  refine wp_text rfl ?_
  refine rs rfl (s_ld2 rfl rfl isAgg46 sizeOf46 (.o_ rfl) (.o_ rfl)) ?_
  refine run_call (vs := [_]) rfl rfl rfl rfl rfl rfl en104 (keeper_fn _ _ _ _ ht) ?_
  intro v26 h3 ⟨b3, m, e26, hb3, hm⟩ hh3
  subst e26
  have ht := ht.mono hh3
  refine run_alloc rfl rfl rfl rfl rfl zeroValue101 rfl fun b5 => ?_
  refine run_st rfl rfl rfl rfl rfl rfl rfl rfl sizeOf101 (by repeat first|exact Swap.here|apply Swap.there) rfl ?_
  apply run_end
  repeat apply wp_seq'
  refine wp_text rfl ?_
  refine rs rfl (s_fa (off := 0) rfl rfl underlying46 rfl sizeOf3 rfl) ?_
  refine rs rfl (s_ld rfl rfl isAgg3 (.o_ rfl)) ?_
  refine run_mksl rfl rfl rfl rfl rfl rfl rfl underlying130 info26 rfl (by omega) (by omega) fun be => ?_
  refine run_alloc rfl rfl rfl rfl rfl zeroValue130 rfl fun b6 => ?_
  refine run_st rfl rfl rfl rfl rfl rfl rfl rfl sizeOf130 (by repeat first|exact Swap.here|apply Swap.there) rfl ?_
  apply run_end
  repeat apply wp_seq'
  refine wp_text rfl ?_
  refine rs rfl (s_fa (off := 1) rfl rfl underlying46 rfl sizeOf26 rfl) ?_
  refine rs rfl (s_ld rfl rfl isAgg26 (.o_ rfl)) ?_
  refine rs rfl (s_lenT ht rfl rfl underlying26) ?_
  refine rm rfl ?_
  apply run_end
  repeat apply wp_seq'
  apply wp_block'
  refine WP.nilrows 35 1 N ?_
  have e0 : ∀ (X : List Own), X ++ List.replicate N (Own.row (.slice none 0 0) 35 1 0 []) = X ++ (List.replicate N ((.slice none 0 0, [], []) : Bkt)).map bktRow := fun X => by rw [List.map_replicate]; rfl
  rw [e0, show List.replicate N (Value.slice none 0 0) = (List.replicate N ((.slice none 0 0, [], []) : Bkt)).map (fun b : Bkt => b.1) from by rw [List.map_replicate]]
  refine wp_loop' (ι := Nat × List Bkt) (fun x => x.1 ≤ ls.length ∧ BsOk h3 N ls x.1 x.2) (fun x => ⟨[(33, .int .i64 x.1), (32, .int .i64 ls.length), (31, .slice A ls.length c), (6, .pointer (some ⟨b6, 0, none⟩)), (5, .pointer (some ⟨b5, 0, none⟩)), (1, .pointer (some ⟨b1, 0, none⟩))], h3, .obj b6 (.cells #[.slice (some ⟨be, 0, none⟩) N N] 130 (0, 0)) :: .row (.slice (some ⟨be, 0, none⟩) N N) 26 1 N (x.2.map (fun b : Bkt => b.1)) :: .obj b5 (.cells #[.func (.func 169) #[] #[.pointer (some ⟨b3, 0, none⟩)]] 101 (0, 0)) :: .obj b1 (.cells #[.int .i64 N, .slice A ls.length c] 46 (0, 0)) :: x.2.map bktRow⟩) (fun x => ls.length - x.1) (0, List.replicate N ((.slice none 0 0, [], []) : Bkt)) ⟨Nat.zero_le _, ⟨by simp, fun i b hb => ?_⟩⟩ ⟨by repeat (first|exact True.intro|refine And.intro rfl ?_), rfl, by repeat (first|exact NS _|exact SR _|apply SCC|apply SC)⟩ fun x hx => ?_
  ·skip
   obtain ⟨hi, rfl⟩ := List.getElem?_eq_some_iff.1 hb
   rw [List.getElem_replicate]
   exact ⟨⟨rfl, (fun j hj => by cases hj), Nat.zero_le _⟩, rfl, Nat.le_refl _⟩
  obtain ⟨k, bs⟩ := x
  obtain ⟨hk, hbs⟩ := hx
  dsimp only at hk hbs ⊢
  repeat apply wp_seq'
  refine wp_text rfl ?_
  refine rs rfl (s_lt rfl rfl rfl) ?_
  apply run_end
  repeat apply wp_seq'
  refine wp_if' rfl (fun hc34 => ?_) (fun hc34 => ?_)
  ·skip
   apply wp_skip'
   obtain ⟨sv, hsv, hat⟩ := ht.get (j := k) (by omega)
   have hkl : k < ls.length := by omega
   obtain ⟨hlen0, hrng, _⟩ := lineI_zero (hlin k hkl)
   have hrl := (hrng ((ls.getD k []).length - 1) (by omega)).1
   obtain ⟨e, he⟩ := Int.eq_ofNat_of_zero_le hrl.1
   have heN : e < bs.length := by rw [hbs.n]; omega
   obtain ⟨b, hb⟩ : ∃ b, bs[e]? = some b := ⟨_, List.getElem?_eq_getElem heN⟩
   obtain ⟨_, _, hbl⟩ := hbs.b e b hb
   have hbn := hbs.n
   have hsm := hsv.len
   repeat apply wp_seq'
   apply wp_block'
   repeat apply wp_seq'
   refine wp_text rfl ?_
   refine rs rfl (s_iaT ht (by omega) (by omega) rfl rfl rfl underlying26 sizeOf35) ?_
   refine rs rfl (s_ldT hat (by omega) rfl rfl isAgg35) ?_
   refine rm rfl ?_
   apply run_end
   repeat apply wp_seq'
   refine wp_text rfl ?_
   refine rm rfl ?_
   refine rm rfl ?_
   refine rs rfl (s_lenI hsv rfl rfl underlying35) ?_
   refine rs rfl (s_sub rfl rfl rfl (IntWalk.i64_in _ (by omega))) ?_
   refine rs rfl (s_iaI hsv (by omega) (by omega) rfl rfl rfl underlying35 sizeOf3) ?_
   refine rs rfl (s_ldI hsv (by omega) (by omega) rfl rfl isAgg3) ?_
   refine rm rfl ?_
   apply run_end
   rw [show (((ls.getD k []).length : Int) - 1).toNat = (ls.getD k []).length - 1 from by omega, he]
   have eb : bs.getD (e : Int).toNat (.slice none 0 0, [], []) = b := by rw [Int.toNat_natCast, List.getD_eq_getElem?_getD, hb]; rfl
   repeat apply wp_seq'
   refine (wp_cutP (fun p : Option Addr × Nat => ⟨[(33, .int .i64 k), (32, .int .i64 ls.length), (31, .slice A ls.length c), (6, .pointer (some ⟨b6, 0, none⟩)), (5, .pointer (some ⟨b5, 0, none⟩)), (1, .pointer (some ⟨b1, 0, none⟩))], h3, .obj b6 (.cells #[.slice (some ⟨be, 0, none⟩) N N] 130 (0, 0)) :: .row (.slice (some ⟨be, 0, none⟩) N N) 26 1 N ((bs.set e (.slice p.1 (b.2.1.length + 1) p.2, b.2.1 ++ [sv], b.2.2 ++ [ls.getD k []])).map (fun b : Bkt => b.1)) :: .obj b5 (.cells #[.func (.func 169) #[] #[.pointer (some ⟨b3, 0, none⟩)]] 101 (0, 0)) :: .obj b1 (.cells #[.int .i64 N, .slice A ls.length c] 46 (0, 0)) :: (bs.set e (.slice p.1 (b.2.1.length + 1) p.2, b.2.1 ++ [sv], b.2.2 ++ [ls.getD k []])).map bktRow⟩) [(0, 8)] [[0, 1, 2, 3, 4, 5, 6, 7, 9, 8, 10], [1, 2, 3, 4, 5, 6, 7, 8, 0, 9, 10]] (fun _ => rfl) rfl (by kernel_rfl) ?_ ?_)
   ·intro l hl
    simp only [List.mem_cons, List.not_mem_nil, or_false] at hl
    rcases hl with rfl | rfl
    ·skip
     refine rs rfl (s_ld rfl rfl isAgg130 (.o_ rfl)) ?_
     refine rm rfl ?_
     refine rs rfl (s_ld rfl rfl isAgg130 (.o_ rfl)) ?_
     refine rm rfl ?_
     refine rs rfl (s_ia1 rfl rfl rfl underlying130 sizeOf26 (by omega) (by omega)) ?_
     refine rs rfl (s_ld rfl rfl isAgg26 (.rowM (e := 26) (sz := 1) (fun b : Bkt => b.1) (.slice none 0 0, [], []) (by repeat first|exact MH _|apply MT) (by first | omega | (simp; omega)))) ?_
     refine rm rfl ?_
     refine run_bso (parts := [_]) (vs := [_]) rfl rfl rfl rfl rfl rfl (bs26_r hsv) fun b50 => ?_
     refine rs rfl (s_ia1 rfl rfl rfl underlying130 sizeOf26 (by omega) (by omega)) ?_
     refine run_app1v (v := b.1) (n := b.2.1.length) (xs := b.2.1) _ rfl rfl rfl rfl rfl (by rw [← eb]; rfl) rfl underlying26 info35 rfl (fun v' => (by repeat (first | exact bkt_swap hb v' sv (ls.getD k []) | apply Swap.there))) (by repeat first|exact MH _|apply MT) (RdI.one hsv) (by omega) (by decide) fun v51 hv51 => ?_
     obtain ⟨A51, c51, rfl⟩ := hv51
     refine run_strowM (fun b : Bkt => b.1) (u := (.slice A51 (b.2.1.length + 1) c51, b.2.1 ++ [sv], b.2.2 ++ [ls.getD k []])) rfl rfl rfl rfl rfl rfl rfl rfl sizeOf26 (by repeat first|exact Swap.here|apply Swap.there) (by omega) ?_
     apply run_end
     exact ⟨(A51, c51), by repeat (first|exact True.intro|refine And.intro rfl ?_), rfl, _, .refl _, (by repeat (first|exact NS _|exact SR _|apply SCC|apply SC))⟩
    ·skip
     refine rm rfl ?_
     refine rs rfl (s_ld rfl rfl isAgg130 (.o_ rfl)) ?_
     refine rm rfl ?_
     refine rs rfl (s_ia1 rfl rfl rfl underlying130 sizeOf26 (by omega) (by omega)) ?_
     refine rs rfl (s_ld rfl rfl isAgg26 (.rowM (e := 26) (sz := 1) (fun b : Bkt => b.1) (.slice none 0 0, [], []) (by repeat first|exact MH _|apply MT) (by first | omega | (simp; omega)))) ?_
     refine rm rfl ?_
     refine run_bso (parts := [_]) (vs := [_]) rfl rfl rfl rfl rfl rfl (bs26_r hsv) fun b50 => ?_
     refine run_app1v (v := b.1) (n := b.2.1.length) (xs := b.2.1) _ rfl rfl rfl rfl rfl (by rw [← eb]; rfl) rfl underlying26 info35 rfl (fun v' => (by repeat (first | exact bkt_swap hb v' sv (ls.getD k []) | apply Swap.there))) (by repeat first|exact MH _|apply MT) (RdI.one hsv) (by omega) (by decide) fun v51 hv51 => ?_
     obtain ⟨A51, c51, rfl⟩ := hv51
     refine rs rfl (s_ld rfl rfl isAgg130 (.o_ rfl)) ?_
     refine rs rfl (s_ia1 rfl rfl rfl underlying130 sizeOf26 (by omega) (by omega)) ?_
     refine run_strowM (fun b : Bkt => b.1) (u := (.slice A51 (b.2.1.length + 1) c51, b.2.1 ++ [sv], b.2.2 ++ [ls.getD k []])) rfl rfl rfl rfl rfl rfl rfl rfl sizeOf26 (by repeat first|exact Swap.here|apply Swap.there) (by omega) ?_
     apply run_end
     exact ⟨(A51, c51), by repeat (first|exact True.intro|refine And.intro rfl ?_), rfl, _, .refl _, (by repeat (first|exact NS _|exact SR _|apply SCC|apply SC))⟩
   rintro ⟨A51, c51⟩
   refine wp_text rfl ?_
   refine rs rfl (s_add rfl rfl rfl (IntWalk.i64_in _ (by omega))) ?_
   refine rm rfl ?_
   apply run_end
   exact ⟨(k + 1, bs.set e (.slice A51 (b.2.1.length + 1) c51, b.2.1 ++ [sv], b.2.2 ++ [ls.getD k []])), ⟨by dsimp only; omega, hbs.step hkl htm hb he hsv _⟩, by dsimp only; omega, ⟨by repeat (first|exact True.intro|refine And.intro rfl ?_), rfl, by repeat (first|exact NS _|exact SR _|apply SCC|apply SC)⟩⟩
  ·skip
   apply wp_exit'
   obtain rfl : k = ls.length := by omega
   refine WP.letTs (L := [.obj b6 (.cells #[.slice (some ⟨be, 0, none⟩) N N] 130 (0, 0)), .row (.slice (some ⟨be, 0, none⟩) N N) 26 1 N (bs.map (fun b : Bkt => b.1)), .obj b5 (.cells #[.func (.func 169) #[] #[.pointer (some ⟨b3, 0, none⟩)]] 101 (0, 0)), .obj b1 (.cells #[.int .i64 N, .slice A ls.length c] 46 (0, 0))]) rfl bs (fun b hb => by obtain ⟨i, hi, rfl⟩ := List.getElem_of_mem hb; exact (hbs.b i _ (List.getElem?_eq_getElem hi)).1) fun h4 hh4 hrt => ?_
   refine WP.letRow rfl (by repeat first|exact Pick.here|apply Pick.there) fun h5 hh5 hlen hrow => ?_
   refine WP.letObj (b := b6) rfl (by repeat first|exact Pick.here|apply Pick.there) fun h6 hh6 hb6 => ?_
   refine WP.letObj (b := b5) rfl (by repeat first|exact Pick.here|apply Pick.there) fun h7 hh7 hb5 => ?_
   refine WP.letObj (b := b1) rfl (by repeat first|exact Pick.here|apply Pick.there) fun h8 hh8 hb1 => ?_
   have hbn := hbs.n
   have hrd : AuRd h8 N ls b1 b5 b6 b3 m be (.slice A ls.length c) := by
    have m4 : ∀ b o, h3 b = some o → h8 b = some o := fun b o hb => hh8 _ _ (hh7 _ _ (hh6 _ _ (hh5 _ _ (hh4 _ _ hb))))
    refine ⟨hb1, hh8 _ _ (hh7 _ _ hb6), fun i hi => ?_, hh8 _ _ hb5, m4 _ _ hb3, m4 _ _ hm⟩
    obtain ⟨b, hb⟩ : ∃ b, bs[i]? = some b := ⟨_, List.getElem?_eq_getElem (by omega)⟩
    rcases hrow with ⟨_, h0⟩ | ⟨g, cap, arr, eg, hg, harr⟩
    ·omega
    ·simp only [Value.slice.injEq, Option.some.injEq, Addr.mk.injEq, true_and, and_true] at eg
     obtain ⟨rfl, rfl⟩ := eg
     have hr2 := hrt b (List.mem_of_getElem? hb)
     have hel := (hbs.b i b hb).2.1
     rw [List.take_length] at hel
     rw [hel] at hr2
     refine ⟨b.1, ⟨⟨be, 0, _, _, arr, 26, (0, 0), rfl, hh8 _ _ (hh7 _ _ (hh6 _ _ hg)), ?_⟩⟩, hr2.mono fun b o hb => hh8 _ _ (hh7 _ _ (hh6 _ _ (hh5 _ _ hb)))⟩
     rw [Nat.zero_add, harr i (by omega), List.getElem?_map, hb]
     rfl
   repeat apply wp_seq'
   refine wp_text rfl ?_
   refine run_alloc rfl rfl rfl rfl rfl zeroValue22 rfl fun b10 => ?_
   apply run_end
   repeat apply wp_seq'
   refine wp_text rfl ?_
   refine rs rfl (s_fa (off := 0) rfl rfl underlying46 rfl sizeOf3 rfl) ?_
   refine rs rfl (s_ld rfl rfl isAgg3 (.imm _ _ _ hb1 rfl)) ?_
   refine run_mksl rfl rfl rfl rfl rfl rfl rfl underlying35 info3 rfl (by omega) (by omega) fun rq => ?_
   refine run_alloc rfl rfl rfl rfl rfl zeroValue35 rfl fun b11 => ?_
   refine run_st rfl rfl rfl rfl rfl rfl rfl rfl sizeOf35 (by repeat first|exact Swap.here|apply Swap.there) rfl ?_
   apply run_end
   repeat apply wp_seq'
   refine wp_text rfl ?_
   refine rs rfl (s_fa (off := 0) rfl rfl underlying46 rfl sizeOf3 rfl) ?_
   refine rs rfl (s_ld rfl rfl isAgg3 (.imm _ _ _ hb1 rfl)) ?_
   refine run_mksl rfl rfl rfl rfl rfl rfl rfl underlying108 info4 rfl (by omega) (by omega) fun ru => ?_
   refine run_alloc rfl rfl rfl rfl rfl zeroValue108 rfl fun b12 => ?_
   refine run_st rfl rfl rfl rfl rfl rfl rfl rfl sizeOf108 (by repeat first|exact Swap.here|apply Swap.there) rfl ?_
   apply run_end
   repeat apply wp_seq'
   refine wp_text rfl ?_
   refine run_alloc rfl rfl rfl rfl rfl zeroValue90 rfl fun b13 => ?_
   apply run_end
   repeat apply wp_seq'
   refine wp_text rfl ?_
   refine rs rfl (s_mkf (vs := [.pointer (some ⟨b1, 0, none⟩), .pointer (some ⟨b10, 0, none⟩), .pointer (some ⟨b11, 0, none⟩), .pointer (some ⟨b12, 0, none⟩), .pointer (some ⟨b6, 0, none⟩), .pointer (some ⟨b5, 0, none⟩), .pointer (some ⟨b13, 0, none⟩)]) rfl rfl) ?_
   refine run_st rfl rfl rfl rfl rfl rfl rfl rfl sizeOf90 (by repeat first|exact Swap.here|apply Swap.there) rfl ?_
   apply run_end
   refine WP.nilrow 37 2 ?_
   repeat apply wp_seq'
   refine wp_text rfl ?_
   refine rs rfl (s_ld rfl rfl isAgg90 (.o_ rfl)) ?_
   refine run_callM (L := auL N b1 b5 b6 b10 b11 rq b12 ru b13 (List.replicate N 0) (List.replicate N false) [] none 0) (M := []) (vs := [_]) rfl rfl rfl (dst_lt rfl rfl) rfl rfl en105 ?_ (au_fn N b1 b5 b6 b10 b11 rq b12 ru b13 b3 m be ls _ hN9 hs0 N 0 (by omega) _ _ [] none 0 _ (au0_ok N) (fun p hp => by cases hp) hrd) ?_
   ·skip
    simp only [auL, List.map_replicate, List.append_nil]
    repeat (first | exact List.Perm.refl _ | refine Pick.tail (by repeat first|exact Pick.here|apply Pick.there) ?_)
   rintro r62 h9 _ ⟨bb, q2, u2, us2, oA2, oc2, rfl, rfl, hus2, hgo⟩ hh9
   refine rs rfl (s_not rfl rfl) ?_
   apply run_end
   have hR := AuOk.go (ls := ls) (f := N) (k := 0) (au0_ok N)
   rw [show auGo N ls N 0 (au0 N) = (bb, q2, u2, us2.map (·.2)) from hgo] at hO hR
   repeat apply wp_seq'
   refine wp_cond' rfl (fun hc63 => ?_) (fun hc63 => ?_)
   ·skip
    have hbb : bb = false := by simpa using hc63
    subst hbb
    repeat apply wp_seq'
    refine wp_text rfl ?_
    refine rm rfl ?_
    refine rm rfl ?_
    apply run_end
    apply wp_ret'
    refine fin_ret (res_tt rfl rfl rfl) ?_
    rw [hO]
    exact ⟨_, rfl, RdS.nil _ 0⟩
   ·skip
    apply wp_skip'
    have hbb : bb = true := by simpa using hc63
    subst hbb
    have hul := hR.o rfl
    dsimp only at hul
    rw [List.length_map] at hul
    repeat apply wp_seq'
    refine wp_text rfl ?_
    refine rs rfl (s_ld rfl rfl isAgg22 (.o_ rfl)) ?_
    refine rm rfl ?_
    refine rm rfl ?_
    apply run_end
    refine WP.letR us2 rfl (by repeat first|exact Pick.here|apply Pick.there) (by omega) hus2 fun h10 hh10 hrd2 => ?_
    apply wp_ret'
    refine fin_ret (res_tt rfl rfl rfl) ?_
    rw [hO]
    exact ⟨_, rfl, hrd2⟩
end Go.Tal

namespace Go.Proofs
open Go.Shelf
def Tryz.len64L_ren : Go.Shelf.Ren := ⟨fun | 129 => 213 | n => n, fun | 53 => 225 | 3 => 3 | 4 => 4 | 46 => 176 | 5 => 5 | 9 => 9 | n => n, fun | n => n⟩
theorem Tryz.len64L : Go.Proofs.Lays.n129 Tryz.prog Tryz.len64L_ren := {
 mixed := by kernel_rfl
 f129 := Tryz.func213.trans (congrArg some (by kernel_rfl))
 t3 := Tryz.underlying3
 a3 := Tryz.isAgg3
 z3 := Tryz.sizeOf3
 v3 := Tryz.zeroValue3
 t4 := Tryz.underlying4
 a4 := Tryz.isAgg4
 z4 := Tryz.sizeOf4
 v4 := Tryz.zeroValue4
 t5 := Tryz.underlying5
 a5 := Tryz.isAgg5
 z5 := Tryz.sizeOf5
 v5 := Tryz.zeroValue5
 t9 := Tryz.underlying9
 a9 := Tryz.isAgg9
 z9 := Tryz.sizeOf9
 v9 := Tryz.zeroValue9
 t46 := Tryz.underlying176
 a46 := Tryz.isAgg176
 z46 := Tryz.sizeOf176
 v46 := Tryz.zeroValue176
 t53 := Tryz.underlying225
 a53 := Tryz.isAgg225
 z53 := Tryz.sizeOf225
 v53 := Tryz.zeroValue225 }
def Tryz.lz64L_ren : Go.Shelf.Ren := ⟨fun | 134 => 261 | 129 => 213 | n => n, fun | 53 => 225 | 3 => 3 | 4 => 4 | 46 => 176 | 5 => 5 | 9 => 9 | n => n, fun | n => n⟩
theorem Tryz.lz64L : Go.Proofs.Lays.n134 Tryz.prog Tryz.lz64L_ren := {
 mixed := by kernel_rfl
 f129 := Tryz.func213.trans (congrArg some (by kernel_rfl))
 f134 := Tryz.func261.trans (congrArg some (by kernel_rfl))
 t3 := Tryz.underlying3
 a3 := Tryz.isAgg3
 z3 := Tryz.sizeOf3
 v3 := Tryz.zeroValue3
 t4 := Tryz.underlying4
 a4 := Tryz.isAgg4
 z4 := Tryz.sizeOf4
 v4 := Tryz.zeroValue4
 t5 := Tryz.underlying5
 a5 := Tryz.isAgg5
 z5 := Tryz.sizeOf5
 v5 := Tryz.zeroValue5
 t9 := Tryz.underlying9
 a9 := Tryz.isAgg9
 z9 := Tryz.sizeOf9
 v9 := Tryz.zeroValue9
 t46 := Tryz.underlying176
 a46 := Tryz.isAgg176
 z46 := Tryz.sizeOf176
 v46 := Tryz.zeroValue176
 t53 := Tryz.underlying225
 a53 := Tryz.isAgg225
 z53 := Tryz.sizeOf225
 v53 := Tryz.zeroValue225 }
def Tryz.mul64L_ren : Go.Shelf.Ren := ⟨fun | 264 => 224 | n => n, fun | 53 => 225 | 46 => 176 | n => n, fun | n => n⟩
theorem Tryz.mul64L : Go.Proofs.Lays.n264 Tryz.prog Tryz.mul64L_ren := {
 mixed := by kernel_rfl
 f264 := Tryz.func224.trans (congrArg some (by kernel_rfl))
 t46 := Tryz.underlying176
 a46 := Tryz.isAgg176
 z46 := Tryz.sizeOf176
 v46 := Tryz.zeroValue176
 t53 := Tryz.underlying225
 a53 := Tryz.isAgg225
 z53 := Tryz.sizeOf225
 v53 := Tryz.zeroValue225 }
def Tryz.itoaL_ren : Go.Shelf.Ren := ⟨fun | 171 => 230 | 243 => 265 | 246 => 286 | 283 => 287 | 284 => 288 | 285 => 289 | 286 => 290 | 129 => 213 | 317 => 298 | 318 => 299 | 319 => 300 | 320 => 301 | 337 => 304 | 338 => 305 | n => n, fun | 3 => 3 | 9 => 9 | 2 => 2 | 4 => 4 | 171 => 281 | 0 => 0 | 53 => 225 | 37 => 204 | 5 => 5 | 173 => 283 | 212 => 293 | 51 => 223 | 20 => 20 | 213 => 294 | 46 => 176 | 232 => 297 | 233 => 298 | n => n, fun | 17 => 2 | 18 => 4 | 19 => 5 | n => n⟩
theorem Tryz.itoaL : Go.Proofs.Lays.n171 Tryz.prog Tryz.itoaL_ren := {
 mixed := by kernel_rfl
 f129 := Tryz.func213.trans (congrArg some (by kernel_rfl))
 f171 := Tryz.func230.trans (congrArg some (by kernel_rfl))
 f243 := Tryz.func265.trans (congrArg some (by kernel_rfl))
 f246 := Tryz.func286.trans (congrArg some (by kernel_rfl))
 f283 := Tryz.func287.trans (congrArg some (by kernel_rfl))
 f284 := Tryz.func288.trans (congrArg some (by kernel_rfl))
 f285 := Tryz.func289.trans (congrArg some (by kernel_rfl))
 f286 := Tryz.func290.trans (congrArg some (by kernel_rfl))
 f317 := Tryz.func298.trans (congrArg some (by kernel_rfl))
 f318 := Tryz.func299.trans (congrArg some (by kernel_rfl))
 f319 := Tryz.func300.trans (congrArg some (by kernel_rfl))
 f320 := Tryz.func301.trans (congrArg some (by kernel_rfl))
 f337 := Tryz.func304.trans (congrArg some (by kernel_rfl))
 f338 := Tryz.func305.trans (congrArg some (by kernel_rfl))
 t0 := Tryz.underlying0
 a0 := Tryz.isAgg0
 z0 := Tryz.sizeOf0
 v0 := Tryz.zeroValue0
 t2 := Tryz.underlying2
 a2 := Tryz.isAgg2
 z2 := Tryz.sizeOf2
 v2 := Tryz.zeroValue2
 t3 := Tryz.underlying3
 a3 := Tryz.isAgg3
 z3 := Tryz.sizeOf3
 v3 := Tryz.zeroValue3
 t4 := Tryz.underlying4
 a4 := Tryz.isAgg4
 z4 := Tryz.sizeOf4
 v4 := Tryz.zeroValue4
 t5 := Tryz.underlying5
 a5 := Tryz.isAgg5
 z5 := Tryz.sizeOf5
 v5 := Tryz.zeroValue5
 t9 := Tryz.underlying9
 a9 := Tryz.isAgg9
 z9 := Tryz.sizeOf9
 v9 := Tryz.zeroValue9
 t20 := Tryz.underlying20
 a20 := Tryz.isAgg20
 z20 := Tryz.sizeOf20
 v20 := Tryz.zeroValue20
 t37 := Tryz.underlying204
 a37 := Tryz.isAgg204
 z37 := Tryz.sizeOf204
 v37 := Tryz.zeroValue204
 t46 := Tryz.underlying176
 a46 := Tryz.isAgg176
 z46 := Tryz.sizeOf176
 v46 := Tryz.zeroValue176
 t51 := Tryz.underlying223
 a51 := Tryz.isAgg223
 z51 := Tryz.sizeOf223
 v51 := Tryz.zeroValue223
 t53 := Tryz.underlying225
 a53 := Tryz.isAgg225
 z53 := Tryz.sizeOf225
 v53 := Tryz.zeroValue225
 t171 := Tryz.underlying281
 a171 := Tryz.isAgg281
 z171 := Tryz.sizeOf281
 v171 := Tryz.zeroValue281
 t173 := Tryz.underlying283
 a173 := Tryz.isAgg283
 z173 := Tryz.sizeOf283
 v173 := Tryz.zeroValue283
 t212 := Tryz.underlying293
 a212 := Tryz.isAgg293
 z212 := Tryz.sizeOf293
 v212 := Tryz.zeroValue293
 t213 := Tryz.underlying294
 a213 := Tryz.isAgg294
 z213 := Tryz.sizeOf294
 t232 := Tryz.underlying297
 a232 := Tryz.isAgg297
 z232 := Tryz.sizeOf297
 v232 := Tryz.zeroValue297
 t233 := Tryz.underlying298
 a233 := Tryz.isAgg298
 z233 := Tryz.sizeOf298
 v233 := Tryz.zeroValue298
 g17 := by kernel_rfl
 g18 := by kernel_rfl
 g19 := by kernel_rfl }
def Tryz.itoaM_ren : Go.Shelf.Ren := ⟨fun | 171 => 230 | 243 => 265 | 246 => 286 | 283 => 287 | 284 => 288 | 285 => 289 | 286 => 290 | 129 => 213 | 317 => 298 | 318 => 299 | 319 => 300 | 320 => 301 | 337 => 304 | 338 => 305 | n => n, fun | 3 => 3 | 9 => 9 | 2 => 2 | 4 => 4 | 171 => 281 | 0 => 0 | 53 => 225 | 37 => 204 | 5 => 5 | 173 => 283 | 212 => 293 | 51 => 223 | 20 => 20 | 213 => 294 | 46 => 176 | 232 => 297 | 233 => 298 | n => n, fun | 17 => 2 | 18 => 4 | 19 => 5 | n => n⟩
theorem Tryz.itoaM : Go.Proofs.LaysM.n171 Tryz.prog Tryz.itoaM_ren := {
 mixed := by kernel_rfl
 f129 := Tryz.func213.trans (congrArg some (by kernel_rfl))
 f171 := Tryz.func230.trans (congrArg some (by kernel_rfl))
 f243 := Tryz.func265.trans (congrArg some (by kernel_rfl))
 f246 := Tryz.func286.trans (congrArg some (by kernel_rfl))
 f283 := Tryz.func287.trans (congrArg some (by kernel_rfl))
 f284 := Tryz.func288.trans (congrArg some (by kernel_rfl))
 f285 := Tryz.func289.trans (congrArg some (by kernel_rfl))
 f286 := Tryz.func290.trans (congrArg some (by kernel_rfl))
 f317 := Tryz.func298.trans (congrArg some (by kernel_rfl))
 f318 := Tryz.func299.trans (congrArg some (by kernel_rfl))
 f319 := Tryz.func300.trans (congrArg some (by kernel_rfl))
 f320 := Tryz.func301.trans (congrArg some (by kernel_rfl))
 f337 := Tryz.func304.trans (congrArg some (by kernel_rfl))
 f338 := Tryz.func305.trans (congrArg some (by kernel_rfl))
 t0 := Tryz.underlying0
 a0 := Tryz.isAgg0
 z0 := Tryz.sizeOf0
 v0 := Tryz.zeroValue0
 t2 := Tryz.underlying2
 a2 := Tryz.isAgg2
 z2 := Tryz.sizeOf2
 v2 := Tryz.zeroValue2
 t3 := Tryz.underlying3
 a3 := Tryz.isAgg3
 z3 := Tryz.sizeOf3
 v3 := Tryz.zeroValue3
 t4 := Tryz.underlying4
 a4 := Tryz.isAgg4
 z4 := Tryz.sizeOf4
 v4 := Tryz.zeroValue4
 t5 := Tryz.underlying5
 a5 := Tryz.isAgg5
 z5 := Tryz.sizeOf5
 v5 := Tryz.zeroValue5
 t9 := Tryz.underlying9
 a9 := Tryz.isAgg9
 z9 := Tryz.sizeOf9
 v9 := Tryz.zeroValue9
 t20 := Tryz.underlying20
 a20 := Tryz.isAgg20
 z20 := Tryz.sizeOf20
 v20 := Tryz.zeroValue20
 t37 := Tryz.underlying204
 a37 := Tryz.isAgg204
 z37 := Tryz.sizeOf204
 v37 := Tryz.zeroValue204
 t46 := Tryz.underlying176
 a46 := Tryz.isAgg176
 z46 := Tryz.sizeOf176
 v46 := Tryz.zeroValue176
 t51 := Tryz.underlying223
 a51 := Tryz.isAgg223
 z51 := Tryz.sizeOf223
 v51 := Tryz.zeroValue223
 t53 := Tryz.underlying225
 a53 := Tryz.isAgg225
 z53 := Tryz.sizeOf225
 v53 := Tryz.zeroValue225
 t171 := Tryz.underlying281
 a171 := Tryz.isAgg281
 z171 := Tryz.sizeOf281
 v171 := Tryz.zeroValue281
 t173 := Tryz.underlying283
 a173 := Tryz.isAgg283
 z173 := Tryz.sizeOf283
 v173 := Tryz.zeroValue283
 t212 := Tryz.underlying293
 a212 := Tryz.isAgg293
 z212 := Tryz.sizeOf293
 v212 := Tryz.zeroValue293
 t213 := Tryz.underlying294
 a213 := Tryz.isAgg294
 z213 := Tryz.sizeOf294
 t232 := Tryz.underlying297
 a232 := Tryz.isAgg297
 z232 := Tryz.sizeOf297
 v232 := Tryz.zeroValue297
 t233 := Tryz.underlying298
 a233 := Tryz.isAgg298
 z233 := Tryz.sizeOf298
 v233 := Tryz.zeroValue298
 g17 := by kernel_rfl
 g18 := by kernel_rfl
 g19 := by kernel_rfl
 i0 := by kernel_rfl
 i2 := by kernel_rfl
 i3 := by kernel_rfl
 i4 := by kernel_rfl
 i5 := by kernel_rfl
 i9 := by kernel_rfl
 i20 := by kernel_rfl
 i37 := by kernel_rfl
 i46 := by kernel_rfl
 i51 := by kernel_rfl
 i53 := by kernel_rfl
 i171 := by kernel_rfl
 i173 := by kernel_rfl
 i212 := by kernel_rfl
 i232 := by kernel_rfl
 i233 := by kernel_rfl
 m17 := by kernel_rfl
 m18 := by kernel_rfl
 m19 := by kernel_rfl }
def Tryz.trimPrefixL_ren : Go.Shelf.Ren := ⟨fun | 101 => 229 | 208 => 264 | 206 => 285 | n => n, fun | 9 => 9 | 4 => 4 | 3 => 3 | n => n, fun | n => n⟩
theorem Tryz.trimPrefixL : Go.Proofs.Lays.n101 Tryz.prog Tryz.trimPrefixL_ren := {
 mixed := by kernel_rfl
 f101 := Tryz.func229.trans (congrArg some (by kernel_rfl))
 f206 := Tryz.func285.trans (congrArg some (by kernel_rfl))
 f208 := Tryz.func264.trans (congrArg some (by kernel_rfl))
 t3 := Tryz.underlying3
 a3 := Tryz.isAgg3
 z3 := Tryz.sizeOf3
 v3 := Tryz.zeroValue3
 t4 := Tryz.underlying4
 a4 := Tryz.isAgg4
 z4 := Tryz.sizeOf4
 v4 := Tryz.zeroValue4
 t9 := Tryz.underlying9
 a9 := Tryz.isAgg9
 z9 := Tryz.sizeOf9
 v9 := Tryz.zeroValue9 }
def Tryz.repeatL_ren : Go.Shelf.Ren := ⟨fun | 105 => 232 | 212 => 267 | 99 => 268 | 165 => 269 | 166 => 233 | 170 => 270 | 169 => 234 | 263 => 291 | 264 => 224 | 206 => 285 | 240 => 271 | 241 => 292 | 276 => 293 | 277 => 302 | n => n, fun | 9 => 9 | 3 => 3 | 4 => 4 | 20 => 20 | 0 => 0 | 46 => 176 | 109 => 266 | 5 => 5 | 72 => 242 | 76 => 245 | 51 => 223 | 146 => 285 | 53 => 225 | 148 => 229 | 70 => 240 | 37 => 204 | 75 => 244 | 127 => 269 | 164 => 287 | 80 => 151 | n => n, fun | n => n⟩
theorem Tryz.repeatL : Go.Proofs.Lays.n105 Tryz.prog Tryz.repeatL_ren := {
 mixed := by kernel_rfl
 f99 := Tryz.func268.trans (congrArg some (by kernel_rfl))
 f105 := Tryz.func232.trans (congrArg some (by kernel_rfl))
 f165 := Tryz.func269.trans (congrArg some (by kernel_rfl))
 f166 := Tryz.func233.trans (congrArg some (by kernel_rfl))
 f169 := Tryz.func234.trans (congrArg some (by kernel_rfl))
 f170 := Tryz.func270.trans (congrArg some (by kernel_rfl))
 f206 := Tryz.func285.trans (congrArg some (by kernel_rfl))
 f212 := Tryz.func267.trans (congrArg some (by kernel_rfl))
 f240 := Tryz.func271.trans (congrArg some (by kernel_rfl))
 f241 := Tryz.func292.trans (congrArg some (by kernel_rfl))
 f263 := Tryz.func291.trans (congrArg some (by kernel_rfl))
 f264 := Tryz.func224.trans (congrArg some (by kernel_rfl))
 f276 := Tryz.func293.trans (congrArg some (by kernel_rfl))
 f277 := Tryz.func302.trans (congrArg some (by kernel_rfl))
 t0 := Tryz.underlying0
 a0 := Tryz.isAgg0
 z0 := Tryz.sizeOf0
 v0 := Tryz.zeroValue0
 t3 := Tryz.underlying3
 a3 := Tryz.isAgg3
 z3 := Tryz.sizeOf3
 v3 := Tryz.zeroValue3
 t4 := Tryz.underlying4
 a4 := Tryz.isAgg4
 z4 := Tryz.sizeOf4
 v4 := Tryz.zeroValue4
 t5 := Tryz.underlying5
 a5 := Tryz.isAgg5
 z5 := Tryz.sizeOf5
 v5 := Tryz.zeroValue5
 t9 := Tryz.underlying9
 a9 := Tryz.isAgg9
 z9 := Tryz.sizeOf9
 v9 := Tryz.zeroValue9
 t20 := Tryz.underlying20
 a20 := Tryz.isAgg20
 z20 := Tryz.sizeOf20
 v20 := Tryz.zeroValue20
 t37 := Tryz.underlying204
 a37 := Tryz.isAgg204
 z37 := Tryz.sizeOf204
 v37 := Tryz.zeroValue204
 t46 := Tryz.underlying176
 a46 := Tryz.isAgg176
 z46 := Tryz.sizeOf176
 v46 := Tryz.zeroValue176
 t51 := Tryz.underlying223
 a51 := Tryz.isAgg223
 z51 := Tryz.sizeOf223
 v51 := Tryz.zeroValue223
 t53 := Tryz.underlying225
 a53 := Tryz.isAgg225
 z53 := Tryz.sizeOf225
 v53 := Tryz.zeroValue225
 t70 := Tryz.underlying240
 a70 := Tryz.isAgg240
 z70 := Tryz.sizeOf240
 v70 := Tryz.zeroValue240
 t72 := Tryz.underlying242
 a72 := Tryz.isAgg242
 z72 := Tryz.sizeOf242
 v72 := Tryz.zeroValue242
 t75 := Tryz.underlying244
 a75 := Tryz.isAgg244
 z75 := Tryz.sizeOf244
 v75 := Tryz.zeroValue244
 t76 := Tryz.underlying245
 a76 := Tryz.isAgg245
 z76 := Tryz.sizeOf245
 v76 := Tryz.zeroValue245
 t109 := Tryz.underlying266
 a109 := Tryz.isAgg266
 z109 := Tryz.sizeOf266
 v109 := Tryz.zeroValue266
 t127 := Tryz.underlying269
 a127 := Tryz.isAgg269
 z127 := Tryz.sizeOf269
 v127 := Tryz.zeroValue269
 t146 := Tryz.underlying285
 a146 := Tryz.isAgg285
 z146 := Tryz.sizeOf285
 v146 := Tryz.zeroValue285
 t148 := Tryz.underlying229
 a148 := Tryz.isAgg229
 z148 := Tryz.sizeOf229
 v148 := Tryz.zeroValue229
 t164 := Tryz.underlying287
 a164 := Tryz.isAgg287
 z164 := Tryz.sizeOf287
 v164 := Tryz.zeroValue287 }
def Tryz.builderStringL_ren : Go.Shelf.Ren := ⟨fun | 169 => 234 | n => n, fun | 70 => 240 | 9 => 9 | 0 => 0 | 72 => 242 | 37 => 204 | 127 => 269 | 3 => 3 | 5 => 5 | n => n, fun | n => n⟩
theorem Tryz.builderStringL : Go.Proofs.Lays.n169 Tryz.prog Tryz.builderStringL_ren := {
 mixed := by kernel_rfl
 f169 := Tryz.func234.trans (congrArg some (by kernel_rfl))
 t0 := Tryz.underlying0
 a0 := Tryz.isAgg0
 z0 := Tryz.sizeOf0
 v0 := Tryz.zeroValue0
 t3 := Tryz.underlying3
 a3 := Tryz.isAgg3
 z3 := Tryz.sizeOf3
 v3 := Tryz.zeroValue3
 t9 := Tryz.underlying9
 a9 := Tryz.isAgg9
 z9 := Tryz.sizeOf9
 v9 := Tryz.zeroValue9
 t37 := Tryz.underlying204
 a37 := Tryz.isAgg204
 z37 := Tryz.sizeOf204
 v37 := Tryz.zeroValue204
 t70 := Tryz.underlying240
 a70 := Tryz.isAgg240
 z70 := Tryz.sizeOf240
 v70 := Tryz.zeroValue240
 t72 := Tryz.underlying242
 a72 := Tryz.isAgg242
 z72 := Tryz.sizeOf242
 v72 := Tryz.zeroValue242
 t127 := Tryz.underlying269
 a127 := Tryz.isAgg269
 z127 := Tryz.sizeOf269
 v127 := Tryz.zeroValue269 }
def Tryz.add64L_ren : Go.Shelf.Ren := ⟨fun | 25 => 221 | n => n, fun | 22 => 225 | n => n, fun | n => n⟩
theorem Tryz.add64L : Go.Proofs.Lays7.n25 Tryz.prog Tryz.add64L_ren := {
 mixed := by kernel_rfl
 f25 := Tryz.func221.trans (congrArg some (by kernel_rfl))
 t22 := Tryz.underlying225
 a22 := Tryz.isAgg225
 z22 := Tryz.sizeOf225
 v22 := Tryz.zeroValue225
 i22 := by kernel_rfl }
def Tryz.sub64L_ren : Go.Shelf.Ren := ⟨fun | 26 => 223 | n => n, fun | 22 => 225 | n => n, fun | n => n⟩
theorem Tryz.sub64L : Go.Proofs.Lays7.n26 Tryz.prog Tryz.sub64L_ren := {
 mixed := by kernel_rfl
 f26 := Tryz.func223.trans (congrArg some (by kernel_rfl))
 t22 := Tryz.underlying225
 a22 := Tryz.isAgg225
 z22 := Tryz.sizeOf225
 v22 := Tryz.zeroValue225
 i22 := by kernel_rfl }
end Go.Proofs

/-
 Symbolic states: values of four cells, results of two cells each, min and max; the library's contracts as functions' contracts.
-/
namespace Go.Tal
open Go.RowKit
section
variable {P : Program} {o : Oper} {F : List (Nat × Value)} {h : H} {L : List Own} {v0 v1 v2 v3 : Value} {x y : Operand}
theorem s_ld4 {t : TypeId} {b o' : Nat} (ho : o.op = .load t x) (hx : evF F x = some (.pointer (some ⟨b, o', none⟩))) (hg : ∀ w, (isAgg t).run P w = .ok true w) (hs : ∀ w, (sizeOf t).run P w = .ok 4 w) (h0 : Cell h L b o' v0) (h1 : Cell h L b (o' + 1) v1) (h2 : Cell h L b (o' + 2) v2) (h3 : Cell h L b (o' + 3) v3) : SoftOk P o F h L (.agg #[v0, v1, v2, v3]) :=
 s_lda (vs := [v0, v1, v2, v3]) ho hx hg hs rfl fun j v hj => by
  match j, hj with
  | 0, hj => cases hj; exact h0
  | 1, hj => cases hj; exact h1
  | 2, hj => cases hj; exact h2
  | 3, hj => cases hj; exact h3
theorem s_min2 {k : IntKind} {m n q : Int} {ts : Array TypeId} (ho : o.op = .call { callee := .builtin .min, args := #[x, y], argTypes := ts }) (hx : evF F x = some (.int k m)) (hy : evF F y = some (.int k n)) (hq : (if n < m then n else m) = q) : SoftOk P o F h L (.int k q) := fun a w ha _ => by
 have h1 := agree_of ha (by rw [ho]; simp [Op.operands, Call.operands]) hx
 have h2 := agree_of ha (x := y) (by rw [ho]; simp [Op.operands, Call.operands]) hy
 simp [execOp, ho, resolve, h1, h2, invoke, builtin, run_min_int2, hq]
theorem s_max2 {k : IntKind} {m n q : Int} {ts : Array TypeId} (ho : o.op = .call { callee := .builtin .max, args := #[x, y], argTypes := ts }) (hx : evF F x = some (.int k m)) (hy : evF F y = some (.int k n)) (hq : (if m < n then n else m) = q) : SoftOk P o F h L (.int k q) := fun a w ha _ => by
 have h1 := agree_of ha (by rw [ho]; simp [Op.operands, Call.operands]) hx
 have h2 := agree_of ha (x := y) (by rw [ho]; simp [Op.operands, Call.operands]) hy
 simp [execOp, ho, resolve, h1, h2, invoke, builtin, run_max_int2, hq]
end
theorem h_st4 {C : Ctx} {o : Oper} {F : List (Nat × Value)} {h : H} {L L' : List Own} {x y : Operand} {v0 v1 v2 v3 : Value} {t e : TypeId} {b : Nat} {arr : Array Value} (ho : o.op = .store e x y) (hx : evF F x = some (.pointer (some ⟨b, 0, none⟩))) (hy : evF F y = some (.agg #[v0, v1, v2, v3])) (h0 : v0.oneCell' = true) (h1 : v1.oneCell' = true) (h2 : v2.oneCell' = true) (h3 : v3.oneCell' = true) (hs : ∀ w, (sizeOf e).run C.P w = .ok 4 w)
 (hlt : arr.size = 4) (p : Swap (.obj b (.cells arr t (0, 0))) (.obj b (.cells #[v0, v1, v2, v3] t (0, 0))) L L') : HardW C o F h L (fun v' h' L'' => v' = undef ∧ h' = h ∧ L'' = L') := fun a w ha _ _ hm => by
 have e1 := agree_of ha (by rw [ho]; simp [Op.operands]) hx
 have e2 := agree_of ha (x := y) (by rw [ho]; simp [Op.operands]) hy
 obtain ⟨L0, p1, _⟩ := p.pick
 have hb : w.heap[b]? = some (.cells arr t (0, 0)) := hm.sat.own _ (p1.perm.mem_iff.2 List.mem_cons_self)
 have hb2 := setCell_heap (o' := 0) hb v0
 have hb3 := setCell_heap (o' := 1) hb2 v1
 have hb4 := setCell_heap (o' := 2) hb3 v2
 have hb5 := setCell_heap (o' := 3) hb4 v3
 have hadd : ∀ j, (⟨b, 0, none⟩ : Addr).add j = ⟨b, j, none⟩ := fun j => by unfold Addr.add; split <;> simp_all
 have c0 : w.cell? ⟨b, 0, none⟩ = some (arr[0]'(by omega)) := by simp [World.cell?, hb, hlt]
 have c1 : (w.setCell ⟨b, 0, none⟩ v0).cell? ⟨b, 1, none⟩ = some (arr[1]'(by omega)) := by simp [World.cell?, hb2, hlt]
 have c2 : ((w.setCell ⟨b, 0, none⟩ v0).setCell ⟨b, 1, none⟩ v1).cell? ⟨b, 2, none⟩ = some (arr[2]'(by omega)) := by simp [World.cell?, hb3, hlt]
 have c3 : (((w.setCell ⟨b, 0, none⟩ v0).setCell ⟨b, 1, none⟩ v1).setCell ⟨b, 2, none⟩ v2).cell? ⟨b, 3, none⟩ = some (arr[3]'(by omega)) := by simp [World.cell?, hb4, hlt]
 have f0 : w.frozen? ⟨b, 0, none⟩ = false := by simp [World.frozen?, hb]
 have f1 : (w.setCell ⟨b, 0, none⟩ v0).frozen? ⟨b, 1, none⟩ = false := by simp only [World.frozen?, hb2]; simp
 have f2 : ((w.setCell ⟨b, 0, none⟩ v0).setCell ⟨b, 1, none⟩ v1).frozen? ⟨b, 2, none⟩ = false := by simp only [World.frozen?, hb3]; simp
 have f3 : (((w.setCell ⟨b, 0, none⟩ v0).setCell ⟨b, 1, none⟩ v1).setCell ⟨b, 2, none⟩ v2).frozen? ⟨b, 3, none⟩ = false := by simp only [World.frozen?, hb4]; simp
 refine upon_skip (w' := (((w.setCell ⟨b, 0, none⟩ v0).setCell ⟨b, 1, none⟩ v1).setCell ⟨b, 2, none⟩ v2).setCell ⟨b, 3, none⟩ v3) ?_ ⟨undef, h, L', ⟨rfl, rfl, rfl⟩, rfl, ?_⟩
 ·simp only [execOp, ho, e1, e2]
  have : (Instr.storeAt e (.pointer (some ⟨b, 0, none⟩)) (.agg #[v0, v1, v2, v3])).run C.P w = .ok () ((((w.setCell ⟨b, 0, none⟩ v0).setCell ⟨b, 1, none⟩ v1).setCell ⟨b, 2, none⟩ v2).setCell ⟨b, 3, none⟩ v3) := by
   simp [Instr.storeAt, Instr.sureAddr, storeVar, hs w, Value.cells, storeCells, hadd, run_store C.P _ _ v0 .plain h0, run_store C.P _ _ v1 .plain h1, run_store C.P _ _ v2 .plain h2, run_store C.P _ _ v3 .plain h3, c0, c1, c2, c3, f0, f1, f2, f3]
  rw [Sem.run_bind, this]; rfl
 ·refine hm.swap p rfl (fun c hc => .inl (by cases hc; rfl)) ?_ rfl rfl rfl (by simp) (Nat.le_refl _) (fun k _ hk => by rw [Below.heap_setCell _ _ _ k hk, Below.heap_setCell _ _ _ k hk, Below.heap_setCell _ _ _ k hk, Below.heap_setCell _ _ _ k hk])
  have : (((arr.setIfInBounds 0 v0).setIfInBounds 1 v1).setIfInBounds 2 v2).setIfInBounds 3 v3 = #[v0, v1, v2, v3] := by
   cases arr with
   | mk l => match l, hlt with
    | [_, _, _, _], _ => rfl
  rw [this] at hb5
  exact hb5
theorem run_st4 {dr : Bool} {C : Ctx} {ops : Array Oper} {K : S → Prop} {i : Nat} {r : List Nat} {F : List (Nat × Value)} {h : H} {L L' : List Own} {o : Oper} {x y : Operand} {v0 v1 v2 v3 : Value} {t e : TypeId} {b : Nat} {arr : Array Value} (ho : ops[i]? = some o) (hop : o.op = .store e x y) (hg : o.guard = none) (hd : o.dst = none)
 (hx : evF F x = some (.pointer (some ⟨b, 0, none⟩))) (hy : evF F y = some (.agg #[v0, v1, v2, v3])) (h0 : v0.oneCell' = true) (h1 : v1.oneCell' = true) (h2 : v2.oneCell' = true) (h3 : v3.oneCell' = true) (hs : ∀ w, (sizeOf e).run C.P w = .ok 4 w) (p : Swap (.obj b (.cells arr t (0, 0))) (.obj b (.cells #[v0, v1, v2, v3] t (0, 0))) L L') (hlt : arr.size = 4)
 (k : Run dr C ops K r ⟨F, h, L'⟩) : Run dr C ops K (i :: r) ⟨F, h, L⟩ :=
 run_hard ho hg (dst_no hd) (by simp [cls, hop]) _ (frm_st fun M => h_st4 hop hx hy h0 h1 h2 h3 hs hlt (p.append M)) fun _ _ _ ⟨e1, e2, e3⟩ => by subst e1 e2 e3; rw [hd]; exact ⟨fun _ hc => by simp [cls, hop] at hc, k⟩
theorem res_cell4 {P : Program} {fn : Func} {s : S} {t b : Nat} {e : TypeId} {v0 v1 v2 v3 : Value} (h : fn.results = #[.cell t e]) (hv : s.F.lookup t = some (.pointer (some ⟨b, 0, none⟩))) (hg : ∀ w, (isAgg e).run P w = .ok true w) (hs : ∀ w, (sizeOf e).run P w = .ok 4 w) (h0 : Cell s.h s.L b 0 v0) (h1 : Cell s.h s.L b 1 v1) (h2 : Cell s.h s.L b 2 v2) (h3 : Cell s.h s.L b 3 v3) : ResOk P fn s (.agg #[v0, v1, v2, v3]) :=
 res_cella (vs := [v0, v1, v2, v3]) h hv hg hs rfl fun j v hj => by
  match j, hj with
  | 0, hj => cases hj; exact h0
  | 1, hj => cases hj; exact h1
  | 2, hj => cases hj; exact h2
  | 3, hj => cases hj; exact h3
theorem run_loadVar2 {P : Program} {e : TypeId} {b : Nat} {v0 v1 : Value} {h : H} {L : List Own} {w : World} (hg : ∀ w, (isAgg e).run P w = .ok true w) (hs : ∀ w, (sizeOf e).run P w = .ok 2 w) (h0 : Cell h L b 0 v0) (h1 : Cell h L b 1 v1) (hsat : Sat h L w) : (loadVar e ⟨b, 0, none⟩).run P w = .ok (.agg #[v0, v1]) w := by
 have := run_cells (P := P) (w := w) (b := b) (o' := 0) (vs := [v0, v1]) (fun j v hj => by
  match j, hj with
  | 0, hj => cases hj; exact h0.at_ hsat
  | 1, hj => cases hj; exact h1.at_ hsat) 2 0 #[] (by simp) (by simp)
 simp [loadVar, hg w, hs w, loadCells, this]
/-- Two results of two cells each. -/
theorem res_c2c2 {P : Program} {fn : Func} {s : S} {t u b1 b2 : Nat} {e1 e2 : TypeId} {v1 v2 u1 u2 : Value} (h : fn.results = #[.cell t e1, .cell u e2]) (ht : s.F.lookup t = some (.pointer (some ⟨b1, 0, none⟩))) (hu : s.F.lookup u = some (.pointer (some ⟨b2, 0, none⟩)))
 (g1 : ∀ w, (isAgg e1).run P w = .ok true w) (s1 : ∀ w, (sizeOf e1).run P w = .ok 2 w) (g2 : ∀ w, (isAgg e2).run P w = .ok true w) (s2 : ∀ w, (sizeOf e2).run P w = .ok 2 w) (c1 : Cell s.h s.L b1 0 v1) (c2 : Cell s.h s.L b1 1 v2) (c3 : Cell s.h s.L b2 0 u1) (c4 : Cell s.h s.L b2 1 u2) : ResOk P fn s (.tuple #[.agg #[v1, v2], .agg #[u1, u2]]) := fun a w hsl hsat => by
 have ha : ∀ b, (asAddr (.pointer (some ⟨b, 0, none⟩))).run P w = .ok ⟨b, 0, none⟩ w := fun _ => rfl
 simp [results, h, hsl t _ ht, hsl u _ hu, ha, run_loadVar2 g1 s1 c1 c2 hsat, run_loadVar2 g2 s2 c3 c4 hsat]
theorem kp_refl (w : World) : Kp w [] w := ⟨rfl, rfl, rfl, Nat.le_refl _, Nat.le_refl _, fun _ _ _ => rfl⟩
/-- A call that leaves the world as it was. -/
theorem fnV_same {P : Program} {f : FuncId} {args : Array Value} {h : H} {v : Value} (hf : ∀ w, Calls P f args w fun e w' => e = .returned v ∧ w' = w) : FnV P f args h v :=
 fun w hw => (hf w).mono fun e w' ⟨he, hw'⟩ => ⟨v, h, he, rfl, by subst hw'; exact hw, fun _ _ => rfl, by subst hw'; exact kp_refl w'⟩
end Go.Tal

namespace Go.Tal
open Go.RowKit Go.Proofs Go.Proofs.Tryz _root_.Tal
theorem en224 : ∀ args w, (callFunc 224 args).run Tryz.prog w = .ok (.enter 224 args) w := enters_of func224 (by kernel_rfl) rfl
theorem en228 : ∀ args w, (callFunc 228 args).run Tryz.prog w = .ok (.enter 228 args) w := enters_of func228 (by kernel_rfl) rfl
theorem s_nenil {P : Program} {o : Oper} {F : List (Nat × Value)} {h : H} {L : List Own} {x y : Operand} {t e t' : TypeId} {A : Option Addr} {n c : Nat} (ho : o.op = .binOp .neq t x y t') (hx : evF F x = some (.slice A n c)) (hy : evF F y = some (.slice none 0 0)) (ht : P.underlying t = some (.slice e)) : SoftOk P o F h L (.bool (!A.isNone)) :=
 s_bin ho hx hy (fun w => by simp [eqGuard]) fun w => run_neq_slice_nil (w := w) t e A n c ht
/-- A small integer of the package num. -/
abbrev Sm (n : Int) : Value := .agg #[.int .i64 n, .slice none 0 0]
theorem b137_0 (n : Int) : ∀ w, (Instr.build 137 #[(0, .int .i64 n)]).run Tryz.prog w = .ok (Sm n) w := fun _ => by kernel_rfl
theorem b141_01 (n d : Int) : ∀ w, (Instr.build 141 #[(0, Sm n), (1, Sm d)]).run Tryz.prog w = .ok (.agg #[.int .i64 n, .slice none 0 0, .int .i64 d, .slice none 0 0]) w := fun _ => by kernel_rfl
theorem bs135_1 (x : Int) : ∀ w, (Instr.buildSlice 135 1 #[(0, .int .u64 x)]).run Tryz.prog w = .ok (.slice (some ⟨w.heap.size, 0, none⟩) 1 1) (w.alloc (.cells #[.int .u64 x] 225)) := fun _ => by kernel_rfl
theorem bitLenAux_le : ∀ (f x : Nat), Lib.bitLenAux f x ≤ f
 | 0, _ => Nat.le_refl _
 | f + 1, x => by
  unfold Lib.bitLenAux
  split
  ·omega
  ·have := bitLenAux_le f (x / 2)
   omega
theorem len64_fn (x : Nat) (h : H) (hx : x ≤ 18446744073709551615) : FnV Tryz.prog 213 #[.int .u64 x] h (.int .i64 (Lib.bitLen x)) :=
 fnV_same fun w => (Any.bits_Len64 Tryz.len64L (x : Int) w (by omega) (by omega)).mono fun e w' ⟨h1, h2⟩ => ⟨by rw [h1, Int.toNat_natCast], h2⟩
theorem mul64_fn (x y : Nat) (h : H) (hx : x < 18446744073709551616) (hy : y < 18446744073709551616) : FnV Tryz.prog 224 #[.int .u64 x, .int .u64 y] h (.tuple #[.int .u64 ((x * y / 18446744073709551616 : Nat) : Int), .int .u64 ((x * y % 18446744073709551616 : Nat) : Int)]) :=
 fnV_same fun w => (Any.bits_Mul64 Tryz.mul64L x y hx hy w).mono fun _ _ ⟨h1, h2⟩ => ⟨h1, h2⟩
def decStr (n : Nat) : ByteArray := ⟨(Lib.decDigits n).toArray⟩
theorem itoa_fn (n : Nat) (h : H) (hn : n < 100) : FnV Tryz.prog 230 #[.int .i64 n] h (.string (decStr n)) :=
 fnV_same fun w => (Any.strconv_Itoa_small Tryz.itoaL n hn w).mono fun _ _ ⟨h1, h2⟩ => ⟨h1, h2⟩
set_option maxRecDepth 8000 in
theorem of_fn (n : Int) (h : H) : FnV Tryz.prog 110 #[.int .i64 n] h (Sm n) := by
 refine fn_of (vs := [.int .i64 n]) func110 rfl ntmps110 (Nat.le_of_ble_eq_true rfl) fun w hw => ?_
 repeat apply wp_seq'
 refine wp_text rfl ?_
 refine run_alloc rfl rfl rfl rfl rfl zeroValue137 rfl fun b2 => ?_
 apply run_end
 repeat apply wp_seq'
 refine wp_text rfl ?_
 refine rm rfl ?_
 refine rs rfl (s_build1 rfl rfl (b137_0 _)) ?_
 refine run_st2 rfl rfl rfl rfl rfl rfl (by first | rfl | assumption | exact RdI.one (by assumption)) rfl sizeOf137 (by repeat first|exact Swap.here|apply Swap.there) rfl ?_
 apply run_end
 apply wp_ret'
 exact fin_ret (res_cell2 rfl rfl isAgg137 sizeOf137 (.own _ _ _ (by repeat first|exact MH _|apply MT) rfl) (.own _ _ _ (by repeat first|exact MH _|apply MT) rfl)) rfl
set_option maxRecDepth 8000 in
theorem sign_fn (n : Int) (h : H) (hn : 1 ≤ n) : FnV Tryz.prog 180 #[Sm n] h (.int .i64 1) := by
 refine fn_of (vs := [Sm n]) func180 rfl ntmps180 (Nat.le_of_ble_eq_true rfl) fun w hw => ?_
 repeat apply wp_seq'
 refine wp_text rfl ?_
 refine run_box rfl rfl rfl rfl rfl rfl rfl fun b1 => ?_
 refine rm rfl ?_
 apply run_end
 repeat apply wp_seq'
 refine wp_text rfl ?_
 refine rs rfl (s_fa (off := 0) rfl rfl underlying137 rfl sizeOf3 rfl) ?_
 refine rs rfl (s_ld rfl rfl isAgg3 (.o_ rfl)) ?_
 refine rs rfl (s_min2 (q := 1) rfl rfl rfl (by split <;> omega)) ?_
 refine rs rfl (s_max2 (q := 1) rfl rfl rfl (by decide)) ?_
 refine rm rfl ?_
 apply run_end
 apply wp_ret'
 exact fin_ret (res_tmp rfl rfl) rfl
set_option maxRecDepth 8000 in
theorem size_fn (n : Nat) (h : H) (hn : n ≤ 9223372036854775807) : FnV Tryz.prog 220 #[.int .i64 n] h (.int .u64 n) := by
 refine fn_of (vs := [.int .i64 n]) func220 rfl ntmps220 (Nat.le_of_ble_eq_true rfl) fun w hw => ?_
 repeat apply wp_seq'
 refine wp_text rfl ?_
 refine rm rfl ?_
 apply run_end
 repeat apply wp_seq'
 refine wp_text rfl ?_
 refine rm rfl ?_
 refine rs rfl (s_lt rfl rfl rfl) ?_
 apply run_end
 repeat apply wp_seq'
 refine wp_if' rfl (fun hc4 => ?_) (fun hc4 => ?_)
 ·skip
  omega
 ·skip
  apply wp_skip'
  repeat apply wp_seq'
  refine wp_text rfl ?_
  refine rm rfl ?_
  refine rs rfl (s_cvi rfl rfl (by show (Tryz.prog.underlying 3).isSome = true; rw [underlying3]; rfl) underlying225 (by rfl)) ?_
  refine rm rfl ?_
  apply run_end
  apply wp_ret'
  exact fin_ret (res_tmp rfl rfl) (by rw [IntWalk.u64_in _ (by omega)])
set_option maxRecDepth 8000 in
theorem parts_fn (n : Nat) (h : H) (hn : n ≤ 9223372036854775807) : Fn Tryz.prog 174 #[Sm n] h fun r h' => (n = 0 ∧ r = .tuple #[.bool false, .slice none 0 0]) ∨ (0 < n ∧ ∃ b, r = .tuple #[.bool false, .slice (some ⟨b, 0, none⟩) 1 1] ∧ h' b = some (.cells #[.int .u64 n] 225 (0, 0))) := by
 refine fn_of (vs := [Sm n]) func174 rfl ntmps174 (Nat.le_of_ble_eq_true rfl) fun w hw => ?_
 repeat apply wp_seq'
 refine wp_text rfl ?_
 refine run_box rfl rfl rfl rfl rfl rfl rfl fun b1 => ?_
 refine rm rfl ?_
 refine rm rfl ?_
 apply run_end
 repeat apply wp_seq'
 apply wp_block'
 repeat apply wp_seq'
 refine wp_text rfl ?_
 refine rs rfl (s_fa (off := 1) rfl rfl underlying137 rfl sizeOf135 rfl) ?_
 refine rs rfl (s_ld rfl rfl isAgg135 (.o_ rfl)) ?_
 refine rs rfl (s_nenil rfl rfl rfl underlying135) ?_
 refine rm rfl ?_
 apply run_end
 repeat apply wp_seq'
 refine wp_cond' (b := false) rfl (fun h => by cases h) (fun _ => ?_)
 repeat apply wp_seq'
 refine wp_text rfl ?_
 refine rs rfl (s_fa (off := 0) rfl rfl underlying137 rfl sizeOf3 rfl) ?_
 refine rs rfl (s_ld rfl rfl isAgg3 (.o_ rfl)) ?_
 refine rs rfl (s_eq rfl rfl rfl) ?_
 refine rm rfl ?_
 apply run_end
 repeat apply wp_seq'
 refine wp_if' rfl (fun hc13 => ?_) (fun hc13 => ?_)
 ·skip
  repeat apply wp_seq'
  refine wp_text rfl ?_
  refine rm rfl ?_
  refine rm rfl ?_
  apply run_end
  apply wp_ret'
  exact fin_ret (res_tt rfl rfl rfl) (.inl ⟨by omega, rfl⟩)
 ·skip
  apply wp_skip'
  repeat apply wp_seq'
  refine wp_any [0, 1, 2, 3, 4, 5, 7, 6, 8] rfl (by kernel_rfl) ?_
  refine rs rfl (s_fa (off := 0) rfl rfl underlying137 rfl sizeOf3 rfl) ?_
  refine rs rfl (s_ld rfl rfl isAgg3 (.o_ rfl)) ?_
  refine rs rfl (s_lt rfl rfl rfl) ?_
  refine rs rfl (s_fa (off := 0) rfl rfl underlying137 rfl sizeOf3 rfl) ?_
  refine rs rfl (s_ld rfl rfl isAgg3 (.o_ rfl)) ?_
  refine run_callv (vs := [_]) rfl rfl rfl rfl rfl rfl en220 (size_fn _ _ hn) ?_
  refine rm rfl ?_
  refine run_bsl (parts := [_]) (vs := [_]) rfl rfl rfl rfl rfl rfl (bs135_1 _) fun b23 h23 hh23 hb23 => ?_
  refine rm rfl ?_
  apply run_end
  rw [show decide ((n : Int) < 0) = false from decide_eq_false (by omega)]
  apply wp_ret'
  exact fin_ret (res_tt rfl rfl rfl) (.inr ⟨by omega, b23, rfl, hb23⟩)
set_option maxRecDepth 8000 in
theorem bits_fn (n : Nat) (h : H) (hn : n ≤ 9223372036854775807) : FnV Tryz.prog 228 #[Sm n] h (.int .i64 (Lib.bitLen n)) := by
 refine fn_of (vs := [Sm n]) func228 rfl ntmps228 (Nat.le_of_ble_eq_true rfl) fun w hw => ?_
 repeat apply wp_seq'
 refine wp_text rfl ?_
 refine run_box rfl rfl rfl rfl rfl rfl rfl fun b1 => ?_
 refine rm rfl ?_
 apply run_end
 repeat apply wp_seq'
 refine wp_text rfl ?_
 refine rs rfl (s_ld2 rfl rfl isAgg137 sizeOf137 (.o_ rfl) (.o_ rfl)) ?_
 refine run_call (vs := [_]) rfl rfl rfl rfl rfl rfl en174 (parts_fn _ _ hn) ?_
 intro v7 h2 hv7 hh2
 rcases hv7 with ⟨hn0, rfl⟩ | ⟨hn0, b, rfl, hb⟩
 ·skip
  refine rm rfl ?_
  refine rs rfl (s_extract rfl rfl rfl) ?_
  refine rs rfl (s_extract rfl rfl rfl) ?_
  refine rm rfl ?_
  refine rm rfl ?_
  apply run_end
  repeat apply wp_seq'
  refine wp_text rfl ?_
  refine rm rfl ?_
  refine rs rfl (s_len rfl rfl underlying135) ?_
  refine rs rfl (s_eq rfl rfl rfl) ?_
  apply run_end
  repeat apply wp_seq'
  refine wp_cond' (b := true) rfl (fun _ => ?_) (fun h => by cases h)
  repeat apply wp_seq'
  refine wp_text rfl ?_
  refine rm rfl ?_
  apply run_end
  apply wp_ret'
  exact fin_ret (res_tmp rfl rfl) (by subst hn0; rfl)
 ·skip
  refine rm rfl ?_
  refine rs rfl (s_extract rfl rfl rfl) ?_
  refine rs rfl (s_extract rfl rfl rfl) ?_
  refine rm rfl ?_
  refine rm rfl ?_
  apply run_end
  repeat apply wp_seq'
  refine wp_text rfl ?_
  refine rm rfl ?_
  refine rs rfl (s_len rfl rfl underlying135) ?_
  refine rs rfl (s_eq rfl rfl rfl) ?_
  apply run_end
  repeat apply wp_seq'
  refine wp_cond' (b := false) rfl (fun h => by cases h) (fun _ => ?_)
  apply wp_skip'
  repeat apply wp_seq'
  refine wp_text rfl ?_
  refine rm rfl ?_
  refine rs rfl (s_len rfl rfl underlying135) ?_
  refine rs rfl (s_sub (q := 0) rfl rfl rfl rfl) ?_
  refine rs rfl (s_mul (q := 0) rfl rfl rfl rfl) ?_
  refine rm rfl ?_
  refine rm rfl ?_
  refine rs rfl (s_len rfl rfl underlying135) ?_
  refine rs rfl (s_sub (q := 0) rfl rfl rfl rfl) ?_
  refine rs rfl (s_iav rfl rfl rfl rfl rfl underlying135 sizeOf225 (by omega) (by omega)) ?_
  refine rs rfl (s_ld (b := b) (o' := 0) rfl rfl isAgg225 (.imm _ _ _ hb rfl)) ?_
  refine run_callv (vs := [_]) rfl rfl rfl rfl rfl rfl en213 (len64_fn _ _ (by omega)) ?_
  refine rs rfl (s_add (q := ((Lib.bitLen n : Nat) : Int)) rfl rfl rfl (by rw [Int.zero_add]; have := bitLenAux_le 64 n; exact IntWalk.i64_in _ (by unfold Lib.bitLen; omega))) ?_
  refine rm rfl ?_
  apply run_end
  apply wp_ret'
  exact fin_ret (res_tmp rfl rfl) rfl
set_option maxRecDepth 8000 in
theorem nlong_fn (n : Nat) (h : H) (hn : n ≤ 9223372036854775807) : FnV Tryz.prog 183 #[Sm n] h (.bool false) := by
 refine fn_of (vs := [Sm n]) func183 rfl ntmps183 (Nat.le_of_ble_eq_true rfl) fun w hw => ?_
 repeat apply wp_seq'
 refine wp_text rfl ?_
 refine run_box rfl rfl rfl rfl rfl rfl rfl fun b1 => ?_
 refine rm rfl ?_
 apply run_end
 repeat apply wp_seq'
 refine wp_text rfl ?_
 refine rs rfl (s_ld2 rfl rfl isAgg137 sizeOf137 (.o_ rfl) (.o_ rfl)) ?_
 refine run_callv (vs := [_]) rfl rfl rfl rfl rfl rfl en228 (bits_fn _ _ hn) ?_
 refine rs rfl (s_gt rfl rfl rfl) ?_
 refine rm rfl ?_
 refine run_cases (t := 6) rfl (fun hg => ?_) (fun hg => ?_)
 ·skip
  have := bitLenAux_le 64 n
  unfold Lib.bitLen at hg
  omega
 ·skip
  refine run_skip rfl rfl rfl rfl rfl rfl rfl ?_
  refine run_skip rfl rfl rfl rfl rfl rfl rfl ?_
  refine run_skip rfl rfl rfl rfl rfl rfl rfl ?_
  refine run_skip rfl rfl rfl rfl rfl rfl rfl ?_
  refine run_skip rfl rfl rfl rfl rfl rfl rfl ?_
  refine rs rfl (s_pick rfl rfl (fun h => by cases h) (fun _ => rfl)) ?_
  refine rm rfl ?_
  apply run_end
  apply wp_ret'
  exact fin_ret (res_tmp rfl rfl) rfl
set_option maxRecDepth 8000 in
theorem whole_fn (n : Int) (h : H) : FnV Tryz.prog 113 #[Sm n] h (.agg #[.int .i64 n, .slice none 0 0, .int .i64 1, .slice none 0 0]) := by
 refine fn_of (vs := [Sm n]) func113 rfl ntmps113 (Nat.le_of_ble_eq_true rfl) fun w hw => ?_
 repeat apply wp_seq'
 refine wp_text rfl ?_
 refine run_box rfl rfl rfl rfl rfl rfl rfl fun b1 => ?_
 refine run_alloc rfl rfl rfl rfl rfl zeroValue141 rfl fun b2 => ?_
 apply run_end
 repeat apply wp_seq'
 refine wp_any [0, 1, 2, 3] rfl (by kernel_rfl) ?_
 refine rs rfl (s_ld2 rfl rfl isAgg137 sizeOf137 (.o_ rfl) (.o_ rfl)) ?_
 refine run_callv (vs := [_]) rfl rfl rfl rfl rfl rfl en110 (of_fn _ _) ?_
 refine rs rfl (s_build2 rfl rfl rfl (b141_01 _ _)) ?_
 refine run_st4 rfl rfl rfl rfl rfl rfl rfl rfl rfl rfl sizeOf141 (by repeat first|exact Swap.here|apply Swap.there) rfl ?_
 apply run_end
 apply wp_ret'
 exact fin_ret (res_cell4 rfl rfl isAgg141 sizeOf141 (.own _ _ _ (by repeat first|exact MH _|apply MT) rfl) (.own _ _ _ (by repeat first|exact MH _|apply MT) rfl) (.own _ _ _ (by repeat first|exact MH _|apply MT) rfl) (.own _ _ _ (by repeat first|exact MH _|apply MT) rfl)) rfl
set_option maxRecDepth 8000 in
theorem large_fn (n : Nat) (h : H) (hn : n ≤ 9223372036854775807) : FnV Tryz.prog 115 #[.agg #[.int .i64 n, .slice none 0 0, .int .i64 1, .slice none 0 0]] h (.bool false) := by
 refine fn_of (vs := [.agg #[.int .i64 n, .slice none 0 0, .int .i64 1, .slice none 0 0]]) func115 rfl ntmps115 (Nat.le_of_ble_eq_true rfl) fun w hw => ?_
 repeat apply wp_seq'
 refine wp_text rfl ?_
 refine run_box rfl rfl rfl rfl rfl rfl rfl fun b1 => ?_
 refine rm rfl ?_
 apply run_end
 repeat apply wp_seq'
 refine wp_text rfl ?_
 refine rs rfl (s_fa (off := 0) rfl rfl underlying141 rfl sizeOf137 rfl) ?_
 refine rs rfl (s_ld2 rfl rfl isAgg137 sizeOf137 (.o_ rfl) (.o_ rfl)) ?_
 refine run_callv (vs := [_]) rfl rfl rfl rfl rfl rfl en183 (nlong_fn _ _ hn) ?_
 refine rm rfl ?_
 refine rsg rfl rfl (s_fa (off := 2) rfl rfl underlying141 rfl sizeOf137 rfl) ?_
 refine rsg rfl rfl (s_ld2 rfl rfl isAgg137 sizeOf137 (.o_ rfl) (.o_ rfl)) ?_
 refine run_callvg (vs := [_]) rfl rfl rfl rfl rfl rfl rfl rfl en183 (nlong_fn 1 _ (by decide)) ?_
 refine rs rfl (s_pick rfl rfl (fun h => by cases h) (fun _ => rfl)) ?_
 refine rm rfl ?_
 apply run_end
 apply wp_ret'
 exact fin_ret (res_tmp rfl rfl) rfl
set_option maxRecDepth 8000 in
theorem isWhole_fn (n : Int) (h : H) : FnV Tryz.prog 184 #[.agg #[.int .i64 n, .slice none 0 0, .int .i64 1, .slice none 0 0]] h (.bool true) := by
 refine fn_of (vs := [.agg #[.int .i64 n, .slice none 0 0, .int .i64 1, .slice none 0 0]]) func184 rfl ntmps184 (Nat.le_of_ble_eq_true rfl) fun w hw => ?_
 repeat apply wp_seq'
 refine wp_text rfl ?_
 refine run_box rfl rfl rfl rfl rfl rfl rfl fun b1 => ?_
 refine rm rfl ?_
 apply run_end
 repeat apply wp_seq'
 refine wp_text rfl ?_
 refine rs rfl (s_fa (off := 2) rfl rfl underlying141 rfl sizeOf137 rfl) ?_
 refine rs rfl (s_fa (off := 3) rfl rfl underlying137 rfl sizeOf135 rfl) ?_
 refine rs rfl (s_ld rfl rfl isAgg135 (.o_ rfl)) ?_
 refine rs rfl (s_eqnil rfl rfl rfl underlying135) ?_
 refine rm rfl ?_
 refine rsg rfl rfl (s_fa (off := 2) rfl rfl underlying141 rfl sizeOf137 rfl) ?_
 refine rsg rfl rfl (s_fa (off := 2) rfl rfl underlying137 rfl sizeOf3 rfl) ?_
 refine rsg rfl rfl (s_ld rfl rfl isAgg3 (.o_ rfl)) ?_
 refine rsg rfl rfl (s_eq rfl rfl rfl) ?_
 refine rs rfl (s_pick rfl rfl (fun _ => rfl) (fun h => by cases h)) ?_
 refine rm rfl ?_
 apply run_end
 apply wp_ret'
 exact fin_ret (res_tmp rfl rfl) rfl
set_option maxRecDepth 8000 in
theorem string_fn (n : Nat) (h : H) (hn : n < 100) : FnV Tryz.prog 185 #[Sm n] h (.string (decStr n)) := by
 refine fn_of (vs := [Sm n]) func185 rfl ntmps185 (Nat.le_of_ble_eq_true rfl) fun w hw => ?_
 repeat apply wp_seq'
 refine wp_text rfl ?_
 refine run_box rfl rfl rfl rfl rfl rfl rfl fun b1 => ?_
 refine rm rfl ?_
 apply run_end
 repeat apply wp_seq'
 refine wp_text rfl ?_
 refine rs rfl (s_fa (off := 1) rfl rfl underlying137 rfl sizeOf135 rfl) ?_
 refine rs rfl (s_ld rfl rfl isAgg135 (.o_ rfl)) ?_
 refine rs rfl (s_eqnil rfl rfl rfl underlying135) ?_
 apply run_end
 repeat apply wp_seq'
 refine wp_cond' (b := true) rfl (fun _ => ?_) (fun h => by cases h)
 repeat apply wp_seq'
 refine wp_text rfl ?_
 refine rs rfl (s_fa (off := 0) rfl rfl underlying137 rfl sizeOf3 rfl) ?_
 refine rs rfl (s_ld rfl rfl isAgg3 (.o_ rfl)) ?_
 refine run_callv (vs := [_]) rfl rfl rfl rfl rfl rfl en230 (itoa_fn _ _ hn) ?_
 refine rm rfl ?_
 apply run_end
 apply wp_ret'
 exact fin_ret (res_tmp rfl rfl) rfl
set_option maxRecDepth 8000 in
theorem text_fn (n : Nat) (h : H) (hn : n < 100) : FnV Tryz.prog 116 #[.agg #[.int .i64 n, .slice none 0 0, .int .i64 1, .slice none 0 0]] h (.string (decStr n)) := by
 refine fn_of (vs := [.agg #[.int .i64 n, .slice none 0 0, .int .i64 1, .slice none 0 0]]) func116 rfl ntmps116 (Nat.le_of_ble_eq_true rfl) fun w hw => ?_
 repeat apply wp_seq'
 refine wp_text rfl ?_
 refine run_box rfl rfl rfl rfl rfl rfl rfl fun b1 => ?_
 refine rm rfl ?_
 apply run_end
 repeat apply wp_seq'
 refine wp_text rfl ?_
 refine rs rfl (s_ld4 rfl rfl isAgg141 sizeOf141 (.o_ rfl) (.o_ rfl) (.o_ rfl) (.o_ rfl)) ?_
 refine run_callv (vs := [_]) rfl rfl rfl rfl rfl rfl en184 (isWhole_fn _ _) ?_
 apply run_end
 repeat apply wp_seq'
 refine wp_cond' (b := true) rfl (fun _ => ?_) (fun h => by cases h)
 repeat apply wp_seq'
 refine wp_text rfl ?_
 refine rs rfl (s_fa (off := 0) rfl rfl underlying141 rfl sizeOf137 rfl) ?_
 refine rs rfl (s_ld2 rfl rfl isAgg137 sizeOf137 (.o_ rfl) (.o_ rfl)) ?_
 refine run_callv (vs := [_]) rfl rfl rfl rfl rfl rfl en185 (string_fn _ _ hn) ?_
 refine rm rfl ?_
 apply run_end
 apply wp_ret'
 exact fin_ret (res_tmp rfl rfl) rfl
set_option maxRecDepth 8000 in
set_option maxHeartbeats 2000000 in
theorem add_fnN (x y : Nat) (h : H) (hxy : x + y ≤ 9223372036854775807) : FnV Tryz.prog 111 #[Sm x, Sm y] h (Sm ((x + y : Nat) : Int)) := by
 refine fn_of (vs := [Sm x, Sm y]) func111 rfl ntmps111 (Nat.le_of_ble_eq_true rfl) fun w hw => ?_
 repeat apply wp_seq'
 refine wp_text rfl ?_
 refine run_box rfl rfl rfl rfl rfl rfl rfl fun b2 => ?_
 refine run_box rfl rfl rfl rfl rfl rfl rfl fun b3 => ?_
 refine run_alloc rfl rfl rfl rfl rfl zeroValue137 rfl fun b4 => ?_
 apply run_end
 repeat apply wp_seq'
 refine wp_text rfl ?_
 refine rs rfl (s_fa (off := 1) rfl rfl underlying137 rfl sizeOf135 rfl) ?_
 refine rs rfl (s_ld rfl rfl isAgg135 (.o_ rfl)) ?_
 refine rs rfl (s_eqnil rfl rfl rfl underlying135) ?_
 refine rm rfl ?_
 refine rsg rfl rfl (s_fa (off := 1) rfl rfl underlying137 rfl sizeOf135 rfl) ?_
 refine rsg rfl rfl (s_ld rfl rfl isAgg135 (.o_ rfl)) ?_
 refine rsg rfl rfl (s_eqnil rfl rfl rfl underlying135) ?_
 refine rs rfl (s_pick rfl rfl (fun _ => rfl) (fun h => by cases h)) ?_
 apply run_end
 repeat apply wp_seq'
 refine wp_cond' (b := true) rfl (fun _ => ?_) (fun h => by cases h)
 repeat apply wp_seq'
 refine wp_text rfl ?_
 refine rs rfl (s_fa (off := 0) rfl rfl underlying137 rfl sizeOf3 rfl) ?_
 refine rs rfl (s_ld rfl rfl isAgg3 (.o_ rfl)) ?_
 refine rs rfl (s_fa (off := 0) rfl rfl underlying137 rfl sizeOf3 rfl) ?_
 refine rs rfl (s_ld rfl rfl isAgg3 (.o_ rfl)) ?_
 refine rs rfl (s_add (q := ((x + y : Nat) : Int)) rfl rfl rfl (by rw [show (x : Int) + y = ((x + y : Nat) : Int) from rfl]; exact IntWalk.i64_in _ (by omega))) ?_
 refine rm rfl ?_
 apply run_end
 repeat apply wp_seq'
 refine wp_text rfl ?_
 refine rm rfl ?_
 refine rs rfl (s_fa (off := 0) rfl rfl underlying137 rfl sizeOf3 rfl) ?_
 refine rs rfl (s_ld rfl rfl isAgg3 (.o_ rfl)) ?_
 refine rs rfl (s_gt rfl rfl rfl) ?_
 refine rs rfl (s_fa (off := 0) rfl rfl underlying137 rfl sizeOf3 rfl) ?_
 refine rs rfl (s_ld rfl rfl isAgg3 (.o_ rfl)) ?_
 refine rs rfl (s_gt rfl rfl rfl) ?_
 refine rs rfl (s_beq rfl rfl rfl underlying4) ?_
 apply run_end
 have e : (decide ((x : Int) < ((x + y : Nat) : Int)) == decide (0 < (y : Int))) = true := by by_cases hy : y = 0 <;> simp [hy] <;> omega
 rw [e]
 repeat apply wp_seq'
 refine wp_cond' (b := true) rfl (fun _ => ?_) (fun h => by cases h)
 repeat apply wp_seq'
 refine wp_text rfl ?_
 refine rm rfl ?_
 refine rs rfl (s_build1 rfl rfl (b137_0 _)) ?_
 refine run_st2 rfl rfl rfl rfl rfl rfl (by first | rfl | assumption | exact RdI.one (by assumption)) rfl sizeOf137 (by repeat first|exact Swap.here|apply Swap.there) rfl ?_
 apply run_end
 apply wp_ret'
 exact fin_ret (res_cell2 rfl rfl isAgg137 sizeOf137 (.own _ _ _ (by repeat first|exact MH _|apply MT) rfl) (.own _ _ _ (by repeat first|exact MH _|apply MT) rfl)) rfl
set_option maxRecDepth 8000 in
set_option maxHeartbeats 2000000 in
theorem mul_fnN (x y : Nat) (h : H) (hx : x ≤ 9223372036854775807) (hy : y ≤ 9223372036854775807) (hxy : x * y ≤ 9223372036854775807) : FnV Tryz.prog 179 #[Sm x, Sm y] h (Sm ((x * y : Nat) : Int)) := by
 refine fn_of (vs := [Sm x, Sm y]) func179 rfl ntmps179 (Nat.le_of_ble_eq_true rfl) fun w hw => ?_
 repeat apply wp_seq'
 refine wp_text rfl ?_
 refine run_box rfl rfl rfl rfl rfl rfl rfl fun b2 => ?_
 refine run_box rfl rfl rfl rfl rfl rfl rfl fun b3 => ?_
 refine run_alloc rfl rfl rfl rfl rfl zeroValue137 rfl fun b4 => ?_
 apply run_end
 repeat apply wp_seq'
 refine wp_text rfl ?_
 refine rs rfl (s_fa (off := 1) rfl rfl underlying137 rfl sizeOf135 rfl) ?_
 refine rs rfl (s_ld rfl rfl isAgg135 (.o_ rfl)) ?_
 refine rs rfl (s_eqnil rfl rfl rfl underlying135) ?_
 refine rm rfl ?_
 refine rsg rfl rfl (s_fa (off := 1) rfl rfl underlying137 rfl sizeOf135 rfl) ?_
 refine rsg rfl rfl (s_ld rfl rfl isAgg135 (.o_ rfl)) ?_
 refine rsg rfl rfl (s_eqnil rfl rfl rfl underlying135) ?_
 refine rs rfl (s_pick rfl rfl (fun _ => rfl) (fun h => by cases h)) ?_
 apply run_end
 repeat apply wp_seq'
 refine wp_cond' (b := true) rfl (fun _ => ?_) (fun h => by cases h)
 repeat apply wp_seq'
 refine wp_any [0, 1, 3, 4, 2, 5, 6, 7, 8, 9, 10, 11] rfl (by kernel_rfl) ?_
 refine rs rfl (s_fa (off := 0) rfl rfl underlying137 rfl sizeOf3 rfl) ?_
 refine rs rfl (s_ld rfl rfl isAgg3 (.o_ rfl)) ?_
 refine rs rfl (s_fa (off := 0) rfl rfl underlying137 rfl sizeOf3 rfl) ?_
 refine rs rfl (s_ld rfl rfl isAgg3 (.o_ rfl)) ?_
 refine run_callv (vs := [_]) rfl rfl rfl rfl rfl rfl en220 (size_fn x _ hx) ?_
 refine run_callv (vs := [_]) rfl rfl rfl rfl rfl rfl en220 (size_fn y _ hy) ?_
 refine run_callv (vs := [_, _]) rfl rfl rfl rfl rfl rfl en224 (mul64_fn x y _ (by omega) (by omega)) ?_
 refine rm rfl ?_
 refine rs rfl (s_extract rfl rfl rfl) ?_
 refine rs rfl (s_extract rfl rfl rfl) ?_
 refine rm rfl ?_
 refine rm rfl ?_
 apply run_end
 rw [Nat.div_eq_of_lt (show x * y < 18446744073709551616 by omega), Nat.mod_eq_of_lt (show x * y < 18446744073709551616 by omega)]
 repeat apply wp_seq'
 refine wp_text rfl ?_
 refine rm rfl ?_
 refine rs rfl (s_eq rfl rfl rfl) ?_
 refine rm rfl ?_
 refine rsg rfl rfl (s_move rfl rfl) ?_
 refine rsg rfl rfl (s_le rfl rfl rfl) ?_
 refine rs rfl (s_pick rfl rfl (fun _ => rfl) (fun h => by cases h)) ?_
 apply run_end
 repeat apply wp_seq'
 refine wp_if' rfl (fun hc34 => ?_) (fun hc34 => ?_)
 ·skip
  repeat apply wp_seq'
  refine wp_text rfl ?_
  refine rs rfl (s_fa (off := 0) rfl rfl underlying137 rfl sizeOf3 rfl) ?_
  refine rs rfl (s_ld rfl rfl isAgg3 (.o_ rfl)) ?_
  refine rs rfl (s_lt rfl rfl rfl) ?_
  refine rs rfl (s_fa (off := 0) rfl rfl underlying137 rfl sizeOf3 rfl) ?_
  refine rs rfl (s_ld rfl rfl isAgg3 (.o_ rfl)) ?_
  refine rs rfl (s_lt rfl rfl rfl) ?_
  refine rs rfl (s_bne rfl rfl rfl underlying4) ?_
  apply run_end
  rw [show decide ((x : Int) < 0) = false from decide_eq_false (by omega), show decide ((y : Int) < 0) = false from decide_eq_false (by omega)]
  repeat apply wp_seq'
  refine wp_cond' (b := false) rfl (fun h => by cases h) (fun _ => ?_)
  apply wp_skip'
  repeat apply wp_seq'
  refine wp_text rfl ?_
  refine rm rfl ?_
  refine rs rfl (s_cvi rfl rfl (by show (Tryz.prog.underlying 225).isSome = true; rw [underlying225]; rfl) underlying3 (by rfl)) ?_
  refine rs rfl (s_build1 rfl rfl (b137_0 _)) ?_
  refine run_st2 rfl rfl rfl rfl rfl rfl (by first | rfl | assumption | exact RdI.one (by assumption)) rfl sizeOf137 (by repeat first|exact Swap.here|apply Swap.there) rfl ?_
  apply run_end
  rw [IntWalk.i64_in _ (by omega)]
  apply wp_ret'
  exact fin_ret (res_cell2 rfl rfl isAgg137 sizeOf137 (.own _ _ _ (by repeat first|exact MH _|apply MT) rfl) (.own _ _ _ (by repeat first|exact MH _|apply MT) rfl)) rfl
 ·skip
  omega
set_option maxRecDepth 8000 in
set_option maxHeartbeats 2000000 in
theorem divMod_fnN (x y : Nat) (h : H) (hx : x ≤ 9223372036854775807) (hy : 0 < y) : FnV Tryz.prog 182 #[Sm x, Sm y] h (.tuple #[Sm ((x / y : Nat) : Int), Sm ((x % y : Nat) : Int)]) := by
 refine fn_of (vs := [Sm x, Sm y]) func182 rfl ntmps182 (Nat.le_of_ble_eq_true rfl) fun w hw => ?_
 repeat apply wp_seq'
 refine wp_text rfl ?_
 refine run_box rfl rfl rfl rfl rfl rfl rfl fun b2 => ?_
 refine run_box rfl rfl rfl rfl rfl rfl rfl fun b3 => ?_
 refine run_alloc rfl rfl rfl rfl rfl zeroValue137 rfl fun b4 => ?_
 refine run_alloc rfl rfl rfl rfl rfl zeroValue137 rfl fun b5 => ?_
 apply run_end
 repeat apply wp_seq'
 refine wp_text rfl ?_
 refine rs rfl (s_fa (off := 1) rfl rfl underlying137 rfl sizeOf135 rfl) ?_
 refine rs rfl (s_ld rfl rfl isAgg135 (.o_ rfl)) ?_
 refine rs rfl (s_eqnil rfl rfl rfl underlying135) ?_
 refine rm rfl ?_
 refine rsg rfl rfl (s_fa (off := 1) rfl rfl underlying137 rfl sizeOf135 rfl) ?_
 refine rsg rfl rfl (s_ld rfl rfl isAgg135 (.o_ rfl)) ?_
 refine rsg rfl rfl (s_eqnil rfl rfl rfl underlying135) ?_
 refine rs rfl (s_pick rfl rfl (fun _ => rfl) (fun h => by cases h)) ?_
 refine rm rfl ?_
 refine rsg rfl rfl (s_fa (off := 0) rfl rfl underlying137 rfl sizeOf3 rfl) ?_
 refine rsg rfl rfl (s_ld rfl rfl isAgg3 (.o_ rfl)) ?_
 refine rsg rfl rfl (s_ne rfl rfl rfl) ?_
 refine rs rfl (s_pick rfl rfl (fun _ => rfl) (fun h => by cases h)) ?_
 apply run_end
 repeat apply wp_seq'
 refine wp_if' rfl (fun hc28 => ?_) (fun hc28 => ?_)
 ·skip
  repeat apply wp_seq'
  refine wp_any [0, 1, 2, 3, 4, 5, 6, 7, 8, 9, 10, 11] rfl (by kernel_rfl) ?_
  refine rs rfl (s_fa (off := 0) rfl rfl underlying137 rfl sizeOf3 rfl) ?_
  refine rs rfl (s_ld rfl rfl isAgg3 (.o_ rfl)) ?_
  refine rs rfl (s_fa (off := 0) rfl rfl underlying137 rfl sizeOf3 rfl) ?_
  refine rs rfl (s_ld rfl rfl isAgg3 (.o_ rfl)) ?_
  refine rs rfl (s_quo (q := ((x / y : Nat) : Int)) rfl rfl rfl (by omega) (by rw [tdiv_cast]; exact IntWalk.i64_in _ ⟨Int.le_trans (by decide) (Int.natCast_nonneg (x / y)), Int.le_trans (Int.ofNat_le.2 (Nat.div_le_self x y)) (by omega)⟩)) ?_
  refine rs rfl (s_fa (off := 0) rfl rfl underlying137 rfl sizeOf3 rfl) ?_
  refine rs rfl (s_ld rfl rfl isAgg3 (.o_ rfl)) ?_
  refine rs rfl (s_fa (off := 0) rfl rfl underlying137 rfl sizeOf3 rfl) ?_
  refine rs rfl (s_ld rfl rfl isAgg3 (.o_ rfl)) ?_
  refine rs rfl (s_rem (q := ((x % y : Nat) : Int)) rfl rfl rfl (by omega) rfl) ?_
  refine rm rfl ?_
  refine rm rfl ?_
  apply run_end
  repeat apply wp_seq'
  refine wp_text rfl ?_
  refine rm rfl ?_
  refine rs rfl (s_lt rfl rfl rfl) ?_
  apply run_end
  repeat apply wp_seq'
  refine wp_if' rfl (fun hc40 => ?_) (fun hc40 => ?_)
  ·skip
   omega
  ·skip
   apply wp_skip'
   repeat apply wp_seq'
   refine wp_text rfl ?_
   refine rm rfl ?_
   refine rs rfl (s_build1 rfl rfl (b137_0 _)) ?_
   refine rm rfl ?_
   refine rs rfl (s_build1 rfl rfl (b137_0 _)) ?_
   refine run_st2 rfl rfl rfl rfl rfl rfl (by first | rfl | assumption | exact RdI.one (by assumption)) rfl sizeOf137 (by repeat first|exact Swap.here|apply Swap.there) rfl ?_
   refine run_st2 rfl rfl rfl rfl rfl rfl (by first | rfl | assumption | exact RdI.one (by assumption)) rfl sizeOf137 (by repeat first|exact Swap.here|apply Swap.there) rfl ?_
   apply run_end
   apply wp_ret'
   exact fin_ret (res_c2c2 rfl rfl rfl isAgg137 sizeOf137 isAgg137 sizeOf137 (.own _ _ _ (by repeat first|exact MH _|apply MT) rfl) (.own _ _ _ (by repeat first|exact MH _|apply MT) rfl) (.own _ _ _ (by repeat first|exact MH _|apply MT) rfl) (.own _ _ _ (by repeat first|exact MH _|apply MT) rfl)) rfl
 ·skip
  exact absurd hc28 (by omega)
set_option maxRecDepth 8000 in
theorem quo_fnN (x y : Nat) (h : H) (hx : x ≤ 9223372036854775807) (hy : 0 < y) : FnV Tryz.prog 114 #[Sm x, Sm y] h (Sm ((x / y : Nat) : Int)) := by
 refine fn_of (vs := [Sm x, Sm y]) func114 rfl ntmps114 (Nat.le_of_ble_eq_true rfl) fun w hw => ?_
 repeat apply wp_seq'
 refine wp_text rfl ?_
 refine run_box rfl rfl rfl rfl rfl rfl rfl fun b2 => ?_
 refine run_box rfl rfl rfl rfl rfl rfl rfl fun b3 => ?_
 refine run_alloc rfl rfl rfl rfl rfl zeroValue137 rfl fun b4 => ?_
 apply run_end
 repeat apply wp_seq'
 refine wp_text rfl ?_
 refine rs rfl (s_ld2 rfl rfl isAgg137 sizeOf137 (.o_ rfl) (.o_ rfl)) ?_
 refine run_callv (vs := [_]) rfl rfl rfl rfl rfl rfl en180 (sign_fn _ _ (by omega)) ?_
 refine rs rfl (s_lt rfl rfl rfl) ?_
 apply run_end
 repeat apply wp_seq'
 refine wp_cond' (b := false) rfl (fun h => by cases h) (fun _ => ?_)
 apply wp_skip'
 repeat apply wp_seq'
 refine wp_text rfl ?_
 refine rs rfl (s_ld2 rfl rfl isAgg137 sizeOf137 (.o_ rfl) (.o_ rfl)) ?_
 refine rs rfl (s_ld2 rfl rfl isAgg137 sizeOf137 (.o_ rfl) (.o_ rfl)) ?_
 refine run_callv (vs := [_, _]) rfl rfl rfl rfl rfl rfl en182 (divMod_fnN x y _ hx hy) ?_
 refine rm rfl ?_
 refine rs rfl (s_extract rfl rfl rfl) ?_
 refine rs rfl (s_extract rfl rfl rfl) ?_
 refine run_alloc rfl rfl rfl rfl rfl zeroValue137 rfl fun b5 => ?_
 refine run_alloc rfl rfl rfl rfl rfl zeroValue137 rfl fun b6 => ?_
 refine run_st2 rfl rfl rfl rfl rfl rfl (by first | rfl | assumption | exact RdI.one (by assumption)) rfl sizeOf137 (by repeat first|exact Swap.here|apply Swap.there) rfl ?_
 refine run_st2 rfl rfl rfl rfl rfl rfl (by first | rfl | assumption | exact RdI.one (by assumption)) rfl sizeOf137 (by repeat first|exact Swap.here|apply Swap.there) rfl ?_
 apply run_end
 repeat apply wp_seq'
 refine wp_text rfl ?_
 refine rs rfl (s_ld2 rfl rfl isAgg137 sizeOf137 (.o_ rfl) (.o_ rfl)) ?_
 refine run_st2 rfl rfl rfl rfl rfl rfl (by first | rfl | assumption | exact RdI.one (by assumption)) rfl sizeOf137 (by repeat first|exact Swap.here|apply Swap.there) rfl ?_
 apply run_end
 apply wp_ret'
 exact fin_ret (res_cell2 rfl rfl isAgg137 sizeOf137 (.own _ _ _ (by repeat first|exact MH _|apply MT) rfl) (.own _ _ _ (by repeat first|exact MH _|apply MT) rfl)) rfl
end Go.Tal

/-
 Symbolic states: a row that a call hands over is let go at once; calls under a guard.
-/
namespace Go.Tal
open Go.RowKit
/-- A call's row of integers is only read from now on. -/
theorem FnM.letI {P : Program} {f : FuncId} {args : Array Value} {h : H} {e : TypeId} {xs : List Int} (hm : xs.length ≤ 4294967296) (hf : FnM P f args h [] fun v _ L => L = [.row v e 1 xs.length (xs.map (Value.int .i64))]) : Fn P f args h fun v h' => RdI h' v xs := by
 intro w hw
 refine (hf w ⟨hw, by simp, by simp, List.Pairwise.nil⟩).mono fun e' w' ⟨v, h', L', he, hR, m⟩ => ?_
 subst hR
 have hin : w'.ownsRow 0 e 1 v xs.length (xs.map (Value.int .i64)) := m.sat.own _ List.mem_cons_self
 have kp : Kp w [] w' := m.kp
 obtain ⟨hl, hr⟩ := hin
 rcases hr with ⟨h1, h2⟩ | ⟨g, cap, cur, h1, hb0, hg, hnc, hcm, hsz, htk⟩
 ·exact ⟨v, h', he, ⟨none, 0, by rw [h2]; exact h1, hm, fun hp => by omega⟩, m.sat.imm, m.old, kp⟩
 ·subst h1
  have m2 := m.let_ .here (b := g) rfl rfl
  refine ⟨_, updH h' g w'.heap[g]?, he, ?_, m2.sat.imm, m2.old, kp⟩
  exact rowI_read rfl hm ⟨hl, .inr ⟨g, cap, cur, rfl, hb0, hg, hnc, hcm, hsz, htk⟩⟩ (by simp [updH])
section
variable {dr : Bool} {C : Ctx} {ops : Array Oper} {K : S → Prop} {i d gi t : Nat} {r : List Nat} {F : List (Nat × Value)} {h : H} {L : List Own} {o : Oper} {want : Bool}
theorem run_callg {f : FuncId} {args : Array Operand} {ts : Array TypeId} {vs : List Value} {R : Value → H → Prop} (ho : ops[i]? = some o) (hop : o.op = .call { callee := .value (.func f), args := args, argTypes := ts }) (hg : o.guard = some (gi, want)) (ht : (ops[gi]?).bind (·.dst) = some t) (hw : F.lookup t = some (.bool want)) (hd : o.dst = some d) (hn : Nat.blt d C.n = true)
 (hx : args.toList.map (evF F) = vs.map some) (hen : ∀ args w, (callFunc f args).run C.P w = .ok (.enter f args) w) (hf : Fn C.P f vs.toArray h R) (k : ∀ v h', R v h' → (∀ b o, h b = some o → h' b = some o) → Run dr C ops K r ⟨(d, v) :: F, h', L⟩) : Run dr C ops K (i :: r) ⟨F, h, L⟩ :=
 run_hardg ho hg ht hw (dst_lt hd hn) (by simp [cls, hop]) _ (frm_call fun _ => h_call hop hx hen hf) fun v h' _ ⟨e1, e2, e3⟩ => by subst e3; rw [hd]; exact ⟨fun _ _ => ⟨e2, List.Sublist.refl _⟩, k v h' e1 e2⟩
end
section
variable {P : Program} {o : Oper} {F : List (Nat × Value)} {h : H} {L : List Own} {x y : Operand}
theorem s_neK {m n : Int} {k : IntKind} {t t' : TypeId} {q : Bool} (ho : o.op = .binOp .neq t x y t') (hx : evF F x = some (.int k m)) (hy : evF F y = some (.int k n)) (hq : decide (m ≠ n) = q) : SoftOk P o F h L (.bool q) := by
 subst hq
 exact s_ne ho hx hy
theorem s_notK {b q : Bool} {t : TypeId} (ho : o.op = .unOp .not t x) (hx : evF F x = some (.bool b)) (hq : (!b) = q) : SoftOk P o F h L (.bool q) := by
 subst hq
 exact s_not ho hx
theorem s_nes {s u : ByteArray} {t t' : TypeId} (ho : o.op = .binOp .neq t x y t') (hx : evF F x = some (.string s)) (hy : evF F y = some (.string u)) : SoftOk P o F h L (.bool (!(s.toList == u.toList))) :=
 s_bin ho hx hy (fun w => by simp [eqGuard]) fun w => by simp [binOp, Op.stringOp]
theorem s_nesK {s u : ByteArray} {t t' : TypeId} {q : Bool} (ho : o.op = .binOp .neq t x y t') (hx : evF F x = some (.string s)) (hy : evF F y = some (.string u)) (hq : (!(s.toList == u.toList)) = q) : SoftOk P o F h L (.bool q) := by
 subst hq
 exact s_nes ho hx hy
theorem s_eqs {s u : ByteArray} {t t' : TypeId} (ho : o.op = .binOp .eql t x y t') (hx : evF F x = some (.string s)) (hy : evF F y = some (.string u)) : SoftOk P o F h L (.bool (s.toList == u.toList)) :=
 s_bin ho hx hy (fun w => by simp [eqGuard]) fun w => by simp [binOp, Op.stringOp]
end
end Go.Tal

namespace Go.Tal
open Go.RowKit Go.Proofs Go.Proofs.Tryz _root_.Tal
/-- How many values a cycle of this length may have. -/
def fixC (a : Sy) (vals : Nat) (n : Int) : Nat := if a.2 && decide (n.tmod 2 = 1) then vals % 2 else vals
def fixTo (a : Sy) (vals k : Nat) : Nat := ((cycI a.1).take k).foldl (fun out n => out * fixC a vals n) 1
def fixN (a : Sy) (vals : Nat) : Nat := fixTo a vals (cycI a.1).length
theorem fixTo_succ {a : Sy} {vals k : Nat} (hk : k < (cycI a.1).length) : fixTo a vals (k + 1) = fixTo a vals k * fixC a vals ((cycI a.1).getD k 0) := by
 unfold fixTo
 rw [List.take_succ_eq_append_getElem hk, List.foldl_append]
 simp [List.getD_eq_getElem?_getD, List.getElem?_eq_getElem hk]
theorem fixC_le (a : Sy) (vals : Nat) (n : Int) : fixC a vals n ≤ vals := by
 unfold fixC
 split
 ·exact Nat.mod_le _ _
 ·exact Nat.le_refl _
def sumTo (l : List Sy) (vals k : Nat) : Nat := ((l.take k).map fun a => fixN a vals).sum
theorem sumTo_succ {l : List Sy} {vals k : Nat} (hk : k < l.length) : sumTo l vals (k + 1) = sumTo l vals k + fixN (l.getD k ([], false)) vals := by
 unfold sumTo
 rw [List.take_succ_eq_append_getElem hk, List.map_append, List.sum_append]
 simp [List.getD_eq_getElem?_getD, List.getElem?_eq_getElem hk]
def burnE (l : List Sy) (c v : Int) : Int := firstI [groupI l c, whenI (decide (v < 0) || decide (999999999 < v)) 3]
theorem res_cell2v {P : Program} {fn : Func} {s : S} {t b : Nat} {e : TypeId} {v0 v1 : Value} (h : fn.results = #[.cell t e]) (hv : s.F.lookup t = some (.pointer (some ⟨b, 0, none⟩))) (hg : ∀ w, (isAgg e).run P w = .ok true w) (hs : ∀ w, (sizeOf e).run P w = .ok 2 w) (h0 : Cell s.h s.L b 0 v0) (h1 : Cell s.h s.L b 1 v1) : ResOk P fn s (.agg #[v0, v1]) := res_cell2 h hv hg hs h0 h1
set_option maxRecDepth 8000 in
set_option maxHeartbeats 4000000 in
theorem fixed_fnN (a : Sy) (vals : Nat) (va : Value) (h : H) (ha : RdI h va a.1) (hp : PermL a.1.length a.1) (hv : vals ≤ 999999999) (hb : ∀ k, k ≤ (cycI a.1).length → fixTo a vals k ≤ 9223372036854775807) : FnV Tryz.prog 112 #[.agg #[va, .bool a.2], .int .i64 vals] h (Sm (fixN a vals)) := by
 have ham := ha.len
 have hcl : (cycI a.1).length ≤ a.1.length := cycTo_out a.1 a.1.length
 refine fn_of (vs := [.agg #[va, .bool a.2], .int .i64 vals]) func112 rfl ntmps112 (Nat.le_of_ble_eq_true rfl) fun w hw => ?_
 repeat apply wp_seq'
 refine wp_text rfl ?_
 refine run_box rfl rfl rfl rfl rfl rfl rfl fun b2 => ?_
 refine run_alloc rfl rfl rfl rfl rfl zeroValue137 rfl fun b4 => ?_
 apply run_end
 repeat apply wp_seq'
 refine wp_text rfl ?_
 refine run_callv (vs := [_]) rfl rfl rfl rfl rfl rfl en110 (of_fn 1 _) ?_
 refine run_alloc rfl rfl rfl rfl rfl zeroValue137 rfl fun b5 => ?_
 refine run_st2 rfl rfl rfl rfl rfl rfl (by first | rfl | assumption | exact RdI.one (by assumption)) rfl sizeOf137 (by repeat first|exact Swap.here|apply Swap.there) rfl ?_
 apply run_end
 repeat apply wp_seq'
 refine wp_text rfl ?_
 refine rs rfl (s_ld2 rfl rfl isAgg112 sizeOf112 (.o_ rfl) (.o_ rfl)) ?_
 refine run_call (vs := [_]) rfl rfl rfl rfl rfl rfl en138 (FnM.letI (e := 3) (by omega) (cycles_fn a.1 a.2 va _ ha hp)) ?_
 intro v11 h2 hv11 hh2
 refine rs rfl (s_lenI hv11 rfl rfl underlying35) ?_
 refine rm rfl ?_
 apply run_end
 repeat apply wp_seq'
 apply wp_block'
 refine wp_loop' (fun k : Nat => k ≤ (cycI a.1).length) (fun k => ⟨[(13, .int .i64 k), (12, .int .i64 (cycI a.1).length), (11, v11), (5, .pointer (some ⟨b5, 0, none⟩)), (4, .pointer (some ⟨b4, 0, none⟩)), (2, .pointer (some ⟨b2, 0, none⟩)), (1, .int .i64 vals)], h2, [.obj b5 (.cells #[.int .i64 (fixTo a vals k), .slice none 0 0] 137 (0, 0)), .obj b4 (.cells #[.int .i64 0, .slice none 0 0] 137 (0, 0)), .obj b2 (.cells #[va, .bool a.2] 112 (0, 0))]⟩) (fun k => (cycI a.1).length - k) 0 (Nat.zero_le _) ⟨by repeat (first|exact True.intro|refine And.intro rfl ?_), rfl, by repeat (first|exact NS _|exact SR _|apply SCC|apply SC)⟩ fun k hk => ?_
 repeat apply wp_seq'
 refine wp_text rfl ?_
 refine rs rfl (s_lt rfl rfl rfl) ?_
 apply run_end
 repeat apply wp_seq'
 refine wp_if' rfl (fun hc14 => ?_) (fun hc14 => ?_)
 ·skip
  apply wp_skip'
  repeat apply wp_seq'
  apply wp_block'
  repeat apply wp_seq'
  refine wp_text rfl ?_
  refine rs rfl (s_iaI hv11 (by omega) (by omega) rfl rfl rfl underlying35 sizeOf3) ?_
  refine rs rfl (s_ldI hv11 (by omega) (by omega) rfl rfl isAgg3) ?_
  refine rm rfl ?_
  apply run_end
  simp only [Int.toNat_natCast]
  repeat apply wp_seq'
  refine wp_text rfl ?_
  refine rm rfl ?_
  refine rm rfl ?_
  apply run_end
  repeat apply wp_seq'
  refine wp_text rfl ?_
  refine rs rfl (s_fa (off := 1) rfl rfl underlying112 rfl sizeOf4 rfl) ?_
  refine rs rfl (s_ld rfl rfl isAgg4 (.o_ rfl)) ?_
  refine rm rfl ?_
  have hstep := fixTo_succ (a := a) (vals := vals) (k := k) (by omega)
  have hb1 := hb (k + 1) (by omega)
  have hb0 := hb k (by omega)
  refine run_cb (t := 20) rfl (fun hg20 => ?_) (fun hg20 => ?_)
  ·skip
   refine rsg rfl rfl (s_move rfl rfl) ?_
   refine rsg rfl rfl (s_rem (q := ((cycI a.1).getD k 0).tmod 2) rfl rfl rfl (by decide) rfl) ?_
   refine rsg rfl rfl (s_eq rfl rfl rfl) ?_
   refine rs rfl (s_pick rfl rfl (fun _ => rfl) (fun h => by cases h)) ?_
   apply run_end
   repeat apply wp_seq'
   refine wp_if' rfl (fun hc24 => ?_) (fun hc24 => ?_)
   ·skip
    have hfx : fixC a vals ((cycI a.1).getD k 0) = vals % 2 := by rw [fixC, hg20, if_pos (by simpa using hc24)]
    repeat apply wp_seq'
    refine wp_text rfl ?_
    refine rm rfl ?_
    refine rs rfl (s_rem (q := ((vals % 2 : Nat) : Int)) rfl rfl rfl (by decide) rfl) ?_
    refine rm rfl ?_
    apply run_end
    repeat apply wp_seq'
    refine wp_any [0, 1, 2, 3, 4] rfl (by kernel_rfl) ?_
    refine rs rfl (s_ld2 rfl rfl isAgg137 sizeOf137 (.o_ rfl) (.o_ rfl)) ?_
    refine rm rfl ?_
    refine run_callv (vs := [_]) rfl rfl rfl rfl rfl rfl en110 (of_fn _ _) ?_
    refine run_callv (vs := [_, _]) rfl rfl rfl rfl rfl rfl en179 (mul_fnN (fixTo a vals k) (vals % 2) _ hb0 (by omega) (by rw [hfx] at hstep; rw [← hstep]; exact hb1)) ?_
    refine run_st2 rfl rfl rfl rfl rfl rfl (by first | rfl | assumption | exact RdI.one (by assumption)) rfl sizeOf137 (by repeat first|exact Swap.here|apply Swap.there) rfl ?_
    apply run_end
    repeat apply wp_seq'
    refine wp_text rfl ?_
    refine rs rfl (s_add (q := ((k + 1 : Nat) : Int)) rfl rfl rfl (IntWalk.i64_in _ (by omega))) ?_
    refine rm rfl ?_
    apply run_end
    rw [hfx] at hstep
    rw [← hstep]
    refine ⟨k + 1, by omega, by omega, ⟨by repeat (first|exact True.intro|refine And.intro rfl ?_), rfl, by repeat (first|exact NS _|exact SR _|apply SCC|apply SC)⟩⟩
   ·skip
    have hfx : fixC a vals ((cycI a.1).getD k 0) = vals := by rw [fixC, hg20, if_neg (by simpa using hc24)]
    apply wp_skip'
    repeat apply wp_seq'
    refine wp_any [0, 1, 2, 3, 4] rfl (by kernel_rfl) ?_
    refine rs rfl (s_ld2 rfl rfl isAgg137 sizeOf137 (.o_ rfl) (.o_ rfl)) ?_
    refine rm rfl ?_
    refine run_callv (vs := [_]) rfl rfl rfl rfl rfl rfl en110 (of_fn _ _) ?_
    refine run_callv (vs := [_, _]) rfl rfl rfl rfl rfl rfl en179 (mul_fnN (fixTo a vals k) (vals) _ hb0 (by omega) (by rw [hfx] at hstep; rw [← hstep]; exact hb1)) ?_
    refine run_st2 rfl rfl rfl rfl rfl rfl (by first | rfl | assumption | exact RdI.one (by assumption)) rfl sizeOf137 (by repeat first|exact Swap.here|apply Swap.there) rfl ?_
    apply run_end
    repeat apply wp_seq'
    refine wp_text rfl ?_
    refine rs rfl (s_add (q := ((k + 1 : Nat) : Int)) rfl rfl rfl (IntWalk.i64_in _ (by omega))) ?_
    refine rm rfl ?_
    apply run_end
    rw [hfx] at hstep
    rw [← hstep]
    refine ⟨k + 1, by omega, by omega, ⟨by repeat (first|exact True.intro|refine And.intro rfl ?_), rfl, by repeat (first|exact NS _|exact SR _|apply SCC|apply SC)⟩⟩
  ·skip
   have hfx : fixC a vals ((cycI a.1).getD k 0) = vals := by rw [fixC, hg20, if_neg (by simp)]
   refine run_skip rfl rfl rfl rfl rfl rfl rfl ?_
   refine run_skip rfl rfl rfl rfl rfl rfl rfl ?_
   refine run_skip rfl rfl rfl rfl rfl rfl rfl ?_
   refine rs rfl (s_pick rfl rfl (fun h => by cases h) (fun _ => rfl)) ?_
   apply run_end
   repeat apply wp_seq'
   refine wp_cond' (b := false) rfl (fun h => by cases h) (fun _ => ?_)
   apply wp_skip'
   repeat apply wp_seq'
   refine wp_any [0, 1, 2, 3, 4] rfl (by kernel_rfl) ?_
   refine rs rfl (s_ld2 rfl rfl isAgg137 sizeOf137 (.o_ rfl) (.o_ rfl)) ?_
   refine rm rfl ?_
   refine run_callv (vs := [_]) rfl rfl rfl rfl rfl rfl en110 (of_fn _ _) ?_
   refine run_callv (vs := [_, _]) rfl rfl rfl rfl rfl rfl en179 (mul_fnN (fixTo a vals k) (vals) _ hb0 (by omega) (by rw [hfx] at hstep; rw [← hstep]; exact hb1)) ?_
   refine run_st2 rfl rfl rfl rfl rfl rfl (by first | rfl | assumption | exact RdI.one (by assumption)) rfl sizeOf137 (by repeat first|exact Swap.here|apply Swap.there) rfl ?_
   apply run_end
   repeat apply wp_seq'
   refine wp_text rfl ?_
   refine rs rfl (s_add (q := ((k + 1 : Nat) : Int)) rfl rfl rfl (IntWalk.i64_in _ (by omega))) ?_
   refine rm rfl ?_
   apply run_end
   rw [hfx] at hstep
   rw [← hstep]
   refine ⟨k + 1, by omega, by omega, ⟨by repeat (first|exact True.intro|refine And.intro rfl ?_), rfl, by repeat (first|exact NS _|exact SR _|apply SCC|apply SC)⟩⟩
 ·skip
  apply wp_exit'
  obtain rfl : k = (cycI a.1).length := by omega
  repeat apply wp_seq'
  refine wp_text rfl ?_
  refine rs rfl (s_ld2 rfl rfl isAgg137 sizeOf137 (.o_ rfl) (.o_ rfl)) ?_
  refine run_st2 rfl rfl rfl rfl rfl rfl (by first | rfl | assumption | exact RdI.one (by assumption)) rfl sizeOf137 (by repeat first|exact Swap.here|apply Swap.there) rfl ?_
  apply run_end
  apply wp_ret'
  exact fin_ret (res_cell2 rfl rfl isAgg137 sizeOf137 (.own _ _ _ (by repeat first|exact MH _|apply MT) rfl) (.own _ _ _ (by repeat first|exact MH _|apply MT) rfl)) rfl
set_option maxRecDepth 8000 in
set_option maxHeartbeats 4000000 in
theorem burnside_fnN (l : List Sy) (c : Int) (vals : Nat) (v : Value) (h : H) (hl : RdS h v l) (hg0 : groupI l c = 0) (hv : vals ≤ 999999999) (hfix : ∀ a ∈ l, ∀ k, k ≤ (cycI a.1).length → fixTo a vals k ≤ 9223372036854775807) (hsum : ∀ k, k ≤ l.length → sumTo l vals k ≤ 9223372036854775807) (hq2 : sumTo l vals l.length / l.length < 100) : FnV Tryz.prog 36 #[v, .int .i64 c, .int .i64 vals] h (.tuple #[.string (decStr (sumTo l vals l.length / l.length)), .int .i64 0]) := by
 have hlm := hl.len
 refine fn_of (vs := [v, .int .i64 c, .int .i64 vals]) func36 rfl ntmps36 (Nat.le_of_ble_eq_true rfl) fun w hw => ?_
 repeat apply wp_seq'
 refine wp_text rfl ?_
 refine run_box rfl rfl rfl rfl rfl rfl rfl fun b5 => ?_
 refine rm rfl ?_
 refine rm rfl ?_
 apply run_end
 repeat apply wp_seq'
 refine wp_any [0, 1, 3, 4, 2, 5, 6, 7, 8, 9, 10, 11, 12] rfl (by kernel_rfl) ?_
 refine rm rfl ?_
 refine rm rfl ?_
 refine rs rfl (s_ld rfl rfl isAgg3 (.o_ rfl)) ?_
 refine rs rfl (s_lt rfl rfl rfl) ?_
 refine run_callv (vs := [_, _]) rfl rfl rfl rfl rfl rfl en22 (checkGroup_fn _ _ _ _ hl) ?_
 refine rm rfl ?_
 rw [show decide ((vals : Int) < 0) = false from decide_eq_false (by omega)]
 refine rsg rfl rfl (s_ld rfl rfl isAgg3 (.o_ rfl)) ?_
 refine rsg rfl rfl (s_gt rfl rfl rfl) ?_
 refine rs rfl (s_pick rfl rfl (fun h => by cases h) (fun _ => rfl)) ?_
 rw [show decide (999999999 < (vals : Int)) = false from decide_eq_false (by omega)]
 refine run_callv (vs := [_, _]) rfl rfl rfl rfl rfl rfl en96 (when_fn _ _ _) ?_
 refine run_bsl (parts := [_, _]) (vs := [_, _]) rfl rfl rfl rfl rfl rfl (bs178_2 _ _) fun b10 h10 hh10 hb10 => ?_
 have hr10 := rdI_of (xs := [_, _]) hb10 rfl rfl (Nat.le_of_ble_eq_true rfl)
 have hl := hl.mono hh10
 refine run_callv (vs := [_]) rfl rfl rfl rfl rfl rfl en94 (first_fn _ _ _ hr10) ?_
 refine rm rfl ?_
 apply run_end
 have e0 : firstI [groupI l c, whenI false 3] = 0 := by rw [hg0]; rfl
 rw [e0]
 repeat apply wp_seq'
 refine wp_text rfl ?_
 refine rm rfl ?_
 refine rs rfl (s_ne rfl rfl rfl) ?_
 apply run_end
 repeat apply wp_seq'
 refine wp_if' rfl (fun hc26 => ?_) (fun hc26 => ?_)
 ·skip
  exact absurd rfl hc26
 ·skip
  apply wp_skip'
  repeat apply wp_seq'
  refine wp_text rfl ?_
  refine run_callv (vs := [_]) rfl rfl rfl rfl rfl rfl en110 (of_fn 0 _) ?_
  refine run_alloc rfl rfl rfl rfl rfl zeroValue137 rfl fun b9 => ?_
  refine run_st2 rfl rfl rfl rfl rfl rfl (by first | rfl | assumption | exact RdI.one (by assumption)) rfl sizeOf137 (by repeat first|exact Swap.here|apply Swap.there) rfl ?_
  apply run_end
  repeat apply wp_seq'
  refine wp_text rfl ?_
  refine rm rfl ?_
  refine run_call (vs := [_]) rfl rfl rfl rfl rfl rfl en90 (all_fn v _ (by obtain ⟨A, q, rfl, _⟩ := hl; rfl)) ?_
  intro v30 h2 ⟨box, e30, hbox⟩ hh2
  subst e30
  have hl := hl.mono hh2
  apply run_end
  repeat apply wp_seq'
  apply wp_block'
  obtain ⟨_, hl0, hl1, hok, _⟩ := groupI_zero hg0
  refine wp_all rfl rfl rfl hbox hl rfl rfl rfl (fun i h' L => L = [.obj b9 (.cells #[.int .i64 (sumTo l vals i), .slice none 0 0] 137 (0, 0)), .obj b5 (.cells #[.int .i64 vals] 3 (0, 0))]) (fun c h' L => False) rfl (fun i h3 L hi hh3 hJ av hav => ?_) (fun h3 L hh3 hJ => ?_) (fun c h3 L hJ => hJ.elim)
  ·skip
   subst hJ
   have hao := hok _ (getD_mem' (l := l) hi)
   have hstep := sumTo_succ (vals := vals) hi
   have hs1 := hsum (i + 1) (by omega)
   repeat apply wp_seq'
   refine wp_text rfl ?_
   refine run_alloc rfl rfl rfl rfl rfl zeroValue112 rfl fun b11 => ?_
   refine run_st2 rfl rfl rfl rfl rfl rfl (by first | rfl | assumption | exact RdI.one (by assumption)) rfl sizeOf112 (by repeat first|exact Swap.here|apply Swap.there) rfl ?_
   apply run_end
   repeat apply wp_seq'
   apply wp_block'
   repeat apply wp_seq'
   refine wp_any [0, 1, 2, 3, 4, 5] rfl (by kernel_rfl) ?_
   refine rs rfl (s_ld2 rfl rfl isAgg137 sizeOf137 (.o_ rfl) (.o_ rfl)) ?_
   refine rs rfl (s_ld2 rfl rfl isAgg112 sizeOf112 (.o_ rfl) (.o_ rfl)) ?_
   refine rs rfl (s_ld rfl rfl isAgg3 (.o_ rfl)) ?_
   refine run_callv (vs := [_, _]) rfl rfl rfl rfl rfl rfl en112 (fixed_fnN (l.getD i ([], false)) vals _ _ hav (by rw [hao.1]; exact hao) hv (hfix _ (getD_mem' (l := l) hi))) ?_
   refine run_callv (vs := [_, _]) rfl rfl rfl rfl rfl rfl en111 (add_fnN (sumTo l vals i) (fixN (l.getD i ([], false)) vals) _ (by rw [← hstep]; exact hs1)) ?_
   refine run_st2 rfl rfl rfl rfl rfl rfl (by first | rfl | assumption | exact RdI.one (by assumption)) rfl sizeOf137 (by repeat first|exact Swap.here|apply Swap.there) rfl ?_
   apply run_end
   rw [← hstep]
   exact re_normal _ ⟨fun _ _ hb => hb, rfl⟩ ⟨_, .refl _, (by repeat (first|exact NS _|exact SR _|apply SCC|apply SC))⟩
  ·skip
   subst hJ
   repeat apply wp_seq'
   refine wp_cut (fun b12 : Nat => ⟨[(12, .pointer (some ⟨b12, 0, none⟩))], h3, [.obj b12 (.cells #[.int .i64 ((sumTo l vals l.length / l.length : Nat) : Int), .slice none 0 0, .int .i64 1, .slice none 0 0] 141 (0, 0))]⟩) [[0, 1, 2, 3, 4, 5, 6, 7], [0, 1, 2, 3, 4, 6, 5, 7], [0, 1, 2, 3, 6, 4, 5, 7], [0, 1, 2, 6, 3, 4, 5, 7]] (fun _ => rfl) rfl (by kernel_rfl) ?_ ?_
   ·intro lo hlo
    simp only [List.mem_cons, List.not_mem_nil, or_false] at hlo
    rcases hlo with rfl | rfl | rfl | rfl
    ·skip
     refine rs rfl (s_ld2 rfl rfl isAgg137 sizeOf137 (.o_ rfl) (.o_ rfl)) ?_
     refine rm rfl ?_
     refine rs rfl (s_lenS (hl.mono hh3) rfl rfl underlying22) ?_
     refine run_callv (vs := [_]) rfl rfl rfl rfl rfl rfl en110 (of_fn _ _) ?_
     refine run_callv (vs := [_, _]) rfl rfl rfl rfl rfl rfl en114 (quo_fnN (sumTo l vals l.length) l.length _ (hsum _ (Nat.le_refl _)) (by omega)) ?_
     refine run_callv (vs := [_]) rfl rfl rfl rfl rfl rfl en113 (whole_fn _ _) ?_
     refine run_alloc rfl rfl rfl rfl rfl zeroValue141 rfl fun b12 => ?_
     refine run_st4 rfl rfl rfl rfl rfl rfl rfl rfl rfl rfl sizeOf141 (by repeat first|exact Swap.here|apply Swap.there) rfl ?_
     apply run_end
     exact ⟨b12, by repeat (first|exact True.intro|refine And.intro rfl ?_), rfl, _, .refl _, (by repeat (first|exact NS _|exact SR _|apply SCC|apply SC))⟩
    ·skip
     refine rs rfl (s_ld2 rfl rfl isAgg137 sizeOf137 (.o_ rfl) (.o_ rfl)) ?_
     refine rm rfl ?_
     refine rs rfl (s_lenS (hl.mono hh3) rfl rfl underlying22) ?_
     refine run_callv (vs := [_]) rfl rfl rfl rfl rfl rfl en110 (of_fn _ _) ?_
     refine run_callv (vs := [_, _]) rfl rfl rfl rfl rfl rfl en114 (quo_fnN (sumTo l vals l.length) l.length _ (hsum _ (Nat.le_refl _)) (by omega)) ?_
     refine run_alloc rfl rfl rfl rfl rfl zeroValue141 rfl fun b12 => ?_
     refine run_callv (vs := [_]) rfl rfl rfl rfl rfl rfl en113 (whole_fn _ _) ?_
     refine run_st4 rfl rfl rfl rfl rfl rfl rfl rfl rfl rfl sizeOf141 (by repeat first|exact Swap.here|apply Swap.there) rfl ?_
     apply run_end
     exact ⟨b12, by repeat (first|exact True.intro|refine And.intro rfl ?_), rfl, _, .refl _, (by repeat (first|exact NS _|exact SR _|apply SCC|apply SC))⟩
    ·skip
     refine rs rfl (s_ld2 rfl rfl isAgg137 sizeOf137 (.o_ rfl) (.o_ rfl)) ?_
     refine rm rfl ?_
     refine rs rfl (s_lenS (hl.mono hh3) rfl rfl underlying22) ?_
     refine run_callv (vs := [_]) rfl rfl rfl rfl rfl rfl en110 (of_fn _ _) ?_
     refine run_alloc rfl rfl rfl rfl rfl zeroValue141 rfl fun b12 => ?_
     refine run_callv (vs := [_, _]) rfl rfl rfl rfl rfl rfl en114 (quo_fnN (sumTo l vals l.length) l.length _ (hsum _ (Nat.le_refl _)) (by omega)) ?_
     refine run_callv (vs := [_]) rfl rfl rfl rfl rfl rfl en113 (whole_fn _ _) ?_
     refine run_st4 rfl rfl rfl rfl rfl rfl rfl rfl rfl rfl sizeOf141 (by repeat first|exact Swap.here|apply Swap.there) rfl ?_
     apply run_end
     exact ⟨b12, by repeat (first|exact True.intro|refine And.intro rfl ?_), rfl, _, .refl _, (by repeat (first|exact NS _|exact SR _|apply SCC|apply SC))⟩
    ·skip
     refine rs rfl (s_ld2 rfl rfl isAgg137 sizeOf137 (.o_ rfl) (.o_ rfl)) ?_
     refine rm rfl ?_
     refine rs rfl (s_lenS (hl.mono hh3) rfl rfl underlying22) ?_
     refine run_alloc rfl rfl rfl rfl rfl zeroValue141 rfl fun b12 => ?_
     refine run_callv (vs := [_]) rfl rfl rfl rfl rfl rfl en110 (of_fn _ _) ?_
     refine run_callv (vs := [_, _]) rfl rfl rfl rfl rfl rfl en114 (quo_fnN (sumTo l vals l.length) l.length _ (hsum _ (Nat.le_refl _)) (by omega)) ?_
     refine run_callv (vs := [_]) rfl rfl rfl rfl rfl rfl en113 (whole_fn _ _) ?_
     refine run_st4 rfl rfl rfl rfl rfl rfl rfl rfl rfl rfl sizeOf141 (by repeat first|exact Swap.here|apply Swap.there) rfl ?_
     apply run_end
     exact ⟨b12, by repeat (first|exact True.intro|refine And.intro rfl ?_), rfl, _, .refl _, (by repeat (first|exact NS _|exact SR _|apply SCC|apply SC))⟩
   ·rintro b12
    skip
    have hq : sumTo l vals l.length / l.length ≤ 9223372036854775807 := Nat.le_trans (Nat.div_le_self _ _) (hsum _ (Nat.le_refl _))
    repeat apply wp_seq'
    refine wp_text rfl ?_
    refine rs rfl (s_ld4 rfl rfl isAgg141 sizeOf141 (.o_ rfl) (.o_ rfl) (.o_ rfl) (.o_ rfl)) ?_
    refine run_callv (vs := [_]) rfl rfl rfl rfl rfl rfl en115 (large_fn _ _ hq) ?_
    apply run_end
    repeat apply wp_seq'
    refine wp_cond' (b := false) rfl (fun h => by cases h) (fun _ => ?_)
    apply wp_skip'
    repeat apply wp_seq'
    refine wp_text rfl ?_
    refine rs rfl (s_ld4 rfl rfl isAgg141 sizeOf141 (.o_ rfl) (.o_ rfl) (.o_ rfl) (.o_ rfl)) ?_
    refine run_callv (vs := [_]) rfl rfl rfl rfl rfl rfl en116 (text_fn _ _ hq2) ?_
    refine rm rfl ?_
    refine rm rfl ?_
    apply run_end
    apply wp_ret'
    exact fin_ret (res_tt rfl rfl rfl) rfl
end Go.Tal

/-
 Plain: the reference's check of a group is the program's.
-/
namespace Go.Tal
open Go.RowKit Go.Proofs _root_.Tal
def rallI (l : List Sy) (c : Int) : Int := firstI (l.map fun a => rsymI a.1 c)
def closedB (l : List Sy) : Bool := l.all fun a => l.all fun b => decide (comp a b ∈ l)
/-- The reference's first error of a group. -/
def rgrpI (l : List Sy) (c : Int) : Int :=
 if cellsI c ≠ 0 then 3 else if (l.length : Int) = 0 then 12 else if 1536 < (l.length : Int) then 5 else
 if rallI l c ≠ 0 then rallI l c else if adjI l l.length = false then 11 else if closedB l = true then 0 else 28
theorem cellsI_or (c : Int) : cellsI c = 0 ∨ cellsI c = 3 := by unfold cellsI whenI; cases (decide (c < 0) || decide (256 < c)) <;> simp
theorem rsymI_sym {a : List Int} {c : Int} (h : cellsI c = 0) : rsymI a c = symI a c := by
 rcases rsymI_eq a c with h1 | h1
 ·exact h1
 ·have hc := cellsI_zero.1 h
  have e : (a.length : Int) ≠ c := by omega
  unfold rsymI symI
  simp [h, e, firstI, whenI]
theorem rallI_all {l : List Sy} {c : Int} (h : cellsI c = 0) : rallI l c = allI l c := by
 unfold rallI allI
 congr 1
 exact List.map_congr_left fun a _ => rsymI_sym h
theorem closedB_iff {l : List Sy} : closedB l = true ↔ ∀ a ∈ l, ∀ b ∈ l, comp a b ∈ l := by simp [closedB, List.all_eq_true]
theorem rgrpI_eq (l : List Sy) (c : Int) : rgrpI l c = groupI l c := by
 unfold rgrpI groupI
 rcases cellsI_or c with hc | hc
 ·rw [if_neg (by simpa using hc), rallI_all hc]
  by_cases h1 : (l.length : Int) = 0
  ·have e : preI l c = 12 := by simp [preI, firstI, whenI, hc, h1]
   rw [if_pos h1, e]
   rfl
  ·rw [if_neg h1]
   by_cases h2 : 1536 < (l.length : Int)
   ·have e : preI l c = 5 := by
     unfold preI
     rw [firstI_cons, if_neg (by simpa using hc), firstI_cons, decide_eq_false h1, decide_eq_true h2]
     rfl
    rw [if_pos h2, e]
    rfl
   ·have e : preI l c = 0 := by
     unfold preI
     rw [firstI_cons, if_neg (by simpa using hc), firstI_cons, decide_eq_false h1, decide_eq_false h2]
     rfl
    rw [if_neg h2, if_neg (show ¬ preI l c ≠ 0 by simp [e])]
    by_cases h3 : allI l c = 0
    ·rw [if_neg (show ¬ allI l c ≠ 0 by simp [h3]), if_neg (show ¬ allI l c ≠ 0 by simp [h3])]
     by_cases h4 : adjI l l.length = false
     ·rw [if_pos h4, if_pos h4]
     ·rw [if_neg h4, if_neg h4]
      have hr := cellsI_zero.1 hc
      have hok : ∀ a ∈ l, Ok c.toNat a := all_ok (by rw [Int.toNat_of_nonneg hr.1]; exact h3)
      have hne : l ≠ [] := by rintro rfl; exact h1 rfl
      have hnd := (adjI_asc (by simpa using h4)).nodup sLin_sym
      have key := closure_group hok hnd hne
      by_cases h5 : closedB l = true
      ·rw [if_pos h5]
       obtain ⟨g, u, e1, e2⟩ := key.2 (closedB_iff.1 h5)
       rw [e1]
       simp [e2]
      ·rw [if_neg h5]
       cases e1 : closure c.toNat l.length l with
       | none => rfl
       | some r =>
        obtain ⟨g, u⟩ := r
        have : ¬ g.length = l.length := fun e2 => h5 (closedB_iff.2 (key.1 ⟨g, u, e1, e2⟩))
        simp [this]
    ·rw [if_pos h3, if_pos h3]
 ·have e : preI l c = 3 := by simp [preI, firstI, whenI, hc]
  rw [if_pos (by simp [hc]), e]
  rfl
/-- A group's elements. -/
theorem groupI_closed {l : List Sy} {c : Int} (h : groupI l c = 0) : (0 ≤ c ∧ c ≤ 256) ∧ 0 < l.length ∧ l.length ≤ 1536 ∧ (∀ a ∈ l, Ok c.toNat a) ∧ Asc symLt l ∧ ∀ a ∈ l, ∀ b ∈ l, comp a b ∈ l := by
 obtain ⟨h1, h2, h3, h4, h5, g, u, e1, e2⟩ := groupI_zero h
 have hasc := adjI_asc h5
 refine ⟨h1, h2, h3, h4, hasc, (closure_group h4 (hasc.nodup sLin_sym) ?_).1 ⟨g, u, e1, e2⟩⟩
 rintro rfl
 exact absurd h2 (by simp)
theorem group_one {l : List Sy} {c : Int} (h : groupI l c = 0) : ident c.toNat ∈ l := by
 obtain ⟨_, h2, _, h4, h5, h6⟩ := groupI_closed h
 exact closed_ident h4 (h5.nodup sLin_sym) (by rintro rfl; exact absurd h2 (by simp)) h6
theorem group_inv {l : List Sy} {c : Int} (h : groupI l c = 0) {a : Sy} (ha : a ∈ l) : inv a ∈ l := by
 obtain ⟨_, h2, _, h4, h5, h6⟩ := groupI_closed h
 exact closed_inv h4 (h5.nodup sLin_sym) h6 ha
end Go.Tal
