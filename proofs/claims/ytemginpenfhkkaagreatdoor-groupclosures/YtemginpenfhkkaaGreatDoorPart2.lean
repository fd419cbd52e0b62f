/-
  Part 2: symbolic states for walks, contracts of functions, plain laws; no condition.
-/
import Derived.Test.YtemginpenfhkkaaGreatDoorPart1
import Derived.Shelf.SlSortCmp.NoneTotal
import Derived.Shelf.Sort.Plain
import Derived.Shelf.Slices.In.SortNone
import Derived.Shelf.Slices.Clone
import Derived.Test.YtemginpenfhkkaaGreatDoorProg
import Derived.Deep.Upon
import Derived.Lib.LazyBuf
namespace Go.Tal
open Go.RowKit Go.Proofs Go.Proofs.Tryz _root_.Tal
theorem wrap8_id {x : Int} (h0 : 0 ≤ x) (h1 : x < 256) : wrap8 x = x := by
 unfold wrap8
 simp only [IntKind.wrap]
 rw [show (2 : Int) ^ IntKind.u8.bits = 256 from rfl, show IntKind.u8.signed = false from rfl]
 simp only [Bool.false_and, Bool.false_eq_true, if_false]
 omega
theorem keyL_ok {n : Nat} {a : Sy} (hn : n ≤ 256) (ha : Ok n a) : keyL a.1 a.2 = a.1 ++ (if a.2 then [1] else []) := by
 unfold keyL
 congr 1
 conv => { rhs; rw [← List.map_id a.1] }
 refine List.map_congr_left fun x hx => ?_
 have := ha.2.2 x hx
 exact wrap8_id (by omega) (by omega)
theorem strOfNums_inj {xs ys : List Int} (hx : ∀ x ∈ xs, 0 ≤ x ∧ x < 256) (hy : ∀ x ∈ ys, 0 ≤ x ∧ x < 256) (h : strOfNums xs = strOfNums ys) : xs = ys := by
 have h1 : xs.map (fun n => UInt8.ofNat n.toNat) = ys.map (fun n => UInt8.ofNat n.toNat) := by
  rw [← strOfNums_data, ← strOfNums_data, h]
 clear h
 induction xs generalizing ys with
 | nil => cases ys with | nil => rfl | cons y ys => simp at h1
 | cons x xs ih =>
  cases ys with
  | nil => simp at h1
  | cons y ys =>
   simp only [List.map_cons, List.cons.injEq] at h1
   have e1 := hx x (by simp)
   have e2 := hy y (by simp)
   have e3 := congrArg UInt8.toNat h1.1
   simp only [UInt8.toNat_ofNat'] at e3
   rw [Nat.mod_eq_of_lt (by omega), Nat.mod_eq_of_lt (by omega)] at e3
   rw [ih (fun z hz => hx z (by simp [hz])) (fun z hz => hy z (by simp [hz])) h1.2, show x = y from by omega]
theorem key_range {n : Nat} {a : Sy} (hn : n ≤ 256) (ha : Ok n a) : ∀ x ∈ keyL a.1 a.2, 0 ≤ x ∧ x < 256 := by
 rw [keyL_ok hn ha]
 intro x hx
 rcases List.mem_append.1 hx with hx | hx
 ·have := ha.2.2 x hx; omega
 ·split at hx
  ·simp at hx; omega
  ·cases hx
theorem key_inj {n : Nat} {a b : Sy} (hn : n ≤ 256) (ha : Ok n a) (hb : Ok n b) (h : strOfNums (keyL a.1 a.2) = strOfNums (keyL b.1 b.2)) : a = b := by
 have h1 := strOfNums_inj (key_range hn ha) (key_range hn hb) h
 rw [keyL_ok hn ha, keyL_ok hn hb] at h1
 have hl := congrArg List.length h1
 rw [List.length_append, List.length_append, ha.1, hb.1] at hl
 have h2 := List.append_inj h1 (by rw [ha.1, hb.1])
 obtain ⟨a1, a2⟩ := a
 obtain ⟨b1, b2⟩ := b
 cases a2 <;> cases b2 <;> simp_all
theorem hasI_iff {n : Nat} {kvs : List (Value × Sy)} (hn : n ≤ 256) (hk : ∀ p ∈ kvs, Ok n p.2) {a : Sy} (ha : Ok n a) : hasI kvs a.1 a.2 = decide (a ∈ kvs.map (·.2)) := by
 rw [Bool.eq_iff_iff]
 simp only [hasI, kvGet, Option.isSome_map, List.find?_isSome, decide_eq_true_eq, List.mem_map, symKV]
 constructor
 ·rintro ⟨q, ⟨p, hp, rfl⟩, hq⟩
  have := (MapKept.bytes_beq _ _).1 hq
  exact ⟨p, hp, (key_inj hn ha (hk p hp) this).symm⟩
 ·rintro ⟨p, hp, rfl⟩
  exact ⟨symE p, ⟨p, hp, rfl⟩, (MapKept.bytes_beq _ _).2 rfl⟩
theorem kvPut_sym {kvs : List (Value × Sy)} {v : Value} {a : Sy} (h : hasI kvs a.1 a.2 = false) : kvPut (symKV kvs) (strOfNums (keyL a.1 a.2)) (.agg #[v, .bool a.2]) = symKV (kvs ++ [(v, a)]) := by
 have : kvGet (symKV kvs) (strOfNums (keyL a.1 a.2)) = none := by
  unfold hasI at h
  cases h1 : kvGet (symKV kvs) (strOfNums (keyL a.1 a.2)) with
  | none => rfl
  | some x => rw [h1] at h; cases h
 rw [kvPut_none this]
 simp [symKV, symE]
/-- The cells of a row of symmetries. -/
def rowS (l : List (Value × Sy)) : List Value := l.flatMap fun p => [p.1, .bool p.2.2]
theorem rowS_len (l : List (Value × Sy)) : (rowS l).length = l.length * 2 := by
 induction l with
 | nil => rfl
 | cons a l ih => rw [rowS, List.flatMap_cons, List.length_append, ← rowS, ih]; simp; omega
theorem rowS_get {l : List (Value × Sy)} {j : Nat} {p : Value × Sy} (h : l[j]? = some p) : (rowS l)[j * 2]? = some p.1 ∧ (rowS l)[j * 2 + 1]? = some (.bool p.2.2) := by
 induction l generalizing j with
 | nil => simp at h
 | cons a l ih =>
  rw [rowS, List.flatMap_cons, ← rowS]
  cases j with
  | zero => simp at h; subst h; simp
  | succ j =>
   have := ih (j := j) (by simpa using h)
   rw [show (j + 1) * 2 = j * 2 + 2 from by omega, show j * 2 + 2 + 1 = j * 2 + 1 + 2 from by omega]
   simpa using this
theorem rowS_snoc (l : List (Value × Sy)) (p : Value × Sy) : rowS (l ++ [p]) = rowS l ++ [p.1, .bool p.2.2] := by simp [rowS]
theorem rowS_drop (l : List (Value × Sy)) (i : Nat) : (rowS l).drop (i * 2) = rowS (l.drop i) := by
 induction i generalizing l with
 | zero => simp
 | succ i ih =>
  cases l with
  | nil => simp [rowS]
  | cons a l =>
   rw [List.drop_succ_cons, ← ih l]
   rw [rowS, List.flatMap_cons, ← rowS, show (i + 1) * 2 = i * 2 + 2 from by omega]
   simp
def closR (n limit : Nat) (l : List Sy) (r : Value) (h' : H) (L' : List Own) : Prop :=
 match closure n limit l with
 | none => r = .tuple #[.map none, .slice none 0 0, .bool false] ∧ L' = []
 | some (g, used) => ∃ m kvs uv, r = .tuple #[.map (some m), uv, .bool true] ∧ L' = [.obj m (mapO (symKV kvs))] ∧ kvs.map (·.2) = g ∧ SetOk h' kvs ∧ RdS h' uv used

theorem getD_mem' {l : List Sy} {i : Nat} (h : i < l.length) : l.getD i ([], false) ∈ l := by
 rw [List.getD_eq_getElem?_getD, List.getElem?_eq_getElem h]; exact List.getElem_mem h
theorem clos_drop {n limit : Nat} {l g used : List Sy} {i : Nat} (h : i < l.length) : clos n limit (l.drop i) g used = if l.getD i ([], false) ∈ g then clos n limit (l.drop (i + 1)) g used else (bfs limit (used ++ [l.getD i ([], false)]) (limit + 1) [ident n] 0).bind fun g' => clos n limit (l.drop (i + 1)) g' (used ++ [l.getD i ([], false)]) := by
 rw [List.drop_eq_getElem_cons h, clos, List.getD_eq_getElem?_getD, List.getElem?_eq_getElem h]
 rfl
theorem WP.wq {C : Ctx} {Q : Exit → S → Prop} {c : Code} {s t : S} (k : Wq s t) (h : WP C c Q t) : WP C c Q s := fun ro m M hG a w hs => h ro m M hG a w (hs.wq k)
/-- What is known of the queue: it holds the elements from the i-th one on. -/
def QueueOk (kvs : List (Value × Sy)) (i : Nat) (q : Value) (Lq : List Own) : Prop :=
 i ≤ kvs.length ∧ (∃ A c, q = .slice A (kvs.length - i) c) ∧ (0 < kvs.length - i → ∃ b o K ys, q = .slice (some ⟨b, o * 2, none⟩) (kvs.length - i) (K - o) ∧ Lq = [.row (.slice (some ⟨b, 0, none⟩) (o + (kvs.length - i)) K) 112 2 (o + (kvs.length - i)) ys] ∧ o + (kvs.length - i) ≤ K ∧ ys.drop (o * 2) = rowS (kvs.drop i) ∧ o ≤ i)
theorem queue_one {b : Nat} {e : Value × Sy} : QueueOk [e] 0 (.slice (some ⟨b, 0, none⟩) 1 1) [.row (.slice (some ⟨b, 0, none⟩) 1 1) 112 2 1 (rowS [e])] :=
 ⟨Nat.zero_le _, ⟨_, _, rfl⟩, fun _ => ⟨b, 0, 1, rowS [e], rfl, rfl, Nat.le_refl _, rfl, Nat.le_refl _⟩⟩
theorem rowQ_get {ys : List Value} {o i : Nat} {kvs : List (Value × Sy)} {p : Value × Sy} (h : ys.drop (o * 2) = rowS (kvs.drop i)) (hp : kvs[i]? = some p) : ys[o * 2 + (0 : Int).toNat * 2]? = some p.1 ∧ ys[o * 2 + (0 : Int).toNat * 2 + 1]? = some (.bool p.2.2) := by
 have h1 := rowS_get (l := kvs.drop i) (j := 0) (p := p) (by rw [List.getElem?_drop]; exact hp)
 rw [← h, List.getElem?_drop, List.getElem?_drop] at h1
 exact h1
theorem inner_drop {limit : Nat} {q : Sy} {us : List (Value × Sy)} {g : List Sy} {j : Nat} {ub : Value × Sy} (h : us[j]? = some ub) : inner limit q ((us.map (·.2)).drop j) g = if comp ub.2 q ∈ g then inner limit q ((us.map (·.2)).drop (j + 1)) g else if g.length = limit then none else inner limit q ((us.map (·.2)).drop (j + 1)) (g ++ [comp ub.2 q]) := by
 have hj : j < (us.map (·.2)).length := by rw [List.length_map]; exact (List.getElem?_eq_some_iff.1 h).1
 have e : (us.map (·.2))[j] = ub.2 := by
  obtain ⟨h1, h2⟩ := List.getElem?_eq_some_iff.1 h
  simp [h2]
 rw [List.drop_eq_getElem_cons hj, inner, e]
theorem bfs_step {limit iq : Nat} {us : List Sy} {kvs : List (Value × Sy)} {q0 : Value × Sy} (h : kvs[iq]? = some q0) (hk : iq ≤ limit) : bfs limit us (limit + 1 - iq) (kvs.map (·.2)) iq = (inner limit q0.2 us (kvs.map (·.2))).bind fun g' => bfs limit us (limit - iq) g' (iq + 1) := by
 have hi : iq < (kvs.map (·.2)).length := by rw [List.length_map]; exact (List.getElem?_eq_some_iff.1 h).1
 have e : (kvs.map (·.2)).getD iq ([], false) = q0.2 := by rw [List.getD_eq_getElem?_getD, List.getElem?_map, h]; rfl
 rw [show limit + 1 - iq = (limit - iq) + 1 from by omega, bfs, if_pos hi, e]
theorem bfs_end {limit iq : Nat} {us : List Sy} {kvs : List (Value × Sy)} (h : ¬ iq < kvs.length) (hk : iq ≤ limit) : bfs limit us (limit + 1 - iq) (kvs.map (·.2)) iq = some (kvs.map (·.2)) := by
 rw [show limit + 1 - iq = (limit - iq) + 1 from by omega, bfs, if_neg (by rw [List.length_map]; exact h)]
theorem queue_cut {kvs : List (Value × Sy)} {i b o K : Nat} {ys : List Value} (hK : o + (kvs.length - i) ≤ K) (hys : ys.drop (o * 2) = rowS (kvs.drop i)) (ho : o ≤ i) (hi : i < kvs.length) : QueueOk kvs (i + 1) (.slice (if K - o = 1 then some ⟨b, o * 2, none⟩ else some ⟨b, o * 2 + 2, none⟩) (kvs.length - i - 1) (K - o - 1)) [.row (.slice (some ⟨b, 0, none⟩) (o + (kvs.length - i)) K) 112 2 (o + (kvs.length - i)) ys] := by
 refine ⟨by omega, ⟨_, _, rfl⟩, fun hp => ⟨b, o + 1, K, ys, ?_, ?_, by omega, ?_, by omega⟩⟩
 ·rw [if_neg (by omega), show (o + 1) * 2 = o * 2 + 2 from by omega, show K - o - 1 = K - (o + 1) from by omega]; rfl
 ·rw [show o + 1 + (kvs.length - (i + 1)) = o + (kvs.length - i) from by omega]
 ·rw [show (o + 1) * 2 = o * 2 + 2 from by omega, ← List.drop_drop, hys]
  have := rowS_drop (kvs.drop i) 1
  rw [List.drop_drop] at this
  exact this
/-- A row of symmetries let go. -/
theorem WP.letR {C : Ctx} {Q : Exit → S → Prop} {c : Code} {F : List (Nat × Value)} {h : H} {L L' : List Own} {v : Value} {n : Nat} {e : TypeId} (us : List (Value × Sy)) (hI : C.I = []) (p : Pick (.row v e 2 n (rowS us)) L L') (hn : n ≤ 4294967296) (hus : SetOk h us)
 (k : ∀ h', (∀ b o, h b = some o → h' b = some o) → RdS h' v (us.map (·.2)) → WP C c Q ⟨F, h', L'⟩) : WP C c Q ⟨F, h, L⟩ := by
 have e1 : rowS us = (us.map fun p => (p.1, p.2.2)).flatMap fun a => [a.1, .bool a.2] := by simp [rowS, List.flatMap_map]
 rw [e1] at p
 refine WP.letS (us.map (·.2)) hI p hn (by simp) (fun j hj => ?_) k
 have hj' : j < us.length := by simpa using hj
 exact ⟨us[j].1, by simp [List.getD_eq_getElem?_getD, hj'], by simpa [List.getD_eq_getElem?_getD, hj'] using hus us[j] (List.getElem_mem hj')⟩
theorem bs116_1 (A : Option Addr) (n c : Nat) (b : Bool) : ∀ w, (Instr.buildSlice 116 1 #[(0, .agg #[.slice A n c, .bool b])]).run Tryz.prog w = .ok (.slice (some ⟨w.heap.size, 0, none⟩) 1 1) (w.alloc (.cells #[.slice A n c, .bool b] 112)) := fun _ => by kernel_rfl
theorem bs116_r {h : H} {sv : Value} {l : List Int} (r : RdI h sv l) (b : Bool) : ∀ w, (Instr.buildSlice 116 1 #[(0, .agg #[sv, .bool b])]).run Tryz.prog w = .ok (.slice (some ⟨w.heap.size, 0, none⟩) 1 1) (w.alloc (.cells #[sv, .bool b] 112)) := by
 obtain ⟨A, c, rfl, _⟩ := r
 exact bs116_1 _ _ _ _
set_option maxRecDepth 8000 in
set_option maxHeartbeats 8000000 in
theorem closure_fn (l : List Sy) (n limit : Nat) (v : Value) (h : H) (hl : RdS h v l) (hok : ∀ a ∈ l, Ok n a) (hn : n ≤ 256) (hlim : 1 ≤ limit) (hm : limit ≤ 4294967296) : FnM Tryz.prog 98 #[v, .int .i64 n, .int .i64 limit] h [] (closR n limit l) := by
 have hlm := hl.len
 refine fnM_of (vs := [v, .int .i64 n, .int .i64 limit]) func98 rfl ntmps98 (Nat.le_of_ble_eq_true rfl) fun w hw => ?_
 repeat apply wp_seq'
 refine wp_text rfl ?_
 refine run_box rfl rfl rfl rfl rfl rfl rfl fun b5 => ?_
 refine run_alloc rfl rfl rfl rfl rfl zeroValue115 rfl fun b6 => ?_
 refine run_alloc rfl rfl rfl rfl rfl zeroValue116 rfl fun b7 => ?_
 refine run_alloc rfl rfl rfl rfl rfl zeroValue4 rfl fun b8 => ?_
 apply run_end
 repeat apply wp_seq'
 refine wp_text rfl ?_
 refine rm rfl ?_
 refine run_call (vs := [_]) rfl rfl rfl rfl rfl rfl en163 (identity_fn n _ (by omega)) ?_
 intro v19 h1 ⟨ev, e19, hev⟩ hh1
 subst e19
 have hl := hl.mono hh1
 refine run_alloc rfl rfl rfl rfl rfl zeroValue112 rfl fun b9 => ?_
 refine run_st2 rfl rfl rfl rfl rfl rfl (by first | rfl | assumption | exact RdI.one (by assumption)) rfl sizeOf112 (by repeat first|exact Swap.here|apply Swap.there) rfl ?_
 apply run_end
 repeat apply wp_seq'
 refine (wp_cut (fun p : Nat × Nat => ⟨[(20, .map (some p.1)), (10, .pointer (some ⟨p.2, 0, none⟩)), (9, .pointer (some ⟨b9, 0, none⟩)), (8, .pointer (some ⟨b8, 0, none⟩)), (7, .pointer (some ⟨b7, 0, none⟩)), (6, .pointer (some ⟨b6, 0, none⟩)), (5, .pointer (some ⟨b5, 0, none⟩)), (1, .int .i64 n), (0, v)], h1, [.obj p.1 (mapO (symKV [(ev, ident n)])), .obj p.2 (.cells #[.map (some p.1)] 115 (0, 0)), .obj b9 (.cells #[ev, .bool false] 112 (0, 0)), .obj b8 (.cells #[.bool false] 4 (0, 0)), .obj b7 (.cells #[.slice none 0 0] 116 (0, 0)), .obj b6 (.cells #[.map none] 115 (0, 0)), .obj b5 (.cells #[.int .i64 limit] 3 (0, 0))]⟩) [[1, 3, 0, 2, 4, 5, 6, 7], [1, 3, 0, 2, 6, 4, 5, 7], [1, 3, 0, 6, 2, 4, 5, 7], [1, 3, 2, 0, 4, 5, 6, 7], [1, 3, 2, 0, 6, 4, 5, 7], [1, 3, 2, 6, 0, 4, 5, 7], [1, 3, 6, 0, 2, 4, 5, 7], [1, 3, 6, 2, 0, 4, 5, 7]] (fun _ => rfl) rfl (by kernel_rfl) ?_ ?_)
 ·intro l hl
  simp only [List.mem_cons, List.not_mem_nil, or_false] at hl
  rcases hl with rfl | rfl | rfl | rfl | rfl | rfl | rfl | rfl
  ·skip
   refine rs rfl (s_ld2 rfl rfl isAgg112 sizeOf112 (.o_ rfl) (.o_ rfl)) ?_
   refine rs rfl (s_ld2 rfl rfl isAgg112 sizeOf112 (.o_ rfl) (.o_ rfl)) ?_
   refine run_mkmapO rfl rfl rfl rfl rfl fun m0 => ?_
   refine run_callv (vs := [_]) rfl rfl rfl rfl rfl rfl en123 (key_fn _ _ _ _ hev) ?_
   refine run_mapup1 rfl (.inr rfl) rfl rfl rfl rfl rfl underlying115 underlying9 (by repeat first|exact Swap.here|apply Swap.there) ?_
   refine rm rfl ?_
   refine run_alloc rfl rfl rfl rfl rfl zeroValue115 rfl fun b10 => ?_
   refine run_st rfl rfl rfl rfl rfl rfl rfl rfl sizeOf115 (by repeat first|exact Swap.here|apply Swap.there) rfl ?_
   apply run_end
   exact ⟨(m0, b10), by repeat (first|exact True.intro|refine And.intro rfl ?_), rfl, _, .swap _ _ _, (by repeat (first|exact NS _|exact SR _|apply SCC|apply SC))⟩
  ·skip
   refine rs rfl (s_ld2 rfl rfl isAgg112 sizeOf112 (.o_ rfl) (.o_ rfl)) ?_
   refine rs rfl (s_ld2 rfl rfl isAgg112 sizeOf112 (.o_ rfl) (.o_ rfl)) ?_
   refine run_mkmapO rfl rfl rfl rfl rfl fun m0 => ?_
   refine run_callv (vs := [_]) rfl rfl rfl rfl rfl rfl en123 (key_fn _ _ _ _ hev) ?_
   refine run_alloc rfl rfl rfl rfl rfl zeroValue115 rfl fun b10 => ?_
   refine run_mapup1 rfl (.inr rfl) rfl rfl rfl rfl rfl underlying115 underlying9 (by repeat first|exact Swap.here|apply Swap.there) ?_
   refine rm rfl ?_
   refine run_st rfl rfl rfl rfl rfl rfl rfl rfl sizeOf115 (by repeat first|exact Swap.here|apply Swap.there) rfl ?_
   apply run_end
   exact ⟨(m0, b10), by repeat (first|exact True.intro|refine And.intro rfl ?_), rfl, _, .swap _ _ _, (by repeat (first|exact NS _|exact SR _|apply SCC|apply SC))⟩
  ·skip
   refine rs rfl (s_ld2 rfl rfl isAgg112 sizeOf112 (.o_ rfl) (.o_ rfl)) ?_
   refine rs rfl (s_ld2 rfl rfl isAgg112 sizeOf112 (.o_ rfl) (.o_ rfl)) ?_
   refine run_mkmapO rfl rfl rfl rfl rfl fun m0 => ?_
   refine run_alloc rfl rfl rfl rfl rfl zeroValue115 rfl fun b10 => ?_
   refine run_callv (vs := [_]) rfl rfl rfl rfl rfl rfl en123 (key_fn _ _ _ _ hev) ?_
   refine run_mapup1 rfl (.inr rfl) rfl rfl rfl rfl rfl underlying115 underlying9 (by repeat first|exact Swap.here|apply Swap.there) ?_
   refine rm rfl ?_
   refine run_st rfl rfl rfl rfl rfl rfl rfl rfl sizeOf115 (by repeat first|exact Swap.here|apply Swap.there) rfl ?_
   apply run_end
   exact ⟨(m0, b10), by repeat (first|exact True.intro|refine And.intro rfl ?_), rfl, _, .swap _ _ _, (by repeat (first|exact NS _|exact SR _|apply SCC|apply SC))⟩
  ·skip
   refine rs rfl (s_ld2 rfl rfl isAgg112 sizeOf112 (.o_ rfl) (.o_ rfl)) ?_
   refine rs rfl (s_ld2 rfl rfl isAgg112 sizeOf112 (.o_ rfl) (.o_ rfl)) ?_
   refine run_callv (vs := [_]) rfl rfl rfl rfl rfl rfl en123 (key_fn _ _ _ _ hev) ?_
   refine run_mkmapO rfl rfl rfl rfl rfl fun m0 => ?_
   refine run_mapup1 rfl (.inr rfl) rfl rfl rfl rfl rfl underlying115 underlying9 (by repeat first|exact Swap.here|apply Swap.there) ?_
   refine rm rfl ?_
   refine run_alloc rfl rfl rfl rfl rfl zeroValue115 rfl fun b10 => ?_
   refine run_st rfl rfl rfl rfl rfl rfl rfl rfl sizeOf115 (by repeat first|exact Swap.here|apply Swap.there) rfl ?_
   apply run_end
   exact ⟨(m0, b10), by repeat (first|exact True.intro|refine And.intro rfl ?_), rfl, _, .swap _ _ _, (by repeat (first|exact NS _|exact SR _|apply SCC|apply SC))⟩
  ·skip
   refine rs rfl (s_ld2 rfl rfl isAgg112 sizeOf112 (.o_ rfl) (.o_ rfl)) ?_
   refine rs rfl (s_ld2 rfl rfl isAgg112 sizeOf112 (.o_ rfl) (.o_ rfl)) ?_
   refine run_callv (vs := [_]) rfl rfl rfl rfl rfl rfl en123 (key_fn _ _ _ _ hev) ?_
   refine run_mkmapO rfl rfl rfl rfl rfl fun m0 => ?_
   refine run_alloc rfl rfl rfl rfl rfl zeroValue115 rfl fun b10 => ?_
   refine run_mapup1 rfl (.inr rfl) rfl rfl rfl rfl rfl underlying115 underlying9 (by repeat first|exact Swap.here|apply Swap.there) ?_
   refine rm rfl ?_
   refine run_st rfl rfl rfl rfl rfl rfl rfl rfl sizeOf115 (by repeat first|exact Swap.here|apply Swap.there) rfl ?_
   apply run_end
   exact ⟨(m0, b10), by repeat (first|exact True.intro|refine And.intro rfl ?_), rfl, _, .swap _ _ _, (by repeat (first|exact NS _|exact SR _|apply SCC|apply SC))⟩
  ·skip
   refine rs rfl (s_ld2 rfl rfl isAgg112 sizeOf112 (.o_ rfl) (.o_ rfl)) ?_
   refine rs rfl (s_ld2 rfl rfl isAgg112 sizeOf112 (.o_ rfl) (.o_ rfl)) ?_
   refine run_callv (vs := [_]) rfl rfl rfl rfl rfl rfl en123 (key_fn _ _ _ _ hev) ?_
   refine run_alloc rfl rfl rfl rfl rfl zeroValue115 rfl fun b10 => ?_
   refine run_mkmapO rfl rfl rfl rfl rfl fun m0 => ?_
   refine run_mapup1 rfl (.inr rfl) rfl rfl rfl rfl rfl underlying115 underlying9 (by repeat first|exact Swap.here|apply Swap.there) ?_
   refine rm rfl ?_
   refine run_st rfl rfl rfl rfl rfl rfl rfl rfl sizeOf115 (by repeat first|exact Swap.here|apply Swap.there) rfl ?_
   apply run_end
   exact ⟨(m0, b10), by repeat (first|exact True.intro|refine And.intro rfl ?_), rfl, _, .refl _, (by repeat (first|exact NS _|exact SR _|apply SCC|apply SC))⟩
  ·skip
   refine rs rfl (s_ld2 rfl rfl isAgg112 sizeOf112 (.o_ rfl) (.o_ rfl)) ?_
   refine rs rfl (s_ld2 rfl rfl isAgg112 sizeOf112 (.o_ rfl) (.o_ rfl)) ?_
   refine run_alloc rfl rfl rfl rfl rfl zeroValue115 rfl fun b10 => ?_
   refine run_mkmapO rfl rfl rfl rfl rfl fun m0 => ?_
   refine run_callv (vs := [_]) rfl rfl rfl rfl rfl rfl en123 (key_fn _ _ _ _ hev) ?_
   refine run_mapup1 rfl (.inr rfl) rfl rfl rfl rfl rfl underlying115 underlying9 (by repeat first|exact Swap.here|apply Swap.there) ?_
   refine rm rfl ?_
   refine run_st rfl rfl rfl rfl rfl rfl rfl rfl sizeOf115 (by repeat first|exact Swap.here|apply Swap.there) rfl ?_
   apply run_end
   exact ⟨(m0, b10), by repeat (first|exact True.intro|refine And.intro rfl ?_), rfl, _, .refl _, (by repeat (first|exact NS _|exact SR _|apply SCC|apply SC))⟩
  ·skip
   refine rs rfl (s_ld2 rfl rfl isAgg112 sizeOf112 (.o_ rfl) (.o_ rfl)) ?_
   refine rs rfl (s_ld2 rfl rfl isAgg112 sizeOf112 (.o_ rfl) (.o_ rfl)) ?_
   refine run_alloc rfl rfl rfl rfl rfl zeroValue115 rfl fun b10 => ?_
   refine run_callv (vs := [_]) rfl rfl rfl rfl rfl rfl en123 (key_fn _ _ _ _ hev) ?_
   refine run_mkmapO rfl rfl rfl rfl rfl fun m0 => ?_
   refine run_mapup1 rfl (.inr rfl) rfl rfl rfl rfl rfl underlying115 underlying9 (by repeat first|exact Swap.here|apply Swap.there) ?_
   refine rm rfl ?_
   refine run_st rfl rfl rfl rfl rfl rfl rfl rfl sizeOf115 (by repeat first|exact Swap.here|apply Swap.there) rfl ?_
   apply run_end
   exact ⟨(m0, b10), by repeat (first|exact True.intro|refine And.intro rfl ?_), rfl, _, .refl _, (by repeat (first|exact NS _|exact SR _|apply SCC|apply SC))⟩
 rintro ⟨m0, b10⟩
 dsimp only
 repeat apply wp_seq'
 refine wp_text rfl ?_
 refine run_alloc rfl rfl rfl rfl rfl zeroValue116 rfl fun b11 => ?_
 apply run_end
 repeat apply wp_seq'
 refine wp_text rfl ?_
 refine rm rfl ?_
 refine run_call (vs := [_]) rfl rfl rfl rfl rfl rfl en90 (all_fn v _ (by obtain ⟨A, c, rfl, _⟩ := hl; rfl)) ?_
 intro v26 h2 ⟨box, e26, hbox⟩ hh2
 subst e26
 have hl := hl.mono hh2
 have hev := hev.mono hh2
 apply run_end
 repeat apply wp_seq'
 apply wp_block'
 refine WP.nilrow 112 2 ?_
 refine wp_all rfl rfl rfl hbox hl rfl rfl rfl (fun i h' L => ∃ (m : Nat) (uv : Value) (kvs us : List (Value × Sy)), L = [.row uv 112 2 us.length (rowS us), .obj b11 (.cells #[uv] 116 (0, 0)), .obj m (mapO (symKV kvs)), .obj b10 (.cells #[.map (some m)] 115 (0, 0)), .obj b9 (.cells #[ev, .bool false] 112 (0, 0)), .obj b8 (.cells #[.bool false] 4 (0, 0)), .obj b7 (.cells #[.slice none 0 0] 116 (0, 0)), .obj b6 (.cells #[.map none] 115 (0, 0)), .obj b5 (.cells #[.int .i64 limit] 3 (0, 0))] ∧
  SetOk h' kvs ∧ SetOk h' us ∧ (∀ p ∈ kvs, Ok n p.2) ∧ (∀ p ∈ us, Ok n p.2) ∧ (∃ A c, uv = .slice A us.length c) ∧ us.length ≤ i ∧ clos n limit (l.drop i) (kvs.map (·.2)) (us.map (·.2)) = closure n limit l) (fun c h' L => c = .ret ∧ closure n limit l = none ∧ L = [.obj b9 (.cells #[ev, .bool false] 112 (0, 0)), .obj b8 (.cells #[.bool false] 4 (0, 0)), .obj b7 (.cells #[.slice none 0 0] 116 (0, 0)), .obj b6 (.cells #[.map none] 115 (0, 0)), .obj b5 (.cells #[.int .i64 limit] 3 (0, 0))]) ?_ (fun i h3 L hi hh3 hJ av hav => ?_) (fun h3 L hh3 hJ => ?_) (fun c h3 L hJ => ?_)
 ·skip
  refine ⟨m0, .slice none 0 0, [(ev, ident n)], [], ?_, ?_, ?_, ?_, ?_, ⟨none, 0, rfl⟩, Nat.zero_le _, rfl⟩
  ·rfl
  ·intro p hp; rw [List.mem_singleton] at hp; subst hp; exact hev
  ·intro p hp; cases hp
  ·intro p hp; rw [List.mem_singleton] at hp; subst hp; exact Ok.ident n
  ·intro p hp; cases hp
 ·skip
  obtain ⟨m, uv, kvs, us, rfl, hks, hus, hko, huo, ⟨uA, uc, rfl⟩, hul, hclos⟩ := hJ
  have hev := hev.mono hh3
  have hao := hok _ (getD_mem' (l := l) hi)
  obtain ⟨aA, ac, eav, _⟩ := id hav
  refine wp_text rfl ?_
  refine run_alloc rfl rfl rfl rfl rfl zeroValue112 rfl fun b13 => ?_
  refine run_st2 rfl rfl rfl rfl rfl rfl (by first | rfl | assumption | exact RdI.one (by assumption)) rfl sizeOf112 (by repeat first|exact Swap.here|apply Swap.there) rfl ?_
  apply run_end
  repeat apply wp_seq'
  apply wp_block'
  repeat apply wp_seq'
  refine wp_text rfl ?_
  refine rs rfl (s_ld rfl rfl isAgg115 (.o_ rfl)) ?_
  refine rs rfl (s_ld2 rfl rfl isAgg112 sizeOf112 (.o_ rfl) (.o_ rfl)) ?_
  refine run_callK (vs := [_, _]) rfl rfl rfl (dst_lt rfl rfl) rfl rfl en121 (by repeat first|exact Pick.here|apply Pick.there) (has_fn kvs _ _ m av _ hks hav) ?_
  intro v31 h4 e31 hh4
  subst e31
  apply run_end
  rw [hasI_iff hn hko hao]
  repeat apply wp_seq'
  refine wp_if' rfl (fun hc31 => ?_) (fun hc31 => ?_)
  ·skip
   apply wp_exit'
   refine re_normal _ ⟨hh4, m, _, kvs, us, rfl, hks.mono hh4, hus.mono hh4, hko, huo, ⟨_, _, rfl⟩, by omega, ?_⟩ ⟨_, .refl _, (by repeat (first|exact NS _|exact SR _|apply SCC|apply SC))⟩
   rw [← hclos, clos_drop hi, if_pos hc31]
  ·skip
   apply wp_skip'
   have hev := hev.mono hh4
   have hks := hks.mono hh4
   have hus := hus.mono hh4
   have hav := hav.mono hh4
   repeat apply wp_seq'
   refine wp_text rfl ?_
   refine rs rfl (s_ld rfl rfl isAgg116 (.o_ rfl)) ?_
   refine rs rfl (s_ld2 rfl rfl isAgg112 sizeOf112 (.o_ rfl) (.o_ rfl)) ?_
   refine run_bso (parts := [_]) (vs := [_]) rfl rfl rfl rfl rfl rfl (bs116_r hav _) fun b34 => ?_
   refine run_app2 (fun p : Value × Sy => p.1) (fun p : Value × Sy => .bool p.2.2) (av, l.getD i ([], false)) (xs := us) rfl rfl rfl rfl rfl rfl rfl underlying116 info112 rfl (fun v' => (by repeat first|exact Swap.here|apply Swap.there)) (by repeat first|exact MH _|apply MT) (RdI.one hav) rfl (by omega) (by decide) fun v35 hv35 => ?_
   obtain ⟨A35, c35, rfl⟩ := hv35
   refine run_st rfl rfl rfl rfl rfl rfl rfl rfl sizeOf116 (by repeat first|exact Swap.here|apply Swap.there) rfl ?_
   apply run_end
   repeat apply wp_seq'
   refine (wp_cut (fun p : Nat => ⟨[(10, .pointer (some ⟨b10, 0, none⟩)), (9, .pointer (some ⟨b9, 0, none⟩)), (8, .pointer (some ⟨b8, 0, none⟩)), (7, .pointer (some ⟨b7, 0, none⟩)), (6, .pointer (some ⟨b6, 0, none⟩)), (5, .pointer (some ⟨b5, 0, none⟩)), (11, .pointer (some ⟨b11, 0, none⟩))], h4, [.obj p (mapO (symKV [(ev, ident n)])), .row (.slice A35 (us.length + 1) c35) 112 2 (us.length + 1) (rowS (us ++ [(av, l.getD i ([], false))])), .obj b11 (.cells #[.slice A35 (us.length + 1) c35] 116 (0, 0)), .obj b10 (.cells #[.map (some p)] 115 (0, 0)), .obj b9 (.cells #[ev, .bool false] 112 (0, 0)), .obj b8 (.cells #[.bool false] 4 (0, 0)), .obj b7 (.cells #[.slice none 0 0] 116 (0, 0)), .obj b6 (.cells #[.map none] 115 (0, 0)), .obj b5 (.cells #[.int .i64 limit] 3 (0, 0))]⟩) [[1, 3, 0, 2, 4, 5, 6], [1, 3, 2, 0, 4, 5, 6]] (fun _ => rfl) rfl (by kernel_rfl) ?_ ?_)
   ·intro l hl
    simp only [List.mem_cons, List.not_mem_nil, or_false] at hl
    rcases hl with rfl | rfl
    ·skip
     refine rs rfl (s_ld2 rfl rfl isAgg112 sizeOf112 (.o_ rfl) (.o_ rfl)) ?_
     refine rs rfl (s_ld2 rfl rfl isAgg112 sizeOf112 (.o_ rfl) (.o_ rfl)) ?_
     refine run_mkmapO rfl rfl rfl rfl rfl fun m0 => ?_
     refine run_callv (vs := [_]) rfl rfl rfl rfl rfl rfl en123 (key_fn _ _ _ _ hev) ?_
     refine run_mapup1 rfl (.inr rfl) rfl rfl rfl rfl rfl underlying115 underlying9 (by repeat first|exact Swap.here|apply Swap.there) ?_
     refine rm rfl ?_
     refine run_st rfl rfl rfl rfl rfl rfl rfl rfl sizeOf115 (by repeat first|exact Swap.here|apply Swap.there) rfl ?_
     apply run_end
     exact ⟨m0, by repeat (first|exact True.intro|refine And.intro rfl ?_), rfl, _, .refl _, (by repeat (first|exact NS _|exact SR _|apply SCC|apply SC))⟩
    ·skip
     refine rs rfl (s_ld2 rfl rfl isAgg112 sizeOf112 (.o_ rfl) (.o_ rfl)) ?_
     refine rs rfl (s_ld2 rfl rfl isAgg112 sizeOf112 (.o_ rfl) (.o_ rfl)) ?_
     refine run_callv (vs := [_]) rfl rfl rfl rfl rfl rfl en123 (key_fn _ _ _ _ hev) ?_
     refine run_mkmapO rfl rfl rfl rfl rfl fun m0 => ?_
     refine run_mapup1 rfl (.inr rfl) rfl rfl rfl rfl rfl underlying115 underlying9 (by repeat first|exact Swap.here|apply Swap.there) ?_
     refine rm rfl ?_
     refine run_st rfl rfl rfl rfl rfl rfl rfl rfl sizeOf115 (by repeat first|exact Swap.here|apply Swap.there) rfl ?_
     apply run_end
     exact ⟨m0, by repeat (first|exact True.intro|refine And.intro rfl ?_), rfl, _, .refl _, (by repeat (first|exact NS _|exact SR _|apply SCC|apply SC))⟩
   intro m1
   obtain ⟨us1, hus1⟩ : ∃ us1, us ++ [(av, l.getD i ([], false))] = us1 := ⟨_, rfl⟩
   have hl1 : us.length + 1 = us1.length := by rw [← hus1, List.length_append]; rfl
   rw [hus1, hl1]
   have hu1 : SetOk h4 us1 := by intro p hp; rw [← hus1] at hp; rcases List.mem_append.1 hp with hp | hp; exact hus p hp; rw [List.mem_singleton] at hp; subst hp; exact hav
   have huo1 : ∀ p ∈ us1, Ok n p.2 := by intro p hp; rw [← hus1] at hp; rcases List.mem_append.1 hp with hp | hp; exact huo p hp; rw [List.mem_singleton] at hp; subst hp; exact hao
   rw [clos_drop hi, if_neg hc31, show us.map (·.2) ++ [l.getD i ([], false)] = us1.map (·.2) from by rw [← hus1]; simp] at hclos
   have hu0 : 0 < us1.length := by omega
   have hum : us1.length ≤ 4294967296 := by omega
   have hko1 : ∀ p ∈ [(ev, ident n)], Ok n (p : Value × Sy).2 := by intro p hp; rw [List.mem_singleton] at hp; subst hp; exact Ok.ident n
   have hks1 : SetOk h4 [(ev, ident n)] := by intro p hp; rw [List.mem_singleton] at hp; subst hp; exact hev
   have hul1 : us1.length ≤ i + 1 := by omega
   clear hul hus huo hl1 hus1
   refine WP.rowAt (v := .slice A35 us1.length c35) (n := us1.length) (xs := rowS us1) (e := 112) (sz := 2) (by repeat first|exact Pick.here|apply Pick.there) hu0 (fun hrow _ => ?_)
   obtain ⟨bu, cu, eu, hcu⟩ := hrow
   cases eu
   repeat apply wp_seq'
   refine wp_text rfl ?_
   refine rs rfl (s_ld2 rfl rfl isAgg112 sizeOf112 (.o_ rfl) (.o_ rfl)) ?_
   refine run_bso (parts := [_]) (vs := [_]) rfl rfl rfl rfl rfl rfl (bs116_r hev _) fun b42 => ?_
   refine rm rfl ?_
   apply run_end
   refine WP.objRow (n := 1) (cap := 1) (sz := 2) (by repeat first|exact Pick.here|apply Pick.there) rfl rfl rfl ?_
   repeat apply wp_seq'
   apply wp_block'
   refine WP.wq (t := ⟨[(14, .slice (some ⟨b42, 0, none⟩) 1 1), (11, .pointer (some ⟨b11, 0, none⟩)), (10, .pointer (some ⟨b10, 0, none⟩)), (9, .pointer (some ⟨b9, 0, none⟩)), (8, .pointer (some ⟨b8, 0, none⟩)), (7, .pointer (some ⟨b7, 0, none⟩)), (6, .pointer (some ⟨b6, 0, none⟩)), (5, .pointer (some ⟨b5, 0, none⟩))], h4, .obj m1 (mapO (symKV [(ev, ident n)])) :: .row (.slice (some ⟨bu, 0, none⟩) us1.length c35) 112 2 us1.length (rowS us1) :: .obj b11 (.cells #[.slice (some ⟨bu, 0, none⟩) us1.length c35] 116 (0, 0)) :: .obj b10 (.cells #[.map (some m1)] 115 (0, 0)) :: .obj b9 (.cells #[ev, .bool false] 112 (0, 0)) :: .obj b8 (.cells #[.bool false] 4 (0, 0)) :: .obj b7 (.cells #[.slice none 0 0] 116 (0, 0)) :: .obj b6 (.cells #[.map none] 115 (0, 0)) :: .obj b5 (.cells #[.int .i64 limit] 3 (0, 0)) :: [.row (.slice (some ⟨b42, 0, none⟩) 1 1) 112 2 1 (rowS [(ev, ident n)])]⟩) ⟨by repeat (first|exact True.intro|refine And.intro rfl ?_), rfl, _, (List.perm_append_singleton _ _).symm, List.Sublist.refl _⟩ ?_
   refine wp_loop' (ι := H × List (Value × Sy) × Nat × Value × List Own) (fun x => (∀ b o, h4 b = some o → x.1 b = some o) ∧ SetOk x.1 x.2.1 ∧ (∀ p ∈ x.2.1, Ok n p.2) ∧ x.2.1.length ≤ limit ∧ bfs limit (us1.map (·.2)) (limit + 1 - x.2.2.1) (x.2.1.map (·.2)) x.2.2.1 = bfs limit (us1.map (·.2)) (limit + 1) [ident n] 0 ∧ QueueOk x.2.1 x.2.2.1 x.2.2.2.1 x.2.2.2.2) (fun x => ⟨[(14, x.2.2.2.1), (11, .pointer (some ⟨b11, 0, none⟩)), (10, .pointer (some ⟨b10, 0, none⟩)), (9, .pointer (some ⟨b9, 0, none⟩)), (8, .pointer (some ⟨b8, 0, none⟩)), (7, .pointer (some ⟨b7, 0, none⟩)), (6, .pointer (some ⟨b6, 0, none⟩)), (5, .pointer (some ⟨b5, 0, none⟩))], x.1, .obj m1 (mapO (symKV x.2.1)) :: .row (.slice (some ⟨bu, 0, none⟩) us1.length c35) 112 2 us1.length (rowS us1) :: .obj b11 (.cells #[.slice (some ⟨bu, 0, none⟩) us1.length c35] 116 (0, 0)) :: .obj b10 (.cells #[.map (some m1)] 115 (0, 0)) :: .obj b9 (.cells #[ev, .bool false] 112 (0, 0)) :: .obj b8 (.cells #[.bool false] 4 (0, 0)) :: .obj b7 (.cells #[.slice none 0 0] 116 (0, 0)) :: .obj b6 (.cells #[.map none] 115 (0, 0)) :: .obj b5 (.cells #[.int .i64 limit] 3 (0, 0)) :: x.2.2.2.2⟩) (fun x => limit + 1 - x.2.2.1) (h4, [(ev, ident n)], 0, .slice (some ⟨b42, 0, none⟩) 1 1, [.row (.slice (some ⟨b42, 0, none⟩) 1 1) 112 2 1 (rowS [(ev, ident n)])]) ⟨fun _ _ hb => hb, hks1, hko1, by simpa using hlim, rfl, queue_one⟩ ⟨by repeat (first|exact True.intro|refine And.intro rfl ?_), rfl, by repeat (first|exact NS _|exact SR _|apply SCC|apply SC)⟩ fun x hx => ?_
   obtain ⟨h5, kvs, iq, q, Lq⟩ := x
   obtain ⟨hh5, hks, hko, hkl, hbfs, hq⟩ := hx
   dsimp only at hh5 hks hko hkl hbfs hq ⊢
   obtain ⟨hiq, ⟨qA, qc, eq⟩, hqr⟩ := id hq
   have hus := hu1.mono hh5
   repeat apply wp_seq'
   refine wp_text rfl ?_
   refine rm rfl ?_
   refine rs rfl (s_len rfl (by rw [eq]; rfl) underlying116) ?_
   refine rs rfl (s_gt rfl rfl rfl) ?_
   apply run_end
   repeat apply wp_seq'
   refine wp_if' rfl (fun hc45 => ?_) (fun hc45 => ?_)
   ·skip
    apply wp_skip'
    have hpos : 0 < kvs.length - iq := by omega
    obtain ⟨qb, qo, qK, ys, eq2, eL, hK, hys, hqo⟩ := hqr hpos
    clear hqr hq
    clear eq
    subst eq2 eL
    have hiq2 : iq < kvs.length := by omega
    obtain ⟨q0, hq0⟩ : ∃ q0, kvs[iq]? = some q0 := ⟨_, List.getElem?_eq_getElem hiq2⟩
    have hq0m : q0 ∈ kvs := List.mem_of_getElem? hq0
    have hq0o := hko q0 hq0m
    repeat apply wp_seq'
    apply wp_block'
    repeat apply wp_seq'
    refine wp_text rfl ?_
    refine rs rfl (s_ld rfl rfl isAgg116 (.o_ rfl)) ?_
    refine rs rfl (s_len rfl rfl underlying116) ?_
    refine rm rfl ?_
    apply run_end
    repeat apply wp_seq'
    apply wp_block'
    refine wp_loop' (ι := H × List (Value × Sy) × (Nat × Nat × Nat × List Value) × Nat) (fun x => (∀ b o, h5 b = some o → x.1 b = some o) ∧ SetOk x.1 x.2.1 ∧ (∀ p ∈ x.2.1, Ok n p.2) ∧ x.2.1.length ≤ limit ∧ inner limit q0.2 ((us1.map (·.2)).drop x.2.2.2) (x.2.1.map (·.2)) = inner limit q0.2 (us1.map (·.2)) (kvs.map (·.2)) ∧ (∃ t, x.2.1 = kvs ++ t) ∧ x.2.2.1.2.1 + (x.2.1.length - iq) ≤ x.2.2.1.2.2.1 ∧ x.2.2.1.2.2.2.drop (x.2.2.1.2.1 * 2) = rowS (x.2.1.drop iq) ∧ x.2.2.1.2.1 ≤ iq ∧ x.2.2.2 ≤ us1.length) (fun x => ⟨[(50, .int .i64 x.2.2.2), (49, .int .i64 us1.length), (48, .slice (some ⟨bu, 0, none⟩) us1.length c35), (14, (.slice (some ⟨x.2.2.1.1, x.2.2.1.2.1 * 2, none⟩) (x.2.1.length - iq) (x.2.2.1.2.2.1 - x.2.2.1.2.1))), (11, .pointer (some ⟨b11, 0, none⟩)), (10, .pointer (some ⟨b10, 0, none⟩)), (9, .pointer (some ⟨b9, 0, none⟩)), (8, .pointer (some ⟨b8, 0, none⟩)), (7, .pointer (some ⟨b7, 0, none⟩)), (6, .pointer (some ⟨b6, 0, none⟩)), (5, .pointer (some ⟨b5, 0, none⟩))], x.1, .obj m1 (mapO (symKV x.2.1)) :: .row (.slice (some ⟨bu, 0, none⟩) us1.length c35) 112 2 us1.length (rowS us1) :: .obj b11 (.cells #[.slice (some ⟨bu, 0, none⟩) us1.length c35] 116 (0, 0)) :: .obj b10 (.cells #[.map (some m1)] 115 (0, 0)) :: .obj b9 (.cells #[ev, .bool false] 112 (0, 0)) :: .obj b8 (.cells #[.bool false] 4 (0, 0)) :: .obj b7 (.cells #[.slice none 0 0] 116 (0, 0)) :: .obj b6 (.cells #[.map none] 115 (0, 0)) :: .obj b5 (.cells #[.int .i64 limit] 3 (0, 0)) :: [(.row (.slice (some ⟨x.2.2.1.1, 0, none⟩) (x.2.2.1.2.1 + (x.2.1.length - iq)) x.2.2.1.2.2.1) 112 2 (x.2.2.1.2.1 + (x.2.1.length - iq)) x.2.2.1.2.2.2)]⟩) (fun x => us1.length - x.2.2.2) (h5, kvs, (qb, qo, qK, ys), 0) ⟨fun _ _ hb => hb, hks, hko, hkl, rfl, ⟨[], by simp⟩, hK, hys, hqo, Nat.zero_le _⟩ ⟨by repeat (first|exact True.intro|refine And.intro rfl ?_), rfl, by repeat (first|exact NS _|exact SR _|apply SCC|apply SC)⟩ fun x hx => ?_
    obtain ⟨h6, kvs2, ⟨qb2, qo2, qK2, ys2⟩, j⟩ := x
    obtain ⟨hh6, hks2, hko2, hkl2, hinn, ⟨t2, ht2⟩, hK2, hys2, hqo2, hj⟩ := hx
    dsimp only at hh6 hks2 hko2 hkl2 hinn ht2 hK2 hys2 hqo2 hj ⊢
    have hus2 := hus.mono hh6
    have hlen2 : kvs.length ≤ kvs2.length := by rw [ht2, List.length_append]; omega
    have hq02 : kvs2[iq]? = some q0 := by rw [ht2, List.getElem?_append_left hiq2]; exact hq0
    have hq0v := hks2 q0 (List.mem_of_getElem? hq02)
    repeat apply wp_seq'
    refine wp_text rfl ?_
    refine rs rfl (s_lt rfl rfl rfl) ?_
    apply run_end
    repeat apply wp_seq'
    refine wp_if' rfl (fun hc51 => ?_) (fun hc51 => ?_)
    ·skip
     apply wp_skip'
     have hj2 : j < us1.length := by omega
     obtain ⟨ub, hub⟩ : ∃ ub, us1[j]? = some ub := ⟨_, List.getElem?_eq_getElem hj2⟩
     have hubm : ub ∈ us1 := List.mem_of_getElem? hub
     have hubo := huo1 ub hubm
     have hubv := hus2 ub hubm
     obtain ⟨hr0, hr1⟩ := rowS_get hub
     obtain ⟨hy0, hy1⟩ := rowQ_get hys2 hq02
     repeat apply wp_seq'
     apply wp_block'
     repeat apply wp_seq'
     refine wp_text rfl ?_
     refine rs rfl (s_iaR rfl (by omega) (by omega) rfl rfl rfl underlying116 sizeOf112) ?_
     refine rs rfl (s_ldrow2 rfl (by repeat first|exact MH _|apply MT) (by omega) hr0 hr1 rfl rfl isAgg112 sizeOf112) ?_
     refine run_alloc rfl rfl rfl rfl rfl zeroValue112 rfl fun b16 => ?_
     refine run_st2 rfl rfl rfl rfl rfl rfl (by first | rfl | assumption | exact RdI.one (by assumption)) rfl sizeOf112 (by repeat first|exact Swap.here|apply Swap.there) rfl ?_
     apply run_end
     repeat apply wp_seq'
     refine (wp_cut (fun p : {p : Nat × Value × H // (∀ b o, h6 b = some o → p.2.2 b = some o) ∧ RdI p.2.2 p.2.1 (comp ub.2 q0.2).1} => ⟨[(17, .pointer (some ⟨p.1.1, 0, none⟩)), (50, .int .i64 j), (49, .int .i64 us1.length), (48, .slice (some ⟨bu, 0, none⟩) us1.length c35), (14, .slice (some ⟨qb2, qo2 * 2, none⟩) (kvs2.length - iq) (qK2 - qo2)), (11, .pointer (some ⟨b11, 0, none⟩)), (10, .pointer (some ⟨b10, 0, none⟩)), (9, .pointer (some ⟨b9, 0, none⟩)), (8, .pointer (some ⟨b8, 0, none⟩)), (7, .pointer (some ⟨b7, 0, none⟩)), (6, .pointer (some ⟨b6, 0, none⟩)), (5, .pointer (some ⟨b5, 0, none⟩))], p.1.2.2, .obj p.1.1 (.cells #[p.1.2.1, .bool (comp ub.2 q0.2).2] 112 (0, 0)) :: .obj m1 (mapO (symKV kvs2)) :: .row (.slice (some ⟨bu, 0, none⟩) us1.length c35) 112 2 us1.length (rowS us1) :: .obj b11 (.cells #[.slice (some ⟨bu, 0, none⟩) us1.length c35] 116 (0, 0)) :: .obj b10 (.cells #[.map (some m1)] 115 (0, 0)) :: .obj b9 (.cells #[ev, .bool false] 112 (0, 0)) :: .obj b8 (.cells #[.bool false] 4 (0, 0)) :: .obj b7 (.cells #[.slice none 0 0] 116 (0, 0)) :: .obj b6 (.cells #[.map none] 115 (0, 0)) :: .obj b5 (.cells #[.int .i64 limit] 3 (0, 0)) :: [.row (.slice (some ⟨qb2, 0, none⟩) (qo2 + (kvs2.length - iq)) qK2) 112 2 (qo2 + (kvs2.length - iq)) ys2]⟩) [[0, 1, 2, 3, 4, 5, 6], [0, 1, 2, 3, 5, 4, 6]] (fun _ => rfl) rfl (by kernel_rfl) ?_ ?_)
     ·intro l hl
      simp only [List.mem_cons, List.not_mem_nil, or_false] at hl
      rcases hl with rfl | rfl
      ·skip
       refine rs rfl (s_ld2 rfl rfl isAgg112 sizeOf112 (.o_ rfl) (.o_ rfl)) ?_
       refine rm rfl ?_
       refine rs rfl (s_ia rfl rfl rfl underlying116 sizeOf112 (by omega) (by omega)) ?_
       refine rs rfl (s_ld2 rfl rfl isAgg112 sizeOf112 (.row 112 2 _ _ _ (by repeat first|exact MH _|apply MT) hy0) (.row 112 2 _ _ _ (by repeat first|exact MH _|apply MT) hy1)) ?_
       refine run_call (vs := [_, _]) rfl rfl rfl rfl rfl rfl en122 (after_fn ub.2 q0.2 _ _ _ hubv hq0v (fun i hi => by have := hq0o.getD_range (i := i) (by rw [← hq0o.1]; exact hi); rw [hubo.1]; exact this)) ?_
       intro v58 h7 ⟨cv, e58, hcv⟩ hh7
       subst e58
       refine run_alloc rfl rfl rfl rfl rfl zeroValue112 rfl fun b17 => ?_
       refine run_st2 rfl rfl rfl rfl rfl rfl (by first | rfl | assumption | exact RdI.one (by assumption)) rfl sizeOf112 (by repeat first|exact Swap.here|apply Swap.there) rfl ?_
       apply run_end
       exact ⟨⟨(b17, cv, h7), hh7, hcv⟩, by repeat (first|exact True.intro|refine And.intro rfl ?_), rfl, _, .refl _, (by repeat (first|exact NS _|exact SR _|apply SCC|apply SC))⟩
      ·skip
       refine rs rfl (s_ld2 rfl rfl isAgg112 sizeOf112 (.o_ rfl) (.o_ rfl)) ?_
       refine rm rfl ?_
       refine rs rfl (s_ia rfl rfl rfl underlying116 sizeOf112 (by omega) (by omega)) ?_
       refine rs rfl (s_ld2 rfl rfl isAgg112 sizeOf112 (.row 112 2 _ _ _ (by repeat first|exact MH _|apply MT) hy0) (.row 112 2 _ _ _ (by repeat first|exact MH _|apply MT) hy1)) ?_
       refine run_alloc rfl rfl rfl rfl rfl zeroValue112 rfl fun b17 => ?_
       refine run_call (vs := [_, _]) rfl rfl rfl rfl rfl rfl en122 (after_fn ub.2 q0.2 _ _ _ hubv hq0v (fun i hi => by have := hq0o.getD_range (i := i) (by rw [← hq0o.1]; exact hi); rw [hubo.1]; exact this)) ?_
       intro v58 h7 ⟨cv, e58, hcv⟩ hh7
       subst e58
       refine run_st2 rfl rfl rfl rfl rfl rfl (by first | rfl | assumption | exact RdI.one (by assumption)) rfl sizeOf112 (by repeat first|exact Swap.here|apply Swap.there) rfl ?_
       apply run_end
       exact ⟨⟨(b17, cv, h7), hh7, hcv⟩, by repeat (first|exact True.intro|refine And.intro rfl ?_), rfl, _, .refl _, (by repeat (first|exact NS _|exact SR _|apply SCC|apply SC))⟩
     rintro ⟨⟨b17, cv, h7⟩, hh7, hcv⟩
     dsimp only at hh7 hcv ⊢
     have hks3 := hks2.mono hh7
     have hco : Ok n (comp ub.2 q0.2) := hubo.comp hq0o
     obtain ⟨cA, cc, ecv, _⟩ := id hcv
     repeat apply wp_seq'
     refine wp_text rfl ?_
     refine rs rfl (s_ld rfl rfl isAgg115 (.o_ rfl)) ?_
     refine rs rfl (s_ld2 rfl rfl isAgg112 sizeOf112 (.o_ rfl) (.o_ rfl)) ?_
     refine run_callK (vs := [_, _]) rfl rfl rfl (dst_lt rfl rfl) rfl rfl en121 (by repeat first|exact Pick.here|apply Pick.there) (has_fn kvs2 _ _ m1 cv _ hks3 hcv) ?_
     intro v61 h8 e61 hh8
     subst e61
     apply run_end
     rw [hasI_iff hn hko2 hco]
     have hinn2 := hinn
     rw [inner_drop hub] at hinn2
     repeat apply wp_seq'
     refine wp_if' rfl (fun hc61 => ?_) (fun hc61 => ?_)
     ·skip
      apply wp_exit'
      rw [if_pos hc61] at hinn2
      refine wp_text rfl ?_
      refine rs rfl (s_add rfl rfl rfl (IntWalk.i64_in _ (by omega))) ?_
      refine rm rfl ?_
      apply run_end
      exact ⟨(h8, kvs2, (qb2, qo2, qK2, ys2), j + 1), ⟨fun b o hb => hh8 _ _ (hh7 _ _ (hh6 _ _ hb)), hks3.mono hh8, hko2, hkl2, hinn2, ⟨t2, ht2⟩, hK2, hys2, hqo2, hj2⟩, by dsimp only; omega, ⟨by repeat (first|exact True.intro|refine And.intro rfl ?_), rfl, by repeat (first|exact NS _|exact SR _|apply SCC|apply SC)⟩⟩
     ·skip
      apply wp_skip'
      rw [if_neg hc61] at hinn2
      repeat apply wp_seq'
      refine wp_text rfl ?_
      refine rs rfl (s_ld rfl rfl isAgg115 (.o_ rfl)) ?_
      refine rs rfl (s_lenm rfl rfl underlying115 (.own (by repeat first|exact MH _|apply MT))) ?_
      refine rs rfl (s_ld rfl rfl isAgg3 (.o_ rfl)) ?_
      refine rs rfl (s_eq rfl rfl rfl) ?_
      apply run_end
      repeat apply wp_seq'
      refine wp_if' rfl (fun hc65 => ?_) (fun hc65 => ?_)
      ·skip
       repeat apply wp_seq'
       refine wp_text rfl ?_
       refine run_st rfl rfl rfl rfl rfl rfl rfl rfl sizeOf115 (by repeat first|exact Swap.here|apply Swap.there) rfl ?_
       refine run_st rfl rfl rfl rfl rfl rfl rfl rfl sizeOf116 (by repeat first|exact Swap.here|apply Swap.there) rfl ?_
       refine run_st rfl rfl rfl rfl rfl rfl rfl rfl sizeOf4 (by repeat first|exact Swap.here|apply Swap.there) rfl ?_
       apply run_end
       apply wp_ret'
       have hcl : closure n limit l = none := by rw [← hclos, ← hbfs, bfs_step hq0 (by omega), ← hinn2, if_pos (by have := hc65; simp only [symKV, List.length_map] at this ⊢; omega)]; rfl
       exact re_ret _ ⟨rfl, hcl, rfl⟩ ⟨_, .refl _, (by repeat (first|exact NS _|exact SR _|apply SCC|apply SC))⟩
      ·skip
       apply wp_skip'
       repeat apply wp_seq'
       refine wp_any [0, 1, 3, 2, 4] rfl (by kernel_rfl) ?_
       refine rs rfl (s_ld rfl rfl isAgg115 (.o_ rfl)) ?_
       refine rs rfl (s_ld2 rfl rfl isAgg112 sizeOf112 (.o_ rfl) (.o_ rfl)) ?_
       refine rs rfl (s_ld2 rfl rfl isAgg112 sizeOf112 (.o_ rfl) (.o_ rfl)) ?_
       refine run_callv (vs := [_]) rfl rfl rfl rfl rfl rfl en123 (key_fn _ _ _ _ (hcv.mono hh8)) ?_
       refine run_mapup1 rfl (.inl rfl) rfl rfl rfl rfl rfl underlying115 underlying9 (by repeat first|exact Swap.here|apply Swap.there) ?_
       apply run_end
       erw [kvPut_sym (a := comp ub.2 q0.2) (by rw [hasI_iff hn hko2 hco]; simpa using hc61)]
       have hc65n : ¬ kvs2.length = limit := by have := hc65; simp only [symKV, List.length_map] at this; omega
       rw [if_neg (by simpa using hc65n)] at hinn2
       have hcv8 := hcv.mono hh8
       repeat apply wp_seq'
       refine wp_text rfl ?_
       refine rm rfl ?_
       refine rs rfl (s_ld2 rfl rfl isAgg112 sizeOf112 (.o_ rfl) (.o_ rfl)) ?_
       refine run_bso (parts := [_]) (vs := [_]) rfl rfl rfl rfl rfl rfl (bs116_r hcv8 _) fun b72 => ?_
       refine run_appQ rfl rfl rfl rfl rfl rfl rfl underlying116 info112 rfl (by decide) (fun b' m' K' ys' => (by repeat first|exact Swap.here|apply Swap.there)) rfl (cell2 (by repeat first|exact MH _|apply MT)) (one2 (RdI.one hcv8) rfl) (by omega) (by omega) fun qb3 qo3 qK3 ys3 hK3 hqo3 hys3 => ?_
       refine rm rfl ?_
       apply run_end
       have e3 : kvs2.length - iq + 1 = (kvs2 ++ [(cv, comp ub.2 q0.2)]).length - iq := by rw [List.length_append, List.length_singleton]; omega
       rw [e3] at hK3
       rw [e3]
       refine wp_text rfl ?_
       refine rs rfl (s_add rfl rfl rfl (IntWalk.i64_in _ (by omega))) ?_
       refine rm rfl ?_
       apply run_end
       refine ⟨(h8, kvs2 ++ [(cv, comp ub.2 q0.2)], (qb3, qo3, qK3, ys3), j + 1), ⟨fun b o hb => hh8 _ _ (hh7 _ _ (hh6 _ _ hb)), ?_, ?_, ?_, ?_, ?_, hK3, ?_, by dsimp only; omega, hj2⟩, by dsimp only; omega, ⟨by repeat (first|exact True.intro|refine And.intro rfl ?_), rfl, by repeat (first|exact NS _|exact SR _|apply SCC|apply SC)⟩⟩
       ·intro p hp; rcases List.mem_append.1 hp with hp | hp; exact (hks3.mono hh8) p hp; rw [List.mem_singleton] at hp; subst hp; exact hcv8
       ·intro p hp; rcases List.mem_append.1 hp with hp | hp; exact hko2 p hp; rw [List.mem_singleton] at hp; subst hp; exact hco
       ·dsimp only; rw [List.length_append, List.length_singleton]; omega
       ·dsimp only; rw [List.map_append]; exact hinn2
       ·exact ⟨t2 ++ [(cv, comp ub.2 q0.2)], by dsimp only; rw [ht2, List.append_assoc]⟩
       ·dsimp only; rw [hys3, hys2, List.drop_append_of_le_length (by omega), rowS_snoc]
    ·skip
     apply wp_exit'
     have hiq22 : iq < kvs2.length := by omega
     have hj3 : j = us1.length := by omega
     subst hj3
     rw [List.drop_eq_nil_of_le (by simp), inner] at hinn
     refine wp_text rfl ?_
     refine rm rfl ?_
     refine rs rfl (s_cut rfl rfl rfl underlying116 sizeOf112 (by omega)) ?_
     refine rm rfl ?_
     apply run_end
     refine ⟨(h6, kvs2, iq + 1, .slice (if qK2 - qo2 = 1 then some ⟨qb2, qo2 * 2, none⟩ else some ⟨qb2, qo2 * 2 + 2, none⟩) (kvs2.length - iq - 1) (qK2 - qo2 - 1), [.row (.slice (some ⟨qb2, 0, none⟩) (qo2 + (kvs2.length - iq)) qK2) 112 2 (qo2 + (kvs2.length - iq)) ys2]), ⟨fun b o hb => hh6 _ _ (hh5 _ _ hb), hks2, hko2, hkl2, ?_, queue_cut hK2 hys2 hqo2 hiq22⟩, by dsimp only; omega, ⟨by repeat (first|exact True.intro|refine And.intro rfl ?_), rfl, by repeat (first|exact NS _|exact SR _|apply SCC|apply SC)⟩⟩
     rw [← hbfs, bfs_step hq0 (by omega), ← hinn, show limit + 1 - (iq + 1) = limit - iq from by omega]
     rfl
   ·skip
    apply wp_exit'
    have hiq3 : ¬ iq < kvs.length := by omega
    rw [bfs_end hiq3 (by omega)] at hbfs
    rw [← hbfs] at hclos
    exact re_normal _ ⟨fun b o hb => hh5 _ _ (hh4 _ _ hb), m1, _, kvs, us1, rfl, hks, hus, hko, huo1, ⟨_, _, rfl⟩, hul1, hclos⟩ ⟨_, (List.Perm.swap _ _ _).trans (.cons _ (.swap _ _ _)), (by repeat (first|exact NS _|exact SR _|apply SCC|apply SC))⟩
 ·skip
  obtain ⟨m, uv, kvs, us, rfl, hks, hus, hko, huo, ⟨uA, uc, rfl⟩, hul, hclos⟩ := hJ
  rw [List.drop_length, clos] at hclos
  repeat apply wp_seq'
  refine (wp_cutL (fun _ : Unit => ⟨[(8, .pointer (some ⟨b8, 0, none⟩)), (7, .pointer (some ⟨b7, 0, none⟩)), (6, .pointer (some ⟨b6, 0, none⟩))], h3, [.row (.slice uA us.length uc) 112 2 us.length (rowS us), .obj m (mapO (symKV kvs)), .obj b8 (.cells #[.bool true] 4 (0, 0)), .obj b7 (.cells #[.slice uA us.length uc] 116 (0, 0)), .obj b6 (.cells #[.map (some m)] 115 (0, 0))]⟩) [[0, 1, 2, 3, 4], [1, 0, 2, 3, 4], [0, 2, 1, 3, 4]] (fun _ => rfl) rfl (by kernel_rfl) ?_ ?_)
  ·intro l hl
   simp only [List.mem_cons, List.not_mem_nil, or_false] at hl
   rcases hl with rfl | rfl | rfl
   ·skip
    refine rs rfl (s_ld rfl rfl isAgg115 (.o_ rfl)) ?_
    refine rs rfl (s_ld rfl rfl isAgg116 (.o_ rfl)) ?_
    refine run_st rfl rfl rfl rfl rfl rfl rfl rfl sizeOf115 (by repeat first|exact Swap.here|apply Swap.there) rfl ?_
    refine run_st rfl rfl rfl rfl rfl rfl rfl rfl sizeOf116 (by repeat first|exact Swap.here|apply Swap.there) rfl ?_
    refine run_st rfl rfl rfl rfl rfl rfl rfl rfl sizeOf4 (by repeat first|exact Swap.here|apply Swap.there) rfl ?_
    apply run_end
    exact ⟨(), by repeat (first|exact True.intro|refine And.intro rfl ?_), rfl, _, .refl _, (by repeat (first|exact NS _|exact SR _|apply SCC|apply SC))⟩
   ·skip
    refine rs rfl (s_ld rfl rfl isAgg116 (.o_ rfl)) ?_
    refine rs rfl (s_ld rfl rfl isAgg115 (.o_ rfl)) ?_
    refine run_st rfl rfl rfl rfl rfl rfl rfl rfl sizeOf115 (by repeat first|exact Swap.here|apply Swap.there) rfl ?_
    refine run_st rfl rfl rfl rfl rfl rfl rfl rfl sizeOf116 (by repeat first|exact Swap.here|apply Swap.there) rfl ?_
    refine run_st rfl rfl rfl rfl rfl rfl rfl rfl sizeOf4 (by repeat first|exact Swap.here|apply Swap.there) rfl ?_
    apply run_end
    exact ⟨(), by repeat (first|exact True.intro|refine And.intro rfl ?_), rfl, _, .refl _, (by repeat (first|exact NS _|exact SR _|apply SCC|apply SC))⟩
   ·skip
    refine rs rfl (s_ld rfl rfl isAgg115 (.o_ rfl)) ?_
    refine run_st rfl rfl rfl rfl rfl rfl rfl rfl sizeOf115 (by repeat first|exact Swap.here|apply Swap.there) rfl ?_
    refine rs rfl (s_ld rfl rfl isAgg116 (.o_ rfl)) ?_
    refine run_st rfl rfl rfl rfl rfl rfl rfl rfl sizeOf116 (by repeat first|exact Swap.here|apply Swap.there) rfl ?_
    refine run_st rfl rfl rfl rfl rfl rfl rfl rfl sizeOf4 (by repeat first|exact Swap.here|apply Swap.there) rfl ?_
    apply run_end
    exact ⟨(), by repeat (first|exact True.intro|refine And.intro rfl ?_), rfl, _, .refl _, (by repeat (first|exact NS _|exact SR _|apply SCC|apply SC))⟩
  intro _
  refine WP.letR us rfl (by repeat first|exact Pick.here|apply Pick.there) (by omega) hus fun h4 hh4 hrd => ?_
  apply wp_ret'
  refine finM_ret [.obj m (mapO (symKV kvs))] (res_ccc rfl rfl rfl rfl isAgg115 isAgg116 isAgg4 (.own _ _ _ (by repeat first|exact MH _|apply MT) rfl) (.own _ _ _ (by repeat first|exact MH _|apply MT) rfl) (.own _ _ _ (by repeat first|exact MH _|apply MT) rfl)) ⟨_, .refl _, (by repeat (first|exact NS _|exact SR _|apply SCC|apply SC))⟩ ?_
  unfold closR
  rw [← hclos]
  exact ⟨m, kvs, _, rfl, rfl, rfl, hks.mono hh4, hrd⟩
 ·skip
  obtain ⟨rfl, hcl, rfl⟩ := hJ
  apply wp_ret'
  refine finM_ret [] (res_ccc rfl rfl rfl rfl isAgg115 isAgg116 isAgg4 (.own _ _ _ (by repeat first|exact MH _|apply MT) rfl) (.own _ _ _ (by repeat first|exact MH _|apply MT) rfl) (.own _ _ _ (by repeat first|exact MH _|apply MT) rfl)) ⟨[], .refl _, List.nil_sublist _⟩ ?_
  unfold closR
  rw [hcl]
  exact ⟨rfl, rfl⟩
end Go.Tal

namespace Go.Proofs
open Go.Shelf
def Tryz.sortS_ren : Go.Shelf.Ren := ⟨fun | 6 => 164 | 15 => 161 | 14 => 214 | 28 => 212 | 29 => 213 | 20 => 251 | 21 => 252 | 22 => 253 | 23 => 254 | 24 => 255 | 25 => 256 | 26 => 257 | 27 => 258 | 46 => 282 | 47 => 246 | 48 => 247 | 49 => 283 | 50 => 284 | 57 => 297 | n => n, fun | 22 => 116 | 24 => 112 | 25 => 181 | 3 => 3 | 39 => 176 | 0 => 0 | 53 => 223 | 55 => 225 | 4 => 4 | 46 => 216 | 45 => 215 | 50 => 132 | 5 => 5 | 9 => 9 | 66 => 252 | 70 => 256 | 76 => 276 | 77 => 210 | n => n, fun | n => n⟩
theorem Tryz.sortS : Go.Proofs.SlLaysF0.n6 Tryz.prog Tryz.sortS_ren := {
 mixed := by kernel_rfl
 f6 := ⟨Tryz.f164.name, by decide, Tryz.func164.trans (congrArg some (by kernel_rfl))⟩
 f14 := ⟨Tryz.f214.name, by decide, Tryz.func214.trans (congrArg some (by kernel_rfl))⟩
 f15 := Tryz.func161.trans (congrArg some (by kernel_rfl))
 f20 := ⟨Tryz.f251.name, by decide, Tryz.func251.trans (congrArg some (by kernel_rfl))⟩
 f21 := ⟨Tryz.f252.name, by decide, Tryz.func252.trans (congrArg some (by kernel_rfl))⟩
 f22 := ⟨Tryz.f253.name, by decide, Tryz.func253.trans (congrArg some (by kernel_rfl))⟩
 f23 := ⟨Tryz.f254.name, by decide, Tryz.func254.trans (congrArg some (by kernel_rfl))⟩
 f24 := ⟨Tryz.f255.name, by decide, Tryz.func255.trans (congrArg some (by kernel_rfl))⟩
 f25 := ⟨Tryz.f256.name, by decide, Tryz.func256.trans (congrArg some (by kernel_rfl))⟩
 f26 := ⟨Tryz.f257.name, by decide, Tryz.func257.trans (congrArg some (by kernel_rfl))⟩
 f27 := ⟨Tryz.f258.name, by decide, Tryz.func258.trans (congrArg some (by kernel_rfl))⟩
 f28 := Tryz.func212.trans (congrArg some (by kernel_rfl))
 f29 := Tryz.func213.trans (congrArg some (by kernel_rfl))
 f46 := ⟨Tryz.f282.name, by decide, Tryz.func282.trans (congrArg some (by kernel_rfl))⟩
 f47 := Tryz.func246.trans (congrArg some (by kernel_rfl))
 f48 := Tryz.func247.trans (congrArg some (by kernel_rfl))
 f49 := ⟨Tryz.f283.name, by decide, Tryz.func283.trans (congrArg some (by kernel_rfl))⟩
 f50 := ⟨Tryz.f284.name, by decide, Tryz.func284.trans (congrArg some (by kernel_rfl))⟩
 f57 := ⟨Tryz.f297.name, by decide, Tryz.func297.trans (congrArg some (by kernel_rfl))⟩
 t0 := Tryz.underlying0
 a0 := Tryz.isAgg0
 z0 := Tryz.sizeOf0
 v0 := Tryz.zeroValue0
 t3 := Tryz.underlying3
 a3 := Tryz.isAgg3
 z3 := Tryz.sizeOf3
 v3 := Tryz.zeroValue3
 t4 := Tryz.underlying4
 a4 := Tryz.isAgg4
 z4 := Tryz.sizeOf4
 v4 := Tryz.zeroValue4
 t5 := Tryz.underlying5
 a5 := Tryz.isAgg5
 z5 := Tryz.sizeOf5
 v5 := Tryz.zeroValue5
 t9 := Tryz.underlying9
 a9 := Tryz.isAgg9
 z9 := Tryz.sizeOf9
 v9 := Tryz.zeroValue9
 t22 := Tryz.underlying116
 a22 := Tryz.isAgg116
 z22 := Tryz.sizeOf116
 v22 := Tryz.zeroValue116
 t25 := Tryz.underlying181
 a25 := Tryz.isAgg181
 z25 := Tryz.sizeOf181
 v25 := Tryz.zeroValue181
 t39 := Tryz.underlying176
 a39 := Tryz.isAgg176
 z39 := Tryz.sizeOf176
 v39 := Tryz.zeroValue176
 t45 := Tryz.underlying215
 a45 := Tryz.isAgg215
 z45 := Tryz.sizeOf215
 v45 := Tryz.zeroValue215
 t46 := Tryz.underlying216
 a46 := Tryz.isAgg216
 z46 := Tryz.sizeOf216
 v46 := Tryz.zeroValue216
 t50 := Tryz.underlying132
 a50 := Tryz.isAgg132
 z50 := Tryz.sizeOf132
 v50 := Tryz.zeroValue132
 t53 := Tryz.underlying223
 a53 := Tryz.isAgg223
 z53 := Tryz.sizeOf223
 v53 := Tryz.zeroValue223
 t55 := Tryz.underlying225
 a55 := Tryz.isAgg225
 z55 := Tryz.sizeOf225
 v55 := Tryz.zeroValue225
 t66 := Tryz.underlying252
 a66 := Tryz.isAgg252
 z66 := Tryz.sizeOf252
 v66 := Tryz.zeroValue252
 t70 := Tryz.underlying256
 a70 := Tryz.isAgg256
 z70 := Tryz.sizeOf256
 v70 := Tryz.zeroValue256
 t76 := Tryz.underlying276
 a76 := Tryz.isAgg276
 z76 := Tryz.sizeOf276
 v76 := Tryz.zeroValue276
 t77 := Tryz.underlying210
 a77 := Tryz.isAgg210
 z77 := Tryz.sizeOf210
 v77 := Tryz.zeroValue210 }
def Tryz.sortL_ren : Go.Shelf.Ren := ⟨fun | 6 => 200 | 15 => 161 | 14 => 243 | 28 => 212 | 29 => 213 | 20 => 273 | 21 => 274 | 22 => 275 | 23 => 276 | 24 => 277 | 25 => 278 | 26 => 279 | 27 => 280 | 46 => 294 | 47 => 246 | 48 => 247 | 49 => 295 | 50 => 296 | 57 => 303 | n => n, fun | 22 => 26 | 24 => 35 | 25 => 212 | 3 => 3 | 39 => 176 | 0 => 0 | 53 => 223 | 55 => 225 | 4 => 4 | 46 => 216 | 45 => 215 | 50 => 132 | 5 => 5 | 9 => 9 | 66 => 252 | 70 => 256 | 76 => 276 | 77 => 210 | n => n, fun | n => n⟩
theorem Tryz.sortL : Go.Proofs.SlLaysF.n6 Tryz.prog Tryz.sortL_ren := {
 mixed := by kernel_rfl
 f6 := ⟨Tryz.f200.name, by decide, Tryz.func200.trans (congrArg some (by kernel_rfl))⟩
 f14 := ⟨Tryz.f243.name, by decide, Tryz.func243.trans (congrArg some (by kernel_rfl))⟩
 f15 := Tryz.func161.trans (congrArg some (by kernel_rfl))
 f20 := ⟨Tryz.f273.name, by decide, Tryz.func273.trans (congrArg some (by kernel_rfl))⟩
 f21 := ⟨Tryz.f274.name, by decide, Tryz.func274.trans (congrArg some (by kernel_rfl))⟩
 f22 := ⟨Tryz.f275.name, by decide, Tryz.func275.trans (congrArg some (by kernel_rfl))⟩
 f23 := ⟨Tryz.f276.name, by decide, Tryz.func276.trans (congrArg some (by kernel_rfl))⟩
 f24 := ⟨Tryz.f277.name, by decide, Tryz.func277.trans (congrArg some (by kernel_rfl))⟩
 f25 := ⟨Tryz.f278.name, by decide, Tryz.func278.trans (congrArg some (by kernel_rfl))⟩
 f26 := ⟨Tryz.f279.name, by decide, Tryz.func279.trans (congrArg some (by kernel_rfl))⟩
 f27 := ⟨Tryz.f280.name, by decide, Tryz.func280.trans (congrArg some (by kernel_rfl))⟩
 f28 := Tryz.func212.trans (congrArg some (by kernel_rfl))
 f29 := Tryz.func213.trans (congrArg some (by kernel_rfl))
 f46 := ⟨Tryz.f294.name, by decide, Tryz.func294.trans (congrArg some (by kernel_rfl))⟩
 f47 := Tryz.func246.trans (congrArg some (by kernel_rfl))
 f48 := Tryz.func247.trans (congrArg some (by kernel_rfl))
 f49 := ⟨Tryz.f295.name, by decide, Tryz.func295.trans (congrArg some (by kernel_rfl))⟩
 f50 := ⟨Tryz.f296.name, by decide, Tryz.func296.trans (congrArg some (by kernel_rfl))⟩
 f57 := ⟨Tryz.f303.name, by decide, Tryz.func303.trans (congrArg some (by kernel_rfl))⟩
 t0 := Tryz.underlying0
 a0 := Tryz.isAgg0
 z0 := Tryz.sizeOf0
 v0 := Tryz.zeroValue0
 t3 := Tryz.underlying3
 a3 := Tryz.isAgg3
 z3 := Tryz.sizeOf3
 v3 := Tryz.zeroValue3
 t4 := Tryz.underlying4
 a4 := Tryz.isAgg4
 z4 := Tryz.sizeOf4
 v4 := Tryz.zeroValue4
 t5 := Tryz.underlying5
 a5 := Tryz.isAgg5
 z5 := Tryz.sizeOf5
 v5 := Tryz.zeroValue5
 t9 := Tryz.underlying9
 a9 := Tryz.isAgg9
 z9 := Tryz.sizeOf9
 v9 := Tryz.zeroValue9
 t22 := Tryz.underlying26
 a22 := Tryz.isAgg26
 z22 := Tryz.sizeOf26
 v22 := Tryz.zeroValue26
 a24 := Tryz.isAgg35
 z24 := Tryz.sizeOf35
 t25 := Tryz.underlying212
 a25 := Tryz.isAgg212
 z25 := Tryz.sizeOf212
 v25 := Tryz.zeroValue212
 t39 := Tryz.underlying176
 a39 := Tryz.isAgg176
 z39 := Tryz.sizeOf176
 v39 := Tryz.zeroValue176
 t45 := Tryz.underlying215
 a45 := Tryz.isAgg215
 z45 := Tryz.sizeOf215
 v45 := Tryz.zeroValue215
 t46 := Tryz.underlying216
 a46 := Tryz.isAgg216
 z46 := Tryz.sizeOf216
 v46 := Tryz.zeroValue216
 t50 := Tryz.underlying132
 a50 := Tryz.isAgg132
 z50 := Tryz.sizeOf132
 v50 := Tryz.zeroValue132
 t53 := Tryz.underlying223
 a53 := Tryz.isAgg223
 z53 := Tryz.sizeOf223
 v53 := Tryz.zeroValue223
 t55 := Tryz.underlying225
 a55 := Tryz.isAgg225
 z55 := Tryz.sizeOf225
 v55 := Tryz.zeroValue225
 t66 := Tryz.underlying252
 a66 := Tryz.isAgg252
 z66 := Tryz.sizeOf252
 v66 := Tryz.zeroValue252
 t70 := Tryz.underlying256
 a70 := Tryz.isAgg256
 z70 := Tryz.sizeOf256
 v70 := Tryz.zeroValue256
 t76 := Tryz.underlying276
 a76 := Tryz.isAgg276
 z76 := Tryz.sizeOf276
 v76 := Tryz.zeroValue276
 t77 := Tryz.underlying210
 a77 := Tryz.isAgg210
 z77 := Tryz.sizeOf210
 v77 := Tryz.zeroValue210 }
def Tryz.sortI_ren : Go.Shelf.Ren := ⟨fun | 189 => 91 | 125 => 161 | 257 => 160 | 128 => 212 | 129 => 213 | 294 => 203 | 295 => 204 | 296 => 205 | 297 => 206 | 298 => 207 | 299 => 208 | 216 => 209 | 300 => 210 | 301 => 211 | 328 => 245 | 329 => 246 | 330 => 247 | 331 => 248 | 332 => 249 | 215 => 250 | 343 => 281 | n => n, fun | 28 => 35 | 3 => 3 | 46 => 176 | 0 => 0 | 51 => 223 | 53 => 225 | 4 => 4 | 183 => 216 | 182 => 215 | 131 => 132 | 5 => 5 | 9 => 9 | 218 => 252 | 222 => 256 | 228 => 276 | 229 => 210 | n => n, fun | n => n⟩
theorem Tryz.sortI : Go.Proofs.Lays.n189 Tryz.prog Tryz.sortI_ren := {
 mixed := by kernel_rfl
 f125 := Tryz.func161.trans (congrArg some (by kernel_rfl))
 f128 := Tryz.func212.trans (congrArg some (by kernel_rfl))
 f129 := Tryz.func213.trans (congrArg some (by kernel_rfl))
 f189 := Tryz.func91.trans (congrArg some (by kernel_rfl))
 f215 := Tryz.func250.trans (congrArg some (by kernel_rfl))
 f216 := Tryz.func209.trans (congrArg some (by kernel_rfl))
 f257 := Tryz.func160.trans (congrArg some (by kernel_rfl))
 f294 := Tryz.func203.trans (congrArg some (by kernel_rfl))
 f295 := Tryz.func204.trans (congrArg some (by kernel_rfl))
 f296 := Tryz.func205.trans (congrArg some (by kernel_rfl))
 f297 := Tryz.func206.trans (congrArg some (by kernel_rfl))
 f298 := Tryz.func207.trans (congrArg some (by kernel_rfl))
 f299 := Tryz.func208.trans (congrArg some (by kernel_rfl))
 f300 := Tryz.func210.trans (congrArg some (by kernel_rfl))
 f301 := Tryz.func211.trans (congrArg some (by kernel_rfl))
 f328 := Tryz.func245.trans (congrArg some (by kernel_rfl))
 f329 := Tryz.func246.trans (congrArg some (by kernel_rfl))
 f330 := Tryz.func247.trans (congrArg some (by kernel_rfl))
 f331 := Tryz.func248.trans (congrArg some (by kernel_rfl))
 f332 := Tryz.func249.trans (congrArg some (by kernel_rfl))
 f343 := Tryz.func281.trans (congrArg some (by kernel_rfl))
 t0 := Tryz.underlying0
 a0 := Tryz.isAgg0
 z0 := Tryz.sizeOf0
 v0 := Tryz.zeroValue0
 t3 := Tryz.underlying3
 a3 := Tryz.isAgg3
 z3 := Tryz.sizeOf3
 v3 := Tryz.zeroValue3
 t4 := Tryz.underlying4
 a4 := Tryz.isAgg4
 z4 := Tryz.sizeOf4
 v4 := Tryz.zeroValue4
 t5 := Tryz.underlying5
 a5 := Tryz.isAgg5
 z5 := Tryz.sizeOf5
 v5 := Tryz.zeroValue5
 t9 := Tryz.underlying9
 a9 := Tryz.isAgg9
 z9 := Tryz.sizeOf9
 v9 := Tryz.zeroValue9
 t28 := Tryz.underlying35
 a28 := Tryz.isAgg35
 z28 := Tryz.sizeOf35
 v28 := Tryz.zeroValue35
 t46 := Tryz.underlying176
 a46 := Tryz.isAgg176
 z46 := Tryz.sizeOf176
 v46 := Tryz.zeroValue176
 t51 := Tryz.underlying223
 a51 := Tryz.isAgg223
 z51 := Tryz.sizeOf223
 v51 := Tryz.zeroValue223
 t53 := Tryz.underlying225
 a53 := Tryz.isAgg225
 z53 := Tryz.sizeOf225
 v53 := Tryz.zeroValue225
 t131 := Tryz.underlying132
 a131 := Tryz.isAgg132
 z131 := Tryz.sizeOf132
 v131 := Tryz.zeroValue132
 t182 := Tryz.underlying215
 a182 := Tryz.isAgg215
 z182 := Tryz.sizeOf215
 v182 := Tryz.zeroValue215
 t183 := Tryz.underlying216
 a183 := Tryz.isAgg216
 z183 := Tryz.sizeOf216
 v183 := Tryz.zeroValue216
 t218 := Tryz.underlying252
 a218 := Tryz.isAgg252
 z218 := Tryz.sizeOf252
 v218 := Tryz.zeroValue252
 t222 := Tryz.underlying256
 a222 := Tryz.isAgg256
 z222 := Tryz.sizeOf256
 v222 := Tryz.zeroValue256
 t228 := Tryz.underlying276
 a228 := Tryz.isAgg276
 z228 := Tryz.sizeOf276
 v228 := Tryz.zeroValue276
 t229 := Tryz.underlying210
 a229 := Tryz.isAgg210
 z229 := Tryz.sizeOf210
 v229 := Tryz.zeroValue210 }
def Tryz.cloneI_ren : Go.Shelf.Ren := ⟨fun | 15 => 106 | n => n, fun | 22 => 35 | 3 => 3 | 4 => 4 | n => n, fun | n => n⟩
theorem Tryz.cloneI : Go.Proofs.Lays2.n15 Tryz.prog Tryz.cloneI_ren := {
 mixed := by kernel_rfl
 f15 := Tryz.func106.trans (congrArg some (by kernel_rfl))
 t3 := Tryz.underlying3
 a3 := Tryz.isAgg3
 z3 := Tryz.sizeOf3
 v3 := Tryz.zeroValue3
 t4 := Tryz.underlying4
 a4 := Tryz.isAgg4
 z4 := Tryz.sizeOf4
 v4 := Tryz.zeroValue4
 t22 := Tryz.underlying35
 a22 := Tryz.isAgg35
 z22 := Tryz.sizeOf35
 v22 := Tryz.zeroValue35
 i3 := by kernel_rfl }
end Go.Proofs

namespace Go.Tal
open Go.RowKit Go.Proofs Go.Proofs.Tryz _root_.Tal
theorem ltOf_sym (x y : Sy) : Go.Proofs.ltOf symCmp x y = symLt x y := rfl
theorem swo_sym {α : Type} (f : α → Sy) : Go.Sort.SWO (Go.Proofs.ltOf fun x y : α => symCmp (f x) (f y)) where
 irrefl x := sLin_sym.irrefl (f x)
 trans x y z h1 h2 := sLin_sym.trans h1 h2
 ntrans x y z h1 h2 := by
  change symLt (f x) (f y) = false at h1
  change symLt (f y) (f z) = false at h2
  change symLt (f x) (f z) = false
  cases h3 : symLt (f x) (f z) with
  | false => rfl
  | true =>
   cases h4 : symLt (f y) (f x) with
   | true => rw [sLin_sym.trans h4 h3] at h2; cases h2
   | false => rw [sLin_sym.total h1 h4, h2] at h3; cases h3
theorem asc_of {α : Type} {lt : α → α → Bool} (h : SLin lt) {l : List α} (hs : l.Pairwise fun x y => lt y x = false) (hn : l.Nodup) : Asc lt l := by
 refine (hs.and hn).imp ?_
 rintro a b ⟨h1, h2⟩
 cases h3 : lt a b with
 | true => rfl
 | false => exact absurd (h.total h3 h1) h2
theorem sorted_perm {α : Type} {lt : α → α → Bool} (h : SLin lt) {l l' : List α} (hp : l'.Perm l) (hs : l'.Pairwise fun x y => lt y x = false) (hn : l.Nodup) : l' = sorted lt l :=
 Asc.ext h (asc_of h hs (hp.nodup_iff.2 hn)) (asc_sorted h l) fun x => by rw [_root_.Tal.mem_sorted h, hp.mem_iff]
instance {h : H} : Inhabited {p : Value × Sy // RdI h p.1 p.2.1} := ⟨⟨(.slice none 0 0, ([], false)), RdI.nil h 0⟩⟩
/-- slices.SortFunc over a row of symmetries. -/
theorem sortS_fn (us : List (Value × Sy)) (h : H) (b n cap : Nat) (hus : SetOk h us) (hn : us.length = n) (hm : n ≤ 4294967296) : FnM Tryz.prog 164 #[.slice (some ⟨b, 0, none⟩) n cap, .func (.func 162) #[] #[]] h [.row (.slice (some ⟨b, 0, none⟩) n cap) 112 2 n (rowS us)] fun v h' L' => v = .tuple #[] ∧ h' = h ∧ ∃ us', us'.Perm us ∧ us'.Pairwise (fun x y => symLt y.2 x.2 = false) ∧ L' = [.row (.slice (some ⟨b, 0, none⟩) n cap) 112 2 n (rowS us')] := by
 have hus' : ∀ p ∈ us, RdI h p.1 p.2.1 := hus
 have hv : (us.attachWith (fun p => RdI h p.1 p.2.1) hus').map Subtype.val = us := List.attachWith_map_subtype_val _
 have hr : ∀ d : List {p : Value × Sy // RdI h p.1 p.2.1}, rowS (d.map Subtype.val) = d.flatMap fun x => [x.1.1, .bool x.1.2.2] := fun d => by rw [rowS, List.flatMap_map]
 have h1 := sortK_fn (ρ := Tryz.sortS_ren) (P := Tryz.prog) (h := h) (e := 112) (n := n) (cap := cap) (b := b) Tryz.sortS 2 isAgg112 sizeOf112 (fun x : {p : Value × Sy // RdI h p.1 p.2.1} => [x.1.1, .bool x.1.2.2]) (fun _ => rfl) (fun x v hv => by
  simp only [List.mem_cons, List.not_mem_nil, or_false] at hv
  rcases hv with rfl | rfl
  ·exact x.2.one
  ·rfl) (fun x y => symCmp x.1.2 y.1.2) (swo_sym fun x : {p : Value × Sy // RdI h p.1 p.2.1} => x.1.2) 162 #[] (us.attachWith (fun p => RdI h p.1 p.2.1) hus') en162 (fun x y => symCmp_fn x.1.2.1 y.1.2.1 x.1.2.2 y.1.2.2 x.1.1 y.1.1 h x.2 y.2) (by rw [List.length_attachWith]; exact hn) (by omega)
 rw [← hr, hv] at h1
 intro w hs
 refine (h1 w hs).mono fun e w' ⟨v, h', L', he, ⟨e1, e2, d', hp, hso, eL⟩, hm'⟩ => ⟨v, h', L', he, ⟨e1, e2, d'.map Subtype.val, ?_, ?_, ?_⟩, hm'⟩
 ·have := hp.map Subtype.val
  rw [hv] at this
  exact this
 ·rw [List.pairwise_map]
  exact hso
 ·rw [eL, hr]
theorem sortSv_fn (us : List (Value × Sy)) (h : H) (v : Value) (n : Nat) (hus : SetOk h us) (hn : us.length = n) (hm : n ≤ 4294967296) : FnM Tryz.prog 164 #[v, .func (.func 162) #[] #[]] h [.row v 112 2 n (rowS us)] fun r h' L' => r = .tuple #[] ∧ h' = h ∧ ∃ us', us'.Perm us ∧ us'.Pairwise (fun x y => symLt y.2 x.2 = false) ∧ L' = [.row v 112 2 n (rowS us')] := by
 intro w hs
 have hr : w.ownsRow 0 112 2 v n (rowS us) := hs.own _ List.mem_cons_self
 rcases hr.2 with ⟨h1, h2⟩ | ⟨g, cap, cur, h1, _⟩
 ·subst h1
  subst h2
  have : us = [] := List.eq_nil_of_length_eq_zero hn
  subst this
  exact (AnyF.slices_SortFunc_none (P := Tryz.prog) (ρ := Tryz.sortS_ren) Tryz.sortS none 0 (.func (.func 162) #[] #[]) w).mono fun e w' ⟨he, hw⟩ => ⟨.tuple #[], h, _, he, ⟨rfl, rfl, [], .refl _, List.Pairwise.nil, rfl⟩, by rw [hw]; exact ⟨hs, fun _ hx _ hb => .inr (blk_mem hx hb), fun _ _ => rfl, ⟨rfl, rfl, rfl, Nat.le_refl _, Nat.le_refl _, fun _ _ _ => rfl⟩⟩⟩
 ·subst h1
  exact sortS_fn us h g n cap hus hn hm w hs
def pickS (kvs : List (Value × Sy)) (j : Nat) : Value × Sy := kvs.getD j (.slice none 0 0, ([], false))
theorem pick_range (kvs : List (Value × Sy)) : (List.range kvs.length).map (pickS kvs) = kvs := by
 apply List.ext_getElem
 ·simp
 ·intro j h1 h2
  simp [pickS, List.getD_eq_getElem?_getD, h2]
theorem pick_perm {kvs : List (Value × Sy)} {ord : List Nat} (hn : ord.Nodup) (hlt : ∀ j ∈ ord, j < kvs.length) (hall : ∀ j, j < kvs.length → j ∈ ord) : (ord.map (pickS kvs)).Perm kvs := by
 have : ord.Perm (List.range kvs.length) := (List.perm_ext_iff_of_nodup hn List.nodup_range).2 fun j => ⟨fun hj => List.mem_range.2 (hlt j hj), fun hj => hall j (List.mem_range.1 hj)⟩
 have h2 := this.map (pickS kvs)
 rw [pick_range] at h2
 exact h2
theorem pick_ok {h : H} {kvs : List (Value × Sy)} {ord : List Nat} (hk : SetOk h kvs) (hlt : ∀ j ∈ ord, j < kvs.length) : SetOk h (ord.map (pickS kvs)) := fun p hp => by
 obtain ⟨j, hj, rfl⟩ := List.mem_map.1 hp
 have := hlt j hj
 exact hk _ (by simp [pickS, List.getD_eq_getElem?_getD, this])
theorem symKV_get {kvs : List (Value × Sy)} {j : Nat} {q : ByteArray × Value} (h : (symKV kvs)[j]? = some q) : j < kvs.length ∧ q = symE (pickS kvs j) := by
 rw [symKV, List.getElem?_map] at h
 obtain ⟨p, hp, rfl⟩ := Option.map_eq_some_iff.1 h
 refine ⟨(List.getElem?_eq_some_iff.1 hp).1, ?_⟩
 simp [pickS, List.getD_eq_getElem?_getD, hp]
theorem info37 : (Tryz.prog.info? 37).map (fun i => (i.zero, i.size, i.bytes)) = some (some (.agg #[.slice none 0 0, .bool false]), 2, 32) := by kernel_rfl
theorem bs22_1 (A : Option Addr) (n c : Nat) (b : Bool) : ∀ w, (Instr.buildSlice 22 1 #[(0, .agg #[.slice A n c, .bool b])]).run Tryz.prog w = .ok (.slice (some ⟨w.heap.size, 0, none⟩) 1 1) (w.alloc (.cells #[.slice A n c, .bool b] 37)) := fun _ => by kernel_rfl
theorem bs22_r {h : H} {sv : Value} {l : List Int} (r : RdI h sv l) (b : Bool) : ∀ w, (Instr.buildSlice 22 1 #[(0, .agg #[sv, .bool b])]).run Tryz.prog w = .ok (.slice (some ⟨w.heap.size, 0, none⟩) 1 1) (w.alloc (.cells #[sv, .bool b] 37)) := by
 obtain ⟨A, c, rfl, _⟩ := r
 exact bs22_1 _ _ _ _
set_option maxRecDepth 8000 in
set_option maxHeartbeats 4000000 in
theorem glist_fn (kvs : List (Value × Sy)) (m : Nat) (h : H) (hm : h m = some (mapO (symKV kvs))) (hk : SetOk h kvs) (hmax : kvs.length ≤ 4294967296) (hnd : (kvs.map (·.2)).Nodup) : Fn Tryz.prog 99 #[.map (some m)] h fun v h' => RdS h' v (sorted symLt (kvs.map (·.2))) := by
 have hkl : (symKV kvs).length = kvs.length := by rw [symKV, List.length_map]
 refine fn_of (vs := [.map (some m)]) func99 rfl ntmps99 (Nat.le_of_ble_eq_true rfl) fun w hw => ?_
 repeat apply wp_seq'
 refine wp_text rfl ?_
 refine rm rfl ?_
 apply run_end
 repeat apply wp_seq'
 refine wp_text rfl ?_
 refine rm rfl ?_
 apply run_end
 repeat apply wp_seq'
 refine wp_text rfl ?_
 refine rm rfl ?_
 refine run_rangem rfl rfl rfl rfl rfl rfl underlying115 (.imm hm) fun bI => ?_
 apply run_end
 repeat apply wp_seq'
 apply wp_block'
 refine WP.nilrow 112 2 ?_
 refine wp_loop' (ι := List Nat × Value) (fun x => x.1.Nodup ∧ (∀ j ∈ x.1, j < kvs.length) ∧ ∃ A c, x.2 = .slice A x.1.length c) (fun x => ⟨[(10, .pointer (some ⟨bI, 0, none⟩)), (3, x.2)], h, [.row x.2 112 2 x.1.length (rowS (x.1.map (pickS kvs))), .obj bI (iterO m (symKV kvs).length x.1)]⟩) (fun x => kvs.length - x.1.length) ([], .slice none 0 0) ⟨List.nodup_nil, fun _ hj => (by cases hj), none, 0, rfl⟩ ⟨by repeat (first|exact True.intro|refine And.intro rfl ?_), rfl, by repeat (first|exact NS _|exact SR _|apply SCC|apply SC)⟩ fun x hx => ?_
 obtain ⟨ord, lv⟩ := x
 obtain ⟨hon, hlt, lA, lc, elv⟩ := hx
 dsimp only at hon hlt elv ⊢
 subst elv
 have hol : ord.length ≤ kvs.length := by have := nodup_sub_len hon (ys := List.range kvs.length) (fun j hj => List.mem_range.2 (hlt j hj)); rwa [List.length_range] at this
 repeat apply wp_seq'
 refine wp_text rfl ?_
 refine run_nextm (seen := ord) rfl rfl rfl rfl rfl rfl (.imm hm) (by repeat first|exact MH _|apply MT) (fun j => (by repeat first|exact Swap.here|apply Swap.there)) (fun hall => ?_) fun j q hj hjn => ?_
 ·skip
  refine rs rfl (s_extract rfl rfl rfl) ?_
  apply run_end
  repeat apply wp_seq'
  refine wp_cond' (b := false) rfl (fun h => by cases h) (fun _ => ?_)
  apply wp_exit'
  have hperm := pick_perm hon hlt (fun j hj => hall j (by rw [hkl]; exact hj))
  have hus := pick_ok hk hlt
  have hlen : (ord.map (pickS kvs)).length = kvs.length := hperm.length_eq
  rw [show ord.length = kvs.length from by rw [← hlen, List.length_map]]
  generalize ord.map (pickS kvs) = us at hperm hus hlen
  repeat apply wp_seq'
  refine wp_text rfl ?_
  refine rm rfl ?_
  refine run_callM (L := [_]) (M := [_]) (vs := [_, _]) rfl rfl rfl (dst_lt rfl rfl) rfl rfl en164 (List.Perm.refl _) (sortSv_fn us h _ kvs.length hus hlen hmax) ?_
  rintro _ h20 _ ⟨rfl, e20, us2, hp2, hs2, rfl⟩ _
  have e21 := e20.symm
  subst e21
  apply run_end
  have hus2 : SetOk h us2 := fun p hp => hus p (hp2.mem_iff.1 hp)
  have hlen2 : us2.length = kvs.length := by rw [hp2.length_eq, hlen]
  repeat apply wp_seq'
  refine wp_text rfl ?_
  refine rm rfl ?_
  apply run_end
  repeat apply wp_seq'
  refine wp_text rfl ?_
  refine rm rfl ?_
  refine rs rfl (s_len rfl rfl underlying116) ?_
  refine rm rfl ?_
  apply run_end
  repeat apply wp_seq'
  apply wp_block'
  refine WP.nilrow 37 2 ?_
  refine wp_loop' (ι := Nat × Value) (fun x => x.1 ≤ kvs.length ∧ ∃ A c, x.2 = .slice A x.1 c) (fun x => ⟨[(23, .int .i64 x.1), (22, .int .i64 kvs.length), (21, .slice lA kvs.length lc), (6, x.2)], h, [.row x.2 37 2 x.1 (rowS (us2.take x.1)), .row (.slice lA kvs.length lc) 112 2 kvs.length (rowS us2)]⟩) (fun x => kvs.length - x.1) (0, .slice none 0 0) ⟨Nat.zero_le _, none, 0, rfl⟩ ⟨by repeat (first|exact True.intro|refine And.intro rfl ?_), rfl, by repeat (first|exact NS _|exact SR _|apply SCC|apply SC)⟩ fun x hx => ?_
  obtain ⟨i, ov⟩ := x
  obtain ⟨hi, oA, oc, eov⟩ := hx
  dsimp only at hi eov ⊢
  subst eov
  repeat apply wp_seq'
  refine wp_text rfl ?_
  refine rs rfl (s_lt rfl rfl rfl) ?_
  apply run_end
  repeat apply wp_seq'
  refine wp_if' rfl (fun hc24 => ?_) (fun hc24 => ?_)
  ·skip
   apply wp_skip'
   have hi2 : i < us2.length := by omega
   obtain ⟨p, hp⟩ : ∃ p, us2[i]? = some p := ⟨_, List.getElem?_eq_getElem hi2⟩
   obtain ⟨hr0, hr1⟩ := rowS_get hp
   have hpv := hus2 p (List.mem_of_getElem? hp)
   refine WP.rowAt (v := .slice lA kvs.length lc) (n := kvs.length) (xs := rowS us2) (e := 112) (sz := 2) (by repeat first|exact Pick.here|apply Pick.there) (by omega) (fun hrow _ => ?_)
   obtain ⟨bu, cu, eu, hcu⟩ := hrow
   cases eu
   repeat apply wp_seq'
   apply wp_block'
   repeat apply wp_seq'
   refine wp_text rfl ?_
   refine rs rfl (s_iaR rfl (by omega) (by omega) rfl rfl rfl underlying116 sizeOf112) ?_
   refine rs rfl (s_ldrow2 rfl (by repeat first|exact MH _|apply MT) (by omega) hr0 hr1 rfl rfl isAgg112 sizeOf112) ?_
   refine run_alloc rfl rfl rfl rfl rfl zeroValue112 rfl fun b8 => ?_
   refine run_st2 rfl rfl rfl rfl rfl rfl (by first | rfl | assumption | exact RdI.one (by assumption)) rfl sizeOf112 (by repeat first|exact Swap.here|apply Swap.there) rfl ?_
   apply run_end
   repeat apply wp_seq'
   refine wp_text rfl ?_
   refine rm rfl ?_
   refine rs rfl (s_ld2 rfl rfl isAgg112 sizeOf112 (.o_ rfl) (.o_ rfl)) ?_
   refine run_bso (parts := [_]) (vs := [_]) rfl rfl rfl rfl rfl rfl (bs22_r hpv _) fun b29 => ?_
   refine run_app2 (fun p : Value × Sy => p.1) (fun p : Value × Sy => .bool p.2.2) p (xs := us2.take i) rfl rfl rfl rfl rfl rfl rfl underlying22 info37 rfl (fun v' => (by repeat first|exact Swap.here|apply Swap.there)) (by repeat first|exact MH _|apply MT) (RdI.one hpv) rfl (by omega) (by decide) fun v30 hv30 => ?_
   obtain ⟨A30, c30, rfl⟩ := hv30
   refine rm rfl ?_
   apply run_end
   refine wp_text rfl ?_
   refine rs rfl (s_add rfl rfl rfl (IntWalk.i64_in _ (by omega))) ?_
   refine rm rfl ?_
   apply run_end
   refine ⟨(i + 1, .slice A30 (i + 1) c30), ⟨by dsimp only; omega, _, _, rfl⟩, by dsimp only; omega, by repeat (first|exact True.intro|refine And.intro rfl ?_), rfl, ?_⟩
   dsimp only
   rw [show us2.take (i + 1) = us2.take i ++ [p] from by rw [List.take_add_one, hp]; rfl]
   exact by repeat (first|exact NS _|exact SR _|apply SCC|apply SC)
  ·skip
   apply wp_exit'
   obtain rfl : i = kvs.length := by omega
   rw [List.take_of_length_le (by omega)]
   repeat apply wp_seq'
   refine wp_text rfl ?_
   refine rm rfl ?_
   refine rm rfl ?_
   apply run_end
   refine WP.letR us2 rfl (by repeat first|exact Pick.here|apply Pick.there) (by omega) hus2 fun h4 hh4 hrd => ?_
   apply wp_ret'
   refine fin_ret (res_tmp rfl rfl) ?_
   have hps := (hp2.trans hperm).map (·.2)
   rw [← sorted_perm sLin_sym hps (by rw [List.pairwise_map]; exact hs2) hnd]
   exact hrd
 ·skip
  obtain ⟨hjl, rfl⟩ := symKV_get hj
  have hpv := hk (pickS kvs j) (by simp [pickS, List.getD_eq_getElem?_getD, hjl])
  simp only [symE]
  refine rs rfl (s_extract rfl rfl rfl) ?_
  apply run_end
  repeat apply wp_seq'
  refine wp_cond' (b := true) rfl (fun _ => ?_) (fun h => by cases h)
  apply wp_skip'
  repeat apply wp_seq'
  apply wp_block'
  repeat apply wp_seq'
  refine wp_text rfl ?_
  refine rs rfl (s_entry rfl rfl (.imm hm) (by repeat first|exact MH _|apply MT) hj) ?_
  refine rs rfl (s_extract rfl rfl rfl) ?_
  refine run_alloc rfl rfl rfl rfl rfl zeroValue112 rfl fun b5 => ?_
  refine run_st2 rfl rfl rfl rfl rfl rfl (by first | rfl | assumption | exact RdI.one (by assumption)) rfl sizeOf112 (by repeat first|exact Swap.here|apply Swap.there) rfl ?_
  apply run_end
  repeat apply wp_seq'
  refine wp_text rfl ?_
  refine rm rfl ?_
  refine rs rfl (s_ld2 rfl rfl isAgg112 sizeOf112 (.o_ rfl) (.o_ rfl)) ?_
  refine run_bso (parts := [_]) (vs := [_]) rfl rfl rfl rfl rfl rfl (bs116_r hpv _) fun b17 => ?_
  refine run_app2 (fun p : Value × Sy => p.1) (fun p : Value × Sy => .bool p.2.2) (pickS kvs j) (xs := ord.map (pickS kvs)) rfl rfl rfl rfl rfl rfl rfl underlying116 info112 rfl (fun v' => (by repeat first|exact Swap.here|apply Swap.there)) (by repeat first|exact MH _|apply MT) (RdI.one hpv) rfl (by omega) (by decide) fun v18 hv18 => ?_
  obtain ⟨A18, c18, rfl⟩ := hv18
  refine rm rfl ?_
  apply run_end
  have hnd2 : (ord ++ [j]).Nodup := by rw [List.nodup_append]; exact ⟨hon, by simp, fun a ha b hb => by rw [List.mem_singleton] at hb; subst hb; rintro rfl; exact hjn ha⟩
  have hlt2 : ∀ i ∈ ord ++ [j], i < kvs.length := by intro i hi; rcases List.mem_append.1 hi with hi | hi; exact hlt i hi; rw [List.mem_singleton] at hi; subst hi; exact hjl
  have hol2 : (ord ++ [j]).length ≤ kvs.length := by have := nodup_sub_len hnd2 (ys := List.range kvs.length) (fun j hj => List.mem_range.2 (hlt2 j hj)); rwa [List.length_range] at this
  have hl2 : (ord ++ [j]).length = ord.length + 1 := by simp
  refine ⟨(ord ++ [j], .slice A18 (ord.length + 1) c18), ⟨hnd2, hlt2, _, _, by dsimp only; rw [hl2]⟩, by dsimp only; omega, by repeat (first|exact True.intro|refine And.intro rfl ?_), rfl, ?_⟩
  dsimp only
  rw [hl2, List.map_append]
  exact by repeat (first|exact NS _|exact SR _|apply SCC|apply SC)
end Go.Tal

namespace Go.Tal
open Go.RowKit Go.Proofs Go.Proofs.Tryz _root_.Tal
theorem firstI_cons {x : Int} {l : List Int} : firstI (x :: l) = if x ≠ 0 then x else firstI l := by
 simp only [firstI, List.find?_cons]
 by_cases h : x = 0
 ·subst h; simp
 ·rw [show (x != 0) = true from by simpa using h, if_pos h]; rfl
theorem allI_zero {l : List Sy} {c : Int} : allI l c = 0 ↔ ∀ a ∈ l, symI a.1 c = 0 := by
 rw [allI, firstI_zero]
 simp only [List.mem_map, forall_exists_index, and_imp, forall_apply_eq_imp_iff₂]
theorem all_ok {l : List Sy} {n : Nat} (h : allI l n = 0) : ∀ a ∈ l, Ok n a := fun a ha => by
 have h1 := symI_zero.1 (allI_zero.1 h a ha)
 have e : a.1.length = n := by omega
 have := h1.2.2
 rw [e] at this
 exact this
/-- The first i of them ascend. -/
def adjI (l : List Sy) (i : Nat) : Bool := (List.range i).all fun j => decide (j = 0) || symLt (l.getD (j - 1) ([], false)) (l.getD j ([], false))
theorem adjI_succ (l : List Sy) (i : Nat) : adjI l (i + 1) = (adjI l i && (decide (i = 0) || symLt (l.getD (i - 1) ([], false)) (l.getD i ([], false)))) := by
 simp [adjI, List.range_succ]
theorem adjI_false {l : List Sy} {i n : Nat} (hi : i < n) (h : (decide (i = 0) || symLt (l.getD (i - 1) ([], false)) (l.getD i ([], false))) = false) : adjI l n = false := by
 rw [Bool.eq_false_iff]
 intro h1
 have := List.all_eq_true.1 h1 i (List.mem_range.2 hi)
 rw [h] at this
 cases this
def preI (l : List Sy) (c : Int) : Int := firstI [cellsI c, whenI (decide ((l.length : Int) = 0)) 12, whenI (decide (1536 < (l.length : Int))) 5]
/-- The first error of a group, or none. -/
def groupI (l : List Sy) (c : Int) : Int :=
 if preI l c ≠ 0 then preI l c else if allI l c ≠ 0 then allI l c else if adjI l l.length = false then 11 else
 match closure c.toNat l.length l with
 | none => 28
 | some (g, _) => if g.length = l.length then 0 else 28
def openR (l : List Sy) (c : Int) (r : Value) (h' : H) (L' : List Own) : Prop :=
 (groupI l c ≠ 0 ∧ r = .tuple #[.map none, .slice none 0 0, .int .i64 (groupI l c)] ∧ L' = []) ∨
 (groupI l c = 0 ∧ ∃ m kvs uv g used, r = .tuple #[.map (some m), uv, .int .i64 0] ∧ L' = [.obj m (mapO (symKV kvs))] ∧ closure c.toNat l.length l = some (g, used) ∧ kvs.map (·.2) = g ∧ SetOk h' kvs ∧ RdS h' uv used)
theorem preI_zero {l : List Sy} {c : Int} (h : preI l c = 0) : (0 ≤ c ∧ c ≤ 256) ∧ 0 < l.length ∧ l.length ≤ 1536 := by
 simp only [preI, firstI_zero, List.mem_cons, List.not_mem_nil, or_false, forall_eq_or_imp, forall_eq, cellsI_zero] at h
 rw [whenI_zero (by decide), whenI_zero (by decide)] at h
 simp only [decide_eq_false_iff_not] at h
 omega
theorem groupI_zero {l : List Sy} {c : Int} (h : groupI l c = 0) : (0 ≤ c ∧ c ≤ 256) ∧ 0 < l.length ∧ l.length ≤ 1536 ∧ (∀ a ∈ l, Ok c.toNat a) ∧ adjI l l.length = true ∧ ∃ g used, closure c.toNat l.length l = some (g, used) ∧ g.length = l.length := by
 unfold groupI at h
 by_cases h1 : preI l c = 0
 ·rw [if_neg (by simpa using h1)] at h
  obtain ⟨h3, h4, h5⟩ := preI_zero h1
  by_cases h2 : allI l c = 0
  ·rw [if_neg (by simpa using h2)] at h
   have hok : ∀ a ∈ l, Ok c.toNat a := all_ok (by rw [Int.toNat_of_nonneg h3.1]; exact h2)
   split at h
   ·cases h
   ·rename_i h6
    split at h
    ·cases h
    ·rename_i g used hcl
     split at h
     ·rename_i h7
      exact ⟨h3, h4, h5, hok, by simpa using h6, g, used, hcl, h7⟩
     ·cases h
  ·rw [if_pos h2] at h; exact absurd h h2
 ·rw [if_pos h1] at h; exact absurd h h1
set_option maxRecDepth 8000 in
set_option maxHeartbeats 4000000 in
theorem open_fn (l : List Sy) (c : Int) (v : Value) (h : H) (hl : RdS h v l) : FnM Tryz.prog 92 #[v, .int .i64 c] h [] (openR l c) := by
 have hlm := hl.len
 refine fnM_of (vs := [v, .int .i64 c]) func92 rfl ntmps92 (Nat.le_of_ble_eq_true rfl) fun w hw => ?_
 repeat apply wp_seq'
 refine wp_text rfl ?_
 refine run_box (cs := #[v]) rfl rfl rfl rfl rfl rfl (by obtain ⟨A, q, rfl, _⟩ := hl; rfl) fun b2 => ?_
 refine run_alloc rfl rfl rfl rfl rfl zeroValue115 rfl fun b4 => ?_
 refine run_alloc rfl rfl rfl rfl rfl zeroValue116 rfl fun b5 => ?_
 refine run_alloc rfl rfl rfl rfl rfl zeroValue27 rfl fun b6 => ?_
 apply run_end
 repeat apply wp_seq'
 refine wp_any [0, 2, 3, 4, 6, 7, 8, 1, 5, 9, 10, 11, 12] rfl (by kernel_rfl) ?_
 refine rm rfl ?_
 refine rs rfl (s_ld rfl rfl isAgg22 (.o_ rfl)) ?_
 refine rs rfl (s_lenS hl rfl rfl underlying22) ?_
 refine rs rfl (s_eq rfl rfl rfl) ?_
 refine rs rfl (s_ld rfl rfl isAgg22 (.o_ rfl)) ?_
 refine rs rfl (s_lenS hl rfl rfl underlying22) ?_
 refine rs rfl (s_gt rfl rfl rfl) ?_
 refine run_callv (vs := [_]) rfl rfl rfl rfl rfl rfl en95 (checkCells_fn _ _) ?_
 refine run_callv (vs := [_, _]) rfl rfl rfl rfl rfl rfl en96 (when_fn _ _ _) ?_
 refine run_callv (vs := [_, _]) rfl rfl rfl rfl rfl rfl en96 (when_fn _ _ _) ?_
 refine run_bsl (parts := [_, _, _]) (vs := [_, _, _]) rfl rfl rfl rfl rfl rfl (bs178_3 _ _ _) fun b10 h10 hh10 hb10 => ?_
 have hr10 := rdI_of (xs := [_, _, _]) hb10 rfl rfl (Nat.le_of_ble_eq_true rfl)
 have hl := hl.mono hh10
 refine run_callv (vs := [_]) rfl rfl rfl rfl rfl rfl en94 (first_fn _ _ _ hr10) ?_
 refine rm rfl ?_
 apply run_end
 rw [show firstI [cellsI c, whenI (decide ((l.length : Int) = 0)) 12, whenI (decide (1536 < (l.length : Int))) 5] = preI l c from rfl]
 repeat apply wp_seq'
 refine wp_text rfl ?_
 refine rm rfl ?_
 refine rs rfl (s_ne rfl rfl rfl) ?_
 apply run_end
 repeat apply wp_seq'
 refine wp_if' rfl (fun hc27 => ?_) (fun hc27 => ?_)
 ·skip
  repeat apply wp_seq'
  refine wp_text rfl ?_
  refine rm rfl ?_
  refine run_st rfl rfl rfl rfl rfl rfl rfl rfl sizeOf115 (by repeat first|exact Swap.here|apply Swap.there) rfl ?_
  refine run_st rfl rfl rfl rfl rfl rfl rfl rfl sizeOf116 (by repeat first|exact Swap.here|apply Swap.there) rfl ?_
  refine run_st rfl rfl rfl rfl rfl rfl rfl rfl sizeOf27 (by repeat first|exact Swap.here|apply Swap.there) rfl ?_
  apply run_end
  apply wp_ret'
  refine finM_ret [] (res_ccc rfl rfl rfl rfl isAgg115 isAgg116 isAgg27 (.own _ _ _ (by repeat first|exact MH _|apply MT) rfl) (.own _ _ _ (by repeat first|exact MH _|apply MT) rfl) (.own _ _ _ (by repeat first|exact MH _|apply MT) rfl)) ⟨[], .refl _, List.nil_sublist _⟩ (.inl ?_)
  have e : groupI l c = preI l c := by rw [groupI, if_pos hc27]
  rw [e]
  exact ⟨hc27, rfl, rfl⟩
 ·skip
  apply wp_skip'
  have hp0 : preI l c = 0 := Decidable.not_not.1 hc27
  obtain ⟨⟨hc0, hc1⟩, hl0, hl1⟩ := preI_zero hp0
  obtain ⟨n, rfl⟩ := Int.eq_ofNat_of_zero_le hc0
  repeat apply wp_seq'
  refine wp_text rfl ?_
  refine rs rfl (s_ld rfl rfl isAgg22 (.o_ rfl)) ?_
  refine rm rfl ?_
  refine run_callv (vs := [_, _]) rfl rfl rfl rfl rfl rfl en97 (checkAll_fn _ _ _ _ hl) ?_
  refine rm rfl ?_
  apply run_end
  repeat apply wp_seq'
  refine wp_text rfl ?_
  refine rm rfl ?_
  refine rs rfl (s_ne rfl rfl rfl) ?_
  apply run_end
  repeat apply wp_seq'
  refine wp_if' rfl (fun hc33 => ?_) (fun hc33 => ?_)
  ·skip
   repeat apply wp_seq'
   refine wp_text rfl ?_
   refine rm rfl ?_
   refine run_st rfl rfl rfl rfl rfl rfl rfl rfl sizeOf115 (by repeat first|exact Swap.here|apply Swap.there) rfl ?_
   refine run_st rfl rfl rfl rfl rfl rfl rfl rfl sizeOf116 (by repeat first|exact Swap.here|apply Swap.there) rfl ?_
   refine run_st rfl rfl rfl rfl rfl rfl rfl rfl sizeOf27 (by repeat first|exact Swap.here|apply Swap.there) rfl ?_
   apply run_end
   apply wp_ret'
   refine finM_ret [] (res_ccc rfl rfl rfl rfl isAgg115 isAgg116 isAgg27 (.own _ _ _ (by repeat first|exact MH _|apply MT) rfl) (.own _ _ _ (by repeat first|exact MH _|apply MT) rfl) (.own _ _ _ (by repeat first|exact MH _|apply MT) rfl)) ⟨[], .refl _, List.nil_sublist _⟩ (.inl ?_)
   have e : groupI l n = allI l n := by rw [groupI, if_neg hc27, if_pos hc33]
   rw [e]
   exact ⟨hc33, rfl, rfl⟩
  ·skip
   apply wp_skip'
   have ha0 : allI l n = 0 := Decidable.not_not.1 hc33
   have hok := all_ok ha0
   repeat apply wp_seq'
   refine wp_text rfl ?_
   refine rs rfl (s_ld rfl rfl isAgg22 (.o_ rfl)) ?_
   refine run_call (vs := [_]) rfl rfl rfl rfl rfl rfl en90 (all_fn v _ (by obtain ⟨A, q, rfl, _⟩ := hl; rfl)) ?_
   intro v36 h2 ⟨box, e36, hbox⟩ hh2
   subst e36
   have hl := hl.mono hh2
   apply run_end
   repeat apply wp_seq'
   apply wp_block'
   refine wp_all rfl rfl rfl hbox hl rfl rfl rfl (fun i h' L => L = [.obj b6 (.cells #[.int .i64 0] 27 (0, 0)), .obj b5 (.cells #[.slice none 0 0] 116 (0, 0)), .obj b4 (.cells #[.map none] 115 (0, 0)), .obj b2 (.cells #[v] 22 (0, 0))] ∧ adjI l i = true) (fun c h' L => c = .ret ∧ adjI l l.length = false ∧ L = [.obj b6 (.cells #[.int .i64 11] 27 (0, 0)), .obj b5 (.cells #[.slice none 0 0] 116 (0, 0)), .obj b4 (.cells #[.map none] 115 (0, 0)), .obj b2 (.cells #[v] 22 (0, 0))]) ⟨rfl, rfl⟩ (fun i h3 L hi hh3 hJ av hav => ?_) (fun h3 L hh3 hJ => ?_) (fun c h3 L hJ => ?_)
   ·skip
    obtain ⟨rfl, hadj⟩ := hJ
    have hl := hl.mono hh3
    repeat apply wp_seq'
    refine wp_text rfl ?_
    refine rm rfl ?_
    apply run_end
    repeat apply wp_seq'
    refine wp_text rfl ?_
    refine run_alloc rfl rfl rfl rfl rfl zeroValue112 rfl fun b10 => ?_
    refine run_st2 rfl rfl rfl rfl rfl rfl (by first | rfl | assumption | exact RdI.one (by assumption)) rfl sizeOf112 (by repeat first|exact Swap.here|apply Swap.there) rfl ?_
    apply run_end
    repeat apply wp_seq'
    apply wp_block'
    repeat apply wp_seq'
    refine wp_any [0, 1, 2, 3, 4, 5, 6, 7, 8, 9, 10, 11] rfl (by kernel_rfl) ?_
    refine rm rfl ?_
    refine rs rfl (s_gt rfl rfl rfl) ?_
    refine rm rfl ?_
    refine run_cases (t := 41) rfl (fun hg41 => ?_) (fun hg41 => ?_)
    ·skip
     obtain ⟨bv, hbv, hat⟩ := hl.get (j := i - 1) (by omega)
     refine rsg rfl rfl (s_ld rfl rfl isAgg22 (.o_ rfl)) ?_
     refine rsg rfl rfl (s_move rfl rfl) ?_
     refine rsg rfl rfl (s_sub rfl rfl rfl (IntWalk.i64_in _ (by omega))) ?_
     refine rsg rfl rfl (s_iaS hl (by omega) (by omega) rfl rfl rfl underlying22 sizeOf37) ?_
     refine rsg rfl rfl (s_ldS hat (by omega) rfl rfl isAgg37 sizeOf37) ?_
     refine rsg rfl rfl (s_ld2 rfl rfl isAgg112 sizeOf112 (.o_ rfl) (.o_ rfl)) ?_
     refine run_callvg (vs := [_, _]) rfl rfl rfl rfl rfl rfl rfl rfl en162 (symCmp_fn _ _ _ _ _ _ _ hbv hav) ?_
     refine rsg rfl rfl (s_ge rfl rfl rfl) ?_
     refine rs rfl (s_pick rfl rfl (fun _ => rfl) (fun h => by cases h)) ?_
     apply run_end
     have hlt : symLt (l.getD (i - 1) ([], false)) (l.getD i ([], false)) = !decide (0 ≤ symCmp ((l.getD (i - 1) ([], false)).1, (l.getD (i - 1) ([], false)).2) ((l.getD i ([], false)).1, (l.getD i ([], false)).2)) := by unfold symLt; rw [← decide_not]; congr 1; rw [Int.not_le]
     repeat apply wp_seq'
     refine wp_if' rfl (fun hc50 => ?_) (fun hc50 => ?_)
     ·skip
      repeat apply wp_seq'
      refine wp_text rfl ?_
      refine run_st rfl rfl rfl rfl rfl rfl rfl rfl sizeOf115 (by repeat first|exact Swap.here|apply Swap.there) rfl ?_
      refine run_st rfl rfl rfl rfl rfl rfl rfl rfl sizeOf116 (by repeat first|exact Swap.here|apply Swap.there) rfl ?_
      refine run_st rfl rfl rfl rfl rfl rfl rfl rfl sizeOf27 (by repeat first|exact Swap.here|apply Swap.there) rfl ?_
      apply run_end
      apply wp_ret'
      exact re_ret _ ⟨rfl, adjI_false hi (by rw [hlt, decide_eq_true hc50]; simp; omega), rfl⟩ ⟨_, .refl _, (by repeat (first|exact NS _|exact SR _|apply SCC|apply SC))⟩
     ·skip
      apply wp_skip'
      refine re_normal _ ⟨fun _ _ hb => hb, rfl, ?_⟩ ⟨_, .refl _, (by repeat (first|exact NS _|exact SR _|apply SCC|apply SC))⟩
      rw [adjI_succ, hadj, hlt, decide_eq_false hc50]; simp
    ·skip
     refine run_skip rfl rfl rfl rfl rfl rfl rfl ?_
     refine run_skip rfl rfl rfl rfl rfl rfl rfl ?_
     refine run_skip rfl rfl rfl rfl rfl rfl rfl ?_
     refine run_skip rfl rfl rfl rfl rfl rfl rfl ?_
     refine run_skip rfl rfl rfl rfl rfl rfl rfl ?_
     refine run_skip rfl rfl rfl rfl rfl rfl rfl ?_
     refine run_skip rfl rfl rfl rfl rfl rfl rfl ?_
     refine run_skip rfl rfl rfl rfl rfl rfl rfl ?_
     refine rs rfl (s_pick rfl rfl (fun h => by cases h) (fun _ => rfl)) ?_
     apply run_end
     repeat apply wp_seq'
     refine wp_cond' (b := false) rfl (fun h => by cases h) (fun _ => ?_)
     apply wp_skip'
     refine re_normal _ ⟨fun _ _ hb => hb, rfl, ?_⟩ ⟨_, .refl _, (by repeat (first|exact NS _|exact SR _|apply SCC|apply SC))⟩
     rw [adjI_succ, hadj, decide_eq_true (show i = 0 by omega)]; rfl
   ·skip
    obtain ⟨rfl, hadj⟩ := hJ
    have hl := hl.mono hh3
    repeat apply wp_seq'
    refine wp_text rfl ?_
    refine rs rfl (s_ld rfl rfl isAgg22 (.o_ rfl)) ?_
    refine rm rfl ?_
    refine rs rfl (s_ld rfl rfl isAgg22 (.o_ rfl)) ?_
    refine rs rfl (s_lenS hl rfl rfl underlying22) ?_
    refine run_callO (vs := [_, _, _]) rfl rfl rfl (dst_lt rfl rfl) rfl rfl en98 (closure_fn l n l.length v _ hl hok (by omega) hl0 (by omega)) ?_
    intro v56 h4 L4 hR hh4
    have hl := hl.mono hh4
    have hgr : groupI l n = match closure n l.length l with | none => 28 | some (g, _) => if g.length = l.length then 0 else 28 := by rw [groupI, if_neg hc27, if_neg hc33, if_neg (by rw [hadj]; decide)]; rfl
    unfold closR at hR
    cases hcl : closure n l.length l with
    | none =>
     rw [hcl] at hR hgr
     dsimp only at hR hgr
     obtain ⟨rfl, rfl⟩ := hR
     refine rm rfl ?_
     refine rs rfl (s_extract rfl rfl rfl) ?_
     refine rs rfl (s_extract rfl rfl rfl) ?_
     refine rs rfl (s_extract rfl rfl rfl) ?_
     refine rm rfl ?_
     refine rm rfl ?_
     refine rm rfl ?_
     apply run_end
     repeat apply wp_seq'
     refine wp_text rfl ?_
     refine rm rfl ?_
     refine rs rfl (s_not rfl rfl) ?_
     refine rm rfl ?_
     refine run_skip rfl rfl rfl rfl rfl rfl rfl ?_
     refine run_skip rfl rfl rfl rfl rfl rfl rfl ?_
     refine run_skip rfl rfl rfl rfl rfl rfl rfl ?_
     refine run_skip rfl rfl rfl rfl rfl rfl rfl ?_
     refine run_skip rfl rfl rfl rfl rfl rfl rfl ?_
     refine rs rfl (s_pick (c := true) rfl rfl (fun _ => rfl) (fun h => by cases h)) ?_
     apply run_end
     repeat apply wp_seq'
     refine wp_cond' (b := true) rfl (fun _ => ?_) (fun h => by cases h)
     repeat apply wp_seq'
     refine wp_text rfl ?_
     refine run_st rfl rfl rfl rfl rfl rfl rfl rfl sizeOf115 (by repeat first|exact Swap.here|apply Swap.there) rfl ?_
     refine run_st rfl rfl rfl rfl rfl rfl rfl rfl sizeOf116 (by repeat first|exact Swap.here|apply Swap.there) rfl ?_
     refine run_st rfl rfl rfl rfl rfl rfl rfl rfl sizeOf27 (by repeat first|exact Swap.here|apply Swap.there) rfl ?_
     apply run_end
     apply wp_ret'
     refine finM_ret [] (res_ccc rfl rfl rfl rfl isAgg115 isAgg116 isAgg27 (.own _ _ _ (by repeat first|exact MH _|apply MT) rfl) (.own _ _ _ (by repeat first|exact MH _|apply MT) rfl) (.own _ _ _ (by repeat first|exact MH _|apply MT) rfl)) ⟨[], .refl _, List.nil_sublist _⟩ (.inl ?_)
     rw [hgr]
     exact ⟨by decide, rfl, rfl⟩
    | some gu =>
     obtain ⟨g, used⟩ := gu
     rw [hcl] at hR hgr
     dsimp only at hR hgr
     obtain ⟨m, kvs, uv, rfl, rfl, hkg, hks, huv⟩ := hR
     refine rm rfl ?_
     refine rs rfl (s_extract rfl rfl rfl) ?_
     refine rs rfl (s_extract rfl rfl rfl) ?_
     refine rs rfl (s_extract rfl rfl rfl) ?_
     refine rm rfl ?_
     refine rm rfl ?_
     refine rm rfl ?_
     apply run_end
     repeat apply wp_seq'
     refine wp_text rfl ?_
     refine rm rfl ?_
     refine rs rfl (s_not rfl rfl) ?_
     refine rm rfl ?_
     refine rsg rfl rfl (s_move rfl rfl) ?_
     refine rsg rfl rfl (s_lenm rfl rfl underlying115 (.own (by repeat first|exact MH _|apply MT))) ?_
     refine rsg rfl rfl (s_ld rfl rfl isAgg22 (.o_ rfl)) ?_
     refine rsg rfl rfl (s_lenS hl rfl rfl underlying22) ?_
     refine rsg rfl rfl (s_ne rfl rfl rfl) ?_
     refine rs rfl (s_pick (c := false) rfl rfl (fun h => by cases h) (fun _ => rfl)) ?_
     apply run_end
     have hkl : (symKV kvs).length = g.length := by rw [← hkg, symKV, List.length_map, List.length_map]
     repeat apply wp_seq'
     refine wp_if' rfl (fun hc68 => ?_) (fun hc68 => ?_)
     ·skip
      repeat apply wp_seq'
      refine wp_text rfl ?_
      refine run_st rfl rfl rfl rfl rfl rfl rfl rfl sizeOf115 (by repeat first|exact Swap.here|apply Swap.there) rfl ?_
      refine run_st rfl rfl rfl rfl rfl rfl rfl rfl sizeOf116 (by repeat first|exact Swap.here|apply Swap.there) rfl ?_
      refine run_st rfl rfl rfl rfl rfl rfl rfl rfl sizeOf27 (by repeat first|exact Swap.here|apply Swap.there) rfl ?_
      apply run_end
      apply wp_ret'
      refine finM_ret [] (res_ccc rfl rfl rfl rfl isAgg115 isAgg116 isAgg27 (.own _ _ _ (by repeat first|exact MH _|apply MT) rfl) (.own _ _ _ (by repeat first|exact MH _|apply MT) rfl) (.own _ _ _ (by repeat first|exact MH _|apply MT) rfl)) ⟨[], .refl _, List.nil_sublist _⟩ (.inl ?_)
      rw [hgr, if_neg (by omega)]
      exact ⟨by decide, rfl, rfl⟩
     ·skip
      apply wp_skip'
      repeat apply wp_seq'
      refine wp_text rfl ?_
      refine rm rfl ?_
      refine rm rfl ?_
      refine run_st rfl rfl rfl rfl rfl rfl rfl rfl sizeOf115 (by repeat first|exact Swap.here|apply Swap.there) rfl ?_
      obtain ⟨uA, uc, rfl, _⟩ := id huv
      refine run_st rfl rfl rfl rfl rfl rfl rfl rfl sizeOf116 (by repeat first|exact Swap.here|apply Swap.there) rfl ?_
      refine run_st rfl rfl rfl rfl rfl rfl rfl rfl sizeOf27 (by repeat first|exact Swap.here|apply Swap.there) rfl ?_
      apply run_end
      apply wp_ret'
      refine finM_ret [.obj m (mapO (symKV kvs))] (res_ccc rfl rfl rfl rfl isAgg115 isAgg116 isAgg27 (.own _ _ _ (by repeat first|exact MH _|apply MT) rfl) (.own _ _ _ (by repeat first|exact MH _|apply MT) rfl) (.own _ _ _ (by repeat first|exact MH _|apply MT) rfl)) ⟨_, .refl _, (by repeat (first|exact NS _|exact SR _|apply SCC|apply SC))⟩ (.inr ?_)
      rw [hgr, if_pos (by omega)]
      exact ⟨rfl, m, kvs, _, g, used, rfl, rfl, hcl, hkg, hks, huv⟩
   ·skip
    obtain ⟨rfl, hadj, rfl⟩ := hJ
    apply wp_ret'
    refine finM_ret [] (res_ccc rfl rfl rfl rfl isAgg115 isAgg116 isAgg27 (.own _ _ _ (by repeat first|exact MH _|apply MT) rfl) (.own _ _ _ (by repeat first|exact MH _|apply MT) rfl) (.own _ _ _ (by repeat first|exact MH _|apply MT) rfl)) ⟨[], .refl _, List.nil_sublist _⟩ (.inl ?_)
    have e : groupI l n = 11 := by rw [groupI, if_neg hc27, if_neg hc33, if_pos hadj]
    rw [e]
    exact ⟨by decide, rfl, rfl⟩
set_option maxRecDepth 8000 in
theorem checkGroup_fn (l : List Sy) (c : Int) (v : Value) (h : H) (hl : RdS h v l) : FnV Tryz.prog 22 #[v, .int .i64 c] h (.int .i64 (groupI l c)) := by
 refine fn_of (vs := [v, .int .i64 c]) func22 rfl ntmps22 (Nat.le_of_ble_eq_true rfl) fun w hw => ?_
 repeat apply wp_seq'
 refine wp_text rfl ?_
 refine rm rfl ?_
 apply run_end
 repeat apply wp_seq'
 refine wp_text rfl ?_
 refine rm rfl ?_
 refine rm rfl ?_
 refine run_callO (vs := [_, _]) rfl rfl rfl (dst_lt rfl rfl) rfl rfl en92 (open_fn l c v _ hl) ?_
 intro v11 h4 L4 hR hh4
 rcases hR with ⟨hg, rfl, rfl⟩ | ⟨hg, m, kvs, uv, g, used, rfl, rfl, hcl, hkg, hks, huv⟩
 ·skip
  refine rm rfl ?_
  refine rs rfl (s_extract rfl rfl rfl) ?_
  refine rs rfl (s_extract rfl rfl rfl) ?_
  refine rs rfl (s_extract rfl rfl rfl) ?_
  refine rm rfl ?_
  refine rm rfl ?_
  refine rm rfl ?_
  apply run_end
  repeat apply wp_seq'
  refine wp_text rfl ?_
  refine rm rfl ?_
  refine rm rfl ?_
  apply run_end
  apply wp_ret'
  exact fin_ret (res_tmp rfl rfl) rfl
 ·skip
  refine rm rfl ?_
  refine rs rfl (s_extract rfl rfl rfl) ?_
  refine rs rfl (s_extract rfl rfl rfl) ?_
  refine rs rfl (s_extract rfl rfl rfl) ?_
  refine rm rfl ?_
  refine rm rfl ?_
  refine rm rfl ?_
  apply run_end
  repeat apply wp_seq'
  refine wp_text rfl ?_
  refine rm rfl ?_
  refine rm rfl ?_
  apply run_end
  apply wp_ret'
  exact fin_ret (res_tmp rfl rfl) (by rw [hg]; rfl)
/-- Closure: the group that some symmetries generate, in ascending order, or the first error. -/
def closO (l : List Sy) (c : Int) : List Sy × Int :=
 if firstI [cellsI c, whenI (decide (256 < (l.length : Int))) 5] ≠ 0 then ([], firstI [cellsI c, whenI (decide (256 < (l.length : Int))) 5]) else if allI l c ≠ 0 then ([], allI l c) else
 match closure c.toNat 1536 l with
 | none => ([], 20)
 | some (g, _) => (sorted symLt g, 0)
set_option maxRecDepth 8000 in
theorem bigClosure_fn (l : List Sy) (c : Int) (v : Value) (h : H) (hl : RdS h v l) : Fn Tryz.prog 27 #[v, .int .i64 c] h fun r h' => ∃ sv, r = .tuple #[sv, .int .i64 (closO l c).2] ∧ RdS h' sv (closO l c).1 := by
 have hlm := hl.len
 refine fn_of (vs := [v, .int .i64 c]) func27 rfl ntmps27 (Nat.le_of_ble_eq_true rfl) fun w hw => ?_
 repeat apply wp_seq'
 refine wp_text rfl ?_
 refine rm rfl ?_
 refine rm rfl ?_
 apply run_end
 repeat apply wp_seq'
 refine wp_text rfl ?_
 refine rm rfl ?_
 refine run_callv (vs := [_]) rfl rfl rfl rfl rfl rfl en95 (checkCells_fn _ _) ?_
 refine rm rfl ?_
 refine rs rfl (s_lenS hl rfl rfl underlying22) ?_
 refine rs rfl (s_gt rfl rfl rfl) ?_
 refine run_callv (vs := [_, _]) rfl rfl rfl rfl rfl rfl en96 (when_fn _ _ _) ?_
 refine run_bsl (parts := [_, _]) (vs := [_, _]) rfl rfl rfl rfl rfl rfl (bs178_2 _ _) fun b10 h10 hh10 hb10 => ?_
 have hr10 := rdI_of (xs := [_, _]) hb10 rfl rfl (Nat.le_of_ble_eq_true rfl)
 have hl := hl.mono hh10
 refine run_callv (vs := [_]) rfl rfl rfl rfl rfl rfl en94 (first_fn _ _ _ hr10) ?_
 refine rm rfl ?_
 apply run_end
 repeat apply wp_seq'
 refine wp_text rfl ?_
 refine rm rfl ?_
 refine rs rfl (s_ne rfl rfl rfl) ?_
 apply run_end
 repeat apply wp_seq'
 refine wp_if' rfl (fun hc20 => ?_) (fun hc20 => ?_)
 ·skip
  repeat apply wp_seq'
  refine wp_text rfl ?_
  refine rm rfl ?_
  refine rm rfl ?_
  refine rm rfl ?_
  apply run_end
  apply wp_ret'
  refine fin_ret (res_tt rfl rfl rfl) ?_
  have e : closO l c = ([], firstI [cellsI c, whenI (decide (256 < (l.length : Int))) 5]) := by rw [closO, if_pos hc20]
  rw [e]
  exact ⟨_, rfl, RdS.nil _ 0⟩
 ·skip
  apply wp_skip'
  repeat apply wp_seq'
  refine wp_text rfl ?_
  refine rm rfl ?_
  refine rm rfl ?_
  refine run_callv (vs := [_, _]) rfl rfl rfl rfl rfl rfl en97 (checkAll_fn _ _ _ _ hl) ?_
  refine rm rfl ?_
  apply run_end
  repeat apply wp_seq'
  refine wp_text rfl ?_
  refine rm rfl ?_
  refine rs rfl (s_ne rfl rfl rfl) ?_
  apply run_end
  repeat apply wp_seq'
  refine wp_if' rfl (fun hc26 => ?_) (fun hc26 => ?_)
  ·skip
   repeat apply wp_seq'
   refine wp_text rfl ?_
   refine rm rfl ?_
   refine rm rfl ?_
   refine rm rfl ?_
   apply run_end
   apply wp_ret'
   refine fin_ret (res_tt rfl rfl rfl) ?_
   have e : closO l c = ([], allI l c) := by rw [closO, if_neg hc20, if_pos hc26]
   rw [e]
   exact ⟨_, rfl, RdS.nil _ 0⟩
  ·skip
   apply wp_skip'
   have hp0 := Decidable.not_not.1 hc20
   rw [firstI_zero] at hp0
   have hcz := hp0 (cellsI c) (by simp)
   rw [cellsI_zero] at hcz
   obtain ⟨hc0, hc1⟩ := hcz
   obtain ⟨n, rfl⟩ := Int.eq_ofNat_of_zero_le hc0
   have ha0 : allI l n = 0 := Decidable.not_not.1 hc26
   have hok := all_ok ha0
   repeat apply wp_seq'
   refine wp_text rfl ?_
   refine rm rfl ?_
   refine rm rfl ?_
   refine run_callO (vs := [_, _, _]) rfl rfl rfl (dst_lt rfl rfl) rfl rfl en98 (closure_fn l n 1536 v _ hl hok (by omega) (by decide) (by decide)) ?_
   intro v56 h4 L4 hR hh4
   unfold closR at hR
   cases hcl : closure n 1536 l with
   | none =>
    rw [hcl] at hR
    dsimp only at hR
    obtain ⟨rfl, rfl⟩ := hR
    refine rm rfl ?_
    refine rs rfl (s_extract rfl rfl rfl) ?_
    refine rs rfl (s_extract rfl rfl rfl) ?_
    refine rs rfl (s_extract rfl rfl rfl) ?_
    refine rm rfl ?_
    refine rm rfl ?_
    refine rm rfl ?_
    apply run_end
    repeat apply wp_seq'
    refine wp_text rfl ?_
    refine rm rfl ?_
    refine rs rfl (s_not rfl rfl) ?_
    apply run_end
    repeat apply wp_seq'
    refine wp_cond' (b := true) rfl (fun _ => ?_) (fun h => by cases h)
    repeat apply wp_seq'
    refine wp_text rfl ?_
    refine rm rfl ?_
    refine rm rfl ?_
    apply run_end
    apply wp_ret'
    refine fin_ret (res_tt rfl rfl rfl) ?_
    have e : closO l n = ([], 20) := by rw [closO, if_neg hc20, if_neg hc26, Int.toNat_natCast, hcl]
    rw [e]
    exact ⟨_, rfl, RdS.nil _ 0⟩
   | some gu =>
    obtain ⟨g, used⟩ := gu
    rw [hcl] at hR
    dsimp only at hR
    obtain ⟨m, kvs, uv, rfl, rfl, hkg, hks, huv⟩ := hR
    refine rm rfl ?_
    refine rs rfl (s_extract rfl rfl rfl) ?_
    refine rs rfl (s_extract rfl rfl rfl) ?_
    refine rs rfl (s_extract rfl rfl rfl) ?_
    refine rm rfl ?_
    refine rm rfl ?_
    refine rm rfl ?_
    apply run_end
    repeat apply wp_seq'
    refine wp_text rfl ?_
    refine rm rfl ?_
    refine rs rfl (s_not rfl rfl) ?_
    apply run_end
    repeat apply wp_seq'
    refine wp_cond' (b := false) rfl (fun h => by cases h) (fun _ => ?_)
    apply wp_skip'
    obtain ⟨g1, g2, g3, _⟩ := closure_some (by decide) hok hcl
    have hid : ident n ∈ g := (g3 _).2 .one
    have hgl : kvs.length = g.length := by rw [← hkg, List.length_map]
    have hgp : 0 < g.length := List.length_pos_of_mem hid
    refine WP.letObj rfl (by repeat first|exact Pick.here|apply Pick.there) fun h5 hh5 hm5 => ?_
    repeat apply wp_seq'
    refine wp_text rfl ?_
    refine rm rfl ?_
    refine run_call (vs := [_]) rfl rfl rfl rfl rfl rfl en99 (glist_fn kvs m _ hm5 (hks.mono hh5) (by omega) (by rw [hkg]; exact g1)) ?_
    intro v38 h6 hv38 hh6
    refine rm rfl ?_
    refine rm rfl ?_
    apply run_end
    apply wp_ret'
    refine fin_ret (res_tt rfl rfl rfl) ?_
    have e : closO l n = (sorted symLt g, 0) := by rw [closO, if_neg hc20, if_neg hc26, Int.toNat_natCast, hcl]
    rw [e]
    rw [hkg] at hv38
    exact ⟨_, rfl, hv38⟩
end Go.Tal

/-
 Symbolic states: append of a whole slice, an empty one too; slices against nil; sorting and copying integers.
-/
namespace Go.Tal
open Go.RowKit
section
variable {C : Ctx} {h : H} {o : Oper} {F : List (Nat × Value)} {L : List Own} {v u : Value} {x y z : Operand}
theorem h_appv {t e : TypeId} {zv : Value} {sz by_ n m c : Nat} {A : Option Addr} {xs news : List Value} {L' : Value → List Own} (ho : o.op = .call { callee := .builtin .append, args := #[x, y], argTypes := #[t, t] }) (hx : evF F x = some v) (hy : evF F y = some (.slice A m c))
 (ht : C.P.underlying t = some (.slice e)) (hi : (C.P.info? e).map (fun i => (i.zero, i.size, i.bytes)) = some (some zv, sz, by_)) (hzs : zv.cells.size = sz) (hsz : 0 < sz) (hl : news.length = m * sz) (hnews : 0 < m → ∃ b o', A = some ⟨b, o', none⟩ ∧ ∀ j u, news[j]? = some u → Cell h L b (o' + j) u) (h1 : ∀ u ∈ news, u.oneCell' = true)
 (h63 : n + m ≤ 8796093022208) (hbytes : (n + m) * by_ ≤ 140737488355328)
 (p : ∀ v', Swap (.row v e sz n xs) (.row v' e sz (n + m) (xs ++ news)) L (L' v')) : HardW C o F h L (fun v' h' L'' => (∃ A c, v' = .slice A (n + m) c) ∧ h' = h ∧ L'' = L' v') := fun a w ha h2 h3 hmem => by
 rcases Nat.eq_zero_or_pos m with hm | hm
 ·subst hm
  have hn0 : news = [] := List.eq_nil_of_length_eq_zero (by simpa using hl)
  subst hn0
  have e1 := agree_of ha (by rw [ho]; simp [Op.operands, Call.operands]) hx
  have e2 := agree_of ha (x := y) (by rw [ho]; simp [Op.operands, Call.operands]) hy
  obtain ⟨i, hi1, hi2⟩ := Option.map_eq_some_iff.1 hi
  simp only [Prod.mk.injEq] at hi2
  obtain ⟨L0, p1, _⟩ := (p v).pick
  have hown : w.ownsRow 0 e sz v n xs := hmem.sat.own _ (p1.perm.mem_iff.2 List.mem_cons_self)
  obtain ⟨B, cap, hv, hle⟩ : ∃ B cap, v = .slice B n cap ∧ n ≤ cap := by
   rcases hown.2 with ⟨h4, h5⟩ | ⟨g, cap, cur, h4, _, _, h5, _⟩
   ·exact ⟨none, 0, by rw [h4, h5], by omega⟩
   ·exact ⟨_, cap, h4, h5⟩
  have hsrc : Src C.P i.size t (.slice A 0 c) 0 [] w := by
   cases A with
   | none => exact Src.ofNil w ht c
   | some b => exact Src.ofSlice w ht b 0 c [] (by simp) (by intro j u hj; simp at hj) (by intro u hu; cases hu)
  have hr := run_append_nothing (P := C.P) w t t o.type e i ht hi1 B n cap hle (.slice A 0 c) hsrc
  refine upon_val (q := v) (w' := w) ?_ ⟨v, h, L' v, ⟨⟨B, cap, hv⟩, rfl, rfl⟩, rfl, ?_⟩
  ·subst hv
   simp only [execOp, ho, resolve, invoke, builtin, Sem.run_bind, Sem.run_pure, Result.andThen_ok, List.map_toArray, List.map_cons, List.map_nil, e1, e2, hr]
  ·exact hmem.swap2 (p v) (fun k hk => .inl hk) (by rw [List.append_nil]; exact hown) rfl rfl rfl (Nat.le_refl _) (Nat.le_refl _) (fun _ _ _ => rfl)
 ·obtain ⟨b, o', eA, hc⟩ := hnews hm
  subst eA
  exact h_app ho hx hy ht hi hzs hsz hl hc h1 hm h63 hbytes p a w ha h2 h3 hmem
end
section
variable {dr : Bool} {C : Ctx} {ops : Array Oper} {K : S → Prop} {i d : Nat} {r : List Nat} {F : List (Nat × Value)} {h : H} {L : List Own} {o : Oper} {x y : Operand} {v u : Value}
theorem run_appv {t e : TypeId} {zv : Value} {sz by_ n m c : Nat} {A : Option Addr} {xs news : List Value} {L' : Value → List Own} (ho : ops[i]? = some o) (hop : o.op = .call { callee := .builtin .append, args := #[x, y], argTypes := #[t, t] }) (hg : o.guard = none) (hd : o.dst = some d) (hn : Nat.blt d C.n = true)
 (hx : evF F x = some v) (hy : evF F y = some (.slice A m c))
 (ht : C.P.underlying t = some (.slice e)) (hi : (C.P.info? e).map (fun i => (i.zero, i.size, i.bytes)) = some (some zv, sz, by_)) (hzs : zv.cells.size = sz) (hsz : 0 < sz)
 (p : ∀ v', Swap (.row v e sz n xs) (.row v' e sz (n + m) (xs ++ news)) L (L' v')) (hl : news.length = m * sz) (hnews : 0 < m → ∃ b o', A = some ⟨b, o', none⟩ ∧ ∀ j u, news[j]? = some u → Cell h L b (o' + j) u) (h1 : ∀ u ∈ news, u.oneCell' = true)
 (h63 : n + m ≤ 8796093022208) (hbytes : (n + m) * by_ ≤ 140737488355328)
 (k : ∀ v', (∃ A c, v' = .slice A (n + m) c) → Run dr C ops K r ⟨(d, v') :: F, h, L' v'⟩) : Run dr C ops K (i :: r) ⟨F, h, L⟩ :=
 run_hard ho hg (dst_lt hd hn) (by simp [cls, hop]) (fun v' h' L'' => (∃ A c, v' = .slice A (n + m) c) ∧ h' = h ∧ L'' = L' v') (fun M => (h_appv (L' := fun v' => L' v' ++ M) hop hx hy ht hi hzs hsz hl (fun hm => by obtain ⟨b, o', e, hc⟩ := hnews hm; exact ⟨b, o', e, fun j u hj => (hc j u hj).app M⟩) h1 h63 hbytes fun v' => (p v').append M).imp fun v' _ _ ⟨e1, e2, e3⟩ => ⟨L' v', ⟨e1, e2, rfl⟩, e3⟩) fun v' _ _ ⟨e1, e2, e3⟩ => by subst e2 e3; rw [hd]; exact ⟨fun _ hc => by simp [cls, hop] at hc, k v' e1⟩
/-- A slice that is written out, as a row. -/
theorem run_bsr {t e : TypeId} {len sz : Nat} {parts : List (Nat × Operand)} {vs : List Value} {arr : Array Value} (ho : ops[i]? = some o) (hop : o.op = .buildSlice t len parts.toArray) (hg : o.guard = none) (hd : o.dst = some d) (hn : Nat.blt d C.n = true) (hx : (parts.map (·.2)).map (evF F) = vs.map some)
 (hq : ∀ w, (Instr.buildSlice t len ((parts.map (·.1)).zip vs).toArray).run C.P w = .ok (.slice (some ⟨w.heap.size, 0, none⟩) len len) (w.alloc (.cells arr e))) (hs : arr.size = len * sz) (hm : Nat.ble len maxLen = true)
 (k : ∀ b, Run dr C ops K r ⟨(d, .slice (some ⟨b, 0, none⟩) len len) :: F, h, .row (.slice (some ⟨b, 0, none⟩) len len) e sz len arr.toList :: L⟩) : Run dr C ops K (i :: r) ⟨F, h, L⟩ :=
 run_hard ho hg (dst_lt hd hn) (by simp [cls, hop]) (OutNew h L (fun b => .row (.slice (some ⟨b, 0, none⟩) len len) e sz len arr.toList) fun b => .slice (some ⟨b, 0, none⟩) len len) (frm_new fun M a w h1 h2 h3 h4 => by
  refine Oper.wp_mono (fun a' w' ⟨v, h', L', ⟨b, e1, e2, e3⟩, ha, hm'⟩ => ?_) (h_bso (C := C) (h := h) (L := L ++ M) hop hx hq a w h1 h2 h3 h4)
  subst e1 e2 e3
  have := hm'.asRow (n := len) (cap := len) (sz := sz) (Nat.le_refl _) (Nat.le_of_ble_eq_true hm) hs
  rw [List.take_of_length_le (by rw [Array.length_toList, hs]; exact Nat.le_refl _)] at this
  exact ⟨_, h', _, ⟨b, rfl, rfl, rfl⟩, ha, this⟩) fun _ _ _ ⟨b, e1, e2, e3⟩ => by subst e1 e2 e3; rw [hd]; exact ⟨fun _ _ => grow_new _, k b⟩
theorem RdI.cells_ {xs : List Int} (r : RdI h u xs) : ∃ A c, u = .slice A xs.length c ∧ (0 < xs.length → ∃ b o', A = some ⟨b, o', none⟩ ∧ ∀ j u, (xs.map (Value.int .i64))[j]? = some u → Cell h L b (o' + j) u) := by
 obtain ⟨A, c, e, hm, hr⟩ := r
 refine ⟨A, c, e, fun hp => ?_⟩
 obtain ⟨b, o', eA, arr, t, fz, h1, h2⟩ := hr hp
 refine ⟨b, o', eA, fun j u hj => ?_⟩
 have hjl : j < xs.length := by
  have := (List.getElem?_eq_some_iff.1 hj).1
  simpa using this
 have := h2 j hjl
 rw [List.getElem?_map, List.getElem?_eq_getElem hjl] at hj
 simp only [Option.map_some, Option.some.injEq] at hj
 subst hj
 refine .imm arr t fz h1 ?_
 rw [this]
 simp [List.getD_eq_getElem?_getD, List.getElem?_eq_getElem hjl]
end
section
variable {P : Program} {o : Oper} {F : List (Nat × Value)} {h : H} {L : List Own} {v u : Value} {x y : Operand}
theorem s_eqnil {t e t' : TypeId} {A : Option Addr} {n c : Nat} (ho : o.op = .binOp .eql t x y t') (hx : evF F x = some (.slice A n c)) (hy : evF F y = some (.slice none 0 0)) (ht : P.underlying t = some (.slice e)) : SoftOk P o F h L (.bool A.isNone) :=
 s_bin ho hx hy (fun w => by simp [eqGuard]) fun w => Lib.run_eql_slice_nil w t e A n c 0 0 ht
end
end Go.Tal

namespace Go.Tal
open Go.RowKit Go.Proofs Go.Proofs.Tryz _root_.Tal
theorem bs35_0 : ∀ w, (Instr.buildSlice 35 0 #[]).run Tryz.prog w = .ok (.slice (some ⟨w.heap.size, 0, none⟩) 0 0) (w.alloc (.cells #[] 3)) := fun _ => by kernel_rfl
theorem bs26_1 (A : Option Addr) (n c : Nat) : ∀ w, (Instr.buildSlice 26 1 #[(0, .slice A n c)]).run Tryz.prog w = .ok (.slice (some ⟨w.heap.size, 0, none⟩) 1 1) (w.alloc (.cells #[.slice A n c] 35)) := fun _ => by kernel_rfl
theorem bs26_r {h : H} {sv : Value} {l : List Int} (r : RdI h sv l) : ∀ w, (Instr.buildSlice 26 1 #[(0, sv)]).run Tryz.prog w = .ok (.slice (some ⟨w.heap.size, 0, none⟩) 1 1) (w.alloc (.cells #[sv] 35)) := by
 obtain ⟨A, c, rfl, _⟩ := r
 exact bs26_1 _ _ _
def sortedI (xs : List Int) : List Int := xs.mergeSort fun x y => decide (x ≤ y)
/-- slices.Sort over a row of integers. -/
theorem sortI_fn (xs : List Int) (h : H) (b n cap : Nat) (hn : xs.length = n) (hm : n ≤ 4294967296) : FnM Tryz.prog 91 #[.slice (some ⟨b, 0, none⟩) n cap] h [.row (.slice (some ⟨b, 0, none⟩) n cap) 3 1 n (xs.map (Value.int .i64))] fun v h' L' => v = .tuple #[] ∧ h' = h ∧ L' = [.row (.slice (some ⟨b, 0, none⟩) n cap) 3 1 n ((sortedI xs).map (Value.int .i64))] := by
 intro w hs
 subst hn
 have hr : w.ownsRow 0 3 1 (.slice (some ⟨b, 0, none⟩) xs.length cap) xs.length (xs.map (Value.int .i64)) := hs.own _ List.mem_cons_self
 obtain ⟨hl, hr⟩ := hr
 rcases hr with ⟨hr, _⟩ | ⟨g', cap', cur, hr, hb0, hg, hnc, hcm, hsz', htk⟩
 ·cases hr
 cases hr
 have hH : Go.Sort.Holds (Value.int .i64) w b 0 xs.toArray := fun j hj => by
  have hj' : j < xs.length := by simpa using hj
  refine ⟨?_, by simp [World.frozen?, hg]⟩
  have e1 : (xs.map (Value.int .i64))[j]? = cur.toList[j]? := by rw [← htk, List.getElem?_take, if_pos (by omega)]
  rw [List.getElem?_map, List.getElem?_eq_getElem hj'] at e1
  simp only [Option.map_some] at e1
  simp [World.cell?, hg, ← Array.getElem?_toList, ← e1, hj']
 have hc := Any.slices_Sort_int Tryz.sortI b 0 cap xs w hH (Array.getElem?_eq_some_iff.1 hg).1 (by omega)
 refine hc.mono fun e' w' ⟨he, m, os, hw⟩ => ⟨.tuple #[], h, _, he, ⟨rfl, rfl, rfl⟩, ?_⟩
 rw [hw]
 exact put_mem (P := Tryz.prog) (enc := Value.int .i64) (d := (sortedI xs).toArray) hs (by simp [sortedI])
set_option maxRecDepth 8000 in
/-- slices.Clone over integers. -/
theorem cloneI_fn (xs : List Int) (v : Value) (h : H) (hx : RdI h v xs) : Fn Tryz.prog 106 #[v] h fun r h' => RdI h' r xs := by
 have hxm := hx.len
 obtain ⟨A, c, rfl, hcl⟩ := hx.cells_ (L := [])
 refine fn_of (vs := [.slice A xs.length c]) func106 rfl ntmps106 (Nat.le_of_ble_eq_true rfl) fun w hw => ?_
 repeat apply wp_seq'
 refine wp_text rfl ?_
 refine rm rfl ?_
 apply run_end
 repeat apply wp_seq'
 refine wp_text rfl ?_
 refine rm rfl ?_
 refine rs rfl (s_eqnil rfl rfl rfl underlying35) ?_
 apply run_end
 repeat apply wp_seq'
 refine wp_cond' rfl (fun hc4 => ?_) (fun hc4 => ?_)
 ·skip
  repeat apply wp_seq'
  refine wp_text rfl ?_
  refine rm rfl ?_
  apply run_end
  apply wp_ret'
  refine fin_ret (res_tmp rfl rfl) ?_
  have : xs = [] := by
   refine List.eq_nil_of_length_eq_zero (Nat.eq_zero_of_not_pos fun hp => ?_)
   obtain ⟨b, o, eA, _⟩ := hcl hp
   rw [eA] at hc4
   cases hc4
  subst this
  exact RdI.nil _ 0
 ·skip
  apply wp_skip'
  repeat apply wp_seq'
  refine wp_text rfl ?_
  refine run_bsr (parts := []) (vs := []) (sz := 1) rfl rfl rfl rfl rfl rfl bs35_0 rfl rfl fun b5 => ?_
  refine rm rfl ?_
  refine run_appv (xs := []) (news := xs.map (Value.int .i64)) rfl rfl rfl rfl rfl rfl rfl underlying35 info3 rfl (by decide) (fun v' => (by repeat first|exact Swap.here|apply Swap.there)) (by simp) (fun hp => by obtain ⟨b, o', e, hcc⟩ := hcl hp; exact ⟨b, o', e, fun j u hj => (hcc j u hj).app _⟩) (fun u hu => by obtain ⟨x, _, rfl⟩ := List.mem_map.1 hu; rfl) (by omega) (by omega) fun v7 hv7 => ?_
  refine rm rfl ?_
  apply run_end
  rw [Nat.zero_add, List.nil_append]
  refine WP.letO rfl (by repeat first|exact Pick.here|apply Pick.there) (by omega) fun h2 hh2 hr2 => ?_
  apply wp_ret'
  exact fin_ret (res_tmp rfl rfl) hr2
theorem Mem.self {P : Program} {h : H} {L : List Own} {w : World} (hs : Sat h L w) : Mem (ctxM P w h L 0) h L w := ⟨hs, fun _ hx _ hb => .inr (blk_mem hx hb), fun _ _ => rfl, ⟨rfl, rfl, rfl, Nat.le_refl _, Nat.le_refl _, fun _ _ _ => rfl⟩⟩
theorem sortIv_fn (xs : List Int) (v : Value) (h : H) (n : Nat) (hm : n ≤ 4294967296) : FnM Tryz.prog 91 #[v] h [.row v 3 1 n (xs.map (Value.int .i64))] fun r h' L' => r = .tuple #[] ∧ h' = h ∧ L' = [.row v 3 1 n ((sortedI xs).map (Value.int .i64))] := by
 intro w hs
 have hr : w.ownsRow 0 3 1 v n (xs.map (Value.int .i64)) := hs.own _ List.mem_cons_self
 have hl : xs.length = n := by have := hr.1; simpa using this
 rcases hr.2 with ⟨h1, h2⟩ | ⟨g, cap, cur, h1, _⟩
 ·subst h1
  have : xs = [] := List.eq_nil_of_length_eq_zero (by omega)
  subst this
  subst h2
  exact (Any.slices_Sort_int_none Tryz.sortI none 0 w).mono fun e w' ⟨he, hw⟩ => ⟨.tuple #[], h, _, he, ⟨rfl, rfl, rfl⟩, by rw [hw, show sortedI [] = [] from by simp [sortedI]]; exact Mem.self hs⟩
 ·subst h1
  exact sortI_fn xs h g n cap hl hm w hs
theorem sortedI_len (xs : List Int) : (sortedI xs).length = xs.length := List.length_mergeSort _
def orbIn (l : List Sy) (c : Nat) (st : List Bool × List Int) (i : Nat) : List Bool × List Int :=
 (l.take i).foldl (fun st a => if st.1.getD (a.1.getD c 0).toNat false then st else (st.1.set (a.1.getD c 0).toNat true, st.2 ++ [a.1.getD c 0])) st
theorem orbIn_succ {l : List Sy} {c : Nat} {st : List Bool × List Int} {i : Nat} (hi : i < l.length) : orbIn l c st (i + 1) = (if (orbIn l c st i).1.getD ((l.getD i ([], false)).1.getD c 0).toNat false then orbIn l c st i else ((orbIn l c st i).1.set ((l.getD i ([], false)).1.getD c 0).toNat true, (orbIn l c st i).2 ++ [(l.getD i ([], false)).1.getD c 0])) := by
 unfold orbIn
 rw [List.take_succ_eq_append_getElem hi, List.foldl_append]
 simp [List.getD_eq_getElem?_getD, List.getElem?_eq_getElem hi]
def orbStep (l : List Sy) (st : List Bool × List (List Int)) (c : Nat) : List Bool × List (List Int) :=
 if st.1.getD c false then st else ((orbIn l c (st.1, []) l.length).1, st.2 ++ [sortedI (orbIn l c (st.1, []) l.length).2])
def orbTo (l : List Sy) (n k : Nat) : List Bool × List (List Int) := (List.range k).foldl (orbStep l) (List.replicate n false, [])
theorem orbTo_succ (l : List Sy) (n k : Nat) : orbTo l n (k + 1) = orbStep l (orbTo l n k) k := by simp [orbTo, List.range_succ]
def cellOrbO (l : List Sy) (c : Int) : List (List Int) × Int := if groupI l c ≠ 0 then ([], groupI l c) else ((orbTo l c.toNat c.toNat).2, 0)
/-- Values that are read as lists. -/
def AllRd (h : H) (vals : List Value) (outs : List (List Int)) : Prop := outs.length = vals.length ∧ ∀ j, j < vals.length → ∃ sv, vals[j]? = some sv ∧ RdI h sv (outs.getD j [])
theorem AllRd.mono {h h' : H} {vals : List Value} {outs : List (List Int)} (r : AllRd h vals outs) (hh : ∀ b o, h b = some o → h' b = some o) : AllRd h' vals outs := ⟨r.1, fun j hj => by obtain ⟨sv, h1, h2⟩ := r.2 j hj; exact ⟨sv, h1, h2.mono hh⟩⟩
theorem AllRd.snoc {h : H} {vals : List Value} {outs : List (List Int)} {v : Value} {xs : List Int} (r : AllRd h vals outs) (hv : RdI h v xs) : AllRd h (vals ++ [v]) (outs ++ [xs]) := by
 refine ⟨by simp [r.1], fun j hj => ?_⟩
 by_cases hj2 : j < vals.length
 ·obtain ⟨sv, h1, h2⟩ := r.2 j hj2
  refine ⟨sv, by rw [List.getElem?_append_left hj2]; exact h1, ?_⟩
  have e : (outs ++ [xs]).getD j [] = outs.getD j [] := by simp only [List.getD_eq_getElem?_getD]; rw [List.getElem?_append_left (by rw [r.1]; exact hj2)]
  rw [e]; exact h2
 ·have e1 : j = vals.length := by simp at hj; omega
  subst e1
  refine ⟨v, by simp, ?_⟩
  have e : (outs ++ [xs]).getD vals.length [] = xs := by simp only [List.getD_eq_getElem?_getD]; rw [← r.1]; simp
  rw [e]; exact hv
section
variable {dr : Bool} {C : Ctx} {ops : Array Oper} {K : S → Prop} {i d : Nat} {r : List Nat} {F : List (Nat × Value)} {h : H} {L : List Own} {o : Oper} {x y : Operand} {v : Value}
/-- xs = append(xs, u), values as they are. -/
theorem run_app1v (u : Value) {t e tb : TypeId} {zv : Value} {by_ n c b : Nat} {xs : List Value} {L' : Value → List Own} (ho : ops[i]? = some o) (hop : o.op = .call { callee := .builtin .append, args := #[x, y], argTypes := #[t, t] }) (hg : o.guard = none) (hd : o.dst = some d) (hn : Nat.blt d C.n = true)
 (hx : evF F x = some v) (hy : evF F y = some (.slice (some ⟨b, 0, none⟩) 1 c))
 (ht : C.P.underlying t = some (.slice e)) (hi : (C.P.info? e).map (fun i => (i.zero, i.size, i.bytes)) = some (some zv, 1, by_)) (hzs : zv.cells.size = 1)
 (p : ∀ v', Swap (.row v e 1 n xs) (.row v' e 1 (n + 1) (xs ++ [u])) L (L' v')) (hm : Own.obj b (.cells #[u] tb (0, 0)) ∈ L) (h1 : u.oneCell' = true)
 (h63 : n + 1 ≤ 1099511627776) (hb : by_ ≤ 64)
 (k : ∀ v', (∃ A c, v' = .slice A (n + 1) c) → Run dr C ops K r ⟨(d, v') :: F, h, L' v'⟩) : Run dr C ops K (i :: r) ⟨F, h, L⟩ :=
 run_app (news := [u]) ho hop hg hd hn hx hy ht hi hzs (Nat.zero_lt_one) p rfl (cell1 hm) (one1 h1) (Nat.zero_lt_one) (by omega) (by
  have : (n + 1) * by_ ≤ (n + 1) * 64 := Nat.mul_le_mul_left _ hb
  omega) k
end
set_option maxRecDepth 8000 in
set_option maxHeartbeats 4000000 in
theorem cellOrbits_fn (l : List Sy) (c : Int) (v : Value) (h : H) (hl : RdS h v l) : Fn Tryz.prog 21 #[v, .int .i64 c] h fun r h' => ∃ sv, r = .tuple #[sv, .int .i64 (cellOrbO l c).2] ∧ RdT h' sv (cellOrbO l c).1 := by
 have hlm := hl.len
 refine fn_of (vs := [v, .int .i64 c]) func21 rfl ntmps21 (Nat.le_of_ble_eq_true rfl) fun w hw => ?_
 repeat apply wp_seq'
 refine wp_text rfl ?_
 refine rm rfl ?_
 refine rm rfl ?_
 apply run_end
 repeat apply wp_seq'
 refine wp_text rfl ?_
 refine rm rfl ?_
 refine rm rfl ?_
 refine run_callv (vs := [_, _]) rfl rfl rfl rfl rfl rfl en22 (checkGroup_fn _ _ _ _ hl) ?_
 refine rm rfl ?_
 apply run_end
 repeat apply wp_seq'
 refine wp_text rfl ?_
 refine rm rfl ?_
 refine rs rfl (s_ne rfl rfl rfl) ?_
 apply run_end
 repeat apply wp_seq'
 refine wp_if' rfl (fun hc17 => ?_) (fun hc17 => ?_)
 ·skip
  repeat apply wp_seq'
  refine wp_text rfl ?_
  refine rm rfl ?_
  refine rm rfl ?_
  refine rm rfl ?_
  apply run_end
  apply wp_ret'
  refine fin_ret (res_tt rfl rfl rfl) ?_
  have e : cellOrbO l c = ([], groupI l c) := by rw [cellOrbO, if_pos hc17]
  rw [e]
  exact ⟨_, rfl, RdT.nil _ 0⟩
 ·skip
  apply wp_skip'
  have hg0 : groupI l c = 0 := Decidable.not_not.1 hc17
  obtain ⟨⟨hc0, hc1⟩, hl0, hl1, hok, _⟩ := groupI_zero hg0
  obtain ⟨n, rfl⟩ := Int.eq_ofNat_of_zero_le hc0
  rw [Int.toNat_natCast] at hok
  have hre : cellOrbO l n = ((orbTo l n n).2, 0) := by rw [cellOrbO, if_neg hc17, Int.toNat_natCast]
  repeat apply wp_seq'
  refine wp_text rfl ?_
  refine rm rfl ?_
  apply run_end
  repeat apply wp_seq'
  refine wp_text rfl ?_
  refine rm rfl ?_
  refine run_mksl rfl rfl rfl rfl rfl rfl rfl underlying108 info4 rfl (by omega) (by omega) fun bs => ?_
  refine run_alloc rfl rfl rfl rfl rfl zeroValue108 rfl fun b8 => ?_
  refine run_st rfl rfl rfl rfl rfl rfl rfl rfl sizeOf108 (by repeat first|exact Swap.here|apply Swap.there) rfl ?_
  apply run_end
  repeat apply wp_seq'
  refine wp_text rfl ?_
  refine rm rfl ?_
  refine rm rfl ?_
  apply run_end
  repeat apply wp_seq'
  apply wp_block'
  refine WP.nilrow 35 1 ?_
  rw [← List.map_replicate (f := Value.bool)]
  refine wp_loop' (ι := H × Nat × List Bool × List Value × Value × List (List Int)) (fun x => (∀ b o, h b = some o → x.1 b = some o) ∧ x.2.1 ≤ n ∧ orbTo l n x.2.1 = (x.2.2.1, x.2.2.2.2.2) ∧ x.2.2.1.length = n ∧ AllRd x.1 x.2.2.2.1 x.2.2.2.2.2 ∧ x.2.2.2.1.length ≤ x.2.1 ∧ ∃ A c, x.2.2.2.2.1 = .slice A x.2.2.2.1.length c) (fun x => ⟨[(23, .int .i64 x.2.1), (22, .int .i64 n), (8, .pointer (some ⟨b8, 0, none⟩)), (7, x.2.2.2.2.1), (0, v)], x.1, [.row x.2.2.2.2.1 35 1 x.2.2.2.1.length x.2.2.2.1, .obj b8 (.cells #[(.slice (some ⟨bs, 0, none⟩) n n)] 108 (0, 0)), .row (.slice (some ⟨bs, 0, none⟩) n n) 4 1 n (x.2.2.1.map Value.bool)]⟩) (fun x => n - x.2.1) (h, 0, List.replicate n false, [], .slice none 0 0, []) ⟨fun _ _ hb => hb, Nat.zero_le _, rfl, by simp, ⟨rfl, fun j hj => by cases hj⟩, Nat.zero_le _, none, 0, rfl⟩ ⟨by repeat (first|exact True.intro|refine And.intro rfl ?_), rfl, by repeat (first|exact NS _|exact SR _|apply SCC|apply SC)⟩ fun x hx => ?_
  obtain ⟨h1, k, sn, vals, ov, outs⟩ := x
  obtain ⟨hh1, hk, hto, hsn, hrd, hvl, oA, oc, eov⟩ := hx
  dsimp only at hh1 hk hto hsn hrd hvl eov ⊢
  subst eov
  have hl := hl.mono hh1
  repeat apply wp_seq'
  refine wp_text rfl ?_
  refine rs rfl (s_lt rfl rfl rfl) ?_
  apply run_end
  repeat apply wp_seq'
  refine wp_if' rfl (fun hc24 => ?_) (fun hc24 => ?_)
  ·skip
   apply wp_skip'
   repeat apply wp_seq'
   apply wp_block'
   repeat apply wp_seq'
   refine wp_text rfl ?_
   refine rm rfl ?_
   refine run_alloc rfl rfl rfl rfl rfl zeroValue3 rfl fun b9 => ?_
   refine run_st rfl rfl rfl rfl rfl rfl rfl rfl sizeOf3 (by repeat first|exact Swap.here|apply Swap.there) rfl ?_
   apply run_end
   repeat apply wp_seq'
   refine wp_text rfl ?_
   refine rs rfl (s_ld rfl rfl isAgg108 (.o_ rfl)) ?_
   refine rs rfl (s_ld rfl rfl isAgg3 (.o_ rfl)) ?_
   refine rs rfl (s_ia1 rfl rfl rfl underlying108 sizeOf4 (by omega) (by omega)) ?_
   refine rs rfl (s_ld rfl rfl isAgg4 (.rowM (e := 4) (sz := 1) Value.bool false (by repeat first|exact MH _|apply MT) (by first | omega | (simp; omega)))) ?_
   apply run_end
   simp only [Int.toNat_natCast]
   repeat apply wp_seq'
   refine wp_cond' rfl (fun hc29 => ?_) (fun hc29 => ?_)
   ·skip
    apply wp_exit'
    refine wp_text rfl ?_
    refine rs rfl (s_add rfl rfl rfl (IntWalk.i64_in _ (by omega))) ?_
    refine rm rfl ?_
    apply run_end
    exact ⟨(h1, k + 1, sn, vals, _, outs), ⟨hh1, by dsimp only; omega, by dsimp only; rw [orbTo_succ, hto, orbStep, if_pos hc29], hsn, hrd, by dsimp only; omega, _, _, rfl⟩, by dsimp only; omega, ⟨by repeat (first|exact True.intro|refine And.intro rfl ?_), rfl, by repeat (first|exact NS _|exact SR _|apply SCC|apply SC)⟩⟩
   ·skip
    apply wp_skip'
    repeat apply wp_seq'
    refine wp_text rfl ?_
    refine run_alloc rfl rfl rfl rfl rfl zeroValue35 rfl fun b10 => ?_
    apply run_end
    repeat apply wp_seq'
    refine wp_text rfl ?_
    refine rm rfl ?_
    refine run_call (vs := [_]) rfl rfl rfl rfl rfl rfl en90 (all_fn v _ (by obtain ⟨A, q, rfl, _⟩ := hl; rfl)) ?_
    intro v31 h2 ⟨box, e31, hbox⟩ hh2
    subst e31
    have hl := hl.mono hh2
    have hrd := hrd.mono hh2
    apply run_end
    repeat apply wp_seq'
    apply wp_block'
    refine WP.nilrow 3 1 ?_
    refine wp_all rfl rfl rfl hbox hl rfl rfl rfl (fun i h' L => ∃ (sn' : List Bool) (orb : List Int) (A : Option Addr) (q : Nat), L = [.row (.slice A orb.length q) 3 1 orb.length (orb.map (Value.int .i64)), .obj b10 (.cells #[.slice A orb.length q] 35 (0, 0)), .obj b9 (.cells #[.int .i64 k] 3 (0, 0)), .row (.slice oA vals.length oc) 35 1 vals.length vals, .obj b8 (.cells #[(.slice (some ⟨bs, 0, none⟩) n n)] 108 (0, 0)), .row (.slice (some ⟨bs, 0, none⟩) n n) 4 1 n (sn'.map Value.bool)] ∧ orbIn l k (sn, []) i = (sn', orb) ∧ sn'.length = n ∧ orb.length ≤ i) (fun c h' L => False) ⟨sn, [], none, 0, rfl, rfl, hsn, Nat.le_refl _⟩ (fun i h3 L hi hh3 hJ av hav => ?_) (fun h3 L hh3 hJ => ?_) (fun c h3 L hJ => hJ.elim)
    ·skip
     obtain ⟨sn1, orb, A, q, rfl, hin, hs1, hol⟩ := hJ
     have hao := hok _ (getD_mem' (l := l) hi)
     have hrg := hao.getD_range (i := k) (by omega)
     have hstep := orbIn_succ (c := k) (st := (sn, [])) hi
     rw [hin] at hstep
     dsimp only at hstep
     repeat apply wp_seq'
     refine wp_text rfl ?_
     refine run_alloc rfl rfl rfl rfl rfl zeroValue112 rfl fun b12 => ?_
     refine run_st2 rfl rfl rfl rfl rfl rfl (by first | rfl | assumption | exact RdI.one (by assumption)) rfl sizeOf112 (by repeat first|exact Swap.here|apply Swap.there) rfl ?_
     apply run_end
     repeat apply wp_seq'
     apply wp_block'
     repeat apply wp_seq'
     refine wp_text rfl ?_
     refine rs rfl (s_fa (off := 0) rfl rfl underlying112 rfl sizeOf35 rfl) ?_
     refine rs rfl (s_ld rfl rfl isAgg35 (.o_ rfl)) ?_
     refine rs rfl (s_ld rfl rfl isAgg3 (.o_ rfl)) ?_
     refine rs rfl (s_iaI hav (by omega) (by rw [hao.1]; omega) rfl rfl rfl underlying35 sizeOf3) ?_
     refine rs rfl (s_ldI hav (by omega) (by rw [hao.1]; omega) rfl rfl isAgg3) ?_
     refine rm rfl ?_
     apply run_end
     simp only [Int.toNat_natCast]
     repeat apply wp_seq'
     refine wp_text rfl ?_
     refine rs rfl (s_ld rfl rfl isAgg108 (.o_ rfl)) ?_
     refine rm rfl ?_
     refine rs rfl (s_ia1 rfl rfl rfl underlying108 sizeOf4 (by omega) (by omega)) ?_
     refine rs rfl (s_ld rfl rfl isAgg4 (.rowM (e := 4) (sz := 1) Value.bool false (by repeat first|exact MH _|apply MT) (by first | omega | (simp; omega)))) ?_
     refine rs rfl (s_not rfl rfl) ?_
     apply run_end
     repeat apply wp_seq'
     refine wp_cond' rfl (fun hc43 => ?_) (fun hc43 => ?_)
     ·skip
      repeat apply wp_seq'
      refine wp_text rfl ?_
      refine rs rfl (s_ld rfl rfl isAgg108 (.o_ rfl)) ?_
      refine rm rfl ?_
      refine rs rfl (s_ia1 rfl rfl rfl underlying108 sizeOf4 (by omega) (by omega)) ?_
      refine run_strowM Value.bool rfl rfl rfl rfl rfl rfl rfl rfl sizeOf4 (by repeat first|exact Swap.here|apply Swap.there) (by omega) ?_
      apply run_end
      repeat apply wp_seq'
      refine wp_text rfl ?_
      refine rs rfl (s_ld rfl rfl isAgg35 (.o_ rfl)) ?_
      refine rm rfl ?_
      refine run_bso (parts := [_]) (vs := [_]) rfl rfl rfl rfl rfl rfl (bs35_1 _) fun b49 => ?_
      refine run_app1 (Value.int .i64) _ rfl rfl rfl rfl rfl rfl rfl underlying35 info3 rfl (fun v' => (by repeat first|exact Swap.here|apply Swap.there)) (by repeat first|exact MH _|apply MT) rfl (by omega) (by decide) fun v50 hv50 => ?_
      obtain ⟨A50, c50, rfl⟩ := hv50
      refine run_st rfl rfl rfl rfl rfl rfl rfl rfl sizeOf35 (by repeat first|exact Swap.here|apply Swap.there) rfl ?_
      apply run_end
      have hc44 : sn1.getD ((l.getD i ([], false)).1.getD k 0).toNat false = false := by simpa using hc43
      rw [hc44, if_neg (by decide)] at hstep
      have el : orb.length + 1 = (orb ++ [(l.getD i ([], false)).1.getD k 0]).length := by simp
      rw [el]
      exact re_normal _ ⟨fun _ _ hb => hb, _, orb ++ [(l.getD i ([], false)).1.getD k 0], A50, c50, rfl, hstep, by simpa using hs1, by rw [← el]; omega⟩ ⟨_, .refl _, (by repeat (first|exact NS _|exact SR _|apply SCC|apply SC))⟩
     ·skip
      apply wp_skip'
      have hc44 : sn1.getD ((l.getD i ([], false)).1.getD k 0).toNat false = true := by simpa using hc43
      rw [hc44, if_pos rfl] at hstep
      exact re_normal _ ⟨fun _ _ hb => hb, sn1, orb, A, q, rfl, hstep, hs1, by omega⟩ ⟨_, .refl _, (by repeat (first|exact NS _|exact SR _|apply SCC|apply SC))⟩
    ·skip
     obtain ⟨sn1, orb, A, q, rfl, hin, hs1, hol⟩ := hJ
     have hrd := hrd.mono hh3
     repeat apply wp_seq'
     refine wp_text rfl ?_
     refine rs rfl (s_ld rfl rfl isAgg35 (.o_ rfl)) ?_
     refine run_callM (L := [_]) (M := [_, _, _, _, _]) (vs := [_]) rfl rfl rfl (dst_lt rfl rfl) rfl rfl en91 (List.Perm.refl _) (sortIv_fn orb _ _ _ (by omega)) ?_
     rintro _ h20 _ ⟨rfl, e20, rfl⟩ _
     have e21 := e20.symm
     subst e21
     apply run_end
     refine WP.letO rfl (by repeat first|exact Pick.here|apply Pick.there) (by omega) fun h5 hh5 hov => ?_
     have hrd := hrd.mono hh5
     repeat apply wp_seq'
     refine wp_text rfl ?_
     refine rm rfl ?_
     refine rs rfl (s_ld rfl rfl isAgg35 (.o_ rfl)) ?_
     refine run_bso (parts := [_]) (vs := [_]) rfl rfl rfl rfl rfl rfl (bs26_r hov) fun b55 => ?_
     refine run_app1v _ rfl rfl rfl rfl rfl rfl rfl underlying26 info35 rfl (fun v' => (by repeat first|exact Swap.here|apply Swap.there)) (by repeat first|exact MH _|apply MT) (RdI.one hov) (by omega) (by decide) fun v56 hv56 => ?_
     obtain ⟨A56, c56, rfl⟩ := hv56
     refine rm rfl ?_
     apply run_end
     refine wp_text rfl ?_
     refine rs rfl (s_add rfl rfl rfl (IntWalk.i64_in _ (by omega))) ?_
     refine rm rfl ?_
     apply run_end
     have el : vals.length + 1 = (vals ++ [Value.slice A orb.length q]).length := by simp
     rw [el]
     exact ⟨(h5, k + 1, sn1, vals ++ [.slice A orb.length q], _, outs ++ [sortedI orb]), ⟨fun b o hb => hh5 _ _ (hh3 _ _ (hh2 _ _ (hh1 _ _ hb))), by dsimp only; omega, by dsimp only; rw [orbTo_succ, hto, orbStep, if_neg (by rw [hc29]; decide)]; dsimp only; rw [hin], hs1, hrd.snoc hov, by dsimp only; rw [← el]; omega, _, _, rfl⟩, by dsimp only; omega, ⟨by repeat (first|exact True.intro|refine And.intro rfl ?_), rfl, by repeat (first|exact NS _|exact SR _|apply SCC|apply SC)⟩⟩
  ·skip
   apply wp_exit'
   obtain rfl : k = n := by omega
   repeat apply wp_seq'
   refine wp_text rfl ?_
   refine rm rfl ?_
   refine rm rfl ?_
   refine rm rfl ?_
   apply run_end
   refine WP.letT outs rfl (by repeat first|exact Pick.here|apply Pick.there) (by omega) hrd.1 hrd.2 fun h6 hh6 hrt => ?_
   apply wp_ret'
   refine fin_ret (res_tt rfl rfl rfl) ?_
   rw [hre, hto]
   exact ⟨_, rfl, hrt⟩
end Go.Tal

namespace Go.Tal
open Go.RowKit Go.Proofs Go.Proofs.Tryz _root_.Tal
def actI (l : List Sy) (f : List Int) : Int := if fillI f ≠ 0 then fillI f else groupI l f.length
set_option maxRecDepth 8000 in
theorem eqI_fn (xs ys : List Int) (v u : Value) (h : H) (hx : RdI h v xs) (hy : RdI h u ys) : FnV Tryz.prog 158 #[v, u] h (.bool (decide (xs = ys))) := by
 have hxm := hx.len
 have hym := hy.len
 refine fn_of (vs := [v, u]) func158 rfl ntmps158 (Nat.le_of_ble_eq_true rfl) fun w hw => ?_
 apply wp_seq'
 refine wp_text rfl ?_
 refine rm rfl ?_
 apply run_end
 apply wp_seq'
 apply wp_seq'
 refine wp_text rfl ?_
 refine rm rfl ?_
 refine rs rfl (s_lenI hx rfl rfl underlying35) ?_
 refine rm rfl ?_
 refine rs rfl (s_lenI hy rfl rfl underlying35) ?_
 refine rs rfl (s_ne rfl rfl rfl) ?_
 apply run_end
 refine wp_if' rfl (fun hc10 => ?_) (fun hc10 => ?_)
 ·skip
  apply wp_seq'
  refine wp_text rfl ?_
  refine rm rfl ?_
  apply run_end
  apply wp_ret'
  exact fin_ret (res_tmp rfl rfl) (by have hne : xs ≠ ys := (fun e => hc10 (by rw [e])); simp [hne])
 ·skip
  have hl : xs.length = ys.length := by omega
  apply wp_skip'
  apply wp_seq'
  apply wp_seq'
  refine wp_text rfl ?_
  refine rm rfl ?_
  refine rs rfl (s_lenI hx rfl rfl underlying35) ?_
  refine rm rfl ?_
  apply run_end
  apply wp_block'
  refine wp_loop' (fun i : Nat => i ≤ xs.length ∧ ∀ j, j < i → xs.getD j 0 = ys.getD j 0) (fun i => ⟨[(13, .int .i64 i), (12, .int .i64 xs.length), (1, u), (0, v)], h, []⟩) (fun i => xs.length - i) 0 ⟨Nat.zero_le _, fun _ h => by omega⟩ ⟨by repeat (first|exact True.intro|refine And.intro rfl ?_), rfl, by repeat (first|exact NS _|exact SR _|apply SCC|apply SC)⟩ fun i hi => ?_
  obtain ⟨hi, hn⟩ := hi
  apply wp_seq'
  refine wp_text rfl ?_
  refine rs rfl (s_lt rfl rfl rfl) ?_
  apply run_end
  apply wp_seq'
  refine wp_if' rfl (fun hc14 => ?_) (fun hc14 => ?_)
  ·skip
   apply wp_skip'
   apply wp_seq'
   apply wp_block'
   apply wp_seq'
   refine wp_text rfl ?_
   refine rm rfl ?_
   refine rm rfl ?_
   apply run_end
   apply wp_seq'
   refine wp_any [0, 1, 2, 3, 4, 5, 6, 7, 8] rfl (by kernel_rfl) ?_
   refine rm rfl ?_
   refine rm rfl ?_
   refine rs rfl (s_iaI hx (by omega) (by omega) rfl rfl rfl underlying35 sizeOf3) ?_
   refine rs rfl (s_ldI hx (by omega) (by omega) rfl rfl isAgg3) ?_
   try simp only [Int.toNat_natCast]
   refine rm rfl ?_
   refine rm rfl ?_
   refine rs rfl (s_iaI hy (by omega) (by omega) rfl rfl rfl underlying35 sizeOf3) ?_
   refine rs rfl (s_ldI hy (by omega) (by omega) rfl rfl isAgg3) ?_
   try simp only [Int.toNat_natCast]
   refine rs rfl (s_ne rfl rfl rfl) ?_
   apply run_end
   refine wp_if' rfl (fun hc24 => ?_) (fun hc24 => ?_)
   ·skip
    apply wp_seq'
    refine wp_text rfl ?_
    refine rm rfl ?_
    apply run_end
    apply wp_ret'
    exact fin_ret (res_tmp rfl rfl) (by have hne : xs ≠ ys := ne_at (d := 0) (j := i) (hc24); simp [hne])
   ·skip
    apply wp_skip'
    refine wp_text rfl ?_
    refine rs rfl (s_add rfl rfl rfl (IntWalk.i64_in _ (by omega))) ?_
    refine rm rfl ?_
    apply run_end
    exact ⟨i + 1, ⟨by omega, fun j hj => (Nat.lt_succ_iff_lt_or_eq.1 hj).elim (hn j) (fun e => by rw [e]; exact Decidable.not_not.1 hc24)⟩, by omega, ⟨by repeat (first|exact True.intro|refine And.intro rfl ?_), rfl, by repeat (first|exact NS _|exact SR _|apply SCC|apply SC)⟩⟩
  ·skip
   apply wp_exit'
   apply wp_seq'
   refine wp_text rfl ?_
   refine rm rfl ?_
   apply run_end
   apply wp_ret'
   exact fin_ret (res_tmp rfl rfl) (by have he : xs = ys := ext_of (d := 0) hl (fun j hj => hn j (by omega)); simp [he])
set_option maxRecDepth 8000 in
theorem acting_fn (l : List Sy) (f : List Int) (v u : Value) (h : H) (hl : RdS h v l) (hf : RdI h u f) : FnV Tryz.prog 156 #[v, u] h (.int .i64 (actI l f)) := by
 refine fn_of (vs := [v, u]) func156 rfl ntmps156 (Nat.le_of_ble_eq_true rfl) fun w hw => ?_
 apply wp_seq'
 refine wp_text rfl ?_
 refine rm rfl ?_
 apply run_end
 apply wp_seq'
 apply wp_seq'
 refine wp_text rfl ?_
 refine rm rfl ?_
 refine run_callv (vs := [_]) rfl rfl rfl rfl rfl rfl en134 (fill_fn _ _ _ hf) ?_
 refine rm rfl ?_
 apply run_end
 apply wp_seq'
 refine wp_text rfl ?_
 refine rm rfl ?_
 refine rs rfl (s_ne rfl rfl rfl) ?_
 apply run_end
 refine wp_if' rfl (fun hc9 => ?_) (fun hc9 => ?_)
 ·skip
  apply wp_seq'
  refine wp_text rfl ?_
  refine rm rfl ?_
  refine rm rfl ?_
  apply run_end
  apply wp_ret'
  exact fin_ret (res_tmp rfl rfl) (by simp [actI, hc9])
 ·skip
  apply wp_skip'
  apply wp_seq'
  refine wp_text rfl ?_
  refine rm rfl ?_
  refine rm rfl ?_
  refine rs rfl (s_lenI hf rfl rfl underlying35) ?_
  refine run_callv (vs := [_, _]) rfl rfl rfl rfl rfl rfl en22 (checkGroup_fn _ _ _ _ hl) ?_
  refine rm rfl ?_
  apply run_end
  apply wp_ret'
  exact fin_ret (res_tmp rfl rfl) (by rw [actI, if_neg hc9])
end Go.Tal

/-
 Symbolic states: parts of slices; clear.
-/
namespace Go.Tal
open Go.RowKit
section
variable {P : Program} {o : Oper} {F : List (Nat × Value)} {h : H} {L : List Own} {x y : Operand}
/-- s[k:] -/
theorem s_lo {t e : TypeId} {A : Option Addr} {n c sz : Nat} {k : Nat} (ho : o.op = .slice t x (some y) none none) (hx : evF F x = some (.slice A n c)) (hy : evF F y = some (.int .i64 k)) (ht : P.underlying t = some (.slice e)) (hs : ∀ w, (sizeOf e).run P w = .ok sz w) (hn : k ≤ n) : SoftOk P o F h L (.slice (if c = k then A else A.map (·.add (k * sz))) (n - k) (c - k)) := fun a w ha _ => by
 have h1 := agree_of ha (by rw [ho]; simp [Op.operands]) hx
 have h2 := agree_of ha (x := y) (by rw [ho]; simp [Op.operands]) hy
 simp only [execOp, ho]
 refine run_v ?_
 have hb : (0 : Int) ≤ k ∧ (k : Int) ≤ n := by omega
 simp [Instr.sliceAt, h1, h2, Instr.slice, run_underlying ht, Instr.sliceBounds, Instr.sliceBound, asIntOf, hb, hs w, hn]
/-- s[:k] -/
theorem s_hi {t e : TypeId} {A : Option Addr} {n c sz : Nat} {k : Nat} (ho : o.op = .slice t x none (some y) none) (hx : evF F x = some (.slice A n c)) (hy : evF F y = some (.int .i64 k)) (ht : P.underlying t = some (.slice e)) (hs : ∀ w, (sizeOf e).run P w = .ok sz w) (hn : k ≤ c) : SoftOk P o F h L (.slice (if c = 0 then A else A.map (·.add 0)) k c) := fun a w ha _ => by
 have h1 := agree_of ha (by rw [ho]; simp [Op.operands]) hx
 have h2 := agree_of ha (x := y) (by rw [ho]; simp [Op.operands]) hy
 simp only [execOp, ho]
 refine run_v ?_
 have hb : (0 : Int) ≤ k ∧ (k : Int) ≤ c := by omega
 simp [Instr.sliceAt, h1, h2, Instr.slice, run_underlying ht, Instr.sliceBounds, Instr.sliceBound, asIntOf, hb, hs w, hn]
end
theorem setCells_facts (b : Nat) : ∀ (vs : List Value) (o : Nat) (w : World), (w.setCells b o vs).os = w.os ∧ (w.setCells b o vs).tape = w.tape ∧ (w.setCells b o vs).output = w.output ∧ (w.setCells b o vs).drawn = w.drawn ∧ (w.setCells b o vs).heap.size = w.heap.size ∧ (∀ k, k ≠ b → (w.setCells b o vs).heap[k]? = w.heap[k]?) ∧
 ∀ arr t fz, w.heap[b]? = some (.cells arr t fz) → ∃ arr', (w.setCells b o vs).heap[b]? = some (.cells arr' t fz) ∧ arr'.size = arr.size ∧ ∀ j, j < o → arr'[j]? = arr[j]?
 | [], _, _ => ⟨rfl, rfl, rfl, rfl, rfl, fun _ _ => rfl, fun arr _ _ h => ⟨arr, h, rfl, fun _ _ => rfl⟩⟩
 | v :: r, o, w => by
  obtain ⟨h1, h2, h3, h4, h5, h6, h7⟩ := setCells_facts b r (o + 1) (w.setCell ⟨b, o, none⟩ v)
  refine ⟨h1, h2, h3, h4, by simp, fun k hk => (h6 k hk).trans (Below.heap_setCell w _ v k hk), fun arr t fz hb => ?_⟩
  obtain ⟨arr', e1, e2, e3⟩ := h7 _ t fz (setCell_heap hb v)
  refine ⟨arr', e1, by simpa using e2, fun j hj => ?_⟩
  rw [e3 j (by omega), Array.getElem?_setIfInBounds_ne (by omega)]
section
variable {C : Ctx} {o : Oper} {F : List (Nat × Value)} {h : H} {L L' : List Own} {x : Operand}
theorem h_clear {t e : TypeId} {b n k cap c : Nat} {xs : List Value} {zv : Value} (ho : o.op = .call { callee := .builtin .clear, args := #[x], argTypes := #[t] }) (hx : evF F x = some (.slice (some ⟨b, k, none⟩) (n - k) c)) (hk : k < n) (ht : C.P.underlying t = some (.slice e)) (hz : ∀ w, (zeroValue e).run C.P w = .ok zv w) (hzc : zv.cells = #[zv]) (hz1 : zv.oneCell' = true)
 (p : Swap (.row (.slice (some ⟨b, 0, none⟩) n cap) e 1 n xs) (.row (.slice (some ⟨b, 0, none⟩) k cap) e 1 k (xs.take k)) L L') : HardW C o F h L (fun v' h' L'' => v' = .tuple #[] ∧ h' = h ∧ L'' = L') := fun a w ha _ _ hm => by
 have h1 := agree_of ha (by rw [ho]; simp [Op.operands, Call.operands]) hx
 obtain ⟨L0, p1, _⟩ := p.pick
 have hr : w.ownsRow 0 e 1 (.slice (some ⟨b, 0, none⟩) n cap) n xs := hm.sat.own _ (p1.perm.mem_iff.2 List.mem_cons_self)
 obtain ⟨hl, hr⟩ := hr
 rcases hr with ⟨hr, _⟩ | ⟨g, cap', cur, hr, hb0, hg, hnc, hcm, hsz, htk⟩
 ·cases hr
 cases hr
 obtain ⟨zs, hzs⟩ : ∃ zs, (Builtin.zeroCells zv.cells (n - k)).toList = zs := ⟨_, rfl⟩
 have hzl : zs.length = n - k := by rw [← hzs, Array.length_toList, size_zeroCells, hzc]; simp
 have hz1' : ∀ u ∈ zs, u.oneCell' = true := by
  intro u hu
  rw [← hzs, hzc] at hu
  have : u = zv := by
   simp only [Builtin.zeroCells] at hu
   simp at hu
   first | exact hu.2 | (obtain ⟨_, _, rfl⟩ := hu; rfl) | (obtain ⟨_, _, h2⟩ := hu; rw [← h2]; simp [Nat.mod_one]) | (obtain ⟨_, h2, _⟩ := hu; rw [← h2]; simp [Nat.mod_one])
  rw [this]; exact hz1
 have hst := run_storeCells_cells (P := C.P) b k zs 0 w (fun j hj => by
  have : k + 0 + j < cur.size := by omega
  simp [World.cell?, hg]
  omega) (fun j hj => by simp [World.frozen?, hg]) hz1'
 obtain ⟨f1, f2, f3, f4, f5, f6, f7⟩ := setCells_facts b zs (k + 0) w
 obtain ⟨arr', e1, e2, e3⟩ := f7 _ _ _ hg
 refine upon_val (q := .tuple #[]) (w' := w.setCells b (k + 0) zs) ?_ ⟨.tuple #[], h, L', ⟨rfl, rfl, rfl⟩, rfl, ?_⟩
 ·obtain ⟨m, hm1⟩ : ∃ m, n - k = m + 1 := ⟨n - k - 1, by omega⟩
  rw [hm1] at h1 hzs
  simp [execOp, ho, resolve, h1, invoke, builtin, Builtin.clear_, run_underlying ht, hz w, hzs, hst]
 ·refine hm.swap p rfl (fun c hc => .inl (by cases hc; rfl)) ?_ f1 f2 f3 (by omega) (by omega) (fun j _ hj => f6 j hj)
  refine ⟨by rw [List.length_take, hl]; omega, .inr ⟨b, cap, arr', rfl, Nat.zero_le _, e1, by omega, hcm, by omega, ?_⟩⟩
  rw [← htk, List.take_take]
  apply List.ext_getElem?
  intro j
  rw [List.getElem?_take, List.getElem?_take]
  by_cases hj : j < k * 1
  ·rw [if_pos hj, if_pos (by omega), Array.getElem?_toList, Array.getElem?_toList]
   exact e3 j (by omega)
  ·rw [if_neg hj, if_neg (by omega)]
end
section
variable {dr : Bool} {C : Ctx} {ops : Array Oper} {K : S → Prop} {i : Nat} {r : List Nat} {F : List (Nat × Value)} {h : H} {L L' : List Own} {o : Oper} {x : Operand}
theorem run_clear {t e : TypeId} {b n k cap c : Nat} {xs : List Value} {zv : Value} (ho : ops[i]? = some o) (hop : o.op = .call { callee := .builtin .clear, args := #[x], argTypes := #[t] }) (hg : o.guard = none) (hd : o.dst = none) (hx : evF F x = some (.slice (some ⟨b, k, none⟩) (n - k) c)) (hk : k < n) (ht : C.P.underlying t = some (.slice e)) (hz : ∀ w, (zeroValue e).run C.P w = .ok zv w) (hzc : zv.cells = #[zv]) (hz1 : zv.oneCell' = true)
 (p : Swap (.row (.slice (some ⟨b, 0, none⟩) n cap) e 1 n xs) (.row (.slice (some ⟨b, 0, none⟩) k cap) e 1 k (xs.take k)) L L')
 (kk : Run dr C ops K r ⟨F, h, L'⟩) : Run dr C ops K (i :: r) ⟨F, h, L⟩ :=
 run_hard ho hg (dst_no hd) (by simp [cls, hop]) (fun v' h' L'' => v' = .tuple #[] ∧ h' = h ∧ L'' = L') (fun M => (h_clear hop hx hk ht hz hzc hz1 (p.append M)).imp fun _ _ _ ⟨e1, e2, e3⟩ => ⟨L', ⟨e1, e2, rfl⟩, e3⟩) fun _ _ _ ⟨e1, e2, e3⟩ => by subst e1 e2 e3; rw [hd]; exact ⟨fun _ hc => by simp [cls, hop] at hc, kk⟩
end
theorem res_cac {P : Program} {fn : Func} {s : S} {t u b1 b2 : Nat} {e1 e2 : TypeId} {v0 v1 v2 : Value} (h : fn.results = #[.cell t e1, .cell u e2]) (ht : s.F.lookup t = some (.pointer (some ⟨b1, 0, none⟩))) (hu : s.F.lookup u = some (.pointer (some ⟨b2, 0, none⟩)))
 (g1 : ∀ w, (isAgg e1).run P w = .ok true w) (z1 : ∀ w, (sizeOf e1).run P w = .ok 2 w) (g2 : ∀ w, (isAgg e2).run P w = .ok false w) (c0 : Cell s.h s.L b1 0 v0) (c1 : Cell s.h s.L b1 1 v1) (c2 : Cell s.h s.L b2 0 v2) : ResOk P fn s (.tuple #[.agg #[v0, v1], v2]) := fun a w hsl hsat => by
 have ha : ∀ b, (asAddr (.pointer (some ⟨b, 0, none⟩))).run P w = .ok ⟨b, 0, none⟩ w := fun _ => rfl
 have := run_cells (P := P) (w := w) (b := b1) (o' := 0) (vs := [v0, v1]) (fun j v hj => by
  match j, hj with
  | 0, hj => cases hj; exact c0.at_ hsat
  | 1, hj => cases hj; exact c1.at_ hsat) 2 0 #[] (by simp) (by simp)
 have h1 : (loadVar e1 ⟨b1, 0, none⟩).run P w = .ok (.agg #[v0, v1]) w := by simp [loadVar, g1 w, z1 w, loadCells, this]
 simp [results, h, hsl t _ ht, hsl u _ hu, ha, h1, run_loadVar1 g2 (c2.at_ hsat)]
end Go.Tal

namespace Go.Tal
open Go.RowKit Go.Proofs Go.Proofs.Tryz _root_.Tal
/-- Neighbours that are equal, once. -/
def ddStep {α : Type} [DecidableEq α] (acc : List α) (x : α) : List α := if acc.getLast? = some x then acc else acc ++ [x]
def ddTo {α : Type} [DecidableEq α] (l : List α) (m : Nat) : List α := (l.take m).foldl ddStep []
def ddup {α : Type} [DecidableEq α] (l : List α) : List α := l.foldl ddStep []
theorem ddTo_last {α : Type} [DecidableEq α] (l : List α) : ∀ m, m < l.length → (ddTo l (m + 1)).getLast? = l[m]? := fun m hm => by
 rw [ddTo, List.take_succ_eq_append_getElem hm, List.foldl_append, List.foldl_cons, List.foldl_nil, ddStep, List.getElem?_eq_getElem hm]
 split
 ·assumption
 ·simp
theorem ddTo_succ {α : Type} [DecidableEq α] {d : α} {l : List α} {m : Nat} (h0 : 0 < m) (hm : m < l.length) : ddTo l (m + 1) = if l.getD m d = l.getD (m - 1) d then ddTo l m else ddTo l m ++ [l.getD m d] := by
 obtain ⟨m, rfl⟩ : ∃ k, m = k + 1 := ⟨m - 1, by omega⟩
 have h1 := ddTo_last l m (by omega)
 conv => { lhs; rw [ddTo, List.take_succ_eq_append_getElem hm, List.foldl_append, List.foldl_cons, List.foldl_nil] }
 rw [← ddTo, ddStep, h1, Nat.add_sub_cancel]
 simp only [List.getD_eq_getElem?_getD, List.getElem?_eq_getElem hm, List.getElem?_eq_getElem (show m < l.length by omega), Option.getD_some, Option.some.injEq]
 by_cases e : l[m] = l[m + 1]
 ·rw [if_pos e, if_pos e.symm]
 ·rw [if_neg e, if_neg (fun e2 => e e2.symm)]
theorem ddTo_all {α : Type} [DecidableEq α] (l : List α) : ddTo l l.length = ddup l := by rw [ddTo, List.take_length]; rfl
theorem ddTo_one {α : Type} [DecidableEq α] {l : List α} (h : 0 < l.length) : ddTo l 1 = l.take 1 := by
 cases l with
 | nil => simp at h
 | cons a l => simp [ddTo, ddStep]
/-- Values, told one by one. -/
def RdAt (h : H) (vals : List Value) (j : Nat) (xs : List Int) : Prop := ∃ sv, vals[j]? = some sv ∧ RdI h sv xs
theorem AllRd.take {h : H} {vals : List Value} {outs : List (List Int)} (r : AllRd h vals outs) (k : Nat) : AllRd h (vals.take k) (outs.take k) := by
 refine ⟨by simp [r.1], fun j hj => ?_⟩
 have hj' : j < k ∧ j < vals.length := by simp at hj; omega
 obtain ⟨sv, h1, h2⟩ := r.2 j hj'.2
 refine ⟨sv, by rw [List.getElem?_take, if_pos hj'.1]; exact h1, ?_⟩
 have e : (outs.take k).getD j [] = outs.getD j [] := by simp only [List.getD_eq_getElem?_getD, List.getElem?_take, if_pos hj'.1]
 rw [e]; exact h2
theorem take_set_snoc {α : Type} {l : List α} {k : Nat} {x : α} (hk : k < l.length) : (l.set k x).take (k + 1) = l.take k ++ [x] := by
 rw [List.take_succ_eq_append_getElem (by simpa using hk)]
 simp [List.take_set_of_le]
theorem drop_set_lt {α : Type} {l : List α} {k m : Nat} {x : α} (h : k < m) : (l.set k x).drop m = l.drop m := by
 rw [List.drop_set, if_pos h]
def compR (h : H) (outs : List (List Int)) (r : Value) (L' : List Own) : Prop := ∃ vals A c, r = .slice A (vals : List Value).length c ∧ L' = [.row r 35 1 vals.length vals] ∧ AllRd h vals (ddup outs)
set_option maxRecDepth 8000 in
set_option maxHeartbeats 4000000 in
theorem compact_fn (outs : List (List Int)) (vals : List Value) (v : Value) (h : H) (n : Nat) (hn : vals.length = n) (hv : ∃ A c, v = .slice A n c) (hm : n ≤ 4294967296) (hrd : AllRd h vals outs) : FnM Tryz.prog 202 #[v, .func (.func 158) #[] #[]] h [.row v 35 1 n vals] fun r h' L' => h' = h ∧ compR h outs r L' := by
 obtain ⟨A, c, rfl⟩ := hv
 have hol : outs.length = n := by rw [hrd.1, hn]
 refine fnM_of (vs := [.slice A n c, .func (.func 158) #[] #[]]) func202 rfl ntmps202 (Nat.le_of_ble_eq_true rfl) fun w hw => ?_
 repeat apply wp_seq'
 refine wp_text rfl ?_
 refine rm rfl ?_
 apply run_end
 repeat apply wp_seq'
 refine wp_text rfl ?_
 refine rm rfl ?_
 refine rs rfl (s_len rfl rfl underlying26) ?_
 refine rs rfl (s_lt rfl rfl rfl) ?_
 apply run_end
 repeat apply wp_seq'
 refine wp_if' rfl (fun hc10 => ?_) (fun hc10 => ?_)
 ·skip
  repeat apply wp_seq'
  refine wp_text rfl ?_
  refine rm rfl ?_
  refine rm rfl ?_
  apply run_end
  apply wp_ret'
  refine finM_ret [.row (.slice A n c) 35 1 n vals] (res_tmp rfl rfl) ⟨_, .refl _, (by repeat (first|exact NS _|exact SR _|apply SCC|apply SC))⟩ ⟨rfl, ?_⟩
  subst hn
  refine ⟨vals, A, c, rfl, rfl, ?_⟩
  have : ddup outs = outs := by
   match outs, hol with
   | [], _ => rfl
   | [x], _ => rfl
   | _ :: _ :: _, he => simp at he; omega
  rw [this]
  exact hrd
 ·skip
  apply wp_skip'
  refine WP.rowAt (v := .slice A n c) (n := n) (xs := vals) (e := 35) (sz := 1) (by repeat first|exact Pick.here|apply Pick.there) (by omega) (fun hrow _ => ?_)
  obtain ⟨b, cu, eu, hcu⟩ := hrow
  cases eu
  repeat apply wp_seq'
  refine wp_text rfl ?_
  refine rm rfl ?_
  apply run_end
  repeat apply wp_seq'
  apply wp_block'
  refine wp_loop' (ι := Nat) (fun k => 1 ≤ k ∧ k ≤ n ∧ ddTo outs k = outs.take k) (fun k => ⟨[(5, .int .i64 k), (1, .func (.func 158) #[] #[]), (0, (.slice (some ⟨b, 0, none⟩) n c))], h, [.row (.slice (some ⟨b, 0, none⟩) n c) 35 1 n vals]⟩) (fun k => n - k) 1 ⟨Nat.le_refl _, by omega, ddTo_one (by omega)⟩ ⟨by repeat (first|exact True.intro|refine And.intro rfl ?_), rfl, by repeat (first|exact NS _|exact SR _|apply SCC|apply SC)⟩ fun k hk => ?_
  obtain ⟨hk1, hkn, hdd⟩ := hk
  repeat apply wp_seq'
  refine wp_text rfl ?_
  refine rm rfl ?_
  refine rm rfl ?_
  refine rs rfl (s_len rfl rfl underlying26) ?_
  refine rs rfl (s_lt rfl rfl rfl) ?_
  apply run_end
  repeat apply wp_seq'
  refine wp_if' rfl (fun hc15 => ?_) (fun hc15 => ?_)
  ·skip
   apply wp_skip'
   obtain ⟨v1, e1, r1⟩ := hrd.2 k (by omega)
   obtain ⟨v0, e0, r0⟩ := hrd.2 (k - 1) (by omega)
   have hstep := ddTo_succ (d := []) (l := outs) (m := k) (by omega) (by omega)
   repeat apply wp_seq'
   apply wp_block'
   repeat apply wp_seq'
   refine wp_any [0, 1, 2, 3, 4, 5, 6, 7, 8, 9, 10] rfl (by kernel_rfl) ?_
   refine rm rfl ?_
   refine rm rfl ?_
   refine rm rfl ?_
   refine rs rfl (s_ia rfl rfl rfl underlying26 sizeOf35 (by omega) (by omega)) ?_
   refine rs rfl (s_ld (v := v1) rfl rfl isAgg35 (.row 35 1 _ _ _ (by repeat first|exact MH _|apply MT) (by simpa using e1))) ?_
   refine rm rfl ?_
   refine rm rfl ?_
   refine rs rfl (s_sub (q := ((k - 1 : Nat) : Int)) rfl rfl rfl (by rw [show (k : Int) - 1 = ((k - 1 : Nat) : Int) from by omega]; exact IntWalk.i64_in _ (by omega))) ?_
   refine rs rfl (s_ia rfl rfl rfl underlying26 sizeOf35 (by omega) (by omega)) ?_
   refine rs rfl (s_ld (v := v0) rfl rfl isAgg35 (.row 35 1 _ _ _ (by repeat first|exact MH _|apply MT) (by simpa using e0))) ?_
   refine run_callwv (vs := [_, _]) rfl rfl rfl rfl rfl rfl rfl en158 (eqI_fn _ _ _ _ _ r1 r0) ?_
   apply run_end
   repeat apply wp_seq'
   refine wp_if' rfl (fun hc28 => ?_) (fun hc28 => ?_)
   ·skip
    rw [if_pos hc28] at hstep
    repeat apply wp_seq'
    refine wp_text rfl ?_
    refine rm rfl ?_
    refine rm rfl ?_
    refine rs rfl (s_lo rfl rfl rfl underlying26 sizeOf35 (by omega)) ?_
    refine rm rfl ?_
    apply run_end
    rw [if_neg (show ¬ c = k by omega)]
    simp only [Option.map_some, add_none, Nat.zero_add, Nat.mul_one]
    repeat apply wp_seq'
    refine wp_text rfl ?_
    refine rm rfl ?_
    apply run_end
    repeat apply wp_seq'
    apply wp_block'
    refine wp_loop' (ι := Nat × Nat × List Value) (fun x => x.1 ≤ x.2.1 + k - 1 ∧ k ≤ x.1 ∧ 1 ≤ x.2.1 ∧ x.2.1 ≤ n - k ∧ x.2.2.length = n ∧ x.2.2.drop (k + x.2.1 - 1) = vals.drop (k + x.2.1 - 1) ∧ AllRd h (x.2.2.take x.1) (ddTo outs (k + x.2.1))) (fun x => ⟨[(7, .int .i64 x.2.1), (6, (.slice (some ⟨b, k, none⟩) (n - k) (c - k))), (5, .int .i64 x.1), (1, .func (.func 158) #[] #[]), (0, (.slice (some ⟨b, 0, none⟩) n c))], h, [.row (.slice (some ⟨b, 0, none⟩) n c) 35 1 n x.2.2]⟩) (fun x => n - x.2.1) (k, 1, vals) ⟨by dsimp only; omega, Nat.le_refl _, Nat.le_refl _, by dsimp only; omega, hn, rfl, by dsimp only; rw [hstep, hdd]; exact hrd.take k⟩ ⟨by repeat (first|exact True.intro|refine And.intro rfl ?_), rfl, by repeat (first|exact NS _|exact SR _|apply SCC|apply SC)⟩ fun x hx => ?_
    obtain ⟨p, q, vs⟩ := x
    obtain ⟨hpq, hkp, hq1, hqn, hvs, hdr, hrp⟩ := hx
    dsimp only at hpq hkp hq1 hqn hvs hdr hrp ⊢
    repeat apply wp_seq'
    refine wp_text rfl ?_
    refine rm rfl ?_
    refine rm rfl ?_
    refine rs rfl (s_len rfl rfl underlying26) ?_
    refine rs rfl (s_lt rfl rfl rfl) ?_
    apply run_end
    repeat apply wp_seq'
    refine wp_if' rfl (fun hc35 => ?_) (fun hc35 => ?_)
    ·skip
     apply wp_skip'
     obtain ⟨w1, f1, s1⟩ := hrd.2 (k + q) (by omega)
     obtain ⟨w0, f0, s0⟩ := hrd.2 (k + q - 1) (by omega)
     have hst2 := ddTo_succ (d := []) (l := outs) (m := k + q) (by omega) (by omega)
     have g1 : vs[k + q]? = some w1 := by have := congrArg (fun l => l[1]?) hdr; simp only [List.getElem?_drop] at this; rw [show k + q - 1 + 1 = k + q from by omega] at this; rw [this]; exact f1
     have g0 : vs[k + q - 1]? = some w0 := by have := congrArg (fun l => l[0]?) hdr; simp only [List.getElem?_drop, Nat.add_zero] at this; rw [this]; exact f0
     repeat apply wp_seq'
     apply wp_block'
     repeat apply wp_seq'
     refine wp_any [0, 1, 2, 3, 4, 5, 6, 7, 8, 9, 10, 11] rfl (by kernel_rfl) ?_
     refine rm rfl ?_
     refine rm rfl ?_
     refine rm rfl ?_
     refine rs rfl (s_ia rfl rfl rfl underlying26 sizeOf35 (by omega) (by omega)) ?_
     refine rs rfl (s_ld (v := w1) rfl rfl isAgg35 (.row 35 1 _ _ _ (by repeat first|exact MH _|apply MT) (by simpa using g1))) ?_
     refine rm rfl ?_
     refine rm rfl ?_
     refine rs rfl (s_sub (q := ((q - 1 : Nat) : Int)) rfl rfl rfl (by rw [show (q : Int) - 1 = ((q - 1 : Nat) : Int) from by omega]; exact IntWalk.i64_in _ (by omega))) ?_
     refine rs rfl (s_ia rfl rfl rfl underlying26 sizeOf35 (by omega) (by omega)) ?_
     refine rs rfl (s_ld (v := w0) rfl rfl isAgg35 (.row 35 1 _ _ _ (by repeat first|exact MH _|apply MT) (by rw [Int.toNat_natCast, Nat.mul_one, show k + (q - 1) = k + q - 1 from by omega]; exact g0))) ?_
     refine run_callwv (vs := [_, _]) rfl rfl rfl rfl rfl rfl rfl en158 (eqI_fn _ _ _ _ _ s1 s0) ?_
     refine rs rfl (s_not rfl rfl) ?_
     apply run_end
     repeat apply wp_seq'
     refine wp_cond' rfl (fun hc49 => ?_) (fun hc49 => ?_)
     ·skip
      have hne : ¬ outs.getD (k + q) [] = outs.getD (k + q - 1) [] := by simpa using hc49
      rw [if_neg hne] at hst2
      repeat apply wp_seq'
      refine wp_text rfl ?_
      refine rm rfl ?_
      refine rm rfl ?_
      refine rm rfl ?_
      refine rm rfl ?_
      refine rs rfl (s_ia rfl rfl rfl underlying26 sizeOf35 (by omega) (by omega)) ?_
      refine rs rfl (s_ld (v := w1) rfl rfl isAgg35 (.row 35 1 _ _ _ (by repeat first|exact MH _|apply MT) (by simpa using g1))) ?_
      refine rs rfl (s_ia rfl rfl rfl underlying26 sizeOf35 (by omega) (by omega)) ?_
      have hcell : w1.cells = #[w1] := by obtain ⟨_, _, e, _⟩ := s1; rw [e]; rfl
      refine run_strow (n := n) rfl rfl rfl rfl rfl rfl s1.one hcell sizeOf35 (by repeat first|exact Swap.here|apply Swap.there) (by simp only [Int.toNat_natCast]; omega) ?_
      apply run_end
      simp only [Int.toNat_natCast, Nat.mul_one, Nat.zero_add]
      repeat apply wp_seq'
      refine wp_text rfl ?_
      refine rm rfl ?_
      refine rs rfl (s_add rfl rfl rfl (IntWalk.i64_in _ (by omega))) ?_
      refine rm rfl ?_
      apply run_end
      repeat apply wp_seq'
      refine wp_text rfl ?_
      refine rm rfl ?_
      refine rs rfl (s_add rfl rfl rfl (IntWalk.i64_in _ (by omega))) ?_
      refine rm rfl ?_
      apply run_end
      refine ⟨(p + 1, q + 1, vs.set p w1), ⟨by dsimp only; omega, by dsimp only; omega, by dsimp only; omega, by dsimp only; omega, by simpa using hvs, ?_, ?_⟩, by dsimp only; omega, ⟨by repeat (first|exact True.intro|refine And.intro rfl ?_), rfl, by repeat (first|exact NS _|exact SR _|apply SCC|apply SC)⟩⟩
      ·dsimp only; rw [show k + (q + 1) - 1 = (k + q - 1) + 1 from by omega, drop_set_lt (by omega), ← List.drop_drop, hdr, List.drop_drop]
      ·dsimp only; rw [take_set_snoc (by omega), show k + (q + 1) = k + q + 1 from by omega, hst2]; exact hrp.snoc s1
     ·skip
      apply wp_skip'
      have hne : outs.getD (k + q) [] = outs.getD (k + q - 1) [] := by simpa using hc49
      rw [if_pos hne] at hst2
      repeat apply wp_seq'
      refine wp_text rfl ?_
      refine rm rfl ?_
      refine rs rfl (s_add rfl rfl rfl (IntWalk.i64_in _ (by omega))) ?_
      refine rm rfl ?_
      apply run_end
      refine ⟨(p, q + 1, vs), ⟨by dsimp only; omega, hkp, by dsimp only; omega, by dsimp only; omega, hvs, ?_, ?_⟩, by dsimp only; omega, ⟨by repeat (first|exact True.intro|refine And.intro rfl ?_), rfl, by repeat (first|exact NS _|exact SR _|apply SCC|apply SC)⟩⟩
      ·dsimp only; rw [show k + (q + 1) - 1 = (k + q - 1) + 1 from by omega, ← List.drop_drop, hdr, List.drop_drop]
      ·dsimp only; rw [show k + (q + 1) = k + q + 1 from by omega, hst2]; exact hrp
    ·skip
     apply wp_exit'
     have hq2 : k + q = n := by omega
     rw [hq2] at hrp
     rw [← hol, ddTo_all] at hrp
     have hpn : p < n := by omega
     repeat apply wp_seq'
     refine wp_text rfl ?_
     refine rm rfl ?_
     refine rm rfl ?_
     refine rs rfl (s_lo rfl rfl rfl underlying26 sizeOf35 (by omega)) ?_
     rw [if_neg (show ¬ c = p by omega)]
     simp only [Option.map_some, add_none, Nat.zero_add, Nat.mul_one]
     refine run_clear rfl rfl rfl rfl rfl hpn underlying26 zeroValue35 rfl rfl (by repeat first|exact Swap.here|apply Swap.there) ?_
     apply run_end
     repeat apply wp_seq'
     refine wp_text rfl ?_
     refine rm rfl ?_
     refine rm rfl ?_
     refine rs rfl (s_hi rfl rfl rfl underlying26 sizeOf35 (by omega)) ?_
     refine rm rfl ?_
     apply run_end
     rw [if_neg (show ¬ c = 0 by omega)]
     simp only [Option.map_some, add_none, Nat.zero_add]
     apply wp_ret'
     refine finM_ret [.row (.slice (some ⟨b, 0, none⟩) p c) 35 1 p (vs.take p)] (res_tmp rfl rfl) ⟨_, .refl _, (by repeat (first|exact NS _|exact SR _|apply SCC|apply SC))⟩ ⟨rfl, ?_⟩
     have hlp : (vs.take p).length = p := by rw [List.length_take]; omega
     exact ⟨vs.take p, some ⟨b, 0, none⟩, c, by rw [hlp], by rw [hlp], hrp⟩
   ·skip
    apply wp_skip'
    rw [if_neg hc28] at hstep
    refine wp_text rfl ?_
    refine rm rfl ?_
    refine rs rfl (s_add rfl rfl rfl (IntWalk.i64_in _ (by omega))) ?_
    refine rm rfl ?_
    apply run_end
    exact ⟨k + 1, ⟨by omega, by omega, by rw [hstep, hdd, List.take_succ_eq_append_getElem (by omega)]; simp [List.getD_eq_getElem?_getD, List.getElem?_eq_getElem (show k < outs.length by omega)]⟩, by omega, ⟨by repeat (first|exact True.intro|refine And.intro rfl ?_), rfl, by repeat (first|exact NS _|exact SR _|apply SCC|apply SC)⟩⟩
  ·skip
   apply wp_exit'
   obtain rfl : k = n := by omega
   repeat apply wp_seq'
   refine wp_text rfl ?_
   refine rm rfl ?_
   refine rm rfl ?_
   apply run_end
   apply wp_ret'
   refine finM_ret [.row (.slice (some ⟨b, 0, none⟩) k c) 35 1 k vals] (res_tmp rfl rfl) ⟨_, .refl _, (by repeat (first|exact NS _|exact SR _|apply SCC|apply SC))⟩ ⟨rfl, ?_⟩
   subst hn
   refine ⟨vals, _, c, rfl, rfl, ?_⟩
   rw [← ddTo_all, hol, hdd, ← hol, List.take_length]
   exact hrd
end Go.Tal

namespace Go.Tal
open Go.RowKit Go.Proofs Go.Proofs.Tryz _root_.Tal
def lexLt (x y : List Int) : Bool := decide (lexCmp x y < 0)
theorem sLin_lexLt : SLin lexLt := sLin_lex
theorem ddup_go {α : Type} [DecidableEq α] {lt : α → α → Bool} (h : SLin lt) : ∀ (rest acc : List α), Asc lt acc → (acc ++ rest).Pairwise (fun x y => lt y x = false) → Asc lt (rest.foldl ddStep acc) ∧ ∀ z, z ∈ rest.foldl ddStep acc ↔ z ∈ acc ∨ z ∈ rest
 | [], acc, ha, _ => ⟨ha, fun z => by simp⟩
 | x :: rest, acc, ha, hp => by
  rw [List.foldl_cons]
  have hpx : ∀ z ∈ acc, lt x z = false := fun z hz => (List.pairwise_append.1 hp).2.2 z hz x List.mem_cons_self
  by_cases e : acc.getLast? = some x
  ·have hs : ddStep acc x = acc := by rw [ddStep, if_pos e]
   rw [hs]
   have hx : x ∈ acc := List.mem_of_getLast? e
   obtain ⟨h1, h2⟩ := ddup_go h rest acc ha (hp.sublist ((List.Sublist.refl acc).append (List.sublist_cons_self x rest)))
   refine ⟨h1, fun z => ?_⟩
   rw [h2]
   constructor
   ·rintro (h3 | h3)
    ·exact .inl h3
    ·exact .inr (List.mem_cons_of_mem _ h3)
   ·rintro (h3 | h3)
    ·exact .inl h3
    ·rcases List.mem_cons.1 h3 with rfl | h3
     ·exact .inl hx
     ·exact .inr h3
  ·have hs : ddStep acc x = acc ++ [x] := by rw [ddStep, if_neg e]
   rw [hs]
   have hasc : Asc lt (acc ++ [x]) := by
    refine List.pairwise_append.2 ⟨ha, List.pairwise_singleton _ _, fun z hz y hy => ?_⟩
    rw [List.mem_singleton] at hy
    subst hy
    cases h3 : lt z y with
    | true => rfl
    | false =>
     exfalso
     have hzy : z = y := h.total h3 (hpx z hz)
     subst hzy
     -- z is in acc, not the last
     obtain ⟨p, q, rfl⟩ := List.append_of_mem hz
     cases hq : q with
     | nil => subst hq; simp at e
     | cons y' q' =>
      subst hq
      have h4 : lt z y' = true := by
       have := (List.pairwise_append.1 ha).2.1
       exact (List.pairwise_cons.1 this).1 y' List.mem_cons_self
      have h5 := hpx y' (by simp)
      rw [h4] at h5
      cases h5
   obtain ⟨h1, h2⟩ := ddup_go h rest (acc ++ [x]) hasc (by rw [List.append_assoc]; exact hp)
   refine ⟨h1, fun z => ?_⟩
   rw [h2]
   simp [or_assoc]
theorem ddup_sorted {α : Type} [DecidableEq α] {lt : α → α → Bool} (h : SLin lt) {l l' : List α} (hp : l'.Perm l) (hs : l'.Pairwise fun x y => lt y x = false) : ddup l' = sorted lt l := by
 obtain ⟨h1, h2⟩ := ddup_go h l' [] List.Pairwise.nil hs
 refine Asc.ext h h1 (asc_sorted h l) fun z => ?_
 rw [_root_.Tal.mem_sorted h, ← hp.mem_iff]
 exact (h2 z).trans (by simp)
theorem swo_lex {α : Type} (f : α → List Int) : Go.Sort.SWO (Go.Proofs.ltOf fun x y : α => lexCmp (f x) (f y)) where
 irrefl x := sLin_lexLt.irrefl (f x)
 trans x y z h1 h2 := sLin_lexLt.trans h1 h2
 ntrans x y z h1 h2 := by
  change lexLt (f x) (f y) = false at h1
  change lexLt (f y) (f z) = false at h2
  change lexLt (f x) (f z) = false
  cases h3 : lexLt (f x) (f z) with
  | false => rfl
  | true =>
   cases h4 : lexLt (f y) (f x) with
   | true => rw [sLin_lexLt.trans h4 h3] at h2; cases h2
   | false => rw [sLin_lexLt.total h1 h4, h2] at h3; cases h3
instance {h : H} : Inhabited {p : Value × List Int // RdI h p.1 p.2} := ⟨⟨(.slice none 0 0, []), RdI.nil h 0⟩⟩
theorem allRd_zip {h : H} {vals : List Value} {outs : List (List Int)} (r : AllRd h vals outs) : ∀ p ∈ vals.zip outs, RdI h p.1 p.2 := fun p hp => by
 obtain ⟨j, hj, e⟩ := List.getElem_of_mem hp
 have h1 : j < vals.length ∧ j < outs.length := by rw [List.length_zip] at hj; omega
 obtain ⟨sv, h2, h3⟩ := r.2 j h1.1
 rw [List.getElem_zip] at e
 subst e
 rw [List.getElem?_eq_getElem h1.1] at h2
 cases h2
 rw [List.getD_eq_getElem?_getD, List.getElem?_eq_getElem h1.2] at h3
 exact h3
theorem allRd_of {h : H} {ps : List (Value × List Int)} (hr : ∀ p ∈ ps, RdI h p.1 p.2) : AllRd h (ps.map (·.1)) (ps.map (·.2)) := by
 refine ⟨by simp, fun j hj => ?_⟩
 have hj' : j < ps.length := by simpa using hj
 exact ⟨ps[j].1, by simp [hj'], by simpa [List.getD_eq_getElem?_getD, hj'] using hr ps[j] (List.getElem_mem hj')⟩
/-- slices.SortFunc over a row of lists. -/
theorem sortL_fn (vals : List Value) (outs : List (List Int)) (h : H) (b n cap : Nat) (hrd : AllRd h vals outs) (hn : vals.length = n) (hm : n ≤ 4294967296) : FnM Tryz.prog 200 #[.slice (some ⟨b, 0, none⟩) n cap, .func (.func 201) #[] #[]] h [.row (.slice (some ⟨b, 0, none⟩) n cap) 35 1 n vals] fun v h' L' => v = .tuple #[] ∧ h' = h ∧ ∃ vals' outs', AllRd h vals' outs' ∧ vals'.length = n ∧ outs'.Perm outs ∧ outs'.Pairwise (fun x y => lexLt y x = false) ∧ L' = [.row (.slice (some ⟨b, 0, none⟩) n cap) 35 1 n vals'] := by
 have hus' : ∀ p ∈ vals.zip outs, RdI h p.1 p.2 := allRd_zip hrd
 have hv : ((vals.zip outs).attachWith (fun p => RdI h p.1 p.2) hus').map Subtype.val = vals.zip outs := List.attachWith_map_subtype_val _
 have hv1 : ((vals.zip outs).attachWith (fun p => RdI h p.1 p.2) hus').map (fun x => x.1.1) = vals := by
  have e := congrArg (List.map Prod.fst) hv
  rw [List.map_map] at e
  refine Eq.trans e ?_
  exact List.map_fst_zip (by rw [hrd.1]; exact Nat.le_refl _)
 have hv2 : ((vals.zip outs).attachWith (fun p => RdI h p.1 p.2) hus').map (fun x => x.1.2) = outs := by
  have e := congrArg (List.map Prod.snd) hv
  rw [List.map_map] at e
  refine Eq.trans e ?_
  exact List.map_snd_zip (by rw [hrd.1]; exact Nat.le_refl _)
 have h1 := sort1_fn (ρ := Tryz.sortL_ren) (P := Tryz.prog) (h := h) (e := 35) (n := n) (cap := cap) (b := b) Tryz.sortL (fun x : {p : Value × List Int // RdI h p.1 p.2} => x.1.1) (fun x => x.2.one) (fun x y => lexCmp x.1.2 y.1.2) (swo_lex fun x : {p : Value × List Int // RdI h p.1 p.2} => x.1.2) 201 #[] ((vals.zip outs).attachWith (fun p => RdI h p.1 p.2) hus') en201 (fun x y => lexCmp_fn x.1.2 y.1.2 x.1.1 y.1.1 h x.2 y.2) (by rw [List.length_attachWith, List.length_zip, hrd.1]; omega) (by omega)
 rw [hv1] at h1
 intro w hs
 refine (h1 w hs).mono fun e w' ⟨v, h', L', he, ⟨e1, e2, d', hp, hso, eL⟩, hm'⟩ => ⟨v, h', L', he, ⟨e1, e2, d'.map (fun x => x.1.1), d'.map (fun x => x.1.2), ?_, ?_, ?_, ?_, eL⟩, hm'⟩
 ·have := allRd_of (h := h) (ps := d'.map Subtype.val) (fun p hp => by obtain ⟨x, _, rfl⟩ := List.mem_map.1 hp; exact x.2)
  rw [List.map_map, List.map_map] at this
  exact this
 ·rw [List.length_map, hp.length_eq, List.length_attachWith, List.length_zip, hrd.1]; omega
 ·have := hp.map (fun x => x.1.2)
  rw [hv2] at this
  exact this
 ·rw [List.pairwise_map]
  exact hso
def imgs (l : List Sy) (f : List Int) : List (List Int) := l.map fun a => imgI a.1 a.2 f
def imagesO (l : List Sy) (f : List Int) : List (List Int) × Int := if (imgs l f).any (fun g => g.any farI) then ([], 3) else (sorted lexLt (imgs l f), 0)
theorem imgs_take (l : List Sy) (f : List Int) {i : Nat} (hi : i < l.length) : (imgs l f).take (i + 1) = (imgs l f).take i ++ [imgI (l.getD i ([], false)).1 (l.getD i ([], false)).2 f] := by
 have hi' : i < (imgs l f).length := by simpa [imgs] using hi
 rw [List.take_succ_eq_append_getElem hi']
 simp [imgs, List.getD_eq_getElem?_getD, List.getElem?_eq_getElem hi]
theorem imgs_mem {l : List Sy} {f : List Int} {i : Nat} (hi : i < l.length) : imgI (l.getD i ([], false)).1 (l.getD i ([], false)).2 f ∈ imgs l f := List.mem_map.2 ⟨_, getD_mem' hi, rfl⟩
set_option maxRecDepth 8000 in
set_option maxHeartbeats 4000000 in
theorem images_fn (l : List Sy) (f : List Int) (v u : Value) (h : H) (hl : RdS h v l) (hf : RdI h u f) (hl0 : 0 < l.length) (hok : ∀ a ∈ l, Ok f.length a) (hf0 : fillI f = 0) : Fn Tryz.prog 157 #[v, u] h fun r h' => ∃ sv, r = .tuple #[sv, .int .i64 (imagesO l f).2] ∧ RdT h' sv (imagesO l f).1 := by
 have hlm := hl.len
 obtain ⟨uA, uc, eu, _⟩ := id hf
 subst eu
 refine fn_of (vs := [v, .slice uA f.length uc]) func157 rfl ntmps157 (Nat.le_of_ble_eq_true rfl) fun w hw => ?_
 repeat apply wp_seq'
 refine wp_text rfl ?_
 refine run_box rfl rfl rfl rfl rfl rfl rfl fun b3 => ?_
 refine run_alloc rfl rfl rfl rfl rfl zeroValue26 rfl fun b4 => ?_
 refine run_alloc rfl rfl rfl rfl rfl zeroValue27 rfl fun b5 => ?_
 apply run_end
 repeat apply wp_seq'
 refine wp_text rfl ?_
 refine run_alloc rfl rfl rfl rfl rfl zeroValue26 rfl fun b6 => ?_
 apply run_end
 repeat apply wp_seq'
 refine wp_text rfl ?_
 refine rm rfl ?_
 refine run_call (vs := [_]) rfl rfl rfl rfl rfl rfl en90 (all_fn v _ (by obtain ⟨A, q, rfl, _⟩ := hl; rfl)) ?_
 intro v11 h2 ⟨box, e11, hbox⟩ hh2
 subst e11
 have hl := hl.mono hh2
 have hf := hf.mono hh2
 apply run_end
 repeat apply wp_seq'
 apply wp_block'
 refine WP.nilrow 35 1 ?_
 refine wp_all rfl rfl rfl hbox hl rfl rfl rfl (fun i h' L => ∃ (vals : List Value) (A : Option Addr) (q : Nat), L = [.row (.slice A vals.length q) 35 1 vals.length vals, .obj b6 (.cells #[.slice A vals.length q] 26 (0, 0)), .obj b5 (.cells #[.int .i64 0] 27 (0, 0)), .obj b4 (.cells #[.slice none 0 0] 26 (0, 0)), .obj b3 (.cells #[(.slice uA f.length uc)] 35 (0, 0))] ∧ AllRd h' vals ((imgs l f).take i) ∧ (((imgs l f).take i).any fun g => g.any farI) = false) (fun c h' L => c = .ret ∧ ((imgs l f).any fun g => g.any farI) = true ∧ L = [.obj b5 (.cells #[.int .i64 3] 27 (0, 0)), .obj b4 (.cells #[.slice none 0 0] 26 (0, 0)), .obj b3 (.cells #[(.slice uA f.length uc)] 35 (0, 0))]) ⟨[], none, 0, rfl, ⟨rfl, fun j hj => by cases hj⟩, rfl⟩ (fun i h3 L hi hh3 hJ av hav => ?_) (fun h3 L hh3 hJ => ?_) (fun c h3 L hJ => ?_)
 ·skip
  obtain ⟨vals, A, q, rfl, hrd, hnf⟩ := hJ
  have hf := hf.mono hh3
  have hao := hok _ (getD_mem' (l := l) hi)
  have hvl : vals.length ≤ i := by have := hrd.1; rw [List.length_take] at this; omega
  repeat apply wp_seq'
  refine wp_text rfl ?_
  refine run_alloc rfl rfl rfl rfl rfl zeroValue112 rfl fun b8 => ?_
  refine run_st2 rfl rfl rfl rfl rfl rfl (by first | rfl | assumption | exact RdI.one (by assumption)) rfl sizeOf112 (by repeat first|exact Swap.here|apply Swap.there) rfl ?_
  apply run_end
  repeat apply wp_seq'
  apply wp_block'
  repeat apply wp_seq'
  refine wp_text rfl ?_
  refine rs rfl (s_ld2 rfl rfl isAgg112 sizeOf112 (.o_ rfl) (.o_ rfl)) ?_
  refine rs rfl (s_ld rfl rfl isAgg35 (.o_ rfl)) ?_
  refine run_call (vs := [_, _]) rfl rfl rfl rfl rfl rfl en135 (image_fn _ _ f _ _ _ hav hf hao (fun i hi => fillI_get hf0 hi)) ?_
  intro v16 h4 hv16 hh4
  refine rm rfl ?_
  apply run_end
  have hrd := hrd.mono hh4
  obtain ⟨gA, gc, eg, _⟩ := id hv16
  subst eg
  repeat apply wp_seq'
  refine wp_text rfl ?_
  refine rm rfl ?_
  refine run_callv (vs := [_, _]) rfl rfl rfl rfl rfl rfl en136 (contains_fn farI _ _ 137 _ hv16 en137 (fun x => far_fn x _)) ?_
  apply run_end
  repeat apply wp_seq'
  refine wp_cond' rfl (fun hc18 => ?_) (fun hc18 => ?_)
  ·skip
   repeat apply wp_seq'
   refine wp_text rfl ?_
   refine run_st rfl rfl rfl rfl rfl rfl rfl rfl sizeOf26 (by repeat first|exact Swap.here|apply Swap.there) rfl ?_
   refine run_st rfl rfl rfl rfl rfl rfl rfl rfl sizeOf27 (by repeat first|exact Swap.here|apply Swap.there) rfl ?_
   apply run_end
   apply wp_ret'
   exact re_ret _ ⟨rfl, List.any_eq_true.2 ⟨_, imgs_mem hi, hc18⟩, rfl⟩ ⟨_, .refl _, (by repeat (first|exact NS _|exact SR _|apply SCC|apply SC))⟩
  ·skip
   apply wp_skip'
   repeat apply wp_seq'
   refine wp_text rfl ?_
   refine rs rfl (s_ld rfl rfl isAgg26 (.o_ rfl)) ?_
   refine rm rfl ?_
   refine run_bso (parts := [_]) (vs := [_]) rfl rfl rfl rfl rfl rfl (bs26_r hv16) fun b21 => ?_
   refine run_app1v _ rfl rfl rfl rfl rfl rfl rfl underlying26 info35 rfl (fun v' => (by repeat first|exact Swap.here|apply Swap.there)) (by repeat first|exact MH _|apply MT) rfl (by omega) (by decide) fun v22 hv22 => ?_
   obtain ⟨A22, c22, rfl⟩ := hv22
   refine run_st rfl rfl rfl rfl rfl rfl rfl rfl sizeOf26 (by repeat first|exact Swap.here|apply Swap.there) rfl ?_
   apply run_end
   have el : vals.length + 1 = (vals ++ [Value.slice gA (imgI (l.getD i ([], false)).1 (l.getD i ([], false)).2 f).length gc]).length := by simp
   rw [el]
   refine re_normal _ ⟨hh4, _, A22, c22, rfl, ?_, ?_⟩ ⟨_, .refl _, (by repeat (first|exact NS _|exact SR _|apply SCC|apply SC))⟩
   ·rw [imgs_take l f hi]; exact hrd.snoc hv16
   ·rw [imgs_take l f hi, List.any_append, hnf]; simpa using hc18
 ·skip
  obtain ⟨vals, A, q, rfl, hrd, hnf⟩ := hJ
  have hil : (imgs l f).length = l.length := by simp [imgs]
  rw [← hil, List.take_length] at hrd hnf
  have hvl : vals.length = l.length := by rw [← hrd.1, hil]
  have hO : imagesO l f = (sorted lexLt (imgs l f), 0) := by rw [imagesO, if_neg (by rw [hnf]; decide)]
  refine WP.rowAt (v := .slice A vals.length q) (n := vals.length) (xs := vals) (e := 35) (sz := 1) (by repeat first|exact Pick.here|apply Pick.there) (by omega) (fun hrow _ => ?_)
  obtain ⟨bu, cu, eu, hcu⟩ := hrow
  cases eu
  repeat apply wp_seq'
  refine wp_text rfl ?_
  refine rs rfl (s_ld rfl rfl isAgg26 (.o_ rfl)) ?_
  refine run_callM (L := [_]) (M := [_, _, _, _]) (vs := [_, _]) rfl rfl rfl (dst_lt rfl rfl) rfl rfl en200 (List.Perm.refl _) (sortL_fn vals _ _ bu vals.length q hrd rfl (by omega)) ?_
  rintro _ h20 _ ⟨rfl, e20, vals2, outs2, hrd2, hl2, hp2, hs2, rfl⟩ _
  have e21 := e20.symm
  subst e21
  apply run_end
  repeat apply wp_seq'
  refine wp_text rfl ?_
  refine rs rfl (s_ld rfl rfl isAgg26 (.o_ rfl)) ?_
  refine run_callM (L := [_]) (M := [_, _, _, _]) (vs := [_, _]) rfl rfl rfl (dst_lt rfl rfl) rfl rfl en202 (List.Perm.refl _) (compact_fn outs2 vals2 _ _ vals.length hl2 ⟨_, _, rfl⟩ (by omega) hrd2) ?_
  rintro r26 h26 _ ⟨e26, vals3, A3, c3, rfl, rfl, hrd3⟩ _
  have e27 := e26.symm
  subst e27
  refine run_st rfl rfl rfl rfl rfl rfl rfl rfl sizeOf26 (by repeat first|exact Swap.here|apply Swap.there) rfl ?_
  refine run_st rfl rfl rfl rfl rfl rfl rfl rfl sizeOf27 (by repeat first|exact Swap.here|apply Swap.there) rfl ?_
  apply run_end
  have hl3 := hrd3.1
  rw [ddup_sorted sLin_lexLt hp2 hs2] at hrd3 hl3
  have hsl : (sorted lexLt (imgs l f)).length ≤ (imgs l f).length := nodup_sub_len ((asc_sorted sLin_lexLt _).nodup sLin_lexLt) fun x hx => (_root_.Tal.mem_sorted sLin_lexLt).1 hx
  refine WP.letT (sorted lexLt (imgs l f)) rfl (by repeat first|exact Pick.here|apply Pick.there) (by omega) hrd3.1 hrd3.2 fun h6 hh6 hrt => ?_
  apply wp_ret'
  refine fin_ret (res_cc rfl rfl rfl isAgg26 isAgg27 (.own _ _ _ (by repeat first|exact MH _|apply MT) rfl) (.own _ _ _ (by repeat first|exact MH _|apply MT) rfl)) ?_
  rw [hO]
  exact ⟨_, rfl, hrt⟩
 ·skip
  obtain ⟨rfl, hfar, rfl⟩ := hJ
  have hO : imagesO l f = ([], 3) := by rw [imagesO, if_pos hfar]
  apply wp_ret'
  refine fin_ret (res_cc rfl rfl rfl isAgg26 isAgg27 (.own _ _ _ (by repeat first|exact MH _|apply MT) rfl) (.own _ _ _ (by repeat first|exact MH _|apply MT) rfl)) ?_
  rw [hO]
  exact ⟨_, rfl, RdT.nil _ 0⟩
def orbitO (l : List Sy) (f : List Int) : List (List Int) × Int := if actI l f ≠ 0 then ([], actI l f) else imagesO l f
theorem actI_zero {l : List Sy} {f : List Int} (h : actI l f = 0) : fillI f = 0 ∧ groupI l f.length = 0 := by
 unfold actI at h
 by_cases h1 : fillI f = 0
 ·rw [if_neg (by simpa using h1)] at h; exact ⟨h1, h⟩
 ·rw [if_pos h1] at h; exact absurd h h1
set_option maxRecDepth 8000 in
theorem orbit_fn (l : List Sy) (f : List Int) (v u : Value) (h : H) (hl : RdS h v l) (hf : RdI h u f) : Fn Tryz.prog 75 #[v, u] h fun r h' => ∃ sv, r = .tuple #[sv, .int .i64 (orbitO l f).2] ∧ RdT h' sv (orbitO l f).1 := by
 refine fn_of (vs := [v, u]) func75 rfl ntmps75 (Nat.le_of_ble_eq_true rfl) fun w hw => ?_
 repeat apply wp_seq'
 refine wp_text rfl ?_
 refine rm rfl ?_
 refine rm rfl ?_
 apply run_end
 repeat apply wp_seq'
 refine wp_text rfl ?_
 refine rm rfl ?_
 refine rm rfl ?_
 refine run_callv (vs := [_, _]) rfl rfl rfl rfl rfl rfl en156 (acting_fn _ _ _ _ _ hl hf) ?_
 refine rm rfl ?_
 apply run_end
 repeat apply wp_seq'
 refine wp_text rfl ?_
 refine rm rfl ?_
 refine rs rfl (s_ne rfl rfl rfl) ?_
 apply run_end
 repeat apply wp_seq'
 refine wp_if' rfl (fun hc11 => ?_) (fun hc11 => ?_)
 ·skip
  repeat apply wp_seq'
  refine wp_text rfl ?_
  refine rm rfl ?_
  refine rm rfl ?_
  refine rm rfl ?_
  apply run_end
  apply wp_ret'
  refine fin_ret (res_tt rfl rfl rfl) ?_
  rw [orbitO, if_pos hc11]
  exact ⟨_, rfl, RdT.nil _ 0⟩
 ·skip
  apply wp_skip'
  obtain ⟨hf0, hg0⟩ := actI_zero (Decidable.not_not.1 hc11)
  obtain ⟨_, hl0, _, hok, _⟩ := groupI_zero hg0
  rw [Int.toNat_natCast] at hok
  repeat apply wp_seq'
  refine wp_text rfl ?_
  refine rm rfl ?_
  refine rm rfl ?_
  refine run_call (vs := [_, _]) rfl rfl rfl rfl rfl rfl en157 (images_fn l f v u _ hl hf hl0 hok hf0) ?_
  intro r15 h4 ⟨sv, e15, hrt⟩ hh4
  subst e15
  refine rs rfl (s_extract rfl rfl rfl) ?_
  refine rs rfl (s_extract rfl rfl rfl) ?_
  refine rm rfl ?_
  refine rm rfl ?_
  apply run_end
  apply wp_ret'
  refine fin_ret (res_tt rfl rfl rfl) ?_
  rw [orbitO, if_neg hc11]
  exact ⟨_, rfl, hrt⟩
def canonO (l : List Sy) (f : List Int) : List Int × Int := if (orbitO l f).2 ≠ 0 then ([], (orbitO l f).2) else ((orbitO l f).1.getD 0 [], 0)
theorem orbit_pos {l : List Sy} {f : List Int} (h : (orbitO l f).2 = 0) : 0 < (orbitO l f).1.length := by
 unfold orbitO at h ⊢
 by_cases h1 : actI l f = 0
 ·rw [if_neg (by simpa using h1)] at h ⊢
  unfold imagesO at h ⊢
  split at h
  ·cases h
  ·rename_i h2
   rw [if_neg h2]
   obtain ⟨_, hg0⟩ := actI_zero h1
   obtain ⟨_, hl0, _⟩ := groupI_zero hg0
   have : imgI (l.getD 0 ([], false)).1 (l.getD 0 ([], false)).2 f ∈ sorted lexLt (imgs l f) := (_root_.Tal.mem_sorted sLin_lexLt).2 (imgs_mem hl0)
   exact List.length_pos_of_mem this
 ·rw [if_pos h1] at h
  exact absurd h h1
set_option maxRecDepth 8000 in
theorem canonical_fn (l : List Sy) (f : List Int) (v u : Value) (h : H) (hl : RdS h v l) (hf : RdI h u f) : Fn Tryz.prog 47 #[v, u] h fun r h' => ∃ sv, r = .tuple #[sv, .int .i64 (canonO l f).2] ∧ RdI h' sv (canonO l f).1 := by
 refine fn_of (vs := [v, u]) func47 rfl ntmps47 (Nat.le_of_ble_eq_true rfl) fun w hw => ?_
 repeat apply wp_seq'
 refine wp_text rfl ?_
 refine rm rfl ?_
 refine rm rfl ?_
 apply run_end
 repeat apply wp_seq'
 refine wp_text rfl ?_
 refine rm rfl ?_
 refine rm rfl ?_
 refine run_call (vs := [_, _]) rfl rfl rfl rfl rfl rfl en75 (orbit_fn l f v u _ hl hf) ?_
 intro r11 h4 ⟨sv, e11, hrt⟩ hh4
 subst e11
 refine rm rfl ?_
 refine rs rfl (s_extract rfl rfl rfl) ?_
 refine rs rfl (s_extract rfl rfl rfl) ?_
 refine rm rfl ?_
 refine rm rfl ?_
 apply run_end
 repeat apply wp_seq'
 refine wp_text rfl ?_
 refine rm rfl ?_
 refine rs rfl (s_ne rfl rfl rfl) ?_
 apply run_end
 repeat apply wp_seq'
 refine wp_if' rfl (fun hc15 => ?_) (fun hc15 => ?_)
 ·skip
  repeat apply wp_seq'
  refine wp_text rfl ?_
  refine rm rfl ?_
  refine rm rfl ?_
  refine rm rfl ?_
  apply run_end
  apply wp_ret'
  refine fin_ret (res_tt rfl rfl rfl) ?_
  rw [canonO, if_pos hc15]
  exact ⟨_, rfl, RdI.nil _ 0⟩
 ·skip
  apply wp_skip'
  have hpos := orbit_pos (Decidable.not_not.1 hc15)
  obtain ⟨cv, hcv, hat⟩ := hrt.get hpos
  repeat apply wp_seq'
  refine wp_text rfl ?_
  refine rm rfl ?_
  refine rs rfl (s_iaT hrt (by omega) (by omega) rfl rfl rfl underlying26 sizeOf35) ?_
  refine rs rfl (s_ldT hat rfl rfl rfl isAgg35) ?_
  refine rm rfl ?_
  refine rm rfl ?_
  apply run_end
  apply wp_ret'
  refine fin_ret (res_tt rfl rfl rfl) ?_
  rw [canonO, if_neg hc15]
  exact ⟨_, rfl, hcv⟩
end Go.Tal

namespace Go.Tal
open Go.RowKit Go.Proofs Go.Proofs.Tryz _root_.Tal
def stabs (l : List Sy) (f : List Int) : List Sy := l.filter fun a => decide (imgI a.1 a.2 f = f)
def stabO (l : List Sy) (f : List Int) : List Sy × Int := if actI l f ≠ 0 then ([], actI l f) else (stabs l f, 0)
theorem filter_take {α : Type} {d : α} {p : α → Bool} {l : List α} {i : Nat} (hi : i < l.length) : (l.take (i + 1)).filter p = if p (l.getD i d) then (l.take i).filter p ++ [l.getD i d] else (l.take i).filter p := by
 rw [List.take_succ_eq_append_getElem hi, List.filter_append]
 have e : l.getD i d = l[i] := by simp [List.getD_eq_getElem?_getD, List.getElem?_eq_getElem hi]
 rw [e]
 by_cases h : p l[i] = true
 ·rw [if_pos h]; simp [h]
 ·rw [if_neg h]; simp [h]
theorem b37_r {h : H} {sv : Value} {l : List Int} (r : RdI h sv l) (b : Bool) : ∀ w, (Instr.build 37 #[(0, sv), (1, .bool b)]).run Tryz.prog w = .ok (.agg #[sv, .bool b]) w := by
 obtain ⟨A, c, rfl, _⟩ := r
 exact b37_01 _ _ _ _
set_option maxRecDepth 8000 in
set_option maxHeartbeats 4000000 in
theorem stabilizer_fn (l : List Sy) (f : List Int) (v u : Value) (h : H) (hl : RdS h v l) (hf : RdI h u f) : Fn Tryz.prog 76 #[v, u] h fun r h' => ∃ sv, r = .tuple #[sv, .int .i64 (stabO l f).2] ∧ RdS h' sv (stabO l f).1 := by
 have hlm := hl.len
 obtain ⟨uA, uc, eu, _⟩ := id hf
 subst eu
 refine fn_of (vs := [v, .slice uA f.length uc]) func76 rfl ntmps76 (Nat.le_of_ble_eq_true rfl) fun w hw => ?_
 repeat apply wp_seq'
 refine wp_text rfl ?_
 refine run_box rfl rfl rfl rfl rfl rfl rfl fun b3 => ?_
 refine rm rfl ?_
 refine rm rfl ?_
 apply run_end
 repeat apply wp_seq'
 refine wp_text rfl ?_
 refine rm rfl ?_
 refine rs rfl (s_ld rfl rfl isAgg35 (.o_ rfl)) ?_
 refine run_callv (vs := [_, _]) rfl rfl rfl rfl rfl rfl en156 (acting_fn _ _ _ _ _ hl hf) ?_
 refine rm rfl ?_
 apply run_end
 repeat apply wp_seq'
 refine wp_text rfl ?_
 refine rm rfl ?_
 refine rs rfl (s_ne rfl rfl rfl) ?_
 apply run_end
 repeat apply wp_seq'
 refine wp_if' rfl (fun hc14 => ?_) (fun hc14 => ?_)
 ·skip
  repeat apply wp_seq'
  refine wp_text rfl ?_
  refine rm rfl ?_
  refine rm rfl ?_
  refine rm rfl ?_
  apply run_end
  apply wp_ret'
  refine fin_ret (res_tt rfl rfl rfl) ?_
  rw [stabO, if_pos hc14]
  exact ⟨_, rfl, RdS.nil _ 0⟩
 ·skip
  apply wp_skip'
  have hO : stabO l f = (stabs l f, 0) := by rw [stabO, if_neg hc14]
  obtain ⟨hf0, hg0⟩ := actI_zero (Decidable.not_not.1 hc14)
  obtain ⟨_, hl0, _, hok, _⟩ := groupI_zero hg0
  rw [Int.toNat_natCast] at hok
  repeat apply wp_seq'
  refine wp_text rfl ?_
  refine run_alloc rfl rfl rfl rfl rfl zeroValue22 rfl fun b7 => ?_
  apply run_end
  repeat apply wp_seq'
  refine wp_text rfl ?_
  refine rm rfl ?_
  refine run_call (vs := [_]) rfl rfl rfl rfl rfl rfl en90 (all_fn v _ (by obtain ⟨A, q, rfl, _⟩ := hl; rfl)) ?_
  intro v17 h2 ⟨box, e17, hbox⟩ hh2
  subst e17
  have hl := hl.mono hh2
  have hf := hf.mono hh2
  apply run_end
  repeat apply wp_seq'
  apply wp_block'
  refine WP.nilrow 37 2 ?_
  refine wp_all rfl rfl rfl hbox hl rfl rfl rfl (fun i h' L => ∃ (us : List (Value × Sy)) (A : Option Addr) (q : Nat), L = [.row (.slice A us.length q) 37 2 us.length (rowS us), .obj b7 (.cells #[.slice A us.length q] 22 (0, 0)), .obj b3 (.cells #[(.slice uA f.length uc)] 35 (0, 0))] ∧ SetOk h' us ∧ us.map (·.2) = (l.take i).filter (fun a => decide (imgI a.1 a.2 f = f)) ∧ us.length ≤ i) (fun c h' L => False) ⟨[], none, 0, rfl, (fun p hp => by cases hp), rfl, Nat.le_refl _⟩ (fun i h3 L hi hh3 hJ av hav => ?_) (fun h3 L hh3 hJ => ?_) (fun c h3 L hJ => hJ.elim)
  ·skip
   obtain ⟨us, A, q, rfl, hus, hfl, hul⟩ := hJ
   have hf := hf.mono hh3
   have hao := hok _ (getD_mem' (l := l) hi)
   have hft := filter_take (d := ([], false)) (p := fun a : Sy => decide (imgI a.1 a.2 f = f)) hi
   repeat apply wp_seq'
   refine wp_text rfl ?_
   refine run_alloc rfl rfl rfl rfl rfl zeroValue112 rfl fun b9 => ?_
   refine run_st2 rfl rfl rfl rfl rfl rfl (by first | rfl | assumption | exact RdI.one (by assumption)) rfl sizeOf112 (by repeat first|exact Swap.here|apply Swap.there) rfl ?_
   apply run_end
   repeat apply wp_seq'
   apply wp_block'
   repeat apply wp_seq'
   refine wp_any [0, 1, 3, 2, 4] rfl (by kernel_rfl) ?_
   refine rs rfl (s_ld2 rfl rfl isAgg112 sizeOf112 (.o_ rfl) (.o_ rfl)) ?_
   refine rs rfl (s_ld rfl rfl isAgg35 (.o_ rfl)) ?_
   refine rs rfl (s_ld rfl rfl isAgg35 (.o_ rfl)) ?_
   refine run_call (vs := [_, _]) rfl rfl rfl rfl rfl rfl en135 (image_fn _ _ f _ _ _ hav hf hao (fun i hi => fillI_get hf0 hi)) ?_
   intro v22 h4 hv22 hh4
   have hf := hf.mono hh4
   have hus := hus.mono hh4
   have hav := hav.mono hh4
   refine run_callv (vs := [_, _]) rfl rfl rfl rfl rfl rfl en158 (eqI_fn _ _ _ _ _ hv22 hf) ?_
   apply run_end
   repeat apply wp_seq'
   refine wp_if' rfl (fun hc24 => ?_) (fun hc24 => ?_)
   ·skip
    rw [if_pos (by exact decide_eq_true hc24)] at hft
    repeat apply wp_seq'
    refine wp_any [0, 1, 2, 4, 5, 3, 6, 7, 8, 9] rfl (by kernel_rfl) ?_
    refine rs rfl (s_ld rfl rfl isAgg22 (.o_ rfl)) ?_
    refine rs rfl (s_fa (off := 0) rfl rfl underlying112 rfl sizeOf35 rfl) ?_
    refine rs rfl (s_ld rfl rfl isAgg35 (.o_ rfl)) ?_
    refine rs rfl (s_fa (off := 1) rfl rfl underlying112 rfl sizeOf4 rfl) ?_
    refine rs rfl (s_ld rfl rfl isAgg4 (.o_ rfl)) ?_
    refine run_call (vs := [_]) rfl rfl rfl rfl rfl rfl en106 (cloneI_fn _ _ _ hav) ?_
    intro v28 h5 hv28 hh5
    have hus := hus.mono hh5
    refine rs rfl (s_build2 rfl rfl rfl (b37_r hv28 _)) ?_
    refine run_bso (parts := [_]) (vs := [_]) rfl rfl rfl rfl rfl rfl (bs22_r hv28 _) fun b32 => ?_
    refine run_app2 (fun p : Value × Sy => p.1) (fun p : Value × Sy => .bool p.2.2) (v28, l.getD i ([], false)) (xs := us) rfl rfl rfl rfl rfl rfl rfl underlying22 info37 rfl (fun v' => (by repeat first|exact Swap.here|apply Swap.there)) (by repeat first|exact MH _|apply MT) (RdI.one hv28) rfl (by omega) (by decide) fun v33 hv33 => ?_
    obtain ⟨A33, c33, rfl⟩ := hv33
    refine run_st rfl rfl rfl rfl rfl rfl rfl rfl sizeOf22 (by repeat first|exact Swap.here|apply Swap.there) rfl ?_
    apply run_end
    have el : us.length + 1 = (us ++ [(v28, l.getD i ([], false))]).length := by simp
    rw [el]
    refine re_normal _ ⟨fun b o hb => hh5 _ _ (hh4 _ _ hb), us ++ [(v28, l.getD i ([], false))], A33, c33, rfl, ?_, ?_, by rw [← el]; omega⟩ ⟨_, .refl _, (by repeat (first|exact NS _|exact SR _|apply SCC|apply SC))⟩
    ·intro p hp; rcases List.mem_append.1 hp with hp | hp; exact hus p hp; rw [List.mem_singleton] at hp; subst hp; exact hv28
    ·rw [List.map_append, hfl, hft]; rfl
   ·skip
    apply wp_skip'
    rw [if_neg (by simpa using hc24)] at hft
    exact re_normal _ ⟨hh4, us, A, q, rfl, hus, by rw [hft]; exact hfl, by omega⟩ ⟨_, .refl _, (by repeat (first|exact NS _|exact SR _|apply SCC|apply SC))⟩
  ·skip
   obtain ⟨us, A, q, rfl, hus, hfl, hul⟩ := hJ
   rw [List.take_length] at hfl
   repeat apply wp_seq'
   refine wp_text rfl ?_
   refine rs rfl (s_ld rfl rfl isAgg22 (.o_ rfl)) ?_
   refine rm rfl ?_
   refine rm rfl ?_
   apply run_end
   refine WP.letR us rfl (by repeat first|exact Pick.here|apply Pick.there) (by omega) hus fun h4 hh4 hrd => ?_
   apply wp_ret'
   refine fin_ret (res_tt rfl rfl rfl) ?_
   rw [hO]
   rw [hfl] at hrd
   exact ⟨_, rfl, hrd⟩
theorem b37_0 : ∀ w, (Instr.build 37 #[]).run Tryz.prog w = .ok (.agg #[.slice none 0 0, .bool false]) w := fun _ => by kernel_rfl
def sameI1 (_ : List Sy) (f g : List Int) : Int := firstI [fillI f, fillI g, whenI (decide ((f.length : Int) ≠ g.length)) 2]
def sameO (l : List Sy) (f g : List Int) : Sy × Int :=
 if sameI1 l f g ≠ 0 then (([], false), sameI1 l f g) else if groupI l f.length ≠ 0 then (([], false), groupI l f.length) else
 match l.find? fun a => decide (imgI a.1 a.2 f = g) with
 | none => (([], false), 7)
 | some a => (a, 0)
theorem find_take {α : Type} {p : α → Bool} {l : List α} {i : Nat} {d : α} (hi : i < l.length) (hn : ∀ j, j < i → p (l.getD j d) = false) (hp : p (l.getD i d) = true) : l.find? p = some (l.getD i d) := by
 have e : ∀ {j}, (hj : j < l.length) → l.getD j d = l[j] := fun hj => by simp [List.getD_eq_getElem?_getD, List.getElem?_eq_getElem hj]
 rw [List.find?_eq_some_iff_getElem]
 refine ⟨hp, i, hi, (e hi).symm, fun j hj => ?_⟩
 have := hn j hj
 rw [e (by omega)] at this
 simp [this]
theorem find_none {α : Type} {p : α → Bool} {l : List α} {d : α} (hn : ∀ j, j < l.length → p (l.getD j d) = false) : l.find? p = none := by
 rw [List.find?_eq_none]
 intro x hx
 obtain ⟨j, hj, rfl⟩ := List.getElem_of_mem hx
 have := hn j hj
 simpa [List.getD_eq_getElem?_getD, List.getElem?_eq_getElem hj] using this
set_option maxRecDepth 8000 in
set_option maxHeartbeats 4000000 in
theorem same_fn (l : List Sy) (f g : List Int) (v u t : Value) (h : H) (hl : RdS h v l) (hf : RdI h u f) (hg : RdI h t g) : Fn Tryz.prog 86 #[v, u, t] h fun r h' => ∃ sv, r = .tuple #[.agg #[sv, .bool (sameO l f g).1.2], .int .i64 (sameO l f g).2] ∧ RdI h' sv (sameO l f g).1.1 := by
 have hlm := hl.len
 have hfm := hf.len
 have hgm := hg.len
 obtain ⟨uA, uc, eu, _⟩ := id hf
 subst eu
 obtain ⟨tA, tc, et, _⟩ := id hg
 subst et
 refine fn_of (vs := [v, .slice uA f.length uc, .slice tA g.length tc]) func86 rfl ntmps86 (Nat.le_of_ble_eq_true rfl) fun w hw => ?_
 repeat apply wp_seq'
 refine wp_text rfl ?_
 refine run_box rfl rfl rfl rfl rfl rfl rfl fun b4 => ?_
 refine run_box rfl rfl rfl rfl rfl rfl rfl fun b5 => ?_
 refine run_alloc rfl rfl rfl rfl rfl zeroValue37 rfl fun b6 => ?_
 refine run_alloc rfl rfl rfl rfl rfl zeroValue27 rfl fun b7 => ?_
 apply run_end
 repeat apply wp_seq'
 refine wp_any [0, 2, 4, 5, 6, 7, 8, 1, 3, 9, 10, 11, 12] rfl (by kernel_rfl) ?_
 refine rs rfl (s_ld rfl rfl isAgg35 (.o_ rfl)) ?_
 refine rs rfl (s_ld rfl rfl isAgg35 (.o_ rfl)) ?_
 refine rs rfl (s_ld rfl rfl isAgg35 (.o_ rfl)) ?_
 refine rs rfl (s_len rfl rfl underlying35) ?_
 refine rs rfl (s_ld rfl rfl isAgg35 (.o_ rfl)) ?_
 refine rs rfl (s_len rfl rfl underlying35) ?_
 refine rs rfl (s_ne rfl rfl rfl) ?_
 refine run_callv (vs := [_]) rfl rfl rfl rfl rfl rfl en134 (fill_fn _ _ _ hf) ?_
 refine run_callv (vs := [_]) rfl rfl rfl rfl rfl rfl en134 (fill_fn _ _ _ hg) ?_
 refine run_callv (vs := [_, _]) rfl rfl rfl rfl rfl rfl en96 (when_fn _ _ _) ?_
 refine run_bsl (parts := [_, _, _]) (vs := [_, _, _]) rfl rfl rfl rfl rfl rfl (bs178_3 _ _ _) fun b10 h10 hh10 hb10 => ?_
 have hr10 := rdI_of (xs := [_, _, _]) hb10 rfl rfl (Nat.le_of_ble_eq_true rfl)
 have hl := hl.mono hh10
 have hf := hf.mono hh10
 have hg := hg.mono hh10
 refine run_callv (vs := [_]) rfl rfl rfl rfl rfl rfl en94 (first_fn _ _ _ hr10) ?_
 refine rm rfl ?_
 apply run_end
 rw [show firstI [fillI f, fillI g, whenI (decide ((f.length : Int) ≠ g.length)) 2] = sameI1 l f g from rfl]
 repeat apply wp_seq'
 refine wp_text rfl ?_
 refine rm rfl ?_
 refine rs rfl (s_ne rfl rfl rfl) ?_
 apply run_end
 repeat apply wp_seq'
 refine wp_if' rfl (fun hc25 => ?_) (fun hc25 => ?_)
 ·skip
  repeat apply wp_seq'
  refine wp_text rfl ?_
  refine rs rfl (s_build0 rfl b37_0) ?_
  refine rm rfl ?_
  refine run_st2 rfl rfl rfl rfl rfl rfl (by first | rfl | assumption | exact RdI.one (by assumption)) rfl sizeOf37 (by repeat first|exact Swap.here|apply Swap.there) rfl ?_
  refine run_st rfl rfl rfl rfl rfl rfl rfl rfl sizeOf27 (by repeat first|exact Swap.here|apply Swap.there) rfl ?_
  apply run_end
  apply wp_ret'
  refine fin_ret (res_cac rfl rfl rfl isAgg37 sizeOf37 isAgg27 (.own _ _ _ (by repeat first|exact MH _|apply MT) rfl) (.own _ _ _ (by repeat first|exact MH _|apply MT) rfl) (.own _ _ _ (by repeat first|exact MH _|apply MT) rfl)) ?_
  have hO : sameO l f g = (([], false), sameI1 l f g) := by rw [sameO, if_pos hc25]
  rw [hO]
  exact ⟨_, rfl, RdI.nil _ 0⟩
 ·skip
  apply wp_skip'
  repeat apply wp_seq'
  refine wp_text rfl ?_
  refine rm rfl ?_
  refine rs rfl (s_ld rfl rfl isAgg35 (.o_ rfl)) ?_
  refine rs rfl (s_len rfl rfl underlying35) ?_
  refine run_callv (vs := [_, _]) rfl rfl rfl rfl rfl rfl en22 (checkGroup_fn _ _ _ _ hl) ?_
  refine rm rfl ?_
  apply run_end
  repeat apply wp_seq'
  refine wp_text rfl ?_
  refine rm rfl ?_
  refine rs rfl (s_ne rfl rfl rfl) ?_
  apply run_end
  repeat apply wp_seq'
  refine wp_if' rfl (fun hc33 => ?_) (fun hc33 => ?_)
  ·skip
   repeat apply wp_seq'
   refine wp_text rfl ?_
   refine rs rfl (s_build0 rfl b37_0) ?_
   refine rm rfl ?_
   refine run_st2 rfl rfl rfl rfl rfl rfl (by first | rfl | assumption | exact RdI.one (by assumption)) rfl sizeOf37 (by repeat first|exact Swap.here|apply Swap.there) rfl ?_
   refine run_st rfl rfl rfl rfl rfl rfl rfl rfl sizeOf27 (by repeat first|exact Swap.here|apply Swap.there) rfl ?_
   apply run_end
   apply wp_ret'
   refine fin_ret (res_cac rfl rfl rfl isAgg37 sizeOf37 isAgg27 (.own _ _ _ (by repeat first|exact MH _|apply MT) rfl) (.own _ _ _ (by repeat first|exact MH _|apply MT) rfl) (.own _ _ _ (by repeat first|exact MH _|apply MT) rfl)) ?_
   have hO : sameO l f g = (([], false), groupI l f.length) := by rw [sameO, if_neg hc25, if_pos hc33]
   rw [hO]
   exact ⟨_, rfl, RdI.nil _ 0⟩
  ·skip
   apply wp_skip'
   have hO : sameO l f g = match l.find? fun a => decide (imgI a.1 a.2 f = g) with | none => (([], false), 7) | some a => (a, 0) := by rw [sameO, if_neg hc25, if_neg hc33]
   have hz0 : sameI1 l f g = 0 := Decidable.not_not.1 hc25
   have hf0 : fillI f = 0 := firstI_zero.1 hz0 (fillI f) (by simp)
   have hg0 : groupI l f.length = 0 := Decidable.not_not.1 hc33
   obtain ⟨_, hl0, _, hok, _⟩ := groupI_zero hg0
   rw [Int.toNat_natCast] at hok
   repeat apply wp_seq'
   refine wp_text rfl ?_
   refine rm rfl ?_
   refine run_call (vs := [_]) rfl rfl rfl rfl rfl rfl en90 (all_fn v _ (by obtain ⟨A, q, rfl, _⟩ := hl; rfl)) ?_
   intro v37 h2 ⟨box, e37, hbox⟩ hh2
   subst e37
   have hl := hl.mono hh2
   have hf := hf.mono hh2
   have hg := hg.mono hh2
   apply run_end
   repeat apply wp_seq'
   apply wp_block'
   refine wp_all rfl rfl rfl hbox hl rfl rfl rfl (fun i h' L => L = [.obj b7 (.cells #[.int .i64 0] 27 (0, 0)), .obj b6 (.cells #[.slice none 0 0, .bool false] 37 (0, 0)), .obj b5 (.cells #[.slice tA g.length tc] 35 (0, 0)), .obj b4 (.cells #[.slice uA f.length uc] 35 (0, 0))] ∧ ∀ j, j < i → decide (imgI (l.getD j ([], false)).1 (l.getD j ([], false)).2 f = g) = false) (fun c h' L => c = .ret ∧ ∃ (a : Sy) (sv : Value), l.find? (fun a => decide (imgI a.1 a.2 f = g)) = some a ∧ RdI h' sv a.1 ∧ L = [.obj b7 (.cells #[.int .i64 0] 27 (0, 0)), .obj b6 (.cells #[sv, .bool a.2] 37 (0, 0)), .obj b5 (.cells #[.slice tA g.length tc] 35 (0, 0)), .obj b4 (.cells #[.slice uA f.length uc] 35 (0, 0))]) ⟨rfl, fun j hj => absurd hj (Nat.not_lt_zero j)⟩ (fun i h3 L hi hh3 hJ av hav => ?_) (fun h3 L hh3 hJ => ?_) (fun c h3 L hJ => ?_)
   ·skip
    obtain ⟨rfl, hno⟩ := hJ
    have hf := hf.mono hh3
    have hg := hg.mono hh3
    have hao := hok _ (getD_mem' (l := l) hi)
    repeat apply wp_seq'
    refine wp_text rfl ?_
    refine run_alloc rfl rfl rfl rfl rfl zeroValue112 rfl fun b11 => ?_
    refine run_st2 rfl rfl rfl rfl rfl rfl (by first | rfl | assumption | exact RdI.one (by assumption)) rfl sizeOf112 (by repeat first|exact Swap.here|apply Swap.there) rfl ?_
    apply run_end
    repeat apply wp_seq'
    apply wp_block'
    repeat apply wp_seq'
    refine wp_any [0, 1, 3, 2, 4] rfl (by kernel_rfl) ?_
    refine rs rfl (s_ld2 rfl rfl isAgg112 sizeOf112 (.o_ rfl) (.o_ rfl)) ?_
    refine rs rfl (s_ld rfl rfl isAgg35 (.o_ rfl)) ?_
    refine rs rfl (s_ld rfl rfl isAgg35 (.o_ rfl)) ?_
    refine run_call (vs := [_, _]) rfl rfl rfl rfl rfl rfl en135 (image_fn _ _ f _ _ _ hav hf hao (fun i hi => fillI_get hf0 hi)) ?_
    intro v42 h4 hv42 hh4
    have hg := hg.mono hh4
    have hav := hav.mono hh4
    refine run_callv (vs := [_, _]) rfl rfl rfl rfl rfl rfl en158 (eqI_fn _ _ _ _ _ hv42 hg) ?_
    apply run_end
    repeat apply wp_seq'
    refine wp_if' rfl (fun hc44 => ?_) (fun hc44 => ?_)
    ·skip
     repeat apply wp_seq'
     refine wp_any [0, 1, 3, 4, 2, 5, 6, 7] rfl (by kernel_rfl) ?_
     refine rs rfl (s_fa (off := 0) rfl rfl underlying112 rfl sizeOf35 rfl) ?_
     refine rs rfl (s_ld rfl rfl isAgg35 (.o_ rfl)) ?_
     refine rs rfl (s_fa (off := 1) rfl rfl underlying112 rfl sizeOf4 rfl) ?_
     refine rs rfl (s_ld rfl rfl isAgg4 (.o_ rfl)) ?_
     refine run_call (vs := [_]) rfl rfl rfl rfl rfl rfl en106 (cloneI_fn _ _ _ hav) ?_
     intro v47 h5 hv47 hh5
     refine rs rfl (s_build2 rfl rfl rfl (b37_r hv47 _)) ?_
     refine run_st2 rfl rfl rfl rfl rfl rfl (by first | rfl | assumption | exact RdI.one (by assumption)) rfl sizeOf37 (by repeat first|exact Swap.here|apply Swap.there) rfl ?_
     refine run_st rfl rfl rfl rfl rfl rfl rfl rfl sizeOf27 (by repeat first|exact Swap.here|apply Swap.there) rfl ?_
     apply run_end
     apply wp_ret'
     exact re_ret _ ⟨rfl, l.getD i ([], false), v47, find_take hi hno (decide_eq_true hc44), hv47, rfl⟩ ⟨_, .refl _, (by repeat (first|exact NS _|exact SR _|apply SCC|apply SC))⟩
    ·skip
     apply wp_skip'
     exact re_normal _ ⟨hh4, rfl, fun j hj => (Nat.lt_succ_iff_lt_or_eq.1 hj).elim (hno j) (fun e => by rw [e]; exact decide_eq_false hc44)⟩ ⟨_, .refl _, (by repeat (first|exact NS _|exact SR _|apply SCC|apply SC))⟩
   ·skip
    obtain ⟨rfl, hno⟩ := hJ
    repeat apply wp_seq'
    refine wp_text rfl ?_
    refine rs rfl (s_build0 rfl b37_0) ?_
    refine run_st2 rfl rfl rfl rfl rfl rfl (by first | rfl | assumption | exact RdI.one (by assumption)) rfl sizeOf37 (by repeat first|exact Swap.here|apply Swap.there) rfl ?_
    refine run_st rfl rfl rfl rfl rfl rfl rfl rfl sizeOf27 (by repeat first|exact Swap.here|apply Swap.there) rfl ?_
    apply run_end
    apply wp_ret'
    refine fin_ret (res_cac rfl rfl rfl isAgg37 sizeOf37 isAgg27 (.own _ _ _ (by repeat first|exact MH _|apply MT) rfl) (.own _ _ _ (by repeat first|exact MH _|apply MT) rfl) (.own _ _ _ (by repeat first|exact MH _|apply MT) rfl)) ?_
    rw [find_none hno] at hO
    rw [hO]
    exact ⟨_, rfl, RdI.nil _ 0⟩
   ·skip
    obtain ⟨rfl, a, sv, hfi, hsv, rfl⟩ := hJ
    apply wp_ret'
    refine fin_ret (res_cac rfl rfl rfl isAgg37 sizeOf37 isAgg27 (.own _ _ _ (by repeat first|exact MH _|apply MT) rfl) (.own _ _ _ (by repeat first|exact MH _|apply MT) rfl) (.own _ _ _ (by repeat first|exact MH _|apply MT) rfl)) ?_
    rw [hfi] at hO
    rw [hO]
    exact ⟨_, rfl, hsv⟩
end Go.Tal

/-
 Symbolic states: arrays; results of several kinds.
-/
namespace Go.Tal
open Go.RowKit
section
variable {P : Program} {o : Oper} {F : List (Nat × Value)} {h : H} {L : List Own} {x y : Operand}
theorem s_iarr {t e : TypeId} {b o' n sz : Nat} {k : IntKind} {m : Int} (ho : o.op = .indexAddr t x y) (hx : evF F x = some (.pointer (some ⟨b, o', none⟩))) (hy : evF F y = some (.int k m)) (ht : P.underlying t = some (.array n e)) (hs : ∀ w, (sizeOf e).run P w = .ok sz w) (h0 : 0 ≤ m) (h1 : m < n) : SoftOk P o F h L (.pointer (some ⟨b, o' + m.toNat * sz, none⟩)) := fun a w ha _ => by
 have e1 := agree_of ha (by rw [ho]; simp [Op.operands]) hx
 have e2 := agree_of ha (x := y) (by rw [ho]; simp [Op.operands]) hy
 simp only [execOp, ho, e1, e2]
 refine run_v ?_
 simp [Instr.indexAt, run_underlying ht, Instr.sureAddr, asIntOf, h0, h1, hs w, add_none]
end
theorem res_tct {P : Program} {fn : Func} {s : S} {t u q b : Nat} {e : TypeId} {v0 v1 v2 v3 : Value} (h : fn.results = #[.tmp t, .cell u e, .tmp q]) (ht : s.F.lookup t = some v0) (hu : s.F.lookup u = some (.pointer (some ⟨b, 0, none⟩))) (hq : s.F.lookup q = some v3)
 (g1 : ∀ w, (isAgg e).run P w = .ok true w) (z1 : ∀ w, (sizeOf e).run P w = .ok 2 w) (c0 : Cell s.h s.L b 0 v1) (c1 : Cell s.h s.L b 1 v2) : ResOk P fn s (.tuple #[v0, .agg #[v1, v2], v3]) := fun a w hsl hsat => by
 have ha : ∀ b, (asAddr (.pointer (some ⟨b, 0, none⟩))).run P w = .ok ⟨b, 0, none⟩ w := fun _ => rfl
 have := run_cells (P := P) (w := w) (b := b) (o' := 0) (vs := [v1, v2]) (fun j v hj => by
  match j, hj with
  | 0, hj => cases hj; exact c0.at_ hsat
  | 1, hj => cases hj; exact c1.at_ hsat) 2 0 #[] (by simp) (by simp)
 have h1 : (loadVar e ⟨b, 0, none⟩).run P w = .ok (.agg #[v1, v2]) w := by simp [loadVar, g1 w, z1 w, loadCells, this]
 simp [results, h, hsl t _ ht, hsl u _ hu, hsl q _ hq, ha, h1]
end Go.Tal

namespace Go.Tal
open Go.RowKit Go.Proofs Go.Proofs.Tryz _root_.Tal
def putL (g : List Sy) (a : Sy) : List Sy := if a ∈ g then g else g ++ [a]
theorem mem_putL {g : List Sy} {a x : Sy} : x ∈ putL g a ↔ x ∈ g ∨ x = a := by
 unfold putL
 split
 ·rename_i h
  constructor
  ·exact .inl
  ·rintro (h1 | rfl)
   ·exact h1
   ·exact h
 ·simp
theorem nodup_putL {g : List Sy} {a : Sy} (h : g.Nodup) : (putL g a).Nodup := by
 unfold putL
 split
 ·exact h
 ·rename_i hn
  rw [List.nodup_append]
  exact ⟨h, by simp, fun x hx y hy => by rw [List.mem_singleton] at hy; subst hy; rintro rfl; exact hn hx⟩
/-- What keys tell apart. -/
def Kk (N : Nat) (a : Sy) : Prop := a.1.length = N ∧ ∀ x ∈ a.1, 0 ≤ x ∧ x < 256
theorem ok_kk {n : Nat} {a : Sy} (hn : n ≤ 256) (ha : Ok n a) : Kk n a := ⟨ha.1, fun x hx => by have := ha.2.2 x hx; omega⟩
theorem keyL_kk {N : Nat} {a : Sy} (ha : Kk N a) : keyL a.1 a.2 = a.1 ++ (if a.2 then [1] else []) := by
 unfold keyL
 congr 1
 conv => { rhs; rw [← List.map_id a.1] }
 refine List.map_congr_left fun x hx => ?_
 have := ha.2 x hx
 exact wrap8_id (by omega) (by omega)
theorem key_injK {N : Nat} {a b : Sy} (ha : Kk N a) (hb : Kk N b) (h : strOfNums (keyL a.1 a.2) = strOfNums (keyL b.1 b.2)) : a = b := by
 have hr : ∀ {c : Sy}, Kk N c → ∀ x ∈ keyL c.1 c.2, 0 ≤ x ∧ x < 256 := fun hc x hx => by
  rw [keyL_kk hc] at hx
  rcases List.mem_append.1 hx with hx | hx
  ·exact hc.2 x hx
  ·split at hx
   ·simp at hx; omega
   ·cases hx
 have h1 := strOfNums_inj (hr ha) (hr hb) h
 rw [keyL_kk ha, keyL_kk hb] at h1
 have hl := congrArg List.length h1
 rw [List.length_append, List.length_append, ha.1, hb.1] at hl
 have h2 := List.append_inj h1 (by rw [ha.1, hb.1])
 obtain ⟨a1, a2⟩ := a
 obtain ⟨b1, b2⟩ := b
 cases a2 <;> cases b2 <;> simp_all
/-- A symmetry put into a set. -/
theorem kvPut_symK {N : Nat} {v : Value} {a : Sy} (ha : Kk N a) : ∀ (kvs : List (Value × Sy)), (∀ p ∈ kvs, Kk N p.2) → ∃ kvs', kvPut (symKV kvs) (strOfNums (keyL a.1 a.2)) (.agg #[v, .bool a.2]) = symKV kvs' ∧ kvs'.map (·.2) = putL (kvs.map (·.2)) a ∧ ∀ p ∈ kvs', p ∈ kvs ∨ p = (v, a)
 | [], _ => ⟨[(v, a)], rfl, rfl, fun p hp => .inr (by simpa using hp)⟩
 | q :: kvs, hk => by
  have hq := hk q List.mem_cons_self
  obtain ⟨kvs', h1, h2, h3⟩ := kvPut_symK (v := v) ha kvs fun p hp => hk p (List.mem_cons_of_mem _ hp)
  simp only [symKV, List.map_cons, symE, kvPut]
  cases hb : (strOfNums (keyL a.1 a.2) == strOfNums (keyL q.2.1 q.2.2)) with
  | true =>
   have e := key_injK ha hq ((MapKept.bytes_beq _ _).1 hb)
   refine ⟨(v, a) :: kvs, by simp [symE], ?_, fun p hp => ?_⟩
   ·simp [putL, e]
   ·rcases List.mem_cons.1 hp with rfl | hp
    ·exact .inr rfl
    ·exact .inl (List.mem_cons_of_mem _ hp)
  | false =>
   have hne : a ≠ q.2 := fun e => by
    subst e
    rw [(MapKept.bytes_beq _ _).2 rfl] at hb
    cases hb
   refine ⟨q :: kvs', ?_, ?_, fun p hp => ?_⟩
   ·rw [if_neg (by decide)]
    rw [symKV] at h1
    rw [h1]
    simp [symKV, symE]
   ·rw [List.map_cons, h2]
    unfold putL
    simp only [List.mem_cons, hne, false_or]
    split <;> simp
   ·rcases List.mem_cons.1 hp with rfl | hp
    ·exact .inl List.mem_cons_self
    ·rcases h3 p hp with h4 | h4
     ·exact .inl (List.mem_cons_of_mem _ h4)
     ·exact .inr h4
theorem kvPut_symG {n : Nat} {v : Value} {a : Sy} (hn : n ≤ 256) (ha : Ok n a) (kvs : List (Value × Sy)) (hk : ∀ p ∈ kvs, Ok n p.2) : ∃ kvs', kvPut (symKV kvs) (strOfNums (keyL a.1 a.2)) (.agg #[v, .bool a.2]) = symKV kvs' ∧ kvs'.map (·.2) = putL (kvs.map (·.2)) a ∧ ∀ p ∈ kvs', p ∈ kvs ∨ p = (v, a) :=
 kvPut_symK (ok_kk hn ha) kvs fun p hp => ok_kk hn (hk p hp)
theorem getD_of_mem {l : List Sy} {x : Sy} (hx : x ∈ l) : ∃ i, i < l.length ∧ l.getD i ([], false) = x := by
 obtain ⟨i, hi, e⟩ := List.getElem_of_mem hx
 exact ⟨i, hi, by simp [List.getD_eq_getElem?_getD, List.getElem?_eq_getElem hi, e]⟩
theorem adjI_asc {l : List Sy} (h : adjI l l.length = true) : Asc symLt l := by
 have h1 : ∀ i, 0 < i → i < l.length → symLt (l.getD (i - 1) ([], false)) (l.getD i ([], false)) = true := fun i h0 hi => by
  have := List.all_eq_true.1 h i (List.mem_range.2 hi)
  simpa [show ¬ i = 0 by omega] using this
 have h2 : ∀ (k i : Nat), i + k + 1 < l.length → symLt (l.getD i ([], false)) (l.getD (i + k + 1) ([], false)) = true := by
  intro k
  induction k with
  | zero => intro i hi; exact h1 (i + 1) (by omega) hi
  | succ k ih =>
   intro i hi
   exact sLin_sym.trans (ih i (by omega)) (h1 (i + k + 2) (by omega) (by omega))
 unfold Asc
 rw [List.pairwise_iff_getElem]
 intro i j hi hj hij
 have := h2 (j - i - 1) i (by omega)
 rw [show i + (j - i - 1) + 1 = j from by omega] at this
 simpa [List.getD_eq_getElem?_getD, List.getElem?_eq_getElem hi, List.getElem?_eq_getElem hj] using this
/-- What the search of a group finds is the group. -/
theorem group_mem {l : List Sy} {c : Int} (h : groupI l c = 0) {g used : List Sy} (hc : closure c.toNat l.length l = some (g, used)) : g.Nodup ∧ (∀ x, x ∈ g ↔ x ∈ l) ∧ (∀ x ∈ used, x ∈ l) := by
 obtain ⟨_, h1, _, h3, h4, g', used', h5, h6⟩ := groupI_zero h
 rw [hc] at h5
 cases h5
 obtain ⟨k1, k2, k3, k4, k5, k6⟩ := closure_some (by omega) h3 hc
 have hnd := (adjI_asc h4).nodup sLin_sym
 exact ⟨k1, fun x => ⟨fun hx => nodup_sub_eq hnd k6 (by omega) x hx, k6 x⟩, k5⟩
def usedI (l : List Sy) (c : Int) : List Sy := match closure c.toNat l.length l with | some (_, u) => u | none => []
def subI (l k : List Sy) (c : Int) : Int := if groupI l c ≠ 0 then groupI l c else if groupI k c ≠ 0 then groupI k c else if k.all (fun a => decide (a ∈ l)) then 0 else 28
def subR (l k : List Sy) (c : Int) (r : Value) (h' : H) (L' : List Own) : Prop :=
 (subI l k c ≠ 0 ∧ ∃ u1 u2, r = .tuple #[.map none, .agg #[u1, u2], .int .i64 (subI l k c)] ∧ L' = [] ∧ u1.oneCell' = true ∧ u2.oneCell' = true) ∨
 (subI l k c = 0 ∧ ∃ m kvs u1 u2, r = .tuple #[.map (some m), .agg #[u1, u2], .int .i64 0] ∧ L' = [.obj m (mapO (symKV kvs))] ∧ (∀ x, x ∈ kvs.map (·.2) ↔ x ∈ k) ∧ SetOk h' kvs ∧ RdS h' u1 (usedI l c) ∧ RdS h' u2 (usedI k c))
set_option maxRecDepth 8000 in
set_option maxHeartbeats 4000000 in
theorem subgroup_fn (l k : List Sy) (c : Int) (v u : Value) (h : H) (hl : RdS h v l) (hk : RdS h u k) : FnM Tryz.prog 120 #[v, u, .int .i64 c] h [] (subR l k c) := by
 refine fnM_of (vs := [v, u, .int .i64 c]) func120 rfl ntmps120 (Nat.le_of_ble_eq_true rfl) fun w hw => ?_
 repeat apply wp_seq'
 refine wp_text rfl ?_
 refine rm rfl ?_
 refine run_alloc rfl rfl rfl rfl rfl zeroValue146 rfl fun b7 => ?_
 refine rm rfl ?_
 apply run_end
 repeat apply wp_seq'
 refine wp_text rfl ?_
 refine run_alloc rfl rfl rfl rfl rfl zeroValue146 rfl fun b9 => ?_
 apply run_end
 repeat apply wp_seq'
 refine wp_text rfl ?_
 refine rm rfl ?_
 refine rm rfl ?_
 refine run_callO (vs := [_, _]) rfl rfl rfl (dst_lt rfl rfl) rfl rfl en92 (open_fn l c v _ hl) ?_
 intro v20 h4 L4 hR hh4
 have hk := hk.mono hh4
 rcases hR with ⟨hg, rfl, rfl⟩ | ⟨hg, m, kvs, uv, g, used, rfl, rfl, hcl, hkg, hks, huv⟩
 ·skip
  refine rm rfl ?_
  refine rs rfl (s_extract rfl rfl rfl) ?_
  refine rs rfl (s_extract rfl rfl rfl) ?_
  refine rs rfl (s_extract rfl rfl rfl) ?_
  refine rm rfl ?_
  refine rm rfl ?_
  refine rm rfl ?_
  apply run_end
  repeat apply wp_seq'
  refine wp_text rfl ?_
  refine rm rfl ?_
  refine rs rfl (s_ne rfl rfl rfl) ?_
  apply run_end
  repeat apply wp_seq'
  refine wp_if' rfl (fun hc25 => ?_) (fun hc25 => ?_)
  ·skip
   repeat apply wp_seq'
   refine wp_any [0, 1, 2, 3, 4] rfl (by kernel_rfl) ?_
   refine rs rfl (s_ld2 rfl rfl isAgg146 sizeOf146 (.o_ rfl) (.o_ rfl)) ?_
   refine rm rfl ?_
   refine rm rfl ?_
   refine run_st2 rfl rfl rfl rfl rfl rfl (by first | rfl | assumption | exact RdI.one (by assumption)) rfl sizeOf146 (by repeat first|exact Swap.here|apply Swap.there) rfl ?_
   refine rm rfl ?_
   apply run_end
   apply wp_ret'
   refine finM_ret [] (res_tct rfl rfl rfl rfl isAgg146 sizeOf146 (.own _ _ _ (by repeat first|exact MH _|apply MT) rfl) (.own _ _ _ (by repeat first|exact MH _|apply MT) rfl)) ⟨[], .refl _, List.nil_sublist _⟩ (.inl ?_)
   have e : subI l k c = groupI l c := by rw [subI, if_pos hg]
   rw [e]
   exact ⟨hg, _, _, rfl, rfl, rfl, rfl⟩
  ·skip
   exact absurd hg hc25
 ·skip
  refine rm rfl ?_
  refine rs rfl (s_extract rfl rfl rfl) ?_
  refine rs rfl (s_extract rfl rfl rfl) ?_
  refine rs rfl (s_extract rfl rfl rfl) ?_
  refine rm rfl ?_
  refine rm rfl ?_
  refine rm rfl ?_
  apply run_end
  repeat apply wp_seq'
  refine wp_text rfl ?_
  refine rm rfl ?_
  refine rs rfl (s_ne (m := 0) (n := 0) rfl rfl rfl) ?_
  apply run_end
  repeat apply wp_seq'
  refine wp_if' rfl (fun hc25 => ?_) (fun hc25 => ?_)
  ·skip
   exact absurd rfl hc25
  ·skip
   apply wp_skip'
   repeat apply wp_seq'
   refine wp_text rfl ?_
   refine rm rfl ?_
   refine rm rfl ?_
   refine run_callO (vs := [_, _]) rfl rfl rfl (dst_lt rfl rfl) rfl rfl en92 (open_fn k c u _ hk) ?_
   intro v31 h5 L5 hR5 hh5
   have hks := hks.mono hh5
   have huv := huv.mono hh5
   rcases hR5 with ⟨hg5, rfl, rfl⟩ | ⟨hg5, m5, kvs5, uv5, g5, used5, rfl, rfl, hcl5, hkg5, hks5, huv5⟩
   ·skip
    refine rm rfl ?_
    refine rs rfl (s_extract rfl rfl rfl) ?_
    refine rs rfl (s_extract rfl rfl rfl) ?_
    refine rs rfl (s_extract rfl rfl rfl) ?_
    refine rm rfl ?_
    refine rm rfl ?_
    refine rm rfl ?_
    apply run_end
    repeat apply wp_seq'
    refine wp_text rfl ?_
    refine rm rfl ?_
    refine rs rfl (s_ne rfl rfl rfl) ?_
    apply run_end
    repeat apply wp_seq'
    refine wp_if' rfl (fun hc36 => ?_) (fun hc36 => ?_)
    ·skip
     repeat apply wp_seq'
     refine wp_any [0, 1, 2, 3, 4] rfl (by kernel_rfl) ?_
     refine rs rfl (s_ld2 rfl rfl isAgg146 sizeOf146 (.o_ rfl) (.o_ rfl)) ?_
     refine rm rfl ?_
     refine rm rfl ?_
     refine run_st2 rfl rfl rfl rfl rfl rfl (by first | rfl | assumption | exact RdI.one (by assumption)) rfl sizeOf146 (by repeat first|exact Swap.here|apply Swap.there) rfl ?_
     refine rm rfl ?_
     apply run_end
     apply wp_ret'
     refine finM_ret [] (res_tct rfl rfl rfl rfl isAgg146 sizeOf146 (.own _ _ _ (by repeat first|exact MH _|apply MT) rfl) (.own _ _ _ (by repeat first|exact MH _|apply MT) rfl)) ⟨[], .refl _, List.nil_sublist _⟩ (.inl ?_)
     have e : subI l k c = groupI k c := by rw [subI, if_neg (by rw [hg]; simp), if_pos hg5]
     rw [e]
     exact ⟨hg5, _, _, rfl, rfl, rfl, rfl⟩
    ·skip
     exact absurd hg5 hc36
   ·skip
    refine rm rfl ?_
    refine rs rfl (s_extract rfl rfl rfl) ?_
    refine rs rfl (s_extract rfl rfl rfl) ?_
    refine rs rfl (s_extract rfl rfl rfl) ?_
    refine rm rfl ?_
    refine rm rfl ?_
    refine rm rfl ?_
    apply run_end
    repeat apply wp_seq'
    refine wp_text rfl ?_
    refine rm rfl ?_
    refine rs rfl (s_ne (m := 0) (n := 0) rfl rfl rfl) ?_
    apply run_end
    repeat apply wp_seq'
    refine wp_if' rfl (fun hc36 => ?_) (fun hc36 => ?_)
    ·skip
     exact absurd rfl hc36
    ·skip
     apply wp_skip'
     obtain ⟨hnd, hmg, hug⟩ := group_mem hg hcl
     obtain ⟨hnd5, hmg5, hug5⟩ := group_mem hg5 hcl5
     obtain ⟨⟨hc0, hc1⟩, _, _, hok, _⟩ := groupI_zero hg
     obtain ⟨_, _, _, hok5, _⟩ := groupI_zero hg5
     have hn256 : c.toNat ≤ 256 := by omega
     subst hkg hkg5
     have hko : ∀ p ∈ kvs, Ok c.toNat p.2 := fun p hp => hok _ ((hmg _).1 (List.mem_map.2 ⟨p, hp, rfl⟩))
     have hko5 : ∀ p ∈ kvs5, Ok c.toNat p.2 := fun p hp => hok5 _ ((hmg5 _).1 (List.mem_map.2 ⟨p, hp, rfl⟩))
     have hkl : (symKV kvs5).length = kvs5.length := by rw [symKV, List.length_map]
     have hsub : subI l k c = if k.all (fun a => decide (a ∈ l)) then 0 else 28 := by rw [subI, if_neg (by rw [hg]; simp), if_neg (by rw [hg5]; simp)]
     have hu1 : usedI l c = used := by rw [usedI, hcl]
     have hu2 : usedI k c = used5 := by rw [usedI, hcl5]
     repeat apply wp_seq'
     refine wp_text rfl ?_
     refine rm rfl ?_
     refine run_rangem (kvs := symKV kvs5) (m := m5) rfl rfl rfl rfl rfl rfl underlying115 (.own (by repeat first|exact MH _|apply MT)) fun bI => ?_
     apply run_end
     repeat apply wp_seq'
     apply wp_block'
     refine wp_loop' (ι := H × List Nat) (fun x => (∀ b o, h5 b = some o → x.1 b = some o) ∧ x.2.Nodup ∧ (∀ j ∈ x.2, j < kvs5.length) ∧ ∀ j ∈ x.2, (pickS kvs5 j).2 ∈ l) (fun x => ⟨[(40, .pointer (some ⟨bI, 0, none⟩)), (14, uv5), (13, .map (some m5)), (11, uv), (10, .map (some m)), (9, .pointer (some ⟨b9, 0, none⟩)), (7, .pointer (some ⟨b7, 0, none⟩))], x.1, [.obj bI (iterO m5 (symKV kvs5).length x.2), .obj m5 (mapO (symKV kvs5)), .obj m (mapO (symKV kvs)), .obj b9 (.cells #[.slice none 0 0, .slice none 0 0] 146 (0, 0)), .obj b7 (.cells #[.slice none 0 0, .slice none 0 0] 146 (0, 0))]⟩) (fun x => kvs5.length - x.2.length) (h5, []) ⟨fun _ _ hb => hb, List.nodup_nil, (fun _ hj => by cases hj), fun _ hj => by cases hj⟩ ⟨by repeat (first|exact True.intro|refine And.intro rfl ?_), rfl, by repeat (first|exact NS _|exact SR _|apply SCC|apply SC)⟩ fun x hx => ?_
     obtain ⟨h6, ord⟩ := x
     obtain ⟨hh6, hon, hlt, hall⟩ := hx
     dsimp only at hh6 hon hlt hall ⊢
     have hks := hks.mono hh6
     have hks5 := hks5.mono hh6
     have hol : ord.length ≤ kvs5.length := by have := nodup_sub_len hon (ys := List.range kvs5.length) (fun j hj => List.mem_range.2 (hlt j hj)); rwa [List.length_range] at this
     repeat apply wp_seq'
     refine wp_text rfl ?_
     refine run_nextm (seen := ord) (kvs := symKV kvs5) rfl rfl rfl rfl rfl rfl (.own (by repeat first|exact MH _|apply MT)) (by repeat first|exact MH _|apply MT) (fun j => (by repeat first|exact Swap.here|apply Swap.there)) (fun hdone => ?_) fun j q hj hjn => ?_
     ·skip
      refine rs rfl (s_extract rfl rfl rfl) ?_
      apply run_end
      repeat apply wp_seq'
      refine wp_cond' (b := false) rfl (fun h => by cases h) (fun _ => ?_)
      apply wp_exit'
      have huv := huv.mono hh6
      have huv5 := huv5.mono hh6
      obtain ⟨uA, uc, eu, _⟩ := id huv
      obtain ⟨uA5, uc5, eu5, _⟩ := id huv5
      subst eu eu5
      repeat apply wp_seq'
      refine wp_text rfl ?_
      refine rm rfl ?_
      refine rm rfl ?_
      refine rs rfl (s_iarr rfl rfl rfl underlying146 sizeOf116 (by omega) (by omega)) ?_
      refine run_st rfl rfl rfl rfl rfl rfl rfl rfl sizeOf116 (by repeat first|exact Swap.here|apply Swap.there) rfl ?_
      refine rs rfl (s_iarr rfl rfl rfl underlying146 sizeOf116 (by omega) (by omega)) ?_
      refine run_st rfl rfl rfl rfl rfl rfl rfl rfl sizeOf116 (by repeat first|exact Swap.here|apply Swap.there) rfl ?_
      apply run_end
      repeat apply wp_seq'
      refine wp_any [0, 1, 2, 3, 4] rfl (by kernel_rfl) ?_
      refine rm rfl ?_
      refine rs rfl (s_ld2 rfl rfl isAgg146 sizeOf146 (.o_ rfl) (.o_ rfl)) ?_
      refine rm rfl ?_
      refine run_st2 rfl rfl rfl rfl rfl rfl (by first | rfl | assumption | exact RdI.one (by assumption)) rfl sizeOf146 (by repeat first|exact Swap.here|apply Swap.there) rfl ?_
      refine rm rfl ?_
      apply run_end
      apply wp_ret'
      refine finM_ret [.obj m5 (mapO (symKV kvs5))] (res_tct rfl rfl rfl rfl isAgg146 sizeOf146 (.own _ _ _ (by repeat first|exact MH _|apply MT) rfl) (.own _ _ _ (by repeat first|exact MH _|apply MT) rfl)) ⟨_, .refl _, (by repeat (first|exact NS _|exact SR _|apply SCC|apply SC))⟩ (.inr ?_)
      have hz : subI l k c = 0 := by
       rw [hsub, if_pos]
       rw [List.all_eq_true]
       intro a ha
       obtain ⟨p, hp, rfl⟩ := List.mem_map.1 ((hmg5 a).2 ha)
       have hperm := pick_perm hon hlt (fun j hj => hdone j (by rw [hkl]; exact hj))
       obtain ⟨j, hj, e⟩ := List.mem_map.1 (hperm.mem_iff.2 hp)
       have := hall j hj
       rw [e] at this
       exact decide_eq_true this
      rw [hu1, hu2]
      exact ⟨hz, m5, kvs5, _, _, rfl, rfl, hmg5, hks5, huv, huv5⟩
     ·skip
      obtain ⟨hjl, rfl⟩ := symKV_get hj
      have hpm : pickS kvs5 j ∈ kvs5 := by simp [pickS, List.getD_eq_getElem?_getD, hjl]
      have hpv := hks5 (pickS kvs5 j) hpm
      have hpo := hko5 _ hpm
      simp only [symE]
      refine rs rfl (s_extract rfl rfl rfl) ?_
      apply run_end
      repeat apply wp_seq'
      refine wp_cond' (b := true) rfl (fun _ => ?_) (fun h => by cases h)
      apply wp_skip'
      repeat apply wp_seq'
      apply wp_block'
      repeat apply wp_seq'
      refine wp_text rfl ?_
      refine rs rfl (s_entry (kvs := symKV kvs5) rfl rfl (.own (by repeat first|exact MH _|apply MT)) (by repeat first|exact MH _|apply MT) hj) ?_
      refine rs rfl (s_extract rfl rfl rfl) ?_
      refine run_alloc rfl rfl rfl rfl rfl zeroValue112 rfl fun b16 => ?_
      refine run_st2 rfl rfl rfl rfl rfl rfl (by first | rfl | assumption | exact RdI.one (by assumption)) rfl sizeOf112 (by repeat first|exact Swap.here|apply Swap.there) rfl ?_
      apply run_end
      repeat apply wp_seq'
      refine wp_text rfl ?_
      refine rm rfl ?_
      refine rs rfl (s_ld2 rfl rfl isAgg112 sizeOf112 (.o_ rfl) (.o_ rfl)) ?_
      refine run_callK (X := .obj m (mapO (symKV kvs))) (vs := [_, _]) rfl rfl rfl (dst_lt rfl rfl) rfl rfl en121 (by repeat first|exact Pick.here|apply Pick.there) (has_fn kvs _ _ m _ _ hks hpv) ?_
      intro v47 h7 e47 hh7
      subst e47
      refine rs rfl (s_not rfl rfl) ?_
      apply run_end
      rw [hasI_iff hn256 hko hpo]
      repeat apply wp_seq'
      refine wp_cond' rfl (fun hc48 => ?_) (fun hc48 => ?_)
      ·skip
       repeat apply wp_seq'
       refine wp_any [0, 1, 2, 3] rfl (by kernel_rfl) ?_
       refine rs rfl (s_ld2 rfl rfl isAgg146 sizeOf146 (.o_ rfl) (.o_ rfl)) ?_
       refine rm rfl ?_
       refine run_st2 rfl rfl rfl rfl rfl rfl (by first | rfl | assumption | exact RdI.one (by assumption)) rfl sizeOf146 (by repeat first|exact Swap.here|apply Swap.there) rfl ?_
       refine rm rfl ?_
       apply run_end
       apply wp_ret'
       refine finM_ret [] (res_tct rfl rfl rfl rfl isAgg146 sizeOf146 (.own _ _ _ (by repeat first|exact MH _|apply MT) rfl) (.own _ _ _ (by repeat first|exact MH _|apply MT) rfl)) ⟨[], .refl _, List.nil_sublist _⟩ (.inl ?_)
       have hz : subI l k c = 28 := by
        rw [hsub, if_neg]
        intro ha
        have := List.all_eq_true.1 ha (pickS kvs5 j).2 ((hmg5 _).1 (List.mem_map.2 ⟨_, hpm, rfl⟩))
        have h8 := (hmg (pickS kvs5 j).2).2 (by simpa using this)
        simp [h8] at hc48
       rw [hz]
       exact ⟨by decide, _, _, rfl, rfl, rfl, rfl⟩
      ·skip
       apply wp_skip'
       have hml : (pickS kvs5 j).2 ∈ l := (hmg _).1 (by simpa using hc48)
       have hnd2 : (ord ++ [j]).Nodup := by rw [List.nodup_append]; exact ⟨hon, by simp, fun a ha b hb => by rw [List.mem_singleton] at hb; subst hb; rintro rfl; exact hjn ha⟩
       have hlt2 : ∀ i ∈ ord ++ [j], i < kvs5.length := by intro i hi; rcases List.mem_append.1 hi with hi | hi; exact hlt i hi; rw [List.mem_singleton] at hi; subst hi; exact hjl
       have hol2 : (ord ++ [j]).length ≤ kvs5.length := by have := nodup_sub_len hnd2 (ys := List.range kvs5.length) (fun j hj => List.mem_range.2 (hlt2 j hj)); rwa [List.length_range] at this
       have hl2 : (ord ++ [j]).length = ord.length + 1 := by simp
       refine ⟨(h7, ord ++ [j]), ⟨fun b o hb => hh7 _ _ (hh6 _ _ hb), hnd2, hlt2, ?_⟩, by dsimp only; omega, ⟨by repeat (first|exact True.intro|refine And.intro rfl ?_), rfl, by repeat (first|exact NS _|exact SR _|apply SCC|apply SC)⟩⟩
       intro i hi
       rcases List.mem_append.1 hi with hi | hi
       ·exact hall i hi
       ·rw [List.mem_singleton] at hi; subst hi; exact hml
end Go.Tal

namespace Go.Tal
open Go.RowKit Go.Proofs Go.Proofs.Tryz _root_.Tal
theorem RdS.one {h : H} {v : Value} {l : List Sy} (r : RdS h v l) : v.oneCell' = true := by obtain ⟨_, _, e, _⟩ := r; subst e; rfl
def cosStep (k : List Sy) (st : List Sy × List Sy) (a : Sy) : List Sy × List Sy := if a ∈ st.1 then st else (k.foldl (fun s b => putL s (comp a b)) st.1, st.2 ++ [a])
def cosTo (l k : List Sy) (i : Nat) : List Sy × List Sy := (l.take i).foldl (cosStep k) ([], [])
theorem foldl_take {α β : Type} {d : α} (f : β → α → β) (b : β) {l : List α} {i : Nat} (hi : i < l.length) : (l.take (i + 1)).foldl f b = f ((l.take i).foldl f b) (l.getD i d) := by
 rw [List.take_succ_eq_append_getElem hi, List.foldl_append]
 simp [List.getD_eq_getElem?_getD, List.getElem?_eq_getElem hi]
theorem cosTo_succ {l k : List Sy} {i : Nat} (hi : i < l.length) : cosTo l k (i + 1) = cosStep k (cosTo l k i) (l.getD i ([], false)) := foldl_take _ _ hi
def cosetO (l k : List Sy) (c : Int) : List Sy × Int := if subI l k c ≠ 0 then ([], subI l k c) else ((cosTo l k l.length).2, 0)
theorem subI_zero {l k : List Sy} {c : Int} (h : subI l k c = 0) : groupI l c = 0 ∧ groupI k c = 0 ∧ ∀ a ∈ k, a ∈ l := by
 unfold subI at h
 by_cases h1 : groupI l c = 0
 ·rw [if_neg (by rw [h1]; simp)] at h
  by_cases h2 : groupI k c = 0
  ·rw [if_neg (by rw [h2]; simp)] at h
   refine ⟨h1, h2, fun a ha => ?_⟩
   by_cases h3 : k.all (fun a => decide (a ∈ l)) = true
   ·simpa using List.all_eq_true.1 h3 a ha
   ·rw [if_neg h3] at h; cases h
  ·rw [if_pos h2] at h; exact absurd h h2
 ·rw [if_pos h1] at h; exact absurd h h1
theorem after_rng {n : Nat} {a b : Sy} (ha : Ok n a) (hb : Ok n b) : ∀ i, i < b.1.length → 0 ≤ b.1.getD i 0 ∧ b.1.getD i 0 < a.1.length := fun i hi => by
 have := hb.getD_range (i := i) (by rw [← hb.1]; exact hi)
 rw [ha.1]; exact this
set_option maxRecDepth 8000 in
set_option maxHeartbeats 4000000 in
theorem cosets_fn (l k : List Sy) (c : Int) (v u : Value) (h : H) (hl : RdS h v l) (hk : RdS h u k) : Fn Tryz.prog 39 #[v, u, .int .i64 c] h fun r h' => ∃ sv, r = .tuple #[sv, .int .i64 (cosetO l k c).2] ∧ RdS h' sv (cosetO l k c).1 := by
 have hlm := hl.len
 have hkm := hk.len
 obtain ⟨uA, uc, eu, _⟩ := id hk
 subst eu
 refine fn_of (vs := [v, .slice uA k.length uc, .int .i64 c]) func39 rfl ntmps39 (Nat.le_of_ble_eq_true rfl) fun w hw => ?_
 repeat apply wp_seq'
 refine wp_text rfl ?_
 refine run_box rfl rfl rfl rfl rfl rfl rfl fun b4 => ?_
 refine rm rfl ?_
 refine rm rfl ?_
 apply run_end
 repeat apply wp_seq'
 refine wp_text rfl ?_
 refine rm rfl ?_
 refine rs rfl (s_ld rfl rfl isAgg22 (.o_ rfl)) ?_
 refine rm rfl ?_
 refine run_callO (vs := [_, _, _]) rfl rfl rfl (dst_lt rfl rfl) rfl rfl en120 (subgroup_fn l k c v _ _ hl hk) ?_
 intro v22 h4 L4 hR hh4
 have hl := hl.mono hh4
 have hk := hk.mono hh4
 rcases hR with ⟨hg, u1, u2, rfl, rfl, ho1, ho2⟩ | ⟨hg, m, kvs, u1, u2, rfl, rfl, hmk, hks, hu1, hu2⟩
 ·skip
  refine rm rfl ?_
  refine rs rfl (s_extract rfl rfl rfl) ?_
  refine rs rfl (s_extract rfl rfl rfl) ?_
  refine rs rfl (s_extract rfl rfl rfl) ?_
  refine run_alloc rfl rfl rfl rfl rfl zeroValue146 rfl fun b9 => ?_
  refine rm rfl ?_
  refine run_st2 rfl rfl rfl rfl rfl rfl ho1 ho2 sizeOf146 (by repeat first|exact Swap.here|apply Swap.there) rfl ?_
  refine rm rfl ?_
  apply run_end
  repeat apply wp_seq'
  refine wp_text rfl ?_
  refine rm rfl ?_
  refine rs rfl (s_ne rfl rfl rfl) ?_
  apply run_end
  repeat apply wp_seq'
  refine wp_if' rfl (fun hc27 => ?_) (fun hc27 => ?_)
  ·skip
   repeat apply wp_seq'
   refine wp_text rfl ?_
   refine rm rfl ?_
   refine rm rfl ?_
   refine rm rfl ?_
   apply run_end
   apply wp_ret'
   refine fin_ret (res_tt rfl rfl rfl) ?_
   rw [cosetO, if_pos hg]
   exact ⟨_, rfl, RdS.nil _ 0⟩
  ·skip
   exact absurd hg hc27
 ·skip
  have ho1 := hu1.one
  have ho2 := hu2.one
  refine rm rfl ?_
  refine rs rfl (s_extract rfl rfl rfl) ?_
  refine rs rfl (s_extract rfl rfl rfl) ?_
  refine rs rfl (s_extract rfl rfl rfl) ?_
  refine run_alloc rfl rfl rfl rfl rfl zeroValue146 rfl fun b9 => ?_
  refine rm rfl ?_
  refine run_st2 rfl rfl rfl rfl rfl rfl ho1 ho2 sizeOf146 (by repeat first|exact Swap.here|apply Swap.there) rfl ?_
  refine rm rfl ?_
  apply run_end
  repeat apply wp_seq'
  refine wp_text rfl ?_
  refine rm rfl ?_
  refine rs rfl (s_ne (m := 0) (n := 0) rfl rfl rfl) ?_
  apply run_end
  repeat apply wp_seq'
  refine wp_if' rfl (fun hc27 => ?_) (fun hc27 => ?_)
  ·skip
   exact absurd rfl hc27
  ·skip
   apply wp_skip'
   obtain ⟨hgl, hgk, hkl⟩ := subI_zero hg
   obtain ⟨⟨hc0, hc1⟩, _, _, hok, _⟩ := groupI_zero hgl
   obtain ⟨_, _, _, hokk, _⟩ := groupI_zero hgk
   have hn : c.toNat ≤ 256 := by omega
   have hO : cosetO l k c = ((cosTo l k l.length).2, 0) := by rw [cosetO, if_neg (by rw [hg]; simp)]
   clear hmk hks hu1 hu2
   repeat apply wp_seq'
   refine wp_text rfl ?_
   refine run_mkmapO rfl rfl rfl rfl rfl fun m1 => ?_
   refine run_alloc rfl rfl rfl rfl rfl zeroValue115 rfl fun b11 => ?_
   refine run_st rfl rfl rfl rfl rfl rfl rfl rfl sizeOf115 (by repeat first|exact Swap.here|apply Swap.there) rfl ?_
   apply run_end
   repeat apply wp_seq'
   refine wp_text rfl ?_
   refine run_alloc rfl rfl rfl rfl rfl zeroValue22 rfl fun b12 => ?_
   apply run_end
   repeat apply wp_seq'
   refine wp_text rfl ?_
   refine rm rfl ?_
   refine run_call (vs := [_]) rfl rfl rfl rfl rfl rfl en90 (all_fn v _ (by obtain ⟨A, q, rfl, _⟩ := hl; rfl)) ?_
   intro v31 h5 ⟨box, e31, hbox⟩ hh5
   subst e31
   have hl := hl.mono hh5
   have hk := hk.mono hh5
   apply run_end
   repeat apply wp_seq'
   apply wp_block'
   refine WP.nilrow 37 2 ?_
   refine WP.wk (t := ⟨[(31, .func (.func 159) #[] #[.pointer (some ⟨box, 0, none⟩)]), (12, .pointer (some ⟨b12, 0, none⟩)), (11, .pointer (some ⟨b11, 0, none⟩)), (4, .pointer (some ⟨b4, 0, none⟩))], h5, [.row (.slice none 0 0) 37 2 0 [], .obj b12 (.cells #[.slice none 0 0] 22 (0, 0)), .obj b11 (.cells #[.map (some m1)] 115 (0, 0)), .obj m1 (mapO (symKV [])), .obj b4 (.cells #[.slice uA k.length uc] 22 (0, 0))]⟩) ?_ ⟨by repeat (first|exact True.intro|refine And.intro rfl ?_), rfl, by repeat (first|exact NS _|exact SR _|apply SCC|apply SC)⟩
   refine wp_all rfl rfl rfl hbox hl rfl rfl rfl (fun i h' L => ∃ (kvs us : List (Value × Sy)) (A : Option Addr) (q : Nat), L = [.row (.slice A us.length q) 37 2 us.length (rowS us), .obj b12 (.cells #[.slice A us.length q] 22 (0, 0)), .obj b11 (.cells #[.map (some m1)] 115 (0, 0)), .obj m1 (mapO (symKV kvs)), .obj b4 (.cells #[.slice uA k.length uc] 22 (0, 0))] ∧ SetOk h' kvs ∧ (∀ p ∈ kvs, Ok c.toNat p.2) ∧ SetOk h' us ∧ cosTo l k i = (kvs.map (·.2), us.map (·.2)) ∧ us.length ≤ i) (fun c h' L => False) ⟨[], [], none, 0, rfl, (fun p hp => by cases hp), (fun p hp => by cases hp), (fun p hp => by cases hp), rfl, Nat.le_refl _⟩ (fun i h6 L hi hh6 hJ av hav => ?_) (fun h6 L hh6 hJ => ?_) (fun c h3 L hJ => hJ.elim)
   ·skip
    obtain ⟨kvs1, us, A, q, rfl, hks, hko, hus, hto, hul⟩ := hJ
    have hk := hk.mono hh6
    have hao := hok _ (getD_mem' (l := l) hi)
    have hstep := cosTo_succ (k := k) hi
    rw [hto] at hstep
    repeat apply wp_seq'
    refine wp_text rfl ?_
    refine run_alloc rfl rfl rfl rfl rfl zeroValue112 rfl fun b14 => ?_
    refine run_st2 rfl rfl rfl rfl rfl rfl (by first | rfl | assumption | exact RdI.one (by assumption)) rfl sizeOf112 (by repeat first|exact Swap.here|apply Swap.there) rfl ?_
    apply run_end
    repeat apply wp_seq'
    apply wp_block'
    repeat apply wp_seq'
    refine wp_text rfl ?_
    refine rs rfl (s_ld rfl rfl isAgg115 (.o_ rfl)) ?_
    refine rs rfl (s_ld2 rfl rfl isAgg112 sizeOf112 (.o_ rfl) (.o_ rfl)) ?_
    refine run_callK (vs := [_, _]) rfl rfl rfl (dst_lt rfl rfl) rfl rfl en121 (by repeat first|exact Pick.here|apply Pick.there) (has_fn kvs1 _ _ m1 av _ hks hav) ?_
    intro v36 h7 e36 hh7
    subst e36
    apply run_end
    rw [hasI_iff hn hko hao]
    have hks := hks.mono hh7
    have hus := hus.mono hh7
    have hk := hk.mono hh7
    have hav := hav.mono hh7
    repeat apply wp_seq'
    refine wp_if' rfl (fun hc36 => ?_) (fun hc36 => ?_)
    ·skip
     apply wp_exit'
     rw [cosStep, if_pos hc36] at hstep
     exact re_normal _ ⟨hh7, kvs1, us, A, q, rfl, hks, hko, hus, hstep, by omega⟩ ⟨_, .refl _, (by repeat (first|exact NS _|exact SR _|apply SCC|apply SC))⟩
    ·skip
     apply wp_skip'
     rw [cosStep, if_neg hc36] at hstep
     repeat apply wp_seq'
     refine wp_text rfl ?_
     refine rs rfl (s_ld rfl rfl isAgg22 (.o_ rfl)) ?_
     refine run_call (vs := [_]) rfl rfl rfl rfl rfl rfl en90 (all_fn _ _ rfl) ?_
     intro v38 h8 ⟨box2, e38, hbox2⟩ hh8
     subst e38
     have hks := hks.mono hh8
     have hus := hus.mono hh8
     have hk := hk.mono hh8
     have hav := hav.mono hh8
     apply run_end
     repeat apply wp_seq'
     apply wp_block'
     refine WP.wq (t := ⟨[(38, .func (.func 159) #[] #[.pointer (some ⟨box2, 0, none⟩)]), (14, .pointer (some ⟨b14, 0, none⟩)), (12, .pointer (some ⟨b12, 0, none⟩)), (11, .pointer (some ⟨b11, 0, none⟩)), (4, .pointer (some ⟨b4, 0, none⟩))], h8, [.obj b14 (.cells #[av, .bool (l.getD i ([], false)).2] 112 (0, 0)), .row (.slice A us.length q) 37 2 us.length (rowS us), .obj b12 (.cells #[.slice A us.length q] 22 (0, 0)), .obj b11 (.cells #[.map (some m1)] 115 (0, 0)), .obj m1 (mapO (symKV kvs1)), .obj b4 (.cells #[.slice uA k.length uc] 22 (0, 0))]⟩) ⟨by repeat (first|exact True.intro|refine And.intro rfl ?_), rfl, _, .refl _, (by repeat (first|exact NS _|exact SR _|apply SCC|apply SC))⟩ ?_
     refine wp_all rfl rfl rfl hbox2 hk rfl rfl rfl (fun j h' L => ∃ (kvs2 : List (Value × Sy)), L = [.obj b14 (.cells #[av, .bool (l.getD i ([], false)).2] 112 (0, 0)), .row (.slice A us.length q) 37 2 us.length (rowS us), .obj b12 (.cells #[.slice A us.length q] 22 (0, 0)), .obj b11 (.cells #[.map (some m1)] 115 (0, 0)), .obj m1 (mapO (symKV kvs2)), .obj b4 (.cells #[.slice uA k.length uc] 22 (0, 0))] ∧ SetOk h' kvs2 ∧ (∀ p ∈ kvs2, Ok c.toNat p.2) ∧ kvs2.map (·.2) = (k.take j).foldl (fun s b => putL s (comp (l.getD i ([], false)) b)) (kvs1.map (·.2))) (fun c h' L => False) ⟨kvs1, rfl, hks, hko, rfl⟩ (fun j h9 L hj hh9 hJ bv hbv => ?_) (fun h9 L hh9 hJ => ?_) (fun c h3 L hJ => hJ.elim)
     ·skip
      obtain ⟨kvs2, rfl, hks2, hko2, hfl⟩ := hJ
      have hav := hav.mono hh9
      have hbo := hokk _ (getD_mem' (l := k) hj)
      have hco := hao.comp hbo
      repeat apply wp_seq'
      refine wp_text rfl ?_
      refine run_alloc rfl rfl rfl rfl rfl zeroValue112 rfl fun b16 => ?_
      refine run_st2 rfl rfl rfl rfl rfl rfl (by first | rfl | assumption | exact RdI.one (by assumption)) rfl sizeOf112 (by repeat first|exact Swap.here|apply Swap.there) rfl ?_
      apply run_end
      repeat apply wp_seq'
      apply wp_block'
      repeat apply wp_seq'
      refine wp_text rfl ?_
      refine rs rfl (s_ld2 rfl rfl isAgg112 sizeOf112 (.o_ rfl) (.o_ rfl)) ?_
      refine rs rfl (s_ld2 rfl rfl isAgg112 sizeOf112 (.o_ rfl) (.o_ rfl)) ?_
      refine run_call (vs := [_, _]) rfl rfl rfl rfl rfl rfl en122 (after_fn (l.getD i ([], false)) (k.getD j ([], false)) _ _ _ hav hbv (after_rng hao hbo)) ?_
      intro v43 h10 ⟨cv, e43, hcv⟩ hh10
      subst e43
      refine run_alloc rfl rfl rfl rfl rfl zeroValue112 rfl fun b17 => ?_
      refine run_st2 rfl rfl rfl rfl rfl rfl (by first | rfl | assumption | exact RdI.one (by assumption)) rfl sizeOf112 (by repeat first|exact Swap.here|apply Swap.there) rfl ?_
      apply run_end
      obtain ⟨kvs3, hput, hmap, hmem⟩ := kvPut_symG (v := cv) hn hco kvs2 hko2
      repeat apply wp_seq'
      refine wp_any [0, 1, 3, 2, 4] rfl (by kernel_rfl) ?_
      refine rs rfl (s_ld rfl rfl isAgg115 (.o_ rfl)) ?_
      refine rs rfl (s_ld2 rfl rfl isAgg112 sizeOf112 (.o_ rfl) (.o_ rfl)) ?_
      refine rs rfl (s_ld2 rfl rfl isAgg112 sizeOf112 (.o_ rfl) (.o_ rfl)) ?_
      refine run_callv (vs := [_]) rfl rfl rfl rfl rfl rfl en123 (key_fn _ _ _ _ hcv) ?_
      refine run_mapup1 rfl (.inl rfl) rfl rfl rfl rfl rfl underlying115 underlying9 (by repeat first|exact Swap.here|apply Swap.there) ?_
      apply run_end
      erw [hput]
      refine re_normal _ ⟨hh10, kvs3, rfl, ?_, ?_, ?_⟩ ⟨_, .refl _, (by repeat (first|exact NS _|exact SR _|apply SCC|apply SC))⟩
      ·intro p hp; rcases hmem p hp with h11 | rfl; exact (hks2.mono hh10) p h11; exact hcv
      ·intro p hp; rcases hmem p hp with h11 | rfl; exact hko2 p h11; exact hco
      ·rw [hmap, hfl, foldl_take (d := ([], false)) _ _ hj]
     ·skip
      obtain ⟨kvs2, rfl, hks2, hko2, hfl⟩ := hJ
      rw [List.take_length] at hfl
      have hus := hus.mono hh9
      have hav := hav.mono hh9
      repeat apply wp_seq'
      refine wp_any [0, 1, 2, 4, 5, 3, 6, 7, 8, 9] rfl (by kernel_rfl) ?_
      refine rs rfl (s_ld rfl rfl isAgg22 (.o_ rfl)) ?_
      refine rs rfl (s_fa (off := 0) rfl rfl underlying112 rfl sizeOf35 rfl) ?_
      refine rs rfl (s_ld rfl rfl isAgg35 (.o_ rfl)) ?_
      refine rs rfl (s_fa (off := 1) rfl rfl underlying112 rfl sizeOf4 rfl) ?_
      refine rs rfl (s_ld rfl rfl isAgg4 (.o_ rfl)) ?_
      refine run_call (vs := [_]) rfl rfl rfl rfl rfl rfl en106 (cloneI_fn _ _ _ hav) ?_
      intro v51 h10 hv51 hh10
      have hus := hus.mono hh10
      refine rs rfl (s_build2 rfl rfl rfl (b37_r hv51 _)) ?_
      refine run_bso (parts := [_]) (vs := [_]) rfl rfl rfl rfl rfl rfl (bs22_r hv51 _) fun b55 => ?_
      refine run_app2 (fun p : Value × Sy => p.1) (fun p : Value × Sy => .bool p.2.2) (v51, l.getD i ([], false)) (xs := us) rfl rfl rfl rfl rfl rfl rfl underlying22 info37 rfl (fun v' => (by repeat first|exact Swap.here|apply Swap.there)) (by repeat first|exact MH _|apply MT) (RdI.one hv51) rfl (by omega) (by decide) fun v56 hv56 => ?_
      obtain ⟨A56, c56, rfl⟩ := hv56
      refine run_st rfl rfl rfl rfl rfl rfl rfl rfl sizeOf22 (by repeat first|exact Swap.here|apply Swap.there) rfl ?_
      apply run_end
      have el : us.length + 1 = (us ++ [(v51, l.getD i ([], false))]).length := by simp
      rw [el]
      refine re_normal _ ⟨fun b o hb => hh10 _ _ (hh9 _ _ (hh8 _ _ (hh7 _ _ hb))), kvs2, us ++ [(v51, l.getD i ([], false))], A56, c56, rfl, hks2.mono hh10, hko2, ?_, ?_, by rw [← el]; omega⟩ ⟨_, .refl _, (by repeat (first|exact NS _|exact SR _|apply SCC|apply SC))⟩
      ·intro p hp; rcases List.mem_append.1 hp with hp | hp; exact hus p hp; rw [List.mem_singleton] at hp; subst hp; exact hv51
      ·rw [hstep, List.map_append, hfl]; rfl
   ·skip
    obtain ⟨kvs1, us, A, q, rfl, hks, hko, hus, hto, hul⟩ := hJ
    repeat apply wp_seq'
    refine wp_text rfl ?_
    refine rs rfl (s_ld rfl rfl isAgg22 (.o_ rfl)) ?_
    refine rm rfl ?_
    refine rm rfl ?_
    apply run_end
    refine WP.letR us rfl (by repeat first|exact Pick.here|apply Pick.there) (by omega) hus fun h7 hh7 hrd => ?_
    apply wp_ret'
    refine fin_ret (res_tt rfl rfl rfl) ?_
    rw [hO, hto]
    exact ⟨_, rfl, hrd⟩
theorem invTo_get {a : List Int} (hp : PermL a.length a) : ∀ k, k ≤ a.length → ∀ j, j < k → (invTo a k).getD (a.getD j 0).toNat 0 = (j : Int)
 | 0, _, j, hj => by omega
 | k + 1, hk, j, hj => by
  rw [invTo_succ]
  have hr := hp.getD_range (i := k) (by omega)
  have hrj := hp.getD_range (i := j) (by omega)
  by_cases e : j = k
  ·subst e
   simp only [List.getD_eq_getElem?_getD] at hr ⊢
   rw [List.getElem?_set_self (by rw [invTo_len]; omega)]
   rfl
  ·have hne : (a.getD k 0).toNat ≠ (a.getD j 0).toNat := fun h1 => e (nodup_getD_inj hp.2.1 (by omega) (by omega) (by omega))
   have := invTo_get hp k (by omega) j (by omega)
   simp only [List.getD_eq_getElem?_getD] at this hne ⊢
   rw [List.getElem?_set_ne hne]
   exact this
def invS (a : Sy) : Sy := (invTo a.1 a.1.length, a.2)
theorem invS_eq {n : Nat} {a : Sy} (ha : Ok n a) : invS a = inv a := by
 have hp : PermL a.1.length a.1 := by rw [ha.1]; exact ha
 refine Prod.ext ?_ rfl
 refine ext_getD (n := n) (by rw [invS, invTo_len]; exact ha.1) ha.inv.1 fun i hi => ?_
 rw [inv_getD ha hi]
 have hm : (i : Int) ∈ a.1 := ha.onto (by omega) (by omega)
 have h1 := idxOf_getD hm
 have h2 := invTo_get hp a.1.length (Nat.le_refl _) (a.1.idxOf (i : Int)) (List.idxOf_lt_length_of_mem hm)
 rw [h1] at h2
 exact h2
def normO (l k : List Sy) (c : Int) : Bool × Int := if subI l k c ≠ 0 then (false, subI l k c) else ((usedI l c).all fun a => (usedI k c).all fun b => decide (comp (comp a b) (invS a) ∈ k), 0)
theorem all_take {α : Type} {d : α} {p : α → Bool} {l : List α} {i : Nat} (hi : i < l.length) : (l.take (i + 1)).all p = ((l.take i).all p && p (l.getD i d)) := by
 rw [List.take_succ_eq_append_getElem hi, List.all_append]
 simp [List.getD_eq_getElem?_getD, List.getElem?_eq_getElem hi]
theorem used_mem {l : List Sy} {c : Int} (h : groupI l c = 0) : ∀ a ∈ usedI l c, a ∈ l := by
 obtain ⟨_, _, _, _, _, g, used, h1, _⟩ := groupI_zero h
 obtain ⟨_, _, h2⟩ := group_mem h h1
 rw [usedI, h1]
 exact h2
theorem all_false {α : Type} {d : α} {p : α → Bool} {l : List α} {i : Nat} (hi : i < l.length) (h : p (l.getD i d) = false) : l.all p = false := by
 rw [Bool.eq_false_iff]
 intro h1
 have e : l.getD i d = l[i] := by simp [List.getD_eq_getElem?_getD, List.getElem?_eq_getElem hi]
 rw [e] at h
 rw [List.all_eq_true.1 h1 _ (List.getElem_mem hi)] at h
 cases h
set_option maxRecDepth 8000 in
set_option maxHeartbeats 4000000 in
theorem isNormal_fn (l k : List Sy) (c : Int) (v u : Value) (h : H) (hl : RdS h v l) (hk : RdS h u k) : FnV Tryz.prog 40 #[v, u, .int .i64 c] h (.tuple #[.bool (normO l k c).1, .int .i64 (normO l k c).2]) := by
 refine fn_of (vs := [v, u, .int .i64 c]) func40 rfl ntmps40 (Nat.le_of_ble_eq_true rfl) fun w hw => ?_
 repeat apply wp_seq'
 refine wp_text rfl ?_
 refine rm rfl ?_
 refine rm rfl ?_
 apply run_end
 repeat apply wp_seq'
 refine wp_text rfl ?_
 refine rm rfl ?_
 refine rm rfl ?_
 refine rm rfl ?_
 refine run_callO (vs := [_, _, _]) rfl rfl rfl (dst_lt rfl rfl) rfl rfl en120 (subgroup_fn l k c v _ _ hl hk) ?_
 intro v22 h4 L4 hR hh4
 rcases hR with ⟨hg, u1, u2, rfl, rfl, ho1, ho2⟩ | ⟨hg, m, kvs, u1, u2, rfl, rfl, hmk, hks, hu1, hu2⟩
 ·skip
  refine rm rfl ?_
  refine rs rfl (s_extract rfl rfl rfl) ?_
  refine rs rfl (s_extract rfl rfl rfl) ?_
  refine rs rfl (s_extract rfl rfl rfl) ?_
  refine run_alloc rfl rfl rfl rfl rfl zeroValue146 rfl fun b9 => ?_
  refine rm rfl ?_
  refine run_st2 rfl rfl rfl rfl rfl rfl ho1 ho2 sizeOf146 (by repeat first|exact Swap.here|apply Swap.there) rfl ?_
  refine rm rfl ?_
  apply run_end
  repeat apply wp_seq'
  refine wp_text rfl ?_
  refine rm rfl ?_
  refine rs rfl (s_ne rfl rfl rfl) ?_
  apply run_end
  repeat apply wp_seq'
  refine wp_if' rfl (fun hc24 => ?_) (fun hc24 => ?_)
  ·skip
   repeat apply wp_seq'
   refine wp_text rfl ?_
   refine rm rfl ?_
   refine rm rfl ?_
   refine rm rfl ?_
   apply run_end
   apply wp_ret'
   refine fin_ret (res_tt rfl rfl rfl) ?_
   rw [normO, if_pos hg]
   rfl
  ·skip
   exact absurd hg hc24
 ·skip
  have ho1 := hu1.one
  have ho2 := hu2.one
  refine rm rfl ?_
  refine rs rfl (s_extract rfl rfl rfl) ?_
  refine rs rfl (s_extract rfl rfl rfl) ?_
  refine rs rfl (s_extract rfl rfl rfl) ?_
  refine run_alloc rfl rfl rfl rfl rfl zeroValue146 rfl fun b9 => ?_
  refine rm rfl ?_
  refine run_st2 rfl rfl rfl rfl rfl rfl ho1 ho2 sizeOf146 (by repeat first|exact Swap.here|apply Swap.there) rfl ?_
  refine rm rfl ?_
  apply run_end
  repeat apply wp_seq'
  refine wp_text rfl ?_
  refine rm rfl ?_
  refine rs rfl (s_ne (m := 0) (n := 0) rfl rfl rfl) ?_
  apply run_end
  repeat apply wp_seq'
  refine wp_if' rfl (fun hc24 => ?_) (fun hc24 => ?_)
  ·skip
   exact absurd rfl hc24
  ·skip
   apply wp_skip'
   obtain ⟨hgl, hgk, hkl⟩ := subI_zero hg
   obtain ⟨⟨hc0, hc1⟩, _, _, hok, _⟩ := groupI_zero hgl
   obtain ⟨_, _, _, hokk, _⟩ := groupI_zero hgk
   have hn : c.toNat ≤ 256 := by omega
   have hO : normO l k c = ((usedI l c).all fun a => (usedI k c).all fun b => decide (comp (comp a b) (invS a) ∈ k), 0) := by rw [normO, if_neg (by rw [hg]; simp)]
   have hk1 := fun a ha => hok a (used_mem hgl a ha)
   have hk2 := fun a ha => hokk a (used_mem hgk a ha)
   have hko : ∀ p ∈ kvs, Ok c.toNat p.2 := fun p hp => hokk _ ((hmk _).1 (List.mem_map.2 ⟨p, hp, rfl⟩))
   generalize usedI l c = x1 at hu1 hO hk1
   generalize usedI k c = x2 at hu2 hO hk2
   have hm1 := hu1.len
   have hm2 := hu2.len
   repeat apply wp_seq'
   refine wp_text rfl ?_
   refine rs rfl (s_iarr rfl rfl rfl underlying146 sizeOf116 (by omega) (by omega)) ?_
   refine rs rfl (s_ld rfl rfl isAgg116 (.o_ rfl)) ?_
   refine rs rfl (s_lenS hu1 rfl rfl underlying116) ?_
   refine rm rfl ?_
   apply run_end
   repeat apply wp_seq'
   apply wp_block'
   refine wp_loop' (ι := H × Nat) (fun i => (∀ b o, h4 b = some o → i.1 b = some o) ∧ i.2 ≤ x1.length ∧ ((x1.take i.2).all fun a => x2.all fun b => decide (comp (comp a b) (invS a) ∈ k)) = true) (fun i => ⟨[(29, .int .i64 i.2), (28, .int .i64 x1.length), (27, u1), (9, .pointer (some ⟨b9, 0, none⟩)), (8, .map (some m))], i.1, [.obj b9 (.cells #[u1, u2] 146 (0, 0)), .obj m (mapO (symKV kvs))]⟩) (fun i => x1.length - i.2) (h4, 0) ⟨fun _ _ hb => hb, Nat.zero_le _, rfl⟩ ⟨by repeat (first|exact True.intro|refine And.intro rfl ?_), rfl, by repeat (first|exact NS _|exact SR _|apply SCC|apply SC)⟩ fun i hi => ?_
   obtain ⟨h5, i⟩ := i
   obtain ⟨hh5, hi, hall⟩ := hi
   dsimp only at hh5 hi hall ⊢
   have hu1 := hu1.mono hh5
   have hu2 := hu2.mono hh5
   have hks := hks.mono hh5
   repeat apply wp_seq'
   refine wp_text rfl ?_
   refine rs rfl (s_lt rfl rfl rfl) ?_
   apply run_end
   repeat apply wp_seq'
   refine wp_if' rfl (fun hc30 => ?_) (fun hc30 => ?_)
   ·skip
    apply wp_skip'
    obtain ⟨av, hav, hat⟩ := hu1.get (j := i) (by omega)
    have hao := hk1 _ (getD_mem' (l := x1) (i := i) (by omega))
    have hst := all_take (d := ([], false)) (p := fun a => x2.all fun b => decide (comp (comp a b) (invS a) ∈ k)) (l := x1) (i := i) (by omega)
    repeat apply wp_seq'
    apply wp_block'
    repeat apply wp_seq'
    refine wp_text rfl ?_
    refine rs rfl (s_iaS hu1 (by omega) (by omega) rfl rfl rfl underlying116 sizeOf112) ?_
    refine rs rfl (s_ldS hat (by omega) rfl rfl isAgg112 sizeOf112) ?_
    refine run_alloc rfl rfl rfl rfl rfl zeroValue112 rfl fun b12 => ?_
    refine run_st2 rfl rfl rfl rfl rfl rfl (by first | rfl | assumption | exact RdI.one (by assumption)) rfl sizeOf112 (by repeat first|exact Swap.here|apply Swap.there) rfl ?_
    apply run_end
    repeat apply wp_seq'
    refine wp_text rfl ?_
    refine rs rfl (s_iarr rfl rfl rfl underlying146 sizeOf116 (by omega) (by omega)) ?_
    refine rs rfl (s_ld rfl rfl isAgg116 (.o_ rfl)) ?_
    refine rs rfl (s_lenS hu2 rfl rfl underlying116) ?_
    refine rm rfl ?_
    apply run_end
    repeat apply wp_seq'
    apply wp_block'
    refine wp_loop' (ι := H × Nat) (fun j => (∀ b o, h5 b = some o → j.1 b = some o) ∧ j.2 ≤ x2.length ∧ ((x2.take j.2).all fun b => decide (comp (comp (x1.getD i ([], false)) b) (invS (x1.getD i ([], false))) ∈ k)) = true) (fun j => ⟨[(36, .int .i64 j.2), (35, .int .i64 x2.length), (34, u2), (12, .pointer (some ⟨b12, 0, none⟩)), (29, .int .i64 i), (28, .int .i64 x1.length), (27, u1), (9, .pointer (some ⟨b9, 0, none⟩)), (8, .map (some m))], j.1, [.obj b12 (.cells #[av, .bool (x1.getD i ([], false)).2] 112 (0, 0)), .obj b9 (.cells #[u1, u2] 146 (0, 0)), .obj m (mapO (symKV kvs))]⟩) (fun j => x2.length - j.2) (h5, 0) ⟨fun _ _ hb => hb, Nat.zero_le _, rfl⟩ ⟨by repeat (first|exact True.intro|refine And.intro rfl ?_), rfl, by repeat (first|exact NS _|exact SR _|apply SCC|apply SC)⟩ fun j hj => ?_
    obtain ⟨h6, j⟩ := j
    obtain ⟨hh6, hj, hall2⟩ := hj
    dsimp only at hh6 hj hall2 ⊢
    have hu2 := hu2.mono hh6
    have hks := hks.mono hh6
    have hav := hav.mono hh6
    repeat apply wp_seq'
    refine wp_text rfl ?_
    refine rs rfl (s_lt rfl rfl rfl) ?_
    apply run_end
    repeat apply wp_seq'
    refine wp_if' rfl (fun hc37 => ?_) (fun hc37 => ?_)
    ·skip
     apply wp_skip'
     obtain ⟨bv, hbv, hbt⟩ := hu2.get (j := j) (by omega)
     have hbo := hk2 _ (getD_mem' (l := x2) (i := j) (by omega))
     have hst2 := all_take (d := ([], false)) (p := fun b => decide (comp (comp (x1.getD i ([], false)) b) (invS (x1.getD i ([], false))) ∈ k)) (l := x2) (i := j) (by omega)
     have hio : Ok c.toNat (invS (x1.getD i ([], false))) := by rw [invS_eq hao]; exact hao.inv
     have hco := (hao.comp hbo).comp hio
     repeat apply wp_seq'
     apply wp_block'
     repeat apply wp_seq'
     refine wp_text rfl ?_
     refine rs rfl (s_iaS hu2 (by omega) (by omega) rfl rfl rfl underlying116 sizeOf112) ?_
     refine rs rfl (s_ldS hbt (by omega) rfl rfl isAgg112 sizeOf112) ?_
     refine run_alloc rfl rfl rfl rfl rfl zeroValue112 rfl fun b14 => ?_
     refine run_st2 rfl rfl rfl rfl rfl rfl (by first | rfl | assumption | exact RdI.one (by assumption)) rfl sizeOf112 (by repeat first|exact Swap.here|apply Swap.there) rfl ?_
     apply run_end
     repeat apply wp_seq'
     refine wp_any [0, 1, 2, 4, 3, 5, 6, 7, 8] rfl (by kernel_rfl) ?_
     refine rm rfl ?_
     refine rs rfl (s_ld2 rfl rfl isAgg112 sizeOf112 (.o_ rfl) (.o_ rfl)) ?_
     refine rs rfl (s_ld2 rfl rfl isAgg112 sizeOf112 (.o_ rfl) (.o_ rfl)) ?_
     refine rs rfl (s_ld2 rfl rfl isAgg112 sizeOf112 (.o_ rfl) (.o_ rfl)) ?_
     refine run_call (vs := [_, _]) rfl rfl rfl rfl rfl rfl en122 (after_fn (x1.getD i ([], false)) (x2.getD j ([], false)) _ _ _ hav hbv (after_rng hao hbo)) ?_
     intro v43 h7 ⟨cv, e43, hcv⟩ hh7
     subst e43
     have hks := hks.mono hh7
     have hav := hav.mono hh7
     refine run_call (vs := [_]) rfl rfl rfl rfl rfl rfl en124 (inverse_fn (x1.getD i ([], false)).1 _ _ _ hav (by rw [hao.1]; exact hao)) ?_
     intro v45 h8 ⟨iv, e45, hiv⟩ hh8
     subst e45
     have hks := hks.mono hh8
     have hcv := hcv.mono hh8
     refine run_call (vs := [_, _]) rfl rfl rfl rfl rfl rfl en122 (after_fn (comp (x1.getD i ([], false)) (x2.getD j ([], false))) (invS (x1.getD i ([], false))) _ _ _ hcv hiv (after_rng (hao.comp hbo) hio)) ?_
     intro v46 h9 ⟨dv, e46, hdv⟩ hh9
     subst e46
     have hks := hks.mono hh9
     refine run_callK (vs := [_, _]) rfl rfl rfl (dst_lt rfl rfl) rfl rfl en121 (by repeat first|exact Pick.here|apply Pick.there) (has_fn kvs _ _ m dv _ hks hdv) ?_
     intro v47 h10 e47 hh10
     subst e47
     refine rs rfl (s_not rfl rfl) ?_
     apply run_end
     rw [hasI_iff hn hko hco]
     repeat apply wp_seq'
     refine wp_cond' rfl (fun hc48 => ?_) (fun hc48 => ?_)
     ·skip
      have hnm : ¬ comp (comp (x1.getD i ([], false)) (x2.getD j ([], false))) (invS (x1.getD i ([], false))) ∈ k := fun hm => by rw [decide_eq_true ((hmk _).2 hm)] at hc48; cases hc48
      repeat apply wp_seq'
      refine wp_text rfl ?_
      refine rm rfl ?_
      refine rm rfl ?_
      apply run_end
      apply wp_ret'
      refine fin_ret (res_tt rfl rfl rfl) ?_
      rw [hO, all_false (d := ([], false)) (i := i) (by omega) (all_false (d := ([], false)) (i := j) (by omega) (decide_eq_false hnm))]
     ·skip
      apply wp_skip'
      have hin : comp (comp (x1.getD i ([], false)) (x2.getD j ([], false))) (invS (x1.getD i ([], false))) ∈ k := (hmk _).1 (by simpa using hc48)
      rw [hall2, decide_eq_true hin] at hst2
      refine wp_text rfl ?_
      refine rs rfl (s_add rfl rfl rfl (IntWalk.i64_in _ (by omega))) ?_
      refine rm rfl ?_
      apply run_end
      exact ⟨(h10, j + 1), ⟨fun b o hb => hh10 _ _ (hh9 _ _ (hh8 _ _ (hh7 _ _ (hh6 _ _ hb)))), by dsimp only; omega, hst2⟩, by dsimp only; omega, ⟨by repeat (first|exact True.intro|refine And.intro rfl ?_), rfl, by repeat (first|exact NS _|exact SR _|apply SCC|apply SC)⟩⟩
    ·skip
     apply wp_exit'
     obtain rfl : j = x2.length := by omega
     rw [List.take_length] at hall2
     rw [hall, hall2] at hst
     refine wp_text rfl ?_
     refine rs rfl (s_add rfl rfl rfl (IntWalk.i64_in _ (by omega))) ?_
     refine rm rfl ?_
     apply run_end
     exact ⟨(h6, i + 1), ⟨fun b o hb => hh6 _ _ (hh5 _ _ hb), by dsimp only; omega, hst⟩, by dsimp only; omega, ⟨by repeat (first|exact True.intro|refine And.intro rfl ?_), rfl, by repeat (first|exact NS _|exact SR _|apply SCC|apply SC)⟩⟩
   ·skip
    apply wp_exit'
    obtain rfl : i = x1.length := by omega
    rw [List.take_length] at hall
    repeat apply wp_seq'
    refine wp_text rfl ?_
    refine rm rfl ?_
    refine rm rfl ?_
    apply run_end
    apply wp_ret'
    refine fin_ret (res_tt rfl rfl rfl) ?_
    rw [hO, hall]
end Go.Tal

/-
 Symbolic states: rows let go where blocks have been handed over; calls that are handed several blocks and leave them; bits of integers.
-/
namespace Go.Tal
open Go.RowKit
/-- What was handed over is still held. -/
def Held (I : List Nat) (L : List Own) : Prop := ∀ k ∈ I, ∃ y ∈ L, y.blk = some k
theorem held_sub {L0 L : List Own} (hs : ∀ x ∈ L0, x ∈ L) : Held (blks L0) L := fun k hk => by
 obtain ⟨y, hy, hb⟩ := List.mem_filterMap.1 hk
 exact ⟨y, hs y hy, hb⟩
theorem Mem.letH {C : Ctx} {h : H} {X : Own} {L L' : List Own} {w : World} (m : Mem C h L w) (p : Pick X L L') {b : Nat} (hX : X.blk = some b) (hI : Held C.I L') : Mem C (updH h b w.heap[b]?) L' w := by
 have m1 := m.perm p.perm
 have hge : C.w0.heap.size ≤ b := by
  rcases m1.new X List.mem_cons_self b hX with h1 | h1
  ·exact h1
  ·obtain ⟨y, hy, hb⟩ := hI b h1
   exact absurd hb ((List.pairwise_cons.1 m1.sat.nd).1 y hy b hX)
 refine ⟨⟨fun k o hk => ?_, fun x hx => m1.sat.own x (List.mem_cons_of_mem _ hx), fun x hx k hk => ?_, (List.pairwise_cons.1 m1.sat.nd).2⟩, fun x hx => m1.new x (List.mem_cons_of_mem _ hx), fun k hk => ?_, m1.kp⟩
 ·unfold updH at hk
  split at hk
  ·rename_i e; rw [e]; exact hk
  ·exact m1.sat.imm k o hk
 ·unfold updH
  rw [if_neg]
  ·exact m1.sat.off x (List.mem_cons_of_mem _ hx) k hk
  ·rintro rfl
   exact (List.pairwise_cons.1 m1.sat.nd).1 x hx k hX hk
 ·unfold updH
  rw [if_neg (by omega)]
  exact m1.old k hk
theorem WP.letOH {C : Ctx} {Q : Exit → S → Prop} {c : Code} {F : List (Nat × Value)} {h : H} {L L' : List Own} {v : Value} {n : Nat} {e : TypeId} {xs : List Int} (hI : Held C.I L') (p : Pick (.row v e 1 n (xs.map (Value.int .i64))) L L') (hn : n ≤ 4294967296)
 (k : ∀ h', (∀ b o, h b = some o → h' b = some o) → RdI h' v xs → WP C c Q ⟨F, h', L'⟩) : WP C c Q ⟨F, h, L⟩ := by
 intro ro n' M hG a w ⟨Ds, hf, m⟩
 have p := p.append (Ds.map shut ++ M)
 have hI' : Held C.I (L' ++ (Ds.map shut ++ M)) := fun k hk => by obtain ⟨y, hy, hb⟩ := hI k hk; exact ⟨y, List.mem_append_left _ hy, hb⟩
 have hin : w.ownsRow 0 e 1 v n (xs.map (Value.int .i64)) := (m.perm p.perm).sat.own _ List.mem_cons_self
 have hl : xs.length = n := by have := hin.1; simpa using this
 rcases hin.2 with ⟨h1, h2⟩ | ⟨g, cap, cur, h1, _, hg, _, _, hsz, htk⟩
 ·refine k h (fun _ _ hb => hb) ?_ ro n' M hG a w ⟨Ds, hf, m.drop_ p⟩
  exact ⟨none, 0, by rw [hl, h2]; exact h1, by omega, fun hp => by omega⟩
 ·have hhb : h g = none := (m.perm p.perm).sat.off _ List.mem_cons_self g (by subst h1; rfl)
  refine k (updH h g w.heap[g]?) (upd_mono hhb) ?_ ro n' M hG a w ⟨Ds, hf, m.letH p (by subst h1; rfl) hI'⟩
  refine ⟨some ⟨g, 0, none⟩, cap, by rw [hl]; exact h1, by omega, fun hp => ⟨g, 0, rfl, cur, e, (0, 0), by simp [updH, hg], fun j hj => ?_⟩⟩
  have := congrArg (fun l => l[j]?) htk
  simp only [List.getElem?_take, List.getElem?_map, List.getElem?_eq_getElem hj, Option.map_some] at this
  rw [if_pos (by omega)] at this
  rw [Nat.zero_add]
  simpa [List.getD_eq_getElem?_getD, List.getElem?_eq_getElem hj] using this
section
variable {dr : Bool} {C : Ctx} {ops : Array Oper} {K : S → Prop} {i d : Nat} {r : List Nat} {F : List (Nat × Value)} {h : H} {L Lq M : List Own} {o : Oper} {x y : Operand} {cb : Array Value} {g : Operand} {f : FuncId} {args : Array Operand} {ts : Array TypeId} {vs : List Value} {R : Value → H → Prop}
/-- A call that is handed blocks, and leaves them as they were. -/
theorem run_callKs (ho : ops[i]? = some o) (hop : o.op = .call { callee := .value g, args := args, argTypes := ts }) (hg : o.guard = none) (hd : ∀ t, o.dst = some t → t < C.n)
 (hx : args.toList.map (evF F) = vs.map some) (hgf : evF F g = some (.func (.func f) #[] cb)) (hen : ∀ args w, (callFunc f args).run C.P w = .ok (.enter f args) w) (hp : L.Perm (Lq ++ M)) (hf : FnM C.P f (vs.toArray ++ cb) h Lq fun v h' L' => R v h' ∧ L' = Lq)
 (k : ∀ v h', R v h' → (∀ b o, h b = some o → h' b = some o) → Run dr C ops K r ⟨putF o.dst v F, h', L⟩) : Run dr C ops K (i :: r) ⟨F, h, L⟩ :=
 run_hard ho hg hd (by simp [cls, hop]) (fun v h' L' => R v h' ∧ (∀ b o, h b = some o → h' b = some o) ∧ L' = L) (fun N a w h1 h2 h3 h4 => by
  refine Oper.wp_mono (fun a' w' ⟨v, h', L', ⟨L1, ⟨e1, e2⟩, e3, e4⟩, e5, e6⟩ => ?_) (h_callM hop hx hgf hen (L := Lq) (M := M ++ N) (by rw [← List.append_assoc]; exact hp.append_right N) hf a w h1 h2 h3 h4)
  subst e2 e4
  exact ⟨v, h', L ++ N, ⟨L, ⟨e1, e3, rfl⟩, rfl⟩, e5, e6.perm (by rw [← List.append_assoc]; exact hp.symm.append_right N)⟩) fun v h' _ ⟨e1, e2, e3⟩ => by subst e3; exact ⟨fun _ _ => ⟨e2, List.Sublist.refl _⟩, k _ _ e1 e2⟩
end
theorem s_and {P : Program} {o : Oper} {F : List (Nat × Value)} {h : H} {L : List Own} {x y : Operand} {t t' : TypeId} {k : IntKind} {m n q : Int} (ho : o.op = .binOp .and t x y t') (hx : evF F x = some (.int k m)) (hy : evF F y = some (.int k n)) (hq : ∀ w, (binOp .and t (.int k m) (.int k n)).run P w = .ok (.int k q) w) : SoftOk P o F h L (.int k q) :=
 s_bin ho hx hy (eg_int _ _ _ _ _ _) hq
theorem res_none {P : Program} {fn : Func} {s : S} (h : fn.results = #[]) : ResOk P fn s (.tuple #[]) := fun _ w _ _ => results_none h _ _ w
end Go.Tal

namespace Go.Tal
open Go.RowKit Go.Proofs Go.Proofs.Tryz _root_.Tal
def mvI (n : Nat) (mv : Int → Int → Int × Int) (c : Nat) : Int := n * (mv ((c / n : Nat) : Int) ((c % n : Nat) : Int)).1 + (mv ((c / n : Nat) : Int) ((c % n : Nat) : Int)).2
/-- The symmetry of a square that moves rows and columns so. -/
def moveS (n : Nat) (mv : Int → Int → Int × Int) : Sy := ((List.range (n * n)).map (mvI n mv), false)
theorem mapTo_all (f : Nat → Int) (n : Nat) : mapTo f n n = (List.range n).map f := by
 unfold mapTo
 refine List.map_congr_left fun j hj => ?_
 rw [if_pos (List.mem_range.1 hj)]
theorem tdiv_cast (a b : Nat) : Int.tdiv (a : Int) (b : Int) = ((a / b : Nat) : Int) := rfl
theorem tmod_cast (a b : Nat) : Int.tmod (a : Int) (b : Int) = ((a % b : Nat) : Int) := rfl
theorem moveS_kk {n : Nat} {mv : Int → Int → Int × Int} (hn : n ≤ 16) (hr : ∀ i j : Nat, i < n → j < n → (0 ≤ (mv i j).1 ∧ (mv i j).1 < n) ∧ 0 ≤ (mv i j).2 ∧ (mv i j).2 < n) : Kk (n * n) (moveS n mv) := by
 refine ⟨by simp [moveS], fun x hx => ?_⟩
 obtain ⟨c, hc, rfl⟩ := List.mem_map.1 hx
 have hc' := List.mem_range.1 hc
 have h0 : 0 < n := Nat.pos_of_ne_zero (fun e => by subst e; simp at hc')
 have h1 := hr (c / n) (c % n) ((Nat.div_lt_iff_lt_mul h0).2 hc') (Nat.mod_lt _ h0)
 unfold mvI
 obtain ⟨⟨a0, a1⟩, b0, b1⟩ := h1
 generalize (mv ((c / n : Nat) : Int) ((c % n : Nat) : Int)).1 = a at *
 generalize (mv ((c / n : Nat) : Int) ((c % n : Nat) : Int)).2 = b at *
 have h2 : (n : Int) * a ≤ n * (n - 1) := Int.mul_le_mul_of_nonneg_left (by omega) (by omega)
 have h3 : 0 ≤ (n : Int) * a := Int.mul_nonneg (by omega) a0
 have h4 : (n : Int) * (n - 1) ≤ 16 * (n - 1) := Int.mul_le_mul_of_nonneg_right (by omega) (by omega)
 omega
theorem nn_le {n : Nat} (hn : n ≤ 16) : n * n ≤ 256 := Nat.mul_le_mul hn hn
theorem mv_wrap {n : Nat} (hn : n ≤ 16) {a b : Int} (a0 : 0 ≤ a) (a1 : a < n) (b0 : 0 ≤ b) (b1 : b < n) : IntKind.i64.wrap (n * a) = n * a ∧ IntKind.i64.wrap (n * a + b) = n * a + b := by
 have h2 : (n : Int) * a ≤ n * (n - 1) := Int.mul_le_mul_of_nonneg_left (by omega) (by omega)
 have h3 : 0 ≤ (n : Int) * a := Int.mul_nonneg (by omega) a0
 have h4 : (n : Int) * (n - 1) ≤ 16 * (n - 1) := Int.mul_le_mul_of_nonneg_right (by omega) (by omega)
 exact ⟨IntWalk.i64_in _ (by omega), IntWalk.i64_in _ (by omega)⟩
set_option maxRecDepth 8000 in
set_option maxHeartbeats 4000000 in
theorem add_fn (n : Nat) (kvs : List (Value × Sy)) (m fm : Nat) (cb : Array Value) (mv : Int → Int → Int × Int) (Lq : List Own) (h : H) (hk : SetOk h kvs) (hko : ∀ p ∈ kvs, Kk (n * n) p.2) (hn0 : 1 ≤ n) (hn : n ≤ 16)
 (hr : ∀ i j : Nat, i < n → j < n → (0 ≤ (mv i j).1 ∧ (mv i j).1 < n) ∧ 0 ≤ (mv i j).2 ∧ (mv i j).2 < n)
 (hen : ∀ args w, (callFunc fm args).run Tryz.prog w = .ok (.enter fm args) w)
 (hmv : ∀ h', (∀ b o, h b = some o → h' b = some o) → ∀ i j : Nat, i < n → j < n → FnM Tryz.prog fm (#[.int .i64 i, .int .i64 j] ++ cb) h' Lq fun v _ L' => v = .tuple #[.int .i64 (mv i j).1, .int .i64 (mv i j).2] ∧ L' = Lq) :
 FnM Tryz.prog 146 #[.map (some m), .int .i64 n, .func (.func fm) #[] cb] h (.obj m (mapO (symKV kvs)) :: Lq) fun _ h' L' => ∃ kvs', L' = .obj m (mapO (symKV kvs')) :: Lq ∧ SetOk h' kvs' ∧ (∀ p ∈ kvs', Kk (n * n) p.2) ∧ kvs'.map (·.2) = putL (kvs.map (·.2)) (moveS n mv) := by
 have hnn := nn_le hn
 have hkk := moveS_kk hn hr
 refine fnM_of (vs := [.map (some m), .int .i64 n, .func (.func fm) #[] cb]) func146 rfl ntmps146 (Nat.le_of_ble_eq_true rfl) fun w hw => ?_
 repeat apply wp_seq'
 refine wp_text rfl ?_
 refine rm rfl ?_
 refine rm rfl ?_
 refine rs rfl (s_mul (q := ((n * n : Nat) : Int)) rfl rfl rfl (by rw [Int.natCast_mul]; exact IntWalk.i64_in _ (by rw [← Int.natCast_mul]; omega))) ?_
 refine run_mksl rfl rfl rfl rfl rfl rfl rfl underlying35 info3 rfl (by omega) (by omega) fun bR => ?_
 refine rs rfl (s_build1 rfl rfl (b112_0 _ _ _)) ?_
 refine run_alloc rfl rfl rfl rfl rfl zeroValue112 rfl fun b6 => ?_
 refine run_st2 rfl rfl rfl rfl rfl rfl (by first | rfl | assumption | exact RdI.one (by assumption)) rfl sizeOf112 (by repeat first|exact Swap.here|apply Swap.there) rfl ?_
 apply run_end
 repeat apply wp_seq'
 refine wp_text rfl ?_
 refine rs rfl (s_fa (off := 0) rfl rfl underlying112 rfl sizeOf35 rfl) ?_
 refine rs rfl (s_ld rfl rfl isAgg35 (.o_ rfl)) ?_
 refine rs rfl (s_len rfl rfl underlying35) ?_
 refine rm rfl ?_
 apply run_end
 repeat apply wp_seq'
 apply wp_block'
 rw [← mapTo_zero (mvI n mv)]
 refine wp_loop' (ι := H × Nat) (fun x => (∀ b o, h b = some o → x.1 b = some o) ∧ x.2 ≤ n * n) (fun x => ⟨[(18, .int .i64 x.2), (17, .int .i64 ((n * n : Nat) : Int)), (6, .pointer (some ⟨b6, 0, none⟩)), (2, .func (.func fm) #[] cb), (1, .int .i64 n), (0, .map (some m))], x.1, .obj b6 (.cells #[(.slice (some ⟨bR, 0, none⟩) (n * n) (n * n)), .bool false] 112 (0, 0)) :: .row (.slice (some ⟨bR, 0, none⟩) (n * n) (n * n)) 3 1 (n * n) ((mapTo (mvI n mv) (n * n) x.2).map (Value.int .i64)) :: .obj m (mapO (symKV kvs)) :: Lq⟩) (fun x => n * n - x.2) (h, 0) ⟨fun _ _ hb => hb, Nat.zero_le _⟩ ⟨by repeat (first|exact True.intro|refine And.intro rfl ?_), rfl, by repeat (first|exact NS _|exact SR _|apply SCC|apply SC)⟩ fun x hx => ?_
 obtain ⟨h1, c⟩ := x
 obtain ⟨hh1, hc⟩ := hx
 dsimp only at hh1 hc ⊢
 repeat apply wp_seq'
 refine wp_text rfl ?_
 refine rs rfl (s_lt rfl rfl rfl) ?_
 apply run_end
 repeat apply wp_seq'
 refine wp_if' rfl (fun hc19 => ?_) (fun hc19 => ?_)
 ·skip
  apply wp_skip'
  have hcn : c < n * n := by omega
  have hd : c / n < n := (Nat.div_lt_iff_lt_mul hn0).2 hcn
  have hm : c % n < n := Nat.mod_lt _ hn0
  have hw1 : IntKind.i64.wrap ((c / n : Nat) : Int) = ((c / n : Nat) : Int) := by generalize c / n = q at hd ⊢; exact IntWalk.i64_in _ (by omega)
  obtain ⟨⟨a0, a1⟩, b0, b1⟩ := hr (c / n) (c % n) hd hm
  have hw2 := mv_wrap hn a0 a1 b0 b1
  repeat apply wp_seq'
  apply wp_block'
  repeat apply wp_seq'
  refine wp_text rfl ?_
  refine rm rfl ?_
  refine rm rfl ?_
  apply run_end
  repeat apply wp_seq'
  refine wp_any [0, 1, 2, 3, 4, 5, 6, 7, 8, 9, 10, 11, 12] rfl (by kernel_rfl) ?_
  refine rm rfl ?_
  refine rm rfl ?_
  refine rm rfl ?_
  refine rs rfl (s_quo (q := ((c / n : Nat) : Int)) rfl rfl rfl (by omega) (by rw [tdiv_cast]; exact hw1)) ?_
  refine rm rfl ?_
  refine rm rfl ?_
  refine rs rfl (s_rem (q := ((c % n : Nat) : Int)) rfl rfl rfl (by omega) (tmod_cast _ _)) ?_
  refine run_callKs (Lq := Lq) (M := [_, _, _]) (vs := [_, _]) rfl rfl rfl (dst_lt rfl rfl) rfl rfl hen (List.perm_append_comm (l₁ := [_, _, _])) (hmv h1 hh1 (c / n) (c % n) hd hm) ?_
  intro v29 h2 e29 hh2
  subst e29
  refine rm rfl ?_
  refine rs rfl (s_extract rfl rfl rfl) ?_
  refine rs rfl (s_extract rfl rfl rfl) ?_
  refine rm rfl ?_
  refine rm rfl ?_
  apply run_end
  repeat apply wp_seq'
  refine wp_text rfl ?_
  refine rs rfl (s_fa (off := 0) rfl rfl underlying112 rfl sizeOf35 rfl) ?_
  refine rs rfl (s_ld rfl rfl isAgg35 (.o_ rfl)) ?_
  refine rm rfl ?_
  refine rm rfl ?_
  refine rm rfl ?_
  refine rs rfl (s_mul rfl rfl rfl hw2.1) ?_
  refine rm rfl ?_
  refine rs rfl (s_add rfl rfl rfl hw2.2) ?_
  refine rs rfl (s_ia1 rfl rfl rfl underlying35 sizeOf3 (by omega) (by omega)) ?_
  refine run_strowM (Value.int .i64) rfl rfl rfl rfl rfl rfl rfl rfl sizeOf3 (by repeat first|exact Swap.here|apply Swap.there) (by omega) ?_
  apply run_end
  simp only [Int.toNat_natCast]
  rw [show (mapTo (mvI n mv) (n * n) c).set c (↑n * (mv ((c / n : Nat) : Int) ((c % n : Nat) : Int)).1 + (mv ((c / n : Nat) : Int) ((c % n : Nat) : Int)).2) = mapTo (mvI n mv) (n * n) (c + 1) from mapTo_set _ _ _]
  refine wp_text rfl ?_
  refine rs rfl (s_add rfl rfl rfl (IntWalk.i64_in _ (by omega))) ?_
  refine rm rfl ?_
  apply run_end
  exact ⟨(h2, c + 1), ⟨fun b o hb => hh2 _ _ (hh1 _ _ hb), by dsimp only; omega⟩, by dsimp only; omega, ⟨by repeat (first|exact True.intro|refine And.intro rfl ?_), rfl, by repeat (first|exact NS _|exact SR _|apply SCC|apply SC)⟩⟩
 ·skip
  apply wp_exit'
  obtain rfl : c = n * n := by omega
  rw [mapTo_all]
  refine WP.letOH (held_sub fun x hx => List.mem_cons_of_mem _ hx) (by repeat first|exact Pick.here|apply Pick.there) (by omega) fun h3 hh3 hav => ?_
  have hk := (hk.mono hh1).mono hh3
  obtain ⟨kvs1, hput, hmap, hmem⟩ := kvPut_symK (v := (.slice (some ⟨bR, 0, none⟩) (n * n) (n * n))) hkk kvs hko
  refine wp_any [0, 1, 3, 2, 4] rfl (by kernel_rfl) ?_
  refine rm rfl ?_
  refine rs rfl (s_ld2 rfl rfl isAgg112 sizeOf112 (.o_ rfl) (.o_ rfl)) ?_
  refine rs rfl (s_ld2 rfl rfl isAgg112 sizeOf112 (.o_ rfl) (.o_ rfl)) ?_
  refine run_callv (vs := [_]) rfl rfl rfl rfl rfl rfl en123 (key_fn (moveS n mv).1 _ _ _ hav) ?_
  refine run_mapup1 rfl (.inl rfl) rfl rfl rfl rfl rfl underlying115 underlying9 (by repeat first|exact Swap.here|apply Swap.there) ?_
  apply run_end
  erw [hput]
  refine finM_end (.obj m (mapO (symKV kvs1)) :: Lq) (res_none rfl) ⟨_, .refl _, (by repeat (first|exact NS _|exact SR _|apply SCC|apply SC))⟩ ⟨kvs1, rfl, ?_, ?_, hmap⟩
  ·intro p hp; rcases hmem p hp with h11 | rfl; exact hk p h11; exact hav
  ·intro p hp; rcases hmem p hp with h11 | rfl; exact hko p h11; exact hkk
def ordI (n : Int) : Int := whenI (decide (n < 1) || decide (16 < n)) 3
theorem ordI_zero {n : Int} (h : ordI n = 0) : 1 ≤ n ∧ n ≤ 16 := by
 rw [ordI, whenI_zero (by decide)] at h
 simp at h
 omega
theorem checkOrder_fn (n : Int) (h : H) : FnV Tryz.prog 145 #[.int .i64 n] h (.int .i64 (ordI n)) := by
 refine fn_of (vs := [.int .i64 n]) func145 rfl ntmps145 (Nat.le_of_ble_eq_true rfl) fun w hw => ?_
 repeat apply wp_seq'
 refine wp_text rfl ?_
 refine rm rfl ?_
 apply run_end
 repeat apply wp_seq'
 refine wp_text rfl ?_
 refine rm rfl ?_
 refine rs rfl (s_lt rfl rfl rfl) ?_
 refine rm rfl ?_
 refine run_cases (t := 5) rfl (fun hg => ?_) (fun hg => ?_)
 ·skip
  refine run_skip rfl rfl rfl rfl rfl rfl rfl ?_
  refine run_skip rfl rfl rfl rfl rfl rfl rfl ?_
  refine rs rfl (s_pick rfl rfl (fun _ => rfl) (fun h => by cases h)) ?_
  refine run_callv (vs := [_, _]) rfl rfl rfl rfl rfl rfl en96 (when_fn _ _ _) ?_
  refine rm rfl ?_
  apply run_end
  apply wp_ret'
  exact fin_ret (res_tmp rfl rfl) (by rw [ordI, decide_eq_true hg]; rfl)
 ·skip
  refine rsg rfl rfl (s_move rfl rfl) ?_
  refine rsg rfl rfl (s_gt rfl rfl rfl) ?_
  refine rs rfl (s_pick rfl rfl (fun h => by cases h) (fun _ => rfl)) ?_
  refine run_callv (vs := [_, _]) rfl rfl rfl rfl rfl rfl en96 (when_fn _ _ _) ?_
  refine rm rfl ?_
  apply run_end
  apply wp_ret'
  exact fin_ret (res_tmp rfl rfl) (by rw [ordI, decide_eq_false hg]; rfl)
end Go.Tal
