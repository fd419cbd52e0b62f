/-
  Part 3 of the proof of GroupSames: symbolic states for walks, contracts of functions, plain laws; no condition.
-/
import Derived.Test.YtemginpenfhkkaaGreatDoorPart2
import Derived.Test.YtemginpenfhkkaaGreatDoorPart0
import Derived.ProofKit
import Derived.Shelf.Strconv.Itoa3
import Derived.Shelf.Strconv.Itoa0
import Derived.Shelf.Bits.Mul64
import Derived.Shelf.Spec.BitsCarry
import Derived.Shelf.Strings.Repeat
import Derived.Shelf.Strings.Builder1
import Derived.Shelf.Strings.Prefix
import Derived.Shelf.Small.Bits
import Derived.Test.YtemginpenfhkkaaGreatDoorProg
import Derived.Laws.Small
/-
  Symbolic states: rows let go where blocks have been handed over; calls that are handed several blocks and leave them; bits of integers.
-/
namespace Go.Tal
open Go.RowKit
/-- What was handed over is still held. -/
def Held (I : List Nat) (L : List Own) : Prop := ∀ k ∈ I, ∃ y ∈ L, y.blk = some k
theorem held_sub {L0 L : List Own} (hs : ∀ x ∈ L0, x ∈ L) : Held (blks L0) L := fun k hk => by
  obtain ⟨y, hy, hb⟩ := List.mem_filterMap.1 hk
  exact ⟨y, hs y hy, hb⟩
theorem Mem.letH {C : Ctx} {h : H} {X : Own} {L L' : List Own} {w : World} (m : Mem C h L w) (p : Pick X L L') {b : Nat} (hX : X.blk = some b) (hI : Held C.I L') : Mem C (updH h b w.heap[b]?) L' w := by
  have m1 := m.perm p.perm
  have hge : C.w0.heap.size ≤ b := by
    rcases m1.new X List.mem_cons_self b hX with h1 | h1
    · exact h1
    · obtain ⟨y, hy, hb⟩ := hI b h1
      exact absurd hb ((List.pairwise_cons.1 m1.sat.nd).1 y hy b hX)
  refine ⟨⟨fun k o hk => ?_, fun x hx => m1.sat.own x (List.mem_cons_of_mem _ hx), fun x hx k hk => ?_, (List.pairwise_cons.1 m1.sat.nd).2⟩, fun x hx => m1.new x (List.mem_cons_of_mem _ hx), fun k hk => ?_, m1.kp⟩
  · unfold updH at hk
    split at hk
    · rename_i e; rw [e]; exact hk
    · exact m1.sat.imm k o hk
  · unfold updH
    rw [if_neg]
    · exact m1.sat.off x (List.mem_cons_of_mem _ hx) k hk
    · rintro rfl
      exact (List.pairwise_cons.1 m1.sat.nd).1 x hx k hX hk
  · unfold updH
    rw [if_neg (by omega)]
    exact m1.old k hk
theorem WP.letOH {C : Ctx} {Q : Exit → S → Prop} {c : Code} {F : List (Nat × Value)} {h : H} {L L' : List Own} {v : Value} {n : Nat} {e : TypeId} {xs : List Int} (hI : Held C.I L') (p : Pick (.row v e 1 n (xs.map (Value.int .i64))) L L') (hn : n ≤ 4294967296)
    (k : ∀ h', (∀ b o, h b = some o → h' b = some o) → RdI h' v xs → WP C c Q ⟨F, h', L'⟩) : WP C c Q ⟨F, h, L⟩ := by
  intro ro n' M hG a w ⟨Ds, hf, m⟩
  have p := p.append (Ds.map shut ++ M)
  have hI' : Held C.I (L' ++ (Ds.map shut ++ M)) := fun k hk => by obtain ⟨y, hy, hb⟩ := hI k hk; exact ⟨y, List.mem_append_left _ hy, hb⟩
  have hin : w.ownsRow 0 e 1 v n (xs.map (Value.int .i64)) := (m.perm p.perm).sat.own _ List.mem_cons_self
  have hl : xs.length = n := by have := hin.1; simpa using this
  rcases hin.2 with ⟨h1, h2⟩ | ⟨g, cap, cur, h1, _, hg, _, _, hsz, htk⟩
  · refine k h (fun _ _ hb => hb) ?_ ro n' M hG a w ⟨Ds, hf, m.drop_ p⟩
    exact ⟨none, 0, by rw [hl, h2]; exact h1, by omega, fun hp => by omega⟩
  · have hhb : h g = none := (m.perm p.perm).sat.off _ List.mem_cons_self g (by subst h1; rfl)
    refine k (updH h g w.heap[g]?) (upd_mono hhb) ?_ ro n' M hG a w ⟨Ds, hf, m.letH p (by subst h1; rfl) hI'⟩
    refine ⟨some ⟨g, 0, none⟩, cap, by rw [hl]; exact h1, by omega, fun hp => ⟨g, 0, rfl, cur, e, (0, 0), by simp [updH, hg], fun j hj => ?_⟩⟩
    have := congrArg (fun l => l[j]?) htk
    simp only [List.getElem?_take, List.getElem?_map, List.getElem?_eq_getElem hj, Option.map_some] at this
    rw [if_pos (by omega)] at this
    rw [Nat.zero_add]
    simpa [List.getD_eq_getElem?_getD, List.getElem?_eq_getElem hj] using this
section
variable {dr : Bool} {C : Ctx} {ops : Array Oper} {K : S → Prop} {i d : Nat} {r : List Nat} {F : List (Nat × Value)} {h : H} {L Lq M : List Own} {o : Oper} {x y : Operand} {cb : Array Value} {g : Operand} {f : FuncId} {args : Array Operand} {ts : Array TypeId} {vs : List Value} {R : Value → H → Prop}
/-- A call that is handed blocks, and leaves them as they were. -/
theorem run_callKs (ho : ops[i]? = some o) (hop : o.op = .call { callee := .value g, args := args, argTypes := ts }) (hg : o.guard = none) (hd : ∀ t, o.dst = some t → t < C.n)
    (hx : args.toList.map (evF F) = vs.map some) (hgf : evF F g = some (.func (.func f) #[] cb)) (hen : ∀ args w, (callFunc f args).run C.P w = .ok (.enter f args) w) (hp : L.Perm (Lq ++ M)) (hf : FnM C.P f (vs.toArray ++ cb) h Lq fun v h' L' => R v h' ∧ L' = Lq)
    (k : ∀ v h', R v h' → (∀ b o, h b = some o → h' b = some o) → Run dr C ops K r ⟨putF o.dst v F, h', L⟩) : Run dr C ops K (i :: r) ⟨F, h, L⟩ :=
  run_hard ho hg hd (by simp [cls, hop]) (fun v h' L' => R v h' ∧ (∀ b o, h b = some o → h' b = some o) ∧ L' = L) (fun N a w h1 h2 h3 h4 => by
    refine Oper.wp_mono (fun a' w' ⟨v, h', L', ⟨L1, ⟨e1, e2⟩, e3, e4⟩, e5, e6⟩ => ?_) (h_callM hop hx hgf hen (L := Lq) (M := M ++ N) (by rw [← List.append_assoc]; exact hp.append_right N) hf a w h1 h2 h3 h4)
    subst e2 e4
    exact ⟨v, h', L ++ N, ⟨L, ⟨e1, e3, rfl⟩, rfl⟩, e5, e6.perm (by rw [← List.append_assoc]; exact hp.symm.append_right N)⟩) fun v h' _ ⟨e1, e2, e3⟩ => by subst e3; exact ⟨fun _ _ => ⟨e2, List.Sublist.refl _⟩, k _ _ e1 e2⟩
end
theorem s_and {P : Program} {o : Oper} {F : List (Nat × Value)} {h : H} {L : List Own} {x y : Operand} {t t' : TypeId} {k : IntKind} {m n q : Int} (ho : o.op = .binOp .and t x y t') (hx : evF F x = some (.int k m)) (hy : evF F y = some (.int k n)) (hq : ∀ w, (binOp .and t (.int k m) (.int k n)).run P w = .ok (.int k q) w) : SoftOk P o F h L (.int k q) :=
  s_bin ho hx hy (eg_int _ _ _ _ _ _) hq
theorem res_none {P : Program} {fn : Func} {s : S} (h : fn.results = #[]) : ResOk P fn s (.tuple #[]) := fun _ w _ _ => results_none h _ _ w
end Go.Tal

namespace Go.Tal
open Go.RowKit Go.Proofs _root_.Tal
def mvI (n : Nat) (mv : Int → Int → Int × Int) (c : Nat) : Int := n * (mv ((c / n : Nat) : Int) ((c % n : Nat) : Int)).1 + (mv ((c / n : Nat) : Int) ((c % n : Nat) : Int)).2
/-- The symmetry of a square that moves rows and columns so. -/
def moveS (n : Nat) (mv : Int → Int → Int × Int) : Sy := ((List.range (n * n)).map (mvI n mv), false)
theorem mapTo_all (f : Nat → Int) (n : Nat) : mapTo f n n = (List.range n).map f := by
  unfold mapTo
  refine List.map_congr_left fun j hj => ?_
  rw [if_pos (List.mem_range.1 hj)]
theorem tdiv_cast (a b : Nat) : Int.tdiv (a : Int) (b : Int) = ((a / b : Nat) : Int) := rfl
theorem tmod_cast (a b : Nat) : Int.tmod (a : Int) (b : Int) = ((a % b : Nat) : Int) := rfl
theorem moveS_kk {n : Nat} {mv : Int → Int → Int × Int} (hn : n ≤ 16) (hr : ∀ i j : Nat, i < n → j < n → (0 ≤ (mv i j).1 ∧ (mv i j).1 < n) ∧ 0 ≤ (mv i j).2 ∧ (mv i j).2 < n) : Kk (n * n) (moveS n mv) := by
  refine ⟨by simp [moveS], fun x hx => ?_⟩
  obtain ⟨c, hc, rfl⟩ := List.mem_map.1 hx
  have hc' := List.mem_range.1 hc
  have h0 : 0 < n := Nat.pos_of_ne_zero (fun e => by subst e; simp at hc')
  have h1 := hr (c / n) (c % n) ((Nat.div_lt_iff_lt_mul h0).2 hc') (Nat.mod_lt _ h0)
  unfold mvI
  obtain ⟨⟨a0, a1⟩, b0, b1⟩ := h1
  generalize (mv ((c / n : Nat) : Int) ((c % n : Nat) : Int)).1 = a at *
  generalize (mv ((c / n : Nat) : Int) ((c % n : Nat) : Int)).2 = b at *
  have h2 : (n : Int) * a ≤ n * (n - 1) := Int.mul_le_mul_of_nonneg_left (by omega) (by omega)
  have h3 : 0 ≤ (n : Int) * a := Int.mul_nonneg (by omega) a0
  have h4 : (n : Int) * (n - 1) ≤ 16 * (n - 1) := Int.mul_le_mul_of_nonneg_right (by omega) (by omega)
  omega
theorem nn_le {n : Nat} (hn : n ≤ 16) : n * n ≤ 256 := Nat.mul_le_mul hn hn
theorem mv_wrap {n : Nat} (hn : n ≤ 16) {a b : Int} (a0 : 0 ≤ a) (a1 : a < n) (b0 : 0 ≤ b) (b1 : b < n) : IntKind.i64.wrap (n * a) = n * a ∧ IntKind.i64.wrap (n * a + b) = n * a + b := by
  have h2 : (n : Int) * a ≤ n * (n - 1) := Int.mul_le_mul_of_nonneg_left (by omega) (by omega)
  have h3 : 0 ≤ (n : Int) * a := Int.mul_nonneg (by omega) a0
  have h4 : (n : Int) * (n - 1) ≤ 16 * (n - 1) := Int.mul_le_mul_of_nonneg_right (by omega) (by omega)
  exact ⟨IntWalk.i64_in _ (by omega), IntWalk.i64_in _ (by omega)⟩
set_option maxRecDepth 8000 in
set_option maxHeartbeats 4000000 in
theorem add_fn (n : Nat) (kvs : List (Value × Sy)) (m fm : Nat) (cb : Array Value) (mv : Int → Int → Int × Int) (Lq : List Own) (h : H) (hk : SetOk h kvs) (hko : ∀ p ∈ kvs, Kk (n * n) p.2) (hn0 : 1 ≤ n) (hn : n ≤ 16)
    (hr : ∀ i j : Nat, i < n → j < n → (0 ≤ (mv i j).1 ∧ (mv i j).1 < n) ∧ 0 ≤ (mv i j).2 ∧ (mv i j).2 < n)
    (hen : ∀ args w, (callFunc fm args).run Tryz.prog w = .ok (.enter fm args) w)
    (hmv : ∀ h', (∀ b o, h b = some o → h' b = some o) → ∀ i j : Nat, i < n → j < n → FnM Tryz.prog fm (#[.int .i64 i, .int .i64 j] ++ cb) h' Lq fun v _ L' => v = .tuple #[.int .i64 (mv i j).1, .int .i64 (mv i j).2] ∧ L' = Lq) :
    FnM Tryz.prog 146 #[.map (some m), .int .i64 n, .func (.func fm) #[] cb] h (.obj m (mapO (symKV kvs)) :: Lq) fun r h' L' => ∃ kvs', L' = .obj m (mapO (symKV kvs')) :: Lq ∧ SetOk h' kvs' ∧ (∀ p ∈ kvs', Kk (n * n) p.2) ∧ kvs'.map (·.2) = putL (kvs.map (·.2)) (moveS n mv) := by
  have hnn := nn_le hn
  have hkk := moveS_kk hn hr
  refine fnM_of (vs := [.map (some m), .int .i64 n, .func (.func fm) #[] cb]) Tryz.func146 rfl Tryz.ntmps146 (Nat.le_of_ble_eq_true rfl) fun w hw => ?_
  repeat refine wp_seq' ?_
  refine wp_text rfl ?_
  refine rs rfl (s_move rfl rfl) ?_
  refine rs rfl (s_move rfl rfl) ?_
  refine rs rfl (s_mul (q := ((n * n : Nat) : Int)) rfl rfl rfl (by rw [Int.natCast_mul]; exact IntWalk.i64_in _ (by rw [← Int.natCast_mul]; omega))) ?_
  refine run_mksl rfl rfl rfl rfl rfl rfl rfl Tryz.underlying35 info3 rfl (by omega) (by omega) fun bR => ?_
  refine rs rfl (s_build1 rfl rfl (b112_0 _ _ _)) ?_
  refine run_alloc rfl rfl rfl rfl rfl Tryz.zeroValue112 rfl fun b6 => ?_
  refine run_st2 rfl rfl rfl rfl rfl rfl (by first | rfl | assumption | exact RdI.one (by assumption)) rfl Tryz.sizeOf112 (by repeat first|exact Swap.here|apply Swap.there) rfl ?_
  refine run_end ?_
  repeat refine wp_seq' ?_
  refine wp_text rfl ?_
  refine rs rfl (s_fa (off := 0) rfl rfl Tryz.underlying112 rfl Tryz.sizeOf35 rfl) ?_
  refine rs rfl (s_ld rfl rfl Tryz.isAgg35 (.own _ _ _ (by repeat first|exact MH _|apply MT) rfl)) ?_
  refine rs rfl (s_len rfl rfl Tryz.underlying35) ?_
  refine rs rfl (s_move rfl rfl) ?_
  refine run_end ?_
  repeat refine wp_seq' ?_
  refine wp_block' ?_
  rw [← mapTo_zero (mvI n mv)]
  refine wp_loop' (ι := H × Nat) (fun x => (∀ b o, h b = some o → x.1 b = some o) ∧ x.2 ≤ n * n) (fun x => ⟨[(18, .int .i64 x.2), (17, .int .i64 ((n * n : Nat) : Int)), (6, .pointer (some ⟨b6, 0, none⟩)), (2, .func (.func fm) #[] cb), (1, .int .i64 n), (0, .map (some m))], x.1, .obj b6 (.cells #[(.slice (some ⟨bR, 0, none⟩) (n * n) (n * n)), .bool false] 112 (0, 0)) :: .row (.slice (some ⟨bR, 0, none⟩) (n * n) (n * n)) 3 1 (n * n) ((mapTo (mvI n mv) (n * n) x.2).map (Value.int .i64)) :: .obj m (mapO (symKV kvs)) :: Lq⟩) (fun x => n * n - x.2) (h, 0) ⟨fun _ _ hb => hb, Nat.zero_le _⟩ ⟨by repeat (first|exact True.intro|refine And.intro rfl ?_), rfl, by repeat (first|exact NS _|exact SR _|apply SCC|apply SC)⟩ fun x hx => ?_
  obtain ⟨h1, c⟩ := x
  obtain ⟨hh1, hc⟩ := hx
  dsimp only at hh1 hc ⊢
  repeat refine wp_seq' ?_
  refine wp_text rfl ?_
  refine rs rfl (s_lt rfl rfl rfl) ?_
  refine run_end ?_
  repeat refine wp_seq' ?_
  refine wp_if' rfl (fun hc19 => ?_) (fun hc19 => ?_)
  · skip
    refine wp_skip' ?_
    have hcn : c < n * n := by omega
    have hd : c / n < n := (Nat.div_lt_iff_lt_mul hn0).2 hcn
    have hm : c % n < n := Nat.mod_lt _ hn0
    have hw1 : IntKind.i64.wrap ((c / n : Nat) : Int) = ((c / n : Nat) : Int) := by generalize c / n = q at hd ⊢; exact IntWalk.i64_in _ (by omega)
    obtain ⟨⟨a0, a1⟩, b0, b1⟩ := hr (c / n) (c % n) hd hm
    have hw2 := mv_wrap hn a0 a1 b0 b1
    repeat refine wp_seq' ?_
    refine wp_block' ?_
    repeat refine wp_seq' ?_
    refine wp_text rfl ?_
    refine rs rfl (s_move rfl rfl) ?_
    refine rs rfl (s_assign rfl rfl) ?_
    refine run_end ?_
    repeat refine wp_seq' ?_
    refine wp_any [0, 1, 2, 3, 4, 5, 6, 7, 8, 9, 10, 11, 12] rfl (by kernel_rfl) ?_
    refine rs rfl (s_move rfl rfl) ?_
    refine rs rfl (s_move rfl rfl) ?_
    refine rs rfl (s_move rfl rfl) ?_
    refine rs rfl (s_quo (q := ((c / n : Nat) : Int)) rfl rfl rfl (by omega) (by rw [tdiv_cast]; exact hw1)) ?_
    refine rs rfl (s_move rfl rfl) ?_
    refine rs rfl (s_move rfl rfl) ?_
    refine rs rfl (s_rem (q := ((c % n : Nat) : Int)) rfl rfl rfl (by omega) (tmod_cast _ _)) ?_
    refine run_callKs (Lq := Lq) (M := [_, _, _]) (vs := [_, _]) rfl rfl rfl (dst_lt rfl rfl) rfl rfl hen (List.perm_append_comm (l₁ := [_, _, _])) (hmv h1 hh1 (c / n) (c % n) hd hm) ?_
    intro v29 h2 e29 hh2
    subst e29
    refine rs rfl (s_move rfl rfl) ?_
    refine rs rfl (s_extract rfl rfl rfl) ?_
    refine rs rfl (s_extract rfl rfl rfl) ?_
    refine rs rfl (s_assign rfl rfl) ?_
    refine rs rfl (s_assign rfl rfl) ?_
    refine run_end ?_
    repeat refine wp_seq' ?_
    refine wp_text rfl ?_
    refine rs rfl (s_fa (off := 0) rfl rfl Tryz.underlying112 rfl Tryz.sizeOf35 rfl) ?_
    refine rs rfl (s_ld rfl rfl Tryz.isAgg35 (.own _ _ _ (by repeat first|exact MH _|apply MT) rfl)) ?_
    refine rs rfl (s_move rfl rfl) ?_
    refine rs rfl (s_move rfl rfl) ?_
    refine rs rfl (s_move rfl rfl) ?_
    refine rs rfl (s_mul rfl rfl rfl hw2.1) ?_
    refine rs rfl (s_move rfl rfl) ?_
    refine rs rfl (s_add rfl rfl rfl hw2.2) ?_
    refine rs rfl (s_ia1 rfl rfl rfl Tryz.underlying35 Tryz.sizeOf3 (by omega) (by omega)) ?_
    refine run_strowM (Value.int .i64) rfl rfl rfl rfl rfl rfl rfl rfl Tryz.sizeOf3 (by repeat first|exact Swap.here|apply Swap.there) (by omega) ?_
    refine run_end ?_
    simp only [Int.toNat_natCast]
    rw [show (mapTo (mvI n mv) (n * n) c).set c (↑n * (mv ((c / n : Nat) : Int) ((c % n : Nat) : Int)).1 + (mv ((c / n : Nat) : Int) ((c % n : Nat) : Int)).2) = mapTo (mvI n mv) (n * n) (c + 1) from mapTo_set _ _ _]
    refine wp_text rfl ?_
    refine rs rfl (s_add rfl rfl rfl (IntWalk.i64_in _ (by omega))) ?_
    refine rs rfl (s_move rfl rfl) ?_
    refine run_end ?_
    exact ⟨(h2, c + 1), ⟨fun b o hb => hh2 _ _ (hh1 _ _ hb), by dsimp only; omega⟩, by dsimp only; omega, ⟨by repeat (first|exact True.intro|refine And.intro rfl ?_), rfl, by repeat (first|exact NS _|exact SR _|apply SCC|apply SC)⟩⟩
  · skip
    refine wp_exit' ?_
    obtain rfl : c = n * n := by omega
    rw [mapTo_all]
    refine WP.letOH (held_sub fun x hx => List.mem_cons_of_mem _ hx) (by repeat first|exact Pick.here|apply Pick.there) (by omega) fun h3 hh3 hav => ?_
    have hk := (hk.mono hh1).mono hh3
    obtain ⟨kvs1, hput, hmap, hmem⟩ := kvPut_symK (v := (.slice (some ⟨bR, 0, none⟩) (n * n) (n * n))) hkk kvs hko
    refine wp_any [0, 1, 3, 2, 4] rfl (by kernel_rfl) ?_
    refine rs rfl (s_move rfl rfl) ?_
    refine rs rfl (s_ld2 rfl rfl Tryz.isAgg112 Tryz.sizeOf112 (.own _ _ _ (by repeat first|exact MH _|apply MT) rfl) (.own _ _ _ (by repeat first|exact MH _|apply MT) rfl)) ?_
    refine rs rfl (s_ld2 rfl rfl Tryz.isAgg112 Tryz.sizeOf112 (.own _ _ _ (by repeat first|exact MH _|apply MT) rfl) (.own _ _ _ (by repeat first|exact MH _|apply MT) rfl)) ?_
    refine run_callv (vs := [_]) rfl rfl rfl rfl rfl rfl en123 (key_fn (moveS n mv).1 _ _ _ hav) ?_
    refine run_mapup1 rfl (.inl rfl) rfl rfl rfl rfl rfl Tryz.underlying115 Tryz.underlying9 (by repeat first|exact Swap.here|apply Swap.there) ?_
    refine run_end ?_
    erw [hput]
    refine finM_end (.obj m (mapO (symKV kvs1)) :: Lq) (res_none rfl) ⟨_, .refl _, (by repeat (first|exact NS _|exact SR _|apply SCC|apply SC))⟩ ⟨kvs1, rfl, ?_, ?_, hmap⟩
    · intro p hp; rcases hmem p hp with h11 | rfl; exact hk p h11; exact hav
    · intro p hp; rcases hmem p hp with h11 | rfl; exact hko p h11; exact hkk
def ordI (n : Int) : Int := whenI (decide (n < 1) || decide (16 < n)) 3
theorem ordI_zero {n : Int} (h : ordI n = 0) : 1 ≤ n ∧ n ≤ 16 := by
  rw [ordI, whenI_zero (by decide)] at h
  simp at h
  omega
theorem checkOrder_fn (n : Int) (h : H) : FnV Tryz.prog 145 #[.int .i64 n] h (.int .i64 (ordI n)) := by
  refine fn_of (vs := [.int .i64 n]) Tryz.func145 rfl Tryz.ntmps145 (Nat.le_of_ble_eq_true rfl) fun w hw => ?_
  repeat refine wp_seq' ?_
  refine wp_text rfl ?_
  refine rs rfl (s_assign rfl rfl) ?_
  refine run_end ?_
  repeat refine wp_seq' ?_
  refine wp_text rfl ?_
  refine rs rfl (s_move rfl rfl) ?_
  refine rs rfl (s_lt rfl rfl rfl) ?_
  refine rs rfl (s_move rfl rfl) ?_
  refine run_cases (t := 5) rfl (fun hg => ?_) (fun hg => ?_)
  · skip
    refine run_skip rfl rfl rfl rfl rfl rfl rfl ?_
    refine run_skip rfl rfl rfl rfl rfl rfl rfl ?_
    refine rs rfl (s_pick rfl rfl (fun _ => rfl) (fun h => by cases h)) ?_
    refine run_callv (vs := [_, _]) rfl rfl rfl rfl rfl rfl en96 (when_fn _ _ _) ?_
    refine rs rfl (s_assign rfl rfl) ?_
    refine run_end ?_
    refine wp_ret' ?_
    exact fin_ret (res_tmp rfl rfl) (by rw [ordI, decide_eq_true hg]; rfl)
  · skip
    refine rsg rfl rfl (s_move rfl rfl) ?_
    refine rsg rfl rfl (s_gt rfl rfl rfl) ?_
    refine rs rfl (s_pick rfl rfl (fun h => by cases h) (fun _ => rfl)) ?_
    refine run_callv (vs := [_, _]) rfl rfl rfl rfl rfl rfl en96 (when_fn _ _ _) ?_
    refine rs rfl (s_assign rfl rfl) ?_
    refine run_end ?_
    refine wp_ret' ?_
    exact fin_ret (res_tmp rfl rfl) (by rw [ordI, decide_eq_false hg]; rfl)
end Go.Tal

namespace Go.Tal
open Go.RowKit Go.Proofs _root_.Tal
theorem and1_ {k : Nat} (hk : k < 8) : ∀ w, (binOp .and 3 (.int .i64 k) (.int .i64 1)).run Tryz.prog w = .ok (.int .i64 (if k % 2 = 1 then 1 else 0)) w := by
  match k, hk with
  | 0, _ | 1, _ | 2, _ | 3, _ | 4, _ | 5, _ | 6, _ | 7, _ => exact fun _ => by kernel_rfl
theorem and2_ {k : Nat} (hk : k < 8) : ∀ w, (binOp .and 3 (.int .i64 k) (.int .i64 2)).run Tryz.prog w = .ok (.int .i64 (if k / 2 % 2 = 1 then 2 else 0)) w := by
  match k, hk with
  | 0, _ | 1, _ | 2, _ | 3, _ | 4, _ | 5, _ | 6, _ | 7, _ => exact fun _ => by kernel_rfl
theorem and4_ {k : Nat} (hk : k < 8) : ∀ w, (binOp .and 3 (.int .i64 k) (.int .i64 4)).run Tryz.prog w = .ok (.int .i64 (if k / 4 % 2 = 1 then 4 else 0)) w := by
  match k, hk with
  | 0, _ | 1, _ | 2, _ | 3, _ | 4, _ | 5, _ | 6, _ | 7, _ => exact fun _ => by kernel_rfl
def flipI (b : Bool) (n i : Int) : Int := if b then n - 1 - i else i
def dihMv (n k : Nat) (i j : Int) : Int × Int :=
  if k / 4 % 2 = 1 then (flipI (decide (k / 2 % 2 = 1)) n j, flipI (decide (k % 2 = 1)) n i) else (flipI (decide (k % 2 = 1)) n i, flipI (decide (k / 2 % 2 = 1)) n j)
theorem flip_rng {b : Bool} {n i : Nat} (hi : i < n) : 0 ≤ flipI b n i ∧ flipI b n i < n := by
  cases b <;> simp [flipI] <;> omega
theorem dih_rng {n k i j : Nat} (hi : i < n) (hj : j < n) : (0 ≤ (dihMv n k i j).1 ∧ (dihMv n k i j).1 < n) ∧ 0 ≤ (dihMv n k i j).2 ∧ (dihMv n k i j).2 < n := by
  unfold dihMv
  split
  · exact ⟨flip_rng hj, flip_rng hi⟩
  · exact ⟨flip_rng hi, flip_rng hj⟩
set_option maxRecDepth 8000 in
set_option maxHeartbeats 4000000 in
theorem dihMv_fn (n k i j bk bn : Nat) (h : H) (hn : n ≤ 16) (hk : k < 8) (hi : i < n) (hj : j < n) : FnM Tryz.prog 147 #[.int .i64 i, .int .i64 j, .pointer (some ⟨bk, 0, none⟩), .pointer (some ⟨bn, 0, none⟩)] h [.obj bk (.cells #[.int .i64 k] 3 (0, 0)), .obj bn (.cells #[.int .i64 n] 3 (0, 0))] fun v _ L' => v = .tuple #[.int .i64 (dihMv n k i j).1, .int .i64 (dihMv n k i j).2] ∧ L' = [.obj bk (.cells #[.int .i64 k] 3 (0, 0)), .obj bn (.cells #[.int .i64 n] 3 (0, 0))] := by
  refine fnM_of (vs := [.int .i64 i, .int .i64 j, .pointer (some ⟨bk, 0, none⟩), .pointer (some ⟨bn, 0, none⟩)]) Tryz.func147 rfl Tryz.ntmps147 (Nat.le_of_ble_eq_true rfl) fun w hw => ?_
  repeat refine wp_seq' ?_
  refine wp_text rfl ?_
  refine rs rfl (s_assign rfl rfl) ?_
  refine rs rfl (s_assign rfl rfl) ?_
  refine run_end ?_
  repeat refine wp_seq' ?_
  refine wp_text rfl ?_
  refine rs rfl (s_ld rfl rfl Tryz.isAgg3 (.own _ _ _ (by repeat first|exact MH _|apply MT) rfl)) ?_
  refine rs rfl (s_and rfl rfl rfl (and1_ hk)) ?_
  refine rs rfl (s_ne rfl rfl rfl) ?_
  refine run_end ?_
  repeat refine wp_seq' ?_
  refine wp_if' rfl (fun h1 => ?_) (fun h1 => ?_)
  · skip
    repeat refine wp_seq' ?_
    refine wp_text rfl ?_
    refine rs rfl (s_ld rfl rfl Tryz.isAgg3 (.own _ _ _ (by repeat first|exact MH _|apply MT) rfl)) ?_
    refine rs rfl (s_sub rfl rfl rfl (IntWalk.i64_in _ (by omega))) ?_
    refine rs rfl (s_move rfl rfl) ?_
    refine rs rfl (s_sub rfl rfl rfl (IntWalk.i64_in _ (by omega))) ?_
    refine rs rfl (s_assign rfl rfl) ?_
    refine run_end ?_
    repeat refine wp_seq' ?_
    refine wp_text rfl ?_
    refine rs rfl (s_ld rfl rfl Tryz.isAgg3 (.own _ _ _ (by repeat first|exact MH _|apply MT) rfl)) ?_
    refine rs rfl (s_and rfl rfl rfl (and2_ hk)) ?_
    refine rs rfl (s_ne rfl rfl rfl) ?_
    refine run_end ?_
    repeat refine wp_seq' ?_
    refine wp_if' rfl (fun h2 => ?_) (fun h2 => ?_)
    · skip
      repeat refine wp_seq' ?_
      refine wp_text rfl ?_
      refine rs rfl (s_ld rfl rfl Tryz.isAgg3 (.own _ _ _ (by repeat first|exact MH _|apply MT) rfl)) ?_
      refine rs rfl (s_sub rfl rfl rfl (IntWalk.i64_in _ (by omega))) ?_
      refine rs rfl (s_move rfl rfl) ?_
      refine rs rfl (s_sub rfl rfl rfl (IntWalk.i64_in _ (by omega))) ?_
      refine rs rfl (s_assign rfl rfl) ?_
      refine run_end ?_
      repeat refine wp_seq' ?_
      refine wp_text rfl ?_
      refine rs rfl (s_ld rfl rfl Tryz.isAgg3 (.own _ _ _ (by repeat first|exact MH _|apply MT) rfl)) ?_
      refine rs rfl (s_and rfl rfl rfl (and4_ hk)) ?_
      refine rs rfl (s_ne rfl rfl rfl) ?_
      refine run_end ?_
      repeat refine wp_seq' ?_
      refine wp_if' rfl (fun h4 => ?_) (fun h4 => ?_)
      · skip
        repeat refine wp_seq' ?_
        refine wp_text rfl ?_
        refine rs rfl (s_move rfl rfl) ?_
        refine rs rfl (s_move rfl rfl) ?_
        refine rs rfl (s_assign rfl rfl) ?_
        refine rs rfl (s_assign rfl rfl) ?_
        refine run_end ?_
        refine wp_ret' ?_
        refine finM_ret [.obj bk (.cells #[.int .i64 k] 3 (0, 0)), .obj bn (.cells #[.int .i64 n] 3 (0, 0))] (res_tt rfl rfl rfl) ⟨_, .refl _, .refl _⟩ ⟨?_, rfl⟩
        simp_all [dihMv, flipI]
      · skip
        refine wp_skip' ?_
        repeat refine wp_seq' ?_
        refine wp_text rfl ?_
        refine rs rfl (s_move rfl rfl) ?_
        refine rs rfl (s_move rfl rfl) ?_
        refine rs rfl (s_assign rfl rfl) ?_
        refine rs rfl (s_assign rfl rfl) ?_
        refine run_end ?_
        refine wp_ret' ?_
        refine finM_ret [.obj bk (.cells #[.int .i64 k] 3 (0, 0)), .obj bn (.cells #[.int .i64 n] 3 (0, 0))] (res_tt rfl rfl rfl) ⟨_, .refl _, .refl _⟩ ⟨?_, rfl⟩
        simp_all [dihMv, flipI]
    · skip
      refine wp_skip' ?_
      repeat refine wp_seq' ?_
      refine wp_text rfl ?_
      refine rs rfl (s_ld rfl rfl Tryz.isAgg3 (.own _ _ _ (by repeat first|exact MH _|apply MT) rfl)) ?_
      refine rs rfl (s_and rfl rfl rfl (and4_ hk)) ?_
      refine rs rfl (s_ne rfl rfl rfl) ?_
      refine run_end ?_
      repeat refine wp_seq' ?_
      refine wp_if' rfl (fun h4 => ?_) (fun h4 => ?_)
      · skip
        repeat refine wp_seq' ?_
        refine wp_text rfl ?_
        refine rs rfl (s_move rfl rfl) ?_
        refine rs rfl (s_move rfl rfl) ?_
        refine rs rfl (s_assign rfl rfl) ?_
        refine rs rfl (s_assign rfl rfl) ?_
        refine run_end ?_
        refine wp_ret' ?_
        refine finM_ret [.obj bk (.cells #[.int .i64 k] 3 (0, 0)), .obj bn (.cells #[.int .i64 n] 3 (0, 0))] (res_tt rfl rfl rfl) ⟨_, .refl _, .refl _⟩ ⟨?_, rfl⟩
        simp_all [dihMv, flipI]
      · skip
        refine wp_skip' ?_
        repeat refine wp_seq' ?_
        refine wp_text rfl ?_
        refine rs rfl (s_move rfl rfl) ?_
        refine rs rfl (s_move rfl rfl) ?_
        refine rs rfl (s_assign rfl rfl) ?_
        refine rs rfl (s_assign rfl rfl) ?_
        refine run_end ?_
        refine wp_ret' ?_
        refine finM_ret [.obj bk (.cells #[.int .i64 k] 3 (0, 0)), .obj bn (.cells #[.int .i64 n] 3 (0, 0))] (res_tt rfl rfl rfl) ⟨_, .refl _, .refl _⟩ ⟨?_, rfl⟩
        simp_all [dihMv, flipI]
  · skip
    refine wp_skip' ?_
    repeat refine wp_seq' ?_
    refine wp_text rfl ?_
    refine rs rfl (s_ld rfl rfl Tryz.isAgg3 (.own _ _ _ (by repeat first|exact MH _|apply MT) rfl)) ?_
    refine rs rfl (s_and rfl rfl rfl (and2_ hk)) ?_
    refine rs rfl (s_ne rfl rfl rfl) ?_
    refine run_end ?_
    repeat refine wp_seq' ?_
    refine wp_if' rfl (fun h2 => ?_) (fun h2 => ?_)
    · skip
      repeat refine wp_seq' ?_
      refine wp_text rfl ?_
      refine rs rfl (s_ld rfl rfl Tryz.isAgg3 (.own _ _ _ (by repeat first|exact MH _|apply MT) rfl)) ?_
      refine rs rfl (s_sub rfl rfl rfl (IntWalk.i64_in _ (by omega))) ?_
      refine rs rfl (s_move rfl rfl) ?_
      refine rs rfl (s_sub rfl rfl rfl (IntWalk.i64_in _ (by omega))) ?_
      refine rs rfl (s_assign rfl rfl) ?_
      refine run_end ?_
      repeat refine wp_seq' ?_
      refine wp_text rfl ?_
      refine rs rfl (s_ld rfl rfl Tryz.isAgg3 (.own _ _ _ (by repeat first|exact MH _|apply MT) rfl)) ?_
      refine rs rfl (s_and rfl rfl rfl (and4_ hk)) ?_
      refine rs rfl (s_ne rfl rfl rfl) ?_
      refine run_end ?_
      repeat refine wp_seq' ?_
      refine wp_if' rfl (fun h4 => ?_) (fun h4 => ?_)
      · skip
        repeat refine wp_seq' ?_
        refine wp_text rfl ?_
        refine rs rfl (s_move rfl rfl) ?_
        refine rs rfl (s_move rfl rfl) ?_
        refine rs rfl (s_assign rfl rfl) ?_
        refine rs rfl (s_assign rfl rfl) ?_
        refine run_end ?_
        refine wp_ret' ?_
        refine finM_ret [.obj bk (.cells #[.int .i64 k] 3 (0, 0)), .obj bn (.cells #[.int .i64 n] 3 (0, 0))] (res_tt rfl rfl rfl) ⟨_, .refl _, .refl _⟩ ⟨?_, rfl⟩
        simp_all [dihMv, flipI]
      · skip
        refine wp_skip' ?_
        repeat refine wp_seq' ?_
        refine wp_text rfl ?_
        refine rs rfl (s_move rfl rfl) ?_
        refine rs rfl (s_move rfl rfl) ?_
        refine rs rfl (s_assign rfl rfl) ?_
        refine rs rfl (s_assign rfl rfl) ?_
        refine run_end ?_
        refine wp_ret' ?_
        refine finM_ret [.obj bk (.cells #[.int .i64 k] 3 (0, 0)), .obj bn (.cells #[.int .i64 n] 3 (0, 0))] (res_tt rfl rfl rfl) ⟨_, .refl _, .refl _⟩ ⟨?_, rfl⟩
        simp_all [dihMv, flipI]
    · skip
      refine wp_skip' ?_
      repeat refine wp_seq' ?_
      refine wp_text rfl ?_
      refine rs rfl (s_ld rfl rfl Tryz.isAgg3 (.own _ _ _ (by repeat first|exact MH _|apply MT) rfl)) ?_
      refine rs rfl (s_and rfl rfl rfl (and4_ hk)) ?_
      refine rs rfl (s_ne rfl rfl rfl) ?_
      refine run_end ?_
      repeat refine wp_seq' ?_
      refine wp_if' rfl (fun h4 => ?_) (fun h4 => ?_)
      · skip
        repeat refine wp_seq' ?_
        refine wp_text rfl ?_
        refine rs rfl (s_move rfl rfl) ?_
        refine rs rfl (s_move rfl rfl) ?_
        refine rs rfl (s_assign rfl rfl) ?_
        refine rs rfl (s_assign rfl rfl) ?_
        refine run_end ?_
        refine wp_ret' ?_
        refine finM_ret [.obj bk (.cells #[.int .i64 k] 3 (0, 0)), .obj bn (.cells #[.int .i64 n] 3 (0, 0))] (res_tt rfl rfl rfl) ⟨_, .refl _, .refl _⟩ ⟨?_, rfl⟩
        simp_all [dihMv, flipI]
      · skip
        refine wp_skip' ?_
        repeat refine wp_seq' ?_
        refine wp_text rfl ?_
        refine rs rfl (s_move rfl rfl) ?_
        refine rs rfl (s_move rfl rfl) ?_
        refine rs rfl (s_assign rfl rfl) ?_
        refine rs rfl (s_assign rfl rfl) ?_
        refine run_end ?_
        refine wp_ret' ?_
        refine finM_ret [.obj bk (.cells #[.int .i64 k] 3 (0, 0)), .obj bn (.cells #[.int .i64 n] 3 (0, 0))] (res_tt rfl rfl rfl) ⟨_, .refl _, .refl _⟩ ⟨?_, rfl⟩
        simp_all [dihMv, flipI]
def putAll (n : Nat) (ms : List (Int → Int → Int × Int)) (g : List Sy) : List Sy := ms.foldl (fun g mv => putL g (moveS n mv)) g
def dihTo (n k : Nat) : List Sy := putAll n ((List.range k).map (dihMv n)) []
theorem dihTo_succ (n k : Nat) : dihTo n (k + 1) = putL (dihTo n k) (moveS n (dihMv n k)) := by simp [dihTo, putAll, List.range_succ]
theorem putL_len (g : List Sy) (a : Sy) : (putL g a).length ≤ g.length + 1 := by unfold putL; split <;> simp
def dihO (n : Int) : List Sy × Int := if ordI n ≠ 0 then ([], ordI n) else (sorted symLt (dihTo n.toNat 8), 0)
set_option maxRecDepth 8000 in
set_option maxHeartbeats 4000000 in
theorem dihedral_fn (n : Int) (h : H) : Fn Tryz.prog 66 #[.int .i64 n] h fun r h' => ∃ sv, r = .tuple #[sv, .int .i64 (dihO n).2] ∧ RdS h' sv (dihO n).1 := by
  refine fn_of (vs := [.int .i64 n]) Tryz.func66 rfl Tryz.ntmps66 (Nat.le_of_ble_eq_true rfl) fun w hw => ?_
  repeat refine wp_seq' ?_
  refine wp_text rfl ?_
  refine run_box rfl rfl rfl rfl rfl rfl rfl fun b1 => ?_
  refine rs rfl (s_assign rfl rfl) ?_
  refine rs rfl (s_assign rfl rfl) ?_
  refine run_end ?_
  repeat refine wp_seq' ?_
  refine wp_text rfl ?_
  refine rs rfl (s_ld rfl rfl Tryz.isAgg3 (.own _ _ _ (by repeat first|exact MH _|apply MT) rfl)) ?_
  refine run_callv (vs := [_]) rfl rfl rfl rfl rfl rfl en145 (checkOrder_fn _ _) ?_
  refine rs rfl (s_assign rfl rfl) ?_
  refine run_end ?_
  repeat refine wp_seq' ?_
  refine wp_text rfl ?_
  refine rs rfl (s_move rfl rfl) ?_
  refine rs rfl (s_ne rfl rfl rfl) ?_
  refine run_end ?_
  repeat refine wp_seq' ?_
  refine wp_if' rfl (fun hc10 => ?_) (fun hc10 => ?_)
  · skip
    repeat refine wp_seq' ?_
    refine wp_text rfl ?_
    refine rs rfl (s_move rfl rfl) ?_
    refine rs rfl (s_assign rfl rfl) ?_
    refine rs rfl (s_assign rfl rfl) ?_
    refine run_end ?_
    refine wp_ret' ?_
    refine fin_ret (res_tt rfl rfl rfl) ?_
    rw [dihO, if_pos hc10]
    exact ⟨_, rfl, RdS.nil _ 0⟩
  · skip
    refine wp_skip' ?_
    have ho := ordI_zero (Decidable.not_not.1 hc10)
    obtain ⟨N, rfl⟩ := Int.eq_ofNat_of_zero_le (show 0 ≤ n by omega)
    have hO : dihO N = (sorted symLt (dihTo N 8), 0) := by rw [dihO, if_neg hc10, Int.toNat_natCast]
    repeat refine wp_seq' ?_
    refine wp_text rfl ?_
    refine run_mkmapO rfl rfl rfl rfl rfl fun m => ?_
    refine rs rfl (s_assign rfl rfl) ?_
    refine run_end ?_
    repeat refine wp_seq' ?_
    refine wp_text rfl ?_
    refine rs rfl (s_move rfl rfl) ?_
    refine run_end ?_
    repeat refine wp_seq' ?_
    refine wp_block' ?_
    refine wp_loop' (ι := H × Nat × List (Value × Sy)) (fun x => x.2.1 ≤ 8 ∧ SetOk x.1 x.2.2 ∧ (∀ p ∈ x.2.2, Kk (N * N) p.2) ∧ x.2.2.map (·.2) = dihTo N x.2.1 ∧ (x.2.2.map (·.2)).Nodup ∧ x.2.2.length ≤ x.2.1) (fun x => ⟨[(13, .int .i64 x.2.1), (5, .map (some m)), (1, .pointer (some ⟨b1, 0, none⟩))], x.1, [.obj m (mapO (symKV x.2.2)), .obj b1 (.cells #[.int .i64 N] 3 (0, 0))]⟩) (fun x => 8 - x.2.1) (h, 0, []) ⟨Nat.zero_le _, (fun p hp => by cases hp), (fun p hp => by cases hp), rfl, List.nodup_nil, Nat.le_refl _⟩ ⟨by repeat (first|exact True.intro|refine And.intro rfl ?_), rfl, by repeat (first|exact NS _|exact SR _|apply SCC|apply SC)⟩ fun x hx => ?_
    obtain ⟨h1, k, kvs⟩ := x
    obtain ⟨hk, hks, hko, hto, hnd, hkl⟩ := hx
    dsimp only at hk hks hko hto hnd hkl ⊢
    repeat refine wp_seq' ?_
    refine wp_text rfl ?_
    refine rs rfl (s_lt rfl rfl rfl) ?_
    refine run_end ?_
    repeat refine wp_seq' ?_
    refine wp_if' rfl (fun hc14 => ?_) (fun hc14 => ?_)
    · skip
      refine wp_skip' ?_
      repeat refine wp_seq' ?_
      refine wp_block' ?_
      repeat refine wp_seq' ?_
      refine wp_text rfl ?_
      refine rs rfl (s_move rfl rfl) ?_
      refine run_alloc rfl rfl rfl rfl rfl Tryz.zeroValue3 rfl fun b6 => ?_
      refine run_st rfl rfl rfl rfl rfl rfl rfl rfl Tryz.sizeOf3 (by repeat first|exact Swap.here|apply Swap.there) rfl ?_
      refine run_end ?_
      have hk8 : k < 8 := by omega
      repeat refine wp_seq' ?_
      refine wp_text rfl ?_
      refine rs rfl (s_move rfl rfl) ?_
      refine rs rfl (s_ld rfl rfl Tryz.isAgg3 (.own _ _ _ (by repeat first|exact MH _|apply MT) rfl)) ?_
      refine rs rfl (s_mkf (vs := [.pointer (some ⟨b6, 0, none⟩), .pointer (some ⟨b1, 0, none⟩)]) rfl rfl) ?_
      refine run_callM (L := [_, _, _]) (M := []) (vs := [_, _, _]) rfl rfl rfl (dst_lt rfl rfl) rfl rfl en146 ((List.Perm.swap _ _ _).trans (List.Perm.refl _)) (add_fn N kvs m 147 _ (dihMv N k) [.obj b6 (.cells #[.int .i64 k] 3 (0, 0)), .obj b1 (.cells #[.int .i64 N] 3 (0, 0))] _ hks hko (by omega) (by omega) (fun i j hi hj => dih_rng hi hj) en147 (fun h' _ i j hi hj => dihMv_fn N k i j b6 b1 h' (by omega) hk8 hi hj)) ?_
      rintro r19 h2 _ ⟨kvs2, rfl, hks2, hko2, hmap⟩ hh2
      refine run_end ?_
      refine wp_text rfl ?_
      refine rs rfl (s_add rfl rfl rfl (IntWalk.i64_in _ (by omega))) ?_
      refine rs rfl (s_move rfl rfl) ?_
      refine run_end ?_
      have hl2 : kvs2.length ≤ k + 1 := by have := congrArg List.length hmap; rw [List.length_map] at this; have := putL_len (kvs.map (·.2)) (moveS N (dihMv N k)); rw [List.length_map] at this; omega
      exact ⟨(h2, k + 1, kvs2), ⟨by dsimp only; omega, hks2, hko2, by dsimp only; rw [dihTo_succ, hmap, hto], by dsimp only; rw [hmap]; exact nodup_putL hnd, hl2⟩, by dsimp only; omega, ⟨by repeat (first|exact True.intro|refine And.intro rfl ?_), rfl, by repeat (first|exact NS _|exact SR _|apply SCC|apply SC)⟩⟩
    · skip
      refine wp_exit' ?_
      obtain rfl : k = 8 := by omega
      refine WP.letObj (b := m) rfl (by repeat first|exact Pick.here|apply Pick.there) fun h5 hh5 hm5 => ?_
      repeat refine wp_seq' ?_
      refine wp_text rfl ?_
      refine rs rfl (s_move rfl rfl) ?_
      refine run_call (vs := [_]) rfl rfl rfl rfl rfl rfl en99 (glist_fn kvs m _ hm5 (hks.mono hh5) (by omega) hnd) ?_
      intro v22 h6 hv22 hh6
      refine rs rfl (s_assign rfl rfl) ?_
      refine rs rfl (s_assign rfl rfl) ?_
      refine run_end ?_
      refine wp_ret' ?_
      refine fin_ret (res_tt rfl rfl rfl) ?_
      rw [hO]
      rw [hto] at hv22
      exact ⟨_, rfl, hv22⟩
def shMv (n a b : Nat) (i j : Int) : Int × Int := (Int.tmod (i + a) n, Int.tmod (j + b) n)
theorem sh_cast (n a i : Nat) : Int.tmod ((i : Int) + a) n = (((i + a) % n : Nat) : Int) := rfl
theorem sh_rng {n a b i j : Nat} (hn : 0 < n) : (0 ≤ (shMv n a b i j).1 ∧ (shMv n a b i j).1 < n) ∧ 0 ≤ (shMv n a b i j).2 ∧ (shMv n a b i j).2 < n := by
  simp only [shMv, sh_cast]
  have h1 := Nat.mod_lt (i + a) hn
  have h2 := Nat.mod_lt (j + b) hn
  omega
set_option maxRecDepth 8000 in
theorem shMv_fn (n a b i j ba bn bb : Nat) (h : H) (hn : n ≤ 16) (hn0 : 1 ≤ n) (ha : a < n) (hb : b < n) (hi : i < n) (hj : j < n) : FnM Tryz.prog 148 #[.int .i64 i, .int .i64 j, .pointer (some ⟨ba, 0, none⟩), .pointer (some ⟨bn, 0, none⟩), .pointer (some ⟨bb, 0, none⟩)] h [.obj bb (.cells #[.int .i64 b] 3 (0, 0)), .obj ba (.cells #[.int .i64 a] 3 (0, 0)), .obj bn (.cells #[.int .i64 n] 3 (0, 0))] fun v _ L' => v = .tuple #[.int .i64 (shMv n a b i j).1, .int .i64 (shMv n a b i j).2] ∧ L' = [.obj bb (.cells #[.int .i64 b] 3 (0, 0)), .obj ba (.cells #[.int .i64 a] 3 (0, 0)), .obj bn (.cells #[.int .i64 n] 3 (0, 0))] := by
  refine fnM_of (vs := [.int .i64 i, .int .i64 j, .pointer (some ⟨ba, 0, none⟩), .pointer (some ⟨bn, 0, none⟩), .pointer (some ⟨bb, 0, none⟩)]) Tryz.func148 rfl Tryz.ntmps148 (Nat.le_of_ble_eq_true rfl) fun w hw => ?_
  repeat refine wp_seq' ?_
  refine wp_text rfl ?_
  refine rs rfl (s_assign rfl rfl) ?_
  refine rs rfl (s_assign rfl rfl) ?_
  refine run_end ?_
  repeat refine wp_seq' ?_
  refine wp_any [0, 1, 2, 3, 4, 5, 6, 7, 8, 9, 10, 11] rfl (by kernel_rfl) ?_
  refine rs rfl (s_move rfl rfl) ?_
  refine rs rfl (s_ld rfl rfl Tryz.isAgg3 (.own _ _ _ (by repeat first|exact MH _|apply MT) rfl)) ?_
  refine rs rfl (s_add rfl rfl rfl (IntWalk.i64_in _ (by omega))) ?_
  refine rs rfl (s_ld rfl rfl Tryz.isAgg3 (.own _ _ _ (by repeat first|exact MH _|apply MT) rfl)) ?_
  refine rs rfl (s_rem rfl rfl rfl (by omega) rfl) ?_
  refine rs rfl (s_move rfl rfl) ?_
  refine rs rfl (s_ld rfl rfl Tryz.isAgg3 (.own _ _ _ (by repeat first|exact MH _|apply MT) rfl)) ?_
  refine rs rfl (s_add rfl rfl rfl (IntWalk.i64_in _ (by omega))) ?_
  refine rs rfl (s_ld rfl rfl Tryz.isAgg3 (.own _ _ _ (by repeat first|exact MH _|apply MT) rfl)) ?_
  refine rs rfl (s_rem rfl rfl rfl (by omega) rfl) ?_
  refine rs rfl (s_assign rfl rfl) ?_
  refine rs rfl (s_assign rfl rfl) ?_
  refine run_end ?_
  refine wp_ret' ?_
  exact finM_ret _ (res_tt rfl rfl rfl) ⟨_, .refl _, .refl _⟩ ⟨rfl, rfl⟩
def shRow (n a : Nat) (b : Nat) (g : List Sy) : List Sy := putAll n ((List.range b).map (shMv n a)) g
theorem shRow_succ (n a b : Nat) (g : List Sy) : shRow n a (b + 1) g = putL (shRow n a b g) (moveS n (shMv n a b)) := by simp [shRow, putAll, List.range_succ]
def shTo (n a : Nat) : List Sy := (List.range a).foldl (fun g a => shRow n a n g) []
theorem shTo_succ (n a : Nat) : shTo n (a + 1) = shRow n a n (shTo n a) := by simp [shTo, List.range_succ]
def shiftO (n : Int) : List Sy × Int := if ordI n ≠ 0 then ([], ordI n) else (sorted symLt (shTo n.toNat n.toNat), 0)
set_option maxRecDepth 8000 in
set_option maxHeartbeats 4000000 in
theorem shifts_fn (n : Int) (h : H) : Fn Tryz.prog 67 #[.int .i64 n] h fun r h' => ∃ sv, r = .tuple #[sv, .int .i64 (shiftO n).2] ∧ RdS h' sv (shiftO n).1 := by
  refine fn_of (vs := [.int .i64 n]) Tryz.func67 rfl Tryz.ntmps67 (Nat.le_of_ble_eq_true rfl) fun w hw => ?_
  repeat refine wp_seq' ?_
  refine wp_text rfl ?_
  refine run_box rfl rfl rfl rfl rfl rfl rfl fun b1 => ?_
  refine rs rfl (s_assign rfl rfl) ?_
  refine rs rfl (s_assign rfl rfl) ?_
  refine run_end ?_
  repeat refine wp_seq' ?_
  refine wp_text rfl ?_
  refine rs rfl (s_ld rfl rfl Tryz.isAgg3 (.own _ _ _ (by repeat first|exact MH _|apply MT) rfl)) ?_
  refine run_callv (vs := [_]) rfl rfl rfl rfl rfl rfl en145 (checkOrder_fn _ _) ?_
  refine rs rfl (s_assign rfl rfl) ?_
  refine run_end ?_
  repeat refine wp_seq' ?_
  refine wp_text rfl ?_
  refine rs rfl (s_move rfl rfl) ?_
  refine rs rfl (s_ne rfl rfl rfl) ?_
  refine run_end ?_
  repeat refine wp_seq' ?_
  refine wp_if' rfl (fun hc11 => ?_) (fun hc11 => ?_)
  · skip
    repeat refine wp_seq' ?_
    refine wp_text rfl ?_
    refine rs rfl (s_move rfl rfl) ?_
    refine rs rfl (s_assign rfl rfl) ?_
    refine rs rfl (s_assign rfl rfl) ?_
    refine run_end ?_
    refine wp_ret' ?_
    refine fin_ret (res_tt rfl rfl rfl) ?_
    rw [shiftO, if_pos hc11]
    exact ⟨_, rfl, RdS.nil _ 0⟩
  · skip
    refine wp_skip' ?_
    have ho := ordI_zero (Decidable.not_not.1 hc11)
    obtain ⟨N, rfl⟩ := Int.eq_ofNat_of_zero_le (show 0 ≤ n by omega)
    have hO : shiftO N = (sorted symLt (shTo N N), 0) := by rw [shiftO, if_neg hc11, Int.toNat_natCast]
    repeat refine wp_seq' ?_
    refine wp_text rfl ?_
    refine run_mkmapO rfl rfl rfl rfl rfl fun m => ?_
    refine rs rfl (s_assign rfl rfl) ?_
    refine run_end ?_
    repeat refine wp_seq' ?_
    refine wp_text rfl ?_
    refine rs rfl (s_ld rfl rfl Tryz.isAgg3 (.own _ _ _ (by repeat first|exact MH _|apply MT) rfl)) ?_
    refine rs rfl (s_move rfl rfl) ?_
    refine run_end ?_
    repeat refine wp_seq' ?_
    refine wp_block' ?_
    refine wp_loop' (ι := H × Nat × List (Value × Sy)) (fun x => x.2.1 ≤ N ∧ SetOk x.1 x.2.2 ∧ (∀ p ∈ x.2.2, Kk (N * N) p.2) ∧ x.2.2.map (·.2) = shTo N x.2.1 ∧ (x.2.2.map (·.2)).Nodup ∧ x.2.2.length ≤ x.2.1 * 16) (fun x => ⟨[(15, .int .i64 x.2.1), (14, .int .i64 N), (5, .map (some m)), (1, .pointer (some ⟨b1, 0, none⟩))], x.1, [.obj m (mapO (symKV x.2.2)), .obj b1 (.cells #[.int .i64 N] 3 (0, 0))]⟩) (fun x => N - x.2.1) (h, 0, []) ⟨Nat.zero_le _, (fun p hp => by cases hp), (fun p hp => by cases hp), rfl, List.nodup_nil, Nat.le_refl _⟩ ⟨by repeat (first|exact True.intro|refine And.intro rfl ?_), rfl, by repeat (first|exact NS _|exact SR _|apply SCC|apply SC)⟩ fun x hx => ?_
    obtain ⟨h1, k, kvs⟩ := x
    obtain ⟨hk, hks, hko, hto, hnd, hkl⟩ := hx
    dsimp only at hk hks hko hto hnd hkl ⊢
    repeat refine wp_seq' ?_
    refine wp_text rfl ?_
    refine rs rfl (s_lt rfl rfl rfl) ?_
    refine run_end ?_
    repeat refine wp_seq' ?_
    refine wp_if' rfl (fun hc16 => ?_) (fun hc16 => ?_)
    · skip
      refine wp_skip' ?_
      repeat refine wp_seq' ?_
      refine wp_block' ?_
      repeat refine wp_seq' ?_
      refine wp_text rfl ?_
      refine rs rfl (s_move rfl rfl) ?_
      refine run_alloc rfl rfl rfl rfl rfl Tryz.zeroValue3 rfl fun b6 => ?_
      refine run_st rfl rfl rfl rfl rfl rfl rfl rfl Tryz.sizeOf3 (by repeat first|exact Swap.here|apply Swap.there) rfl ?_
      refine run_end ?_
      repeat refine wp_seq' ?_
      refine wp_text rfl ?_
      refine rs rfl (s_ld rfl rfl Tryz.isAgg3 (.own _ _ _ (by repeat first|exact MH _|apply MT) rfl)) ?_
      refine rs rfl (s_move rfl rfl) ?_
      refine run_end ?_
      repeat refine wp_seq' ?_
      refine wp_block' ?_
      refine WP.wq (t := ⟨[(19, .int .i64 0), (18, .int .i64 N), (6, .pointer (some ⟨b6, 0, none⟩)), (15, .int .i64 k), (14, .int .i64 N), (5, .map (some m)), (1, .pointer (some ⟨b1, 0, none⟩))], h1, [.obj m (mapO (symKV kvs)), .obj b6 (.cells #[.int .i64 k] 3 (0, 0)), .obj b1 (.cells #[.int .i64 N] 3 (0, 0))]⟩) ⟨by repeat (first|exact True.intro|refine And.intro rfl ?_), rfl, _, List.Perm.swap _ _ _, .refl _⟩ ?_
      refine wp_loop' (ι := H × Nat × List (Value × Sy)) (fun x => x.2.1 ≤ N ∧ SetOk x.1 x.2.2 ∧ (∀ p ∈ x.2.2, Kk (N * N) p.2) ∧ x.2.2.map (·.2) = shRow N k x.2.1 (shTo N k) ∧ (x.2.2.map (·.2)).Nodup ∧ x.2.2.length ≤ k * 16 + x.2.1) (fun x => ⟨[(19, .int .i64 x.2.1), (18, .int .i64 N), (6, .pointer (some ⟨b6, 0, none⟩)), (15, .int .i64 k), (14, .int .i64 N), (5, .map (some m)), (1, .pointer (some ⟨b1, 0, none⟩))], x.1, [.obj m (mapO (symKV x.2.2)), .obj b6 (.cells #[.int .i64 k] 3 (0, 0)), .obj b1 (.cells #[.int .i64 N] 3 (0, 0))]⟩) (fun x => N - x.2.1) (h1, 0, kvs) ⟨Nat.zero_le _, hks, hko, hto, hnd, by dsimp only; omega⟩ ⟨by repeat (first|exact True.intro|refine And.intro rfl ?_), rfl, by repeat (first|exact NS _|exact SR _|apply SCC|apply SC)⟩ fun x hx => ?_
      clear hks hko hto hnd hkl
      obtain ⟨h2, q, kvs⟩ := x
      obtain ⟨hq, hks, hko, hto, hnd, hkl⟩ := hx
      dsimp only at hq hks hko hto hnd hkl ⊢
      repeat refine wp_seq' ?_
      refine wp_text rfl ?_
      refine rs rfl (s_lt rfl rfl rfl) ?_
      refine run_end ?_
      repeat refine wp_seq' ?_
      refine wp_if' rfl (fun hc20 => ?_) (fun hc20 => ?_)
      · skip
        refine wp_skip' ?_
        repeat refine wp_seq' ?_
        refine wp_block' ?_
        repeat refine wp_seq' ?_
        refine wp_text rfl ?_
        refine rs rfl (s_move rfl rfl) ?_
        refine run_alloc rfl rfl rfl rfl rfl Tryz.zeroValue3 rfl fun b7 => ?_
        refine run_st rfl rfl rfl rfl rfl rfl rfl rfl Tryz.sizeOf3 (by repeat first|exact Swap.here|apply Swap.there) rfl ?_
        refine run_end ?_
        repeat refine wp_seq' ?_
        refine wp_text rfl ?_
        refine rs rfl (s_move rfl rfl) ?_
        refine rs rfl (s_ld rfl rfl Tryz.isAgg3 (.own _ _ _ (by repeat first|exact MH _|apply MT) rfl)) ?_
        refine rs rfl (s_mkf (vs := [.pointer (some ⟨b6, 0, none⟩), .pointer (some ⟨b1, 0, none⟩), .pointer (some ⟨b7, 0, none⟩)]) rfl rfl) ?_
        refine run_callM (L := [_, _, _, _]) (M := []) (vs := [_, _, _]) rfl rfl rfl (dst_lt rfl rfl) rfl rfl en146 (List.Perm.swap _ _ _) (add_fn N kvs m 148 _ (shMv N k q) [.obj b7 (.cells #[.int .i64 q] 3 (0, 0)), .obj b6 (.cells #[.int .i64 k] 3 (0, 0)), .obj b1 (.cells #[.int .i64 N] 3 (0, 0))] _ hks hko (by omega) (by omega) (fun i j hi hj => sh_rng (by omega)) en148 (fun h' _ i j hi hj => shMv_fn N k q i j b6 b1 b7 h' (by omega) (by omega) (by omega) (by omega) hi hj)) ?_
        rintro r19 h3 _ ⟨kvs2, rfl, hks2, hko2, hmap⟩ hh3
        refine run_end ?_
        refine wp_text rfl ?_
        refine rs rfl (s_add rfl rfl rfl (IntWalk.i64_in _ (by omega))) ?_
        refine rs rfl (s_move rfl rfl) ?_
        refine run_end ?_
        have hl2 : kvs2.length ≤ kvs.length + 1 := by have := congrArg List.length hmap; rw [List.length_map] at this; have := putL_len (kvs.map (·.2)) (moveS N (shMv N k q)); rw [List.length_map] at this; omega
        refine ⟨(h3, q + 1, kvs2), ⟨by dsimp only; omega, hks2, hko2, by dsimp only; rw [shRow_succ, hmap, hto], by dsimp only; rw [hmap]; exact nodup_putL hnd, by dsimp only; omega⟩, by dsimp only; omega, ⟨by repeat (first|exact True.intro|refine And.intro rfl ?_), rfl, by repeat (first|exact NS _|exact SR _|apply SCC|apply SC)⟩⟩
      · skip
        refine wp_exit' ?_
        obtain rfl : q = N := by omega
        refine wp_text rfl ?_
        refine rs rfl (s_add rfl rfl rfl (IntWalk.i64_in _ (by omega))) ?_
        refine rs rfl (s_move rfl rfl) ?_
        refine run_end ?_
        exact ⟨(h2, k + 1, kvs), ⟨by dsimp only; omega, hks, hko, by dsimp only; rw [shTo_succ, hto], hnd, by dsimp only; omega⟩, by dsimp only; omega, ⟨by repeat (first|exact True.intro|refine And.intro rfl ?_), rfl, by repeat (first|exact NS _|exact SR _|apply SCC|apply SC)⟩⟩
    · skip
      refine wp_exit' ?_
      obtain rfl : k = N := by omega
      refine WP.letObj (b := m) rfl (by repeat first|exact Pick.here|apply Pick.there) fun h5 hh5 hm5 => ?_
      repeat refine wp_seq' ?_
      refine wp_text rfl ?_
      refine rs rfl (s_move rfl rfl) ?_
      refine run_call (vs := [_]) rfl rfl rfl rfl rfl rfl en99 (glist_fn kvs m _ hm5 (hks.mono hh5) (by omega) hnd) ?_
      intro v29 h6 hv29 hh6
      refine rs rfl (s_assign rfl rfl) ?_
      refine rs rfl (s_assign rfl rfl) ?_
      refine run_end ?_
      refine wp_ret' ?_
      refine fin_ret (res_tt rfl rfl rfl) ?_
      rw [hO]
      rw [hto] at hv29
      exact ⟨_, rfl, hv29⟩
end Go.Tal

/-
  Symbolic states: regions whose orders are told by the order of what is hard, and by the sides of chosen pairs.
-/
namespace Go.Tal
open Go.RowKit
/-- j comes ahead of i. -/
def Bf (p : List Nat) (j i : Nat) : Prop := p.idxOf j < p.idxOf i
def okPairB (ops : Array Oper) (j i : Nat) : Bool := match ops[j]?, ops[i]? with
  | some x, some y => okPair ops x y
  | _, _ => false
theorem idxOf_tl {x j : Nat} {p : List Nat} (h : x ≠ j) : (x :: p).idxOf j = p.idxOf j + 1 := by
  rw [List.idxOf_cons, show (x == j) = false from by simpa using h]
  rfl
theorem Run.linP {ro : Option Nat} {m : Nat} {M : List Own} {C : Ctx} {ops : Array Oper} {K : S → Prop} {Q : Exit → Act → World → Prop} (hK : ∀ s a w, St C M s a w → K s → Q .normal a w) : ∀ (p l : List Nat) {s : S} {a : Act} {w : World}, l.Perm p → p.Nodup → (∀ i ∈ p, i < ops.size) → l.Pairwise (fun j i => okPairB ops j i = true ∨ Bf p j i) → Run true C ops K l s → St C M s a w → wpOpsIn (wr ro) m C.P ops Q p a w
  | [], l, s, a, w, hp, _, _, _, hr, hs => by
    obtain rfl : l = [] := List.perm_nil.1 hp
    obtain ⟨F, he, hk⟩ := hr
    exact hK (⟨F, s.h, s.L⟩ : S) a w (hs.eqF he) hk
  | i :: p, l, s, a, w, hp, hn, hlt, hpw, hr, hs => by
    have hil : i ∈ l := hp.symm.subset List.mem_cons_self
    obtain ⟨x, y, rfl⟩ := List.append_of_mem hil
    have hperm : (x ++ y).Perm p := (List.perm_middle.symm.trans hp).cons_inv
    have hn' := List.nodup_cons.1 hn
    have hmem : ∀ j, j ∈ x ++ y → j ∈ p ∧ j ≠ i := fun j hj => by
      have := hperm.subset hj
      exact ⟨this, fun e => hn'.1 (by rw [← e]; exact this)⟩
    have hil' : i < ops.size := hlt i List.mem_cons_self
    have ho : ops[i]? = some ops[i] := Array.getElem?_eq_getElem hil'
    have hx : ∀ j ∈ x, ∃ o, ops[j]? = some o ∧ okPair ops o ops[i] = true := fun j hj => by
      have h1 := (List.pairwise_append.1 hpw).2.2 j hj i List.mem_cons_self
      rcases h1 with h1 | h1
      · unfold okPairB at h1
        have hjp := hmem j (List.mem_append_left _ hj)
        have hjl := hlt j (List.mem_cons_of_mem _ hjp.1)
        rw [Array.getElem?_eq_getElem hjl, ho] at h1
        exact ⟨_, Array.getElem?_eq_getElem hjl, h1⟩
      · unfold Bf at h1
        rw [List.idxOf_cons_self] at h1
        omega
    obtain ⟨o', ho', hn2⟩ := Run.front ho x y hx hr
    rw [ho] at ho'
    cases ho'
    rw [wpOpsIn_cons]
    refine wpOpIn_mono (fun a' w' ⟨s', hs', hr'⟩ => Run.linP hK p (x ++ y) hperm hn'.2 (fun j hj => hlt j (List.mem_cons_of_mem _ hj)) ?_ hr' hs') (hn2.step ho hs)
    have hpw2 : (x ++ y).Pairwise (fun j k => okPairB ops j k = true ∨ Bf (i :: p) j k) := hpw.sublist ((List.Sublist.refl x).append (List.sublist_cons_self i y))
    refine hpw2.imp_of_mem fun {j k} hj hk h => ?_
    rcases h with h | h
    · exact .inl h
    · right
      unfold Bf at h ⊢
      rw [idxOf_tl (hmem j hj).2.symm, idxOf_tl (hmem k hk).2.symm] at h
      omega
def vecs : List (Nat × Nat) → List (List ((Nat × Nat) × Bool))
  | [] => [[]]
  | c :: r => (vecs r).flatMap fun v => [(c, true) :: v, (c, false) :: v]
theorem mem_vecs (f : Nat × Nat → Bool) : ∀ cp, cp.map (fun c => (c, f c)) ∈ vecs cp
  | [] => by simp [vecs]
  | c :: r => by
    simp only [List.map_cons, vecs, List.mem_flatMap]
    refine ⟨_, mem_vecs f r, ?_⟩
    cases f c <;> simp
/-- x comes no later than y. -/
def leB (ops : Array Oper) (B : List Nat) (x y : Nat) : Bool := x == y || ((B.getD y 0).testBit x && decide (x < ops.size) && decide (y < ops.size) && decide (x ≠ y))
def pairOk (ops : Array Oper) (B : List Nat) (h : List Nat) (v : List ((Nat × Nat) × Bool)) (j i : Nat) : Bool :=
  okPairB ops j i || (B.getD i 0).testBit j || (hardB ops j && hardB ops i && decide (h.idxOf j < h.idxOf i)) || v.any fun e => (e.1.1 == j && e.1.2 == i && e.2) || (!e.2 && leB ops B j e.1.2 && leB ops B e.1.1 i)
def allPairs (f : Nat → Nat → Bool) : List Nat → Bool
  | [] => true
  | j :: r => r.all (f j) && allPairs f r
theorem allPairs_pw {f : Nat → Nat → Bool} : ∀ {l : List Nat}, allPairs f l = true → l.Pairwise fun j i => f j i = true
  | [], _ => List.Pairwise.nil
  | j :: r, h => by
    simp only [allPairs, Bool.and_eq_true, List.all_eq_true] at h
    exact List.pairwise_cons.2 ⟨h.1, allPairs_pw h.2⟩
def drawsOkP (ops : Array Oper) (cp : List (Nat × Nat)) (ords : List (List Nat)) : Bool :=
  let B := bitsOf ops
  bitsOk ops B && ords.all (fun l => decide (l.length = ops.size) && (List.range ops.size).all fun i => l.contains i) &&
  (perms ((List.range ops.size).filter (hardB ops))).all fun h => !waits B h || (vecs cp).all fun v => ords.any fun l => allPairs (pairOk ops B h v) l
theorem idxOf_filter {q : Nat → Bool} {j i : Nat} (hj : q j = true) (hi : q i = true) : ∀ {p : List Nat}, (p.filter q).idxOf j < (p.filter q).idxOf i → p.idxOf j < p.idxOf i
  | [], h => by simp at h
  | x :: p, h => by
    by_cases hx : q x = true
    · rw [List.filter_cons_of_pos hx] at h
      simp only [List.idxOf_cons] at h ⊢
      by_cases e1 : x == i
      · rw [e1] at h; simp at h
      · by_cases e2 : x == j
        · simp [e1, e2]
        · simp only [Bool.not_eq_true] at e1 e2
          rw [e1, e2] at h ⊢
          simp only [cond_false] at h ⊢
          have := idxOf_filter hj hi (p := p) (by omega)
          omega
    · rw [List.filter_cons_of_neg hx] at h
      have h1 : (x == j) = false := by
        rw [Bool.eq_false_iff]; intro e; rw [beq_iff_eq] at e; subst e; exact hx hj
      have h2 : (x == i) = false := by
        rw [Bool.eq_false_iff]; intro e; rw [beq_iff_eq] at e; subst e; exact hx hi
      simp only [List.idxOf_cons, h1, h2, cond_false]
      have := idxOf_filter hj hi h
      omega
theorem idxOf_inj' {p : List Nat} {j i : Nat} (hj : j ∈ p) (h : p.idxOf j = p.idxOf i) : j = i := by
  have h1 := List.idxOf_lt_length_of_mem hj
  have h2 := List.getElem_idxOf h1
  have h3 : p.idxOf i < p.length := by omega
  have h4 := List.getElem_idxOf h3
  rw [← h2, ← h4]
  congr 1
theorem pw_bf {R : Nat → Nat → Prop} : ∀ {p : List Nat}, p.Pairwise R → ∀ {j i : Nat}, i ∈ p → p.idxOf j < p.idxOf i → R j i
  | [], _, _, _, hi, _ => by cases hi
  | x :: p, h, j, i, hi, hlt => by
    have h' := List.pairwise_cons.1 h
    simp only [List.idxOf_cons] at hlt
    cases e1 : (x == i) with
    | true => rw [e1] at hlt; simp at hlt
    | false =>
      have hip : i ∈ p := by
        rcases List.mem_cons.1 hi with rfl | hi
        · simp at e1
        · exact hi
      cases e2 : (x == j) with
      | true => rw [beq_iff_eq] at e2; subst e2; exact h'.1 i hip
      | false =>
        rw [e1, e2] at hlt
        simp only [cond_false] at hlt
        exact pw_bf h'.2 hip (by omega)
theorem wp_anysP {C : Ctx} {id : Nat} {ops : Array Oper} {Q : Exit → S → Prop} {s : S} (cp : List (Nat × Nat)) (ords : List (List Nat)) (hm : C.P.follows .mixedOrders = true) (hc : drawsOkP ops cp ords = true) (hr : ∀ l ∈ ords, Run true C ops (Q .normal) l s) : WP C (.region id ops true) Q s := by
  intro ro m M hG a w hs
  simp only [drawsOkP, Bool.and_eq_true, decide_eq_true_eq, List.all_eq_true] at hc
  obtain ⟨⟨hB, hords⟩, hcov⟩ := hc
  refine wpIn_region_draw fun t => ?_
  simp only [Region.schedule, hm, Bool.true_or, if_true]
  have hall : ∀ i, i < ops.size → (Array.replicate ops.size false).getD i true = false := fun i hi => by simp [Array.getD, hi]
  have R0 : Rest ops (List.range ops.size) (Array.replicate ops.size false) := ⟨by simp, fun i hi => by simp [hall i hi, hi], fun i hi => List.mem_range.1 hi, List.nodup_range, fun k o hk hn => absurd (List.mem_range.2 (Array.getElem?_eq_some_iff.1 hk).1) hn⟩
  obtain ⟨hp1, hp2⟩ := lin_props hB ops.size t (List.range ops.size) _ (by simp) R0
  have hgo : Region.linearise .any ops t = Region.linearise.go .any ops ops.size t (Array.replicate ops.size false) [] := rfl
  generalize Region.linearise.go .any ops ops.size t (Array.replicate ops.size false) [] = p at hp1 hp2 hgo
  have hpf := hp1.filter (hardB ops)
  have hmem := hcov _ (mem_perms hpf.symm)
  rw [waits_of (hp2.filter _)] at hmem
  simp only [Bool.not_true, Bool.false_or, List.all_eq_true, List.any_eq_true] at hmem
  obtain ⟨l, hl, hpo⟩ := hmem _ (mem_vecs (fun c => decide (p.idxOf c.1 < p.idxOf c.2)) cp)
  obtain ⟨hlen, hin⟩ := hords l hl
  have hin' : ∀ i, i < ops.size → i ∈ l := fun i hi => by simpa using hin i (List.mem_range.2 hi)
  have hpn : p.Nodup := hp1.symm.nodup_iff.1 List.nodup_range
  have hrl : (List.range ops.size).Perm l := by
    have hsub := sub_len (xs := List.range ops.size) (ys := l) List.nodup_range fun x hx => hin' x (List.mem_range.1 hx)
    have hlt : ∀ i ∈ l, i < ops.size := by
      intro i hi
      refine Classical.byContradiction fun hn => ?_
      obtain ⟨p, q, rfl⟩ := List.append_of_mem hi
      have := sub_len (xs := List.range ops.size) List.nodup_range (ys := p ++ q) (fun x hx => by
        have h1 := hin' x (List.mem_range.1 hx)
        simp only [List.mem_append, List.mem_cons] at h1 ⊢
        rcases h1 with h1 | rfl | h1
        · exact .inl h1
        · exact absurd (List.mem_range.1 hx) hn
        · exact .inr h1)
      simp at this hlen
      omega
    have hndo : l.Nodup := by
      refine Classical.byContradiction fun hn => ?_
      obtain ⟨x, p, q, r, rfl⟩ := dup_of hn
      have := sub_len (xs := List.range ops.size) List.nodup_range (ys := p ++ q ++ x :: r) (fun y hy => by
        have h1 := hin' y (List.mem_range.1 hy)
        simp only [List.mem_append, List.mem_cons] at h1 ⊢
        rcases h1 with h1 | rfl | h1 | rfl | h1 <;> simp [*])
      simp at this hlen
      omega
    exact (List.perm_ext_iff_of_nodup List.nodup_range hndo).2 fun a => ⟨fun ha => hin' a (List.mem_range.1 ha), fun ha => List.mem_range.2 (hlt a ha)⟩
  have hlp : l.Perm p := hrl.symm.trans hp1.symm
  rw [hgo]
  refine Run.linP (fun s a w h1 h2 => ⟨s, h1, h2⟩) p l hlp hpn (fun i hi => List.mem_range.1 (hp1.mem_iff.1 hi)) ?_ (hr l hl) hs.drew
  have hpw := allPairs_pw hpo
  have hlnd : l.Nodup := hlp.nodup_iff.2 hpn
  refine (hpw.and hlnd).imp_of_mem fun {j i} hj hi ⟨hji, hne⟩ => ?_
  have hjp := hlp.mem_iff.1 hj
  have hip := hlp.mem_iff.1 hi
  simp only [pairOk, Bool.or_eq_true, Bool.and_eq_true, decide_eq_true_eq, List.any_eq_true, List.mem_map] at hji
  rcases hji with ((h1 | h1) | ⟨⟨h1, h2⟩, h3⟩) | ⟨e, ⟨c, hc, rfl⟩, h1⟩
  · exact .inl h1
  · right
    unfold Bf
    refine Classical.byContradiction fun hn => ?_
    have hlt : p.idxOf i < p.idxOf j := by
      rcases Nat.lt_trichotomy (p.idxOf j) (p.idxOf i) with h | h | h
      · exact absurd h hn
      · exact absurd (idxOf_inj' hjp h) hne
      · exact h
    have := pw_bf hp2 hjp hlt
    rw [this] at h1
    cases h1
  · exact .inr (idxOf_filter h1 h2 h3)
  · right
    unfold Bf
    rcases h1 with ⟨⟨e1, e2⟩, e3⟩ | ⟨⟨e3, e2⟩, e1⟩
    · rw [beq_iff_eq] at e1 e2
      dsimp only at e1 e2 e3
      subst e1 e2
      simpa using e3
    · dsimp only at e1 e2 e3
      have h4 : ¬ p.idxOf c.1 < p.idxOf c.2 := by simpa using e3
      have hle : ∀ {x y : Nat}, leB ops (bitsOf ops) x y = true → p.idxOf x ≤ p.idxOf y := fun {x y} h => by
        simp only [leB, Bool.or_eq_true, Bool.and_eq_true, decide_eq_true_eq, beq_iff_eq] at h
        rcases h with rfl | ⟨⟨⟨h1, hx⟩, hy⟩, hxy⟩
        · exact Nat.le_refl _
        · have hxp : x ∈ p := hp1.mem_iff.2 (List.mem_range.2 hx)
          refine Classical.byContradiction fun hn => ?_
          have := pw_bf hp2 hxp (show p.idxOf y < p.idxOf x by omega)
          rw [this] at h1
          cases h1
      have h5 := hle e2
      have h6 := hle e1
      rcases Nat.lt_or_ge (p.idxOf j) (p.idxOf i) with h | h
      · exact h
      · exact absurd (idxOf_inj' hjp (by omega)) hne
theorem wp_cutP {C : Ctx} {id : Nat} {ops : Array Oper} {Q : Exit → S → Prop} {s : S} {ι : Type} {y : Code} {Q1 : Exit → S → Prop} (T : ι → S) (cp : List (Nat × Nat)) (ords : List (List Nat)) (hQ : ∀ s, Q .normal s = WP C y Q1 s) (hm : C.P.follows .mixedOrders = true) (hc : drawsOkP ops cp ords = true)
    (hr : ∀ l ∈ ords, Run true C ops (fun s => ∃ p, Wq s (T p)) l s) (hk : ∀ p, WP C y Q1 (T p)) : WP C (.region id ops true) Q s := by
  refine wp_anysP cp ords hm hc fun l hl => ?_
  refine Run.imp (fun s' ⟨p, hp⟩ => ?_) l (hr l hl)
  rw [hQ]
  exact fun ro m M hG a w hs => hk p ro m M hG a w (hs.wq hp)
end Go.Tal

namespace Go.Tal
open Go.RowKit Go.Proofs _root_.Tal
def rcMv (q : List Int) (i j : Int) : Int × Int := (q.getD i.toNat 0, q.getD j.toNat 0)
def opp (n x : Nat) : Int := (n : Int) - 1 - x
abbrev RcSt := List Int × List Bool × List Sy
def rcNo (n k x : Nat) (u : List Bool) : Bool := u.getD x false || (decide (2 * (k : Int) = n - 1) != decide (2 * (x : Int) = n - 1))
def rcIn (n k x : Nat) (st : RcSt) : RcSt := ((st.1.set k x).set (opp n k).toNat (opp n x), (st.2.1.set x true).set (opp n x).toNat true, st.2.2)
def rcOut (n x : Nat) (st : RcSt) : RcSt := (st.1, (st.2.1.set x false).set (opp n x).toNat false, st.2.2)
def rcGo (n : Nat) : Nat → Nat → RcSt → RcSt
  | 0, _, st => (st.1, st.2.1, putL st.2.2 (moveS n (rcMv st.1)))
  | f + 1, k, st => (List.range n).foldl (fun st x => if rcNo n k x st.2.1 then st else rcOut n x (rcGo n f (k + 1) (rcIn n k x st))) st
def rcStep (n f k : Nat) (st : RcSt) (x : Nat) : RcSt := if rcNo n k x st.2.1 then st else rcOut n x (rcGo n f (k + 1) (rcIn n k x st))
def rcTo (n f k x : Nat) (st : RcSt) : RcSt := (List.range x).foldl (rcStep n f k) st
theorem rcTo_succ (n f k x : Nat) (st : RcSt) : rcTo n f k (x + 1) st = rcStep n f k (rcTo n f k x st) x := by simp [rcTo, List.range_succ]
theorem rcGo_succ (n f k : Nat) (st : RcSt) : rcGo n (f + 1) k st = rcTo n f k n st := rfl
theorem rcGo_len (n : Nat) : ∀ (f k : Nat) (st : RcSt), (rcGo n f k st).2.2.length ≤ st.2.2.length + n ^ f
  | 0, k, st => by
    have := putL_len st.2.2 (moveS n (rcMv st.1))
    simpa [rcGo] using this
  | f + 1, k, st => by
    rw [rcGo_succ]
    have h : ∀ x, (rcTo n f k x st).2.2.length ≤ st.2.2.length + x * n ^ f := by
      intro x
      induction x with
      | zero => simp [rcTo]
      | succ x ih =>
        rw [rcTo_succ, rcStep]
        split
        · rw [Nat.succ_mul]; omega
        · have := rcGo_len n f (k + 1) (rcIn n k x (rcTo n f k x st))
          have e : (rcIn n k x (rcTo n f k x st)).2.2 = (rcTo n f k x st).2.2 := rfl
          rw [e] at this
          have e2 : (rcOut n x (rcGo n f (k + 1) (rcIn n k x (rcTo n f k x st)))).2.2 = (rcGo n f (k + 1) (rcIn n k x (rcTo n f k x st))).2.2 := rfl
          rw [e2, Nat.succ_mul]
          omega
    have := h n
    rw [Nat.pow_succ, Nat.mul_comm]
    exact this
structure RcOk (n : Nat) (st : RcSt) : Prop where
  q : st.1.length = n
  u : st.2.1.length = n
  r : ∀ x ∈ st.1, 0 ≤ x ∧ x < (n : Int)
  k : ∀ a ∈ st.2.2, Kk (n * n) a
  nd : st.2.2.Nodup
theorem RcOk.rng {n : Nat} {st : RcSt} (h : RcOk n st) {i j : Nat} (hi : i < n) (hj : j < n) : (0 ≤ (rcMv st.1 i j).1 ∧ (rcMv st.1 i j).1 < n) ∧ 0 ≤ (rcMv st.1 i j).2 ∧ (rcMv st.1 i j).2 < n :=
  ⟨h.r _ (getD_mem (by rw [Int.toNat_natCast, h.q]; exact hi)), h.r _ (getD_mem (by rw [Int.toNat_natCast, h.q]; exact hj))⟩
theorem RcOk.in_ {n k x : Nat} {st : RcSt} (h : RcOk n st) (hx : x < n) : RcOk n (rcIn n k x st) :=
  ⟨by simp [rcIn, h.q], by simp [rcIn, h.u], fun y hy => by
    rcases List.mem_or_eq_of_mem_set hy with hy | rfl
    · rcases List.mem_or_eq_of_mem_set hy with hy | rfl
      · exact h.r y hy
      · omega
    · unfold opp; omega, h.k, h.nd⟩
theorem RcOk.out {n x : Nat} {st : RcSt} (h : RcOk n st) : RcOk n (rcOut n x st) := ⟨h.q, by simp [rcOut, h.u], h.r, h.k, h.nd⟩
theorem RcOk.go {n : Nat} (hn : n ≤ 16) : ∀ {f k : Nat} {st : RcSt}, RcOk n st → RcOk n (rcGo n f k st)
  | 0, k, st, h => ⟨h.q, h.u, h.r, fun a ha => by
      rcases mem_putL.1 ha with ha | rfl
      · exact h.k a ha
      · exact moveS_kk hn fun i j hi hj => h.rng hi hj, nodup_putL h.nd⟩
  | f + 1, k, st, h => by
    rw [rcGo_succ]
    have : ∀ x, x ≤ n → RcOk n (rcTo n f k x st) := by
      intro x
      induction x with
      | zero => exact fun _ => h
      | succ x ih =>
        intro hx
        rw [rcTo_succ, rcStep]
        split
        · exact ih (by omega)
        · exact (RcOk.go hn ((ih (by omega)).in_ (by omega))).out
    exact this n (Nat.le_refl n)
theorem RcOk.to {n : Nat} (hn : n ≤ 16) {f k x : Nat} {st : RcSt} (h : RcOk n st) (hx : x ≤ n) : RcOk n (rcTo n f k x st) := by
  induction x with
  | zero => exact h
  | succ x ih =>
    rw [rcTo_succ, rcStep]
    split
    · exact ih (by omega)
    · exact (RcOk.go hn ((ih (by omega)).in_ (by omega))).out
set_option maxRecDepth 8000 in
theorem rcMv_fn (n i j bq rq : Nat) (q : List Int) (h : H) (hq : q.length = n) (hi : i < n) (hj : j < n) : FnM Tryz.prog 150 #[.int .i64 i, .int .i64 j, .pointer (some ⟨bq, 0, none⟩)] h [.obj bq (.cells #[.slice (some ⟨rq, 0, none⟩) n n] 35 (0, 0)), .row (.slice (some ⟨rq, 0, none⟩) n n) 3 1 n (q.map (Value.int .i64))] fun v _ L' => v = .tuple #[.int .i64 (rcMv q i j).1, .int .i64 (rcMv q i j).2] ∧ L' = [.obj bq (.cells #[.slice (some ⟨rq, 0, none⟩) n n] 35 (0, 0)), .row (.slice (some ⟨rq, 0, none⟩) n n) 3 1 n (q.map (Value.int .i64))] := by
  refine fnM_of (vs := [.int .i64 i, .int .i64 j, .pointer (some ⟨bq, 0, none⟩)]) Tryz.func150 rfl Tryz.ntmps150 (Nat.le_of_ble_eq_true rfl) fun w hw => ?_
  repeat refine wp_seq' ?_
  refine wp_text rfl ?_
  refine rs rfl (s_assign rfl rfl) ?_
  refine rs rfl (s_assign rfl rfl) ?_
  refine run_end ?_
  repeat refine wp_seq' ?_
  refine wp_any [0, 1, 2, 3, 4, 5, 6, 7, 8, 9] rfl (by kernel_rfl) ?_
  refine rs rfl (s_ld rfl rfl Tryz.isAgg35 (.own _ _ _ (by repeat first|exact MH _|apply MT) rfl)) ?_
  refine rs rfl (s_move rfl rfl) ?_
  refine rs rfl (s_ia1 rfl rfl rfl Tryz.underlying35 Tryz.sizeOf3 (by omega) (by omega)) ?_
  refine rs rfl (s_ld rfl rfl Tryz.isAgg3 (.rowM (e := 3) (sz := 1) (Value.int .i64) 0 (by repeat first|exact MH _|apply MT) (by first | omega | (simp; omega)))) ?_
  refine rs rfl (s_ld rfl rfl Tryz.isAgg35 (.own _ _ _ (by repeat first|exact MH _|apply MT) rfl)) ?_
  refine rs rfl (s_move rfl rfl) ?_
  refine rs rfl (s_ia1 rfl rfl rfl Tryz.underlying35 Tryz.sizeOf3 (by omega) (by omega)) ?_
  refine rs rfl (s_ld rfl rfl Tryz.isAgg3 (.rowM (e := 3) (sz := 1) (Value.int .i64) 0 (by repeat first|exact MH _|apply MT) (by first | omega | (simp; omega)))) ?_
  refine rs rfl (s_assign rfl rfl) ?_
  refine rs rfl (s_assign rfl rfl) ?_
  refine run_end ?_
  refine wp_ret' ?_
  exact finM_ret _ (res_tt rfl rfl rfl) ⟨_, .refl _, .refl _⟩ ⟨rfl, rfl⟩
/-- What the search holds. -/
abbrev rcL (n m b1 b5 bq rq bu ru b8 : Nat) (q : List Int) (u : List Bool) (kvs : List (Value × Sy)) : List Own := [.obj m (mapO (symKV kvs)), .obj bq (.cells #[.slice (some ⟨rq, 0, none⟩) n n] 35 (0, 0)), .row (.slice (some ⟨rq, 0, none⟩) n n) 3 1 n (q.map (Value.int .i64)), .obj bu (.cells #[.slice (some ⟨ru, 0, none⟩) n n] 108 (0, 0)), .row (.slice (some ⟨ru, 0, none⟩) n n) 4 1 n (u.map Value.bool), .obj b5 (.cells #[.map (some m)] 115 (0, 0)), .obj b8 (.cells #[.func (.func 149) #[] #[.pointer (some ⟨b1, 0, none⟩), .pointer (some ⟨b5, 0, none⟩), .pointer (some ⟨bq, 0, none⟩), .pointer (some ⟨bu, 0, none⟩), .pointer (some ⟨b8, 0, none⟩)]] 169 (0, 0)), .obj b1 (.cells #[.int .i64 n] 3 (0, 0))]
set_option maxRecDepth 8000 in
set_option maxHeartbeats 8000000 in
theorem rcChoose_fn (n m b1 b5 bq rq bu ru b8 : Nat) (hn0 : 1 ≤ n) (hn : n ≤ 16) : ∀ (f k : Nat), k + f = (n + 1) / 2 → ∀ (q : List Int) (u : List Bool) (kvs : List (Value × Sy)) (h : H), RcOk n (q, u, kvs.map (·.2)) → SetOk h kvs → FnM Tryz.prog 149 (#[.int .i64 k] ++ #[.pointer (some ⟨b1, 0, none⟩), .pointer (some ⟨b5, 0, none⟩), .pointer (some ⟨bq, 0, none⟩), .pointer (some ⟨bu, 0, none⟩), .pointer (some ⟨b8, 0, none⟩)]) h (rcL n m b1 b5 bq rq bu ru b8 q u kvs) fun r h' L' => ∃ q' u' kvs', L' = rcL n m b1 b5 bq rq bu ru b8 q' u' kvs' ∧ SetOk h' kvs' ∧ (q', u', kvs'.map (·.2)) = rcGo n f k (q, u, kvs.map (·.2)) := by
  intro f
  induction f with
  | zero =>
    intro k hk q u kvs h hok hks
    refine fnM_of (vs := [.int .i64 k, .pointer (some ⟨b1, 0, none⟩), .pointer (some ⟨b5, 0, none⟩), .pointer (some ⟨bq, 0, none⟩), .pointer (some ⟨bu, 0, none⟩), .pointer (some ⟨b8, 0, none⟩)]) Tryz.func149 rfl Tryz.ntmps149 (Nat.le_of_ble_eq_true rfl) fun w hw => ?_
    repeat refine wp_seq' ?_
    refine wp_text rfl ?_
    refine rs rfl (s_move rfl rfl) ?_
    refine rs rfl (s_ld rfl rfl Tryz.isAgg3 (.own _ _ _ (by repeat first|exact MH _|apply MT) rfl)) ?_
    refine rs rfl (s_add (q := ((n + 1 : Nat) : Int)) rfl rfl rfl (by rw [show (n : Int) + 1 = ((n + 1 : Nat) : Int) from rfl]; exact IntWalk.i64_in _ (by omega))) ?_
    refine rs rfl (s_quo (q := (((n + 1) / 2 : Nat) : Int)) rfl rfl rfl (by decide) (by rw [show (2 : Int) = ((2 : Nat) : Int) from rfl, tdiv_cast]; exact IntWalk.i64_in _ (by omega))) ?_
    refine rs rfl (s_eq rfl rfl rfl) ?_
    refine run_end ?_
    repeat refine wp_seq' ?_
    refine wp_if' rfl (fun hc12 => ?_) (fun hc12 => ?_)
    · skip
      repeat refine wp_seq' ?_
      refine wp_text rfl ?_
      refine rs rfl (s_ld rfl rfl Tryz.isAgg115 (.own _ _ _ (by repeat first|exact MH _|apply MT) rfl)) ?_
      refine rs rfl (s_ld rfl rfl Tryz.isAgg3 (.own _ _ _ (by repeat first|exact MH _|apply MT) rfl)) ?_
      refine rs rfl (s_mkf (vs := [.pointer (some ⟨bq, 0, none⟩)]) rfl rfl) ?_
      refine run_callM (L := [_, _, _]) (M := [_, _, _, _, _]) (vs := [_, _, _]) rfl rfl rfl (dst_lt rfl rfl) rfl rfl en146 (List.Perm.refl _) (add_fn n kvs m 150 _ (rcMv q) [.obj bq (.cells #[.slice (some ⟨rq, 0, none⟩) n n] 35 (0, 0)), .row (.slice (some ⟨rq, 0, none⟩) n n) 3 1 n (q.map (Value.int .i64))] _ hks (fun p hp => hok.k _ (List.mem_map.2 ⟨p, hp, rfl⟩)) hn0 hn (fun i j hi hj => hok.rng hi hj) en150 (fun h' _ i j hi hj => rcMv_fn n i j bq rq q h' hok.q hi hj)) ?_
      rintro r19 h2 _ ⟨kvs2, rfl, hks2, hko2, hmap⟩ hh2
      refine run_end ?_
      refine wp_ret' ?_
      exact finM_ret (rcL n m b1 b5 bq rq bu ru b8 q u kvs2) (res_none rfl) ⟨_, .refl _, .refl _⟩ ⟨q, u, kvs2, rfl, hks2, by rw [hmap]; rfl⟩
    · skip
      omega
  | succ f ih =>
    intro k hk q u kvs h hok hks
    refine fnM_of (vs := [.int .i64 k, .pointer (some ⟨b1, 0, none⟩), .pointer (some ⟨b5, 0, none⟩), .pointer (some ⟨bq, 0, none⟩), .pointer (some ⟨bu, 0, none⟩), .pointer (some ⟨b8, 0, none⟩)]) Tryz.func149 rfl Tryz.ntmps149 (Nat.le_of_ble_eq_true rfl) fun w hw => ?_
    repeat refine wp_seq' ?_
    refine wp_text rfl ?_
    refine rs rfl (s_move rfl rfl) ?_
    refine rs rfl (s_ld rfl rfl Tryz.isAgg3 (.own _ _ _ (by repeat first|exact MH _|apply MT) rfl)) ?_
    refine rs rfl (s_add (q := ((n + 1 : Nat) : Int)) rfl rfl rfl (by rw [show (n : Int) + 1 = ((n + 1 : Nat) : Int) from rfl]; exact IntWalk.i64_in _ (by omega))) ?_
    refine rs rfl (s_quo (q := (((n + 1) / 2 : Nat) : Int)) rfl rfl rfl (by decide) (by rw [show (2 : Int) = ((2 : Nat) : Int) from rfl, tdiv_cast]; exact IntWalk.i64_in _ (by omega))) ?_
    refine rs rfl (s_eq rfl rfl rfl) ?_
    refine run_end ?_
    repeat refine wp_seq' ?_
    refine wp_if' rfl (fun hc12 => ?_) (fun hc12 => ?_)
    · skip
      omega
    · skip
      refine wp_skip' ?_
      repeat refine wp_seq' ?_
      refine wp_text rfl ?_
      refine rs rfl (s_ld rfl rfl Tryz.isAgg3 (.own _ _ _ (by repeat first|exact MH _|apply MT) rfl)) ?_
      refine rs rfl (s_move rfl rfl) ?_
      refine run_end ?_
      repeat refine wp_seq' ?_
      refine wp_block' ?_
      refine wp_loop' (ι := H × Nat × List Int × List Bool × List (Value × Sy)) (fun x => (x.2.1 ≤ n ∧ SetOk x.1 x.2.2.2.2) ∧ (x.2.2.1, x.2.2.2.1, x.2.2.2.2.map (·.2)) = rcTo n f k x.2.1 (q, u, kvs.map (·.2))) (fun x => ⟨[(18, .int .i64 x.2.1), (17, .int .i64 n), (5, .pointer (some ⟨b8, 0, none⟩)), (4, .pointer (some ⟨bu, 0, none⟩)), (3, .pointer (some ⟨bq, 0, none⟩)), (2, .pointer (some ⟨b5, 0, none⟩)), (1, .pointer (some ⟨b1, 0, none⟩)), (0, .int .i64 k)], x.1, rcL n m b1 b5 bq rq bu ru b8 x.2.2.1 x.2.2.2.1 x.2.2.2.2⟩) (fun x => n - x.2.1) (h, 0, q, u, kvs) ⟨⟨Nat.zero_le _, hks⟩, rfl⟩ ⟨by repeat (first|exact True.intro|refine And.intro rfl ?_), rfl, by repeat (first|exact NS _|exact SR _|apply SCC|apply SC)⟩ fun x hx => ?_
      obtain ⟨h1, x, q1, u1, kvs1⟩ := x
      obtain ⟨⟨hx, hks1⟩, hto⟩ := hx
      dsimp only at hx hks1 hto ⊢
      repeat refine wp_seq' ?_
      refine wp_text rfl ?_
      refine rs rfl (s_lt rfl rfl rfl) ?_
      refine run_end ?_
      repeat refine wp_seq' ?_
      refine wp_if' rfl (fun hc19 => ?_) (fun hc19 => ?_)
      · skip
        refine wp_skip' ?_
        have hok1 := hok.to (f := f) (k := k) hn hx
        rw [← hto] at hok1
        have hql := hok1.q
        have hul := hok1.u
        dsimp only at hql hul
        have hst := rcTo_succ n f k x (q, u, kvs.map (·.2))
        rw [← hto] at hst
        have hkn : k < n := by omega
        repeat refine wp_seq' ?_
        refine wp_block' ?_
        repeat refine wp_seq' ?_
        refine wp_text rfl ?_
        refine rs rfl (s_move rfl rfl) ?_
        refine rs rfl (s_assign rfl rfl) ?_
        refine run_end ?_
        repeat refine wp_seq' ?_
        refine wp_text rfl ?_
        refine rs rfl (s_ld rfl rfl Tryz.isAgg108 (.own _ _ _ (by repeat first|exact MH _|apply MT) rfl)) ?_
        refine rs rfl (s_move rfl rfl) ?_
        refine rs rfl (s_ia1 rfl rfl rfl Tryz.underlying108 Tryz.sizeOf4 (by omega) (by omega)) ?_
        refine rs rfl (s_ld rfl rfl Tryz.isAgg4 (.rowM (e := 4) (sz := 1) Value.bool false (by repeat first|exact MH _|apply MT) (by first | omega | (simp; omega)))) ?_
        refine rs rfl (s_move rfl rfl) ?_
        refine run_cb (t := 25) rfl (fun hg25 => ?_) (fun hg25 => ?_)
        · skip
          refine run_skip rfl rfl rfl rfl rfl rfl rfl ?_
          refine run_skip rfl rfl rfl rfl rfl rfl rfl ?_
          refine run_skip rfl rfl rfl rfl rfl rfl rfl ?_
          refine run_skip rfl rfl rfl rfl rfl rfl rfl ?_
          refine run_skip rfl rfl rfl rfl rfl rfl rfl ?_
          refine run_skip rfl rfl rfl rfl rfl rfl rfl ?_
          refine run_skip rfl rfl rfl rfl rfl rfl rfl ?_
          refine run_skip rfl rfl rfl rfl rfl rfl rfl ?_
          refine run_skip rfl rfl rfl rfl rfl rfl rfl ?_
          refine run_skip rfl rfl rfl rfl rfl rfl rfl ?_
          refine run_skip rfl rfl rfl rfl rfl rfl rfl ?_
          refine rs rfl (s_pick (c := true) rfl rfl (fun _ => rfl) (fun h => by cases h)) ?_
          refine run_end ?_
          repeat refine wp_seq' ?_
          refine wp_cond' (b := true) rfl (fun _ => ?_) (fun h => by cases h)
          refine wp_exit' ?_
          simp only [Int.toNat_natCast] at hg25
          rw [rcStep, if_pos (by dsimp only [rcNo]; rw [hg25]; rfl)] at hst
          refine wp_text rfl ?_
          refine rs rfl (s_add rfl rfl rfl (IntWalk.i64_in _ (by omega))) ?_
          refine rs rfl (s_move rfl rfl) ?_
          refine run_end ?_
          exact ⟨(h1, x + 1, q1, u1, kvs1), ⟨⟨by dsimp only; omega, hks1⟩, hst.symm⟩, by dsimp only; omega, ⟨by repeat (first|exact True.intro|refine And.intro rfl ?_), rfl, by repeat (first|exact NS _|exact SR _|apply SCC|apply SC)⟩⟩
        · skip
          refine rsg rfl rfl (s_move rfl rfl) ?_
          refine rsg rfl rfl (s_mul (q := 2 * (k : Int)) rfl rfl rfl (IntWalk.i64_in _ (by omega))) ?_
          refine rsg rfl rfl (s_ld rfl rfl Tryz.isAgg3 (.own _ _ _ (by repeat first|exact MH _|apply MT) rfl)) ?_
          refine rsg rfl rfl (s_sub rfl rfl rfl (IntWalk.i64_in _ (by omega))) ?_
          refine rsg rfl rfl (s_eq rfl rfl rfl) ?_
          refine rsg rfl rfl (s_move rfl rfl) ?_
          refine rsg rfl rfl (s_mul (q := 2 * (x : Int)) rfl rfl rfl (IntWalk.i64_in _ (by omega))) ?_
          refine rsg rfl rfl (s_ld rfl rfl Tryz.isAgg3 (.own _ _ _ (by repeat first|exact MH _|apply MT) rfl)) ?_
          refine rsg rfl rfl (s_sub rfl rfl rfl (IntWalk.i64_in _ (by omega))) ?_
          refine rsg rfl rfl (s_eq rfl rfl rfl) ?_
          refine rsg rfl rfl (s_bne rfl rfl rfl Tryz.underlying4) ?_
          refine rs rfl (s_pick (c := false) rfl rfl (fun h => by cases h) (fun _ => rfl)) ?_
          refine run_end ?_
          simp only [Int.toNat_natCast] at hg25
          repeat refine wp_seq' ?_
          refine wp_cond' rfl (fun hc37 => ?_) (fun hc37 => ?_)
          · skip
            refine wp_exit' ?_
            rw [rcStep, if_pos (by dsimp only [rcNo]; rw [hg25, hc37]; rfl)] at hst
            refine wp_text rfl ?_
            refine rs rfl (s_add rfl rfl rfl (IntWalk.i64_in _ (by omega))) ?_
            refine rs rfl (s_move rfl rfl) ?_
            refine run_end ?_
            exact ⟨(h1, x + 1, q1, u1, kvs1), ⟨⟨by dsimp only; omega, hks1⟩, hst.symm⟩, by dsimp only; omega, ⟨by repeat (first|exact True.intro|refine And.intro rfl ?_), rfl, by repeat (first|exact NS _|exact SR _|apply SCC|apply SC)⟩⟩
          · skip
            refine wp_skip' ?_
            rw [rcStep, if_neg (by dsimp only [rcNo]; rw [hg25, hc37]; decide)] at hst
            have hin := hok1.in_ (k := k) (x := x) (by omega)
            repeat refine wp_seq' ?_
            refine (wp_cutP (fun _ : Unit => ⟨[(7, .int .i64 x), (18, .int .i64 x), (17, .int .i64 n), (5, .pointer (some ⟨b8, 0, none⟩)), (4, .pointer (some ⟨bu, 0, none⟩)), (3, .pointer (some ⟨bq, 0, none⟩)), (2, .pointer (some ⟨b5, 0, none⟩)), (1, .pointer (some ⟨b1, 0, none⟩)), (0, .int .i64 k)], h1, rcL n m b1 b5 bq rq bu ru b8 ((q1.set k x).set (opp n k).toNat (opp n x)) u1 kvs1⟩) [(2, 13), (3, 13), (8, 13)] [[0, 1, 2, 3, 4, 5, 6, 7, 8, 9, 10, 11, 12, 13, 14, 15], [0, 1, 3, 4, 5, 6, 7, 8, 9, 10, 11, 12, 13, 2, 14, 15], [0, 1, 2, 5, 7, 8, 9, 10, 11, 12, 13, 3, 4, 6, 14, 15], [0, 1, 5, 7, 8, 9, 10, 11, 12, 13, 2, 3, 4, 6, 14, 15], [0, 1, 2, 3, 4, 5, 6, 7, 10, 12, 13, 8, 9, 11, 14, 15], [0, 1, 3, 4, 5, 6, 7, 10, 12, 13, 2, 8, 9, 11, 14, 15], [0, 1, 2, 5, 7, 10, 12, 13, 3, 4, 6, 8, 9, 11, 14, 15], [0, 1, 5, 7, 10, 12, 13, 2, 3, 4, 6, 8, 9, 11, 14, 15]] (fun _ => rfl) rfl (by kernel_rfl) ?_ ?_)
            · intro l hl
              simp only [List.mem_cons, List.not_mem_nil, or_false] at hl
              rcases hl with rfl | rfl | rfl | rfl | rfl | rfl | rfl | rfl
              · skip
                refine rs rfl (s_ld rfl rfl Tryz.isAgg35 (.own _ _ _ (by repeat first|exact MH _|apply MT) rfl)) ?_
                refine rs rfl (s_move rfl rfl) ?_
                refine rs rfl (s_ld rfl rfl Tryz.isAgg35 (.own _ _ _ (by repeat first|exact MH _|apply MT) rfl)) ?_
                refine rs rfl (s_ld rfl rfl Tryz.isAgg3 (.own _ _ _ (by repeat first|exact MH _|apply MT) rfl)) ?_
                refine rs rfl (s_sub rfl rfl rfl (IntWalk.i64_in _ (by omega))) ?_
                refine rs rfl (s_move rfl rfl) ?_
                refine rs rfl (s_sub rfl rfl rfl (IntWalk.i64_in _ (by omega))) ?_
                refine rs rfl (s_move rfl rfl) ?_
                refine rs rfl (s_ld rfl rfl Tryz.isAgg3 (.own _ _ _ (by repeat first|exact MH _|apply MT) rfl)) ?_
                refine rs rfl (s_sub rfl rfl rfl (IntWalk.i64_in _ (by omega))) ?_
                refine rs rfl (s_move rfl rfl) ?_
                refine rs rfl (s_sub rfl rfl rfl (IntWalk.i64_in _ (by omega))) ?_
                refine rs rfl (s_ia1 rfl rfl rfl Tryz.underlying35 Tryz.sizeOf3 (by omega) (by omega)) ?_
                refine run_strowM (Value.int .i64) rfl rfl rfl rfl rfl rfl rfl rfl Tryz.sizeOf3 (by repeat first|exact Swap.here|apply Swap.there) (by omega) ?_
                refine rs rfl (s_ia1 rfl rfl rfl Tryz.underlying35 Tryz.sizeOf3 (by omega) (by omega)) ?_
                refine run_strowM (Value.int .i64) rfl rfl rfl rfl rfl rfl rfl rfl Tryz.sizeOf3 (by repeat first|exact Swap.here|apply Swap.there) (by omega) ?_
                refine run_end ?_
                exact ⟨(), by repeat (first|exact True.intro|refine And.intro rfl ?_), rfl, _, .refl _, (by repeat (first|exact NS _|exact SR _|apply SCC|apply SC))⟩
              · skip
                refine rs rfl (s_ld rfl rfl Tryz.isAgg35 (.own _ _ _ (by repeat first|exact MH _|apply MT) rfl)) ?_
                refine rs rfl (s_move rfl rfl) ?_
                refine rs rfl (s_ld rfl rfl Tryz.isAgg3 (.own _ _ _ (by repeat first|exact MH _|apply MT) rfl)) ?_
                refine rs rfl (s_sub rfl rfl rfl (IntWalk.i64_in _ (by omega))) ?_
                refine rs rfl (s_move rfl rfl) ?_
                refine rs rfl (s_sub rfl rfl rfl (IntWalk.i64_in _ (by omega))) ?_
                refine rs rfl (s_move rfl rfl) ?_
                refine rs rfl (s_ld rfl rfl Tryz.isAgg3 (.own _ _ _ (by repeat first|exact MH _|apply MT) rfl)) ?_
                refine rs rfl (s_sub rfl rfl rfl (IntWalk.i64_in _ (by omega))) ?_
                refine rs rfl (s_move rfl rfl) ?_
                refine rs rfl (s_sub rfl rfl rfl (IntWalk.i64_in _ (by omega))) ?_
                refine rs rfl (s_ia1 rfl rfl rfl Tryz.underlying35 Tryz.sizeOf3 (by omega) (by omega)) ?_
                refine run_strowM (Value.int .i64) rfl rfl rfl rfl rfl rfl rfl rfl Tryz.sizeOf3 (by repeat first|exact Swap.here|apply Swap.there) (by omega) ?_
                refine rs rfl (s_ld rfl rfl Tryz.isAgg35 (.own _ _ _ (by repeat first|exact MH _|apply MT) rfl)) ?_
                refine rs rfl (s_ia1 rfl rfl rfl Tryz.underlying35 Tryz.sizeOf3 (by omega) (by omega)) ?_
                refine run_strowM (Value.int .i64) rfl rfl rfl rfl rfl rfl rfl rfl Tryz.sizeOf3 (by repeat first|exact Swap.here|apply Swap.there) (by omega) ?_
                refine run_end ?_
                exact ⟨(), by repeat (first|exact True.intro|refine And.intro rfl ?_), rfl, _, .refl _, (by repeat (first|exact NS _|exact SR _|apply SCC|apply SC))⟩
              · skip
                refine rs rfl (s_ld rfl rfl Tryz.isAgg35 (.own _ _ _ (by repeat first|exact MH _|apply MT) rfl)) ?_
                refine rs rfl (s_move rfl rfl) ?_
                refine rs rfl (s_ld rfl rfl Tryz.isAgg35 (.own _ _ _ (by repeat first|exact MH _|apply MT) rfl)) ?_
                refine rs rfl (s_move rfl rfl) ?_
                refine rs rfl (s_move rfl rfl) ?_
                refine rs rfl (s_ld rfl rfl Tryz.isAgg3 (.own _ _ _ (by repeat first|exact MH _|apply MT) rfl)) ?_
                refine rs rfl (s_sub rfl rfl rfl (IntWalk.i64_in _ (by omega))) ?_
                refine rs rfl (s_move rfl rfl) ?_
                refine rs rfl (s_sub rfl rfl rfl (IntWalk.i64_in _ (by omega))) ?_
                refine rs rfl (s_ia1 rfl rfl rfl Tryz.underlying35 Tryz.sizeOf3 (by omega) (by omega)) ?_
                refine run_strowM (Value.int .i64) rfl rfl rfl rfl rfl rfl rfl rfl Tryz.sizeOf3 (by repeat first|exact Swap.here|apply Swap.there) (by omega) ?_
                refine rs rfl (s_ld rfl rfl Tryz.isAgg3 (.own _ _ _ (by repeat first|exact MH _|apply MT) rfl)) ?_
                refine rs rfl (s_sub rfl rfl rfl (IntWalk.i64_in _ (by omega))) ?_
                refine rs rfl (s_sub rfl rfl rfl (IntWalk.i64_in _ (by omega))) ?_
                refine rs rfl (s_ia1 rfl rfl rfl Tryz.underlying35 Tryz.sizeOf3 (by omega) (by omega)) ?_
                refine run_strowM (Value.int .i64) rfl rfl rfl rfl rfl rfl rfl rfl Tryz.sizeOf3 (by repeat first|exact Swap.here|apply Swap.there) (by omega) ?_
                refine run_end ?_
                exact ⟨(), by repeat (first|exact True.intro|refine And.intro rfl ?_), rfl, _, .refl _, (by repeat (first|exact NS _|exact SR _|apply SCC|apply SC))⟩
              · skip
                refine rs rfl (s_ld rfl rfl Tryz.isAgg35 (.own _ _ _ (by repeat first|exact MH _|apply MT) rfl)) ?_
                refine rs rfl (s_move rfl rfl) ?_
                refine rs rfl (s_move rfl rfl) ?_
                refine rs rfl (s_move rfl rfl) ?_
                refine rs rfl (s_ld rfl rfl Tryz.isAgg3 (.own _ _ _ (by repeat first|exact MH _|apply MT) rfl)) ?_
                refine rs rfl (s_sub rfl rfl rfl (IntWalk.i64_in _ (by omega))) ?_
                refine rs rfl (s_move rfl rfl) ?_
                refine rs rfl (s_sub rfl rfl rfl (IntWalk.i64_in _ (by omega))) ?_
                refine rs rfl (s_ia1 rfl rfl rfl Tryz.underlying35 Tryz.sizeOf3 (by omega) (by omega)) ?_
                refine run_strowM (Value.int .i64) rfl rfl rfl rfl rfl rfl rfl rfl Tryz.sizeOf3 (by repeat first|exact Swap.here|apply Swap.there) (by omega) ?_
                refine rs rfl (s_ld rfl rfl Tryz.isAgg35 (.own _ _ _ (by repeat first|exact MH _|apply MT) rfl)) ?_
                refine rs rfl (s_ld rfl rfl Tryz.isAgg3 (.own _ _ _ (by repeat first|exact MH _|apply MT) rfl)) ?_
                refine rs rfl (s_sub rfl rfl rfl (IntWalk.i64_in _ (by omega))) ?_
                refine rs rfl (s_sub rfl rfl rfl (IntWalk.i64_in _ (by omega))) ?_
                refine rs rfl (s_ia1 rfl rfl rfl Tryz.underlying35 Tryz.sizeOf3 (by omega) (by omega)) ?_
                refine run_strowM (Value.int .i64) rfl rfl rfl rfl rfl rfl rfl rfl Tryz.sizeOf3 (by repeat first|exact Swap.here|apply Swap.there) (by omega) ?_
                refine run_end ?_
                exact ⟨(), by repeat (first|exact True.intro|refine And.intro rfl ?_), rfl, _, .refl _, (by repeat (first|exact NS _|exact SR _|apply SCC|apply SC))⟩
              · skip
                refine rs rfl (s_ld rfl rfl Tryz.isAgg35 (.own _ _ _ (by repeat first|exact MH _|apply MT) rfl)) ?_
                refine rs rfl (s_move rfl rfl) ?_
                refine rs rfl (s_ld rfl rfl Tryz.isAgg35 (.own _ _ _ (by repeat first|exact MH _|apply MT) rfl)) ?_
                refine rs rfl (s_ld rfl rfl Tryz.isAgg3 (.own _ _ _ (by repeat first|exact MH _|apply MT) rfl)) ?_
                refine rs rfl (s_sub rfl rfl rfl (IntWalk.i64_in _ (by omega))) ?_
                refine rs rfl (s_move rfl rfl) ?_
                refine rs rfl (s_sub rfl rfl rfl (IntWalk.i64_in _ (by omega))) ?_
                refine rs rfl (s_move rfl rfl) ?_
                refine rs rfl (s_move rfl rfl) ?_
                refine rs rfl (s_ia1 rfl rfl rfl Tryz.underlying35 Tryz.sizeOf3 (by omega) (by omega)) ?_
                refine run_strowM (Value.int .i64) rfl rfl rfl rfl rfl rfl rfl rfl Tryz.sizeOf3 (by repeat first|exact Swap.here|apply Swap.there) (by omega) ?_
                refine rs rfl (s_ld rfl rfl Tryz.isAgg3 (.own _ _ _ (by repeat first|exact MH _|apply MT) rfl)) ?_
                refine rs rfl (s_sub rfl rfl rfl (IntWalk.i64_in _ (by omega))) ?_
                refine rs rfl (s_sub rfl rfl rfl (IntWalk.i64_in _ (by omega))) ?_
                refine rs rfl (s_ia1 rfl rfl rfl Tryz.underlying35 Tryz.sizeOf3 (by omega) (by omega)) ?_
                refine run_strowM (Value.int .i64) rfl rfl rfl rfl rfl rfl rfl rfl Tryz.sizeOf3 (by repeat first|exact Swap.here|apply Swap.there) (by omega) ?_
                refine run_end ?_
                exact ⟨(), by repeat (first|exact True.intro|refine And.intro rfl ?_), rfl, _, .refl _, (by repeat (first|exact NS _|exact SR _|apply SCC|apply SC))⟩
              · skip
                refine rs rfl (s_ld rfl rfl Tryz.isAgg35 (.own _ _ _ (by repeat first|exact MH _|apply MT) rfl)) ?_
                refine rs rfl (s_move rfl rfl) ?_
                refine rs rfl (s_ld rfl rfl Tryz.isAgg3 (.own _ _ _ (by repeat first|exact MH _|apply MT) rfl)) ?_
                refine rs rfl (s_sub rfl rfl rfl (IntWalk.i64_in _ (by omega))) ?_
                refine rs rfl (s_move rfl rfl) ?_
                refine rs rfl (s_sub rfl rfl rfl (IntWalk.i64_in _ (by omega))) ?_
                refine rs rfl (s_move rfl rfl) ?_
                refine rs rfl (s_move rfl rfl) ?_
                refine rs rfl (s_ia1 rfl rfl rfl Tryz.underlying35 Tryz.sizeOf3 (by omega) (by omega)) ?_
                refine run_strowM (Value.int .i64) rfl rfl rfl rfl rfl rfl rfl rfl Tryz.sizeOf3 (by repeat first|exact Swap.here|apply Swap.there) (by omega) ?_
                refine rs rfl (s_ld rfl rfl Tryz.isAgg35 (.own _ _ _ (by repeat first|exact MH _|apply MT) rfl)) ?_
                refine rs rfl (s_ld rfl rfl Tryz.isAgg3 (.own _ _ _ (by repeat first|exact MH _|apply MT) rfl)) ?_
                refine rs rfl (s_sub rfl rfl rfl (IntWalk.i64_in _ (by omega))) ?_
                refine rs rfl (s_sub rfl rfl rfl (IntWalk.i64_in _ (by omega))) ?_
                refine rs rfl (s_ia1 rfl rfl rfl Tryz.underlying35 Tryz.sizeOf3 (by omega) (by omega)) ?_
                refine run_strowM (Value.int .i64) rfl rfl rfl rfl rfl rfl rfl rfl Tryz.sizeOf3 (by repeat first|exact Swap.here|apply Swap.there) (by omega) ?_
                refine run_end ?_
                exact ⟨(), by repeat (first|exact True.intro|refine And.intro rfl ?_), rfl, _, .refl _, (by repeat (first|exact NS _|exact SR _|apply SCC|apply SC))⟩
              · skip
                refine rs rfl (s_ld rfl rfl Tryz.isAgg35 (.own _ _ _ (by repeat first|exact MH _|apply MT) rfl)) ?_
                refine rs rfl (s_move rfl rfl) ?_
                refine rs rfl (s_ld rfl rfl Tryz.isAgg35 (.own _ _ _ (by repeat first|exact MH _|apply MT) rfl)) ?_
                refine rs rfl (s_move rfl rfl) ?_
                refine rs rfl (s_move rfl rfl) ?_
                refine rs rfl (s_move rfl rfl) ?_
                refine rs rfl (s_ia1 rfl rfl rfl Tryz.underlying35 Tryz.sizeOf3 (by omega) (by omega)) ?_
                refine run_strowM (Value.int .i64) rfl rfl rfl rfl rfl rfl rfl rfl Tryz.sizeOf3 (by repeat first|exact Swap.here|apply Swap.there) (by omega) ?_
                refine rs rfl (s_ld rfl rfl Tryz.isAgg3 (.own _ _ _ (by repeat first|exact MH _|apply MT) rfl)) ?_
                refine rs rfl (s_sub rfl rfl rfl (IntWalk.i64_in _ (by omega))) ?_
                refine rs rfl (s_sub rfl rfl rfl (IntWalk.i64_in _ (by omega))) ?_
                refine rs rfl (s_ld rfl rfl Tryz.isAgg3 (.own _ _ _ (by repeat first|exact MH _|apply MT) rfl)) ?_
                refine rs rfl (s_sub rfl rfl rfl (IntWalk.i64_in _ (by omega))) ?_
                refine rs rfl (s_sub rfl rfl rfl (IntWalk.i64_in _ (by omega))) ?_
                refine rs rfl (s_ia1 rfl rfl rfl Tryz.underlying35 Tryz.sizeOf3 (by omega) (by omega)) ?_
                refine run_strowM (Value.int .i64) rfl rfl rfl rfl rfl rfl rfl rfl Tryz.sizeOf3 (by repeat first|exact Swap.here|apply Swap.there) (by omega) ?_
                refine run_end ?_
                exact ⟨(), by repeat (first|exact True.intro|refine And.intro rfl ?_), rfl, _, .refl _, (by repeat (first|exact NS _|exact SR _|apply SCC|apply SC))⟩
              · skip
                refine rs rfl (s_ld rfl rfl Tryz.isAgg35 (.own _ _ _ (by repeat first|exact MH _|apply MT) rfl)) ?_
                refine rs rfl (s_move rfl rfl) ?_
                refine rs rfl (s_move rfl rfl) ?_
                refine rs rfl (s_move rfl rfl) ?_
                refine rs rfl (s_move rfl rfl) ?_
                refine rs rfl (s_ia1 rfl rfl rfl Tryz.underlying35 Tryz.sizeOf3 (by omega) (by omega)) ?_
                refine run_strowM (Value.int .i64) rfl rfl rfl rfl rfl rfl rfl rfl Tryz.sizeOf3 (by repeat first|exact Swap.here|apply Swap.there) (by omega) ?_
                refine rs rfl (s_ld rfl rfl Tryz.isAgg35 (.own _ _ _ (by repeat first|exact MH _|apply MT) rfl)) ?_
                refine rs rfl (s_ld rfl rfl Tryz.isAgg3 (.own _ _ _ (by repeat first|exact MH _|apply MT) rfl)) ?_
                refine rs rfl (s_sub rfl rfl rfl (IntWalk.i64_in _ (by omega))) ?_
                refine rs rfl (s_sub rfl rfl rfl (IntWalk.i64_in _ (by omega))) ?_
                refine rs rfl (s_ld rfl rfl Tryz.isAgg3 (.own _ _ _ (by repeat first|exact MH _|apply MT) rfl)) ?_
                refine rs rfl (s_sub rfl rfl rfl (IntWalk.i64_in _ (by omega))) ?_
                refine rs rfl (s_sub rfl rfl rfl (IntWalk.i64_in _ (by omega))) ?_
                refine rs rfl (s_ia1 rfl rfl rfl Tryz.underlying35 Tryz.sizeOf3 (by omega) (by omega)) ?_
                refine run_strowM (Value.int .i64) rfl rfl rfl rfl rfl rfl rfl rfl Tryz.sizeOf3 (by repeat first|exact Swap.here|apply Swap.there) (by omega) ?_
                refine run_end ?_
                exact ⟨(), by repeat (first|exact True.intro|refine And.intro rfl ?_), rfl, _, .refl _, (by repeat (first|exact NS _|exact SR _|apply SCC|apply SC))⟩
            intro _
            repeat refine wp_seq' ?_
            refine (wp_cutP (fun _ : Unit => ⟨[(7, .int .i64 x), (18, .int .i64 x), (17, .int .i64 n), (5, .pointer (some ⟨b8, 0, none⟩)), (4, .pointer (some ⟨bu, 0, none⟩)), (3, .pointer (some ⟨bq, 0, none⟩)), (2, .pointer (some ⟨b5, 0, none⟩)), (1, .pointer (some ⟨b1, 0, none⟩)), (0, .int .i64 k)], h1, rcL n m b1 b5 bq rq bu ru b8 ((q1.set k x).set (opp n k).toNat (opp n x)) ((u1.set x true).set (opp n x).toNat true) kvs1⟩) [(2, 8), (3, 8)] [[0, 1, 2, 3, 4, 5, 6, 7, 8, 9, 10], [0, 1, 3, 4, 5, 6, 7, 8, 2, 9, 10], [0, 1, 2, 5, 7, 8, 3, 4, 6, 9, 10], [0, 1, 5, 7, 8, 2, 3, 4, 6, 9, 10]] (fun _ => rfl) rfl (by kernel_rfl) ?_ ?_)
            · intro l hl
              simp only [List.mem_cons, List.not_mem_nil, or_false] at hl
              rcases hl with rfl | rfl | rfl | rfl
              · skip
                refine rs rfl (s_ld rfl rfl Tryz.isAgg108 (.own _ _ _ (by repeat first|exact MH _|apply MT) rfl)) ?_
                refine rs rfl (s_move rfl rfl) ?_
                refine rs rfl (s_ld rfl rfl Tryz.isAgg108 (.own _ _ _ (by repeat first|exact MH _|apply MT) rfl)) ?_
                refine rs rfl (s_ld rfl rfl Tryz.isAgg3 (.own _ _ _ (by repeat first|exact MH _|apply MT) rfl)) ?_
                refine rs rfl (s_sub rfl rfl rfl (IntWalk.i64_in _ (by omega))) ?_
                refine rs rfl (s_move rfl rfl) ?_
                refine rs rfl (s_sub rfl rfl rfl (IntWalk.i64_in _ (by omega))) ?_
                refine rs rfl (s_ia1 rfl rfl rfl Tryz.underlying108 Tryz.sizeOf4 (by omega) (by omega)) ?_
                refine run_strowM Value.bool rfl rfl rfl rfl rfl rfl rfl rfl Tryz.sizeOf4 (by repeat first|exact Swap.here|apply Swap.there) (by omega) ?_
                refine rs rfl (s_ia1 rfl rfl rfl Tryz.underlying108 Tryz.sizeOf4 (by omega) (by omega)) ?_
                refine run_strowM Value.bool rfl rfl rfl rfl rfl rfl rfl rfl Tryz.sizeOf4 (by repeat first|exact Swap.here|apply Swap.there) (by omega) ?_
                refine run_end ?_
                exact ⟨(), by repeat (first|exact True.intro|refine And.intro rfl ?_), rfl, _, .refl _, (by repeat (first|exact NS _|exact SR _|apply SCC|apply SC))⟩
              · skip
                refine rs rfl (s_ld rfl rfl Tryz.isAgg108 (.own _ _ _ (by repeat first|exact MH _|apply MT) rfl)) ?_
                refine rs rfl (s_move rfl rfl) ?_
                refine rs rfl (s_ld rfl rfl Tryz.isAgg3 (.own _ _ _ (by repeat first|exact MH _|apply MT) rfl)) ?_
                refine rs rfl (s_sub rfl rfl rfl (IntWalk.i64_in _ (by omega))) ?_
                refine rs rfl (s_move rfl rfl) ?_
                refine rs rfl (s_sub rfl rfl rfl (IntWalk.i64_in _ (by omega))) ?_
                refine rs rfl (s_ia1 rfl rfl rfl Tryz.underlying108 Tryz.sizeOf4 (by omega) (by omega)) ?_
                refine run_strowM Value.bool rfl rfl rfl rfl rfl rfl rfl rfl Tryz.sizeOf4 (by repeat first|exact Swap.here|apply Swap.there) (by omega) ?_
                refine rs rfl (s_ld rfl rfl Tryz.isAgg108 (.own _ _ _ (by repeat first|exact MH _|apply MT) rfl)) ?_
                refine rs rfl (s_ia1 rfl rfl rfl Tryz.underlying108 Tryz.sizeOf4 (by omega) (by omega)) ?_
                refine run_strowM Value.bool rfl rfl rfl rfl rfl rfl rfl rfl Tryz.sizeOf4 (by repeat first|exact Swap.here|apply Swap.there) (by omega) ?_
                refine run_end ?_
                exact ⟨(), by repeat (first|exact True.intro|refine And.intro rfl ?_), rfl, _, .refl _, (by repeat (first|exact NS _|exact SR _|apply SCC|apply SC))⟩
              · skip
                refine rs rfl (s_ld rfl rfl Tryz.isAgg108 (.own _ _ _ (by repeat first|exact MH _|apply MT) rfl)) ?_
                refine rs rfl (s_move rfl rfl) ?_
                refine rs rfl (s_ld rfl rfl Tryz.isAgg108 (.own _ _ _ (by repeat first|exact MH _|apply MT) rfl)) ?_
                refine rs rfl (s_move rfl rfl) ?_
                refine rs rfl (s_ia1 rfl rfl rfl Tryz.underlying108 Tryz.sizeOf4 (by omega) (by omega)) ?_
                refine run_strowM Value.bool rfl rfl rfl rfl rfl rfl rfl rfl Tryz.sizeOf4 (by repeat first|exact Swap.here|apply Swap.there) (by omega) ?_
                refine rs rfl (s_ld rfl rfl Tryz.isAgg3 (.own _ _ _ (by repeat first|exact MH _|apply MT) rfl)) ?_
                refine rs rfl (s_sub rfl rfl rfl (IntWalk.i64_in _ (by omega))) ?_
                refine rs rfl (s_sub rfl rfl rfl (IntWalk.i64_in _ (by omega))) ?_
                refine rs rfl (s_ia1 rfl rfl rfl Tryz.underlying108 Tryz.sizeOf4 (by omega) (by omega)) ?_
                refine run_strowM Value.bool rfl rfl rfl rfl rfl rfl rfl rfl Tryz.sizeOf4 (by repeat first|exact Swap.here|apply Swap.there) (by omega) ?_
                refine run_end ?_
                exact ⟨(), by repeat (first|exact True.intro|refine And.intro rfl ?_), rfl, _, .refl _, (by repeat (first|exact NS _|exact SR _|apply SCC|apply SC))⟩
              · skip
                refine rs rfl (s_ld rfl rfl Tryz.isAgg108 (.own _ _ _ (by repeat first|exact MH _|apply MT) rfl)) ?_
                refine rs rfl (s_move rfl rfl) ?_
                refine rs rfl (s_move rfl rfl) ?_
                refine rs rfl (s_ia1 rfl rfl rfl Tryz.underlying108 Tryz.sizeOf4 (by omega) (by omega)) ?_
                refine run_strowM Value.bool rfl rfl rfl rfl rfl rfl rfl rfl Tryz.sizeOf4 (by repeat first|exact Swap.here|apply Swap.there) (by omega) ?_
                refine rs rfl (s_ld rfl rfl Tryz.isAgg108 (.own _ _ _ (by repeat first|exact MH _|apply MT) rfl)) ?_
                refine rs rfl (s_ld rfl rfl Tryz.isAgg3 (.own _ _ _ (by repeat first|exact MH _|apply MT) rfl)) ?_
                refine rs rfl (s_sub rfl rfl rfl (IntWalk.i64_in _ (by omega))) ?_
                refine rs rfl (s_sub rfl rfl rfl (IntWalk.i64_in _ (by omega))) ?_
                refine rs rfl (s_ia1 rfl rfl rfl Tryz.underlying108 Tryz.sizeOf4 (by omega) (by omega)) ?_
                refine run_strowM Value.bool rfl rfl rfl rfl rfl rfl rfl rfl Tryz.sizeOf4 (by repeat first|exact Swap.here|apply Swap.there) (by omega) ?_
                refine run_end ?_
                exact ⟨(), by repeat (first|exact True.intro|refine And.intro rfl ?_), rfl, _, .refl _, (by repeat (first|exact NS _|exact SR _|apply SCC|apply SC))⟩
            intro _
            repeat refine wp_seq' ?_
            refine wp_text rfl ?_
            refine rs rfl (s_ld rfl rfl Tryz.isAgg169 (.own _ _ _ (by repeat first|exact MH _|apply MT) rfl)) ?_
            refine rs rfl (s_move rfl rfl) ?_
            refine rs rfl (s_add (q := ((k + 1 : Nat) : Int)) rfl rfl rfl (by rw [show (k : Int) + 1 = ((k + 1 : Nat) : Int) from rfl]; exact IntWalk.i64_in _ (by omega))) ?_
            refine run_callM (L := rcL n m b1 b5 bq rq bu ru b8 (rcIn n k x (q1, u1, kvs1.map (·.2))).1 (rcIn n k x (q1, u1, kvs1.map (·.2))).2.1 kvs1) (M := []) (vs := [_]) rfl rfl rfl (dst_lt rfl rfl) rfl rfl en149 (List.Perm.refl _) (ih (k + 1) (by omega) _ _ kvs1 h1 hin hks1) ?_
            rintro r64 h2 _ ⟨q2, u2, kvs2, rfl, hks2, hgo⟩ hh2
            refine run_end ?_
            have hok2 := RcOk.go hn (f := f) (k := k + 1) hin
            rw [show rcIn n k x (q1, u1, kvs1.map (·.2)) = ((rcIn n k x (q1, u1, kvs1.map (·.2))).1, (rcIn n k x (q1, u1, kvs1.map (·.2))).2.1, kvs1.map (·.2)) from rfl, ← hgo] at hok2 hst
            have hul2 := hok2.u
            dsimp only at hul2
            repeat refine wp_seq' ?_
            refine (wp_cutP (fun _ : Unit => ⟨[(7, .int .i64 x), (18, .int .i64 x), (17, .int .i64 n), (5, .pointer (some ⟨b8, 0, none⟩)), (4, .pointer (some ⟨bu, 0, none⟩)), (3, .pointer (some ⟨bq, 0, none⟩)), (2, .pointer (some ⟨b5, 0, none⟩)), (1, .pointer (some ⟨b1, 0, none⟩)), (0, .int .i64 k)], h2, rcL n m b1 b5 bq rq bu ru b8 q2 ((u2.set x false).set (opp n x).toNat false) kvs2⟩) [(2, 8), (3, 8)] [[0, 1, 2, 3, 4, 5, 6, 7, 8, 9, 10], [0, 1, 3, 4, 5, 6, 7, 8, 2, 9, 10], [0, 1, 2, 5, 7, 8, 3, 4, 6, 9, 10], [0, 1, 5, 7, 8, 2, 3, 4, 6, 9, 10]] (fun _ => rfl) rfl (by kernel_rfl) ?_ ?_)
            · intro l hl
              simp only [List.mem_cons, List.not_mem_nil, or_false] at hl
              rcases hl with rfl | rfl | rfl | rfl
              · skip
                refine rs rfl (s_ld rfl rfl Tryz.isAgg108 (.own _ _ _ (by repeat first|exact MH _|apply MT) rfl)) ?_
                refine rs rfl (s_move rfl rfl) ?_
                refine rs rfl (s_ld rfl rfl Tryz.isAgg108 (.own _ _ _ (by repeat first|exact MH _|apply MT) rfl)) ?_
                refine rs rfl (s_ld rfl rfl Tryz.isAgg3 (.own _ _ _ (by repeat first|exact MH _|apply MT) rfl)) ?_
                refine rs rfl (s_sub rfl rfl rfl (IntWalk.i64_in _ (by omega))) ?_
                refine rs rfl (s_move rfl rfl) ?_
                refine rs rfl (s_sub rfl rfl rfl (IntWalk.i64_in _ (by omega))) ?_
                refine rs rfl (s_ia1 rfl rfl rfl Tryz.underlying108 Tryz.sizeOf4 (by omega) (by omega)) ?_
                refine run_strowM Value.bool rfl rfl rfl rfl rfl rfl rfl rfl Tryz.sizeOf4 (by repeat first|exact Swap.here|apply Swap.there) (by omega) ?_
                refine rs rfl (s_ia1 rfl rfl rfl Tryz.underlying108 Tryz.sizeOf4 (by omega) (by omega)) ?_
                refine run_strowM Value.bool rfl rfl rfl rfl rfl rfl rfl rfl Tryz.sizeOf4 (by repeat first|exact Swap.here|apply Swap.there) (by omega) ?_
                refine run_end ?_
                exact ⟨(), by repeat (first|exact True.intro|refine And.intro rfl ?_), rfl, _, .refl _, (by repeat (first|exact NS _|exact SR _|apply SCC|apply SC))⟩
              · skip
                refine rs rfl (s_ld rfl rfl Tryz.isAgg108 (.own _ _ _ (by repeat first|exact MH _|apply MT) rfl)) ?_
                refine rs rfl (s_move rfl rfl) ?_
                refine rs rfl (s_ld rfl rfl Tryz.isAgg3 (.own _ _ _ (by repeat first|exact MH _|apply MT) rfl)) ?_
                refine rs rfl (s_sub rfl rfl rfl (IntWalk.i64_in _ (by omega))) ?_
                refine rs rfl (s_move rfl rfl) ?_
                refine rs rfl (s_sub rfl rfl rfl (IntWalk.i64_in _ (by omega))) ?_
                refine rs rfl (s_ia1 rfl rfl rfl Tryz.underlying108 Tryz.sizeOf4 (by omega) (by omega)) ?_
                refine run_strowM Value.bool rfl rfl rfl rfl rfl rfl rfl rfl Tryz.sizeOf4 (by repeat first|exact Swap.here|apply Swap.there) (by omega) ?_
                refine rs rfl (s_ld rfl rfl Tryz.isAgg108 (.own _ _ _ (by repeat first|exact MH _|apply MT) rfl)) ?_
                refine rs rfl (s_ia1 rfl rfl rfl Tryz.underlying108 Tryz.sizeOf4 (by omega) (by omega)) ?_
                refine run_strowM Value.bool rfl rfl rfl rfl rfl rfl rfl rfl Tryz.sizeOf4 (by repeat first|exact Swap.here|apply Swap.there) (by omega) ?_
                refine run_end ?_
                exact ⟨(), by repeat (first|exact True.intro|refine And.intro rfl ?_), rfl, _, .refl _, (by repeat (first|exact NS _|exact SR _|apply SCC|apply SC))⟩
              · skip
                refine rs rfl (s_ld rfl rfl Tryz.isAgg108 (.own _ _ _ (by repeat first|exact MH _|apply MT) rfl)) ?_
                refine rs rfl (s_move rfl rfl) ?_
                refine rs rfl (s_ld rfl rfl Tryz.isAgg108 (.own _ _ _ (by repeat first|exact MH _|apply MT) rfl)) ?_
                refine rs rfl (s_move rfl rfl) ?_
                refine rs rfl (s_ia1 rfl rfl rfl Tryz.underlying108 Tryz.sizeOf4 (by omega) (by omega)) ?_
                refine run_strowM Value.bool rfl rfl rfl rfl rfl rfl rfl rfl Tryz.sizeOf4 (by repeat first|exact Swap.here|apply Swap.there) (by omega) ?_
                refine rs rfl (s_ld rfl rfl Tryz.isAgg3 (.own _ _ _ (by repeat first|exact MH _|apply MT) rfl)) ?_
                refine rs rfl (s_sub rfl rfl rfl (IntWalk.i64_in _ (by omega))) ?_
                refine rs rfl (s_sub rfl rfl rfl (IntWalk.i64_in _ (by omega))) ?_
                refine rs rfl (s_ia1 rfl rfl rfl Tryz.underlying108 Tryz.sizeOf4 (by omega) (by omega)) ?_
                refine run_strowM Value.bool rfl rfl rfl rfl rfl rfl rfl rfl Tryz.sizeOf4 (by repeat first|exact Swap.here|apply Swap.there) (by omega) ?_
                refine run_end ?_
                exact ⟨(), by repeat (first|exact True.intro|refine And.intro rfl ?_), rfl, _, .refl _, (by repeat (first|exact NS _|exact SR _|apply SCC|apply SC))⟩
              · skip
                refine rs rfl (s_ld rfl rfl Tryz.isAgg108 (.own _ _ _ (by repeat first|exact MH _|apply MT) rfl)) ?_
                refine rs rfl (s_move rfl rfl) ?_
                refine rs rfl (s_move rfl rfl) ?_
                refine rs rfl (s_ia1 rfl rfl rfl Tryz.underlying108 Tryz.sizeOf4 (by omega) (by omega)) ?_
                refine run_strowM Value.bool rfl rfl rfl rfl rfl rfl rfl rfl Tryz.sizeOf4 (by repeat first|exact Swap.here|apply Swap.there) (by omega) ?_
                refine rs rfl (s_ld rfl rfl Tryz.isAgg108 (.own _ _ _ (by repeat first|exact MH _|apply MT) rfl)) ?_
                refine rs rfl (s_ld rfl rfl Tryz.isAgg3 (.own _ _ _ (by repeat first|exact MH _|apply MT) rfl)) ?_
                refine rs rfl (s_sub rfl rfl rfl (IntWalk.i64_in _ (by omega))) ?_
                refine rs rfl (s_sub rfl rfl rfl (IntWalk.i64_in _ (by omega))) ?_
                refine rs rfl (s_ia1 rfl rfl rfl Tryz.underlying108 Tryz.sizeOf4 (by omega) (by omega)) ?_
                refine run_strowM Value.bool rfl rfl rfl rfl rfl rfl rfl rfl Tryz.sizeOf4 (by repeat first|exact Swap.here|apply Swap.there) (by omega) ?_
                refine run_end ?_
                exact ⟨(), by repeat (first|exact True.intro|refine And.intro rfl ?_), rfl, _, .refl _, (by repeat (first|exact NS _|exact SR _|apply SCC|apply SC))⟩
            intro _
            refine wp_text rfl ?_
            refine rs rfl (s_add rfl rfl rfl (IntWalk.i64_in _ (by omega))) ?_
            refine rs rfl (s_move rfl rfl) ?_
            refine run_end ?_
            exact ⟨(h2, x + 1, q2, (u2.set x false).set (opp n x).toNat false, kvs2), ⟨⟨by dsimp only; omega, hks2⟩, hst.symm⟩, by dsimp only; omega, ⟨by repeat (first|exact True.intro|refine And.intro rfl ?_), rfl, by repeat (first|exact NS _|exact SR _|apply SCC|apply SC)⟩⟩
      · skip
        refine wp_exit' ?_
        obtain rfl : x = n := by omega
        exact finM_end (rcL x m b1 b5 bq rq bu ru b8 q1 u1 kvs1) (res_none rfl) ⟨_, .refl _, .refl _⟩ ⟨q1, u1, kvs1, rfl, hks1, hto⟩
theorem Pick.tail {x : Own} {L L' T : List Own} (p : Pick x L L') (k : L'.Perm T) : L.Perm (x :: T) := p.perm.trans (k.cons x)
def rc0 (N : Nat) : RcSt := (List.replicate N 0, List.replicate N false, [])
def rcAll (N : Nat) : List Sy := (rcGo N ((N + 1) / 2) 0 (rc0 N)).2.2
def rcI (n : Int) : Int := firstI [ordI n, whenI (decide (10 ≤ n)) 5]
def rcO (n : Int) : List Sy × Int := if rcI n ≠ 0 then ([], rcI n) else (sorted symLt (rcAll n.toNat), 0)
theorem rcI_zero {n : Int} (h : rcI n = 0) : 1 ≤ n ∧ n ≤ 9 := by
  simp only [rcI, firstI_zero, List.mem_cons, List.not_mem_nil, or_false, forall_eq_or_imp, forall_eq, whenI_zero (show (5 : Int) ≠ 0 by decide), decide_eq_false_iff_not] at h
  have := ordI_zero h.1
  omega
theorem rc0_ok {N : Nat} (h : 1 ≤ N) : RcOk N (rc0 N) := ⟨by simp [rc0], by simp [rc0], fun x hx => by
  obtain ⟨_, rfl⟩ := List.mem_replicate.1 hx
  omega, (fun a ha => by cases ha), List.nodup_nil⟩
theorem rcAll_len {N : Nat} (h1 : 1 ≤ N) (h : N ≤ 9) : (rcAll N).length ≤ 59049 := by
  have h2 := rcGo_len N ((N + 1) / 2) 0 (rc0 N)
  have h3 : N ^ ((N + 1) / 2) ≤ 9 ^ 5 := Nat.le_trans (Nat.pow_le_pow_left h _) (Nat.pow_le_pow_right (by decide) (by omega))
  have h4 : (rc0 N).2.2.length = 0 := rfl
  unfold rcAll
  omega
set_option maxRecDepth 8000 in
set_option maxHeartbeats 4000000 in
theorem rowColumn_fn (n : Int) (h : H) : Fn Tryz.prog 68 #[.int .i64 n] h fun r h' => ∃ sv, r = .tuple #[sv, .int .i64 (rcO n).2] ∧ RdS h' sv (rcO n).1 := by
  refine fn_of (vs := [.int .i64 n]) Tryz.func68 rfl Tryz.ntmps68 (Nat.le_of_ble_eq_true rfl) fun w hw => ?_
  repeat refine wp_seq' ?_
  refine wp_text rfl ?_
  refine run_box rfl rfl rfl rfl rfl rfl rfl fun b1 => ?_
  refine rs rfl (s_assign rfl rfl) ?_
  refine rs rfl (s_assign rfl rfl) ?_
  refine run_end ?_
  repeat refine wp_seq' ?_
  refine wp_any [0, 2, 3, 1, 4, 5, 6, 7] rfl (by kernel_rfl) ?_
  refine rs rfl (s_ld rfl rfl Tryz.isAgg3 (.own _ _ _ (by repeat first|exact MH _|apply MT) rfl)) ?_
  refine rs rfl (s_ld rfl rfl Tryz.isAgg3 (.own _ _ _ (by repeat first|exact MH _|apply MT) rfl)) ?_
  refine rs rfl (s_ge rfl rfl rfl) ?_
  refine run_callv (vs := [_]) rfl rfl rfl rfl rfl rfl en145 (checkOrder_fn _ _) ?_
  refine run_callv (vs := [_, _]) rfl rfl rfl rfl rfl rfl en96 (when_fn _ _ _) ?_
  refine run_bsl (parts := [_, _]) (vs := [_, _]) rfl rfl rfl rfl rfl rfl (bs178_2 _ _) fun b10 h10 hh10 hb10 => ?_
  have hr10 := rdI_of (xs := [_, _]) hb10 rfl rfl (Nat.le_of_ble_eq_true rfl)
  refine run_callv (vs := [_]) rfl rfl rfl rfl rfl rfl en94 (first_fn _ _ _ hr10) ?_
  refine rs rfl (s_assign rfl rfl) ?_
  refine run_end ?_
  rw [show firstI [ordI n, whenI (decide (10 ≤ n)) 5] = rcI n from rfl]
  repeat refine wp_seq' ?_
  refine wp_text rfl ?_
  refine rs rfl (s_move rfl rfl) ?_
  refine rs rfl (s_ne rfl rfl rfl) ?_
  refine run_end ?_
  repeat refine wp_seq' ?_
  refine wp_if' rfl (fun hc17 => ?_) (fun hc17 => ?_)
  · skip
    repeat refine wp_seq' ?_
    refine wp_text rfl ?_
    refine rs rfl (s_move rfl rfl) ?_
    refine rs rfl (s_assign rfl rfl) ?_
    refine rs rfl (s_assign rfl rfl) ?_
    refine run_end ?_
    refine wp_ret' ?_
    refine fin_ret (res_tt rfl rfl rfl) ?_
    rw [rcO, if_pos hc17]
    exact ⟨_, rfl, RdS.nil _ 0⟩
  · skip
    refine wp_skip' ?_
    have ho := rcI_zero (Decidable.not_not.1 hc17)
    obtain ⟨N, rfl⟩ := Int.eq_ofNat_of_zero_le (show 0 ≤ n by omega)
    have hN1 : 1 ≤ N := by omega
    have hN9 : N ≤ 9 := by omega
    have hO : rcO N = (sorted symLt (rcAll N), 0) := by rw [rcO, if_neg hc17, Int.toNat_natCast]
    repeat refine wp_seq' ?_
    refine wp_text rfl ?_
    refine run_mkmapO rfl rfl rfl rfl rfl fun m => ?_
    refine run_alloc rfl rfl rfl rfl rfl Tryz.zeroValue115 rfl fun b5 => ?_
    refine run_st rfl rfl rfl rfl rfl rfl rfl rfl Tryz.sizeOf115 (by repeat first|exact Swap.here|apply Swap.there) rfl ?_
    refine run_end ?_
    repeat refine wp_seq' ?_
    refine wp_text rfl ?_
    refine rs rfl (s_ld rfl rfl Tryz.isAgg3 (.own _ _ _ (by repeat first|exact MH _|apply MT) rfl)) ?_
    refine run_mksl rfl rfl rfl rfl rfl rfl rfl Tryz.underlying35 info3 rfl (by omega) (by omega) fun rq => ?_
    refine run_alloc rfl rfl rfl rfl rfl Tryz.zeroValue35 rfl fun bq => ?_
    refine run_st rfl rfl rfl rfl rfl rfl rfl rfl Tryz.sizeOf35 (by repeat first|exact Swap.here|apply Swap.there) rfl ?_
    refine run_end ?_
    repeat refine wp_seq' ?_
    refine wp_text rfl ?_
    refine rs rfl (s_ld rfl rfl Tryz.isAgg3 (.own _ _ _ (by repeat first|exact MH _|apply MT) rfl)) ?_
    refine run_mksl rfl rfl rfl rfl rfl rfl rfl Tryz.underlying108 info4 rfl (by omega) (by omega) fun ru => ?_
    refine run_alloc rfl rfl rfl rfl rfl Tryz.zeroValue108 rfl fun bu => ?_
    refine run_st rfl rfl rfl rfl rfl rfl rfl rfl Tryz.sizeOf108 (by repeat first|exact Swap.here|apply Swap.there) rfl ?_
    refine run_end ?_
    repeat refine wp_seq' ?_
    refine wp_text rfl ?_
    refine run_alloc rfl rfl rfl rfl rfl Tryz.zeroValue169 rfl fun b8 => ?_
    refine run_end ?_
    repeat refine wp_seq' ?_
    refine wp_text rfl ?_
    refine rs rfl (s_mkf (vs := [.pointer (some ⟨b1, 0, none⟩), .pointer (some ⟨b5, 0, none⟩), .pointer (some ⟨bq, 0, none⟩), .pointer (some ⟨bu, 0, none⟩), .pointer (some ⟨b8, 0, none⟩)]) rfl rfl) ?_
    refine run_st rfl rfl rfl rfl rfl rfl rfl rfl Tryz.sizeOf169 (by repeat first|exact Swap.here|apply Swap.there) rfl ?_
    refine run_end ?_
    repeat refine wp_seq' ?_
    refine wp_text rfl ?_
    refine rs rfl (s_ld rfl rfl Tryz.isAgg169 (.own _ _ _ (by repeat first|exact MH _|apply MT) rfl)) ?_
    refine run_callM (L := rcL N m b1 b5 bq rq bu ru b8 (List.replicate N 0) (List.replicate N false) []) (M := []) (vs := [_]) rfl rfl rfl (dst_lt rfl rfl) rfl rfl en149 ?_ (rcChoose_fn N m b1 b5 bq rq bu ru b8 hN1 (by omega) ((N + 1) / 2) 0 (by omega) _ _ [] _ (rc0_ok hN1) (fun p hp => by cases hp)) ?_
    · skip
      simp only [rcL, List.map_replicate, List.append_nil]
      repeat (first | exact List.Perm.refl _ | refine Pick.tail (by repeat first|exact Pick.here|apply Pick.there) ?_)
    rintro r26 h2 _ ⟨q2, u2, kvs2, rfl, hks2, hgo⟩ hh2
    refine run_end ?_
    have hok2 := RcOk.go (n := N) (by omega) (f := (N + 1) / 2) (k := 0) (rc0_ok hN1)
    have hall : kvs2.map (·.2) = rcAll N := congrArg (·.2.2) hgo
    have hlen := rcAll_len hN1 hN9
    rw [← hall, List.length_map] at hlen
    have hnd := hok2.nd
    rw [show (rcGo N ((N + 1) / 2) 0 (rc0 N)).2.2 = rcAll N from rfl, ← hall] at hnd
    refine WP.letObj (b := m) rfl (by repeat first|exact Pick.here|apply Pick.there) fun h5 hh5 hm5 => ?_
    repeat refine wp_seq' ?_
    refine wp_text rfl ?_
    refine rs rfl (s_ld rfl rfl Tryz.isAgg115 (.own _ _ _ (by repeat first|exact MH _|apply MT) rfl)) ?_
    refine run_call (vs := [_]) rfl rfl rfl rfl rfl rfl en99 (glist_fn kvs2 m _ hm5 (hks2.mono hh5) (by omega) hnd) ?_
    intro v28 h6 hv28 hh6
    refine rs rfl (s_assign rfl rfl) ?_
    refine rs rfl (s_assign rfl rfl) ?_
    refine run_end ?_
    refine wp_ret' ?_
    refine fin_ret (res_tt rfl rfl rfl) ?_
    rw [hO]
    rw [hall] at hv28
    exact ⟨_, rfl, hv28⟩
end Go.Tal

set_option linter.unusedSimpArgs false
namespace Go.Tal
open Go.RowKit Go.Proofs _root_.Tal
def outI (lo hi x : Int) : Bool := decide (x < lo) || decide (hi < x)
/-- A slice has room for its length. -/
def CapOk (v : Value) (n : Nat) : Prop := ∃ A c, v = .slice A n c ∧ n ≤ c
theorem RdT.take {h : H} {A : Option Addr} {n c k : Nat} {l : List (List Int)} (r : RdT h (.slice A n c) l) (hk : k ≤ n) (hn : n ≤ c) : RdT h (.slice (if c = 0 then A else A.map (·.add 0)) k c) (l.take k) := by
  obtain ⟨A', c', e, hm, hr⟩ := r
  simp only [Value.slice.injEq] at e
  obtain ⟨rfl, rfl, rfl⟩ := e
  refine ⟨_, c, by rw [List.length_take, Nat.min_eq_left hk], by rw [List.length_take]; omega, fun hp => ?_⟩
  rw [List.length_take] at hp
  obtain ⟨b, o, rfl, arr, t, fz, h1, h2⟩ := hr (by omega)
  refine ⟨b, o, ?_, arr, t, fz, h1, fun j hj => ?_⟩
  · rw [if_neg (by omega)]
    rfl
  · rw [List.length_take] at hj
    obtain ⟨sv, h3, h4⟩ := h2 j (by omega)
    refine ⟨sv, h3, ?_⟩
    rw [List.getD_eq_getElem?_getD] at h4 ⊢
    rw [List.getElem?_take, if_pos (by omega)]
    exact h4
def idxT (p : List Int → Bool) (l : List (List Int)) : Int := if l.any p then (l.findIdx p : Int) else -1
theorem idxT_some {p : List Int → Bool} {l : List (List Int)} {i : Nat} (hi : i < l.length) (hp : p (l.getD i []) = true) (hn : ∀ j, j < i → p (l.getD j []) = false) : idxT p l = i := by
  simp only [List.getD_eq_getElem?_getD, List.getElem?_eq_getElem hi, Option.getD_some] at hp
  have h1 : l.any p = true := List.any_eq_true.2 ⟨_, List.getElem_mem hi, hp⟩
  rw [idxT, if_pos h1, (List.findIdx_eq hi).2 ⟨hp, fun j hj => by have := hn j hj; simpa [List.getD_eq_getElem?_getD, List.getElem?_eq_getElem (show j < l.length by omega)] using this⟩]
theorem idxT_none {p : List Int → Bool} {l : List (List Int)} (hn : ∀ j, j < l.length → p (l.getD j []) = false) : idxT p l = -1 := by
  rw [idxT, if_neg]
  rw [List.any_eq_true]
  rintro ⟨x, hx, hp⟩
  obtain ⟨j, hj, rfl⟩ := List.getElem_of_mem hx
  have := hn j hj
  simp only [List.getD_eq_getElem?_getD, List.getElem?_eq_getElem hj, Option.getD_some] at this
  rw [hp] at this; cases this
theorem idxT_any (p : List Int → Bool) (l : List (List Int)) : decide (0 ≤ idxT p l) = l.any p := by
  unfold idxT
  cases l.any p with
  | true => simp
  | false => simp
theorem en215 : ∀ args w, (callFunc 215 args).run Tryz.prog w = .ok (.enter 215 args) w := enters_of Tryz.func215 (by kernel_rfl) rfl
theorem en217 : ∀ args w, (callFunc 217 args).run Tryz.prog w = .ok (.enter 217 args) w := enters_of Tryz.func217 (by kernel_rfl) rfl
theorem firstI_at {f : Nat → Int} {n k : Nat} (hk : k < n) (h0 : f k ≠ 0) (hn : ∀ j, j < k → f j = 0) : firstI ((List.range n).map f) = f k := by
  have e : (List.range n).map f = (List.range k).map f ++ f k :: ((List.range (n - k - 1)).map fun j => f (k + 1 + j)) := by
    apply List.ext_getElem
    · simp; omega
    · intro j h1 h2
      simp only [List.length_map, List.length_range] at h1
      rw [List.getElem_map, List.getElem_range, List.getElem_append]
      split
      · rw [List.getElem_map, List.getElem_range]
      · rename_i h3
        simp only [List.length_map, List.length_range] at h3 ⊢
        rw [List.getElem_cons]
        split
        · congr 1; omega
        · rw [List.getElem_map, List.getElem_range]; congr 1; omega
  rw [e]
  unfold firstI
  rw [List.find?_append, List.find?_eq_none.2 (fun x hx => by obtain ⟨j, hj, rfl⟩ := List.mem_map.1 hx; simp [hn j (List.mem_range.1 hj)])]
  simp [h0]
theorem firstI_no {f : Nat → Int} {n : Nat} (hn : ∀ j, j < n → f j = 0) : firstI ((List.range n).map f) = 0 := by
  unfold firstI
  rw [List.find?_eq_none.2 (fun x hx => by obtain ⟨j, hj, rfl⟩ := List.mem_map.1 hx; simp [hn j (List.mem_range.1 hj)])]
  rfl
def cellI (n : Int) (l : List Int) (k : Nat) : Int := firstI [whenI (decide (l.getD k 0 < 0) || decide (n ≤ l.getD k 0)) 10, whenI (decide (0 < (k : Int)) && decide (l.getD k 0 ≤ l.getD ((k : Int) - 1).toNat 0)) 11]
def rowI (n : Int) (l : List Int) : Int := firstI ((List.range l.length).map (cellI n l))
def lineI (n : Int) (ls : List (List Int)) (i : Nat) : Int := if ((ls.getD i []).length : Int) = 0 then 12 else if rowI n (ls.getD i []) ≠ 0 then rowI n (ls.getD i []) else whenI ((ls.take i).any fun o => decide (o = ls.getD i [])) 9
def sysI0 (n : Int) (ls : List (List Int)) : Int := firstI [whenI ([n].any (outI 1 256)) 3, whenI (decide (128 < (ls.length : Int))) 5]
def sysI (n : Int) (ls : List (List Int)) : Int := if sysI0 n ls ≠ 0 then sysI0 n ls else firstI ((List.range ls.length).map (lineI n ls))
theorem lineI_row {n : Int} {ls : List (List Int)} {i k : Nat} (h0 : ¬ ((ls.getD i []).length : Int) = 0) (hk : k < (ls.getD i []).length) (hc : cellI n (ls.getD i []) k ≠ 0) (hn : ∀ j, j < k → cellI n (ls.getD i []) j = 0) : lineI n ls i = cellI n (ls.getD i []) k := by
  have e : rowI n (ls.getD i []) = cellI n (ls.getD i []) k := firstI_at hk hc hn
  rw [lineI, if_neg h0, e, if_pos hc]
theorem lineI_end {n : Int} {ls : List (List Int)} {i : Nat} (h0 : ¬ ((ls.getD i []).length : Int) = 0) (hn : ∀ j, j < (ls.getD i []).length → cellI n (ls.getD i []) j = 0) : lineI n ls i = whenI ((ls.take i).any fun o => decide (o = ls.getD i [])) 9 := by
  have e : rowI n (ls.getD i []) = 0 := firstI_no hn
  rw [lineI, if_neg h0, e, if_neg (by simp)]
theorem RdI.cs {h : H} {v : Value} {xs : List Int} (r : RdI h v xs) : v.cells = #[v] := by
  obtain ⟨A, c, e, _⟩ := r
  subst e
  rfl
theorem en216 : ∀ args w, (callFunc 216 args).run Tryz.prog w = .ok (.enter 216 args) w := enters_of Tryz.func216 (by kernel_rfl) rfl
set_option maxRecDepth 8000 in
theorem first2_fn (l : List Int) (v : Value) (h : H) (hl : RdI h v l) : FnV Tryz.prog 165 #[v] h (.int .i64 (firstI l)) := by
  have hlm := hl.len
  refine fn_of (vs := [v]) Tryz.func165 rfl Tryz.ntmps165 (Nat.le_of_ble_eq_true rfl) fun w hw => ?_
  refine wp_seq' ?_
  refine wp_text rfl ?_
  refine rs rfl (s_assign rfl rfl) ?_
  refine run_end ?_
  refine wp_seq' ?_
  refine wp_seq' ?_
  refine wp_text rfl ?_
  refine rs rfl (s_move rfl rfl) ?_
  refine rs rfl (s_lenI hl rfl rfl Tryz.underlying178) ?_
  refine rs rfl (s_move rfl rfl) ?_
  refine run_end ?_
  refine wp_block' ?_
  refine wp_loop' (fun i : Nat => i ≤ l.length ∧ firstI (l.drop i) = firstI l) (fun i => ⟨[(7, .int .i64 i), (6, .int .i64 l.length), (5, v)], h, []⟩) (fun i => l.length - i) 0 ⟨Nat.zero_le _, by simp⟩ ⟨by repeat (first|exact True.intro|refine And.intro rfl ?_), rfl, by repeat (first|exact NS _|exact SR _|apply SCC|apply SC)⟩ fun i hi => ?_
  obtain ⟨hi, hp⟩ := hi
  refine wp_seq' ?_
  refine wp_text rfl ?_
  refine rs rfl (s_lt rfl rfl rfl) ?_
  refine run_end ?_
  refine wp_seq' ?_
  refine wp_if' rfl (fun hc8 => ?_) (fun hc8 => ?_)
  · skip
    refine wp_skip' ?_
    refine wp_seq' ?_
    refine wp_block' ?_
    refine wp_seq' ?_
    refine wp_text rfl ?_
    refine rs rfl (s_iaI hl (by omega) (by omega) rfl rfl rfl Tryz.underlying178 Tryz.sizeOf27) ?_
    refine rs rfl (s_ldI hl (by omega) (by omega) rfl rfl Tryz.isAgg27) ?_
    try simp only [Int.toNat_natCast]
    refine rs rfl (s_assign rfl rfl) ?_
    refine run_end ?_
    refine wp_seq' ?_
    refine wp_text rfl ?_
    refine rs rfl (s_move rfl rfl) ?_
    refine rs rfl (s_ne rfl rfl rfl) ?_
    refine run_end ?_
    refine wp_if' rfl (fun hc12 => ?_) (fun hc12 => ?_)
    · skip
      refine wp_seq' ?_
      refine wp_text rfl ?_
      refine rs rfl (s_move rfl rfl) ?_
      refine rs rfl (s_assign rfl rfl) ?_
      refine run_end ?_
      refine wp_ret' ?_
      exact fin_ret (res_tmp rfl rfl) (by rw [← hp, firstI_drop (i := i) (by omega), if_neg hc12])
    · skip
      refine wp_skip' ?_
      refine wp_text rfl ?_
      refine rs rfl (s_add rfl rfl rfl (IntWalk.i64_in _ (by omega))) ?_
      refine rs rfl (s_move rfl rfl) ?_
      refine run_end ?_
      exact ⟨i + 1, ⟨by omega, by rw [← hp, firstI_drop (i := i) (by omega), if_pos (Decidable.not_not.1 hc12)]⟩, by omega, ⟨by repeat (first|exact True.intro|refine And.intro rfl ?_), rfl, by repeat (first|exact NS _|exact SR _|apply SCC|apply SC)⟩⟩
  · skip
    refine wp_exit' ?_
    refine wp_seq' ?_
    refine wp_text rfl ?_
    refine rs rfl (s_assign rfl rfl) ?_
    refine run_end ?_
    refine wp_ret' ?_
    exact fin_ret (res_tmp rfl rfl) (by rw [← hp, List.drop_eq_nil_of_le (by omega)]; rfl)
set_option maxRecDepth 8000 in
theorem when2_fn (b : Bool) (e : Int) (h : H) : FnV Tryz.prog 167 #[.bool b, .int .i64 e] h (.int .i64 (whenI b e)) := by
  refine fn_of (vs := [.bool b, .int .i64 e]) Tryz.func167 rfl Tryz.ntmps167 (Nat.le_of_ble_eq_true rfl) fun w hw => ?_
  refine wp_seq' ?_
  refine wp_text rfl ?_
  refine rs rfl (s_assign rfl rfl) ?_
  refine run_end ?_
  refine wp_seq' ?_
  refine wp_seq' ?_
  refine wp_text rfl ?_
  refine rs rfl (s_move rfl rfl) ?_
  refine run_end ?_
  refine wp_cond' rfl (fun hc5 => ?_) (fun hc5 => ?_)
  · skip
    refine wp_seq' ?_
    refine wp_text rfl ?_
    refine rs rfl (s_move rfl rfl) ?_
    refine rs rfl (s_assign rfl rfl) ?_
    refine run_end ?_
    refine wp_ret' ?_
    exact fin_ret (res_tmp rfl rfl) (by rw [hc5]; rfl)
  · skip
    refine wp_skip' ?_
    refine wp_seq' ?_
    refine wp_text rfl ?_
    refine rs rfl (s_assign rfl rfl) ?_
    refine run_end ?_
    refine wp_ret' ?_
    exact fin_ret (res_tmp rfl rfl) (by rw [hc5]; rfl)
set_option maxRecDepth 8000 in
theorem out_fn (x lo hi : Int) (b1 b2 : Nat) (h : H) (hb1 : h b1 = some (.cells #[.int .i64 lo] 3 (0, 0))) (hb2 : h b2 = some (.cells #[.int .i64 hi] 3 (0, 0))) : FnV Tryz.prog 215 #[.int .i64 x, .pointer (some ⟨b1, 0, none⟩), .pointer (some ⟨b2, 0, none⟩)] h (.bool (outI lo hi x)) := by
  refine fn_of (vs := [.int .i64 x, .pointer (some ⟨b1, 0, none⟩), .pointer (some ⟨b2, 0, none⟩)]) Tryz.func215 rfl Tryz.ntmps215 (Nat.le_of_ble_eq_true rfl) fun w hw => ?_
  refine wp_seq' ?_
  refine wp_text rfl ?_
  refine rs rfl (s_assign rfl rfl) ?_
  refine run_end ?_
  refine wp_seq' ?_
  refine wp_text rfl ?_
  refine rs rfl (s_move rfl rfl) ?_
  refine rs rfl (s_ld rfl rfl Tryz.isAgg3 (.imm _ _ _ hb1 rfl)) ?_
  refine rs rfl (s_lt rfl rfl rfl) ?_
  refine rs rfl (s_move rfl rfl) ?_
  refine run_cases (t := 8) rfl (fun hg8 => ?_) (fun hg8 => ?_)
  · skip
    refine run_skip rfl rfl rfl rfl rfl rfl rfl ?_
    refine run_skip rfl rfl rfl rfl rfl rfl rfl ?_
    refine run_skip rfl rfl rfl rfl rfl rfl rfl ?_
    refine rs rfl (s_pick rfl rfl (fun _ => rfl) (fun h => by cases h)) ?_
    refine rs rfl (s_assign rfl rfl) ?_
    refine run_end ?_
    refine wp_ret' ?_
    exact fin_ret (res_tmp rfl rfl) (by simp [outI, *])
  · skip
    refine rsg rfl rfl (s_move rfl rfl) ?_
    refine rsg rfl rfl (s_ld rfl rfl Tryz.isAgg3 (.imm _ _ _ hb2 rfl)) ?_
    refine rsg rfl rfl (s_gt rfl rfl rfl) ?_
    refine rs rfl (s_pick rfl rfl (fun h => by cases h) (fun _ => rfl)) ?_
    refine rs rfl (s_assign rfl rfl) ?_
    refine run_end ?_
    refine wp_ret' ?_
    exact fin_ret (res_tmp rfl rfl) (by simp [outI, *])
set_option maxRecDepth 8000 in
theorem same_line_fn (o l : List Int) (vo vl : Value) (b1 : Nat) (h : H) (ho : RdI h vo o) (hl : RdI h vl l) (hb1 : h b1 = some (.cells #[vl] 35 (0, 0))) : FnV Tryz.prog 217 #[vo, .pointer (some ⟨b1, 0, none⟩)] h (.bool (decide (o = l))) := by
  refine fn_of (vs := [vo, .pointer (some ⟨b1, 0, none⟩)]) Tryz.func217 rfl Tryz.ntmps217 (Nat.le_of_ble_eq_true rfl) fun w hw => ?_
  refine wp_seq' ?_
  refine wp_text rfl ?_
  refine rs rfl (s_assign rfl rfl) ?_
  refine run_end ?_
  refine wp_seq' ?_
  refine wp_text rfl ?_
  refine rs rfl (s_move rfl rfl) ?_
  refine rs rfl (s_ld rfl rfl Tryz.isAgg35 (.imm _ _ _ hb1 rfl)) ?_
  refine run_callv (vs := [_, _]) rfl rfl rfl rfl rfl rfl en158 (eqI_fn _ _ _ _ _ ho hl) ?_
  refine rs rfl (s_assign rfl rfl) ?_
  refine run_end ?_
  refine wp_ret' ?_
  exact fin_ret (res_tmp rfl rfl) (rfl)
set_option maxRecDepth 8000 in
theorem idxC_fn (p : Int → Bool) (l : List Int) (v : Value) (g : Nat) (cb : Array Value) (h : H) (hl : RdI h v l) (hen : ∀ args w, (callFunc g args).run Tryz.prog w = .ok (.enter g args) w) (hp : ∀ x, FnV Tryz.prog g (#[.int .i64 x] ++ cb) h (.bool (p x))) : FnV Tryz.prog 197 #[v, .func (.func g) #[] cb] h (.int .i64 (idxF p l)) := by
  have hlm := hl.len
  refine fn_of (vs := [v, .func (.func g) #[] cb]) Tryz.func197 rfl Tryz.ntmps197 (Nat.le_of_ble_eq_true rfl) fun w hw => ?_
  refine wp_seq' ?_
  refine wp_text rfl ?_
  refine rs rfl (s_assign rfl rfl) ?_
  refine run_end ?_
  refine wp_seq' ?_
  refine wp_seq' ?_
  refine wp_text rfl ?_
  refine rs rfl (s_move rfl rfl) ?_
  refine rs rfl (s_lenI hl rfl rfl Tryz.underlying35) ?_
  refine rs rfl (s_move rfl rfl) ?_
  refine run_end ?_
  refine wp_block' ?_
  refine wp_loop' (fun i : Nat => i ≤ l.length ∧ ∀ j, j < i → p (l.getD j 0) = false) (fun i => ⟨[(8, .int .i64 i), (7, .int .i64 l.length), (1, .func (.func g) #[] cb), (0, v)], h, []⟩) (fun i => l.length - i) 0 ⟨Nat.zero_le _, fun _ h => by omega⟩ ⟨by repeat (first|exact True.intro|refine And.intro rfl ?_), rfl, by repeat (first|exact NS _|exact SR _|apply SCC|apply SC)⟩ fun i hi => ?_
  obtain ⟨hi, hn⟩ := hi
  refine wp_seq' ?_
  refine wp_text rfl ?_
  refine rs rfl (s_lt rfl rfl rfl) ?_
  refine run_end ?_
  refine wp_seq' ?_
  refine wp_if' rfl (fun hc9 => ?_) (fun hc9 => ?_)
  · skip
    refine wp_skip' ?_
    refine wp_seq' ?_
    refine wp_block' ?_
    refine wp_seq' ?_
    refine wp_text rfl ?_
    refine rs rfl (s_move rfl rfl) ?_
    refine rs rfl (s_assign rfl rfl) ?_
    refine run_end ?_
    refine wp_seq' ?_
    refine wp_text rfl ?_
    refine rs rfl (s_move rfl rfl) ?_
    refine rs rfl (s_move rfl rfl) ?_
    refine rs rfl (s_move rfl rfl) ?_
    refine rs rfl (s_iaI hl (by omega) (by omega) rfl rfl rfl Tryz.underlying35 Tryz.sizeOf3) ?_
    refine rs rfl (s_ldI hl (by omega) (by omega) rfl rfl Tryz.isAgg3) ?_
    try simp only [Int.toNat_natCast]
    refine run_callwv (vs := [_]) rfl rfl rfl rfl rfl rfl rfl hen (hp _) ?_
    refine run_end ?_
    refine wp_cond' rfl (fun hc16 => ?_) (fun hc16 => ?_)
    · skip
      refine wp_seq' ?_
      refine wp_text rfl ?_
      refine rs rfl (s_move rfl rfl) ?_
      refine rs rfl (s_assign rfl rfl) ?_
      refine run_end ?_
      refine wp_ret' ?_
      exact fin_ret (res_tmp rfl rfl) (by rw [idxF_some (i := i) (by omega) hc16 hn])
    · skip
      refine wp_skip' ?_
      refine wp_text rfl ?_
      refine rs rfl (s_add rfl rfl rfl (IntWalk.i64_in _ (by omega))) ?_
      refine rs rfl (s_move rfl rfl) ?_
      refine run_end ?_
      exact ⟨i + 1, ⟨by omega, fun j hj => (Nat.lt_succ_iff_lt_or_eq.1 hj).elim (hn j) (fun e => by rw [e]; exact hc16)⟩, by omega, ⟨by repeat (first|exact True.intro|refine And.intro rfl ?_), rfl, by repeat (first|exact NS _|exact SR _|apply SCC|apply SC)⟩⟩
  · skip
    refine wp_exit' ?_
    refine wp_seq' ?_
    refine wp_text rfl ?_
    refine rs rfl (s_assign rfl rfl) ?_
    refine run_end ?_
    refine wp_ret' ?_
    exact fin_ret (res_tmp rfl rfl) (by rw [idxF_none (fun j hj => hn j (by omega))])
set_option maxRecDepth 8000 in
theorem containsC_fn (p : Int → Bool) (l : List Int) (v : Value) (g : Nat) (cb : Array Value) (h : H) (hl : RdI h v l) (hen : ∀ args w, (callFunc g args).run Tryz.prog w = .ok (.enter g args) w) (hp : ∀ x, FnV Tryz.prog g (#[.int .i64 x] ++ cb) h (.bool (p x))) : FnV Tryz.prog 136 #[v, .func (.func g) #[] cb] h (.bool (l.any p)) := by
  refine fn_of (vs := [v, .func (.func g) #[] cb]) Tryz.func136 rfl Tryz.ntmps136 (Nat.le_of_ble_eq_true rfl) fun w hw => ?_
  refine wp_seq' ?_
  refine wp_text rfl ?_
  refine rs rfl (s_assign rfl rfl) ?_
  refine run_end ?_
  refine wp_seq' ?_
  refine wp_text rfl ?_
  refine rs rfl (s_move rfl rfl) ?_
  refine rs rfl (s_move rfl rfl) ?_
  refine run_callv (vs := [_, _]) rfl rfl rfl rfl rfl rfl en197 (idxC_fn _ _ _ _ _ _ hl (by assumption) (by assumption)) ?_
  refine rs rfl (s_ge rfl rfl rfl) ?_
  refine rs rfl (s_assign rfl rfl) ?_
  refine run_end ?_
  refine wp_ret' ?_
  exact fin_ret (res_tmp rfl rfl) (by rw [idxF_any])
set_option maxRecDepth 8000 in
theorem idxT_fn (p : List Int → Bool) (l : List (List Int)) (v : Value) (g : Nat) (cb : Array Value) (h : H) (hl : RdT h v l) (hen : ∀ args w, (callFunc g args).run Tryz.prog w = .ok (.enter g args) w) (hp : ∀ x xv, RdI h xv x → FnV Tryz.prog g (#[xv] ++ cb) h (.bool (p x))) : FnV Tryz.prog 259 #[v, .func (.func g) #[] cb] h (.int .i64 (idxT p l)) := by
  have hlm := hl.len
  refine fn_of (vs := [v, .func (.func g) #[] cb]) Tryz.func259 rfl Tryz.ntmps259 (Nat.le_of_ble_eq_true rfl) fun w hw => ?_
  refine wp_seq' ?_
  refine wp_text rfl ?_
  refine rs rfl (s_assign rfl rfl) ?_
  refine run_end ?_
  refine wp_seq' ?_
  refine wp_seq' ?_
  refine wp_text rfl ?_
  refine rs rfl (s_move rfl rfl) ?_
  refine rs rfl (s_lenT hl rfl rfl Tryz.underlying26) ?_
  refine rs rfl (s_move rfl rfl) ?_
  refine run_end ?_
  refine wp_block' ?_
  refine wp_loop' (fun i : Nat => i ≤ l.length ∧ ∀ j, j < i → p (l.getD j []) = false) (fun i => ⟨[(8, .int .i64 i), (7, .int .i64 l.length), (1, .func (.func g) #[] cb), (0, v)], h, []⟩) (fun i => l.length - i) 0 ⟨Nat.zero_le _, fun _ h => by omega⟩ ⟨by repeat (first|exact True.intro|refine And.intro rfl ?_), rfl, by repeat (first|exact NS _|exact SR _|apply SCC|apply SC)⟩ fun i hi => ?_
  obtain ⟨hi, hn⟩ := hi
  refine wp_seq' ?_
  refine wp_text rfl ?_
  refine rs rfl (s_lt rfl rfl rfl) ?_
  refine run_end ?_
  refine wp_seq' ?_
  refine wp_if' rfl (fun hc9 => ?_) (fun hc9 => ?_)
  · skip
    refine wp_skip' ?_
    refine wp_seq' ?_
    refine wp_block' ?_
    refine wp_seq' ?_
    refine wp_text rfl ?_
    refine rs rfl (s_move rfl rfl) ?_
    refine rs rfl (s_assign rfl rfl) ?_
    refine run_end ?_
    refine wp_seq' ?_
    refine wp_text rfl ?_
    refine rs rfl (s_move rfl rfl) ?_
    refine rs rfl (s_move rfl rfl) ?_
    refine rs rfl (s_move rfl rfl) ?_
    refine rs rfl (s_iaT hl (by omega) (by omega) rfl rfl rfl Tryz.underlying26 Tryz.sizeOf35) ?_
    obtain ⟨sv15, hsv15, hat15⟩ := hl.get (j := i) (by omega)
    refine rs rfl (s_ldT hat15 (by omega) rfl rfl Tryz.isAgg35) ?_
    refine run_callwv (vs := [_]) rfl rfl rfl rfl rfl rfl rfl hen (hp _ _ hsv15) ?_
    refine run_end ?_
    refine wp_cond' rfl (fun hc16 => ?_) (fun hc16 => ?_)
    · skip
      refine wp_seq' ?_
      refine wp_text rfl ?_
      refine rs rfl (s_move rfl rfl) ?_
      refine rs rfl (s_assign rfl rfl) ?_
      refine run_end ?_
      refine wp_ret' ?_
      exact fin_ret (res_tmp rfl rfl) (by rw [idxT_some (i := i) (by omega) hc16 hn])
    · skip
      refine wp_skip' ?_
      refine wp_text rfl ?_
      refine rs rfl (s_add rfl rfl rfl (IntWalk.i64_in _ (by omega))) ?_
      refine rs rfl (s_move rfl rfl) ?_
      refine run_end ?_
      exact ⟨i + 1, ⟨by omega, fun j hj => (Nat.lt_succ_iff_lt_or_eq.1 hj).elim (hn j) (fun e => by rw [e]; exact hc16)⟩, by omega, ⟨by repeat (first|exact True.intro|refine And.intro rfl ?_), rfl, by repeat (first|exact NS _|exact SR _|apply SCC|apply SC)⟩⟩
  · skip
    refine wp_exit' ?_
    refine wp_seq' ?_
    refine wp_text rfl ?_
    refine rs rfl (s_assign rfl rfl) ?_
    refine run_end ?_
    refine wp_ret' ?_
    exact fin_ret (res_tmp rfl rfl) (by rw [idxT_none (fun j hj => hn j (by omega))])
set_option maxRecDepth 8000 in
theorem containsT_fn (p : List Int → Bool) (l : List (List Int)) (v : Value) (g : Nat) (cb : Array Value) (h : H) (hl : RdT h v l) (hen : ∀ args w, (callFunc g args).run Tryz.prog w = .ok (.enter g args) w) (hp : ∀ x xv, RdI h xv x → FnV Tryz.prog g (#[xv] ++ cb) h (.bool (p x))) : FnV Tryz.prog 216 #[v, .func (.func g) #[] cb] h (.bool (l.any p)) := by
  refine fn_of (vs := [v, .func (.func g) #[] cb]) Tryz.func216 rfl Tryz.ntmps216 (Nat.le_of_ble_eq_true rfl) fun w hw => ?_
  refine wp_seq' ?_
  refine wp_text rfl ?_
  refine rs rfl (s_assign rfl rfl) ?_
  refine run_end ?_
  refine wp_seq' ?_
  refine wp_text rfl ?_
  refine rs rfl (s_move rfl rfl) ?_
  refine rs rfl (s_move rfl rfl) ?_
  refine run_callv (vs := [_, _]) rfl rfl rfl rfl rfl rfl en259 (idxT_fn _ _ _ _ _ _ hl (by assumption) (by assumption)) ?_
  refine rs rfl (s_ge rfl rfl rfl) ?_
  refine rs rfl (s_assign rfl rfl) ?_
  refine run_end ?_
  refine wp_ret' ?_
  exact fin_ret (res_tmp rfl rfl) (by rw [idxT_any])
set_option maxRecDepth 8000 in
theorem from_fn (lo hi : Int) (l : List Int) (v : Value) (h : H) (hl : RdI h v l) : FnV Tryz.prog 166 #[.int .i64 lo, .int .i64 hi, v] h (.int .i64 (whenI (l.any (outI lo hi)) 3)) := by
  refine fn_of (vs := [.int .i64 lo, .int .i64 hi, v]) Tryz.func166 rfl Tryz.ntmps166 (Nat.le_of_ble_eq_true rfl) fun w hw => ?_
  refine wp_seq' ?_
  refine wp_text rfl ?_
  refine run_box rfl rfl rfl rfl rfl rfl rfl fun b1 => ?_
  refine run_box rfl rfl rfl rfl rfl rfl rfl fun b2 => ?_
  refine rs rfl (s_assign rfl rfl) ?_
  refine run_end ?_
  refine WP.letObj (b := b1) rfl (by repeat first|exact Pick.here|apply Pick.there) fun h1 hh1 hb1 => ?_
  have hl := hl.mono hh1
  refine WP.letObj (b := b2) rfl (by repeat first|exact Pick.here|apply Pick.there) fun h2 hh2 hb2 => ?_
  have hl := hl.mono hh2
  have hb1 := hh2 _ _ hb1
  refine wp_seq' ?_
  refine wp_text rfl ?_
  refine rs rfl (s_move rfl rfl) ?_
  refine rs rfl (s_mkf (vs := [.pointer (some ⟨b1, 0, none⟩), .pointer (some ⟨b2, 0, none⟩)]) rfl rfl) ?_
  refine run_callv (vs := [_, _]) rfl rfl rfl rfl rfl rfl en136 (containsC_fn (outI lo hi) _ _ 215 _ _ hl en215 (fun x => out_fn x lo hi b1 b2 _ hb1 hb2)) ?_
  refine run_callv (vs := [_, _]) rfl rfl rfl rfl rfl rfl en167 (when2_fn _ _ _) ?_
  refine rs rfl (s_assign rfl rfl) ?_
  refine run_end ?_
  refine wp_ret' ?_
  exact fin_ret (res_tmp rfl rfl) (rfl)
set_option maxRecDepth 8000 in
set_option maxHeartbeats 4000000 in
theorem line_fn (n : Int) (ls : List (List Int)) (tv : Value) (i : Nat) (h : H) (hi : i < ls.length) (ht : RdT h tv ls) (hcap : CapOk tv ls.length) : FnV Tryz.prog 168 #[.agg #[.int .i64 n, tv], .int .i64 i] h (.int .i64 (lineI n ls i)) := by
  obtain ⟨A, c, rfl, hc⟩ := hcap
  have htm := ht.len
  refine fn_of (vs := [.agg #[.int .i64 n, .slice A ls.length c], .int .i64 i]) Tryz.func168 rfl Tryz.ntmps168 (Nat.le_of_ble_eq_true rfl) fun w hw => ?_
  refine wp_seq' ?_
  refine wp_text rfl ?_
  refine run_box rfl rfl rfl rfl rfl rfl rfl fun b1 => ?_
  refine rs rfl (s_assign rfl rfl) ?_
  refine run_end ?_
  refine wp_seq' ?_
  refine wp_text rfl ?_
  refine rs rfl (s_fa (off := 1) rfl rfl Tryz.underlying46 rfl Tryz.sizeOf26 rfl) ?_
  refine rs rfl (s_ld rfl rfl Tryz.isAgg26 (.own _ _ _ (by repeat first|exact MH _|apply MT) rfl)) ?_
  refine rs rfl (s_move rfl rfl) ?_
  refine rs rfl (s_iaT ht (by omega) (by omega) rfl rfl rfl Tryz.underlying26 Tryz.sizeOf35) ?_
  obtain ⟨sv13, hsv13, hat13⟩ := ht.get (j := i) (by omega)
  refine rs rfl (s_ldT hat13 (by omega) rfl rfl Tryz.isAgg35) ?_
  refine run_alloc rfl rfl rfl rfl rfl Tryz.zeroValue35 rfl fun b2 => ?_
  refine run_st rfl rfl rfl rfl rfl rfl (RdI.one (by assumption)) (RdI.cs (by assumption)) Tryz.sizeOf35 (by repeat first|exact Swap.here|apply Swap.there) rfl ?_
  refine run_end ?_
  have hlm := hsv13.len
  refine WP.letObj (b := b1) rfl (by repeat first|exact Pick.here|apply Pick.there) fun h1 hh1 hb1 => ?_
  have ht := ht.mono hh1
  have hsv13 := hsv13.mono hh1
  refine WP.letObj (b := b2) rfl (by repeat first|exact Pick.here|apply Pick.there) fun h2 hh2 hb2 => ?_
  have ht := ht.mono hh2
  have hsv13 := hsv13.mono hh2
  have hb1 := hh2 _ _ hb1
  refine wp_seq' ?_
  refine wp_seq' ?_
  refine wp_text rfl ?_
  refine rs rfl (s_ld rfl rfl Tryz.isAgg35 (.imm _ _ _ hb2 rfl)) ?_
  refine rs rfl (s_lenI hsv13 rfl rfl Tryz.underlying35) ?_
  refine rs rfl (s_eq rfl rfl rfl) ?_
  refine run_end ?_
  refine wp_if' rfl (fun hc16 => ?_) (fun hc16 => ?_)
  · skip
    refine wp_seq' ?_
    refine wp_text rfl ?_
    refine rs rfl (s_assign rfl rfl) ?_
    refine run_end ?_
    refine wp_ret' ?_
    exact fin_ret (res_tmp rfl rfl) (by rw [lineI, if_pos hc16])
  · skip
    refine wp_skip' ?_
    refine wp_seq' ?_
    refine wp_seq' ?_
    refine wp_text rfl ?_
    refine rs rfl (s_ld rfl rfl Tryz.isAgg35 (.imm _ _ _ hb2 rfl)) ?_
    refine rs rfl (s_lenI hsv13 rfl rfl Tryz.underlying35) ?_
    refine rs rfl (s_move rfl rfl) ?_
    refine run_end ?_
    refine wp_block' ?_
    refine wp_loopg (fun k : Nat => k ≤ (ls.getD i []).length ∧ ∀ j, j < k → cellI n (ls.getD i []) j = 0) (fun k => ⟨[(19, .int .i64 k), (18, .int .i64 (ls.getD i []).length), (17, sv13), (5, .pointer (some ⟨b2, 0, none⟩)), (2, .pointer (some ⟨b1, 0, none⟩)), (1, .int .i64 i)], []⟩) (fun k => (ls.getD i []).length - k) 0 ⟨Nat.zero_le _, fun _ h => by omega⟩ ⟨by repeat (first|exact True.intro|refine And.intro rfl ?_), (by first | exact fun _ _ hb => hb | assumption), by repeat (first|exact NS _|exact SR _|apply SCC|apply SC)⟩ fun k hk => ?_
    obtain ⟨hk, hn⟩ := hk
    refine wp_seq' ?_
    refine wp_text rfl ?_
    refine rs rfl (s_lt rfl rfl rfl) ?_
    refine run_end ?_
    refine wp_seq' ?_
    refine wp_if' rfl (fun hc20 => ?_) (fun hc20 => ?_)
    · skip
      refine wp_skip' ?_
      refine wp_seq' ?_
      refine wp_block' ?_
      refine wp_seq' ?_
      refine wp_text rfl ?_
      refine rs rfl (s_move rfl rfl) ?_
      refine rs rfl (s_iaI hsv13 (by omega) (by omega) rfl rfl rfl Tryz.underlying35 Tryz.sizeOf3) ?_
      refine rs rfl (s_ldI hsv13 (by omega) (by omega) rfl rfl Tryz.isAgg3) ?_
      try simp only [Int.toNat_natCast]
      refine rs rfl (s_assign rfl rfl) ?_
      refine rs rfl (s_assign rfl rfl) ?_
      refine run_end ?_
      refine wp_seq' ?_
      refine wp_text rfl ?_
      refine rs rfl (s_move rfl rfl) ?_
      refine rs rfl (s_lt rfl rfl rfl) ?_
      refine rs rfl (s_move rfl rfl) ?_
      refine run_cases (t := 26) rfl (fun hg26 => ?_) (fun hg26 => ?_)
      · skip
        refine run_skip rfl rfl rfl rfl rfl rfl rfl ?_
        refine run_skip rfl rfl rfl rfl rfl rfl rfl ?_
        refine run_skip rfl rfl rfl rfl rfl rfl rfl ?_
        refine run_skip rfl rfl rfl rfl rfl rfl rfl ?_
        refine rs rfl (s_pick rfl rfl (fun _ => rfl) (fun h => by cases h)) ?_
        refine run_callv (vs := [_, _]) rfl rfl rfl rfl rfl rfl en167 (when2_fn _ _ _) ?_
        refine rs rfl (s_move rfl rfl) ?_
        refine rs rfl (s_gt rfl rfl rfl) ?_
        refine rs rfl (s_move rfl rfl) ?_
        refine run_cases (t := 35) rfl (fun hg35 => ?_) (fun hg35 => ?_)
        · skip
          refine rsg rfl rfl (s_ld rfl rfl Tryz.isAgg35 (.imm _ _ _ hb2 rfl)) ?_
          refine rsg rfl rfl (s_move rfl rfl) ?_
          refine rsg rfl rfl (s_sub rfl rfl rfl (IntWalk.i64_in _ (by omega))) ?_
          refine rsg rfl rfl (s_iaI hsv13 (by omega) (by omega) rfl rfl rfl Tryz.underlying35 Tryz.sizeOf3) ?_
          refine rsg rfl rfl (s_ldI hsv13 (by omega) (by omega) rfl rfl Tryz.isAgg3) ?_
          try simp only [Int.toNat_natCast]
          refine rsg rfl rfl (s_move rfl rfl) ?_
          refine rsg rfl rfl (s_ge rfl rfl rfl) ?_
          refine rs rfl (s_pick rfl rfl (fun _ => rfl) (fun h => by cases h)) ?_
          refine run_callv (vs := [_, _]) rfl rfl rfl rfl rfl rfl en167 (when2_fn _ _ _) ?_
          refine run_bsl (parts := [_, _]) (vs := [_, _]) rfl rfl rfl rfl rfl rfl (bs178_2 _ _) fun b3 h3 hh3 hb3 => ?_
          have hr3 := rdI_of (xs := [_, _]) hb3 rfl rfl (Nat.le_of_ble_eq_true rfl)
          have ht := ht.mono hh3
          have hsv13 := hsv13.mono hh3
          refine run_callv (vs := [_]) rfl rfl rfl rfl rfl rfl en165 (first2_fn _ _ _ hr3) ?_
          refine rs rfl (s_assign rfl rfl) ?_
          refine run_end ?_
          refine wp_seq' ?_
          refine wp_text rfl ?_
          refine rs rfl (s_move rfl rfl) ?_
          refine rs rfl (s_ne rfl rfl rfl) ?_
          refine run_end ?_
          refine wp_if' rfl (fun hc48 => ?_) (fun hc48 => ?_)
          · skip
            have hck : cellI n (ls.getD i []) k ≠ 0 := by (unfold cellI; (try simp only [Int.toNat_natCast] at hg26 hg35 hc48 ⊢); simp only [hg26, hg35, decide_true, decide_false, Bool.true_or, Bool.false_or, Bool.true_and, Bool.false_and]; exact hc48)
            refine wp_seq' ?_
            refine wp_text rfl ?_
            refine rs rfl (s_move rfl rfl) ?_
            refine rs rfl (s_assign rfl rfl) ?_
            refine run_end ?_
            refine wp_ret' ?_
            exact fin_ret (res_tmp rfl rfl) (by rw [lineI_row hc16 (by omega) hck hn]; unfold cellI; (try simp only [Int.toNat_natCast] at hg26 hg35 ⊢); simp only [hg26, hg35, decide_true, decide_false, Bool.true_or, Bool.false_or, Bool.true_and, Bool.false_and])
          · skip
            have hck : cellI n (ls.getD i []) k = 0 := by (unfold cellI; (try simp only [Int.toNat_natCast] at hg26 hg35 hc48 ⊢); simp only [hg26, hg35, decide_true, decide_false, Bool.true_or, Bool.false_or, Bool.true_and, Bool.false_and]; exact Decidable.not_not.1 hc48)
            refine wp_skip' ?_
            refine wp_text rfl ?_
            refine rs rfl (s_add rfl rfl rfl (IntWalk.i64_in _ (by omega))) ?_
            refine rs rfl (s_move rfl rfl) ?_
            refine run_end ?_
            exact ⟨k + 1, ⟨by omega, fun j hj => (Nat.lt_succ_iff_lt_or_eq.1 hj).elim (hn j) (fun e => by rw [e]; exact hck)⟩, by omega, ⟨by repeat (first|exact True.intro|refine And.intro rfl ?_), (by first | exact fun _ _ hb => hb | assumption), by repeat (first|exact NS _|exact SR _|apply SCC|apply SC)⟩⟩
        · skip
          refine run_skip rfl rfl rfl rfl rfl rfl rfl ?_
          refine run_skip rfl rfl rfl rfl rfl rfl rfl ?_
          refine run_skip rfl rfl rfl rfl rfl rfl rfl ?_
          refine run_skip rfl rfl rfl rfl rfl rfl rfl ?_
          refine run_skip rfl rfl rfl rfl rfl rfl rfl ?_
          refine run_skip rfl rfl rfl rfl rfl rfl rfl ?_
          refine run_skip rfl rfl rfl rfl rfl rfl rfl ?_
          refine rs rfl (s_pick rfl rfl (fun h => by cases h) (fun _ => rfl)) ?_
          refine run_callv (vs := [_, _]) rfl rfl rfl rfl rfl rfl en167 (when2_fn _ _ _) ?_
          refine run_bsl (parts := [_, _]) (vs := [_, _]) rfl rfl rfl rfl rfl rfl (bs178_2 _ _) fun b4 h4 hh4 hb4 => ?_
          have hr4 := rdI_of (xs := [_, _]) hb4 rfl rfl (Nat.le_of_ble_eq_true rfl)
          have ht := ht.mono hh4
          have hsv13 := hsv13.mono hh4
          refine run_callv (vs := [_]) rfl rfl rfl rfl rfl rfl en165 (first2_fn _ _ _ hr4) ?_
          refine rs rfl (s_assign rfl rfl) ?_
          refine run_end ?_
          refine wp_seq' ?_
          refine wp_text rfl ?_
          refine rs rfl (s_move rfl rfl) ?_
          refine rs rfl (s_ne rfl rfl rfl) ?_
          refine run_end ?_
          refine wp_if' rfl (fun hc48 => ?_) (fun hc48 => ?_)
          · skip
            have hck : cellI n (ls.getD i []) k ≠ 0 := by (unfold cellI; (try simp only [Int.toNat_natCast] at hg26 hg35 hc48 ⊢); simp only [hg26, hg35, decide_true, decide_false, Bool.true_or, Bool.false_or, Bool.true_and, Bool.false_and]; exact hc48)
            refine wp_seq' ?_
            refine wp_text rfl ?_
            refine rs rfl (s_move rfl rfl) ?_
            refine rs rfl (s_assign rfl rfl) ?_
            refine run_end ?_
            refine wp_ret' ?_
            exact fin_ret (res_tmp rfl rfl) (by rw [lineI_row hc16 (by omega) hck hn]; unfold cellI; (try simp only [Int.toNat_natCast] at hg26 hg35 ⊢); simp only [hg26, hg35, decide_true, decide_false, Bool.true_or, Bool.false_or, Bool.true_and, Bool.false_and])
          · skip
            have hck : cellI n (ls.getD i []) k = 0 := by (unfold cellI; (try simp only [Int.toNat_natCast] at hg26 hg35 hc48 ⊢); simp only [hg26, hg35, decide_true, decide_false, Bool.true_or, Bool.false_or, Bool.true_and, Bool.false_and]; exact Decidable.not_not.1 hc48)
            refine wp_skip' ?_
            refine wp_text rfl ?_
            refine rs rfl (s_add rfl rfl rfl (IntWalk.i64_in _ (by omega))) ?_
            refine rs rfl (s_move rfl rfl) ?_
            refine run_end ?_
            exact ⟨k + 1, ⟨by omega, fun j hj => (Nat.lt_succ_iff_lt_or_eq.1 hj).elim (hn j) (fun e => by rw [e]; exact hck)⟩, by omega, ⟨by repeat (first|exact True.intro|refine And.intro rfl ?_), (by first | exact fun _ _ hb => hb | assumption), by repeat (first|exact NS _|exact SR _|apply SCC|apply SC)⟩⟩
      · skip
        refine rsg rfl rfl (s_move rfl rfl) ?_
        refine rsg rfl rfl (s_fa (off := 0) rfl rfl Tryz.underlying46 rfl Tryz.sizeOf3 rfl) ?_
        refine rsg rfl rfl (s_ld rfl rfl Tryz.isAgg3 (.imm _ _ _ hb1 rfl)) ?_
        refine rsg rfl rfl (s_ge rfl rfl rfl) ?_
        refine rs rfl (s_pick rfl rfl (fun h => by cases h) (fun _ => rfl)) ?_
        refine run_callv (vs := [_, _]) rfl rfl rfl rfl rfl rfl en167 (when2_fn _ _ _) ?_
        refine rs rfl (s_move rfl rfl) ?_
        refine rs rfl (s_gt rfl rfl rfl) ?_
        refine rs rfl (s_move rfl rfl) ?_
        refine run_cases (t := 35) rfl (fun hg35 => ?_) (fun hg35 => ?_)
        · skip
          refine rsg rfl rfl (s_ld rfl rfl Tryz.isAgg35 (.imm _ _ _ hb2 rfl)) ?_
          refine rsg rfl rfl (s_move rfl rfl) ?_
          refine rsg rfl rfl (s_sub rfl rfl rfl (IntWalk.i64_in _ (by omega))) ?_
          refine rsg rfl rfl (s_iaI hsv13 (by omega) (by omega) rfl rfl rfl Tryz.underlying35 Tryz.sizeOf3) ?_
          refine rsg rfl rfl (s_ldI hsv13 (by omega) (by omega) rfl rfl Tryz.isAgg3) ?_
          try simp only [Int.toNat_natCast]
          refine rsg rfl rfl (s_move rfl rfl) ?_
          refine rsg rfl rfl (s_ge rfl rfl rfl) ?_
          refine rs rfl (s_pick rfl rfl (fun _ => rfl) (fun h => by cases h)) ?_
          refine run_callv (vs := [_, _]) rfl rfl rfl rfl rfl rfl en167 (when2_fn _ _ _) ?_
          refine run_bsl (parts := [_, _]) (vs := [_, _]) rfl rfl rfl rfl rfl rfl (bs178_2 _ _) fun b5 h5 hh5 hb5 => ?_
          have hr5 := rdI_of (xs := [_, _]) hb5 rfl rfl (Nat.le_of_ble_eq_true rfl)
          have ht := ht.mono hh5
          have hsv13 := hsv13.mono hh5
          refine run_callv (vs := [_]) rfl rfl rfl rfl rfl rfl en165 (first2_fn _ _ _ hr5) ?_
          refine rs rfl (s_assign rfl rfl) ?_
          refine run_end ?_
          refine wp_seq' ?_
          refine wp_text rfl ?_
          refine rs rfl (s_move rfl rfl) ?_
          refine rs rfl (s_ne rfl rfl rfl) ?_
          refine run_end ?_
          refine wp_if' rfl (fun hc48 => ?_) (fun hc48 => ?_)
          · skip
            have hck : cellI n (ls.getD i []) k ≠ 0 := by (unfold cellI; (try simp only [Int.toNat_natCast] at hg26 hg35 hc48 ⊢); simp only [hg26, hg35, decide_true, decide_false, Bool.true_or, Bool.false_or, Bool.true_and, Bool.false_and]; exact hc48)
            refine wp_seq' ?_
            refine wp_text rfl ?_
            refine rs rfl (s_move rfl rfl) ?_
            refine rs rfl (s_assign rfl rfl) ?_
            refine run_end ?_
            refine wp_ret' ?_
            exact fin_ret (res_tmp rfl rfl) (by rw [lineI_row hc16 (by omega) hck hn]; unfold cellI; (try simp only [Int.toNat_natCast] at hg26 hg35 ⊢); simp only [hg26, hg35, decide_true, decide_false, Bool.true_or, Bool.false_or, Bool.true_and, Bool.false_and])
          · skip
            have hck : cellI n (ls.getD i []) k = 0 := by (unfold cellI; (try simp only [Int.toNat_natCast] at hg26 hg35 hc48 ⊢); simp only [hg26, hg35, decide_true, decide_false, Bool.true_or, Bool.false_or, Bool.true_and, Bool.false_and]; exact Decidable.not_not.1 hc48)
            refine wp_skip' ?_
            refine wp_text rfl ?_
            refine rs rfl (s_add rfl rfl rfl (IntWalk.i64_in _ (by omega))) ?_
            refine rs rfl (s_move rfl rfl) ?_
            refine run_end ?_
            exact ⟨k + 1, ⟨by omega, fun j hj => (Nat.lt_succ_iff_lt_or_eq.1 hj).elim (hn j) (fun e => by rw [e]; exact hck)⟩, by omega, ⟨by repeat (first|exact True.intro|refine And.intro rfl ?_), (by first | exact fun _ _ hb => hb | assumption), by repeat (first|exact NS _|exact SR _|apply SCC|apply SC)⟩⟩
        · skip
          refine run_skip rfl rfl rfl rfl rfl rfl rfl ?_
          refine run_skip rfl rfl rfl rfl rfl rfl rfl ?_
          refine run_skip rfl rfl rfl rfl rfl rfl rfl ?_
          refine run_skip rfl rfl rfl rfl rfl rfl rfl ?_
          refine run_skip rfl rfl rfl rfl rfl rfl rfl ?_
          refine run_skip rfl rfl rfl rfl rfl rfl rfl ?_
          refine run_skip rfl rfl rfl rfl rfl rfl rfl ?_
          refine rs rfl (s_pick rfl rfl (fun h => by cases h) (fun _ => rfl)) ?_
          refine run_callv (vs := [_, _]) rfl rfl rfl rfl rfl rfl en167 (when2_fn _ _ _) ?_
          refine run_bsl (parts := [_, _]) (vs := [_, _]) rfl rfl rfl rfl rfl rfl (bs178_2 _ _) fun b6 h6 hh6 hb6 => ?_
          have hr6 := rdI_of (xs := [_, _]) hb6 rfl rfl (Nat.le_of_ble_eq_true rfl)
          have ht := ht.mono hh6
          have hsv13 := hsv13.mono hh6
          refine run_callv (vs := [_]) rfl rfl rfl rfl rfl rfl en165 (first2_fn _ _ _ hr6) ?_
          refine rs rfl (s_assign rfl rfl) ?_
          refine run_end ?_
          refine wp_seq' ?_
          refine wp_text rfl ?_
          refine rs rfl (s_move rfl rfl) ?_
          refine rs rfl (s_ne rfl rfl rfl) ?_
          refine run_end ?_
          refine wp_if' rfl (fun hc48 => ?_) (fun hc48 => ?_)
          · skip
            have hck : cellI n (ls.getD i []) k ≠ 0 := by (unfold cellI; (try simp only [Int.toNat_natCast] at hg26 hg35 hc48 ⊢); simp only [hg26, hg35, decide_true, decide_false, Bool.true_or, Bool.false_or, Bool.true_and, Bool.false_and]; exact hc48)
            refine wp_seq' ?_
            refine wp_text rfl ?_
            refine rs rfl (s_move rfl rfl) ?_
            refine rs rfl (s_assign rfl rfl) ?_
            refine run_end ?_
            refine wp_ret' ?_
            exact fin_ret (res_tmp rfl rfl) (by rw [lineI_row hc16 (by omega) hck hn]; unfold cellI; (try simp only [Int.toNat_natCast] at hg26 hg35 ⊢); simp only [hg26, hg35, decide_true, decide_false, Bool.true_or, Bool.false_or, Bool.true_and, Bool.false_and])
          · skip
            have hck : cellI n (ls.getD i []) k = 0 := by (unfold cellI; (try simp only [Int.toNat_natCast] at hg26 hg35 hc48 ⊢); simp only [hg26, hg35, decide_true, decide_false, Bool.true_or, Bool.false_or, Bool.true_and, Bool.false_and]; exact Decidable.not_not.1 hc48)
            refine wp_skip' ?_
            refine wp_text rfl ?_
            refine rs rfl (s_add rfl rfl rfl (IntWalk.i64_in _ (by omega))) ?_
            refine rs rfl (s_move rfl rfl) ?_
            refine run_end ?_
            exact ⟨k + 1, ⟨by omega, fun j hj => (Nat.lt_succ_iff_lt_or_eq.1 hj).elim (hn j) (fun e => by rw [e]; exact hck)⟩, by omega, ⟨by repeat (first|exact True.intro|refine And.intro rfl ?_), (by first | exact fun _ _ hb => hb | assumption), by repeat (first|exact NS _|exact SR _|apply SCC|apply SC)⟩⟩
    · skip
      refine wp_exit' ?_
      refine wp_seq' ?_
      refine wp_text rfl ?_
      refine rs rfl (s_fa (off := 1) rfl rfl Tryz.underlying46 rfl Tryz.sizeOf26 rfl) ?_
      refine rs rfl (s_ld rfl rfl Tryz.isAgg26 (.imm _ _ _ hb1 rfl)) ?_
      refine rs rfl (s_move rfl rfl) ?_
      have htk := RdT.take (k := i) ht (by omega) hc
      refine rs rfl (s_hi rfl rfl rfl Tryz.underlying26 Tryz.sizeOf35 (by omega)) ?_
      refine rs rfl (s_mkf (vs := [.pointer (some ⟨b2, 0, none⟩)]) rfl rfl) ?_
      refine run_callv (vs := [_, _]) rfl rfl rfl rfl rfl rfl en216 (containsT_fn (fun o => decide (o = ls.getD i [])) _ _ 217 _ _ htk en217 (fun x xv hx => same_line_fn x _ xv _ b2 _ hx hsv13 hb2)) ?_
      refine run_callv (vs := [_, _]) rfl rfl rfl rfl rfl rfl en167 (when2_fn _ _ _) ?_
      refine rs rfl (s_assign rfl rfl) ?_
      refine run_end ?_
      refine wp_ret' ?_
      exact fin_ret (res_tmp rfl rfl) (by rw [lineI_end hc16 (fun j hj => hn j (by omega))])
set_option maxRecDepth 8000 in
set_option maxHeartbeats 4000000 in
theorem system_fn (n : Int) (ls : List (List Int)) (tv : Value) (h : H) (ht : RdT h tv ls) (hcap : CapOk tv ls.length) : FnV Tryz.prog 103 #[.agg #[.int .i64 n, tv]] h (.int .i64 (sysI n ls)) := by
  obtain ⟨A, c, rfl, hc⟩ := hcap
  have htm := ht.len
  refine fn_of (vs := [.agg #[.int .i64 n, .slice A ls.length c]]) Tryz.func103 rfl Tryz.ntmps103 (Nat.le_of_ble_eq_true rfl) fun w hw => ?_
  refine wp_seq' ?_
  refine wp_text rfl ?_
  refine run_box rfl rfl rfl rfl rfl rfl rfl fun b1 => ?_
  refine rs rfl (s_assign rfl rfl) ?_
  refine run_end ?_
  refine wp_seq' ?_
  refine wp_seq' ?_
  refine wp_any [0, 1, 4, 5, 6, 7, 2, 3, 8, 9, 10, 11] rfl (by kernel_rfl) ?_
  refine rs rfl (s_fa (off := 0) rfl rfl Tryz.underlying46 rfl Tryz.sizeOf3 rfl) ?_
  refine rs rfl (s_ld rfl rfl Tryz.isAgg3 (.own _ _ _ (by repeat first|exact MH _|apply MT) rfl)) ?_
  refine rs rfl (s_fa (off := 1) rfl rfl Tryz.underlying46 rfl Tryz.sizeOf26 rfl) ?_
  refine rs rfl (s_ld rfl rfl Tryz.isAgg26 (.own _ _ _ (by repeat first|exact MH _|apply MT) rfl)) ?_
  refine rs rfl (s_lenT ht rfl rfl Tryz.underlying26) ?_
  refine rs rfl (s_gt rfl rfl rfl) ?_
  refine run_bsl (parts := [_]) (vs := [_]) rfl rfl rfl rfl rfl rfl (bs35_1 _) fun b2 h2 hh2 hb2 => ?_
  have hr2 := rdI_of (xs := [_]) hb2 rfl rfl (Nat.le_of_ble_eq_true rfl)
  have ht := ht.mono hh2
  refine run_callv (vs := [_, _, _]) rfl rfl rfl rfl rfl rfl en166 (from_fn _ _ _ _ _ hr2) ?_
  refine run_callv (vs := [_, _]) rfl rfl rfl rfl rfl rfl en167 (when2_fn _ _ _) ?_
  refine run_bsl (parts := [_, _]) (vs := [_, _]) rfl rfl rfl rfl rfl rfl (bs178_2 _ _) fun b3 h3 hh3 hb3 => ?_
  have hr3 := rdI_of (xs := [_, _]) hb3 rfl rfl (Nat.le_of_ble_eq_true rfl)
  have ht := ht.mono hh3
  have hr2 := hr2.mono hh3
  refine run_callv (vs := [_]) rfl rfl rfl rfl rfl rfl en165 (first2_fn _ _ _ hr3) ?_
  refine rs rfl (s_assign rfl rfl) ?_
  refine run_end ?_
  rw [show firstI [whenI ([n].any (outI 1 256)) 3, whenI (decide (128 < (ls.length : Int))) 5] = sysI0 n ls from rfl]
  refine wp_seq' ?_
  refine wp_text rfl ?_
  refine rs rfl (s_move rfl rfl) ?_
  refine rs rfl (s_ne rfl rfl rfl) ?_
  refine run_end ?_
  refine wp_if' rfl (fun hc18 => ?_) (fun hc18 => ?_)
  · skip
    refine wp_seq' ?_
    refine wp_text rfl ?_
    refine rs rfl (s_move rfl rfl) ?_
    refine rs rfl (s_assign rfl rfl) ?_
    refine run_end ?_
    refine wp_ret' ?_
    exact fin_ret (res_tmp rfl rfl) (by rw [sysI, if_pos hc18])
  · skip
    refine wp_skip' ?_
    refine wp_seq' ?_
    refine wp_seq' ?_
    refine wp_text rfl ?_
    refine rs rfl (s_fa (off := 1) rfl rfl Tryz.underlying46 rfl Tryz.sizeOf26 rfl) ?_
    refine rs rfl (s_ld rfl rfl Tryz.isAgg26 (.own _ _ _ (by repeat first|exact MH _|apply MT) rfl)) ?_
    refine rs rfl (s_lenT ht rfl rfl Tryz.underlying26) ?_
    refine rs rfl (s_move rfl rfl) ?_
    refine run_end ?_
    refine wp_block' ?_
    refine wp_loop' (fun k : Nat => k ≤ ls.length ∧ ∀ j, j < k → lineI n ls j = 0) (fun k => ⟨[(23, .int .i64 k), (22, .int .i64 ls.length), (1, .pointer (some ⟨b1, 0, none⟩))], h3, [.obj b1 (.cells #[.int .i64 n, .slice A ls.length c] 46 (0, 0))]⟩) (fun k => ls.length - k) 0 ⟨Nat.zero_le _, fun _ h => by omega⟩ ⟨by repeat (first|exact True.intro|refine And.intro rfl ?_), rfl, by repeat (first|exact NS _|exact SR _|apply SCC|apply SC)⟩ fun k hk => ?_
    obtain ⟨hk, hn⟩ := hk
    refine wp_seq' ?_
    refine wp_text rfl ?_
    refine rs rfl (s_lt rfl rfl rfl) ?_
    refine run_end ?_
    refine wp_seq' ?_
    refine wp_if' rfl (fun hc24 => ?_) (fun hc24 => ?_)
    · skip
      refine wp_skip' ?_
      refine wp_seq' ?_
      refine wp_block' ?_
      refine wp_seq' ?_
      refine wp_text rfl ?_
      refine rs rfl (s_move rfl rfl) ?_
      refine rs rfl (s_assign rfl rfl) ?_
      refine run_end ?_
      refine wp_seq' ?_
      refine wp_text rfl ?_
      refine rs rfl (s_ld2 rfl rfl Tryz.isAgg46 Tryz.sizeOf46 (.own _ _ _ (by repeat first|exact MH _|apply MT) rfl) (.own _ _ _ (by repeat first|exact MH _|apply MT) rfl)) ?_
      refine rs rfl (s_move rfl rfl) ?_
      refine run_callv (vs := [_, _]) rfl rfl rfl rfl rfl rfl en168 (line_fn n ls _ k _ (by omega) ht ⟨_, _, rfl, hc⟩) ?_
      refine rs rfl (s_assign rfl rfl) ?_
      refine run_end ?_
      refine wp_seq' ?_
      refine wp_text rfl ?_
      refine rs rfl (s_move rfl rfl) ?_
      refine rs rfl (s_ne rfl rfl rfl) ?_
      refine run_end ?_
      refine wp_if' rfl (fun hc30 => ?_) (fun hc30 => ?_)
      · skip
        refine wp_seq' ?_
        refine wp_text rfl ?_
        refine rs rfl (s_move rfl rfl) ?_
        refine rs rfl (s_assign rfl rfl) ?_
        refine run_end ?_
        refine wp_ret' ?_
        exact fin_ret (res_tmp rfl rfl) (by rw [sysI, if_neg hc18, firstI_at (k := k) (by omega) hc30 hn])
      · skip
        refine wp_skip' ?_
        refine wp_text rfl ?_
        refine rs rfl (s_add rfl rfl rfl (IntWalk.i64_in _ (by omega))) ?_
        refine rs rfl (s_move rfl rfl) ?_
        refine run_end ?_
        exact ⟨k + 1, ⟨by omega, fun j hj => (Nat.lt_succ_iff_lt_or_eq.1 hj).elim (hn j) (fun e => by rw [e]; exact Decidable.not_not.1 hc30)⟩, by omega, ⟨by repeat (first|exact True.intro|refine And.intro rfl ?_), rfl, by repeat (first|exact NS _|exact SR _|apply SCC|apply SC)⟩⟩
    · skip
      refine wp_exit' ?_
      refine wp_seq' ?_
      refine wp_text rfl ?_
      refine rs rfl (s_assign rfl rfl) ?_
      refine run_end ?_
      refine wp_ret' ?_
      exact fin_ret (res_tmp rfl rfl) (by rw [sysI, if_neg hc18, firstI_no (fun j hj => hn j (by omega))])
end Go.Tal

/-
  What is read of any length: lists as they come in; readings of arguments.
-/
namespace Go.Tal
open Go.RowKit
/-- A slice of integers, of any length. -/
def RdI0 (h : H) (v : Value) (xs : List Int) : Prop :=
  ∃ A c, v = .slice A xs.length c ∧ xs.length ≤ 9223372036854775807 ∧ (0 < xs.length → ∃ b o, A = some ⟨b, o, none⟩ ∧ ∃ arr t fz, h b = some (.cells arr t fz) ∧ ∀ j, j < xs.length → arr[o + j]? = some (.int .i64 (xs.getD j 0)))
theorem RdI0.toI {h : H} {v : Value} {xs : List Int} (r : RdI0 h v xs) (hl : xs.length ≤ 4294967296) : RdI h v xs := by
  obtain ⟨A, c, e, _, hr⟩ := r
  exact ⟨A, c, e, hl, hr⟩
theorem RdI.to0 {h : H} {v : Value} {xs : List Int} (r : RdI h v xs) : RdI0 h v xs := by
  obtain ⟨A, c, e, hl, hr⟩ := r
  exact ⟨A, c, e, by omega, hr⟩
theorem RdI0.mono {h h' : H} {v : Value} {xs : List Int} (r : RdI0 h v xs) (hh : ∀ b o, h b = some o → h' b = some o) : RdI0 h' v xs := by
  obtain ⟨A, c, e, hm, hr⟩ := r
  exact ⟨A, c, e, hm, fun hp => by obtain ⟨b, o, e1, arr, t, fz, h1, h2⟩ := hr hp; exact ⟨b, o, e1, arr, t, fz, hh _ _ h1, h2⟩⟩
theorem RdI0.len {h : H} {v : Value} {l : List Int} (r : RdI0 h v l) : l.length ≤ 9223372036854775807 := by obtain ⟨_, _, _, h1, _⟩ := r; exact h1
/-- A slice of symmetries, of any length. -/
def RdS0 (h : H) (v : Value) (l : List Sy) : Prop :=
  ∃ A c, v = .slice A l.length c ∧ l.length ≤ 9223372036854775807 ∧ (0 < l.length → ∃ b o, A = some ⟨b, o, none⟩ ∧ ∃ arr t fz, h b = some (.cells arr t fz) ∧
    ∀ j, j < l.length → ∃ sv, arr[o + j * 2]? = some sv ∧ arr[o + j * 2 + 1]? = some (.bool (l.getD j ([], false)).2) ∧ RdI0 h sv (l.getD j ([], false)).1)
theorem RdS0.toS {h : H} {v : Value} {l : List Sy} (r : RdS0 h v l) (hl : l.length ≤ 4294967296) (hi : ∀ a ∈ l, a.1.length ≤ 4294967296) : RdS h v l := by
  obtain ⟨A, c, e, _, hr⟩ := r
  refine ⟨A, c, e, hl, fun hp => ?_⟩
  obtain ⟨b, o, e1, arr, t, fz, h1, h2⟩ := hr hp
  refine ⟨b, o, e1, arr, t, fz, h1, fun j hj => ?_⟩
  obtain ⟨sv, h3, h4, h5⟩ := h2 j hj
  refine ⟨sv, h3, h4, h5.toI (hi _ ?_)⟩
  rw [List.getD_eq_getElem?_getD, List.getElem?_eq_getElem hj]
  exact List.getElem_mem hj
theorem RdS0.mono {h h' : H} {v : Value} {l : List Sy} (r : RdS0 h v l) (hh : ∀ b o, h b = some o → h' b = some o) : RdS0 h' v l := by
  obtain ⟨A, c, e, hm, hr⟩ := r
  refine ⟨A, c, e, hm, fun hp => ?_⟩
  obtain ⟨b, o, e1, arr, t, fz, h1, h2⟩ := hr hp
  exact ⟨b, o, e1, arr, t, fz, hh _ _ h1, fun j hj => by obtain ⟨sv, h3, h4, h5⟩ := h2 j hj; exact ⟨sv, h3, h4, h5.mono hh⟩⟩
theorem RdS0.len {h : H} {v : Value} {l : List Sy} (r : RdS0 h v l) : l.length ≤ 9223372036854775807 := by obtain ⟨_, _, _, h1, _⟩ := r; exact h1
theorem RdS0.get {h : H} {v : Value} {l : List Sy} (r : RdS0 h v l) {j : Nat} (hj : j < l.length) : ∃ sv, RdI0 h sv (l.getD j ([], false)).1 ∧ SyAt h v j sv (l.getD j ([], false)).2 := by
  obtain ⟨A, c, e, hm, hr⟩ := r
  obtain ⟨b, o, e1, arr, t, fz, h1, h2⟩ := hr (by omega)
  obtain ⟨sv, h3, h4, h5⟩ := h2 j hj
  exact ⟨sv, h5, ⟨⟨b, o, _, c, arr, t, fz, by rw [e, e1], h1, h3, h4⟩⟩⟩
/-- A slice of slices of integers, of any length. -/
def RdT0 (h : H) (v : Value) (l : List (List Int)) : Prop :=
  ∃ A c, v = .slice A l.length c ∧ l.length ≤ c ∧ l.length ≤ 9223372036854775807 ∧ (0 < l.length → ∃ b o, A = some ⟨b, o, none⟩ ∧ ∃ arr t fz, h b = some (.cells arr t fz) ∧
    ∀ j, j < l.length → ∃ sv, arr[o + j]? = some sv ∧ RdI0 h sv (l.getD j []))
theorem RdT0.toT {h : H} {v : Value} {l : List (List Int)} (r : RdT0 h v l) (hl : l.length ≤ 4294967296) (hi : ∀ a ∈ l, a.length ≤ 4294967296) : RdT h v l := by
  obtain ⟨A, c, e, _, _, hr⟩ := r
  refine ⟨A, c, e, hl, fun hp => ?_⟩
  obtain ⟨b, o, e1, arr, t, fz, h1, h2⟩ := hr hp
  refine ⟨b, o, e1, arr, t, fz, h1, fun j hj => ?_⟩
  obtain ⟨sv, h3, h4⟩ := h2 j hj
  refine ⟨sv, h3, h4.toI (hi _ ?_)⟩
  rw [List.getD_eq_getElem?_getD, List.getElem?_eq_getElem hj]
  exact List.getElem_mem hj
theorem RdS.to0 {h : H} {v : Value} {l : List Sy} (r : RdS h v l) : RdS0 h v l := by
  obtain ⟨A, c, e, hm, hr⟩ := r
  refine ⟨A, c, e, by omega, fun hp => ?_⟩
  obtain ⟨b, o, e1, arr, t, fz, h1, h2⟩ := hr hp
  exact ⟨b, o, e1, arr, t, fz, h1, fun j hj => by obtain ⟨sv, h3, h4, h5⟩ := h2 j hj; exact ⟨sv, h3, h4, h5.to0⟩⟩
section
variable {P : Program} {o : Oper} {F : List (Nat × Value)} {h : H} {L : List Own} {v : Value} {x y : Operand} {l : List Sy} {xs : List Int} {m : Int} {k : IntKind}
theorem s_lenI0 {t e : TypeId} (r : RdI0 h v xs) (ho : o.op = .call { callee := .builtin .len, args := #[x], argTypes := #[t] }) (hx : evF F x = some v) (ht : P.underlying t = some (.slice e)) : SoftOk P o F h L (.int .i64 xs.length) := by
  obtain ⟨A, c, e1, _⟩ := r
  subst e1
  exact s_len ho hx ht
theorem s_lenS0 {t e : TypeId} (r : RdS0 h v l) (ho : o.op = .call { callee := .builtin .len, args := #[x], argTypes := #[t] }) (hx : evF F x = some v) (ht : P.underlying t = some (.slice e)) : SoftOk P o F h L (.int .i64 l.length) := by
  obtain ⟨A, c, e1, _⟩ := r
  subst e1
  exact s_len ho hx ht
theorem s_iaS0 {t e : TypeId} (r : RdS0 h v l) (h0 : 0 ≤ m) (h1 : m < l.length) (ho : o.op = .indexAddr t x y) (hx : evF F x = some v) (hy : evF F y = some (.int k m)) (ht : P.underlying t = some (.slice e)) (hs : ∀ w, (sizeOf e).run P w = .ok 2 w) : SoftOk P o F h L (elemPtr 2 v m) := by
  obtain ⟨A, c, e1, _, hr⟩ := r
  obtain ⟨b, o', e2, _⟩ := hr (by omega)
  exact s_iav ho hx e1 (by rw [e2]; rfl) hy ht hs h0 h1
theorem s_iaI0 {t e : TypeId} (r : RdI0 h v xs) (h0 : 0 ≤ m) (h1 : m < xs.length) (ho : o.op = .indexAddr t x y) (hx : evF F x = some v) (hy : evF F y = some (.int k m)) (ht : P.underlying t = some (.slice e)) (hs : ∀ w, (sizeOf e).run P w = .ok 1 w) : SoftOk P o F h L (elemPtr 1 v m) := by
  obtain ⟨A, c, e1, _, hr⟩ := r
  obtain ⟨b, o', e2, _⟩ := hr (by omega)
  exact s_iav ho hx e1 (by rw [e2]; rfl) hy ht hs h0 h1
end
/-! ### arguments -/
/-- The memory of a world. -/
def memH (W : World) : H := fun b => W.heap[b]?
theorem cell_get {W : World} {b k : Nat} {sp : Option Nat} {v : Value} (h : W.cell? ⟨b, k, sp⟩ = some v) : sp = none ∧ ∃ arr t fz, memH W b = some (.cells arr t fz) ∧ arr[k]? = some v := by
  unfold World.cell? at h
  unfold memH
  dsimp only at h
  split at h
  · rename_i c t fz hb
    split at h
    · cases h
    · rename_i hs
      refine ⟨by simpa using hs, c, t, fz, hb, h⟩
  · cases h
theorem add_none0 (b o n : Nat) : (⟨b, o, none⟩ : Addr).add n = ⟨b, o + n, none⟩ := by
  unfold Addr.add
  split <;> simp_all
theorem choose_list {α : Type} (d : α) {p : Nat → α → Prop} : ∀ n : Nat, (∀ i, i < n → ∃ x, p i x) → ∃ l : List α, l.length = n ∧ ∀ i, i < n → p i (l.getD i d)
  | 0, _ => ⟨[], rfl, fun i h => by omega⟩
  | n + 1, h => by
    obtain ⟨l, hl, hp⟩ := choose_list d n fun i hi => h i (by omega)
    obtain ⟨x, hx⟩ := h n (by omega)
    refine ⟨l ++ [x], by simp [hl], fun i hi => ?_⟩
    by_cases e : i = n
    · subst e
      have : (l ++ [x]).getD i d = x := by rw [List.getD_eq_getElem?_getD, ← hl]; simp
      rw [this]; exact hx
    · have : (l ++ [x]).getD i d = l.getD i d := by rw [List.getD_eq_getElem?_getD, List.getElem?_append_left (by omega), ← List.getD_eq_getElem?_getD]
      rw [this]; exact hp i (by omega)
section
variable {H' : Type} {enc : TypeId × Value → H'} {P : Program} {W : World} {base : Nat} {sp : Nat → Bool} {held : Bool} {fuel : Nat} {t e : TypeId} {v : Value} {x : DataW H' × List MemPlace}
theorem rdI0_trod (ht : P.underlying t = some (.slice e)) (he : P.underlying e = some (.int .i64)) (hc : P.cellsOf e = 1) (h : DataW.trod enc P W base sp held fuel t [v] = some x) : ∃ xs, RdI0 (memH W) v xs := by
  rcases DataW.trod_slice ht h with ⟨hcs, _⟩ | ⟨a, len, cap, elems, rest, n, _, hcs, _, _, hl, hm, hlen, hel, _, _⟩
  · simp only [List.cons.injEq, and_true] at hcs
    subst hcs
    exact ⟨[], none, 0, rfl, by simp, fun h => absurd h (by simp)⟩
  · simp only [List.cons.injEq, and_true] at hcs
    subst hcs
    have each : ∀ i, i < len → ∃ z : Int, W.cell? (a.add i) = some (.int .i64 z) := fun i hi => by
      have h1 := hel i hi
      rw [hc, Nat.mul_one, List.getElem?_eq_getElem (by omega), Option.bind_eq_some_iff] at h1
      obtain ⟨cs, h2, h3⟩ := h1
      obtain ⟨z, rfl, _, _⟩ := DataW.trod_int he h3
      have h4 := (World.cells?_some h2).2.2 0 (by omega)
      refine ⟨z, ?_⟩
      have e0 : (a.add i).add 0 = a.add i := by simp [Addr.add]
      rw [e0] at h4
      exact h4
    obtain ⟨zs, hz, hzs⟩ := choose_list (0 : Int) len each
    subst hz
    refine ⟨zs, some a, cap, rfl, Nat.le_trans hl hm, fun hp => ?_⟩
    obtain ⟨b, o, s⟩ := a
    have h0 := hzs 0 hp
    have e0 : (⟨b, o, s⟩ : Addr).add 0 = ⟨b, o, s⟩ := by simp [Addr.add]
    rw [e0] at h0
    obtain ⟨rfl, arr, t', fz, hb, _⟩ := cell_get h0
    refine ⟨b, o, rfl, arr, t', fz, hb, fun j hj => ?_⟩
    have hj' := hzs j hj
    rw [add_none0] at hj'
    obtain ⟨_, arr', t'', fz', hb', hg⟩ := cell_get hj'
    rw [hb] at hb'
    cases hb'
    exact hg
theorem rdS0_trod {f0 f1 : Field} {e' : TypeId} (ht : P.underlying t = some (.slice e)) (he : P.underlying e = some (.struct #[f0, f1])) (hc : P.cellsOf e = 2) (ho0 : f0.offset = 0) (ho1 : f1.offset = 1) (hc0 : P.cellsOf f0.type = 1) (hc1 : P.cellsOf f1.type = 1)
    (h0 : P.underlying f0.type = some (.slice e')) (h1 : P.underlying f1.type = some .bool) (hi : P.underlying e' = some (.int .i64)) (hci : P.cellsOf e' = 1) (h : DataW.trod enc P W base sp held fuel t [v] = some x) : ∃ l, RdS0 (memH W) v l := by
  rcases DataW.trod_slice ht h with ⟨hcs, _⟩ | ⟨a, len, cap, elems, rest, n, _, hcs, _, _, hl, hm, hlen, hel, _, _⟩
  · simp only [List.cons.injEq, and_true] at hcs
    subst hcs
    exact ⟨[], none, 0, rfl, by simp, fun h => absurd h (by simp)⟩
  · simp only [List.cons.injEq, and_true] at hcs
    subst hcs
    have each : ∀ i, i < len → ∃ p : Sy, ∃ sv, W.cell? ((a.add (i * 2)).add 0) = some sv ∧ W.cell? ((a.add (i * 2)).add 1) = some (.bool p.2) ∧ RdI0 (memH W) sv p.1 := fun i hi' => by
      have h2 := hel i hi'
      rw [hc, List.getElem?_eq_getElem (by omega), Option.bind_eq_some_iff] at h2
      obtain ⟨cs, h3, h4⟩ := h2
      obtain ⟨_, hcl, hcell⟩ := World.cells?_some h3
      obtain ⟨xs, m, _, _, _, hxs, hf⟩ := DataW.trod_struct he h4
      match cs, hcl with
      | [c0, c1], _ =>
        have k0 := hf 0 f0 rfl
        have k1 := hf 1 f1 rfl
        simp only [List.size_toArray, List.length_cons, List.length_nil] at hxs
        rw [ho0, hc0, List.getElem?_eq_getElem (by omega)] at k0
        rw [ho1, hc1, List.getElem?_eq_getElem (by omega)] at k1
        obtain ⟨zs, hz⟩ := rdI0_trod h0 hi hci (v := c0) k0
        obtain ⟨bm, hb, _⟩ := DataW.trod_bool h1 k1
        simp only [List.drop_succ_cons, List.drop_zero, List.take_succ_cons, List.take_zero, List.cons.injEq, and_true] at hb
        subst hb
        exact ⟨(zs, bm), c0, hcell 0 (by omega), hcell 1 (by omega), hz⟩
    obtain ⟨l, hz, hzs⟩ := choose_list (([], false) : Sy) len each
    subst hz
    refine ⟨l, some a, cap, rfl, Nat.le_trans hl hm, fun hp => ?_⟩
    obtain ⟨b, o, s⟩ := a
    obtain ⟨sv0, c00, _, _⟩ := hzs 0 hp
    have e0 : ((⟨b, o, s⟩ : Addr).add (0 * 2)).add 0 = ⟨b, o, s⟩ := by simp [Addr.add]
    rw [e0] at c00
    obtain ⟨rfl, arr, t', fz, hb, _⟩ := cell_get c00
    refine ⟨b, o, rfl, arr, t', fz, hb, fun j hj => ?_⟩
    obtain ⟨sv, c0, c1, hr⟩ := hzs j hj
    rw [add_none0, add_none0] at c0 c1
    obtain ⟨_, a1, t1, z1, hb1, g1⟩ := cell_get c0
    rw [hb] at hb1
    cases hb1
    obtain ⟨_, a2, t2, z2, hb2, g2⟩ := cell_get c1
    rw [hb] at hb2
    cases hb2
    exact ⟨sv, g1, g2, hr⟩
theorem rdT0_trod {e' : TypeId} (ht : P.underlying t = some (.slice e)) (he : P.underlying e = some (.slice e')) (hc : P.cellsOf e = 1) (hi : P.underlying e' = some (.int .i64)) (hci : P.cellsOf e' = 1) (h : DataW.trod enc P W base sp held fuel t [v] = some x) : ∃ l, RdT0 (memH W) v l := by
  rcases DataW.trod_slice ht h with ⟨hcs, _⟩ | ⟨a, len, cap, elems, rest, n, _, hcs, _, _, hl, hm, hlen, hel, _, _⟩
  · simp only [List.cons.injEq, and_true] at hcs
    subst hcs
    exact ⟨[], none, 0, rfl, by simp, by simp, fun h => absurd h (by simp)⟩
  · simp only [List.cons.injEq, and_true] at hcs
    subst hcs
    have each : ∀ i, i < len → ∃ zs : List Int, ∃ sv, W.cell? (a.add i) = some sv ∧ RdI0 (memH W) sv zs := fun i hi' => by
      have h1 := hel i hi'
      rw [hc, Nat.mul_one, List.getElem?_eq_getElem (by omega), Option.bind_eq_some_iff] at h1
      obtain ⟨cs, h2, h3⟩ := h1
      obtain ⟨_, hcl, hcell⟩ := World.cells?_some h2
      match cs, hcl with
      | [c0], _ =>
        obtain ⟨zs, hz⟩ := rdI0_trod he hi hci (v := c0) h3
        have h4 := hcell 0 (by omega)
        have e0 : (a.add i).add 0 = a.add i := by simp [Addr.add]
        rw [e0] at h4
        exact ⟨zs, c0, h4, hz⟩
    obtain ⟨l, hz, hzs⟩ := choose_list ([] : List Int) len each
    subst hz
    refine ⟨l, some a, cap, rfl, hl, Nat.le_trans hl hm, fun hp => ?_⟩
    obtain ⟨b, o, s⟩ := a
    obtain ⟨sv0, c00, _⟩ := hzs 0 hp
    have e0 : (⟨b, o, s⟩ : Addr).add 0 = ⟨b, o, s⟩ := by simp [Addr.add]
    rw [e0] at c00
    obtain ⟨rfl, arr, t', fz, hb, _⟩ := cell_get c00
    refine ⟨b, o, rfl, arr, t', fz, hb, fun j hj => ?_⟩
    obtain ⟨sv, c0, hr⟩ := hzs j hj
    rw [add_none0] at c0
    obtain ⟨_, a1, t1, z1, hb1, g1⟩ := cell_get c0
    rw [hb] at hb1
    cases hb1
    exact ⟨sv, g1, hr⟩
end
end Go.Tal

/-
  Symbolic states: lookups without a second result.
-/
namespace Go.Tal
open Go.RowKit
theorem run_look1 {P : Program} {t k e : TypeId} {b : Nat} {s : ByteArray} {z : Value} {kvs : List (ByteArray × Value)} (ht : P.underlying t = some (.map k e)) (hk : P.underlying k = some .string) (hz : ∀ w, (zeroValue e).run P w = .ok z w) {w : World} (hb : w.heap[b]? = some (mapO kvs)) :
    (Instr.lookup t (.map (some b)) (.string s) false).run P w = .ok ((kvGet kvs s).getD z) w := by
  obtain ⟨r, h1, h2⟩ := run_findKey_str (s := s) hk kvs w
  have hg : (getObj b).run P w = .ok (mapO kvs) w := by simp [getObj, Sem.run, hb, mapO]
  simp only [Instr.lookup, Sem.run_bind, run_underlying ht, Result.andThen_ok, hg, mapO, Sem.run_pure, run_checkKey' hk, h1]
  rw [← h2]
  cases r with
  | none => simp [hz w]
  | some p => simp
theorem s_look1 {P : Program} {o : Oper} {F : List (Nat × Value)} {h : H} {L : List Own} {x y : Operand} {t k e : TypeId} {b : Nat} {s : ByteArray} {zv : Value} {kvs : List (ByteArray × Value)} (ho : o.op = .lookup t x y false) (hx : evF F x = some (.map (some b))) (hy : evF F y = some (.string s)) (ht : P.underlying t = some (.map k e)) (hk : P.underlying k = some .string) (hz : ∀ w, (zeroValue e).run P w = .ok zv w) (hm : MapAt h L b kvs) :
    SoftOk P o F h L ((kvGet kvs s).getD zv) := fun a w ha hw => by
  have h1 := agree_of ha (by rw [ho]; simp [Op.operands]) hx
  have h2 := agree_of ha (x := y) (by rw [ho]; simp [Op.operands]) hy
  have hw : Sat h L w := by
    rcases hw with hw | hw
    · simp [cls, ho] at hw
    · exact hw
  simp only [execOp, ho, h1, h2]
  exact run_v (run_look1 ht hk hz (hm.at_ hw))
theorem kvGet_put {kvs : List (ByteArray × Value)} {s t : ByteArray} {v : Value} : kvGet (kvPut kvs s v) t = if t == s then some v else kvGet kvs t := by
  induction kvs with
  | nil => simp only [kvPut, kvGet, List.find?_cons, List.find?_nil]; cases t == s <;> rfl
  | cons p r ih =>
    obtain ⟨k, u⟩ := p
    simp only [kvPut]
    by_cases h : s == k
    · rw [if_pos h]
      have e : s = k := (MapKept.bytes_beq s k).1 h
      subst e
      simp only [kvGet, List.find?_cons]
      cases t == s <;> rfl
    · rw [if_neg h]
      simp only [kvGet, List.find?_cons] at ih ⊢
      by_cases h2 : t == k
      · have e : t = k := (MapKept.bytes_beq t k).1 h2
        subst e
        have h3 : (t == s) = false := by
          rw [Bool.eq_false_iff]; intro h4; apply h
          have e2 : t = s := (MapKept.bytes_beq t s).1 h4
          subst e2; exact h2
        rw [h2, h3]; rfl
      · rw [Bool.not_eq_true] at h2
        rw [h2]
        exact ih
end Go.Tal

/-
  Symbolic states: a row of one's own is lent to a call that reads it; lists of rows.
-/
namespace Go.Tal
open Go.RowKit
theorem Mem.self_ {P : Program} {h : H} {L : List Own} {w : World} (hs : Sat h L w) : Mem (ctxM P w h L 0) h L w := ⟨hs, fun _ hx _ hb => .inr (blk_mem hx hb), fun _ _ => rfl, ⟨rfl, rfl, rfl, Nat.le_refl _, Nat.le_refl _, fun _ _ _ => rfl⟩⟩
/-- A row of integers is read by a call. -/
theorem fnM_lend {P : Program} {f : FuncId} {args : Array Value} {h : H} {v r : Value} {e : TypeId} {n : Nat} {xs : List Int} (hn : n ≤ 4294967296) (hf : ∀ h', (∀ b o, h b = some o → h' b = some o) → RdI h' v xs → FnV P f args h' r) :
    FnM P f args h [.row v e 1 n (xs.map (Value.int .i64))] fun u h' L' => (u = r ∧ h' = h) ∧ L' = [.row v e 1 n (xs.map (Value.int .i64))] := by
  intro w hs
  have key : ∃ h1 : H, (∀ b o, h b = some o → h1 b = some o) ∧ (∀ b o, h1 b = some o → w.heap[b]? = some o) ∧ RdI h1 v xs := by
    have hin : w.ownsRow 0 e 1 v n (xs.map (Value.int .i64)) := hs.own _ List.mem_cons_self
    have hl : xs.length = n := by have := hin.1; simpa using this
    rcases hin.2 with ⟨h1, h2⟩ | ⟨g, cap, cur, h1, _, hg, _, _, hsz, htk⟩
    · exact ⟨h, fun _ _ hb => hb, hs.imm, none, 0, by rw [hl, h2]; exact h1, by omega, fun hp => by omega⟩
    · have hhb : h g = none := hs.off _ List.mem_cons_self g (by subst h1; rfl)
      refine ⟨updH h g w.heap[g]?, upd_mono hhb, fun b o hb => ?_, ?_⟩
      · unfold updH at hb
        split at hb
        · rename_i e; rw [e]; exact hb
        · exact hs.imm b o hb
      · refine ⟨some ⟨g, 0, none⟩, cap, by rw [hl]; exact h1, by omega, fun hp => ⟨g, 0, rfl, cur, e, (0, 0), by simp [updH, hg], fun j hj => ?_⟩⟩
        have := congrArg (fun l => l[j]?) htk
        simp only [List.getElem?_take, List.getElem?_map, List.getElem?_eq_getElem hj, Option.map_some] at this
        rw [if_pos (by omega)] at this
        rw [Nat.zero_add]
        simpa [List.getD_eq_getElem?_getD, List.getElem?_eq_getElem hj] using this
  obtain ⟨h1, e1, e2, e3⟩ := key
  refine (hf h1 e1 e3 w e2).mono fun ex w' ⟨u, h2, he, hr, k1, k2, k3⟩ => ⟨u, h, _, he, ⟨⟨hr, rfl⟩, rfl⟩, ?_⟩
  refine (Mem.self_ hs).call (fun b o hb => ?_) (fun _ _ => rfl) k3
  have hb1 := hs.imm b o hb
  rw [k3.block b (Array.getElem?_eq_some_iff.1 hb1).1 (by simp)]
  exact hb1
theorem Swap.map_at {α : Type} {f : α → Own} {y z : α} : ∀ {l : List α} {i : Nat}, l[i]? = some y → Swap (f y) (f z) (l.map f) ((l.set i z).map f)
  | [], _, h => by cases h
  | x :: l, 0, h => by
    simp only [List.getElem?_cons_zero, Option.some.injEq] at h
    subst h
    exact Swap.here
  | x :: l, i + 1, h => by
    simp only [List.getElem?_cons_succ] at h
    exact Swap.there (Swap.map_at h)
theorem Pick.mid {X : Own} {M : List Own} : ∀ (L : List Own), Pick X (L ++ X :: M) (L ++ M)
  | [] => .here
  | _ :: L => .there (Pick.mid L)
theorem WP.nilrows {C : Ctx} {Q : Exit → S → Prop} {c : Code} {F : List (Nat × Value)} {h : H} {L : List Own} (e : TypeId) (sz : Nat) : ∀ (n : Nat), WP C c Q ⟨F, h, L ++ List.replicate n (.row (.slice none 0 0) e sz 0 [])⟩ → WP C c Q ⟨F, h, L⟩
  | 0, k => by simpa using k
  | n + 1, k => by
    refine WP.nilrow e sz (WP.nilrows e sz n ?_)
    intro ro m M hG a w hs
    exact k ro m M hG a w (St.map (s := ⟨F, h, .row (.slice none 0 0) e sz 0 [] :: L ++ List.replicate n (.row (.slice none 0 0) e sz 0 [])⟩) (t := ⟨F, h, L ++ List.replicate (n + 1) (.row (.slice none 0 0) e sz 0 [])⟩) (fun _ _ hv => hv) (fun N m => m.perm (List.Perm.append_right N (by rw [List.replicate_succ]; exact List.perm_middle.symm))) hs)
/-- Rows of values that are read as lists. -/
abbrev Bkt := Value × List Value × List (List Int)
def bktRow (b : Bkt) : Own := .row b.1 35 1 b.2.1.length b.2.1
def BktOk (h : H) (b : Bkt) : Prop := b.2.2.length = b.2.1.length ∧ (∀ j, j < b.2.1.length → ∃ sv, b.2.1[j]? = some sv ∧ RdI h sv (b.2.2.getD j [])) ∧ b.2.1.length ≤ 4294967296
theorem BktOk.mono {h h' : H} {b : Bkt} (r : BktOk h b) (hh : ∀ b o, h b = some o → h' b = some o) : BktOk h' b := ⟨r.1, fun j hj => by obtain ⟨sv, h1, h2⟩ := r.2.1 j hj; exact ⟨sv, h1, h2.mono hh⟩, r.2.2⟩
theorem WP.letTs {C : Ctx} {Q : Exit → S → Prop} {c : Code} {F : List (Nat × Value)} (hI : C.I = []) : ∀ (bs : List Bkt) {h : H} {L : List Own}, (∀ b ∈ bs, BktOk h b) → (∀ h', (∀ b o, h b = some o → h' b = some o) → (∀ b ∈ bs, RdT h' b.1 b.2.2) → WP C c Q ⟨F, h', L⟩) → WP C c Q ⟨F, h, L ++ bs.map bktRow⟩
  | [], h, L, _, k => by simpa using k h (fun _ _ hb => hb) (fun b hb => by cases hb)
  | b :: bs, h, L, hb, k => by
    rw [List.map_cons]
    have hb0 := hb b List.mem_cons_self
    refine WP.letT b.2.2 hI (Pick.mid L) hb0.2.2 hb0.1 hb0.2.1 fun h1 hh1 hr => ?_
    refine WP.letTs hI bs (fun c hc => (hb c (List.mem_cons_of_mem _ hc)).mono hh1) fun h2 hh2 hr2 => ?_
    refine k h2 (fun b o hb => hh2 _ _ (hh1 _ _ hb)) fun c hc => ?_
    rcases List.mem_cons.1 hc with rfl | hc
    · exact hr.mono hh2
    · exact hr2 c hc
theorem stepR_scope {P : Program} {b : Frame} {a : Act} {k : List Item} {cs : List Frame} {w : World} {c : Code} : step P (lone (b.atR a (.code (.scope c) :: k)) cs w) = .next (lone (b.atR a (.code c :: .inScope c :: k)) cs w) :=
  step_lone_go (by simp [stepG, stepG.exec, Frame.atR])
theorem stepR_inScope {P : Program} {b : Frame} {a : Act} {k : List Item} {cs : List Frame} {w : World} {c : Code} : step P (lone (b.atR a (.inScope c :: k)) cs w) = .next (lone (b.atR a k) cs w) :=
  step_lone_go (by simp [stepG, stepG.exec, Frame.atR])
/-- A scope that is run through without a jump. -/
theorem wpIn_scope_straight {F : Fence} {n : Nat} {P : Program} {Q : Exit → Act → World → Prop} {a : Act} {w : World} {c : Code} (h : c.wpIn F n P (Exit.noGoto Q) a w) : (Code.scope c).wpIn F n P Q a w := by
  intro b k cs hro hb hr
  have h0 : (lone (b.atR a (.code (.scope c) :: k)) cs w).fenced P F := fenced_calm hb hr rfl
  obtain ⟨e, a₁, w₁, hq, harr⟩ := h b (.inScope c :: k) cs hro hb hr
  cases e with
  | normal => exact ⟨.normal, a₁, w₁, hq, .head h0 stepR_scope (StepsIn.trans harr (.one (fenced_calm hb hr rfl) stepR_inScope))⟩
  | exit id =>
    have hx : exitTo id (.inScope c :: k) = exitTo id k := by simp [exitTo]
    exact ⟨_, a₁, w₁, hq, fun k' hk => .head h0 stepR_scope (harr.1 k' (by rw [hx]; exact hk)),
      fun hr' hk => let ⟨k₁, h1, h2⟩ := harr.2 hr' (by rw [hx]; exact hk); ⟨k₁, h1, .head h0 stepR_scope h2⟩⟩
  | goto l => exact hq.elim
  | ret => exact ⟨_, a₁, w₁, hq, .of_steps (.one h0 stepR_scope) harr⟩
  | panic ch => exact ⟨_, a₁, w₁, hq, .of_steps (.one h0 stepR_scope) harr⟩
  | outgrown => exact ⟨_, a₁, w₁, hq, .of_steps (.one h0 stepR_scope) harr⟩
def noGo (Q : Exit → S → Prop) : Exit → S → Prop
  | .goto _, _ => False
  | e, s => Q e s
theorem wp_scope' {C : Ctx} {Q : Exit → S → Prop} {s : S} {c : Code} (h : WP C c (noGo Q) s) : WP C (.scope c) Q s := by
  intro ro m M hG a w hs
  refine wpIn_scope_straight (Go.wpIn_mono (h ro m M hG a w hs) fun e a' w' ⟨s', h1, h2⟩ => ?_)
  cases e with
  | goto l => exact h2.elim
  | _ => exact ⟨s', h1, h2⟩
theorem wp_label' {C : Ctx} {Q : Exit → S → Prop} {s : S} {l : Nat} (h : Q .normal s) : WP C (.label l) Q s := fun _ _ _ _ _ _ hs => Go.wpIn_label ⟨s, hs, h⟩
end Go.Tal

namespace Go.Proofs
open Go.Shelf
def Tryz.len64L_ren : Go.Shelf.Ren := ⟨fun | 129 => 213 | n => n, fun | 53 => 225 | 3 => 3 | 4 => 4 | 46 => 176 | 5 => 5 | 9 => 9 | n => n, fun | n => n⟩
theorem Tryz.len64L : Go.Proofs.Lays.n129 Tryz.prog Tryz.len64L_ren := {
  mixed := by kernel_rfl
  f129 := Tryz.func213.trans (congrArg some (by kernel_rfl))
  t3 := Tryz.underlying3
  a3 := Tryz.isAgg3
  z3 := Tryz.sizeOf3
  v3 := Tryz.zeroValue3
  t4 := Tryz.underlying4
  a4 := Tryz.isAgg4
  z4 := Tryz.sizeOf4
  v4 := Tryz.zeroValue4
  t5 := Tryz.underlying5
  a5 := Tryz.isAgg5
  z5 := Tryz.sizeOf5
  v5 := Tryz.zeroValue5
  t9 := Tryz.underlying9
  a9 := Tryz.isAgg9
  z9 := Tryz.sizeOf9
  v9 := Tryz.zeroValue9
  t46 := Tryz.underlying176
  a46 := Tryz.isAgg176
  z46 := Tryz.sizeOf176
  v46 := Tryz.zeroValue176
  t53 := Tryz.underlying225
  a53 := Tryz.isAgg225
  z53 := Tryz.sizeOf225
  v53 := Tryz.zeroValue225 }
def Tryz.lz64L_ren : Go.Shelf.Ren := ⟨fun | 134 => 261 | 129 => 213 | n => n, fun | 53 => 225 | 3 => 3 | 4 => 4 | 46 => 176 | 5 => 5 | 9 => 9 | n => n, fun | n => n⟩
theorem Tryz.lz64L : Go.Proofs.Lays.n134 Tryz.prog Tryz.lz64L_ren := {
  mixed := by kernel_rfl
  f129 := Tryz.func213.trans (congrArg some (by kernel_rfl))
  f134 := Tryz.func261.trans (congrArg some (by kernel_rfl))
  t3 := Tryz.underlying3
  a3 := Tryz.isAgg3
  z3 := Tryz.sizeOf3
  v3 := Tryz.zeroValue3
  t4 := Tryz.underlying4
  a4 := Tryz.isAgg4
  z4 := Tryz.sizeOf4
  v4 := Tryz.zeroValue4
  t5 := Tryz.underlying5
  a5 := Tryz.isAgg5
  z5 := Tryz.sizeOf5
  v5 := Tryz.zeroValue5
  t9 := Tryz.underlying9
  a9 := Tryz.isAgg9
  z9 := Tryz.sizeOf9
  v9 := Tryz.zeroValue9
  t46 := Tryz.underlying176
  a46 := Tryz.isAgg176
  z46 := Tryz.sizeOf176
  v46 := Tryz.zeroValue176
  t53 := Tryz.underlying225
  a53 := Tryz.isAgg225
  z53 := Tryz.sizeOf225
  v53 := Tryz.zeroValue225 }
def Tryz.mul64L_ren : Go.Shelf.Ren := ⟨fun | 264 => 224 | n => n, fun | 53 => 225 | 46 => 176 | n => n, fun | n => n⟩
theorem Tryz.mul64L : Go.Proofs.Lays.n264 Tryz.prog Tryz.mul64L_ren := {
  mixed := by kernel_rfl
  f264 := Tryz.func224.trans (congrArg some (by kernel_rfl))
  t46 := Tryz.underlying176
  a46 := Tryz.isAgg176
  z46 := Tryz.sizeOf176
  v46 := Tryz.zeroValue176
  t53 := Tryz.underlying225
  a53 := Tryz.isAgg225
  z53 := Tryz.sizeOf225
  v53 := Tryz.zeroValue225 }
def Tryz.itoaL_ren : Go.Shelf.Ren := ⟨fun | 171 => 230 | 243 => 265 | 246 => 286 | 283 => 287 | 284 => 288 | 285 => 289 | 286 => 290 | 129 => 213 | 317 => 298 | 318 => 299 | 319 => 300 | 320 => 301 | 337 => 304 | 338 => 305 | n => n, fun | 3 => 3 | 9 => 9 | 2 => 2 | 4 => 4 | 171 => 281 | 0 => 0 | 53 => 225 | 37 => 204 | 5 => 5 | 173 => 283 | 212 => 293 | 51 => 223 | 20 => 20 | 213 => 294 | 46 => 176 | 232 => 297 | 233 => 298 | n => n, fun | 17 => 2 | 18 => 4 | 19 => 5 | n => n⟩
theorem Tryz.itoaL : Go.Proofs.Lays.n171 Tryz.prog Tryz.itoaL_ren := {
  mixed := by kernel_rfl
  f129 := Tryz.func213.trans (congrArg some (by kernel_rfl))
  f171 := Tryz.func230.trans (congrArg some (by kernel_rfl))
  f243 := Tryz.func265.trans (congrArg some (by kernel_rfl))
  f246 := Tryz.func286.trans (congrArg some (by kernel_rfl))
  f283 := Tryz.func287.trans (congrArg some (by kernel_rfl))
  f284 := Tryz.func288.trans (congrArg some (by kernel_rfl))
  f285 := Tryz.func289.trans (congrArg some (by kernel_rfl))
  f286 := Tryz.func290.trans (congrArg some (by kernel_rfl))
  f317 := Tryz.func298.trans (congrArg some (by kernel_rfl))
  f318 := Tryz.func299.trans (congrArg some (by kernel_rfl))
  f319 := Tryz.func300.trans (congrArg some (by kernel_rfl))
  f320 := Tryz.func301.trans (congrArg some (by kernel_rfl))
  f337 := Tryz.func304.trans (congrArg some (by kernel_rfl))
  f338 := Tryz.func305.trans (congrArg some (by kernel_rfl))
  t0 := Tryz.underlying0
  a0 := Tryz.isAgg0
  z0 := Tryz.sizeOf0
  v0 := Tryz.zeroValue0
  t2 := Tryz.underlying2
  a2 := Tryz.isAgg2
  z2 := Tryz.sizeOf2
  v2 := Tryz.zeroValue2
  t3 := Tryz.underlying3
  a3 := Tryz.isAgg3
  z3 := Tryz.sizeOf3
  v3 := Tryz.zeroValue3
  t4 := Tryz.underlying4
  a4 := Tryz.isAgg4
  z4 := Tryz.sizeOf4
  v4 := Tryz.zeroValue4
  t5 := Tryz.underlying5
  a5 := Tryz.isAgg5
  z5 := Tryz.sizeOf5
  v5 := Tryz.zeroValue5
  t9 := Tryz.underlying9
  a9 := Tryz.isAgg9
  z9 := Tryz.sizeOf9
  v9 := Tryz.zeroValue9
  t20 := Tryz.underlying20
  a20 := Tryz.isAgg20
  z20 := Tryz.sizeOf20
  v20 := Tryz.zeroValue20
  t37 := Tryz.underlying204
  a37 := Tryz.isAgg204
  z37 := Tryz.sizeOf204
  v37 := Tryz.zeroValue204
  t46 := Tryz.underlying176
  a46 := Tryz.isAgg176
  z46 := Tryz.sizeOf176
  v46 := Tryz.zeroValue176
  t51 := Tryz.underlying223
  a51 := Tryz.isAgg223
  z51 := Tryz.sizeOf223
  v51 := Tryz.zeroValue223
  t53 := Tryz.underlying225
  a53 := Tryz.isAgg225
  z53 := Tryz.sizeOf225
  v53 := Tryz.zeroValue225
  t171 := Tryz.underlying281
  a171 := Tryz.isAgg281
  z171 := Tryz.sizeOf281
  v171 := Tryz.zeroValue281
  t173 := Tryz.underlying283
  a173 := Tryz.isAgg283
  z173 := Tryz.sizeOf283
  v173 := Tryz.zeroValue283
  t212 := Tryz.underlying293
  a212 := Tryz.isAgg293
  z212 := Tryz.sizeOf293
  v212 := Tryz.zeroValue293
  t213 := Tryz.underlying294
  a213 := Tryz.isAgg294
  z213 := Tryz.sizeOf294
  t232 := Tryz.underlying297
  a232 := Tryz.isAgg297
  z232 := Tryz.sizeOf297
  v232 := Tryz.zeroValue297
  t233 := Tryz.underlying298
  a233 := Tryz.isAgg298
  z233 := Tryz.sizeOf298
  v233 := Tryz.zeroValue298
  g17 := by kernel_rfl
  g18 := by kernel_rfl
  g19 := by kernel_rfl }
def Tryz.itoaM_ren : Go.Shelf.Ren := ⟨fun | 171 => 230 | 243 => 265 | 246 => 286 | 283 => 287 | 284 => 288 | 285 => 289 | 286 => 290 | 129 => 213 | 317 => 298 | 318 => 299 | 319 => 300 | 320 => 301 | 337 => 304 | 338 => 305 | n => n, fun | 3 => 3 | 9 => 9 | 2 => 2 | 4 => 4 | 171 => 281 | 0 => 0 | 53 => 225 | 37 => 204 | 5 => 5 | 173 => 283 | 212 => 293 | 51 => 223 | 20 => 20 | 213 => 294 | 46 => 176 | 232 => 297 | 233 => 298 | n => n, fun | 17 => 2 | 18 => 4 | 19 => 5 | n => n⟩
theorem Tryz.itoaM : Go.Proofs.LaysM.n171 Tryz.prog Tryz.itoaM_ren := {
  mixed := by kernel_rfl
  f129 := Tryz.func213.trans (congrArg some (by kernel_rfl))
  f171 := Tryz.func230.trans (congrArg some (by kernel_rfl))
  f243 := Tryz.func265.trans (congrArg some (by kernel_rfl))
  f246 := Tryz.func286.trans (congrArg some (by kernel_rfl))
  f283 := Tryz.func287.trans (congrArg some (by kernel_rfl))
  f284 := Tryz.func288.trans (congrArg some (by kernel_rfl))
  f285 := Tryz.func289.trans (congrArg some (by kernel_rfl))
  f286 := Tryz.func290.trans (congrArg some (by kernel_rfl))
  f317 := Tryz.func298.trans (congrArg some (by kernel_rfl))
  f318 := Tryz.func299.trans (congrArg some (by kernel_rfl))
  f319 := Tryz.func300.trans (congrArg some (by kernel_rfl))
  f320 := Tryz.func301.trans (congrArg some (by kernel_rfl))
  f337 := Tryz.func304.trans (congrArg some (by kernel_rfl))
  f338 := Tryz.func305.trans (congrArg some (by kernel_rfl))
  t0 := Tryz.underlying0
  a0 := Tryz.isAgg0
  z0 := Tryz.sizeOf0
  v0 := Tryz.zeroValue0
  t2 := Tryz.underlying2
  a2 := Tryz.isAgg2
  z2 := Tryz.sizeOf2
  v2 := Tryz.zeroValue2
  t3 := Tryz.underlying3
  a3 := Tryz.isAgg3
  z3 := Tryz.sizeOf3
  v3 := Tryz.zeroValue3
  t4 := Tryz.underlying4
  a4 := Tryz.isAgg4
  z4 := Tryz.sizeOf4
  v4 := Tryz.zeroValue4
  t5 := Tryz.underlying5
  a5 := Tryz.isAgg5
  z5 := Tryz.sizeOf5
  v5 := Tryz.zeroValue5
  t9 := Tryz.underlying9
  a9 := Tryz.isAgg9
  z9 := Tryz.sizeOf9
  v9 := Tryz.zeroValue9
  t20 := Tryz.underlying20
  a20 := Tryz.isAgg20
  z20 := Tryz.sizeOf20
  v20 := Tryz.zeroValue20
  t37 := Tryz.underlying204
  a37 := Tryz.isAgg204
  z37 := Tryz.sizeOf204
  v37 := Tryz.zeroValue204
  t46 := Tryz.underlying176
  a46 := Tryz.isAgg176
  z46 := Tryz.sizeOf176
  v46 := Tryz.zeroValue176
  t51 := Tryz.underlying223
  a51 := Tryz.isAgg223
  z51 := Tryz.sizeOf223
  v51 := Tryz.zeroValue223
  t53 := Tryz.underlying225
  a53 := Tryz.isAgg225
  z53 := Tryz.sizeOf225
  v53 := Tryz.zeroValue225
  t171 := Tryz.underlying281
  a171 := Tryz.isAgg281
  z171 := Tryz.sizeOf281
  v171 := Tryz.zeroValue281
  t173 := Tryz.underlying283
  a173 := Tryz.isAgg283
  z173 := Tryz.sizeOf283
  v173 := Tryz.zeroValue283
  t212 := Tryz.underlying293
  a212 := Tryz.isAgg293
  z212 := Tryz.sizeOf293
  v212 := Tryz.zeroValue293
  t213 := Tryz.underlying294
  a213 := Tryz.isAgg294
  z213 := Tryz.sizeOf294
  t232 := Tryz.underlying297
  a232 := Tryz.isAgg297
  z232 := Tryz.sizeOf297
  v232 := Tryz.zeroValue297
  t233 := Tryz.underlying298
  a233 := Tryz.isAgg298
  z233 := Tryz.sizeOf298
  v233 := Tryz.zeroValue298
  g17 := by kernel_rfl
  g18 := by kernel_rfl
  g19 := by kernel_rfl
  i0 := by kernel_rfl
  i2 := by kernel_rfl
  i3 := by kernel_rfl
  i4 := by kernel_rfl
  i5 := by kernel_rfl
  i9 := by kernel_rfl
  i20 := by kernel_rfl
  i37 := by kernel_rfl
  i46 := by kernel_rfl
  i51 := by kernel_rfl
  i53 := by kernel_rfl
  i171 := by kernel_rfl
  i173 := by kernel_rfl
  i212 := by kernel_rfl
  i232 := by kernel_rfl
  i233 := by kernel_rfl
  m17 := by kernel_rfl
  m18 := by kernel_rfl
  m19 := by kernel_rfl }
def Tryz.trimPrefixL_ren : Go.Shelf.Ren := ⟨fun | 101 => 229 | 208 => 264 | 206 => 285 | n => n, fun | 9 => 9 | 4 => 4 | 3 => 3 | n => n, fun | n => n⟩
theorem Tryz.trimPrefixL : Go.Proofs.Lays.n101 Tryz.prog Tryz.trimPrefixL_ren := {
  mixed := by kernel_rfl
  f101 := Tryz.func229.trans (congrArg some (by kernel_rfl))
  f206 := Tryz.func285.trans (congrArg some (by kernel_rfl))
  f208 := Tryz.func264.trans (congrArg some (by kernel_rfl))
  t3 := Tryz.underlying3
  a3 := Tryz.isAgg3
  z3 := Tryz.sizeOf3
  v3 := Tryz.zeroValue3
  t4 := Tryz.underlying4
  a4 := Tryz.isAgg4
  z4 := Tryz.sizeOf4
  v4 := Tryz.zeroValue4
  t9 := Tryz.underlying9
  a9 := Tryz.isAgg9
  z9 := Tryz.sizeOf9
  v9 := Tryz.zeroValue9 }
def Tryz.repeatL_ren : Go.Shelf.Ren := ⟨fun | 105 => 232 | 212 => 267 | 99 => 268 | 165 => 269 | 166 => 233 | 170 => 270 | 169 => 234 | 263 => 291 | 264 => 224 | 206 => 285 | 240 => 271 | 241 => 292 | 276 => 293 | 277 => 302 | n => n, fun | 9 => 9 | 3 => 3 | 4 => 4 | 20 => 20 | 0 => 0 | 46 => 176 | 109 => 266 | 5 => 5 | 72 => 242 | 76 => 245 | 51 => 223 | 146 => 285 | 53 => 225 | 148 => 229 | 70 => 240 | 37 => 204 | 75 => 244 | 127 => 269 | 164 => 287 | 80 => 151 | n => n, fun | n => n⟩
theorem Tryz.repeatL : Go.Proofs.Lays.n105 Tryz.prog Tryz.repeatL_ren := {
  mixed := by kernel_rfl
  f99 := Tryz.func268.trans (congrArg some (by kernel_rfl))
  f105 := Tryz.func232.trans (congrArg some (by kernel_rfl))
  f165 := Tryz.func269.trans (congrArg some (by kernel_rfl))
  f166 := Tryz.func233.trans (congrArg some (by kernel_rfl))
  f169 := Tryz.func234.trans (congrArg some (by kernel_rfl))
  f170 := Tryz.func270.trans (congrArg some (by kernel_rfl))
  f206 := Tryz.func285.trans (congrArg some (by kernel_rfl))
  f212 := Tryz.func267.trans (congrArg some (by kernel_rfl))
  f240 := Tryz.func271.trans (congrArg some (by kernel_rfl))
  f241 := Tryz.func292.trans (congrArg some (by kernel_rfl))
  f263 := Tryz.func291.trans (congrArg some (by kernel_rfl))
  f264 := Tryz.func224.trans (congrArg some (by kernel_rfl))
  f276 := Tryz.func293.trans (congrArg some (by kernel_rfl))
  f277 := Tryz.func302.trans (congrArg some (by kernel_rfl))
  t0 := Tryz.underlying0
  a0 := Tryz.isAgg0
  z0 := Tryz.sizeOf0
  v0 := Tryz.zeroValue0
  t3 := Tryz.underlying3
  a3 := Tryz.isAgg3
  z3 := Tryz.sizeOf3
  v3 := Tryz.zeroValue3
  t4 := Tryz.underlying4
  a4 := Tryz.isAgg4
  z4 := Tryz.sizeOf4
  v4 := Tryz.zeroValue4
  t5 := Tryz.underlying5
  a5 := Tryz.isAgg5
  z5 := Tryz.sizeOf5
  v5 := Tryz.zeroValue5
  t9 := Tryz.underlying9
  a9 := Tryz.isAgg9
  z9 := Tryz.sizeOf9
  v9 := Tryz.zeroValue9
  t20 := Tryz.underlying20
  a20 := Tryz.isAgg20
  z20 := Tryz.sizeOf20
  v20 := Tryz.zeroValue20
  t37 := Tryz.underlying204
  a37 := Tryz.isAgg204
  z37 := Tryz.sizeOf204
  v37 := Tryz.zeroValue204
  t46 := Tryz.underlying176
  a46 := Tryz.isAgg176
  z46 := Tryz.sizeOf176
  v46 := Tryz.zeroValue176
  t51 := Tryz.underlying223
  a51 := Tryz.isAgg223
  z51 := Tryz.sizeOf223
  v51 := Tryz.zeroValue223
  t53 := Tryz.underlying225
  a53 := Tryz.isAgg225
  z53 := Tryz.sizeOf225
  v53 := Tryz.zeroValue225
  t70 := Tryz.underlying240
  a70 := Tryz.isAgg240
  z70 := Tryz.sizeOf240
  v70 := Tryz.zeroValue240
  t72 := Tryz.underlying242
  a72 := Tryz.isAgg242
  z72 := Tryz.sizeOf242
  v72 := Tryz.zeroValue242
  t75 := Tryz.underlying244
  a75 := Tryz.isAgg244
  z75 := Tryz.sizeOf244
  v75 := Tryz.zeroValue244
  t76 := Tryz.underlying245
  a76 := Tryz.isAgg245
  z76 := Tryz.sizeOf245
  v76 := Tryz.zeroValue245
  t109 := Tryz.underlying266
  a109 := Tryz.isAgg266
  z109 := Tryz.sizeOf266
  v109 := Tryz.zeroValue266
  t127 := Tryz.underlying269
  a127 := Tryz.isAgg269
  z127 := Tryz.sizeOf269
  v127 := Tryz.zeroValue269
  t146 := Tryz.underlying285
  a146 := Tryz.isAgg285
  z146 := Tryz.sizeOf285
  v146 := Tryz.zeroValue285
  t148 := Tryz.underlying229
  a148 := Tryz.isAgg229
  z148 := Tryz.sizeOf229
  v148 := Tryz.zeroValue229
  t164 := Tryz.underlying287
  a164 := Tryz.isAgg287
  z164 := Tryz.sizeOf287
  v164 := Tryz.zeroValue287 }
def Tryz.builderStringL_ren : Go.Shelf.Ren := ⟨fun | 169 => 234 | n => n, fun | 70 => 240 | 9 => 9 | 0 => 0 | 72 => 242 | 37 => 204 | 127 => 269 | 3 => 3 | 5 => 5 | n => n, fun | n => n⟩
theorem Tryz.builderStringL : Go.Proofs.Lays.n169 Tryz.prog Tryz.builderStringL_ren := {
  mixed := by kernel_rfl
  f169 := Tryz.func234.trans (congrArg some (by kernel_rfl))
  t0 := Tryz.underlying0
  a0 := Tryz.isAgg0
  z0 := Tryz.sizeOf0
  v0 := Tryz.zeroValue0
  t3 := Tryz.underlying3
  a3 := Tryz.isAgg3
  z3 := Tryz.sizeOf3
  v3 := Tryz.zeroValue3
  t9 := Tryz.underlying9
  a9 := Tryz.isAgg9
  z9 := Tryz.sizeOf9
  v9 := Tryz.zeroValue9
  t37 := Tryz.underlying204
  a37 := Tryz.isAgg204
  z37 := Tryz.sizeOf204
  v37 := Tryz.zeroValue204
  t70 := Tryz.underlying240
  a70 := Tryz.isAgg240
  z70 := Tryz.sizeOf240
  v70 := Tryz.zeroValue240
  t72 := Tryz.underlying242
  a72 := Tryz.isAgg242
  z72 := Tryz.sizeOf242
  v72 := Tryz.zeroValue242
  t127 := Tryz.underlying269
  a127 := Tryz.isAgg269
  z127 := Tryz.sizeOf269
  v127 := Tryz.zeroValue269 }
def Tryz.add64L_ren : Go.Shelf.Ren := ⟨fun | 25 => 221 | n => n, fun | 22 => 225 | n => n, fun | n => n⟩
theorem Tryz.add64L : Go.Proofs.Lays7.n25 Tryz.prog Tryz.add64L_ren := {
  mixed := by kernel_rfl
  f25 := Tryz.func221.trans (congrArg some (by kernel_rfl))
  t22 := Tryz.underlying225
  a22 := Tryz.isAgg225
  z22 := Tryz.sizeOf225
  v22 := Tryz.zeroValue225
  i22 := by kernel_rfl }
def Tryz.sub64L_ren : Go.Shelf.Ren := ⟨fun | 26 => 223 | n => n, fun | 22 => 225 | n => n, fun | n => n⟩
theorem Tryz.sub64L : Go.Proofs.Lays7.n26 Tryz.prog Tryz.sub64L_ren := {
  mixed := by kernel_rfl
  f26 := Tryz.func223.trans (congrArg some (by kernel_rfl))
  t22 := Tryz.underlying225
  a22 := Tryz.isAgg225
  z22 := Tryz.sizeOf225
  v22 := Tryz.zeroValue225
  i22 := by kernel_rfl }
end Go.Proofs

/-
  Symbolic states: values of four cells, results of two cells each, min and max; the library's contracts as functions' contracts.
-/
namespace Go.Tal
open Go.RowKit
section
variable {P : Program} {o : Oper} {F : List (Nat × Value)} {h : H} {L : List Own} {v0 v1 v2 v3 : Value} {x y : Operand}
theorem s_ld4 {t : TypeId} {b o' : Nat} (ho : o.op = .load t x) (hx : evF F x = some (.pointer (some ⟨b, o', none⟩))) (hg : ∀ w, (isAgg t).run P w = .ok true w) (hs : ∀ w, (sizeOf t).run P w = .ok 4 w) (h0 : Cell h L b o' v0) (h1 : Cell h L b (o' + 1) v1) (h2 : Cell h L b (o' + 2) v2) (h3 : Cell h L b (o' + 3) v3) : SoftOk P o F h L (.agg #[v0, v1, v2, v3]) :=
  s_lda (vs := [v0, v1, v2, v3]) ho hx hg hs rfl fun j v hj => by
    match j, hj with
    | 0, hj => cases hj; exact h0
    | 1, hj => cases hj; exact h1
    | 2, hj => cases hj; exact h2
    | 3, hj => cases hj; exact h3
theorem s_min2 {k : IntKind} {m n q : Int} {ts : Array TypeId} (ho : o.op = .call { callee := .builtin .min, args := #[x, y], argTypes := ts }) (hx : evF F x = some (.int k m)) (hy : evF F y = some (.int k n)) (hq : (if n < m then n else m) = q) : SoftOk P o F h L (.int k q) := fun a w ha _ => by
  have h1 := agree_of ha (by rw [ho]; simp [Op.operands, Call.operands]) hx
  have h2 := agree_of ha (x := y) (by rw [ho]; simp [Op.operands, Call.operands]) hy
  simp [execOp, ho, resolve, h1, h2, invoke, builtin, run_min_int2, hq]
theorem s_max2 {k : IntKind} {m n q : Int} {ts : Array TypeId} (ho : o.op = .call { callee := .builtin .max, args := #[x, y], argTypes := ts }) (hx : evF F x = some (.int k m)) (hy : evF F y = some (.int k n)) (hq : (if m < n then n else m) = q) : SoftOk P o F h L (.int k q) := fun a w ha _ => by
  have h1 := agree_of ha (by rw [ho]; simp [Op.operands, Call.operands]) hx
  have h2 := agree_of ha (x := y) (by rw [ho]; simp [Op.operands, Call.operands]) hy
  simp [execOp, ho, resolve, h1, h2, invoke, builtin, run_max_int2, hq]
end
theorem h_st4 {C : Ctx} {o : Oper} {F : List (Nat × Value)} {h : H} {L L' : List Own} {x y : Operand} {v0 v1 v2 v3 : Value} {t e : TypeId} {b : Nat} {arr : Array Value} (ho : o.op = .store e x y) (hx : evF F x = some (.pointer (some ⟨b, 0, none⟩))) (hy : evF F y = some (.agg #[v0, v1, v2, v3])) (h0 : v0.oneCell' = true) (h1 : v1.oneCell' = true) (h2 : v2.oneCell' = true) (h3 : v3.oneCell' = true) (hs : ∀ w, (sizeOf e).run C.P w = .ok 4 w)
    (hlt : arr.size = 4) (p : Swap (.obj b (.cells arr t (0, 0))) (.obj b (.cells #[v0, v1, v2, v3] t (0, 0))) L L') : HardW C o F h L (fun v' h' L'' => v' = undef ∧ h' = h ∧ L'' = L') := fun a w ha _ _ hm => by
  have e1 := agree_of ha (by rw [ho]; simp [Op.operands]) hx
  have e2 := agree_of ha (x := y) (by rw [ho]; simp [Op.operands]) hy
  obtain ⟨L0, p1, _⟩ := p.pick
  have hb : w.heap[b]? = some (.cells arr t (0, 0)) := hm.sat.own _ (p1.perm.mem_iff.2 List.mem_cons_self)
  have hb2 := setCell_heap (o' := 0) hb v0
  have hb3 := setCell_heap (o' := 1) hb2 v1
  have hb4 := setCell_heap (o' := 2) hb3 v2
  have hb5 := setCell_heap (o' := 3) hb4 v3
  have hadd : ∀ j, (⟨b, 0, none⟩ : Addr).add j = ⟨b, j, none⟩ := fun j => by unfold Addr.add; split <;> simp_all
  have c0 : w.cell? ⟨b, 0, none⟩ = some (arr[0]'(by omega)) := by simp [World.cell?, hb, hlt]
  have c1 : (w.setCell ⟨b, 0, none⟩ v0).cell? ⟨b, 1, none⟩ = some (arr[1]'(by omega)) := by simp [World.cell?, hb2, hlt]
  have c2 : ((w.setCell ⟨b, 0, none⟩ v0).setCell ⟨b, 1, none⟩ v1).cell? ⟨b, 2, none⟩ = some (arr[2]'(by omega)) := by simp [World.cell?, hb3, hlt]
  have c3 : (((w.setCell ⟨b, 0, none⟩ v0).setCell ⟨b, 1, none⟩ v1).setCell ⟨b, 2, none⟩ v2).cell? ⟨b, 3, none⟩ = some (arr[3]'(by omega)) := by simp [World.cell?, hb4, hlt]
  have f0 : w.frozen? ⟨b, 0, none⟩ = false := by simp [World.frozen?, hb]
  have f1 : (w.setCell ⟨b, 0, none⟩ v0).frozen? ⟨b, 1, none⟩ = false := by simp only [World.frozen?, hb2]; simp
  have f2 : ((w.setCell ⟨b, 0, none⟩ v0).setCell ⟨b, 1, none⟩ v1).frozen? ⟨b, 2, none⟩ = false := by simp only [World.frozen?, hb3]; simp
  have f3 : (((w.setCell ⟨b, 0, none⟩ v0).setCell ⟨b, 1, none⟩ v1).setCell ⟨b, 2, none⟩ v2).frozen? ⟨b, 3, none⟩ = false := by simp only [World.frozen?, hb4]; simp
  refine upon_skip (w' := (((w.setCell ⟨b, 0, none⟩ v0).setCell ⟨b, 1, none⟩ v1).setCell ⟨b, 2, none⟩ v2).setCell ⟨b, 3, none⟩ v3) ?_ ⟨undef, h, L', ⟨rfl, rfl, rfl⟩, rfl, ?_⟩
  · simp only [execOp, ho, e1, e2]
    have : (Instr.storeAt e (.pointer (some ⟨b, 0, none⟩)) (.agg #[v0, v1, v2, v3])).run C.P w = .ok () ((((w.setCell ⟨b, 0, none⟩ v0).setCell ⟨b, 1, none⟩ v1).setCell ⟨b, 2, none⟩ v2).setCell ⟨b, 3, none⟩ v3) := by
      simp [Instr.storeAt, Instr.sureAddr, storeVar, hs w, Value.cells, storeCells, hadd, run_store C.P _ _ v0 .plain h0, run_store C.P _ _ v1 .plain h1, run_store C.P _ _ v2 .plain h2, run_store C.P _ _ v3 .plain h3, c0, c1, c2, c3, f0, f1, f2, f3]
    rw [Sem.run_bind, this]; rfl
  · refine hm.swap p rfl (fun c hc => .inl (by cases hc; rfl)) ?_ rfl rfl rfl (by simp) (Nat.le_refl _) (fun k _ hk => by rw [Below.heap_setCell _ _ _ k hk, Below.heap_setCell _ _ _ k hk, Below.heap_setCell _ _ _ k hk, Below.heap_setCell _ _ _ k hk])
    have : (((arr.setIfInBounds 0 v0).setIfInBounds 1 v1).setIfInBounds 2 v2).setIfInBounds 3 v3 = #[v0, v1, v2, v3] := by
      cases arr with
      | mk l => match l, hlt with
        | [_, _, _, _], _ => rfl
    rw [this] at hb5
    exact hb5
theorem run_st4 {dr : Bool} {C : Ctx} {ops : Array Oper} {K : S → Prop} {i : Nat} {r : List Nat} {F : List (Nat × Value)} {h : H} {L L' : List Own} {o : Oper} {x y : Operand} {v0 v1 v2 v3 : Value} {t e : TypeId} {b : Nat} {arr : Array Value} (ho : ops[i]? = some o) (hop : o.op = .store e x y) (hg : o.guard = none) (hd : o.dst = none)
    (hx : evF F x = some (.pointer (some ⟨b, 0, none⟩))) (hy : evF F y = some (.agg #[v0, v1, v2, v3])) (h0 : v0.oneCell' = true) (h1 : v1.oneCell' = true) (h2 : v2.oneCell' = true) (h3 : v3.oneCell' = true) (hs : ∀ w, (sizeOf e).run C.P w = .ok 4 w) (p : Swap (.obj b (.cells arr t (0, 0))) (.obj b (.cells #[v0, v1, v2, v3] t (0, 0))) L L') (hlt : arr.size = 4)
    (k : Run dr C ops K r ⟨F, h, L'⟩) : Run dr C ops K (i :: r) ⟨F, h, L⟩ :=
  run_hard ho hg (dst_no hd) (by simp [cls, hop]) _ (frm_st fun M => h_st4 hop hx hy h0 h1 h2 h3 hs hlt (p.append M)) fun _ _ _ ⟨e1, e2, e3⟩ => by subst e1 e2 e3; rw [hd]; exact ⟨fun _ hc => by simp [cls, hop] at hc, k⟩
theorem res_cell4 {P : Program} {fn : Func} {s : S} {t b : Nat} {e : TypeId} {v0 v1 v2 v3 : Value} (h : fn.results = #[.cell t e]) (hv : s.F.lookup t = some (.pointer (some ⟨b, 0, none⟩))) (hg : ∀ w, (isAgg e).run P w = .ok true w) (hs : ∀ w, (sizeOf e).run P w = .ok 4 w) (h0 : Cell s.h s.L b 0 v0) (h1 : Cell s.h s.L b 1 v1) (h2 : Cell s.h s.L b 2 v2) (h3 : Cell s.h s.L b 3 v3) : ResOk P fn s (.agg #[v0, v1, v2, v3]) :=
  res_cella (vs := [v0, v1, v2, v3]) h hv hg hs rfl fun j v hj => by
    match j, hj with
    | 0, hj => cases hj; exact h0
    | 1, hj => cases hj; exact h1
    | 2, hj => cases hj; exact h2
    | 3, hj => cases hj; exact h3
theorem run_loadVar2 {P : Program} {e : TypeId} {b : Nat} {v0 v1 : Value} {h : H} {L : List Own} {w : World} (hg : ∀ w, (isAgg e).run P w = .ok true w) (hs : ∀ w, (sizeOf e).run P w = .ok 2 w) (h0 : Cell h L b 0 v0) (h1 : Cell h L b 1 v1) (hsat : Sat h L w) : (loadVar e ⟨b, 0, none⟩).run P w = .ok (.agg #[v0, v1]) w := by
  have := run_cells (P := P) (w := w) (b := b) (o' := 0) (vs := [v0, v1]) (fun j v hj => by
    match j, hj with
    | 0, hj => cases hj; exact h0.at_ hsat
    | 1, hj => cases hj; exact h1.at_ hsat) 2 0 #[] (by simp) (by simp)
  simp [loadVar, hg w, hs w, loadCells, this]
/-- Two results of two cells each. -/
theorem res_c2c2 {P : Program} {fn : Func} {s : S} {t u b1 b2 : Nat} {e1 e2 : TypeId} {v1 v2 u1 u2 : Value} (h : fn.results = #[.cell t e1, .cell u e2]) (ht : s.F.lookup t = some (.pointer (some ⟨b1, 0, none⟩))) (hu : s.F.lookup u = some (.pointer (some ⟨b2, 0, none⟩)))
    (g1 : ∀ w, (isAgg e1).run P w = .ok true w) (s1 : ∀ w, (sizeOf e1).run P w = .ok 2 w) (g2 : ∀ w, (isAgg e2).run P w = .ok true w) (s2 : ∀ w, (sizeOf e2).run P w = .ok 2 w) (c1 : Cell s.h s.L b1 0 v1) (c2 : Cell s.h s.L b1 1 v2) (c3 : Cell s.h s.L b2 0 u1) (c4 : Cell s.h s.L b2 1 u2) : ResOk P fn s (.tuple #[.agg #[v1, v2], .agg #[u1, u2]]) := fun a w hsl hsat => by
  have ha : ∀ b, (asAddr (.pointer (some ⟨b, 0, none⟩))).run P w = .ok ⟨b, 0, none⟩ w := fun _ => rfl
  simp [results, h, hsl t _ ht, hsl u _ hu, ha, run_loadVar2 g1 s1 c1 c2 hsat, run_loadVar2 g2 s2 c3 c4 hsat]
theorem kp_refl (w : World) : Kp w [] w := ⟨rfl, rfl, rfl, Nat.le_refl _, Nat.le_refl _, fun _ _ _ => rfl⟩
/-- A call that leaves the world as it was. -/
theorem fnV_same {P : Program} {f : FuncId} {args : Array Value} {h : H} {v : Value} (hf : ∀ w, Calls P f args w fun e w' => e = .returned v ∧ w' = w) : FnV P f args h v :=
  fun w hw => (hf w).mono fun e w' ⟨he, hw'⟩ => ⟨v, h, he, rfl, by subst hw'; exact hw, fun _ _ => rfl, by subst hw'; exact kp_refl w'⟩
end Go.Tal

/-
  Symbolic states: a row that a call hands over is let go at once; calls under a guard.
-/
namespace Go.Tal
open Go.RowKit
/-- A call's row of integers is only read from now on. -/
theorem FnM.letI {P : Program} {f : FuncId} {args : Array Value} {h : H} {e : TypeId} {xs : List Int} (hm : xs.length ≤ 4294967296) (hf : FnM P f args h [] fun v _ L => L = [.row v e 1 xs.length (xs.map (Value.int .i64))]) : Fn P f args h fun v h' => RdI h' v xs := by
  intro w hw
  refine (hf w ⟨hw, by simp, by simp, List.Pairwise.nil⟩).mono fun e' w' ⟨v, h', L', he, hR, m⟩ => ?_
  subst hR
  have hin : w'.ownsRow 0 e 1 v xs.length (xs.map (Value.int .i64)) := m.sat.own _ List.mem_cons_self
  have kp : Kp w [] w' := m.kp
  obtain ⟨hl, hr⟩ := hin
  rcases hr with ⟨h1, h2⟩ | ⟨g, cap, cur, h1, hb0, hg, hnc, hcm, hsz, htk⟩
  · exact ⟨v, h', he, ⟨none, 0, by rw [h2]; exact h1, hm, fun hp => by omega⟩, m.sat.imm, m.old, kp⟩
  · subst h1
    have m2 := m.let_ .here (b := g) rfl rfl
    refine ⟨_, updH h' g w'.heap[g]?, he, ?_, m2.sat.imm, m2.old, kp⟩
    exact rowI_read rfl hm ⟨hl, .inr ⟨g, cap, cur, rfl, hb0, hg, hnc, hcm, hsz, htk⟩⟩ (by simp [updH])
section
variable {dr : Bool} {C : Ctx} {ops : Array Oper} {K : S → Prop} {i d gi t : Nat} {r : List Nat} {F : List (Nat × Value)} {h : H} {L : List Own} {o : Oper} {want : Bool}
theorem run_callg {f : FuncId} {args : Array Operand} {ts : Array TypeId} {vs : List Value} {R : Value → H → Prop} (ho : ops[i]? = some o) (hop : o.op = .call { callee := .value (.func f), args := args, argTypes := ts }) (hg : o.guard = some (gi, want)) (ht : (ops[gi]?).bind (·.dst) = some t) (hw : F.lookup t = some (.bool want)) (hd : o.dst = some d) (hn : Nat.blt d C.n = true)
    (hx : args.toList.map (evF F) = vs.map some) (hen : ∀ args w, (callFunc f args).run C.P w = .ok (.enter f args) w) (hf : Fn C.P f vs.toArray h R) (k : ∀ v h', R v h' → (∀ b o, h b = some o → h' b = some o) → Run dr C ops K r ⟨(d, v) :: F, h', L⟩) : Run dr C ops K (i :: r) ⟨F, h, L⟩ :=
  run_hardg ho hg ht hw (dst_lt hd hn) (by simp [cls, hop]) _ (frm_call fun _ => h_call hop hx hen hf) fun v h' _ ⟨e1, e2, e3⟩ => by subst e3; rw [hd]; exact ⟨fun _ _ => ⟨e2, List.Sublist.refl _⟩, k v h' e1 e2⟩
end
section
variable {P : Program} {o : Oper} {F : List (Nat × Value)} {h : H} {L : List Own} {x y : Operand}
theorem s_neK {m n : Int} {k : IntKind} {t t' : TypeId} {q : Bool} (ho : o.op = .binOp .neq t x y t') (hx : evF F x = some (.int k m)) (hy : evF F y = some (.int k n)) (hq : decide (m ≠ n) = q) : SoftOk P o F h L (.bool q) := by
  subst hq
  exact s_ne ho hx hy
theorem s_notK {b q : Bool} {t : TypeId} (ho : o.op = .unOp .not t x) (hx : evF F x = some (.bool b)) (hq : (!b) = q) : SoftOk P o F h L (.bool q) := by
  subst hq
  exact s_not ho hx
theorem s_nes {s u : ByteArray} {t t' : TypeId} (ho : o.op = .binOp .neq t x y t') (hx : evF F x = some (.string s)) (hy : evF F y = some (.string u)) : SoftOk P o F h L (.bool (!(s.toList == u.toList))) :=
  s_bin ho hx hy (fun w => by simp [eqGuard]) fun w => by simp [binOp, Op.stringOp]
theorem s_nesK {s u : ByteArray} {t t' : TypeId} {q : Bool} (ho : o.op = .binOp .neq t x y t') (hx : evF F x = some (.string s)) (hy : evF F y = some (.string u)) (hq : (!(s.toList == u.toList)) = q) : SoftOk P o F h L (.bool q) := by
  subst hq
  exact s_nes ho hx hy
theorem s_eqs {s u : ByteArray} {t t' : TypeId} (ho : o.op = .binOp .eql t x y t') (hx : evF F x = some (.string s)) (hy : evF F y = some (.string u)) : SoftOk P o F h L (.bool (s.toList == u.toList)) :=
  s_bin ho hx hy (fun w => by simp [eqGuard]) fun w => by simp [binOp, Op.stringOp]
end
end Go.Tal

/-
  The reference's groups: order, places, checks.
-/
namespace Go.Tal
open Go.RowKit Go.Proofs _root_.Tal
theorem lexLt_ne {xs ys : List Int} {i : Nat} (hx : i < xs.length) (hy : i < ys.length) (hp : lexCmp (xs.drop i) (ys.drop i) = lexCmp xs ys) (h : xs.getD i 0 ≠ ys.getD i 0) : decide (xs.getD i 0 < ys.getD i 0) = lexLt xs ys := by
  rw [lexLt, ← hp, lexCmp_drop hx hy]
  have hc : cmpI (xs.getD i 0) (ys.getD i 0) ≠ 0 := by unfold cmpI; split; omega; split <;> omega
  rw [if_pos hc]
  unfold cmpI
  split
  · rename_i h1; rw [decide_eq_true h1]; rfl
  · rename_i h1
    rw [if_pos (by omega), decide_eq_false h1]
    rfl
theorem lexLt_end {xs ys : List Int} {i : Nat} (hi : i ≤ xs.length) (hj : i ≤ ys.length) (he : ¬ (i < xs.length ∧ i < ys.length)) (hp : lexCmp (xs.drop i) (ys.drop i) = lexCmp xs ys) : decide ((xs.length : Int) < (ys.length : Int)) = lexLt xs ys := by
  rw [lexLt, ← hp]
  rcases Nat.lt_or_ge i ys.length with h | h
  · rw [lexCmp_nil_cons (by omega) h, decide_eq_true (show (xs.length : Int) < (ys.length : Int) by omega)]
    rfl
  · rcases Nat.lt_or_ge i xs.length with h2 | h2
    · rw [lexCmp_cons_nil h2 h, decide_eq_false (show ¬ (xs.length : Int) < (ys.length : Int) by omega)]
      rfl
    · rw [lexCmp_nil_nil h2 h, decide_eq_false (show ¬ (xs.length : Int) < (ys.length : Int) by omega)]
      rfl
theorem symLt_same {xs ys : List Int} {b c : Bool} (h : xs = ys) : symLt (xs, b) (ys, c) = (!b && c) := by
  subst h
  rw [symLt, Bool.eq_iff_iff, decide_eq_true_iff, symCmp_def]
  simp [lexCmp_refl]
theorem symLt_other {xs ys : List Int} {b c : Bool} (h : xs ≠ ys) : symLt (xs, b) (ys, c) = lexLt xs ys := by
  rw [symLt, lexLt, Bool.eq_iff_iff, decide_eq_true_iff, decide_eq_true_iff, symCmp_def]
  exact ⟨fun h1 => h1.resolve_right fun h2 => h h2.1, .inl⟩
/-- The place of the first element that is as asked, or -1. -/
def idxG {α : Type} (p : α → Bool) (l : List α) : Int := if l.any p then (l.findIdx p : Int) else -1
theorem idxG_some {α : Type} {d : α} {p : α → Bool} {l : List α} {i : Nat} (hi : i < l.length) (hp : p (l.getD i d) = true) (hn : ∀ j, j < i → p (l.getD j d) = false) : idxG p l = i := by
  simp only [List.getD_eq_getElem?_getD, List.getElem?_eq_getElem hi, Option.getD_some] at hp
  have h1 : l.any p = true := List.any_eq_true.2 ⟨_, List.getElem_mem hi, hp⟩
  rw [idxG, if_pos h1, (List.findIdx_eq hi).2 ⟨hp, fun j hj => by have := hn j hj; simpa [List.getD_eq_getElem?_getD, List.getElem?_eq_getElem (show j < l.length by omega)] using this⟩]
theorem idxG_none {α : Type} {d : α} {p : α → Bool} {l : List α} (hn : ∀ j, j < l.length → p (l.getD j d) = false) : idxG p l = -1 := by
  rw [idxG, if_neg]
  rw [List.any_eq_true]
  rintro ⟨x, hx, hp⟩
  obtain ⟨j, hj, rfl⟩ := List.getElem_of_mem hx
  have := hn j hj
  simp only [List.getD_eq_getElem?_getD, List.getElem?_eq_getElem hj, Option.getD_some] at this
  rw [hp] at this; cases this
theorem idxG_neg {α : Type} {p : α → Bool} {l : List α} : decide (idxG p l < 0) = !(l.any p) := by
  unfold idxG
  cases l.any p with
  | true => simp
  | false => simp
def idxA (l : List Sy) (a : Sy) : Int := idxG (fun x => decide (x = a)) l
theorem idxA_neg {l : List Sy} {a : Sy} : decide (idxA l a < 0) = !(decide (a ∈ l)) := by
  unfold idxA
  rw [idxG_neg]
  congr 1
  rw [Bool.eq_iff_iff]
  simp [List.any_eq_true]
def heavyB (l : List Sy) (n : Int) : Bool := decide (n < (l.length : Int)) || l.any fun a => decide (16 < (a.1.length : Int))
theorem heavyB_at {l : List Sy} {n : Int} {i : Nat} (hi : i < l.length) (h : 16 < ((l.getD i ([], false)).1.length : Int)) : heavyB l n = true := by
  have e : l.getD i ([], false) = l[i] := by rw [List.getD_eq_getElem?_getD, List.getElem?_eq_getElem hi]; rfl
  rw [e] at h
  rw [heavyB, List.any_eq_true.2 ⟨l[i], List.getElem_mem hi, decide_eq_true h⟩, Bool.or_true]
theorem heavyB_end {l : List Sy} {n : Int} (h0 : ¬ n < (l.length : Int)) (hn : ∀ j, j < l.length → ¬ 16 < ((l.getD j ([], false)).1.length : Int)) : heavyB l n = false := by
  rw [heavyB, decide_eq_false h0, Bool.false_or, Bool.eq_false_iff]
  intro h
  obtain ⟨a, ha, h1⟩ := List.any_eq_true.1 h
  obtain ⟨j, hj, rfl⟩ := List.getElem_of_mem ha
  have h2 := hn j hj
  rw [List.getD_eq_getElem?_getD, List.getElem?_eq_getElem hj] at h2
  exact h2 (by simpa using h1)
theorem heavyB_false {l : List Sy} {n : Int} (h : heavyB l n = false) : (l.length : Int) ≤ n ∧ ∀ a ∈ l, a.1.length ≤ 16 := by
  simp only [heavyB, Bool.or_eq_false_iff, decide_eq_false_iff_not, List.any_eq_false, decide_eq_true_eq] at h
  exact ⟨by omega, fun a ha => by have := h.2 a ha; omega⟩
theorem adjI_end {l : List Sy} {i : Nat} (h : adjI l i = true) (hi : l.length ≤ i) (hi2 : i ≤ l.length) : adjI l l.length = true := by
  rw [show l.length = i by omega]; exact h
/-- All products of the first i elements are there. -/
theorem closedB_no {l : List Sy} {i k : Nat} (hi : i < l.length) (hk : k < l.length) (h : idxA l (comp (l.getD i ([], false)) (l.getD k ([], false))) < 0) : closedB l = false := by
  rw [Bool.eq_false_iff]
  intro h1
  have e : ∀ {j}, (hj : j < l.length) → l.getD j ([], false) ∈ l := fun hj => by rw [List.getD_eq_getElem?_getD, List.getElem?_eq_getElem hj]; exact List.getElem_mem hj
  have h2 := closedB_iff.1 h1 _ (e hi) _ (e hk)
  have h3 : decide (idxA l (comp (l.getD i ([], false)) (l.getD k ([], false))) < 0) = true := decide_eq_true h
  rw [idxA_neg, decide_eq_true h2] at h3
  cases h3
theorem closedB_yes {l : List Sy} (h : ∀ i, i < l.length → ∀ k, k < l.length → ¬ idxA l (comp (l.getD i ([], false)) (l.getD k ([], false))) < 0) : closedB l = true := by
  refine closedB_iff.2 fun a ha b hb => ?_
  obtain ⟨i, hi, rfl⟩ := List.getElem_of_mem ha
  obtain ⟨k, hk, rfl⟩ := List.getElem_of_mem hb
  have h1 := decide_eq_false (h i hi k hk)
  rw [idxA_neg] at h1
  have e : ∀ {j}, (hj : j < l.length) → l.getD j ([], false) = l[j] := fun hj => by rw [List.getD_eq_getElem?_getD, List.getElem?_eq_getElem hj]; rfl
  rw [e hi, e hk] at h1
  simpa using h1
theorem rallI_at {l : List Sy} {c : Int} {i : Nat} (hi : i < l.length) (h : rsymI (l.getD i ([], false)).1 c ≠ 0) (hn : ∀ j, j < i → rsymI (l.getD j ([], false)).1 c = 0) : rallI l c = rsymI (l.getD i ([], false)).1 c := by
  have e : (l.map fun a => rsymI a.1 c) = (List.range l.length).map fun j => rsymI (l.getD j ([], false)).1 c := by
    apply List.ext_getElem
    · simp
    · intro j h1 h2
      simp only [List.length_map] at h1
      simp [List.getD_eq_getElem?_getD, h1]
  rw [rallI, e]
  exact firstI_at (f := fun j => rsymI (l.getD j ([], false)).1 c) hi h hn
theorem rallI_end {l : List Sy} {c : Int} (hn : ∀ j, j < l.length → rsymI (l.getD j ([], false)).1 c = 0) : rallI l c = 0 := by
  rw [rallI, firstI_zero]
  intro x hx
  obtain ⟨a, ha, rfl⟩ := List.mem_map.1 hx
  obtain ⟨j, hj, rfl⟩ := List.getElem_of_mem ha
  have := hn j hj
  rwa [List.getD_eq_getElem?_getD, List.getElem?_eq_getElem hj] at this
theorem rsymI_ok {a : List Int} {c : Int} (h0 : cellsI c = 0) (h : rsymI a c = 0) : (0 ≤ c ∧ c ≤ 256) ∧ (a.length : Int) = c ∧ PermL a.length a := by
  rw [rsymI_sym h0] at h
  exact symI_zero.1 h
set_option maxRecDepth 8000 in
set_option maxHeartbeats 1000000 in
theorem before_fn (xs ys : List Int) (v u : Value) (h : H) (hx : RdI h v xs) (hy : RdI h u ys) : FnV Tryz.prog 88 #[v, u] h (.bool (lexLt xs ys)) := by
  have hxm := hx.len
  refine fn_of (vs := [v, u]) Tryz.func88 rfl Tryz.ntmps88 (Nat.le_of_ble_eq_true rfl) fun w hw => ?_
  refine wp_seq' ?_
  refine wp_text rfl ?_
  refine rs rfl (s_assign rfl rfl) ?_
  refine run_end ?_
  refine wp_seq' ?_
  refine wp_seq' ?_
  refine wp_text rfl ?_
  refine rs rfl (s_assign rfl rfl) ?_
  refine run_end ?_
  refine wp_block' ?_
  refine wp_loop' (fun i : Nat => i ≤ xs.length ∧ i ≤ ys.length ∧ lexCmp (xs.drop i) (ys.drop i) = lexCmp xs ys) (fun i => ⟨[(5, .int .i64 i), (1, u), (0, v)], h, []⟩) (fun i => xs.length - i) 0 ⟨Nat.zero_le _, Nat.zero_le _, by simp⟩ ⟨by repeat (first|exact True.intro|refine And.intro rfl ?_), rfl, by repeat (first|exact NS _|exact SR _|apply SCC|apply SC)⟩ fun i hi => ?_
  obtain ⟨hi, hj, hp⟩ := hi
  refine wp_seq' ?_
  refine wp_seq' ?_
  refine wp_text rfl ?_
  refine rs rfl (s_move rfl rfl) ?_
  refine rs rfl (s_move rfl rfl) ?_
  refine rs rfl (s_lenI hx rfl rfl Tryz.underlying35) ?_
  refine rs rfl (s_lt rfl rfl rfl) ?_
  refine rs rfl (s_move rfl rfl) ?_
  refine run_cases (t := 10) rfl (fun hg10 => ?_) (fun hg10 => ?_)
  · skip
    refine rsg rfl rfl (s_move rfl rfl) ?_
    refine rsg rfl rfl (s_move rfl rfl) ?_
    refine rsg rfl rfl (s_lenI hy rfl rfl Tryz.underlying35) ?_
    refine rsg rfl rfl (s_lt rfl rfl rfl) ?_
    refine rs rfl (s_pick rfl rfl (fun _ => rfl) (fun h => by cases h)) ?_
    refine run_end ?_
    refine wp_if' rfl (fun hc15 => ?_) (fun hc15 => ?_)
    · skip
      refine wp_skip' ?_
      refine wp_seq' ?_
      refine wp_block' ?_
      refine wp_seq' ?_
      refine wp_any [0, 1, 2, 3, 4, 5, 6, 7, 8] rfl (by kernel_rfl) ?_
      refine rs rfl (s_move rfl rfl) ?_
      refine rs rfl (s_move rfl rfl) ?_
      refine rs rfl (s_iaI hx (by omega) (by omega) rfl rfl rfl Tryz.underlying35 Tryz.sizeOf3) ?_
      refine rs rfl (s_ldI hx (by omega) (by omega) rfl rfl Tryz.isAgg3) ?_
      try simp only [Int.toNat_natCast]
      refine rs rfl (s_move rfl rfl) ?_
      refine rs rfl (s_move rfl rfl) ?_
      refine rs rfl (s_iaI hy (by omega) (by omega) rfl rfl rfl Tryz.underlying35 Tryz.sizeOf3) ?_
      refine rs rfl (s_ldI hy (by omega) (by omega) rfl rfl Tryz.isAgg3) ?_
      try simp only [Int.toNat_natCast]
      refine rs rfl (s_ne rfl rfl rfl) ?_
      refine run_end ?_
      refine wp_if' rfl (fun hc26 => ?_) (fun hc26 => ?_)
      · skip
        refine wp_seq' ?_
        refine wp_any [0, 1, 2, 3, 4, 5, 6, 7, 8, 9] rfl (by kernel_rfl) ?_
        refine rs rfl (s_move rfl rfl) ?_
        refine rs rfl (s_move rfl rfl) ?_
        refine rs rfl (s_iaI hx (by omega) (by omega) rfl rfl rfl Tryz.underlying35 Tryz.sizeOf3) ?_
        refine rs rfl (s_ldI hx (by omega) (by omega) rfl rfl Tryz.isAgg3) ?_
        try simp only [Int.toNat_natCast]
        refine rs rfl (s_move rfl rfl) ?_
        refine rs rfl (s_move rfl rfl) ?_
        refine rs rfl (s_iaI hy (by omega) (by omega) rfl rfl rfl Tryz.underlying35 Tryz.sizeOf3) ?_
        refine rs rfl (s_ldI hy (by omega) (by omega) rfl rfl Tryz.isAgg3) ?_
        try simp only [Int.toNat_natCast]
        refine rs rfl (s_lt rfl rfl rfl) ?_
        refine rs rfl (s_assign rfl rfl) ?_
        refine run_end ?_
        refine wp_ret' ?_
        exact fin_ret (res_tmp rfl rfl) (by rw [lexLt_ne (i := i) (by omega) (by omega) hp hc26])
      · skip
        refine wp_skip' ?_
        refine wp_text rfl ?_
        refine rs rfl (s_move rfl rfl) ?_
        refine rs rfl (s_add rfl rfl rfl (IntWalk.i64_in _ (by omega))) ?_
        refine rs rfl (s_assign rfl rfl) ?_
        refine run_end ?_
        exact ⟨i + 1, ⟨by omega, by omega, by rw [← hp, lexCmp_drop (i := i) (by omega) (by omega), if_neg (by unfold cmpI; rw [Decidable.not_not.1 hc26, if_neg (Int.lt_irrefl _), if_neg (Int.lt_irrefl _)]; simp)]⟩, by omega, ⟨by repeat (first|exact True.intro|refine And.intro rfl ?_), rfl, by repeat (first|exact NS _|exact SR _|apply SCC|apply SC)⟩⟩
    · skip
      refine wp_exit' ?_
      refine wp_seq' ?_
      refine wp_text rfl ?_
      refine rs rfl (s_move rfl rfl) ?_
      refine rs rfl (s_lenI hx rfl rfl Tryz.underlying35) ?_
      refine rs rfl (s_move rfl rfl) ?_
      refine rs rfl (s_lenI hy rfl rfl Tryz.underlying35) ?_
      refine rs rfl (s_lt rfl rfl rfl) ?_
      refine rs rfl (s_assign rfl rfl) ?_
      refine run_end ?_
      refine wp_ret' ?_
      exact fin_ret (res_tmp rfl rfl) (by rw [lexLt_end (i := i) hi hj (by omega) hp])
  · skip
    refine run_skip rfl rfl rfl rfl rfl rfl rfl ?_
    refine run_skip rfl rfl rfl rfl rfl rfl rfl ?_
    refine run_skip rfl rfl rfl rfl rfl rfl rfl ?_
    refine run_skip rfl rfl rfl rfl rfl rfl rfl ?_
    refine rs rfl (s_pick rfl rfl (fun h => by cases h) (fun _ => rfl)) ?_
    refine run_end ?_
    refine wp_cond' (b := false) rfl (fun h => by cases h) (fun _ => ?_)
    refine wp_exit' ?_
    refine wp_seq' ?_
    refine wp_text rfl ?_
    refine rs rfl (s_move rfl rfl) ?_
    refine rs rfl (s_lenI hx rfl rfl Tryz.underlying35) ?_
    refine rs rfl (s_move rfl rfl) ?_
    refine rs rfl (s_lenI hy rfl rfl Tryz.underlying35) ?_
    refine rs rfl (s_lt rfl rfl rfl) ?_
    refine rs rfl (s_assign rfl rfl) ?_
    refine run_end ?_
    refine wp_ret' ?_
    exact fin_ret (res_tmp rfl rfl) (by rw [lexLt_end (i := i) hi hj (by omega) hp])
set_option maxRecDepth 8000 in
theorem befS_fn (xs ys : List Int) (b c : Bool) (v u : Value) (h : H) (hx : RdI h v xs) (hy : RdI h u ys) : FnV Tryz.prog 85 #[.agg #[v, .bool b], .agg #[u, .bool c]] h (.bool (symLt (xs, b) (ys, c))) := by
  refine fn_of (vs := [.agg #[v, .bool b], .agg #[u, .bool c]]) Tryz.func85 rfl Tryz.ntmps85 (Nat.le_of_ble_eq_true rfl) fun w hw => ?_
  refine wp_seq' ?_
  refine wp_text rfl ?_
  refine run_box rfl rfl rfl rfl rfl rfl rfl fun b1 => ?_
  refine run_box rfl rfl rfl rfl rfl rfl rfl fun b2 => ?_
  refine rs rfl (s_assign rfl rfl) ?_
  refine run_end ?_
  refine wp_seq' ?_
  refine wp_seq' ?_
  refine wp_text rfl ?_
  refine rs rfl (s_fa (off := 0) rfl rfl Tryz.underlying37 rfl Tryz.sizeOf35 rfl) ?_
  refine rs rfl (s_ld rfl rfl Tryz.isAgg35 (.own _ _ _ (by repeat first|exact MH _|apply MT) rfl)) ?_
  refine rs rfl (s_fa (off := 0) rfl rfl Tryz.underlying37 rfl Tryz.sizeOf35 rfl) ?_
  refine rs rfl (s_ld rfl rfl Tryz.isAgg35 (.own _ _ _ (by repeat first|exact MH _|apply MT) rfl)) ?_
  refine run_callv (vs := [_, _]) rfl rfl rfl rfl rfl rfl en82 (sameI_fn _ _ _ _ _ hx hy) ?_
  refine run_end ?_
  refine wp_cond' rfl (fun hc9 => ?_) (fun hc9 => ?_)
  · skip
    refine wp_seq' ?_
    refine wp_text rfl ?_
    refine rs rfl (s_fa (off := 1) rfl rfl Tryz.underlying37 rfl Tryz.sizeOf4 rfl) ?_
    refine rs rfl (s_ld rfl rfl Tryz.isAgg4 (.own _ _ _ (by repeat first|exact MH _|apply MT) rfl)) ?_
    refine rs rfl (s_not rfl rfl) ?_
    refine rs rfl (s_move rfl rfl) ?_
    refine run_cb (t := 13) rfl (fun hg13 => ?_) (fun hg13 => ?_)
    · skip
      refine rsg rfl rfl (s_fa (off := 1) rfl rfl Tryz.underlying37 rfl Tryz.sizeOf4 rfl) ?_
      refine rsg rfl rfl (s_ld rfl rfl Tryz.isAgg4 (.own _ _ _ (by repeat first|exact MH _|apply MT) rfl)) ?_
      refine rs rfl (s_pick rfl rfl (fun _ => rfl) (fun h => by cases h)) ?_
      refine rs rfl (s_assign rfl rfl) ?_
      refine run_end ?_
      refine wp_ret' ?_
      exact fin_ret (res_tmp rfl rfl) (by rw [symLt_same (by simpa using hc9), hg13]; rfl)
    · skip
      refine run_skip rfl rfl rfl rfl rfl rfl rfl ?_
      refine run_skip rfl rfl rfl rfl rfl rfl rfl ?_
      refine rs rfl (s_pick rfl rfl (fun h => by cases h) (fun _ => rfl)) ?_
      refine rs rfl (s_assign rfl rfl) ?_
      refine run_end ?_
      refine wp_ret' ?_
      exact fin_ret (res_tmp rfl rfl) (by rw [symLt_same (by simpa using hc9), hg13]; rfl)
  · skip
    refine wp_skip' ?_
    refine wp_seq' ?_
    refine wp_text rfl ?_
    refine rs rfl (s_fa (off := 0) rfl rfl Tryz.underlying37 rfl Tryz.sizeOf35 rfl) ?_
    refine rs rfl (s_ld rfl rfl Tryz.isAgg35 (.own _ _ _ (by repeat first|exact MH _|apply MT) rfl)) ?_
    refine rs rfl (s_fa (off := 0) rfl rfl Tryz.underlying37 rfl Tryz.sizeOf35 rfl) ?_
    refine rs rfl (s_ld rfl rfl Tryz.isAgg35 (.own _ _ _ (by repeat first|exact MH _|apply MT) rfl)) ?_
    refine run_callv (vs := [_, _]) rfl rfl rfl rfl rfl rfl en88 (before_fn _ _ _ _ _ hx hy) ?_
    refine rs rfl (s_assign rfl rfl) ?_
    refine run_end ?_
    refine wp_ret' ?_
    exact fin_ret (res_tmp rfl rfl) (by rw [symLt_other (by simpa using hc9)])
set_option maxRecDepth 8000 in
theorem idxA_fn (l : List Sy) (a : Sy) (v u : Value) (h : H) (hl : RdS h v l) (ha : RdI h u a.1) : FnV Tryz.prog 84 #[v, .agg #[u, .bool a.2]] h (.int .i64 (idxA l a)) := by
  have hlm := hl.len
  refine fn_of (vs := [v, .agg #[u, .bool a.2]]) Tryz.func84 rfl Tryz.ntmps84 (Nat.le_of_ble_eq_true rfl) fun w hw => ?_
  refine wp_seq' ?_
  refine wp_text rfl ?_
  refine run_box rfl rfl rfl rfl rfl rfl rfl fun b1 => ?_
  refine rs rfl (s_assign rfl rfl) ?_
  refine run_end ?_
  refine wp_seq' ?_
  refine wp_seq' ?_
  refine wp_text rfl ?_
  refine rs rfl (s_assign rfl rfl) ?_
  refine run_end ?_
  refine wp_block' ?_
  refine wp_loop' (fun i : Nat => i ≤ l.length ∧ ∀ j, j < i → decide (l.getD j ([], false) = a) = false) (fun i => ⟨[(5, .int .i64 i), (3, .pointer (some ⟨b1, 0, none⟩)), (0, v)], h, [.obj b1 (.cells #[u, .bool a.2] 37 (0, 0))]⟩) (fun i => l.length - i) 0 ⟨Nat.zero_le _, fun _ h => by omega⟩ ⟨by repeat (first|exact True.intro|refine And.intro rfl ?_), rfl, by repeat (first|exact NS _|exact SR _|apply SCC|apply SC)⟩ fun i hi => ?_
  obtain ⟨hi, hn⟩ := hi
  refine wp_seq' ?_
  refine wp_seq' ?_
  refine wp_text rfl ?_
  refine rs rfl (s_move rfl rfl) ?_
  refine rs rfl (s_move rfl rfl) ?_
  refine rs rfl (s_lenS hl rfl rfl Tryz.underlying22) ?_
  refine rs rfl (s_lt rfl rfl rfl) ?_
  refine run_end ?_
  refine wp_if' rfl (fun hc9 => ?_) (fun hc9 => ?_)
  · skip
    refine wp_skip' ?_
    refine wp_seq' ?_
    refine wp_block' ?_
    refine wp_seq' ?_
    refine wp_any [0, 1, 2, 3, 4, 5] rfl (by kernel_rfl) ?_
    refine rs rfl (s_move rfl rfl) ?_
    refine rs rfl (s_move rfl rfl) ?_
    refine rs rfl (s_iaS hl (by omega) (by omega) rfl rfl rfl Tryz.underlying22 Tryz.sizeOf37) ?_
    obtain ⟨sv15, hsv15, hat15⟩ := hl.get (j := i) (by omega)
    refine rs rfl (s_ldS hat15 (by omega) rfl rfl Tryz.isAgg37 Tryz.sizeOf37) ?_
    refine rs rfl (s_ld2 rfl rfl Tryz.isAgg37 Tryz.sizeOf37 (.own _ _ _ (by repeat first|exact MH _|apply MT) rfl) (.own _ _ _ (by repeat first|exact MH _|apply MT) rfl)) ?_
    refine run_callv (vs := [_, _]) rfl rfl rfl rfl rfl rfl en30 (sameS_fn _ _ _ _ _ hsv15 ha) ?_
    refine run_end ?_
    refine wp_cond' rfl (fun hc17 => ?_) (fun hc17 => ?_)
    · skip
      refine wp_seq' ?_
      refine wp_text rfl ?_
      refine rs rfl (s_move rfl rfl) ?_
      refine rs rfl (s_assign rfl rfl) ?_
      refine run_end ?_
      refine wp_ret' ?_
      exact fin_ret (res_tmp rfl rfl) (by rw [idxA, idxG_some (d := ([], false)) (i := i) (by omega) hc17 hn])
    · skip
      refine wp_skip' ?_
      refine wp_text rfl ?_
      refine rs rfl (s_move rfl rfl) ?_
      refine rs rfl (s_add rfl rfl rfl (IntWalk.i64_in _ (by omega))) ?_
      refine rs rfl (s_assign rfl rfl) ?_
      refine run_end ?_
      exact ⟨i + 1, ⟨by omega, fun j hj => (Nat.lt_succ_iff_lt_or_eq.1 hj).elim (hn j) (fun e => by rw [e]; exact hc17)⟩, by omega, ⟨by repeat (first|exact True.intro|refine And.intro rfl ?_), rfl, by repeat (first|exact NS _|exact SR _|apply SCC|apply SC)⟩⟩
  · skip
    refine wp_exit' ?_
    refine wp_seq' ?_
    refine wp_text rfl ?_
    refine rs rfl (s_assign rfl rfl) ?_
    refine run_end ?_
    refine wp_ret' ?_
    exact fin_ret (res_tmp rfl rfl) (by rw [idxA, idxG_none (d := ([], false)) (fun j hj => hn j (by omega))])
set_option maxRecDepth 8000 in
theorem heavy_fn (l : List Sy) (n : Int) (v : Value) (h : H) (hl : RdS0 h v l) : FnV Tryz.prog 19 #[v, .int .i64 n] h (.bool (heavyB l n)) := by
  have hlm := hl.len
  refine fn_of (vs := [v, .int .i64 n]) Tryz.func19 rfl Tryz.ntmps19 (Nat.le_of_ble_eq_true rfl) fun w hw => ?_
  refine wp_seq' ?_
  refine wp_text rfl ?_
  refine rs rfl (s_assign rfl rfl) ?_
  refine run_end ?_
  refine wp_seq' ?_
  refine wp_seq' ?_
  refine wp_text rfl ?_
  refine rs rfl (s_move rfl rfl) ?_
  refine rs rfl (s_lenS0 hl rfl rfl Tryz.underlying22) ?_
  refine rs rfl (s_move rfl rfl) ?_
  refine rs rfl (s_gt rfl rfl rfl) ?_
  refine run_end ?_
  refine wp_if' rfl (fun hc9 => ?_) (fun hc9 => ?_)
  · skip
    refine wp_seq' ?_
    refine wp_text rfl ?_
    refine rs rfl (s_assign rfl rfl) ?_
    refine run_end ?_
    refine wp_ret' ?_
    exact fin_ret (res_tmp rfl rfl) (by rw [heavyB, decide_eq_true hc9, Bool.true_or])
  · skip
    refine wp_skip' ?_
    refine wp_seq' ?_
    refine wp_seq' ?_
    refine wp_text rfl ?_
    refine rs rfl (s_assign rfl rfl) ?_
    refine run_end ?_
    refine wp_block' ?_
    refine wp_loop' (fun i : Nat => i ≤ l.length ∧ ∀ j, j < i → ¬ 16 < ((l.getD j ([], false)).1.length : Int)) (fun i => ⟨[(5, .int .i64 i), (0, v)], h, []⟩) (fun i => l.length - i) 0 ⟨Nat.zero_le _, fun _ h => by omega⟩ ⟨by repeat (first|exact True.intro|refine And.intro rfl ?_), rfl, by repeat (first|exact NS _|exact SR _|apply SCC|apply SC)⟩ fun i hi => ?_
    obtain ⟨hi, hn⟩ := hi
    refine wp_seq' ?_
    refine wp_seq' ?_
    refine wp_text rfl ?_
    refine rs rfl (s_move rfl rfl) ?_
    refine rs rfl (s_move rfl rfl) ?_
    refine rs rfl (s_lenS0 hl rfl rfl Tryz.underlying22) ?_
    refine rs rfl (s_lt rfl rfl rfl) ?_
    refine run_end ?_
    refine wp_if' rfl (fun hc13 => ?_) (fun hc13 => ?_)
    · skip
      refine wp_skip' ?_
      refine wp_seq' ?_
      refine wp_block' ?_
      refine wp_seq' ?_
      refine wp_text rfl ?_
      refine rs rfl (s_move rfl rfl) ?_
      refine rs rfl (s_move rfl rfl) ?_
      refine rs rfl (s_iaS0 hl (by omega) (by omega) rfl rfl rfl Tryz.underlying22 Tryz.sizeOf37) ?_
      obtain ⟨sv19, hsv19, hat19⟩ := hl.get (j := i) (by omega)
      refine rs rfl (s_faS (f := 0) hat19 rfl rfl Tryz.underlying37 rfl Tryz.sizeOf35 rfl) ?_
      refine rs rfl (s_ldS0 hat19 (by omega) rfl rfl Tryz.isAgg35) ?_
      refine rs rfl (s_lenI0 hsv19 rfl rfl Tryz.underlying35) ?_
      refine rs rfl (s_gt rfl rfl rfl) ?_
      refine run_end ?_
      refine wp_if' rfl (fun hc22 => ?_) (fun hc22 => ?_)
      · skip
        refine wp_seq' ?_
        refine wp_text rfl ?_
        refine rs rfl (s_assign rfl rfl) ?_
        refine run_end ?_
        refine wp_ret' ?_
        exact fin_ret (res_tmp rfl rfl) (by rw [heavyB_at (i := i) (by omega) hc22])
      · skip
        refine wp_skip' ?_
        refine wp_text rfl ?_
        refine rs rfl (s_move rfl rfl) ?_
        refine rs rfl (s_add rfl rfl rfl (IntWalk.i64_in _ (by omega))) ?_
        refine rs rfl (s_assign rfl rfl) ?_
        refine run_end ?_
        exact ⟨i + 1, ⟨by omega, fun j hj => (Nat.lt_succ_iff_lt_or_eq.1 hj).elim (hn j) (fun e => by rw [e]; exact hc22)⟩, by omega, ⟨by repeat (first|exact True.intro|refine And.intro rfl ?_), rfl, by repeat (first|exact NS _|exact SR _|apply SCC|apply SC)⟩⟩
    · skip
      refine wp_exit' ?_
      refine wp_seq' ?_
      refine wp_text rfl ?_
      refine rs rfl (s_assign rfl rfl) ?_
      refine run_end ?_
      refine wp_ret' ?_
      exact fin_ret (res_tmp rfl rfl) (by rw [heavyB_end hc9 (fun j hj => hn j (by omega))])
set_option maxRecDepth 8000 in
theorem rsym0_fn (a : List Int) (cm : Bool) (c : Int) (va : Value) (h : H) (hl : RdI0 h va a) : FnV Tryz.prog 26 #[.agg #[va, .bool cm], .int .i64 c] h (.int .i64 (rsymI a c)) := by
  refine fn_of (vs := [.agg #[va, .bool cm], .int .i64 c]) Tryz.func26 rfl Tryz.ntmps26 (Nat.le_of_ble_eq_true rfl) fun w hw => ?_
  refine wp_seq' ?_
  refine wp_text rfl ?_
  refine run_box rfl rfl rfl rfl rfl rfl rfl fun b1 => ?_
  refine rs rfl (s_assign rfl rfl) ?_
  refine run_end ?_
  refine wp_seq' ?_
  refine wp_seq' ?_
  refine wp_text rfl ?_
  refine rs rfl (s_move rfl rfl) ?_
  refine run_callv (vs := [_]) rfl rfl rfl rfl rfl rfl en25 (rcells_fn _ _) ?_
  refine rs rfl (s_ne rfl rfl rfl) ?_
  refine run_end ?_
  refine wp_if' rfl (fun hc7 => ?_) (fun hc7 => ?_)
  · skip
    refine wp_seq' ?_
    refine wp_text rfl ?_
    refine rs rfl (s_assign rfl rfl) ?_
    refine run_end ?_
    refine wp_ret' ?_
    exact fin_ret (res_tmp rfl rfl) (by rw [rsymI, decide_eq_true hc7]; rfl)
  · skip
    refine wp_skip' ?_
    refine wp_seq' ?_
    refine wp_seq' ?_
    refine wp_text rfl ?_
    refine rs rfl (s_fa (off := 0) rfl rfl Tryz.underlying37 rfl Tryz.sizeOf35 rfl) ?_
    refine rs rfl (s_ld rfl rfl Tryz.isAgg35 (.own _ _ _ (by repeat first|exact MH _|apply MT) rfl)) ?_
    refine rs rfl (s_lenI0 hl rfl rfl Tryz.underlying35) ?_
    refine rs rfl (s_move rfl rfl) ?_
    refine rs rfl (s_ne rfl rfl rfl) ?_
    refine run_end ?_
    refine wp_if' rfl (fun hc12 => ?_) (fun hc12 => ?_)
    · skip
      refine wp_seq' ?_
      refine wp_text rfl ?_
      refine rs rfl (s_assign rfl rfl) ?_
      refine run_end ?_
      refine wp_ret' ?_
      exact fin_ret (res_tmp rfl rfl) (by rw [rsymI, decide_eq_false hc7, decide_eq_true hc12]; rfl)
    · skip
      have hc0 : cellsI c = 0 := Decidable.not_not.1 hc7
      have hl := hl.toI (by have h1 := cellsI_zero.1 hc0; have h2 := Decidable.not_not.1 hc12; omega)
      refine wp_skip' ?_
      refine wp_seq' ?_
      refine wp_text rfl ?_
      refine rs rfl (s_fa (off := 0) rfl rfl Tryz.underlying37 rfl Tryz.sizeOf35 rfl) ?_
      refine rs rfl (s_ld rfl rfl Tryz.isAgg35 (.own _ _ _ (by repeat first|exact MH _|apply MT) rfl)) ?_
      refine run_callv (vs := [_]) rfl rfl rfl rfl rfl rfl en93 (rperm_fn _ _ _ hl) ?_
      refine rs rfl (s_assign rfl rfl) ?_
      refine run_end ?_
      refine wp_ret' ?_
      exact fin_ret (res_tmp rfl rfl) (by rw [rsymI, decide_eq_false hc7, decide_eq_false hc12]; rfl)
set_option maxRecDepth 8000 in
theorem rsame_fn (l : List Sy) (f g : List Int) (v u t : Value) (h : H) (hl : RdS h v l) (hf : RdI h u f) (hg : RdI h t g) (hok : ∀ a ∈ l, Ok f.length a) (hf0 : fillI f = 0) : FnV Tryz.prog 87 #[v, u, t] h (.int .i64 (idxG (fun a : Sy => decide (imgI a.1 a.2 f = g)) l)) := by
  have hlm := hl.len
  refine fn_of (vs := [v, u, t]) Tryz.func87 rfl Tryz.ntmps87 (Nat.le_of_ble_eq_true rfl) fun w hw => ?_
  refine wp_seq' ?_
  refine wp_text rfl ?_
  refine rs rfl (s_assign rfl rfl) ?_
  refine run_end ?_
  refine wp_seq' ?_
  refine wp_seq' ?_
  refine wp_text rfl ?_
  refine rs rfl (s_assign rfl rfl) ?_
  refine run_end ?_
  refine wp_block' ?_
  refine wp_loopg (fun i : Nat => i ≤ l.length ∧ ∀ j, j < i → decide (imgI (l.getD j ([], false)).1 (l.getD j ([], false)).2 f = g) = false) (fun i => ⟨[(7, .int .i64 i), (2, t), (1, u), (0, v)], []⟩) (fun i => l.length - i) 0 ⟨Nat.zero_le _, fun _ h => by omega⟩ ⟨by repeat (first|exact True.intro|refine And.intro rfl ?_), (by first | exact fun _ _ hb => hb | assumption), by repeat (first|exact NS _|exact SR _|apply SCC|apply SC)⟩ fun i hi => ?_
  obtain ⟨hi, hn⟩ := hi
  refine wp_seq' ?_
  refine wp_seq' ?_
  refine wp_text rfl ?_
  refine rs rfl (s_move rfl rfl) ?_
  refine rs rfl (s_move rfl rfl) ?_
  refine rs rfl (s_lenS hl rfl rfl Tryz.underlying22) ?_
  refine rs rfl (s_lt rfl rfl rfl) ?_
  refine run_end ?_
  refine wp_if' rfl (fun hc11 => ?_) (fun hc11 => ?_)
  · skip
    refine wp_skip' ?_
    refine wp_seq' ?_
    refine wp_block' ?_
    refine wp_seq' ?_
    refine wp_text rfl ?_
    refine rs rfl (s_move rfl rfl) ?_
    refine rs rfl (s_move rfl rfl) ?_
    refine rs rfl (s_iaS hl (by omega) (by omega) rfl rfl rfl Tryz.underlying22 Tryz.sizeOf37) ?_
    obtain ⟨sv17, hsv17, hat17⟩ := hl.get (j := i) (by omega)
    refine rs rfl (s_ldS hat17 (by omega) rfl rfl Tryz.isAgg37 Tryz.sizeOf37) ?_
    refine rs rfl (s_move rfl rfl) ?_
    refine run_call (vs := [_, _]) rfl rfl rfl rfl rfl rfl en58 (rapply_fn (l.getD i ([], false)).1 (l.getD i ([], false)).2 f _ _ _ hsv17 hf (hok _ (getD_mem' (l := l) (by omega))) (fun j hj => fillI_get hf0 hj)) ?_
    intro v19 h19 hv19 hh19
    have hl := hl.mono hh19
    have hf := hf.mono hh19
    have hg := hg.mono hh19
    have hsv17 := hsv17.mono hh19
    refine rs rfl (s_move rfl rfl) ?_
    refine run_callv (vs := [_, _]) rfl rfl rfl rfl rfl rfl en82 (sameI_fn _ _ _ _ _ hv19 hg) ?_
    refine run_end ?_
    refine wp_cond' rfl (fun hc21 => ?_) (fun hc21 => ?_)
    · skip
      refine wp_seq' ?_
      refine wp_text rfl ?_
      refine rs rfl (s_move rfl rfl) ?_
      refine rs rfl (s_assign rfl rfl) ?_
      refine run_end ?_
      refine wp_ret' ?_
      exact fin_ret (res_tmp rfl rfl) (by rw [idxG_some (d := ([], false)) (i := i) (by omega) hc21 hn])
    · skip
      refine wp_skip' ?_
      refine wp_text rfl ?_
      refine rs rfl (s_move rfl rfl) ?_
      refine rs rfl (s_add rfl rfl rfl (IntWalk.i64_in _ (by omega))) ?_
      refine rs rfl (s_assign rfl rfl) ?_
      refine run_end ?_
      exact ⟨i + 1, ⟨by omega, fun j hj => (Nat.lt_succ_iff_lt_or_eq.1 hj).elim (hn j) (fun e => by rw [e]; exact hc21)⟩, by omega, ⟨by repeat (first|exact True.intro|refine And.intro rfl ?_), (by first | exact fun _ _ hb => hb | assumption), by repeat (first|exact NS _|exact SR _|apply SCC|apply SC)⟩⟩
  · skip
    refine wp_exit' ?_
    refine wp_seq' ?_
    refine wp_text rfl ?_
    refine rs rfl (s_assign rfl rfl) ?_
    refine run_end ?_
    refine wp_ret' ?_
    exact fin_ret (res_tmp rfl rfl) (by rw [idxG_none (d := ([], false)) (fun j hj => hn j (by omega))])
set_option maxRecDepth 8000 in
set_option maxHeartbeats 4000000 in
theorem rgroup_fn (l : List Sy) (c : Int) (v : Value) (h : H) (hl : RdS0 h v l) : FnV Tryz.prog 20 #[v, .int .i64 c] h (.int .i64 (rgrpI l c)) := by
  have hlm := hl.len
  refine fn_of (vs := [v, .int .i64 c]) Tryz.func20 rfl Tryz.ntmps20 (Nat.le_of_ble_eq_true rfl) fun w hw => ?_
  refine wp_seq' ?_
  refine wp_text rfl ?_
  refine rs rfl (s_assign rfl rfl) ?_
  refine run_end ?_
  refine wp_seq' ?_
  refine wp_seq' ?_
  refine wp_text rfl ?_
  refine rs rfl (s_move rfl rfl) ?_
  refine run_callv (vs := [_]) rfl rfl rfl rfl rfl rfl en25 (rcells_fn _ _) ?_
  refine rs rfl (s_ne rfl rfl rfl) ?_
  refine run_end ?_
  refine wp_if' rfl (fun hc12 => ?_) (fun hc12 => ?_)
  · skip
    refine wp_seq' ?_
    refine wp_text rfl ?_
    refine rs rfl (s_assign rfl rfl) ?_
    refine run_end ?_
    refine wp_ret' ?_
    exact fin_ret (res_tmp rfl rfl) (by rw [rgrpI, if_pos hc12])
  · skip
    have hc0 : cellsI c = 0 := Decidable.not_not.1 hc12
    refine wp_skip' ?_
    refine wp_seq' ?_
    refine wp_seq' ?_
    refine wp_text rfl ?_
    refine rs rfl (s_move rfl rfl) ?_
    refine rs rfl (s_lenS0 hl rfl rfl Tryz.underlying22) ?_
    refine rs rfl (s_eq rfl rfl rfl) ?_
    refine run_end ?_
    refine wp_if' rfl (fun hc15 => ?_) (fun hc15 => ?_)
    · skip
      refine wp_seq' ?_
      refine wp_text rfl ?_
      refine rs rfl (s_assign rfl rfl) ?_
      refine run_end ?_
      refine wp_ret' ?_
      exact fin_ret (res_tmp rfl rfl) (by rw [rgrpI, if_neg hc12, if_pos hc15])
    · skip
      refine wp_skip' ?_
      refine wp_seq' ?_
      refine wp_seq' ?_
      refine wp_text rfl ?_
      refine rs rfl (s_move rfl rfl) ?_
      refine rs rfl (s_lenS0 hl rfl rfl Tryz.underlying22) ?_
      refine rs rfl (s_gt rfl rfl rfl) ?_
      refine run_end ?_
      refine wp_if' rfl (fun hc18 => ?_) (fun hc18 => ?_)
      · skip
        refine wp_seq' ?_
        refine wp_text rfl ?_
        refine rs rfl (s_assign rfl rfl) ?_
        refine run_end ?_
        refine wp_ret' ?_
        exact fin_ret (res_tmp rfl rfl) (by rw [rgrpI, if_neg hc12, if_neg hc15, if_pos hc18])
      · skip
        refine wp_skip' ?_
        refine wp_seq' ?_
        refine wp_seq' ?_
        refine wp_text rfl ?_
        refine rs rfl (s_assign rfl rfl) ?_
        refine run_end ?_
        refine wp_block' ?_
        refine wp_loop' (fun i : Nat => i ≤ l.length ∧ ∀ j, j < i → rsymI (l.getD j ([], false)).1 c = 0) (fun i => ⟨[(5, .int .i64 i), (1, .int .i64 c), (0, v)], h, []⟩) (fun i => l.length - i) 0 ⟨Nat.zero_le _, fun _ h => by omega⟩ ⟨by repeat (first|exact True.intro|refine And.intro rfl ?_), rfl, by repeat (first|exact NS _|exact SR _|apply SCC|apply SC)⟩ fun i hi => ?_
        obtain ⟨hi, hn⟩ := hi
        refine wp_seq' ?_
        refine wp_seq' ?_
        refine wp_text rfl ?_
        refine rs rfl (s_move rfl rfl) ?_
        refine rs rfl (s_move rfl rfl) ?_
        refine rs rfl (s_lenS0 hl rfl rfl Tryz.underlying22) ?_
        refine rs rfl (s_lt rfl rfl rfl) ?_
        refine run_end ?_
        refine wp_if' rfl (fun hc22 => ?_) (fun hc22 => ?_)
        · skip
          refine wp_skip' ?_
          refine wp_seq' ?_
          refine wp_block' ?_
          refine wp_seq' ?_
          refine wp_text rfl ?_
          refine rs rfl (s_move rfl rfl) ?_
          refine rs rfl (s_move rfl rfl) ?_
          refine rs rfl (s_iaS0 hl (by omega) (by omega) rfl rfl rfl Tryz.underlying22 Tryz.sizeOf37) ?_
          obtain ⟨sv28, hsv28, hat28⟩ := hl.get (j := i) (by omega)
          refine rs rfl (s_ldS hat28 (by omega) rfl rfl Tryz.isAgg37 Tryz.sizeOf37) ?_
          refine rs rfl (s_move rfl rfl) ?_
          refine run_callv (vs := [_, _]) rfl rfl rfl rfl rfl rfl en26 (rsym0_fn _ _ _ _ _ hsv28) ?_
          refine rs rfl (s_assign rfl rfl) ?_
          refine run_end ?_
          refine wp_seq' ?_
          refine wp_text rfl ?_
          refine rs rfl (s_move rfl rfl) ?_
          refine rs rfl (s_ne rfl rfl rfl) ?_
          refine run_end ?_
          refine wp_if' rfl (fun hc32 => ?_) (fun hc32 => ?_)
          · skip
            refine wp_seq' ?_
            refine wp_text rfl ?_
            refine rs rfl (s_move rfl rfl) ?_
            refine rs rfl (s_assign rfl rfl) ?_
            refine run_end ?_
            refine wp_ret' ?_
            exact fin_ret (res_tmp rfl rfl) (by rw [rgrpI, if_neg hc12, if_neg hc15, if_neg hc18, rallI_at (i := i) (by omega) hc32 hn, if_pos hc32])
          · skip
            refine wp_skip' ?_
            refine wp_text rfl ?_
            refine rs rfl (s_move rfl rfl) ?_
            refine rs rfl (s_add rfl rfl rfl (IntWalk.i64_in _ (by omega))) ?_
            refine rs rfl (s_assign rfl rfl) ?_
            refine run_end ?_
            exact ⟨i + 1, ⟨by omega, fun j hj => (Nat.lt_succ_iff_lt_or_eq.1 hj).elim (hn j) (fun e => by rw [e]; exact Decidable.not_not.1 hc32)⟩, by omega, ⟨by repeat (first|exact True.intro|refine And.intro rfl ?_), rfl, by repeat (first|exact NS _|exact SR _|apply SCC|apply SC)⟩⟩
        · skip
          obtain rfl : i = l.length := by omega
          have hz := rallI_end hn
          have hok : ∀ j, j < l.length → (0 ≤ c ∧ c ≤ 256) ∧ ((l.getD j ([], false)).1.length : Int) = c ∧ PermL (l.getD j ([], false)).1.length (l.getD j ([], false)).1 := fun j hj => rsymI_ok hc0 (hn j hj)
          have hl := hl.toS (by omega) (fun a ha => by obtain ⟨j, hj, rfl⟩ := List.getElem_of_mem ha; have h1 := hok j hj; rw [List.getD_eq_getElem?_getD, List.getElem?_eq_getElem hj] at h1; simp only [Option.getD_some] at h1; omega)
          refine wp_exit' ?_
          refine wp_seq' ?_
          refine wp_seq' ?_
          refine wp_text rfl ?_
          refine rs rfl (s_assign rfl rfl) ?_
          refine run_end ?_
          refine wp_block' ?_
          refine wp_loop' (fun i : Nat => 1 ≤ i ∧ i ≤ l.length ∧ adjI l i = true) (fun i => ⟨[(7, .int .i64 i), (1, .int .i64 c), (0, v)], h, []⟩) (fun i => l.length - i) 1 ⟨Nat.le_refl _, by omega, rfl⟩ ⟨by repeat (first|exact True.intro|refine And.intro rfl ?_), rfl, by repeat (first|exact NS _|exact SR _|apply SCC|apply SC)⟩ fun i hi => ?_
          obtain ⟨h1, hi, ha⟩ := hi
          refine wp_seq' ?_
          refine wp_seq' ?_
          refine wp_text rfl ?_
          refine rs rfl (s_move rfl rfl) ?_
          refine rs rfl (s_move rfl rfl) ?_
          refine rs rfl (s_lenS hl rfl rfl Tryz.underlying22) ?_
          refine rs rfl (s_lt rfl rfl rfl) ?_
          refine run_end ?_
          refine wp_if' rfl (fun hc37 => ?_) (fun hc37 => ?_)
          · skip
            refine wp_skip' ?_
            refine wp_seq' ?_
            refine wp_block' ?_
            refine wp_seq' ?_
            refine wp_any [0, 1, 2, 3, 4, 5, 6, 7, 8, 9, 10] rfl (by kernel_rfl) ?_
            refine rs rfl (s_move rfl rfl) ?_
            refine rs rfl (s_move rfl rfl) ?_
            refine rs rfl (s_sub rfl rfl rfl (IntWalk.i64_in _ (by omega))) ?_
            refine rs rfl (s_iaS hl (by omega) (by omega) rfl rfl rfl Tryz.underlying22 Tryz.sizeOf37) ?_
            obtain ⟨sv44, hsv44, hat44⟩ := hl.get (j := i - 1) (by omega)
            refine rs rfl (s_ldS hat44 (by omega) rfl rfl Tryz.isAgg37 Tryz.sizeOf37) ?_
            refine rs rfl (s_move rfl rfl) ?_
            refine rs rfl (s_move rfl rfl) ?_
            refine rs rfl (s_iaS hl (by omega) (by omega) rfl rfl rfl Tryz.underlying22 Tryz.sizeOf37) ?_
            obtain ⟨sv48, hsv48, hat48⟩ := hl.get (j := i) (by omega)
            refine rs rfl (s_ldS hat48 (by omega) rfl rfl Tryz.isAgg37 Tryz.sizeOf37) ?_
            refine run_callv (vs := [_, _]) rfl rfl rfl rfl rfl rfl en85 (befS_fn _ _ _ _ _ _ _ hsv44 hsv48) ?_
            refine rs rfl (s_not rfl rfl) ?_
            refine run_end ?_
            refine wp_cond' rfl (fun hc50 => ?_) (fun hc50 => ?_)
            · skip
              refine wp_seq' ?_
              refine wp_text rfl ?_
              refine rs rfl (s_assign rfl rfl) ?_
              refine run_end ?_
              refine wp_ret' ?_
              exact fin_ret (res_tmp rfl rfl) (by rw [rgrpI, if_neg hc12, if_neg hc15, if_neg hc18, if_neg (by simp [hz]), if_pos (adjI_false (i := i) (by omega) (by rw [decide_eq_false (show ¬ i = 0 by omega), Bool.false_or]; simpa using hc50))])
            · skip
              refine wp_skip' ?_
              refine wp_text rfl ?_
              refine rs rfl (s_move rfl rfl) ?_
              refine rs rfl (s_add rfl rfl rfl (IntWalk.i64_in _ (by omega))) ?_
              refine rs rfl (s_assign rfl rfl) ?_
              refine run_end ?_
              exact ⟨i + 1, ⟨by omega, by omega, by rw [adjI_succ, ha, decide_eq_false (show ¬ i = 0 by omega)]; simpa using hc50⟩, by omega, ⟨by repeat (first|exact True.intro|refine And.intro rfl ?_), rfl, by repeat (first|exact NS _|exact SR _|apply SCC|apply SC)⟩⟩
          · skip
            have hadj := adjI_end ha (by omega) (by omega)
            refine wp_exit' ?_
            refine wp_seq' ?_
            refine wp_seq' ?_
            refine wp_text rfl ?_
            refine rs rfl (s_assign rfl rfl) ?_
            refine run_end ?_
            refine wp_block' ?_
            refine wp_loopg (fun i : Nat => i ≤ l.length ∧ ∀ j, j < i → ∀ k, k < l.length → ¬ idxA l (comp (l.getD j ([], false)) (l.getD k ([], false))) < 0) (fun i => ⟨[(8, .int .i64 i), (1, .int .i64 c), (0, v)], []⟩) (fun i => l.length - i) 0 ⟨Nat.zero_le _, fun _ h => by omega⟩ ⟨by repeat (first|exact True.intro|refine And.intro rfl ?_), (by first | exact fun _ _ hb => hb | assumption), by repeat (first|exact NS _|exact SR _|apply SCC|apply SC)⟩ fun i hi => ?_
            obtain ⟨hi, hn2⟩ := hi
            refine wp_seq' ?_
            refine wp_seq' ?_
            refine wp_text rfl ?_
            refine rs rfl (s_move rfl rfl) ?_
            refine rs rfl (s_move rfl rfl) ?_
            refine rs rfl (s_lenS hl rfl rfl Tryz.underlying22) ?_
            refine rs rfl (s_lt rfl rfl rfl) ?_
            refine run_end ?_
            refine wp_if' rfl (fun hc54 => ?_) (fun hc54 => ?_)
            · skip
              refine wp_skip' ?_
              refine wp_seq' ?_
              refine wp_block' ?_
              refine wp_seq' ?_
              refine wp_text rfl ?_
              refine rs rfl (s_assign rfl rfl) ?_
              refine run_end ?_
              refine wp_block' ?_
              refine wp_loopg (fun k : Nat => k ≤ l.length ∧ ∀ j, j < k → ¬ idxA l (comp (l.getD i ([], false)) (l.getD j ([], false))) < 0) (fun k => ⟨[(9, .int .i64 k), (8, .int .i64 i), (1, .int .i64 c), (0, v)], []⟩) (fun k => l.length - k) 0 ⟨Nat.zero_le _, fun _ h => by omega⟩ ⟨by repeat (first|exact True.intro|refine And.intro rfl ?_), (by first | exact fun _ _ hb => hb | assumption), by repeat (first|exact NS _|exact SR _|apply SCC|apply SC)⟩ fun k hk => ?_
              obtain ⟨hk, hn3⟩ := hk
              refine wp_seq' ?_
              refine wp_seq' ?_
              refine wp_text rfl ?_
              refine rs rfl (s_move rfl rfl) ?_
              refine rs rfl (s_move rfl rfl) ?_
              refine rs rfl (s_lenS hl rfl rfl Tryz.underlying22) ?_
              refine rs rfl (s_lt rfl rfl rfl) ?_
              refine run_end ?_
              refine wp_if' rfl (fun hc60 => ?_) (fun hc60 => ?_)
              · skip
                refine wp_skip' ?_
                refine wp_seq' ?_
                refine wp_block' ?_
                refine wp_seq' ?_
                refine wp_any [0, 1, 2, 3, 4, 5, 6, 7, 8, 9, 10, 11] rfl (by kernel_rfl) ?_
                refine rs rfl (s_move rfl rfl) ?_
                refine rs rfl (s_move rfl rfl) ?_
                refine rs rfl (s_move rfl rfl) ?_
                refine rs rfl (s_iaS hl (by omega) (by omega) rfl rfl rfl Tryz.underlying22 Tryz.sizeOf37) ?_
                obtain ⟨sv67, hsv67, hat67⟩ := hl.get (j := i) (by omega)
                refine rs rfl (s_ldS hat67 (by omega) rfl rfl Tryz.isAgg37 Tryz.sizeOf37) ?_
                refine rs rfl (s_move rfl rfl) ?_
                refine rs rfl (s_move rfl rfl) ?_
                refine rs rfl (s_iaS hl (by omega) (by omega) rfl rfl rfl Tryz.underlying22 Tryz.sizeOf37) ?_
                obtain ⟨sv71, hsv71, hat71⟩ := hl.get (j := k) (by omega)
                refine rs rfl (s_ldS hat71 (by omega) rfl rfl Tryz.isAgg37 Tryz.sizeOf37) ?_
                refine run_call (vs := [_, _]) rfl rfl rfl rfl rfl rfl en65 (rcompose_fn (l.getD i ([], false)) (l.getD k ([], false)) _ _ _ hsv67 hsv71 (fun j hj => by have h1 := hok i (by omega); have h2 := (hok k (by omega)); have h3 := h2.2.2.getD_range hj; omega)) ?_
                intro v72 h72 hv72 hh72
                have hl := hl.mono hh72
                have hsv67 := hsv67.mono hh72
                have hsv71 := hsv71.mono hh72
                obtain ⟨sv72, rfl, hsv72⟩ := hv72
                refine run_callv (vs := [_, _]) rfl rfl rfl rfl rfl rfl en84 (idxA_fn _ _ _ _ _ hl hsv72) ?_
                refine rs rfl (s_lt rfl rfl rfl) ?_
                refine run_end ?_
                refine wp_if' rfl (fun hc74 => ?_) (fun hc74 => ?_)
                · skip
                  refine wp_seq' ?_
                  refine wp_text rfl ?_
                  refine rs rfl (s_assign rfl rfl) ?_
                  refine run_end ?_
                  refine wp_ret' ?_
                  exact fin_ret (res_tmp rfl rfl) (by rw [rgrpI, if_neg hc12, if_neg hc15, if_neg hc18, if_neg (by simp [hz]), if_neg (by simp [hadj]), if_neg (by rw [closedB_no (i := i) (k := k) (by omega) (by omega) hc74]; simp)])
                · skip
                  refine wp_skip' ?_
                  refine wp_text rfl ?_
                  refine rs rfl (s_move rfl rfl) ?_
                  refine rs rfl (s_add rfl rfl rfl (IntWalk.i64_in _ (by omega))) ?_
                  refine rs rfl (s_assign rfl rfl) ?_
                  refine run_end ?_
                  exact ⟨k + 1, ⟨by omega, fun j hj => (Nat.lt_succ_iff_lt_or_eq.1 hj).elim (hn3 j) (fun e => by rw [e]; exact hc74)⟩, by omega, ⟨by repeat (first|exact True.intro|refine And.intro rfl ?_), (by first | exact fun _ _ hb => hb | assumption), by repeat (first|exact NS _|exact SR _|apply SCC|apply SC)⟩⟩
              · skip
                refine wp_exit' ?_
                refine wp_text rfl ?_
                refine rs rfl (s_move rfl rfl) ?_
                refine rs rfl (s_add rfl rfl rfl (IntWalk.i64_in _ (by omega))) ?_
                refine rs rfl (s_assign rfl rfl) ?_
                refine run_end ?_
                exact ⟨i + 1, ⟨by omega, fun j hj => (Nat.lt_succ_iff_lt_or_eq.1 hj).elim (hn2 j) (fun e => by rw [e]; exact fun k2 hk2 => hn3 k2 (by omega))⟩, by omega, ⟨by repeat (first|exact True.intro|refine And.intro rfl ?_), (by first | exact fun _ _ hb => hb | assumption), by repeat (first|exact NS _|exact SR _|apply SCC|apply SC)⟩⟩
            · skip
              refine wp_exit' ?_
              refine wp_seq' ?_
              refine wp_text rfl ?_
              refine rs rfl (s_assign rfl rfl) ?_
              refine run_end ?_
              refine wp_ret' ?_
              exact fin_ret (res_tmp rfl rfl) (by rw [rgrpI, if_neg hc12, if_neg hc15, if_neg hc18, if_neg (by simp [hz]), if_neg (by simp [hadj]), if_pos (closedB_yes fun j hj k hk => hn2 j (by omega) k hk)])
set_option maxRecDepth 8000 in
theorem long0_fn (f : List Int) (v : Value) (h : H) (hl : RdI0 h v f) : FnV Tryz.prog 51 #[v] h (.bool (longI f)) := by
  refine fn_of (vs := [v]) Tryz.func51 rfl Tryz.ntmps51 (Nat.le_of_ble_eq_true rfl) fun w hw => ?_
  refine wp_seq' ?_
  refine wp_text rfl ?_
  refine rs rfl (s_assign rfl rfl) ?_
  refine run_end ?_
  refine wp_seq' ?_
  refine wp_text rfl ?_
  refine rs rfl (s_move rfl rfl) ?_
  refine rs rfl (s_lenI0 hl rfl rfl Tryz.underlying35) ?_
  refine rs rfl (s_gt rfl rfl rfl) ?_
  refine rs rfl (s_move rfl rfl) ?_
  refine run_cases (t := 6) rfl (fun hg6 => ?_) (fun hg6 => ?_)
  · skip
    refine rsg rfl rfl (s_move rfl rfl) ?_
    refine rsg rfl rfl (s_lenI0 hl rfl rfl Tryz.underlying35) ?_
    refine rsg rfl rfl (s_lt rfl rfl rfl) ?_
    refine rs rfl (s_pick rfl rfl (fun _ => rfl) (fun h => by cases h)) ?_
    refine rs rfl (s_move rfl rfl) ?_
    refine run_cases (t := 11) rfl (fun hg11 => ?_) (fun hg11 => ?_)
    · skip
      refine run_skip rfl rfl rfl rfl rfl rfl rfl ?_
      refine run_skip rfl rfl rfl rfl rfl rfl rfl ?_
      refine run_skip rfl rfl rfl rfl rfl rfl rfl ?_
      refine rs rfl (s_pick rfl rfl (fun _ => rfl) (fun h => by cases h)) ?_
      refine rs rfl (s_assign rfl rfl) ?_
      refine run_end ?_
      refine wp_ret' ?_
      exact fin_ret (res_tmp rfl rfl) (by first | (simp_all [longI]; done) | (simp_all [longI]; omega))
    · skip
      refine rsg rfl rfl (s_move rfl rfl) ?_
      refine rsg rfl rfl (s_lenI0 hl rfl rfl Tryz.underlying35) ?_
      refine rsg rfl rfl (s_gt rfl rfl rfl) ?_
      refine rs rfl (s_pick rfl rfl (fun h => by cases h) (fun _ => rfl)) ?_
      refine rs rfl (s_assign rfl rfl) ?_
      refine run_end ?_
      refine wp_ret' ?_
      exact fin_ret (res_tmp rfl rfl) (by first | (simp_all [longI]; done) | (simp_all [longI]; omega))
  · skip
    refine run_skip rfl rfl rfl rfl rfl rfl rfl ?_
    refine run_skip rfl rfl rfl rfl rfl rfl rfl ?_
    refine run_skip rfl rfl rfl rfl rfl rfl rfl ?_
    refine rs rfl (s_pick rfl rfl (fun h => by cases h) (fun _ => rfl)) ?_
    refine rs rfl (s_move rfl rfl) ?_
    refine rsg rfl rfl (s_move rfl rfl) ?_
    refine rsg rfl rfl (s_lenI0 hl rfl rfl Tryz.underlying35) ?_
    refine rsg rfl rfl (s_gt rfl rfl rfl) ?_
    refine rs rfl (s_pick rfl rfl (fun h => by cases h) (fun _ => rfl)) ?_
    refine rs rfl (s_assign rfl rfl) ?_
    refine run_end ?_
    refine wp_ret' ?_
    exact fin_ret (res_tmp rfl rfl) (by first | (simp_all [longI]; done) | (simp_all [longI]; omega))
end Go.Tal

namespace Go.Tal
open Go.RowKit Go.Proofs _root_.Tal
theorem getD_memL {l : List (List Int)} {i : Nat} (h : i < l.length) : l.getD i [] ∈ l := by
  rw [List.getD_eq_getElem?_getD, List.getElem?_eq_getElem h]
  exact List.getElem_mem h
def keyS (o : List Int) : ByteArray := strOfNums (keyL o false)
def lineKV (ls : List (List Int)) : List (ByteArray × Value) := ls.foldl (fun kvs l => kvPut kvs (keyS l) (.bool true)) []
theorem lineKV_succ {ls : List (List Int)} {k : Nat} (hk : k < ls.length) : lineKV (ls.take (k + 1)) = kvPut (lineKV (ls.take k)) (keyS (ls.getD k [])) (.bool true) := foldl_take _ _ hk
theorem kvGet_fold (s : ByteArray) : ∀ (ls : List (List Int)) (kvs : List (ByteArray × Value)), kvGet (ls.foldl (fun kvs l => kvPut kvs (keyS l) (.bool true)) kvs) s = if ls.any (fun o => s == keyS o) then some (.bool true) else kvGet kvs s
  | [], kvs => rfl
  | l :: ls, kvs => by
    rw [List.foldl_cons, kvGet_fold s ls, kvGet_put, List.any_cons]
    cases ls.any (fun o => s == keyS o) <;> cases (s == keyS l) <;> rfl
theorem kvGet_lines (ls : List (List Int)) (s : ByteArray) : kvGet (lineKV ls) s = if ls.any (fun o => s == keyS o) then some (.bool true) else none := kvGet_fold s ls []
def imgS (a l : List Int) : List Int := sortedI (l.map fun x => a.getD x.toNat 0)
def keepI (ls : List (List Int)) (a l : List Int) : Bool := ls.any fun o => keyS (imgS a l) == keyS o
theorem keepI_get (ls : List (List Int)) (a l : List Int) : (kvGet (lineKV ls) (keyS (imgS a l))).getD (.bool false) = .bool (keepI ls a l) := by
  rw [kvGet_lines, keepI]
  cases ls.any fun o => keyS (imgS a l) == keyS o <;> rfl
theorem lineI_zero {n : Int} {ls : List (List Int)} {i : Nat} (h : lineI n ls i = 0) : 0 < (ls.getD i []).length ∧ (∀ k, k < (ls.getD i []).length → (0 ≤ (ls.getD i []).getD k 0 ∧ (ls.getD i []).getD k 0 < n) ∧ (0 < k → (ls.getD i []).getD (k - 1) 0 < (ls.getD i []).getD k 0)) ∧ ∀ o ∈ ls.take i, o ≠ ls.getD i [] := by
  unfold lineI at h
  by_cases h0 : ((ls.getD i []).length : Int) = 0
  · rw [if_pos h0] at h; cases h
  rw [if_neg h0] at h
  by_cases h1 : rowI n (ls.getD i []) ≠ 0
  · rw [if_pos h1] at h; exact absurd h h1
  rw [if_neg h1, whenI_zero (by decide)] at h
  have h2 := Decidable.not_not.1 h1
  unfold rowI at h2
  rw [firstI_zero] at h2
  refine ⟨by omega, fun k hk => ?_, fun o ho e => ?_⟩
  · have h3 := h2 _ (List.mem_map.2 ⟨k, List.mem_range.2 hk, rfl⟩)
    simp only [cellI, firstI_zero, List.mem_cons, List.not_mem_nil, or_false, forall_eq_or_imp, forall_eq, whenI_zero (show (10 : Int) ≠ 0 by decide), whenI_zero (show (11 : Int) ≠ 0 by decide), Bool.or_eq_false_iff, Bool.and_eq_false_iff, decide_eq_false_iff_not] at h3
    obtain ⟨⟨h4, h5⟩, h6⟩ := h3
    refine ⟨by omega, fun hk0 => ?_⟩
    rcases h6 with h6 | h6
    · omega
    · rw [show ((k : Int) - 1).toNat = k - 1 from by omega] at h6; omega
  · have h3 := List.any_eq_false.1 h o ho
    exact h3 (by simpa using e)
theorem sysI_zero {n : Int} {ls : List (List Int)} (h : sysI n ls = 0) : (1 ≤ n ∧ n ≤ 256) ∧ ls.length ≤ 128 ∧ ∀ i, i < ls.length → lineI n ls i = 0 := by
  unfold sysI at h
  by_cases h0 : sysI0 n ls ≠ 0
  · rw [if_pos h0] at h; exact absurd h h0
  rw [if_neg h0, firstI_zero] at h
  have h1 := Decidable.not_not.1 h0
  simp only [sysI0, firstI_zero, List.mem_cons, List.not_mem_nil, or_false, forall_eq_or_imp, forall_eq, whenI_zero (show (3 : Int) ≠ 0 by decide), whenI_zero (show (5 : Int) ≠ 0 by decide), List.any_cons, List.any_nil, Bool.or_false, outI, Bool.or_eq_false_iff, decide_eq_false_iff_not] at h1
  exact ⟨by omega, by omega, fun i hi => h _ (List.mem_map.2 ⟨i, List.mem_range.2 hi, rfl⟩)⟩
theorem line_rng {n : Int} {ls : List (List Int)} (h : sysI n ls = 0) {i : Nat} (hi : i < ls.length) : ∀ k, k < (ls.getD i []).length → 0 ≤ (ls.getD i []).getD k 0 ∧ (ls.getD i []).getD k 0 < n := fun k hk => ((lineI_zero ((sysI_zero h).2.2 i hi)).2.1 k hk).1
set_option maxRecDepth 8000 in
set_option maxHeartbeats 4000000 in
theorem keep1_fn (ls : List (List Int)) (a l : List Int) (va vl : Value) (b3 m : Nat) (h : H) (ha : RdI h va a) (hl : RdI h vl l) (hb : h b3 = some (.cells #[.map (some m)] 184 (0, 0))) (hm : h m = some (mapO (lineKV ls))) (hr : ∀ k, k < l.length → 0 ≤ l.getD k 0 ∧ l.getD k 0 < a.length) : FnV Tryz.prog 169 #[va, vl, .pointer (some ⟨b3, 0, none⟩)] h (.bool (keepI ls a l)) := by
  have hlm := hl.len
  have ham := ha.len
  refine fn_of (vs := [va, vl, .pointer (some ⟨b3, 0, none⟩)]) Tryz.func169 rfl Tryz.ntmps169 (Nat.le_of_ble_eq_true rfl) fun w hw => ?_
  repeat refine wp_seq' ?_
  refine wp_text rfl ?_
  refine rs rfl (s_assign rfl rfl) ?_
  refine run_end ?_
  repeat refine wp_seq' ?_
  refine wp_text rfl ?_
  refine rs rfl (s_assign rfl rfl) ?_
  refine run_end ?_
  repeat refine wp_seq' ?_
  refine wp_text rfl ?_
  refine rs rfl (s_move rfl rfl) ?_
  refine rs rfl (s_lenI hl rfl rfl Tryz.underlying35) ?_
  refine rs rfl (s_move rfl rfl) ?_
  refine run_end ?_
  repeat refine wp_seq' ?_
  refine wp_block' ?_
  refine WP.nilrow 3 1 ?_
  refine wp_loop' (ι := Nat × Option Addr × Nat) (fun x => x.1 ≤ l.length) (fun x => ⟨[(11, .int .i64 x.1), (10, .int .i64 l.length), (9, vl), (6, .slice x.2.1 x.1 x.2.2), (2, .pointer (some ⟨b3, 0, none⟩)), (0, va)], h, [.row (.slice x.2.1 x.1 x.2.2) 3 1 x.1 (((l.take x.1).map fun y => a.getD y.toNat 0).map (Value.int .i64))]⟩) (fun x => l.length - x.1) (0, none, 0) (Nat.zero_le _) ⟨by repeat (first|exact True.intro|refine And.intro rfl ?_), rfl, by repeat (first|exact NS _|exact SR _|apply SCC|apply SC)⟩ fun x hx => ?_
  obtain ⟨k, A, q⟩ := x
  dsimp only at hx ⊢
  repeat refine wp_seq' ?_
  refine wp_text rfl ?_
  refine rs rfl (s_lt rfl rfl rfl) ?_
  refine run_end ?_
  repeat refine wp_seq' ?_
  refine wp_if' rfl (fun hc12 => ?_) (fun hc12 => ?_)
  · skip
    refine wp_skip' ?_
    have hrk := hr k (by omega)
    repeat refine wp_seq' ?_
    refine wp_block' ?_
    repeat refine wp_seq' ?_
    refine wp_text rfl ?_
    refine rs rfl (s_iaI hl (by omega) (by omega) rfl rfl rfl Tryz.underlying35 Tryz.sizeOf3) ?_
    refine rs rfl (s_ldI hl (by omega) (by omega) rfl rfl Tryz.isAgg3) ?_
    refine rs rfl (s_assign rfl rfl) ?_
    refine run_end ?_
    simp only [Int.toNat_natCast]
    repeat refine wp_seq' ?_
    refine wp_text rfl ?_
    refine rs rfl (s_move rfl rfl) ?_
    refine rs rfl (s_move rfl rfl) ?_
    refine rs rfl (s_move rfl rfl) ?_
    refine rs rfl (s_iaI ha (by omega) (by omega) rfl rfl rfl Tryz.underlying35 Tryz.sizeOf3) ?_
    refine rs rfl (s_ldI ha (by omega) (by omega) rfl rfl Tryz.isAgg3) ?_
    refine run_bso (parts := [_]) (vs := [_]) rfl rfl rfl rfl rfl rfl (bs35_1 _) fun b20 => ?_
    refine run_app1 (Value.int .i64) _ rfl rfl rfl rfl rfl rfl rfl Tryz.underlying35 info3 rfl (fun v' => (by repeat first|exact Swap.here|apply Swap.there)) (by repeat first|exact MH _|apply MT) rfl (by omega) (by decide) fun v21 hv21 => ?_
    obtain ⟨A21, c21, rfl⟩ := hv21
    refine rs rfl (s_assign rfl rfl) ?_
    refine run_end ?_
    refine wp_text rfl ?_
    refine rs rfl (s_add rfl rfl rfl (IntWalk.i64_in _ (by omega))) ?_
    refine rs rfl (s_move rfl rfl) ?_
    refine run_end ?_
    have e := map_take_succ (f := fun y => a.getD y.toNat 0) (a := l) (i := k) (by omega)
    rw [← e]
    exact ⟨(k + 1, A21, c21), by dsimp only; omega, by dsimp only; omega, ⟨by repeat (first|exact True.intro|refine And.intro rfl ?_), rfl, by repeat (first|exact NS _|exact SR _|apply SCC|apply SC)⟩⟩
  · skip
    refine wp_exit' ?_
    obtain rfl : k = l.length := by omega
    rw [List.take_length]
    repeat refine wp_seq' ?_
    refine wp_text rfl ?_
    refine rs rfl (s_move rfl rfl) ?_
    refine run_callM (L := [_]) (M := []) (vs := [_]) rfl rfl rfl (dst_lt rfl rfl) rfl rfl en91 (List.Perm.refl _) (sortIv_fn _ _ _ _ (by omega)) ?_
    rintro _ h20 _ ⟨rfl, e20, rfl⟩ _
    have e21 := e20.symm
    subst e21
    refine run_end ?_
    refine WP.letO rfl (by repeat first|exact Pick.here|apply Pick.there) (by omega) fun h5 hh5 hov => ?_
    have hb := hh5 _ _ hb
    have hm := hh5 _ _ hm
    repeat refine wp_seq' ?_
    refine wp_any [0, 1, 2, 3, 4, 5] rfl (by kernel_rfl) ?_
    refine rs rfl (s_ld rfl rfl Tryz.isAgg184 (.imm _ _ _ hb rfl)) ?_
    refine rs rfl (s_move rfl rfl) ?_
    refine rs rfl (s_build1 rfl rfl (b112_0 _ _ _)) ?_
    refine run_callv (vs := [_]) rfl rfl rfl rfl rfl rfl en123 (key_fn _ _ _ _ hov) ?_
    refine rs rfl (s_look1 rfl rfl rfl Tryz.underlying184 Tryz.underlying9 Tryz.zeroValue4 (.imm hm)) ?_
    refine rs rfl (s_assign rfl rfl) ?_
    refine run_end ?_
    refine wp_ret' ?_
    exact fin_ret (res_tmp rfl rfl) (keepI_get ls a l)
set_option maxRecDepth 8000 in
set_option maxHeartbeats 4000000 in
theorem keeper_fn (n : Int) (ls : List (List Int)) (tv : Value) (h : H) (ht : RdT h tv ls) : Fn Tryz.prog 104 #[.agg #[.int .i64 n, tv]] h fun r h' => ∃ b3 m, r = .func (.func 169) #[] #[.pointer (some ⟨b3, 0, none⟩)] ∧ h' b3 = some (.cells #[.map (some m)] 184 (0, 0)) ∧ h' m = some (mapO (lineKV ls)) := by
  have htm := ht.len
  refine fn_of (vs := [.agg #[.int .i64 n, tv]]) Tryz.func104 rfl Tryz.ntmps104 (Nat.le_of_ble_eq_true rfl) fun w hw => ?_
  obtain ⟨A, c, rfl, _⟩ := id ht
  repeat refine wp_seq' ?_
  refine wp_text rfl ?_
  refine run_box rfl rfl rfl rfl rfl rfl rfl fun b1 => ?_
  refine rs rfl (s_assign rfl rfl) ?_
  refine run_end ?_
  repeat refine wp_seq' ?_
  refine wp_text rfl ?_
  refine run_mkmapO rfl rfl rfl rfl rfl fun m => ?_
  refine run_alloc rfl rfl rfl rfl rfl Tryz.zeroValue184 rfl fun b3 => ?_
  refine run_st rfl rfl rfl rfl rfl rfl rfl rfl Tryz.sizeOf184 (by repeat first|exact Swap.here|apply Swap.there) rfl ?_
  refine run_end ?_
  repeat refine wp_seq' ?_
  refine wp_text rfl ?_
  refine rs rfl (s_fa (off := 1) rfl rfl Tryz.underlying46 rfl Tryz.sizeOf26 rfl) ?_
  refine rs rfl (s_ld rfl rfl Tryz.isAgg26 (.own _ _ _ (by repeat first|exact MH _|apply MT) rfl)) ?_
  refine rs rfl (s_lenT ht rfl rfl Tryz.underlying26) ?_
  refine rs rfl (s_move rfl rfl) ?_
  refine run_end ?_
  repeat refine wp_seq' ?_
  refine wp_block' ?_
  refine wp_loop' (fun k : Nat => k ≤ ls.length) (fun k => ⟨[(10, .int .i64 k), (9, .int .i64 ls.length), (8, .slice A ls.length c), (3, .pointer (some ⟨b3, 0, none⟩))], h, [.obj b3 (.cells #[.map (some m)] 184 (0, 0)), .obj m (mapO (lineKV (ls.take k)))]⟩) (fun k => ls.length - k) 0 (Nat.zero_le _) ⟨by repeat (first|exact True.intro|refine And.intro rfl ?_), rfl, by repeat (first|exact NS _|exact SR _|apply SCC|apply SC)⟩ fun k hk => ?_
  repeat refine wp_seq' ?_
  refine wp_text rfl ?_
  refine rs rfl (s_lt rfl rfl rfl) ?_
  refine run_end ?_
  repeat refine wp_seq' ?_
  refine wp_if' rfl (fun hc11 => ?_) (fun hc11 => ?_)
  · skip
    refine wp_skip' ?_
    obtain ⟨sv, hsv, hat⟩ := ht.get (j := k) (by omega)
    obtain ⟨sA, sq, rfl, _⟩ := id hsv
    repeat refine wp_seq' ?_
    refine wp_block' ?_
    repeat refine wp_seq' ?_
    refine wp_text rfl ?_
    refine rs rfl (s_iaT ht (by omega) (by omega) rfl rfl rfl Tryz.underlying26 Tryz.sizeOf35) ?_
    refine rs rfl (s_ldT hat (by omega) rfl rfl Tryz.isAgg35) ?_
    refine rs rfl (s_assign rfl rfl) ?_
    refine run_end ?_
    repeat refine wp_seq' ?_
    refine wp_any [0, 1, 2, 3, 4] rfl (by kernel_rfl) ?_
    refine rs rfl (s_ld rfl rfl Tryz.isAgg184 (.own _ _ _ (by repeat first|exact MH _|apply MT) rfl)) ?_
    refine rs rfl (s_move rfl rfl) ?_
    refine rs rfl (s_build1 rfl rfl (b112_0 _ _ _)) ?_
    refine run_callv (vs := [_]) rfl rfl rfl rfl rfl rfl en123 (key_fn _ _ _ _ hsv) ?_
    refine run_mapup1 rfl (.inl rfl) rfl rfl rfl rfl rfl Tryz.underlying184 Tryz.underlying9 (by repeat first|exact Swap.here|apply Swap.there) ?_
    refine run_end ?_
    have e := lineKV_succ (ls := ls) (k := k) (by omega)
    unfold keyS at e
    rw [← e]
    refine wp_text rfl ?_
    refine rs rfl (s_add rfl rfl rfl (IntWalk.i64_in _ (by omega))) ?_
    refine rs rfl (s_move rfl rfl) ?_
    refine run_end ?_
    exact ⟨k + 1, by omega, by omega, ⟨by repeat (first|exact True.intro|refine And.intro rfl ?_), rfl, by repeat (first|exact NS _|exact SR _|apply SCC|apply SC)⟩⟩
  · skip
    refine wp_exit' ?_
    obtain rfl : k = ls.length := by omega
    rw [List.take_length]
    refine WP.letObj (b := m) rfl (by repeat first|exact Pick.here|apply Pick.there) fun h1 hh1 hm => ?_
    refine WP.letObj (b := b3) rfl (by repeat first|exact Pick.here|apply Pick.there) fun h2 hh2 hb3 => ?_
    have hm := hh2 _ _ hm
    repeat refine wp_seq' ?_
    refine wp_text rfl ?_
    refine rs rfl (s_mkf (vs := [.pointer (some ⟨b3, 0, none⟩)]) rfl rfl) ?_
    refine rs rfl (s_assign rfl rfl) ?_
    refine run_end ?_
    refine wp_ret' ?_
    exact fin_ret (res_tmp rfl rfl) ⟨b3, m, rfl, hb3, hm⟩
def keepsE (n : Int) (ls : List (List Int)) (a : List Int) : Int := firstI [sysI n ls, symI a n]
def keepsO (n : Int) (ls : List (List Int)) (a : List Int) : Bool × Int := if keepsE n ls a ≠ 0 then (false, keepsE n ls a) else (ls.all (keepI ls a), 0)
theorem keepsE_zero {n : Int} {ls : List (List Int)} {a : List Int} (h : keepsE n ls a = 0) : sysI n ls = 0 ∧ symI a n = 0 := by
  simpa [keepsE, firstI_zero] using h
set_option maxRecDepth 8000 in
set_option maxHeartbeats 4000000 in
theorem keeps_fn (n : Int) (ls : List (List Int)) (a : List Int) (cm : Bool) (tv va : Value) (h : H) (ht : RdT h tv ls) (hcap : CapOk tv ls.length) (ha : RdI h va a) : FnV Tryz.prog 73 #[.agg #[.int .i64 n, tv], .agg #[va, .bool cm]] h (.tuple #[.bool (keepsO n ls a).1, .int .i64 (keepsO n ls a).2]) := by
  have htm := ht.len
  have ham := ha.len
  refine fn_of (vs := [.agg #[.int .i64 n, tv], .agg #[va, .bool cm]]) Tryz.func73 rfl Tryz.ntmps73 (Nat.le_of_ble_eq_true rfl) fun w hw => ?_
  obtain ⟨A, c, rfl, _⟩ := id ht
  repeat refine wp_seq' ?_
  refine wp_text rfl ?_
  refine run_box rfl rfl rfl rfl rfl rfl rfl fun b2 => ?_
  refine run_box rfl rfl rfl rfl rfl rfl rfl fun b3 => ?_
  refine rs rfl (s_assign rfl rfl) ?_
  refine rs rfl (s_assign rfl rfl) ?_
  refine run_end ?_
  repeat refine wp_seq' ?_
  refine wp_any [0, 2, 3, 4, 1, 5, 6, 7, 8] rfl (by kernel_rfl) ?_
  refine rs rfl (s_ld2 rfl rfl Tryz.isAgg46 Tryz.sizeOf46 (.own _ _ _ (by repeat first|exact MH _|apply MT) rfl) (.own _ _ _ (by repeat first|exact MH _|apply MT) rfl)) ?_
  refine rs rfl (s_ld2 rfl rfl Tryz.isAgg37 Tryz.sizeOf37 (.own _ _ _ (by repeat first|exact MH _|apply MT) rfl) (.own _ _ _ (by repeat first|exact MH _|apply MT) rfl)) ?_
  refine rs rfl (s_fa (off := 0) rfl rfl Tryz.underlying46 rfl Tryz.sizeOf3 rfl) ?_
  refine rs rfl (s_ld rfl rfl Tryz.isAgg3 (.own _ _ _ (by repeat first|exact MH _|apply MT) rfl)) ?_
  refine run_callv (vs := [_]) rfl rfl rfl rfl rfl rfl en103 (system_fn _ _ _ _ ht hcap) ?_
  refine run_callv (vs := [_, _]) rfl rfl rfl rfl rfl rfl en56 (checkSym_fn _ _ _ _ _ ha) ?_
  refine run_bsl (parts := [_, _]) (vs := [_, _]) rfl rfl rfl rfl rfl rfl (bs178_2 _ _) fun b10 h10 hh10 hb10 => ?_
  have hr10 := rdI_of (xs := [_, _]) hb10 rfl rfl (Nat.le_of_ble_eq_true rfl)
  have ht := ht.mono hh10
  have ha := ha.mono hh10
  refine run_callv (vs := [_]) rfl rfl rfl rfl rfl rfl en94 (first_fn _ _ _ hr10) ?_
  refine rs rfl (s_assign rfl rfl) ?_
  refine run_end ?_
  rw [show firstI [sysI n ls, symI a n] = keepsE n ls a from rfl]
  repeat refine wp_seq' ?_
  refine wp_text rfl ?_
  refine rs rfl (s_move rfl rfl) ?_
  refine rs rfl (s_ne rfl rfl rfl) ?_
  refine run_end ?_
  repeat refine wp_seq' ?_
  refine wp_if' rfl (fun hc19 => ?_) (fun hc19 => ?_)
  · skip
    repeat refine wp_seq' ?_
    refine wp_text rfl ?_
    refine rs rfl (s_move rfl rfl) ?_
    refine rs rfl (s_assign rfl rfl) ?_
    refine rs rfl (s_assign rfl rfl) ?_
    refine run_end ?_
    refine wp_ret' ?_
    exact fin_ret (res_tt rfl rfl rfl) (by rw [keepsO, if_pos hc19])
  · skip
    refine wp_skip' ?_
    obtain ⟨hs0, ha0⟩ := keepsE_zero (Decidable.not_not.1 hc19)
    have hal := (symI_zero.1 ha0).2.1
    have hO : keepsO n ls a = (ls.all (keepI ls a), 0) := by rw [keepsO, if_neg hc19]
    repeat refine wp_seq' ?_
    refine wp_text rfl ?_
    refine rs rfl (s_ld2 rfl rfl Tryz.isAgg46 Tryz.sizeOf46 (.own _ _ _ (by repeat first|exact MH _|apply MT) rfl) (.own _ _ _ (by repeat first|exact MH _|apply MT) rfl)) ?_
    refine run_call (vs := [_]) rfl rfl rfl rfl rfl rfl en104 (keeper_fn _ _ _ _ ht) ?_
    intro v22 h5 ⟨b5, m, e22, hb5, hm5⟩ hh5
    subst e22
    have ht := ht.mono hh5
    have ha := ha.mono hh5
    refine rs rfl (s_assign rfl rfl) ?_
    refine run_end ?_
    repeat refine wp_seq' ?_
    refine wp_text rfl ?_
    refine rs rfl (s_fa (off := 1) rfl rfl Tryz.underlying46 rfl Tryz.sizeOf26 rfl) ?_
    refine rs rfl (s_ld rfl rfl Tryz.isAgg26 (.own _ _ _ (by repeat first|exact MH _|apply MT) rfl)) ?_
    refine rs rfl (s_lenT ht rfl rfl Tryz.underlying26) ?_
    refine rs rfl (s_move rfl rfl) ?_
    refine run_end ?_
    repeat refine wp_seq' ?_
    refine wp_block' ?_
    refine wp_loop' (fun k : Nat => k ≤ ls.length ∧ ∀ j, j < k → keepI ls a (ls.getD j []) = true) (fun k => ⟨[(26, .int .i64 k), (25, .int .i64 ls.length), (24, .slice A ls.length c), (7, .func (.func 169) #[] #[.pointer (some ⟨b5, 0, none⟩)]), (3, .pointer (some ⟨b3, 0, none⟩))], h5, [.obj b3 (.cells #[va, .bool cm] 37 (0, 0))]⟩) (fun k => ls.length - k) 0 ⟨Nat.zero_le _, fun _ h => by omega⟩ ⟨by repeat (first|exact True.intro|refine And.intro rfl ?_), rfl, by repeat (first|exact NS _|exact SR _|apply SCC|apply SC)⟩ fun k hk => ?_
    obtain ⟨hk, hn⟩ := hk
    repeat refine wp_seq' ?_
    refine wp_text rfl ?_
    refine rs rfl (s_lt rfl rfl rfl) ?_
    refine run_end ?_
    repeat refine wp_seq' ?_
    refine wp_if' rfl (fun hc27 => ?_) (fun hc27 => ?_)
    · skip
      refine wp_skip' ?_
      obtain ⟨sv, hsv, hat⟩ := ht.get (j := k) (by omega)
      have hrk := line_rng hs0 (i := k) (by omega)
      rw [← hal] at hrk
      repeat refine wp_seq' ?_
      refine wp_block' ?_
      repeat refine wp_seq' ?_
      refine wp_text rfl ?_
      refine rs rfl (s_iaT ht (by omega) (by omega) rfl rfl rfl Tryz.underlying26 Tryz.sizeOf35) ?_
      refine rs rfl (s_ldT hat (by omega) rfl rfl Tryz.isAgg35) ?_
      refine rs rfl (s_assign rfl rfl) ?_
      refine run_end ?_
      repeat refine wp_seq' ?_
      refine wp_text rfl ?_
      refine rs rfl (s_move rfl rfl) ?_
      refine rs rfl (s_fa (off := 0) rfl rfl Tryz.underlying37 rfl Tryz.sizeOf35 rfl) ?_
      refine rs rfl (s_ld rfl rfl Tryz.isAgg35 (.own _ _ _ (by repeat first|exact MH _|apply MT) rfl)) ?_
      refine rs rfl (s_move rfl rfl) ?_
      refine run_callwv (vs := [_, _]) rfl rfl rfl rfl rfl rfl rfl en169 (keep1_fn ls a _ _ _ b5 m _ ha hsv hb5 hm5 hrk) ?_
      refine rs rfl (s_not rfl rfl) ?_
      refine run_end ?_
      repeat refine wp_seq' ?_
      refine wp_cond' rfl (fun hc35 => ?_) (fun hc35 => ?_)
      · skip
        repeat refine wp_seq' ?_
        refine wp_text rfl ?_
        refine rs rfl (s_assign rfl rfl) ?_
        refine rs rfl (s_assign rfl rfl) ?_
        refine run_end ?_
        refine wp_ret' ?_
        exact fin_ret (res_tt rfl rfl rfl) (by rw [hO, show ls.all (keepI ls a) = false from List.all_eq_false.2 ⟨_, getD_memL (i := k) (by omega), by simpa using hc35⟩])
      · skip
        refine wp_skip' ?_
        refine wp_text rfl ?_
        refine rs rfl (s_add rfl rfl rfl (IntWalk.i64_in _ (by omega))) ?_
        refine rs rfl (s_move rfl rfl) ?_
        refine run_end ?_
        exact ⟨k + 1, ⟨by omega, fun j hj => (Nat.lt_succ_iff_lt_or_eq.1 hj).elim (hn j) (fun e => by rw [e]; simpa using hc35)⟩, by omega, ⟨by repeat (first|exact True.intro|refine And.intro rfl ?_), rfl, by repeat (first|exact NS _|exact SR _|apply SCC|apply SC)⟩⟩
    · skip
      refine wp_exit' ?_
      repeat refine wp_seq' ?_
      refine wp_text rfl ?_
      refine rs rfl (s_assign rfl rfl) ?_
      refine rs rfl (s_assign rfl rfl) ?_
      refine run_end ?_
      refine wp_ret' ?_
      exact fin_ret (res_tt rfl rfl rfl) (by rw [hO, show ls.all (keepI ls a) = true from List.all_eq_true.2 fun o ho => by obtain ⟨j, hj, rfl⟩ := List.getElem_of_mem ho; have := hn j (by omega); simpa [List.getD_eq_getElem?_getD, List.getElem?_eq_getElem hj] using this])
end Go.Tal
