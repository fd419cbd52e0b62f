/-
  Part 1: symbolic states for walks, contracts of functions, plain laws; no condition.
-/
import Derived.Test.YtemginpenfhkkaaGreatDoorPart0
import Derived.MapKept
import Derived.RangeFuncIn
import Derived.RangeFuncNested
import Derived.ArgAppend
import Derived.Shelf.SlSortCmp.NoneTotal
import Derived.Maps.RangeRun
namespace Go.Tal
open Go.RowKit Go.Proofs Go.Proofs.Tryz _root_.Tal
def imgStep (a : List Int) (cm : Bool) (f : List Int) (out : List Int) (i : Nat) : List Int := out.set (a.getD i 0).toNat (if cm then (f.length : Int) + 1 - f.getD i 0 else f.getD i 0)
def imgTo (a : List Int) (cm : Bool) (f : List Int) (k : Nat) : List Int := (List.range k).foldl (imgStep a cm f) (List.replicate f.length 0)
def imgI (a : List Int) (cm : Bool) (f : List Int) : List Int := imgTo a cm f f.length
theorem imgTo_succ (a : List Int) (cm : Bool) (f : List Int) (k : Nat) : imgTo a cm f (k + 1) = imgStep a cm f (imgTo a cm f k) k := by simp [imgTo, List.range_succ]
theorem imgTo_len (a : List Int) (cm : Bool) (f : List Int) (k : Nat) : (imgTo a cm f k).length = f.length := by
 induction k with
 | zero => simp [imgTo]
 | succ k ih => rw [imgTo_succ, imgStep, List.length_set, ih]
theorem imgTo_zero (a : List Int) (cm : Bool) (f : List Int) : (imgTo a cm f 0).map (Value.int .i64) = List.replicate f.length (.int .i64 0) := by simp [imgTo]
set_option maxRecDepth 8000 in
theorem image_fn (a : List Int) (cm : Bool) (f : List Int) (va vf : Value) (h : H) (ha : RdI h va a) (hf : RdI h vf f) (hp : PermL f.length a) (hr : ∀ i, i < f.length → -999999999 ≤ f.getD i 0 ∧ f.getD i 0 ≤ 999999999) : Fn Tryz.prog 135 #[.agg #[va, .bool cm], vf] h fun v h' => RdI h' v (imgI a cm f) := by
 have hfm := hf.len
 have hal := hp.1
 refine fn_of (vs := [.agg #[va, .bool cm], vf]) func135 rfl ntmps135 (Nat.le_of_ble_eq_true rfl) fun w hw => ?_
 apply wp_seq'
 refine wp_text rfl ?_
 refine run_box rfl rfl rfl rfl rfl rfl rfl fun b1 => ?_
 refine rm rfl ?_
 apply run_end
 apply wp_seq'
 refine wp_text rfl ?_
 refine rm rfl ?_
 refine rs rfl (s_lenI hf rfl rfl underlying35) ?_
 refine run_mksl rfl rfl rfl rfl rfl rfl rfl underlying35 info3 rfl (by omega) (by omega) fun b2 => ?_
 refine rm rfl ?_
 apply run_end
 apply wp_seq'
 apply wp_seq'
 refine wp_text rfl ?_
 refine rm rfl ?_
 refine rs rfl (s_lenI hf rfl rfl underlying35) ?_
 refine rm rfl ?_
 apply run_end
 apply wp_block'
 rw [← imgTo_zero a cm f]
 refine wp_loop' (fun i : Nat => i ≤ f.length) (fun i => ⟨[(13, .int .i64 i), (12, .int .i64 f.length), (11, vf), (5, .slice (some ⟨b2, 0, none⟩) f.length f.length), (2, .pointer (some ⟨b1, 0, none⟩)), (1, vf)], h, [.row (.slice (some ⟨b2, 0, none⟩) f.length f.length) 3 1 f.length ((imgTo a cm f i).map (Value.int .i64)), .obj b1 (.cells #[va, .bool cm] 112 (0, 0))]⟩) (fun i => f.length - i) 0 (Nat.zero_le _) ⟨by repeat (first|exact True.intro|refine And.intro rfl ?_), rfl, by repeat (first|exact NS _|exact SR _|apply SCC|apply SC)⟩ fun i hi => ?_
 apply wp_seq'
 refine wp_text rfl ?_
 refine rs rfl (s_lt rfl rfl rfl) ?_
 apply run_end
 apply wp_seq'
 refine wp_if' rfl (fun hc14 => ?_) (fun hc14 => ?_)
 ·skip
  apply wp_skip'
  apply wp_seq'
  apply wp_block'
  apply wp_seq'
  refine wp_text rfl ?_
  refine rm rfl ?_
  refine rs rfl (s_iaI hf (by omega) (by omega) rfl rfl rfl underlying35 sizeOf3) ?_
  refine rs rfl (s_ldI hf (by omega) (by omega) rfl rfl isAgg3) ?_
  try simp only [Int.toNat_natCast]
  refine rm rfl ?_
  have hfi := hr i (by omega)
  have hai := hp.getD_range (i := i) (by omega)
  refine rm rfl ?_
  apply run_end
  apply wp_seq'
  apply wp_seq'
  refine wp_text rfl ?_
  refine rs rfl (s_fa (off := 1) rfl rfl underlying112 rfl sizeOf4 rfl) ?_
  refine rs rfl (s_ld rfl rfl isAgg4 (.o_ rfl)) ?_
  apply run_end
  refine wp_cond' rfl (fun hc19 => ?_) (fun hc19 => ?_)
  ·skip
   refine wp_text rfl ?_
   refine rm rfl ?_
   refine rs rfl (s_lenI hf rfl rfl underlying35) ?_
   refine rs rfl (s_add rfl rfl rfl (IntWalk.i64_in _ (by omega))) ?_
   refine rm rfl ?_
   refine rs rfl (s_sub rfl rfl rfl (IntWalk.i64_in _ (by omega))) ?_
   refine rm rfl ?_
   apply run_end
   refine wp_text rfl ?_
   refine rm rfl ?_
   refine rs rfl (s_fa (off := 0) rfl rfl underlying112 rfl sizeOf35 rfl) ?_
   refine rs rfl (s_ld rfl rfl isAgg35 (.o_ rfl)) ?_
   refine rm rfl ?_
   refine rs rfl (s_iaI ha (by omega) (by omega) rfl rfl rfl underlying35 sizeOf3) ?_
   refine rs rfl (s_ldI ha (by omega) (by omega) rfl rfl isAgg3) ?_
   try simp only [Int.toNat_natCast]
   refine rm rfl ?_
   refine rs rfl (s_ia1 rfl rfl rfl underlying35 sizeOf3 (by omega) (by omega)) ?_
   refine run_strowM (Value.int .i64) rfl rfl rfl rfl rfl rfl rfl rfl sizeOf3 (by repeat first|exact Swap.here|apply Swap.there) (by omega) ?_
   apply run_end
   refine wp_text rfl ?_
   refine rs rfl (s_add rfl rfl rfl (IntWalk.i64_in _ (by omega))) ?_
   refine rm rfl ?_
   apply run_end
   refine ⟨i + 1, by omega, by omega, ⟨by repeat (first|exact True.intro|refine And.intro rfl ?_), rfl, ?_⟩⟩
   rw [imgTo_succ, imgStep]
   simp only at *
   simp only [*, if_true]
   exact List.Sublist.refl _
  ·skip
   apply wp_skip'
   refine wp_text rfl ?_
   refine rm rfl ?_
   refine rs rfl (s_fa (off := 0) rfl rfl underlying112 rfl sizeOf35 rfl) ?_
   refine rs rfl (s_ld rfl rfl isAgg35 (.o_ rfl)) ?_
   refine rm rfl ?_
   refine rs rfl (s_iaI ha (by omega) (by omega) rfl rfl rfl underlying35 sizeOf3) ?_
   refine rs rfl (s_ldI ha (by omega) (by omega) rfl rfl isAgg3) ?_
   try simp only [Int.toNat_natCast]
   refine rm rfl ?_
   refine rs rfl (s_ia1 rfl rfl rfl underlying35 sizeOf3 (by omega) (by omega)) ?_
   refine run_strowM (Value.int .i64) rfl rfl rfl rfl rfl rfl rfl rfl sizeOf3 (by repeat first|exact Swap.here|apply Swap.there) (by omega) ?_
   apply run_end
   refine wp_text rfl ?_
   refine rs rfl (s_add rfl rfl rfl (IntWalk.i64_in _ (by omega))) ?_
   refine rm rfl ?_
   apply run_end
   refine ⟨i + 1, by omega, by omega, ⟨by repeat (first|exact True.intro|refine And.intro rfl ?_), rfl, ?_⟩⟩
   rw [imgTo_succ, imgStep]
   simp only at *
   simp only [*, Bool.false_eq_true, if_false]
   exact List.Sublist.refl _
 ·skip
  apply wp_exit'
  apply wp_seq'
  refine wp_text rfl ?_
  refine rm rfl ?_
  refine rm rfl ?_
  apply run_end
  obtain rfl : i = f.length := by omega
  refine WP.letO rfl (by repeat first|exact Pick.here|apply Pick.there) (by omega) fun h' hh hr => ?_
  apply wp_ret'
  exact fin_ret (res_tmp rfl rfl) (hr)
end Go.Tal

/-
 Symbolic states: rows whose value is not told.
-/
namespace Go.Tal
open Go.RowKit
section
variable {P : Program} {o : Oper} {F : List (Nat × Value)} {h : H} {L : List Own} {x : Operand} {v : Value}
theorem Sat.row {w : World} (s : Sat h L w) {n sz : Nat} {e : TypeId} {xs : List Value} (hm : Own.row v e sz n xs ∈ L) : v = .slice none 0 0 ∧ n = 0 ∧ xs = [] ∨ ∃ b c, v = .slice (some ⟨b, 0, none⟩) n c := by
 have hr : w.ownsRow 0 e sz v n xs := s.own _ hm
 rcases hr.2 with ⟨h1, h2⟩ | ⟨g, cap, cur, h1, _⟩
 ·exact .inl ⟨h1, h2, List.eq_nil_of_length_eq_zero (by rw [hr.1, h2, Nat.zero_mul])⟩
 ·exact .inr ⟨g, cap, h1⟩
theorem s_cvso {s d e : TypeId} {n : Nat} {xs : List Int} (ho : o.op = .convert s d x) (hx : evF F x = some v) (hs : P.underlying s = some (.slice e)) (he : P.underlying e = some (.int .u8)) (hd : P.underlying d = some .string) {t : TypeId} (hm : Own.row v t 1 n (xs.map (Value.int .u8)) ∈ L) (hl : xs.length = n) :
 SoftOk P o F h L (.string (strOfNums xs)) := fun a w ha hw => by
 have hw' : Sat h L w := by
  rcases hw with hw | hw
  ·simp [cls, ho] at hw
  ·exact hw
 rcases hw'.row hm with ⟨h1, h2, h3⟩ | ⟨b, c, h1⟩
 ·subst h1
  have h1 := agree_of ha (by rw [ho]; simp [Op.operands]) hx
  simp only [execOp, ho, h1]
  refine run_v ?_
  have hxs : xs = [] := by simpa using h3
  subst hxs
  exact run_convert_bytes_nil (P := P) w s e hs he 0 0 d hd
 ·subst h1
  exact s_cvs ho hx hs he hd hm hl a w ha (.inr hw')
end
end Go.Tal

/-
 Symbolic states: regions of several orders that come to one state.
-/
namespace Go.Tal
open Go.RowKit
structure Wq (s t : S) : Prop where
 F : Kn s.F t.F
 h : t.h = s.h
 L : ∃ M : List Own, M.Perm t.L ∧ M.Sublist s.L
theorem St.wq {C : Ctx} {M : List Own} {s t : S} {a : Act} {w : World} (k : Wq s t) (hs : St C M s a w) : St C M t a w := by
 obtain ⟨M0, h1, h2⟩ := k.L
 refine hs.map k.F.sub fun N m => ?_
 have hsub := h2.append (List.Sublist.refl N)
 have m' : Mem C t.h (M0 ++ N) w := ⟨m.sat.less ⟨fun b o hb => by rw [k.h] at hb; exact hb, hsub⟩, fun x hx => m.new x (hsub.subset hx), fun b hb => by rw [k.h]; exact m.old b hb, m.kp⟩
 exact m'.perm (h1.append_right N)
theorem Run.imp {dr : Bool} {C : Ctx} {ops : Array Oper} {K K' : S → Prop} (hk : ∀ s, K s → K' s) : ∀ (l : List Nat) {s : S}, Run dr C ops K l s → Run dr C ops K' l s
 | [], _, ⟨F, h1, h2⟩ => ⟨F, h1, hk _ h2⟩
 | _ :: r, _, ⟨o, ho, hn⟩ => ⟨o, ho, hn.mono fun _ h => Run.imp hk r h⟩
theorem wp_cut {C : Ctx} {id : Nat} {ops : Array Oper} {Q : Exit → S → Prop} {s : S} {ι : Type} {y : Code} {Q1 : Exit → S → Prop} (T : ι → S) (ords : List (List Nat)) (hQ : ∀ s, Q .normal s = WP C y Q1 s) (hm : C.P.follows .mixedOrders = true) (hc : drawsOk ops ords = true)
 (hr : ∀ l ∈ ords, Run true C ops (fun s => ∃ p, Wq s (T p)) l s) (hk : ∀ p, WP C y Q1 (T p)) : WP C (.region id ops true) Q s := by
 refine wp_anys ords hm hc fun l hl => ?_
 refine Run.imp (fun s' ⟨p, hp⟩ => ?_) l (hr l hl)
 rw [hQ]
 exact fun ro m M hG a w hs => hk p ro m M hG a w (hs.wq hp)
end Go.Tal

namespace Go.Tal
open Go.RowKit Go.Proofs Go.Proofs.Tryz _root_.Tal
def wrap8 (c : Int) : Int := IntKind.u8.wrap c
def keyL (a : List Int) (cm : Bool) : List Int := a.map wrap8 ++ (if cm then [1] else [])
theorem map_take_succ {f : Int → Int} {a : List Int} {i : Nat} (hi : i < a.length) : (a.take (i + 1)).map f = (a.take i).map f ++ [f (a.getD i 0)] := by
 rw [List.take_succ_eq_append_getElem hi, List.map_append]
 simp [List.getD_eq_getElem?_getD, List.getElem?_eq_getElem hi]
def invTo (a : List Int) (k : Nat) : List Int := (List.range k).foldl (fun out (i : Nat) => out.set (a.getD i 0).toNat (i : Int)) (List.replicate a.length 0)
theorem invTo_succ (a : List Int) (k : Nat) : invTo a (k + 1) = (invTo a k).set (a.getD k 0).toNat k := by simp [invTo, List.range_succ]
theorem invTo_zero (a : List Int) : (invTo a 0).map (Value.int .i64) = List.replicate a.length (.int .i64 0) := by simp [invTo]
theorem invTo_len (a : List Int) (k : Nat) : (invTo a k).length = a.length := by
 induction k with
 | zero => simp [invTo]
 | succ k ih => rw [invTo_succ, List.length_set, ih]
def mapTo (f : Nat → Int) (n k : Nat) : List Int := (List.range n).map fun j => if j < k then f j else 0
theorem mapTo_zero (f : Nat → Int) (n : Nat) : (mapTo f n 0).map (Value.int .i64) = List.replicate n (.int .i64 0) := by
 apply List.ext_getElem <;> simp [mapTo]
theorem mapTo_len (f : Nat → Int) (n k : Nat) : (mapTo f n k).length = n := by simp [mapTo]
theorem mapTo_set (f : Nat → Int) (n i : Nat) : (mapTo f n i).set i (f i) = mapTo f n (i + 1) := by
 apply List.ext_getElem
 ·simp [mapTo]
 ·intro j h1 h2
  rw [List.getElem_set]
  simp only [mapTo, List.getElem_map, List.getElem_range]
  split
  ·subst_vars; simp
  ·by_cases h : j < i
   ·rw [if_pos h, if_pos (by omega)]
   ·rw [if_neg h, if_neg (by omega)]
theorem mapTo_comp (a b : Sym) : mapTo (fun j => a.1.getD (b.1.getD j 0).toNat 0) b.1.length b.1.length = (comp a b).1 := by
 apply List.ext_getElem
 ·simp [mapTo, comp]
 ·intro j h1 h2
  simp only [mapTo_len] at h1
  simp [mapTo, comp, h1, List.getD_eq_getElem?_getD]
set_option maxRecDepth 8000 in
theorem key_fn (a : List Int) (cm : Bool) (va : Value) (h : H) (ha : RdI h va a) : FnV Tryz.prog 123 #[.agg #[va, .bool cm]] h (.string (strOfNums (keyL a cm))) := by
 have ham := ha.len
 refine fn_of (vs := [.agg #[va, .bool cm]]) func123 rfl ntmps123 (Nat.le_of_ble_eq_true rfl) fun w hw => ?_
 apply wp_seq'
 refine wp_text rfl ?_
 refine run_box rfl rfl rfl rfl rfl rfl rfl fun b1 => ?_
 refine rm rfl ?_
 apply run_end
 apply wp_seq'
 refine wp_text rfl ?_
 refine rs rfl (s_fa (off := 0) rfl rfl underlying112 rfl sizeOf35 rfl) ?_
 refine rs rfl (s_ld rfl rfl isAgg35 (.o_ rfl)) ?_
 refine rs rfl (s_lenI ha rfl rfl underlying35) ?_
 refine rs rfl (s_add rfl rfl rfl (IntWalk.i64_in _ (by omega))) ?_
 refine run_mksl2 (c := a.length + 1) rfl rfl rfl rfl rfl rfl rfl underlying204 info5 rfl (by omega) (by omega) fun b2 => ?_
 refine rm rfl ?_
 apply run_end
 apply wp_seq'
 apply wp_seq'
 refine wp_text rfl ?_
 refine rs rfl (s_fa (off := 0) rfl rfl underlying112 rfl sizeOf35 rfl) ?_
 refine rs rfl (s_ld rfl rfl isAgg35 (.o_ rfl)) ?_
 refine rs rfl (s_lenI ha rfl rfl underlying35) ?_
 refine rm rfl ?_
 apply run_end
 apply wp_block'
 refine wp_loop' (fun i : Nat × Value => i.1 ≤ a.length) (fun i => ⟨[(14, .int .i64 i.1), (13, .int .i64 a.length), (12, va), (3, i.2), (1, .pointer (some ⟨b1, 0, none⟩))], h, [.row i.2 5 1 i.1 (((a.take i.1).map wrap8).map (Value.int .u8)), .obj b1 (.cells #[va, .bool cm] 112 (0, 0))]⟩) (fun i => a.length - i.1) (0, .slice (some ⟨b2, 0, none⟩) 0 (a.length + 1)) (Nat.zero_le _) ⟨by repeat (first|exact True.intro|refine And.intro rfl ?_), rfl, by repeat (first|exact NS _|exact SR _|apply SCC|apply SC)⟩ fun i hi => ?_
 obtain ⟨i, u⟩ := i
 dsimp only at hi ⊢
 apply wp_seq'
 refine wp_text rfl ?_
 refine rs rfl (s_lt rfl rfl rfl) ?_
 apply run_end
 apply wp_seq'
 refine wp_if' rfl (fun hc15 => ?_) (fun hc15 => ?_)
 ·skip
  apply wp_skip'
  apply wp_seq'
  apply wp_block'
  apply wp_seq'
  refine wp_text rfl ?_
  refine rs rfl (s_iaI ha (by omega) (by omega) rfl rfl rfl underlying35 sizeOf3) ?_
  refine rs rfl (s_ldI ha (by omega) (by omega) rfl rfl isAgg3) ?_
  try simp only [Int.toNat_natCast]
  refine rm rfl ?_
  apply run_end
  refine wp_text rfl ?_
  refine rm rfl ?_
  refine rm rfl ?_
  refine rs rfl (s_cvi rfl rfl (by show (Tryz.prog.underlying 3).isSome = true; rw [underlying3]; rfl) underlying5 (by rfl)) ?_
  refine run_bso (parts := [_]) (vs := [_]) rfl rfl rfl rfl rfl rfl (bs204_1 _) fun b3 => ?_
  refine run_app1 (Value.int .u8) _ rfl rfl rfl rfl rfl rfl rfl underlying204 info5 rfl (fun v' => (by repeat first|exact Swap.here|apply Swap.there)) (by repeat first|exact MH _|apply MT) rfl (by omega) (by decide) fun v3 hv3 => ?_
  refine rm rfl ?_
  apply run_end
  refine wp_text rfl ?_
  refine rs rfl (s_add rfl rfl rfl (IntWalk.i64_in _ (by omega))) ?_
  refine rm rfl ?_
  apply run_end
  refine ⟨(i + 1, v3), by dsimp only; omega, by dsimp only; omega, ⟨by repeat (first|exact True.intro|refine And.intro rfl ?_), rfl, ?_⟩⟩
  dsimp only
  rw [map_take_succ (by omega)]
  repeat (first | exact List.nil_sublist _ | exact List.Sublist.refl _ | apply List.Sublist.cons_cons | apply List.Sublist.cons)
 ·skip
  obtain rfl : i = a.length := by omega
  rw [List.take_length]
  apply wp_exit'
  apply wp_seq'
  apply wp_seq'
  refine wp_text rfl ?_
  refine rs rfl (s_fa (off := 1) rfl rfl underlying112 rfl sizeOf4 rfl) ?_
  refine rs rfl (s_ld rfl rfl isAgg4 (.o_ rfl)) ?_
  apply run_end
  refine wp_cond' rfl (fun hc25 => ?_) (fun hc25 => ?_)
  ·skip
   refine wp_text rfl ?_
   refine rm rfl ?_
   refine run_bso (parts := [_]) (vs := [_]) rfl rfl rfl rfl rfl rfl (bs204_1 _) fun b4 => ?_
   refine run_app1 (Value.int .u8) _ rfl rfl rfl rfl rfl rfl rfl underlying204 info5 rfl (fun v' => (by repeat first|exact Swap.here|apply Swap.there)) (by repeat first|exact MH _|apply MT) rfl (by omega) (by decide) fun v4 hv4 => ?_
   refine rm rfl ?_
   apply run_end
   apply wp_seq'
   refine wp_text rfl ?_
   refine rm rfl ?_
   refine rs rfl (s_cvso rfl rfl underlying204 underlying5 underlying9 (by repeat first|exact MH _|apply MT) (by simp)) ?_
   refine rm rfl ?_
   apply run_end
   apply wp_ret'
   exact fin_ret (res_tmp rfl rfl) (by simp [keyL, hc25])
  ·skip
   apply wp_skip'
   apply wp_seq'
   refine wp_text rfl ?_
   refine rm rfl ?_
   refine rs rfl (s_cvso rfl rfl underlying204 underlying5 underlying9 (by repeat first|exact MH _|apply MT) (by simp)) ?_
   refine rm rfl ?_
   apply run_end
   apply wp_ret'
   exact fin_ret (res_tmp rfl rfl) (by simp [keyL, hc25])
set_option maxRecDepth 8000 in
theorem inverse_fn (a : List Int) (cm : Bool) (va : Value) (h : H) (ha : RdI h va a) (hp : PermL a.length a) : Fn Tryz.prog 124 #[.agg #[va, .bool cm]] h fun v h' => ∃ sv, v = .agg #[sv, .bool cm] ∧ RdI h' sv (invTo a a.length) := by
 have ham := ha.len
 refine fn_of (vs := [.agg #[va, .bool cm]]) func124 rfl ntmps124 (Nat.le_of_ble_eq_true rfl) fun w hw => ?_
 apply wp_seq'
 refine wp_text rfl ?_
 refine run_box rfl rfl rfl rfl rfl rfl rfl fun b1 => ?_
 refine run_alloc rfl rfl rfl rfl rfl zeroValue112 rfl fun b2 => ?_
 apply run_end
 apply wp_seq'
 refine wp_cut (fun p : Nat × Nat => ⟨[(3, .pointer (some ⟨p.2, 0, none⟩)), (2, .pointer (some ⟨b2, 0, none⟩)), (1, .pointer (some ⟨b1, 0, none⟩))], h, [.obj p.2 (.cells #[.slice (some ⟨p.1, 0, none⟩) a.length a.length, .bool cm] 112 (0, 0)), .row (.slice (some ⟨p.1, 0, none⟩) a.length a.length) 3 1 a.length (List.replicate a.length (.int .i64 0)), .obj b2 (.cells #[.slice none 0 0, .bool false] 112 (0, 0)), .obj b1 (.cells #[va, .bool cm] 112 (0, 0))]⟩) [[0, 1, 2, 4, 5, 3, 6, 7, 8], [0, 1, 2, 4, 5, 7, 3, 6, 8]] (fun _ => rfl) rfl (by kernel_rfl) ?_ ?_
 ·intro l hl
  simp only [List.mem_cons, List.not_mem_nil, or_false] at hl
  rcases hl with rfl | rfl
  ·skip
   refine rs rfl (s_fa (off := 0) rfl rfl underlying112 rfl sizeOf35 rfl) ?_
   refine rs rfl (s_ld rfl rfl isAgg35 (.o_ rfl)) ?_
   refine rs rfl (s_lenI ha rfl rfl underlying35) ?_
   refine rs rfl (s_fa (off := 1) rfl rfl underlying112 rfl sizeOf4 rfl) ?_
   refine rs rfl (s_ld rfl rfl isAgg4 (.o_ rfl)) ?_
   refine run_mksl rfl rfl rfl rfl rfl rfl rfl underlying35 info3 rfl (by omega) (by omega) fun b3 => ?_
   refine rs rfl (s_build2 rfl rfl rfl (b112_01 _ _ _ _)) ?_
   refine run_alloc rfl rfl rfl rfl rfl zeroValue112 rfl fun b4 => ?_
   refine run_st2 rfl rfl rfl rfl rfl rfl (by first | rfl | assumption | exact RdI.one (by assumption)) rfl sizeOf112 (by repeat first|exact Swap.here|apply Swap.there) rfl ?_
   apply run_end
   first | exact ⟨(b3, b4), ⟨by repeat (first|exact True.intro|refine And.intro rfl ?_), rfl, _, .refl _, .refl _⟩⟩ | exact ⟨(b4, b3), ⟨by repeat (first|exact True.intro|refine And.intro rfl ?_), rfl, _, .swap _ _ _, .refl _⟩⟩
  ·skip
   refine rs rfl (s_fa (off := 0) rfl rfl underlying112 rfl sizeOf35 rfl) ?_
   refine rs rfl (s_ld rfl rfl isAgg35 (.o_ rfl)) ?_
   refine rs rfl (s_lenI ha rfl rfl underlying35) ?_
   refine rs rfl (s_fa (off := 1) rfl rfl underlying112 rfl sizeOf4 rfl) ?_
   refine rs rfl (s_ld rfl rfl isAgg4 (.o_ rfl)) ?_
   refine run_alloc rfl rfl rfl rfl rfl zeroValue112 rfl fun b3 => ?_
   refine run_mksl rfl rfl rfl rfl rfl rfl rfl underlying35 info3 rfl (by omega) (by omega) fun b4 => ?_
   refine rs rfl (s_build2 rfl rfl rfl (b112_01 _ _ _ _)) ?_
   refine run_st2 rfl rfl rfl rfl rfl rfl (by first | rfl | assumption | exact RdI.one (by assumption)) rfl sizeOf112 (by repeat first|exact Swap.here|apply Swap.there) rfl ?_
   apply run_end
   first | exact ⟨(b3, b4), ⟨by repeat (first|exact True.intro|refine And.intro rfl ?_), rfl, _, .refl _, .refl _⟩⟩ | exact ⟨(b4, b3), ⟨by repeat (first|exact True.intro|refine And.intro rfl ?_), rfl, _, .swap _ _ _, .refl _⟩⟩
 ·rintro ⟨b3, b4⟩
  dsimp only
  apply wp_seq'
  apply wp_seq'
  refine wp_text rfl ?_
  refine rs rfl (s_fa (off := 0) rfl rfl underlying112 rfl sizeOf35 rfl) ?_
  refine rs rfl (s_ld rfl rfl isAgg35 (.o_ rfl)) ?_
  refine rs rfl (s_lenI ha rfl rfl underlying35) ?_
  refine rm rfl ?_
  apply run_end
  apply wp_block'
  rw [← invTo_zero a]
  refine wp_loop' (fun i : Nat => i ≤ a.length) (fun i => ⟨[(16, .int .i64 i), (15, .int .i64 a.length), (14, va), (3, .pointer (some ⟨b4, 0, none⟩)), (2, .pointer (some ⟨b2, 0, none⟩))], h, [.obj b4 (.cells #[.slice (some ⟨b3, 0, none⟩) a.length a.length, .bool cm] 112 (0, 0)), .row (.slice (some ⟨b3, 0, none⟩) a.length a.length) 3 1 a.length ((invTo a i).map (Value.int .i64)), .obj b2 (.cells #[.slice none 0 0, .bool false] 112 (0, 0))]⟩) (fun i => a.length - i) 0 (Nat.zero_le _) ⟨by repeat (first|exact True.intro|refine And.intro rfl ?_), rfl, by repeat (first|exact NS _|exact SR _|apply SCC|apply SC)⟩ fun i hi => ?_
  apply wp_seq'
  refine wp_text rfl ?_
  refine rs rfl (s_lt rfl rfl rfl) ?_
  apply run_end
  apply wp_seq'
  refine wp_if' rfl (fun hc17 => ?_) (fun hc17 => ?_)
  ·skip
   apply wp_skip'
   apply wp_seq'
   apply wp_block'
   apply wp_seq'
   refine wp_text rfl ?_
   refine rm rfl ?_
   refine rs rfl (s_iaI ha (by omega) (by omega) rfl rfl rfl underlying35 sizeOf3) ?_
   refine rs rfl (s_ldI ha (by omega) (by omega) rfl rfl isAgg3) ?_
   try simp only [Int.toNat_natCast]
   refine rm rfl ?_
   have hai := hp.getD_range (i := i) (by omega)
   refine rm rfl ?_
   apply run_end
   refine wp_text rfl ?_
   refine rs rfl (s_fa (off := 0) rfl rfl underlying112 rfl sizeOf35 rfl) ?_
   refine rs rfl (s_ld rfl rfl isAgg35 (.o_ rfl)) ?_
   refine rm rfl ?_
   refine rm rfl ?_
   refine rs rfl (s_ia1 rfl rfl rfl underlying35 sizeOf3 (by omega) (by omega)) ?_
   refine run_strowM (Value.int .i64) rfl rfl rfl rfl rfl rfl rfl rfl sizeOf3 (by repeat first|exact Swap.here|apply Swap.there) (by omega) ?_
   apply run_end
   refine wp_text rfl ?_
   refine rs rfl (s_add rfl rfl rfl (IntWalk.i64_in _ (by omega))) ?_
   refine rm rfl ?_
   apply run_end
   refine ⟨i + 1, by omega, by omega, ⟨by repeat (first|exact True.intro|refine And.intro rfl ?_), rfl, ?_⟩⟩
   rw [invTo_succ]
   repeat (first | exact List.nil_sublist _ | exact List.Sublist.refl _ | apply List.Sublist.cons_cons | apply List.Sublist.cons)
  ·skip
   apply wp_exit'
   apply wp_seq'
   refine wp_text rfl ?_
   refine rs rfl (s_ld2 rfl rfl isAgg112 sizeOf112 (.o_ rfl) (.o_ rfl)) ?_
   refine run_st2 rfl rfl rfl rfl rfl rfl (by first | rfl | assumption | exact RdI.one (by assumption)) rfl sizeOf112 (by repeat first|exact Swap.here|apply Swap.there) rfl ?_
   apply run_end
   obtain rfl : i = a.length := by omega
   refine WP.letI rfl (by repeat first|exact Pick.here|apply Pick.there) (invTo_len _ _) (by omega) fun h' hh hr => ?_
   apply wp_ret'
   exact fin_ret (res_cell2 rfl rfl isAgg112 sizeOf112 (.own _ _ _ (by repeat first|exact MH _|apply MT) rfl) (.own _ _ _ (by repeat first|exact MH _|apply MT) rfl)) (⟨_, rfl, hr⟩)
set_option maxRecDepth 8000 in
theorem after_fn (a b : Sym) (va vb : Value) (h : H) (ha : RdI h va a.1) (hb : RdI h vb b.1) (hr : ∀ i, i < b.1.length → 0 ≤ b.1.getD i 0 ∧ b.1.getD i 0 < a.1.length) : Fn Tryz.prog 122 #[.agg #[va, .bool a.2], .agg #[vb, .bool b.2]] h fun v h' => ∃ sv, v = .agg #[sv, .bool (comp a b).2] ∧ RdI h' sv (comp a b).1 := by
 have ham := ha.len
 have hbm := hb.len
 refine fn_of (vs := [.agg #[va, .bool a.2], .agg #[vb, .bool b.2]]) func122 rfl ntmps122 (Nat.le_of_ble_eq_true rfl) fun w hw => ?_
 apply wp_seq'
 refine wp_text rfl ?_
 refine run_box rfl rfl rfl rfl rfl rfl rfl fun b1 => ?_
 refine run_box rfl rfl rfl rfl rfl rfl rfl fun b2 => ?_
 refine run_alloc rfl rfl rfl rfl rfl zeroValue112 rfl fun b3 => ?_
 apply run_end
 apply wp_seq'
 refine wp_cut (fun p : Nat × Nat => ⟨[(5, .pointer (some ⟨p.2, 0, none⟩)), (4, .pointer (some ⟨b3, 0, none⟩)), (3, .pointer (some ⟨b2, 0, none⟩)), (2, .pointer (some ⟨b1, 0, none⟩))], h, [.obj p.2 (.cells #[.slice (some ⟨p.1, 0, none⟩) b.1.length b.1.length, .bool (a.2 != b.2)] 112 (0, 0)), .row (.slice (some ⟨p.1, 0, none⟩) b.1.length b.1.length) 3 1 b.1.length (List.replicate b.1.length (.int .i64 0)), .obj b3 (.cells #[.slice none 0 0, .bool false] 112 (0, 0)), .obj b2 (.cells #[vb, .bool b.2] 112 (0, 0)), .obj b1 (.cells #[va, .bool a.2] 112 (0, 0))]⟩) [[0, 1, 2, 4, 5, 6, 7, 8, 3, 9, 10, 11], [0, 1, 2, 4, 5, 6, 7, 8, 10, 3, 9, 11]] (fun _ => rfl) rfl (by kernel_rfl) ?_ ?_
 ·intro l hl
  simp only [List.mem_cons, List.not_mem_nil, or_false] at hl
  rcases hl with rfl | rfl
  ·skip
   refine rs rfl (s_fa (off := 0) rfl rfl underlying112 rfl sizeOf35 rfl) ?_
   refine rs rfl (s_ld rfl rfl isAgg35 (.o_ rfl)) ?_
   refine rs rfl (s_lenI hb rfl rfl underlying35) ?_
   refine rs rfl (s_fa (off := 1) rfl rfl underlying112 rfl sizeOf4 rfl) ?_
   refine rs rfl (s_ld rfl rfl isAgg4 (.o_ rfl)) ?_
   refine rs rfl (s_fa (off := 1) rfl rfl underlying112 rfl sizeOf4 rfl) ?_
   refine rs rfl (s_ld rfl rfl isAgg4 (.o_ rfl)) ?_
   refine rs rfl (s_bne rfl rfl rfl underlying4) ?_
   refine run_mksl rfl rfl rfl rfl rfl rfl rfl underlying35 info3 rfl (by omega) (by omega) fun b4 => ?_
   refine rs rfl (s_build2 rfl rfl rfl (b112_01 _ _ _ _)) ?_
   refine run_alloc rfl rfl rfl rfl rfl zeroValue112 rfl fun b5 => ?_
   refine run_st2 rfl rfl rfl rfl rfl rfl (by first | rfl | assumption | exact RdI.one (by assumption)) rfl sizeOf112 (by repeat first|exact Swap.here|apply Swap.there) rfl ?_
   apply run_end
   first | exact ⟨(b4, b5), ⟨by repeat (first|exact True.intro|refine And.intro rfl ?_), rfl, _, .refl _, .refl _⟩⟩ | exact ⟨(b5, b4), ⟨by repeat (first|exact True.intro|refine And.intro rfl ?_), rfl, _, .swap _ _ _, .refl _⟩⟩
  ·skip
   refine rs rfl (s_fa (off := 0) rfl rfl underlying112 rfl sizeOf35 rfl) ?_
   refine rs rfl (s_ld rfl rfl isAgg35 (.o_ rfl)) ?_
   refine rs rfl (s_lenI hb rfl rfl underlying35) ?_
   refine rs rfl (s_fa (off := 1) rfl rfl underlying112 rfl sizeOf4 rfl) ?_
   refine rs rfl (s_ld rfl rfl isAgg4 (.o_ rfl)) ?_
   refine rs rfl (s_fa (off := 1) rfl rfl underlying112 rfl sizeOf4 rfl) ?_
   refine rs rfl (s_ld rfl rfl isAgg4 (.o_ rfl)) ?_
   refine rs rfl (s_bne rfl rfl rfl underlying4) ?_
   refine run_alloc rfl rfl rfl rfl rfl zeroValue112 rfl fun b4 => ?_
   refine run_mksl rfl rfl rfl rfl rfl rfl rfl underlying35 info3 rfl (by omega) (by omega) fun b5 => ?_
   refine rs rfl (s_build2 rfl rfl rfl (b112_01 _ _ _ _)) ?_
   refine run_st2 rfl rfl rfl rfl rfl rfl (by first | rfl | assumption | exact RdI.one (by assumption)) rfl sizeOf112 (by repeat first|exact Swap.here|apply Swap.there) rfl ?_
   apply run_end
   first | exact ⟨(b4, b5), ⟨by repeat (first|exact True.intro|refine And.intro rfl ?_), rfl, _, .refl _, .refl _⟩⟩ | exact ⟨(b5, b4), ⟨by repeat (first|exact True.intro|refine And.intro rfl ?_), rfl, _, .swap _ _ _, .refl _⟩⟩
 ·rintro ⟨b4, b5⟩
  dsimp only
  apply wp_seq'
  apply wp_seq'
  refine wp_text rfl ?_
  refine rs rfl (s_fa (off := 0) rfl rfl underlying112 rfl sizeOf35 rfl) ?_
  refine rs rfl (s_ld rfl rfl isAgg35 (.o_ rfl)) ?_
  refine rs rfl (s_lenI hb rfl rfl underlying35) ?_
  refine rm rfl ?_
  apply run_end
  apply wp_block'
  rw [← mapTo_zero fun j => a.1.getD (b.1.getD j 0).toNat 0]
  refine wp_loop' (fun i : Nat => i ≤ b.1.length) (fun i => ⟨[(21, .int .i64 i), (20, .int .i64 b.1.length), (19, vb), (5, .pointer (some ⟨b5, 0, none⟩)), (4, .pointer (some ⟨b3, 0, none⟩)), (2, .pointer (some ⟨b1, 0, none⟩))], h, [.obj b5 (.cells #[.slice (some ⟨b4, 0, none⟩) b.1.length b.1.length, .bool (a.2 != b.2)] 112 (0, 0)), .row (.slice (some ⟨b4, 0, none⟩) b.1.length b.1.length) 3 1 b.1.length ((mapTo (fun j => a.1.getD (b.1.getD j 0).toNat 0) b.1.length i).map (Value.int .i64)), .obj b3 (.cells #[.slice none 0 0, .bool false] 112 (0, 0)), .obj b1 (.cells #[va, .bool a.2] 112 (0, 0))]⟩) (fun i => b.1.length - i) 0 (Nat.zero_le _) ⟨by repeat (first|exact True.intro|refine And.intro rfl ?_), rfl, by repeat (first|exact NS _|exact SR _|apply SCC|apply SC)⟩ fun i hi => ?_
  apply wp_seq'
  refine wp_text rfl ?_
  refine rs rfl (s_lt rfl rfl rfl) ?_
  apply run_end
  apply wp_seq'
  refine wp_if' rfl (fun hc22 => ?_) (fun hc22 => ?_)
  ·skip
   apply wp_skip'
   apply wp_seq'
   apply wp_block'
   apply wp_seq'
   refine wp_text rfl ?_
   refine rm rfl ?_
   refine rs rfl (s_iaI hb (by omega) (by omega) rfl rfl rfl underlying35 sizeOf3) ?_
   refine rs rfl (s_ldI hb (by omega) (by omega) rfl rfl isAgg3) ?_
   try simp only [Int.toNat_natCast]
   refine rm rfl ?_
   have hbi := hr i (by omega)
   refine rm rfl ?_
   apply run_end
   refine wp_any [0, 1, 2, 3, 4, 5, 6, 7, 8, 9] rfl (by kernel_rfl) ?_
   refine rs rfl (s_fa (off := 0) rfl rfl underlying112 rfl sizeOf35 rfl) ?_
   refine rs rfl (s_ld rfl rfl isAgg35 (.o_ rfl)) ?_
   refine rm rfl ?_
   refine rs rfl (s_fa (off := 0) rfl rfl underlying112 rfl sizeOf35 rfl) ?_
   refine rs rfl (s_ld rfl rfl isAgg35 (.o_ rfl)) ?_
   refine rm rfl ?_
   refine rs rfl (s_iaI ha (by omega) (by omega) rfl rfl rfl underlying35 sizeOf3) ?_
   refine rs rfl (s_ldI ha (by omega) (by omega) rfl rfl isAgg3) ?_
   try simp only [Int.toNat_natCast]
   refine rs rfl (s_ia1 rfl rfl rfl underlying35 sizeOf3 (by omega) (by omega)) ?_
   refine run_strowM (Value.int .i64) rfl rfl rfl rfl rfl rfl rfl rfl sizeOf3 (by repeat first|exact Swap.here|apply Swap.there) (by omega) ?_
   apply run_end
   refine wp_text rfl ?_
   refine rs rfl (s_add rfl rfl rfl (IntWalk.i64_in _ (by omega))) ?_
   refine rm rfl ?_
   apply run_end
   refine ⟨i + 1, by omega, by omega, ⟨by repeat (first|exact True.intro|refine And.intro rfl ?_), rfl, ?_⟩⟩
   rw [← mapTo_set]
   repeat (first | exact List.nil_sublist _ | exact List.Sublist.refl _ | apply List.Sublist.cons_cons | apply List.Sublist.cons)
  ·skip
   apply wp_exit'
   apply wp_seq'
   refine wp_text rfl ?_
   refine rs rfl (s_ld2 rfl rfl isAgg112 sizeOf112 (.o_ rfl) (.o_ rfl)) ?_
   refine run_st2 rfl rfl rfl rfl rfl rfl (by first | rfl | assumption | exact RdI.one (by assumption)) rfl sizeOf112 (by repeat first|exact Swap.here|apply Swap.there) rfl ?_
   apply run_end
   obtain rfl : i = b.1.length := by omega
   refine WP.letI rfl (by repeat first|exact Pick.here|apply Pick.there) (mapTo_len _ _ _) (by omega) fun h' hh hr => ?_
   rw [mapTo_comp] at hr
   apply wp_ret'
   exact fin_ret (res_cell2 rfl rfl isAgg112 sizeOf112 (.own _ _ _ (by repeat first|exact MH _|apply MT) rfl) (.own _ _ _ (by repeat first|exact MH _|apply MT) rfl)) (⟨_, rfl, hr⟩)
end Go.Tal

/-
 Symbolic states: several results.
-/
namespace Go.Tal
open Go.RowKit
theorem res_tt {P : Program} {fn : Func} {s : S} {t u : Nat} {v v' : Value} (h : fn.results = #[.tmp t, .tmp u]) (hv : s.F.lookup t = some v) (hu : s.F.lookup u = some v') : ResOk P fn s (.tuple #[v, v']) := fun a w hs _ => by
 have h1 := hs t v hv
 have h2 := hs u v' hu
 simp [results, h, h1, h2]
theorem res_ttt {P : Program} {fn : Func} {s : S} {t u q : Nat} {v v' v'' : Value} (h : fn.results = #[.tmp t, .tmp u, .tmp q]) (hv : s.F.lookup t = some v) (hu : s.F.lookup u = some v') (hq : s.F.lookup q = some v'') : ResOk P fn s (.tuple #[v, v', v'']) := fun a w hs _ => by
 have h1 := hs t v hv
 have h2 := hs u v' hu
 have h3 := hs q v'' hq
 simp [results, h, h1, h2, h3]
theorem res_ct {P : Program} {fn : Func} {s : S} {t u b : Nat} {e : TypeId} {v0 v1 v' : Value} (h : fn.results = #[.cell t e, .tmp u]) (hv : s.F.lookup t = some (.pointer (some ⟨b, 0, none⟩))) (hu : s.F.lookup u = some v') (hg : ∀ w, (isAgg e).run P w = .ok true w) (hs : ∀ w, (sizeOf e).run P w = .ok 2 w) (h0 : Cell s.h s.L b 0 v0) (h1 : Cell s.h s.L b 1 v1) : ResOk P fn s (.tuple #[.agg #[v0, v1], v']) := fun a w hsl hsat => by
 have e1 := hsl t _ hv
 have e2 := hsl u _ hu
 have := run_cells (P := P) (w := w) (b := b) (o' := 0) (vs := [v0, v1]) (fun j v hj => by
  match j, hj with
  | 0, hj => cases hj; exact h0.at_ hsat
  | 1, hj => cases hj; exact h1.at_ hsat) 2 0 #[] (by simp) (by simp)
 have ha : (asAddr (.pointer (some ⟨b, 0, none⟩))).run P w = .ok ⟨b, 0, none⟩ w := rfl
 simp [results, h, e1, e2, ha, loadVar, hg w, hs w, loadCells, this]
theorem RdI.nil (h : H) (c : Nat) : RdI h (.slice none 0 c) [] := ⟨none, c, rfl, by simp, fun hp => absurd hp (by simp)⟩
theorem RdS.nil (h : H) (c : Nat) : RdS h (.slice none 0 c) [] := ⟨none, c, rfl, by simp, fun hp => absurd hp (by simp)⟩
theorem RdT.nil (h : H) (c : Nat) : RdT h (.slice none 0 c) [] := ⟨none, c, rfl, by simp, fun hp => absurd hp (by simp)⟩
theorem s_build0 {P : Program} {o : Oper} {F : List (Nat × Value)} {h : H} {L : List Own} {t : TypeId} {q : Value} (ho : o.op = .build t #[]) (hq : ∀ w, (Instr.build t #[]).run P w = .ok q w) : SoftOk P o F h L q := fun a w _ _ => by
 simp only [execOp, ho]
 exact run_v (by simpa using hq w)
end Go.Tal

/-
 Symbolic states: contracts of calls that may write what is handed to them, and hand back what may be written.
-/
namespace Go.Tal
open Go.RowKit
def blks (L : List Own) : List Nat := L.filterMap Own.blk
def ctxM (P : Program) (w : World) (h : H) (L : List Own) (n : Nat) : Ctx := { P := P, w0 := w, h0 := h, I := blks L, n := n, G := RoOk }
/-- Out of memory that is read and blocks that are handed over: a value, more memory that is read, blocks handed back. -/
def FnM (P : Program) (f : FuncId) (args : Array Value) (h : H) (L : List Own) (R : Value → H → List Own → Prop) : Prop :=
 ∀ w, Sat h L w → Calls P f args w fun e w' => ∃ v h' L', e = .returned v ∧ R v h' L' ∧ Mem (ctxM P w h L 0) h' L' w'
def FinM (P : Program) (fn : Func) (R : Value → H → List Own → Prop) (e : Exit) (s : S) : Prop := (e = .normal ∨ e = .ret) ∧ ∃ v L', ResOk P fn s v ∧ R v s.h L' ∧ ∃ M : List Own, M.Perm L' ∧ M.Sublist s.L
theorem finM_ret {P : Program} {fn : Func} {R : Value → H → List Own → Prop} {s : S} {v : Value} (L' : List Own) (hv : ResOk P fn s v) (hM : ∃ M : List Own, M.Perm L' ∧ M.Sublist s.L) (hR : R v s.h L') : FinM P fn R .ret s := ⟨.inr rfl, v, L', hv, hR, hM⟩
theorem finM_end {P : Program} {fn : Func} {R : Value → H → List Own → Prop} {s : S} {v : Value} (L' : List Own) (hv : ResOk P fn s v) (hM : ∃ M : List Own, M.Perm L' ∧ M.Sublist s.L) (hR : R v s.h L') : FinM P fn R .normal s := ⟨.inl rfl, v, L', hv, hR, hM⟩
theorem blk_mem {L : List Own} {x : Own} (hx : x ∈ L) {b : Nat} (hb : x.blk = some b) : b ∈ blks L := List.mem_filterMap.2 ⟨x, hx, hb⟩
theorem fnM_of {P : Program} {f : FuncId} {fn : Func} {c : Code} {vs : List Value} {h : H} {L : List Own} {R : Value → H → List Own → Prop} {n : Nat} (hf : P.funcs[f]? = some fn) (hb : fn.body = some c) (hn : fn.ntmps = n) (hl : vs.length ≤ n)
 (hwp : ∀ w, Sat h L w → WP (ctxM P w h L n) c (FinM P fn R) ⟨argsF 0 vs, h, L⟩) : FnM P f vs.toArray h L R := by
 intro w hw
 refine callsIn_wide.1 (callsIn_of_wp_marks (F := Fence.wide) (n := 0) hf hb trivial ?_)
 have hst : St (ctxM P w h L n) [] ⟨argsF 0 vs, h, L⟩ { tmps := vs.toArray ++ Array.replicate (fn.ntmps - vs.toArray.size) undef, defers := [] } w := by
  refine ⟨[], ⟨⟨by simp [ctxM, hn]; omega, fun t v ht => ?_⟩, rfl⟩, ?_⟩
  ·obtain ⟨j, h1, h2⟩ := argsF_lookup 0 vs t v ht
   have hj : j < vs.length := (List.getElem?_eq_some_iff.1 h2).1
   obtain rfl : t = j := by omega
   rw [Array.getElem?_append_left (by simpa using hj)]
   simpa using h2
  ·rw [List.map_nil, List.append_nil, List.append_nil]
   exact ⟨hw, fun x hx b hb => .inr (blk_mem hx hb), fun _ _ => rfl, ⟨rfl, rfl, rfl, Nat.le_refl _, Nat.le_refl _, fun _ _ _ => rfl⟩⟩
 refine Go.wpIn_mono (hwp w hw none 0 [] (fun _ hc => by cases hc) _ _ hst) fun e a' w' ⟨s', ⟨Ds, ⟨hf', hdf⟩, hm⟩, he, v, L', hv, hR, M, hM1, hM2⟩ => ?_
 rw [List.append_nil] at hm
 have fin : LeavesInM Fence.wide 0 P fn a'.tmps (fun e w' => ∃ v h' L', e = Ending.returned v ∧ R v h' L' ∧ Mem (ctxM P w h L 0) h' L' w') a'.defers .returning w' := by
  rw [hdf]
  refine leaves_marks (C := ctxM P w h L n) (h := s'.h) (L := s'.L) (fun w'' m0 => ?_) Ds w' hm
  have m : Mem (ctxM P w h L n) s'.h M w'' := ⟨m0.sat.less ⟨fun _ _ hb => hb, hM2⟩, fun x hx => m0.new x (hM2.subset hx), m0.old, m0.kp⟩
  have m2 := m.perm hM1
  exact ⟨v, hv a' w'' hf'.slots m0.sat, v, s'.h, L', rfl, hR, ⟨m2.sat, m2.new, m2.old, m2.kp⟩⟩
 rcases he with rfl | rfl
 ·exact fin
 ·exact fin
attribute [irreducible] FinM
theorem Fn.toM {P : Program} {f : FuncId} {args : Array Value} {h : H} {R : Value → H → Prop} (hf : Fn P f args h R) : FnM P f args h [] fun v h' L' => R v h' ∧ L' = [] := fun w hw =>
 (hf w hw.imm).mono fun _ _ ⟨v, h', he, hR, h1, h2, h3⟩ => ⟨v, h', [], he, ⟨hR, rfl⟩, ⟨⟨h1, by simp, by simp, List.Pairwise.nil⟩, by simp, h2, h3⟩⟩
section
variable {C : Ctx} {h : H}
theorem Own.blk_lt {w : World} {x : Own} (hx : x.In w) {b : Nat} (hb : x.blk = some b) : b < w.heap.size := by
 cases x with
 | obj b' o' => cases hb; exact (Array.getElem?_eq_some_iff.1 hx).1
 | row v e sz n xs =>
  rcases hx.2 with ⟨e1, _⟩ | ⟨g, cap, cur, e1, _, hg, _⟩
  ·rw [e1] at hb; cases hb
  ·rw [e1] at hb; cases hb; exact (Array.getElem?_eq_some_iff.1 hg).1
theorem Mem.callM {P : Program} {L M L' : List Own} {h' : H} {w w' : World} (m : Mem C h (L ++ M) w) (m' : Mem (ctxM P w h L 0) h' L' w') : Mem C h' (L' ++ M) w' := by
 have hlt : ∀ k o', w.heap[k]? = some o' → k < w.heap.size := fun k o' hb => (Array.getElem?_eq_some_iff.1 hb).1
 have hdis : ∀ x ∈ M, ∀ b, x.blk = some b → b ∉ blks L := fun x hx b hb hm => by
  obtain ⟨y, hy, hyb⟩ := List.mem_filterMap.1 hm
  exact (List.pairwise_append.1 m.sat.nd).2.2 y hy x hx b hyb hb
 have hM : ∀ x ∈ M, ∀ b, x.blk = some b → b < w.heap.size := fun x hx b hb => Own.blk_lt (m.sat.own x (List.mem_append_right _ hx)) hb
 have hkeep : ∀ b, b < w.heap.size → b ∉ blks L → w'.heap[b]? = w.heap[b]? := fun b hb hI => m'.kp.block b hb hI
 have hold : ∀ b, b < w.heap.size → h' b = h b := m'.old
 refine ⟨⟨m'.sat.imm, fun x hx => ?_, fun x hx b hb => ?_, ?_⟩, fun x hx b hb => ?_, fun b hb => ?_, ⟨m'.kp.os.trans m.kp.os, m'.kp.tape.trans m.kp.tape, m'.kp.output.trans m.kp.output, Nat.le_trans m.kp.size m'.kp.size, Nat.le_trans m.kp.drawn m'.kp.drawn, fun b hb hI => ?_⟩⟩
 ·rcases List.mem_append.1 hx with hx | hx
  ·exact m'.sat.own x hx
  ·have h4 := m.sat.own x (List.mem_append_right _ hx)
   cases x with
   | obj b o' => show w'.heap[b]? = some o'; rw [hkeep b (hlt _ _ h4) (hdis _ hx b rfl)]; exact h4
   | row v e sz n xs =>
    obtain ⟨h5, h6⟩ := h4
    refine ⟨h5, ?_⟩
    rcases h6 with h6 | ⟨g, cap, cur, e1, hb0, hg, r⟩
    ·exact .inl h6
    ·exact .inr ⟨g, cap, cur, e1, hb0, by rw [hkeep g (hlt _ _ hg) (hdis _ hx g (by rw [e1]; rfl))]; exact hg, r⟩
 ·rcases List.mem_append.1 hx with hx | hx
  ·exact m'.sat.off x hx b hb
  ·rw [hold b (hM x hx b hb)]; exact m.sat.off x (List.mem_append_right _ hx) b hb
 ·refine List.pairwise_append.2 ⟨m'.sat.nd, (List.pairwise_append.1 m.sat.nd).2.1, fun x hx y hy b hb1 hb2 => ?_⟩
  rcases m'.new x hx b hb1 with h1 | h1
  ·have := hM y hy b hb2
   have h1' : w.heap.size ≤ b := h1
   omega
  ·exact hdis y hy b hb2 h1
 ·rcases List.mem_append.1 hx with hx | hx
  ·rcases m'.new x hx b hb with h1 | h1
   ·exact .inl (Nat.le_trans m.kp.size h1)
   ·obtain ⟨y, hy, hyb⟩ := List.mem_filterMap.1 h1
    exact m.new y (List.mem_append_left _ hy) b hyb
  ·exact m.new x (List.mem_append_right _ hx) b hb
 ·rw [hold b (Nat.lt_of_lt_of_le hb m.kp.size)]; exact m.old b hb
 ·rw [hkeep b (Nat.lt_of_lt_of_le hb m.kp.size) (fun hm => ?_)]
  ·exact m.kp.block b hb hI
  ·obtain ⟨y, hy, hyb⟩ := List.mem_filterMap.1 hm
   rcases m.new y (List.mem_append_left _ hy) b hyb with h1 | h1
   ·omega
   ·exact hI h1
theorem h_callM {o : Oper} {F : List (Nat × Value)} {L0 L M : List Own} {cb : Array Value} {g : Operand} {f : FuncId} {args : Array Operand} {ts : Array TypeId} {vs : List Value} {R : Value → H → List Own → Prop} (ho : o.op = .call { callee := .value g, args := args, argTypes := ts }) (hx : args.toList.map (evF F) = vs.map some)
 (hgf : evF F g = some (.func (.func f) #[] cb)) (hen : ∀ args w, (callFunc f args).run C.P w = .ok (.enter f args) w) (hp : L0.Perm (L ++ M)) (hf : FnM C.P f (vs.toArray ++ cb) h L R) : HardW C o F h L0 (fun v h' L' => ∃ L1, R v h' L1 ∧ (∀ b o, h b = some o → h' b = some o) ∧ L' = L1 ++ M) := fun a w ha _ _ hm => by
 have hargs : args.map a.eval = vs.toArray := by
  apply Array.ext'
  rw [Array.toList_map]
  apply List.ext_getElem?
  intro j
  have h3 := congrArg (fun l => l[j]?) hx
  simp only [List.getElem?_map] at h3 ⊢
  cases hp : args.toList[j]? with
  | none => rw [hp] at h3; cases hv : vs[j]? with
   | none => rfl
   | some v => rw [hv] at h3; simp at h3
  | some p => rw [hp] at h3; cases hv : vs[j]? with
   | none => rw [hv] at h3; simp at h3
   | some v =>
    rw [hv] at h3
    simp only [Option.map_some, Option.some.injEq] at h3 ⊢
    exact ha p (by
     rw [ho]
     simp only [Op.operands, Call.operands, Array.toList_append, List.mem_append]
     exact .inr (List.mem_of_getElem? hp)) v h3
 have hgv : a.eval g = .func (.func f) #[] cb := ha g (by
  rw [ho]
  simp only [Op.operands, Call.operands, Array.toList_append, List.mem_append]
  exact .inl (by simp)) _ hgf
 unfold Oper.wp
 have hr : (execOp a.eval o).run C.P w = .ok (.enter f (vs.toArray ++ cb)) w := by
  simp only [execOp, ho, resolve, hargs, hgv]
  simp [Deferred.ofValue, invoke, hen]
 rw [hr]
 have m := hm.perm hp
 refine Calls.mono (hf w (m.sat.less ⟨fun _ _ hb => hb, List.sublist_append_left L M⟩)) fun e w' ⟨v, h', L', he, hR, m'⟩ => ?_
 subst he
 exact ⟨v, h', L' ++ M, ⟨L', hR, fun b o hb => by rw [m'.old b (Array.getElem?_eq_some_iff.1 (hm.sat.imm b o hb)).1]; exact hb, rfl⟩, rfl, m.callM m'⟩
end
section
variable {C : Ctx} {ops : Array Oper} {K : S → Prop} {i d : Nat} {r : List Nat} {F : List (Nat × Value)} {h : H} {L0 L M : List Own} {o : Oper} {v : Value} {cb : Array Value} {g : Operand} {f : FuncId} {args : Array Operand} {ts : Array TypeId} {vs : List Value} {R : Value → H → List Own → Prop}
/-- A call that writes what it is handed; the region is run as its text says. -/
theorem run_callM (ho : ops[i]? = some o) (hop : o.op = .call { callee := .value g, args := args, argTypes := ts }) (hg : o.guard = none) (hd : ∀ t, o.dst = some t → t < C.n)
 (hx : args.toList.map (evF F) = vs.map some) (hgf : evF F g = some (.func (.func f) #[] cb)) (hen : ∀ args w, (callFunc f args).run C.P w = .ok (.enter f args) w) (hp : L0.Perm (L ++ M)) (hf : FnM C.P f (vs.toArray ++ cb) h L R)
 (k : ∀ v h' L1, R v h' L1 → (∀ b o, h b = some o → h' b = some o) → Run false C ops K r ⟨putF o.dst v F, h', L1 ++ M⟩) : Run false C ops K (i :: r) ⟨F, h, L0⟩ :=
 run_hard ho hg hd (by simp [cls, hop]) (fun v h' L' => ∃ L1, R v h' L1 ∧ (∀ b o, h b = some o → h' b = some o) ∧ L' = L1 ++ M) (fun M' => (h_callM (M := M ++ M') hop hx hgf hen (by rw [← List.append_assoc]; exact hp.append_right M') hf).imp fun _ _ _ ⟨L1, e1, e2, e3⟩ => ⟨L1 ++ M, ⟨L1, e1, e2, rfl⟩, by rw [e3, List.append_assoc]⟩) fun v h' _ ⟨L1, e1, e2, e3⟩ => by subst e3; exact ⟨(fun hc => by cases hc), k _ _ L1 e1 e2⟩
/-- A call that is handed nothing to write. -/
theorem run_callO {dr : Bool} (ho : ops[i]? = some o) (hop : o.op = .call { callee := .value g, args := args, argTypes := ts }) (hg : o.guard = none) (hd : ∀ t, o.dst = some t → t < C.n)
 (hx : args.toList.map (evF F) = vs.map some) (hgf : evF F g = some (.func (.func f) #[] cb)) (hen : ∀ args w, (callFunc f args).run C.P w = .ok (.enter f args) w) (hf : FnM C.P f (vs.toArray ++ cb) h [] R)
 (k : ∀ v h' L1, R v h' L1 → (∀ b o, h b = some o → h' b = some o) → Run dr C ops K r ⟨putF o.dst v F, h', L1 ++ L0⟩) : Run dr C ops K (i :: r) ⟨F, h, L0⟩ :=
 run_hard ho hg hd (by simp [cls, hop]) (fun v h' L' => ∃ L1, R v h' L1 ∧ (∀ b o, h b = some o → h' b = some o) ∧ L' = L1 ++ L0) (fun M' => (h_callM (L := []) (M := L0 ++ M') hop hx hgf hen (List.Perm.refl _) hf).imp fun _ _ _ ⟨L1, e1, e2, e3⟩ => ⟨L1 ++ L0, ⟨L1, e1, e2, rfl⟩, by rw [e3, List.append_assoc]⟩) fun v h' _ ⟨L1, e1, e2, e3⟩ => by subst e3; exact ⟨fun _ _ => ⟨e2, List.sublist_append_right _ _⟩, k v h' L1 e1 e2⟩
end
end Go.Tal

namespace Go.Tal
open Go.RowKit Go.Proofs Go.Proofs.Tryz _root_.Tal
theorem b37_ : ∀ w, (Instr.build 37 #[]).run Tryz.prog w = .ok (.agg #[.slice none 0 0, .bool false]) w := fun _ => by kernel_rfl
def cycWalk (a : List Int) : Nat → List Bool → Int → Nat → List Bool × Nat
 | 0, sn, _, m => (sn, m)
 | k + 1, sn, c, m => if sn.getD c.toNat false = true then (sn, m) else cycWalk a k (sn.set c.toNat true) (a.getD c.toNat 0) (m + 1)
def cycStep (a : List Int) (st : List Bool × List Int) (i : Nat) : List Bool × List Int :=
 ((cycWalk a a.length st.1 i 0).1, if 0 < (cycWalk a a.length st.1 i 0).2 then st.2 ++ [((cycWalk a a.length st.1 i 0).2 : Int)] else st.2)
def cycTo (a : List Int) (k : Nat) : List Bool × List Int := (List.range k).foldl (cycStep a) (List.replicate a.length false, [])
def cycI (a : List Int) : List Int := (cycTo a a.length).2
theorem cycTo_succ (a : List Int) (k : Nat) : cycTo a (k + 1) = cycStep a (cycTo a k) k := by simp [cycTo, List.range_succ]
theorem cycWalk_len (a : List Int) : ∀ (k : Nat) (sn : List Bool) (c : Int) (m : Nat), (cycWalk a k sn c m).1.length = sn.length
 | 0, _, _, _ => rfl
 | k + 1, sn, c, m => by
  rw [cycWalk]
  split
  ·rfl
  ·rw [cycWalk_len a k]; simp
theorem cycTo_len (a : List Int) (k : Nat) : (cycTo a k).1.length = a.length := by
 induction k with
 | zero => simp [cycTo]
 | succ k ih => rw [cycTo_succ, cycStep]; exact (cycWalk_len _ _ _ _ _).trans ih
theorem cycTo_out (a : List Int) (k : Nat) : (cycTo a k).2.length ≤ k := by
 induction k with
 | zero => simp [cycTo]
 | succ k ih =>
  rw [cycTo_succ, cycStep]
  dsimp only
  split
  ·simp; omega
  ·omega
def cntF (sn : List Bool) : Nat := sn.countP (!·)
theorem cntF_set : ∀ {sn : List Bool} {c : Nat}, c < sn.length → sn.getD c false = false → cntF (sn.set c true) + 1 = cntF sn
 | [], c, h, _ => by simp at h
 | x :: sn, 0, _, h => by
  have : x = false := by simpa using h
  subst this
  simp [cntF]
 | x :: sn, c + 1, h, h' => by
  have := cntF_set (sn := sn) (c := c) (by simpa using h) (by simpa using h')
  simp only [cntF] at this ⊢
  rw [List.set_cons_succ, List.countP_cons, List.countP_cons]
  omega
theorem cntF_le (sn : List Bool) : cntF sn ≤ sn.length := List.countP_le_length
theorem cycTo_zero (a : List Int) : (cycTo a 0).1.map Value.bool = List.replicate a.length (.bool false) := by simp [cycTo]
set_option maxRecDepth 8000 in
theorem cycles_fn (a : List Int) (cm : Bool) (va : Value) (h : H) (ha : RdI h va a) (hp : PermL a.length a) : FnM Tryz.prog 138 #[.agg #[va, .bool cm]] h [] fun v _ L => L = [.row v 3 1 (cycI a).length ((cycI a).map (Value.int .i64))] := by
 have ham := ha.len
 refine fnM_of (vs := [.agg #[va, .bool cm]]) func138 rfl ntmps138 (Nat.le_of_ble_eq_true rfl) fun w hw => ?_
 apply wp_seq'
 refine wp_text rfl ?_
 refine run_box rfl rfl rfl rfl rfl rfl rfl fun b1 => ?_
 refine rm rfl ?_
 apply run_end
 apply wp_seq'
 refine wp_text rfl ?_
 refine rm rfl ?_
 apply run_end
 refine WP.nilrow 3 1 ?_
 apply wp_seq'
 refine wp_text rfl ?_
 refine rs rfl (s_fa (off := 0) rfl rfl underlying112 rfl sizeOf35 rfl) ?_
 refine rs rfl (s_ld rfl rfl isAgg35 (.o_ rfl)) ?_
 refine rs rfl (s_lenI ha rfl rfl underlying35) ?_
 refine run_mksl rfl rfl rfl rfl rfl rfl rfl underlying108 info4 rfl (by omega) (by omega) fun b2 => ?_
 refine rm rfl ?_
 apply run_end
 apply wp_seq'
 apply wp_seq'
 refine wp_text rfl ?_
 refine rs rfl (s_fa (off := 0) rfl rfl underlying112 rfl sizeOf35 rfl) ?_
 refine rs rfl (s_ld rfl rfl isAgg35 (.o_ rfl)) ?_
 refine rs rfl (s_lenI ha rfl rfl underlying35) ?_
 refine rm rfl ?_
 apply run_end
 apply wp_block'
 rw [← cycTo_zero a]
 refine wp_loop' (fun i : Nat × Value => i.1 ≤ a.length) (fun i => ⟨[(15, .int .i64 i.1), (14, .int .i64 a.length), (4, .slice (some ⟨b2, 0, none⟩) a.length a.length), (3, i.2), (1, .pointer (some ⟨b1, 0, none⟩))], h, [.row (.slice (some ⟨b2, 0, none⟩) a.length a.length) 4 1 a.length ((cycTo a i.1).1.map Value.bool), .row i.2 3 1 (cycTo a i.1).2.length ((cycTo a i.1).2.map (Value.int .i64)), .obj b1 (.cells #[va, .bool cm] 112 (0, 0))]⟩) (fun i => a.length - i.1) (0, .slice none 0 0) (Nat.zero_le _) ⟨by repeat (first|exact True.intro|refine And.intro rfl ?_), rfl, by repeat (first|exact NS _|exact SR _|apply SCC|apply SC)⟩ fun i hi => ?_
 obtain ⟨i, u⟩ := i
 dsimp only at hi ⊢
 have hcl := cycTo_len a i
 have hco := cycTo_out a i
 apply wp_seq'
 refine wp_text rfl ?_
 refine rs rfl (s_lt rfl rfl rfl) ?_
 apply run_end
 apply wp_seq'
 refine wp_if' rfl (fun hc16 => ?_) (fun hc16 => ?_)
 ·skip
  apply wp_skip'
  apply wp_seq'
  apply wp_block'
  apply wp_seq'
  refine wp_text rfl ?_
  refine rm rfl ?_
  refine rm rfl ?_
  apply run_end
  apply wp_seq'
  refine wp_text rfl ?_
  refine rm rfl ?_
  apply run_end
  apply wp_seq'
  apply wp_seq'
  refine wp_text rfl ?_
  refine rm rfl ?_
  refine rm rfl ?_
  apply run_end
  apply wp_block'
  refine wp_loop' (fun j : Nat × List Bool × Int × Nat => j.2.1.length = a.length ∧ cntF j.2.1 ≤ j.1 ∧ 0 ≤ j.2.2.1 ∧ j.2.2.1 < a.length ∧ j.2.2.2 + j.1 = a.length ∧ cycWalk a j.1 j.2.1 j.2.2.1 j.2.2.2 = cycWalk a a.length (cycTo a i).1 i 0) (fun j => ⟨[(7, .int .i64 j.2.2.1), (6, .int .i64 j.2.2.2), (15, .int .i64 i), (14, .int .i64 a.length), (4, .slice (some ⟨b2, 0, none⟩) a.length a.length), (3, u), (1, .pointer (some ⟨b1, 0, none⟩))], h, [.row (.slice (some ⟨b2, 0, none⟩) a.length a.length) 4 1 a.length (j.2.1.map Value.bool), .row u 3 1 (cycTo a i).2.length ((cycTo a i).2.map (Value.int .i64)), .obj b1 (.cells #[va, .bool cm] 112 (0, 0))]⟩) (fun j => j.1) (a.length, (cycTo a i).1, (i : Int), 0) ⟨hcl, by rw [← hcl]; exact cntF_le _, by dsimp only; omega, by dsimp only; omega, by simp, rfl⟩ ⟨by repeat (first|exact True.intro|refine And.intro rfl ?_), rfl, by repeat (first|exact NS _|exact SR _|apply SCC|apply SC)⟩ fun i0 hi0 => ?_
  obtain ⟨k, sn, c, m⟩ := i0
  obtain ⟨h1, h2, h3, h4, h5, h6⟩ := hi0
  dsimp only at h1 h2 h3 h4 h5 h6 ⊢
  apply wp_seq'
  apply wp_seq'
  refine wp_text rfl ?_
  refine rm rfl ?_
  refine rm rfl ?_
  refine rs rfl (s_ia1 rfl rfl rfl underlying108 sizeOf4 (by omega) (by omega)) ?_
  refine rs rfl (s_ld rfl rfl isAgg4 (.rowM (e := 4) (sz := 1) Value.bool false (by repeat first|exact MH _|apply MT) (by first | omega | (simp; omega)))) ?_
  refine rs rfl (s_not rfl rfl) ?_
  apply run_end
  refine wp_cond' rfl (fun hc23 => ?_) (fun hc23 => ?_)
  ·skip
   apply wp_skip'
   apply wp_seq'
   apply wp_block'
   apply wp_seq'
   refine wp_text rfl ?_
   refine rm rfl ?_
   refine rm rfl ?_
   refine rs rfl (s_ia1 rfl rfl rfl underlying108 sizeOf4 (by omega) (by omega)) ?_
   refine run_strowM Value.bool rfl rfl rfl rfl rfl rfl rfl rfl sizeOf4 (by repeat first|exact Swap.here|apply Swap.there) (by omega) ?_
   apply run_end
   refine wp_text rfl ?_
   refine rm rfl ?_
   refine rs rfl (s_add rfl rfl rfl (IntWalk.i64_in _ (by omega))) ?_
   refine rm rfl ?_
   apply run_end
   refine wp_text rfl ?_
   refine rs rfl (s_fa (off := 0) rfl rfl underlying112 rfl sizeOf35 rfl) ?_
   refine rs rfl (s_ld rfl rfl isAgg35 (.o_ rfl)) ?_
   refine rm rfl ?_
   refine rs rfl (s_iaI ha (by omega) (by omega) rfl rfl rfl underlying35 sizeOf3) ?_
   refine rs rfl (s_ldI ha (by omega) (by omega) rfl rfl isAgg3) ?_
   try simp only
   refine rm rfl ?_
   apply run_end
   have hct := cntF_set (sn := sn) (c := c.toNat) (by omega) (by simpa using hc23)
   obtain ⟨k, rfl⟩ : ∃ k', k = k' + 1 := ⟨k - 1, by omega⟩
   rw [cycWalk, if_neg (by simpa using hc23)] at h6
   have hcr := hp.getD_range (i := c.toNat) (by omega)
   exact ⟨(k, sn.set c.toNat true, a.getD c.toNat 0, m + 1), ⟨by simpa using h1, by dsimp only; omega, hcr.1, hcr.2, by dsimp only; omega, h6⟩, by dsimp only; omega, ⟨by repeat (first|exact True.intro|refine And.intro rfl ?_), rfl, by repeat (first|exact NS _|exact SR _|apply SCC|apply SC)⟩⟩
  ·skip
   have he : cycWalk a a.length (cycTo a i).1 i 0 = (sn, m) := by rw [← h6]; cases k with | zero => rfl | succ k => rw [cycWalk, if_pos (by simpa using hc23)]
   apply wp_exit'
   apply wp_seq'
   refine wp_text rfl ?_
   refine rm rfl ?_
   refine rs rfl (s_gt rfl rfl rfl) ?_
   apply run_end
   refine wp_if' rfl (fun hc35 => ?_) (fun hc35 => ?_)
   ·skip
    refine wp_text rfl ?_
    refine rm rfl ?_
    refine rm rfl ?_
    refine run_bso (parts := [_]) (vs := [_]) rfl rfl rfl rfl rfl rfl (bs35_1 _) fun b3 => ?_
    refine run_app1 (Value.int .i64) _ rfl rfl rfl rfl rfl rfl rfl underlying35 info3 rfl (fun v' => (by repeat first|exact Swap.here|apply Swap.there)) (by repeat first|exact MH _|apply MT) rfl (by omega) (by decide) fun v3 hv3 => ?_
    refine rm rfl ?_
    apply run_end
    refine wp_text rfl ?_
    refine rs rfl (s_add rfl rfl rfl (IntWalk.i64_in _ (by omega))) ?_
    refine rm rfl ?_
    apply run_end
    refine ⟨(i + 1, v3), by dsimp only; omega, by dsimp only; omega, ⟨by repeat (first|exact True.intro|refine And.intro rfl ?_), rfl, ?_⟩⟩
    have e1 := cycTo_succ a i
    rw [cycStep, he, if_pos (by simpa using hc35)] at e1
    dsimp only
    rw [e1]
    dsimp only
    rw [List.length_append]
    repeat (first | exact List.nil_sublist _ | exact List.Sublist.refl _ | apply List.Sublist.cons_cons | apply List.Sublist.cons)
   ·skip
    apply wp_skip'
    refine wp_text rfl ?_
    refine rs rfl (s_add rfl rfl rfl (IntWalk.i64_in _ (by omega))) ?_
    refine rm rfl ?_
    apply run_end
    refine ⟨(i + 1, u), by dsimp only; omega, by dsimp only; omega, ⟨by repeat (first|exact True.intro|refine And.intro rfl ?_), rfl, ?_⟩⟩
    have e1 := cycTo_succ a i
    rw [cycStep, he, if_neg (by simpa using hc35)] at e1
    dsimp only
    rw [e1]
    repeat (first | exact List.nil_sublist _ | exact List.Sublist.refl _ | apply List.Sublist.cons_cons | apply List.Sublist.cons)
 ·skip
  apply wp_exit'
  apply wp_seq'
  refine wp_text rfl ?_
  refine rm rfl ?_
  refine rm rfl ?_
  apply run_end
  obtain rfl : i = a.length := by omega
  apply wp_ret'
  exact finM_ret [.row u 3 1 (cycI a).length ((cycI a).map (Value.int .i64))] (res_tmp rfl rfl) ⟨_, .refl _, by repeat (first|exact NS _|exact SR _|apply SCC|apply SC)⟩ (rfl)
end Go.Tal

namespace Go.Tal
open Go.RowKit Go.Proofs Go.Proofs.Tryz _root_.Tal
theorem firstI_zero {l : List Int} : firstI l = 0 ↔ ∀ x ∈ l, x = 0 := by
 induction l with
 | nil => simp [firstI]
 | cons x l ih =>
  simp only [firstI, List.find?_cons] at ih ⊢
  by_cases e : x = 0
  ·subst e; simpa using ih
  ·rw [show (x != 0) = true from by simpa using e]; simp [e]
theorem whenI_zero {b : Bool} {e : Int} (he : e ≠ 0) : whenI b e = 0 ↔ b = false := by cases b <;> simp [whenI, he]
theorem fillI_zero {f : List Int} : fillI f = 0 ↔ f.length ≤ 256 ∧ ∀ x ∈ f, -999999999 ≤ x ∧ x ≤ 999999999 := by
 simp only [fillI, firstI_zero, List.mem_cons, List.not_mem_nil, or_false, forall_eq_or_imp, forall_eq]
 rw [whenI_zero (by decide), whenI_zero (by decide)]
 simp [farI]
 omega
theorem cellsI_zero {c : Int} : cellsI c = 0 ↔ 0 ≤ c ∧ c ≤ 256 := by
 rw [cellsI, whenI_zero (by decide)]; simp
theorem symI_zero {a : List Int} {c : Int} : symI a c = 0 ↔ (0 ≤ c ∧ c ≤ 256) ∧ (a.length : Int) = c ∧ PermL a.length a := by
 simp only [symI, firstI_zero, List.mem_cons, List.not_mem_nil, or_false, forall_eq_or_imp, forall_eq, cellsI_zero]
 rw [whenI_zero (by decide), whenI_zero (by decide)]
 have := isPerm_iff a
 simp only [decide_eq_false_iff_not, Decidable.not_not, Bool.not_eq_false']
 rw [this]
 refine and_congr_right fun h1 => and_congr_right fun h2 => ⟨fun h => h.2, fun h => ⟨by omega, h⟩⟩
theorem fillI_get {f : List Int} (h : fillI f = 0) {i : Nat} (hi : i < f.length) : -999999999 ≤ f.getD i 0 ∧ f.getD i 0 ≤ 999999999 := (fillI_zero.1 h).2 _ (getD_mem hi)
/-- The first error, or none. -/
def applyO (a : Sym) (f : List Int) : List Int × Int :=
 if fillI f ≠ 0 then ([], fillI f) else if symI a.1 f.length ≠ 0 then ([], symI a.1 f.length) else if (imgI a.1 a.2 f).any farI then ([], 3) else (imgI a.1 a.2 f, 0)
def composeO (a b : Sym) : Sym × Int :=
 if firstI [symI a.1 a.1.length, symI b.1 a.1.length] ≠ 0 then (([], false), firstI [symI a.1 a.1.length, symI b.1 a.1.length]) else (comp a b, 0)
def invertO (a : Sym) : Sym × Int := if symI a.1 a.1.length ≠ 0 then (([], false), symI a.1 a.1.length) else ((invTo a.1 a.1.length, a.2), 0)
def wrapI (x : Int) : Int := IntKind.i64.wrap x
def lcmStep (x n : Int) : Int := wrapI (wrapI (x.tdiv (gcdI x n)) * n)
def orderL (a : Sym) : List Int := cycI a.1 ++ (if a.2 then [2] else [])
def orderO (a : Sym) : Int × Int := if symI a.1 a.1.length ≠ 0 then (0, symI a.1 a.1.length) else ((orderL a).foldl lcmStep 1, 0)
theorem gcdI_ne {a b : Int} (h : b ≠ 0) : gcdI a b ≠ 0 := by
 have key : ∀ n : Nat, ∀ a b : Int, b.natAbs ≤ n → (a ≠ 0 ∨ b ≠ 0) → gcdI a b ≠ 0 := by
  intro n
  induction n with
  | zero =>
   intro a b hb h
   have h0 : b = 0 := by omega
   subst h0; rw [gcdI, dif_pos rfl]; simpa using h
  | succ n ih =>
   intro a b hb h
   rw [gcdI]
   split
   ·rename_i h0; subst h0; simpa using h
   ·rename_i h0
    refine ih _ _ ?_ (.inl h0)
    have := Int.natAbs_tmod a b
    have h2 : 0 < b.natAbs := Int.natAbs_pos.2 h0
    have := Nat.mod_lt a.natAbs h2
    omega
 exact key _ a b (Nat.le_refl _) (.inr h)
theorem cycI_pos (a : List Int) : ∀ x ∈ cycI a, 0 < x := by
 have key : ∀ k, ∀ x ∈ (cycTo a k).2, 0 < x := by
  intro k
  induction k with
  | zero => simp [cycTo]
  | succ k ih =>
   rw [cycTo_succ, cycStep]
   dsimp only
   split
   ·intro x hx
    rcases List.mem_append.1 hx with hx | hx
    ·exact ih x hx
    ·simp only [List.mem_singleton] at hx; omega
   ·exact ih
 exact key _
set_option maxRecDepth 8000 in
theorem apply_fn (a : Sym) (f : List Int) (va vf : Value) (h : H) (ha : RdI h va a.1) (hf : RdI h vf f) : Fn Tryz.prog 52 #[.agg #[va, .bool a.2], vf] h fun v h' => ∃ sv, v = .tuple #[sv, .int .i64 (applyO a f).2] ∧ RdI h' sv (applyO a f).1 := by
 refine fn_of (vs := [.agg #[va, .bool a.2], vf]) func52 rfl ntmps52 (Nat.le_of_ble_eq_true rfl) fun w hw => ?_
 apply wp_seq'
 refine wp_text rfl ?_
 refine run_box rfl rfl rfl rfl rfl rfl rfl fun b1 => ?_
 refine rm rfl ?_
 refine rm rfl ?_
 apply run_end
 apply wp_seq'
 apply wp_seq'
 refine wp_text rfl ?_
 refine rm rfl ?_
 refine run_callv (vs := [_]) rfl rfl rfl rfl rfl rfl en134 (fill_fn _ _ _ hf) ?_
 refine rm rfl ?_
 apply run_end
 apply wp_seq'
 refine wp_text rfl ?_
 refine rm rfl ?_
 refine rs rfl (s_ne rfl rfl rfl) ?_
 apply run_end
 refine wp_if' rfl (fun hc12 => ?_) (fun hc12 => ?_)
 ·skip
  apply wp_seq'
  refine wp_text rfl ?_
  refine rm rfl ?_
  refine rm rfl ?_
  refine rm rfl ?_
  apply run_end
  apply wp_ret'
  exact fin_ret (res_tt rfl rfl rfl) (⟨.slice none 0 0, by simp [applyO, hc12], by simp [applyO, hc12]; exact RdI.nil _ 0⟩)
 ·skip
  have hf0 : fillI f = 0 := Decidable.not_not.1 hc12
  apply wp_skip'
  apply wp_seq'
  apply wp_seq'
  refine wp_text rfl ?_
  refine rs rfl (s_ld2 rfl rfl isAgg37 sizeOf37 (.o_ rfl) (.o_ rfl)) ?_
  refine rm rfl ?_
  refine rs rfl (s_lenI hf rfl rfl underlying35) ?_
  refine run_callv (vs := [_, _]) rfl rfl rfl rfl rfl rfl en56 (checkSym_fn _ _ _ _ _ ha) ?_
  refine rm rfl ?_
  apply run_end
  apply wp_seq'
  refine wp_text rfl ?_
  refine rm rfl ?_
  refine rs rfl (s_ne rfl rfl rfl) ?_
  apply run_end
  refine wp_if' rfl (fun hc19 => ?_) (fun hc19 => ?_)
  ·skip
   apply wp_seq'
   refine wp_text rfl ?_
   refine rm rfl ?_
   refine rm rfl ?_
   refine rm rfl ?_
   apply run_end
   apply wp_ret'
   exact fin_ret (res_tt rfl rfl rfl) (⟨.slice none 0 0, by simp [applyO, hf0, hc19], by simp [applyO, hf0, hc19]; exact RdI.nil _ 0⟩)
  ·skip
   have hs0 : symI a.1 f.length = 0 := Decidable.not_not.1 hc19
   have hs1 := symI_zero.1 hs0
   have hpm : PermL f.length a.1 := by have := hs1.2.2; rw [show a.1.length = f.length from by have := hs1.2.1; omega] at this; exact this
   apply wp_skip'
   apply wp_seq'
   refine wp_text rfl ?_
   refine rs rfl (s_ld2 rfl rfl isAgg37 sizeOf37 (.o_ rfl) (.o_ rfl)) ?_
   refine rm rfl ?_
   refine run_call (vs := [_, _]) rfl rfl rfl rfl rfl rfl en135 (image_fn a.1 a.2 f va vf _ ha hf hpm (fun i hi => fillI_get hf0 hi)) ?_
   intro v8 h8 hv8 hh8
   have ha := ha.mono hh8
   have hf := hf.mono hh8
   refine rm rfl ?_
   apply run_end
   apply wp_seq'
   apply wp_seq'
   refine wp_text rfl ?_
   refine rm rfl ?_
   refine run_callv (vs := [_, _]) rfl rfl rfl rfl rfl rfl en136 (contains_fn farI _ _ 137 _ hv8 en137 (fun x => far_fn x _)) ?_
   apply run_end
   refine wp_cond' rfl (fun hc25 => ?_) (fun hc25 => ?_)
   ·skip
    apply wp_seq'
    refine wp_text rfl ?_
    refine rm rfl ?_
    refine rm rfl ?_
    apply run_end
    apply wp_ret'
    exact fin_ret (res_tt rfl rfl rfl) (⟨.slice none 0 0, by simp [applyO, hf0, hs0, hc25], by simp [applyO, hf0, hs0, hc25]; exact RdI.nil _ 0⟩)
   ·skip
    apply wp_skip'
    apply wp_seq'
    refine wp_text rfl ?_
    refine rm rfl ?_
    refine rm rfl ?_
    refine rm rfl ?_
    apply run_end
    apply wp_ret'
    exact fin_ret (res_tt rfl rfl rfl) (⟨v8, by simp [applyO, hf0, hs0, hc25], by simp [applyO, hf0, hs0, hc25]; exact hv8⟩)
set_option maxRecDepth 8000 in
theorem compose_fn (a b : Sym) (va vb : Value) (h : H) (ha : RdI h va a.1) (hb : RdI h vb b.1) : Fn Tryz.prog 53 #[.agg #[va, .bool a.2], .agg #[vb, .bool b.2]] h fun v h' => ∃ sv, v = .tuple #[.agg #[sv, .bool (composeO a b).1.2], .int .i64 (composeO a b).2] ∧ RdI h' sv (composeO a b).1.1 := by
 refine fn_of (vs := [.agg #[va, .bool a.2], .agg #[vb, .bool b.2]]) func53 rfl ntmps53 (Nat.le_of_ble_eq_true rfl) fun w hw => ?_
 apply wp_seq'
 refine wp_text rfl ?_
 refine run_box rfl rfl rfl rfl rfl rfl rfl fun b1 => ?_
 refine run_box rfl rfl rfl rfl rfl rfl rfl fun b2 => ?_
 refine run_alloc rfl rfl rfl rfl rfl zeroValue37 rfl fun b3 => ?_
 refine rm rfl ?_
 apply run_end
 apply wp_seq'
 apply wp_seq'
 refine wp_any [0, 1, 2, 3, 5, 6, 7, 8, 4, 9, 10, 11, 12] rfl (by kernel_rfl) ?_
 refine rs rfl (s_ld2 rfl rfl isAgg37 sizeOf37 (.o_ rfl) (.o_ rfl)) ?_
 refine rs rfl (s_fa (off := 0) rfl rfl underlying37 rfl sizeOf35 rfl) ?_
 refine rs rfl (s_ld rfl rfl isAgg35 (.o_ rfl)) ?_
 refine rs rfl (s_lenI ha rfl rfl underlying35) ?_
 refine rs rfl (s_ld2 rfl rfl isAgg37 sizeOf37 (.o_ rfl) (.o_ rfl)) ?_
 refine rs rfl (s_fa (off := 0) rfl rfl underlying37 rfl sizeOf35 rfl) ?_
 refine rs rfl (s_ld rfl rfl isAgg35 (.o_ rfl)) ?_
 refine rs rfl (s_lenI ha rfl rfl underlying35) ?_
 refine run_callv (vs := [_, _]) rfl rfl rfl rfl rfl rfl en56 (checkSym_fn _ _ _ _ _ ha) ?_
 refine run_callv (vs := [_, _]) rfl rfl rfl rfl rfl rfl en56 (checkSym_fn _ _ _ _ _ hb) ?_
 refine run_bsl (parts := [_, _]) (vs := [_, _]) rfl rfl rfl rfl rfl rfl (bs178_2 _ _) fun b4 h4 hh4 hb4 => ?_
 have hr4 := rdI_of (xs := [_, _]) hb4 rfl rfl (Nat.le_of_ble_eq_true rfl)
 have ha := ha.mono hh4
 have hb := hb.mono hh4
 refine run_callv (vs := [_]) rfl rfl rfl rfl rfl rfl en94 (first_fn _ _ _ hr4) ?_
 refine rm rfl ?_
 apply run_end
 apply wp_seq'
 refine wp_text rfl ?_
 refine rm rfl ?_
 refine rs rfl (s_ne rfl rfl rfl) ?_
 apply run_end
 refine wp_if' rfl (fun hc20 => ?_) (fun hc20 => ?_)
 ·skip
  apply wp_seq'
  refine wp_text rfl ?_
  refine rs rfl (s_build0 rfl b37_) ?_
  refine rm rfl ?_
  refine run_st2 rfl rfl rfl rfl rfl rfl (by first | rfl | assumption | exact RdI.one (by assumption)) rfl sizeOf37 (by repeat first|exact Swap.here|apply Swap.there) rfl ?_
  refine rm rfl ?_
  apply run_end
  apply wp_ret'
  exact fin_ret (res_ct rfl rfl rfl isAgg37 sizeOf37 (.own _ _ _ (by repeat first|exact MH _|apply MT) rfl) (.own _ _ _ (by repeat first|exact MH _|apply MT) rfl)) (⟨.slice none 0 0, by simp [composeO, hc20], by simp [composeO, hc20]; exact RdI.nil _ 0⟩)
 ·skip
  have hf0 := Decidable.not_not.1 hc20
  have hf1 := firstI_zero.1 hf0
  have hpb := (symI_zero.1 (hf1 _ (by simp : symI b.1 a.1.length ∈ _))).2.2
  have hlen := (symI_zero.1 (hf1 _ (by simp : symI b.1 a.1.length ∈ _))).2.1
  apply wp_skip'
  apply wp_seq'
  refine wp_text rfl ?_
  refine rs rfl (s_ld2 rfl rfl isAgg37 sizeOf37 (.o_ rfl) (.o_ rfl)) ?_
  refine rs rfl (s_ld2 rfl rfl isAgg37 sizeOf37 (.o_ rfl) (.o_ rfl)) ?_
  refine run_call (vs := [_, _]) rfl rfl rfl rfl rfl rfl en122 (after_fn a b va vb _ ha hb (fun i hi => by have := hpb.getD_range hi; have := hlen; omega)) ?_
  intro v8 h8 hv8 hh8
  have ha := ha.mono hh8
  have hb := hb.mono hh8
  have hr4 := hr4.mono hh8
  obtain ⟨sv, rfl, hsv⟩ := hv8
  refine run_st2 rfl rfl rfl rfl rfl rfl (by first | rfl | assumption | exact RdI.one (by assumption)) rfl sizeOf37 (by repeat first|exact Swap.here|apply Swap.there) rfl ?_
  refine rm rfl ?_
  apply run_end
  apply wp_ret'
  exact fin_ret (res_ct rfl rfl rfl isAgg37 sizeOf37 (.own _ _ _ (by repeat first|exact MH _|apply MT) rfl) (.own _ _ _ (by repeat first|exact MH _|apply MT) rfl)) (⟨sv, by simp [composeO, hf0], by simp [composeO, hf0]; exact hsv⟩)
set_option maxRecDepth 8000 in
theorem invert_fn (a : Sym) (va : Value) (h : H) (ha : RdI h va a.1) : Fn Tryz.prog 54 #[.agg #[va, .bool a.2]] h fun v h' => ∃ sv, v = .tuple #[.agg #[sv, .bool (invertO a).1.2], .int .i64 (invertO a).2] ∧ RdI h' sv (invertO a).1.1 := by
 refine fn_of (vs := [.agg #[va, .bool a.2]]) func54 rfl ntmps54 (Nat.le_of_ble_eq_true rfl) fun w hw => ?_
 apply wp_seq'
 refine wp_text rfl ?_
 refine run_box rfl rfl rfl rfl rfl rfl rfl fun b1 => ?_
 refine run_alloc rfl rfl rfl rfl rfl zeroValue37 rfl fun b2 => ?_
 refine rm rfl ?_
 apply run_end
 apply wp_seq'
 apply wp_seq'
 refine wp_text rfl ?_
 refine rs rfl (s_ld2 rfl rfl isAgg37 sizeOf37 (.o_ rfl) (.o_ rfl)) ?_
 refine rs rfl (s_fa (off := 0) rfl rfl underlying37 rfl sizeOf35 rfl) ?_
 refine rs rfl (s_ld rfl rfl isAgg35 (.o_ rfl)) ?_
 refine rs rfl (s_lenI ha rfl rfl underlying35) ?_
 refine run_callv (vs := [_, _]) rfl rfl rfl rfl rfl rfl en56 (checkSym_fn _ _ _ _ _ ha) ?_
 refine rm rfl ?_
 apply run_end
 apply wp_seq'
 refine wp_text rfl ?_
 refine rm rfl ?_
 refine rs rfl (s_ne rfl rfl rfl) ?_
 apply run_end
 refine wp_if' rfl (fun hc11 => ?_) (fun hc11 => ?_)
 ·skip
  apply wp_seq'
  refine wp_text rfl ?_
  refine rs rfl (s_build0 rfl b37_) ?_
  refine rm rfl ?_
  refine run_st2 rfl rfl rfl rfl rfl rfl (by first | rfl | assumption | exact RdI.one (by assumption)) rfl sizeOf37 (by repeat first|exact Swap.here|apply Swap.there) rfl ?_
  refine rm rfl ?_
  apply run_end
  apply wp_ret'
  exact fin_ret (res_ct rfl rfl rfl isAgg37 sizeOf37 (.own _ _ _ (by repeat first|exact MH _|apply MT) rfl) (.own _ _ _ (by repeat first|exact MH _|apply MT) rfl)) (⟨.slice none 0 0, by simp [invertO, hc11], by simp [invertO, hc11]; exact RdI.nil _ 0⟩)
 ·skip
  have hf0 := Decidable.not_not.1 hc11
  have hpa := (symI_zero.1 hf0).2.2
  apply wp_skip'
  apply wp_seq'
  refine wp_text rfl ?_
  refine rs rfl (s_ld2 rfl rfl isAgg37 sizeOf37 (.o_ rfl) (.o_ rfl)) ?_
  refine run_call (vs := [_]) rfl rfl rfl rfl rfl rfl en124 (inverse_fn a.1 a.2 va _ ha hpa) ?_
  intro v8 h8 hv8 hh8
  have ha := ha.mono hh8
  obtain ⟨sv, rfl, hsv⟩ := hv8
  refine run_st2 rfl rfl rfl rfl rfl rfl (by first | rfl | assumption | exact RdI.one (by assumption)) rfl sizeOf37 (by repeat first|exact Swap.here|apply Swap.there) rfl ?_
  refine rm rfl ?_
  apply run_end
  apply wp_ret'
  exact fin_ret (res_ct rfl rfl rfl isAgg37 sizeOf37 (.own _ _ _ (by repeat first|exact MH _|apply MT) rfl) (.own _ _ _ (by repeat first|exact MH _|apply MT) rfl)) (⟨sv, by simp [invertO, hf0], by simp [invertO, hf0]; exact hsv⟩)
set_option maxRecDepth 8000 in
theorem order_fn (a : Sym) (va : Value) (h : H) (ha : RdI h va a.1) : FnV Tryz.prog 55 #[.agg #[va, .bool a.2]] h (.tuple #[.int .i64 (orderO a).1, .int .i64 (orderO a).2]) := by
 refine fn_of (vs := [.agg #[va, .bool a.2]]) func55 rfl ntmps55 (Nat.le_of_ble_eq_true rfl) fun w hw => ?_
 apply wp_seq'
 refine wp_text rfl ?_
 refine run_box rfl rfl rfl rfl rfl rfl rfl fun b1 => ?_
 refine rm rfl ?_
 refine rm rfl ?_
 apply run_end
 apply wp_seq'
 apply wp_seq'
 refine wp_text rfl ?_
 refine rs rfl (s_ld2 rfl rfl isAgg37 sizeOf37 (.o_ rfl) (.o_ rfl)) ?_
 refine rs rfl (s_fa (off := 0) rfl rfl underlying37 rfl sizeOf35 rfl) ?_
 refine rs rfl (s_ld rfl rfl isAgg35 (.o_ rfl)) ?_
 refine rs rfl (s_lenI ha rfl rfl underlying35) ?_
 refine run_callv (vs := [_, _]) rfl rfl rfl rfl rfl rfl en56 (checkSym_fn _ _ _ _ _ ha) ?_
 refine rm rfl ?_
 apply run_end
 apply wp_seq'
 refine wp_text rfl ?_
 refine rm rfl ?_
 refine rs rfl (s_ne rfl rfl rfl) ?_
 apply run_end
 refine wp_if' rfl (fun hc15 => ?_) (fun hc15 => ?_)
 ·skip
  apply wp_seq'
  refine wp_text rfl ?_
  refine rm rfl ?_
  refine rm rfl ?_
  refine rm rfl ?_
  apply run_end
  apply wp_ret'
  exact fin_ret (res_tt rfl rfl rfl) (by simp [orderO, hc15])
 ·skip
  have hf0 := Decidable.not_not.1 hc15
  have hpa := (symI_zero.1 hf0).2.2
  have hcl : (cycI a.1).length ≤ 256 := by have h1 := cycTo_out a.1 a.1.length; have h2 := (symI_zero.1 hf0).1.2; have h3 : (cycI a.1).length = (cycTo a.1 a.1.length).2.length := rfl; omega
  have hcp := cycI_pos a.1
  apply wp_skip'
  apply wp_seq'
  refine wp_text rfl ?_
  refine rs rfl (s_ld2 rfl rfl isAgg37 sizeOf37 (.o_ rfl) (.o_ rfl)) ?_
  refine run_callO (vs := [_]) rfl rfl rfl (dst_lt rfl rfl) rfl rfl en138 (cycles_fn a.1 a.2 va _ ha hpa) ?_
  intro v8 h8 L8 hv8 hh8
  have ha := ha.mono hh8
  subst hv8
  refine rm rfl ?_
  apply run_end
  apply wp_seq'
  apply wp_seq'
  refine wp_text rfl ?_
  refine rs rfl (s_fa (off := 1) rfl rfl underlying37 rfl sizeOf4 rfl) ?_
  refine rs rfl (s_ld rfl rfl isAgg4 (.o_ rfl)) ?_
  apply run_end
  refine wp_cond' rfl (fun hc20 => ?_) (fun hc20 => ?_)
  ·skip
   refine wp_text rfl ?_
   refine rm rfl ?_
   refine run_bso (parts := [_]) (vs := [_]) rfl rfl rfl rfl rfl rfl (bs35_1 _) fun b2 => ?_
   refine run_app1 (Value.int .i64) _ rfl rfl rfl rfl rfl rfl rfl underlying35 info3 rfl (fun v' => (by repeat first|exact Swap.here|apply Swap.there)) (by repeat first|exact MH _|apply MT) rfl (by omega) (by decide) fun v2 hv2 => ?_
   refine rm rfl ?_
   apply run_end
   apply wp_seq'
   refine wp_text rfl ?_
   refine rm rfl ?_
   apply run_end
   refine WP.letO rfl (by repeat first|exact Pick.here|apply Pick.there) (by first | omega | (simp; omega)) fun h2 hh2 hr2 => ?_
   have hol : orderL a = cycI a.1 ++ (if a.2 then [2] else []) := rfl
   first | rw [if_pos hc20] at hol | rw [if_neg (by rw [hc20]; decide), List.append_nil] at hol
   rw [← hol] at hr2
   first | generalize v2 = vv at hr2 ⊢ | generalize v8 = vv at hr2 ⊢
   have hop : ∀ x ∈ orderL a, 0 < x := by intro x hx; rw [hol] at hx; first | exact hcp x hx | (rcases List.mem_append.1 hx with hx | hx; exact hcp x hx; simp only [List.mem_singleton] at hx; omega)
   have hom := hr2.len
   apply wp_seq'
   apply wp_seq'
   refine wp_text rfl ?_
   refine rm rfl ?_
   refine rs rfl (s_lenI hr2 rfl rfl underlying35) ?_
   refine rm rfl ?_
   apply run_end
   apply wp_block'
   refine wp_loop' (fun i : Nat => i ≤ (orderL a).length) (fun i => ⟨[(26, .int .i64 i), (25, .int .i64 (orderL a).length), (24, vv), (6, .int .i64 (((orderL a).take i).foldl lcmStep 1))], h2, []⟩) (fun i => (orderL a).length - i) 0 (Nat.zero_le _) ⟨by repeat (first|exact True.intro|refine And.intro rfl ?_), rfl, by repeat (first|exact NS _|exact SR _|apply SCC|apply SC)⟩ fun i hi => ?_
   apply wp_seq'
   refine wp_text rfl ?_
   refine rs rfl (s_lt rfl rfl rfl) ?_
   apply run_end
   apply wp_seq'
   refine wp_if' rfl (fun hc27 => ?_) (fun hc27 => ?_)
   ·skip
    apply wp_skip'
    apply wp_seq'
    apply wp_block'
    apply wp_seq'
    refine wp_text rfl ?_
    refine rs rfl (s_iaI hr2 (by omega) (by omega) rfl rfl rfl underlying35 sizeOf3) ?_
    refine rs rfl (s_ldI hr2 (by omega) (by omega) rfl rfl isAgg3) ?_
    try simp only [Int.toNat_natCast]
    refine rm rfl ?_
    apply run_end
    have hni := hop _ (getD_mem (i := i) (by omega))
    refine wp_text rfl ?_
    refine rm rfl ?_
    refine rm rfl ?_
    refine rm rfl ?_
    refine run_callv (vs := [_, _]) rfl rfl rfl rfl rfl rfl en139 (gcd_fn _ _ _) ?_
    refine rs rfl (s_quo rfl rfl rfl (gcdI_ne (by omega)) rfl) ?_
    refine rm rfl ?_
    refine rs rfl (s_mul rfl rfl rfl rfl) ?_
    refine rm rfl ?_
    apply run_end
    refine wp_text rfl ?_
    refine rs rfl (s_add rfl rfl rfl (IntWalk.i64_in _ (by omega))) ?_
    refine rm rfl ?_
    apply run_end
    refine ⟨i + 1, by omega, by omega, ⟨?_, rfl, List.nil_sublist _⟩⟩
    dsimp only
    rw [List.take_succ_eq_append_getElem (show i < (orderL a).length by omega), List.foldl_append]
    rw [show (orderL a)[i] = (orderL a).getD i 0 from by simp [List.getD_eq_getElem?_getD, List.getElem?_eq_getElem (show i < (orderL a).length by omega)]]
    repeat (first | exact True.intro | refine And.intro rfl ?_)
   ·skip
    obtain rfl : i = (orderL a).length := by omega
    rw [List.take_length]
    apply wp_exit'
    apply wp_seq'
    refine wp_text rfl ?_
    refine rm rfl ?_
    refine rm rfl ?_
    refine rm rfl ?_
    apply run_end
    apply wp_ret'
    exact fin_ret (res_tt rfl rfl rfl) (by simp [orderO, hf0])
  ·skip
   apply wp_skip'
   apply wp_seq'
   refine wp_text rfl ?_
   refine rm rfl ?_
   apply run_end
   refine WP.letO rfl (by repeat first|exact Pick.here|apply Pick.there) (by first | omega | (simp; omega)) fun h2 hh2 hr2 => ?_
   have hol : orderL a = cycI a.1 ++ (if a.2 then [2] else []) := rfl
   first | rw [if_pos hc20] at hol | rw [if_neg (by rw [hc20]; decide), List.append_nil] at hol
   rw [← hol] at hr2
   first | generalize v2 = vv at hr2 ⊢ | generalize v8 = vv at hr2 ⊢
   have hop : ∀ x ∈ orderL a, 0 < x := by intro x hx; rw [hol] at hx; first | exact hcp x hx | (rcases List.mem_append.1 hx with hx | hx; exact hcp x hx; simp only [List.mem_singleton] at hx; omega)
   have hom := hr2.len
   apply wp_seq'
   apply wp_seq'
   refine wp_text rfl ?_
   refine rm rfl ?_
   refine rs rfl (s_lenI hr2 rfl rfl underlying35) ?_
   refine rm rfl ?_
   apply run_end
   apply wp_block'
   refine wp_loop' (fun i : Nat => i ≤ (orderL a).length) (fun i => ⟨[(26, .int .i64 i), (25, .int .i64 (orderL a).length), (24, vv), (6, .int .i64 (((orderL a).take i).foldl lcmStep 1))], h2, []⟩) (fun i => (orderL a).length - i) 0 (Nat.zero_le _) ⟨by repeat (first|exact True.intro|refine And.intro rfl ?_), rfl, by repeat (first|exact NS _|exact SR _|apply SCC|apply SC)⟩ fun i hi => ?_
   apply wp_seq'
   refine wp_text rfl ?_
   refine rs rfl (s_lt rfl rfl rfl) ?_
   apply run_end
   apply wp_seq'
   refine wp_if' rfl (fun hc27 => ?_) (fun hc27 => ?_)
   ·skip
    apply wp_skip'
    apply wp_seq'
    apply wp_block'
    apply wp_seq'
    refine wp_text rfl ?_
    refine rs rfl (s_iaI hr2 (by omega) (by omega) rfl rfl rfl underlying35 sizeOf3) ?_
    refine rs rfl (s_ldI hr2 (by omega) (by omega) rfl rfl isAgg3) ?_
    try simp only [Int.toNat_natCast]
    refine rm rfl ?_
    apply run_end
    have hni := hop _ (getD_mem (i := i) (by omega))
    refine wp_text rfl ?_
    refine rm rfl ?_
    refine rm rfl ?_
    refine rm rfl ?_
    refine run_callv (vs := [_, _]) rfl rfl rfl rfl rfl rfl en139 (gcd_fn _ _ _) ?_
    refine rs rfl (s_quo rfl rfl rfl (gcdI_ne (by omega)) rfl) ?_
    refine rm rfl ?_
    refine rs rfl (s_mul rfl rfl rfl rfl) ?_
    refine rm rfl ?_
    apply run_end
    refine wp_text rfl ?_
    refine rs rfl (s_add rfl rfl rfl (IntWalk.i64_in _ (by omega))) ?_
    refine rm rfl ?_
    apply run_end
    refine ⟨i + 1, by omega, by omega, ⟨?_, rfl, List.nil_sublist _⟩⟩
    dsimp only
    rw [List.take_succ_eq_append_getElem (show i < (orderL a).length by omega), List.foldl_append]
    rw [show (orderL a)[i] = (orderL a).getD i 0 from by simp [List.getD_eq_getElem?_getD, List.getElem?_eq_getElem (show i < (orderL a).length by omega)]]
    repeat (first | exact True.intro | refine And.intro rfl ?_)
   ·skip
    obtain rfl : i = (orderL a).length := by omega
    rw [List.take_length]
    apply wp_exit'
    apply wp_seq'
    refine wp_text rfl ?_
    refine rm rfl ?_
    refine rm rfl ?_
    refine rm rfl ?_
    apply run_end
    apply wp_ret'
    exact fin_ret (res_tt rfl rfl rfl) (by simp [orderO, hf0])
end Go.Tal

/-
 Symbolic states: calls under a guard.
-/
namespace Go.Tal
open Go.RowKit
section
variable {dr : Bool} {C : Ctx} {ops : Array Oper} {K : S → Prop} {i d gi t : Nat} {r : List Nat} {F : List (Nat × Value)} {h : H} {L : List Own} {o : Oper} {want : Bool}
theorem run_hardg (ho : ops[i]? = some o) (hg : o.guard = some (gi, want)) (ht : (ops[gi]?).bind (·.dst) = some t) (hv : F.lookup t = some (.bool want)) (hd : ∀ t, o.dst = some t → t < C.n) (hc : Nat.ble 2 (cls o) = true) (Out : Value → H → List Own → Prop) (hs : HardOk C o F h L Out)
 (k : ∀ v h' L', Out v h' L' → (dr = true → cls o = 2 → Grow h h' L L') ∧ Run dr C ops K r ⟨putF o.dst v F, h', L'⟩) : Run dr C ops K (i :: r) ⟨F, h, L⟩ := by
 refine ⟨o, ho, hd, ?_⟩
 have : guardF ops o F = some true := by unfold guardF; rw [hg]; simp only [ht, Option.bind_some, hv]; cases want <;> rfl
 simp only [this]
 rw [if_neg (by have := Nat.le_of_ble_eq_true hc; omega)]
 exact ⟨Out, hs, k⟩
theorem run_callvg {f : FuncId} {args : Array Operand} {ts : Array TypeId} {vs : List Value} {v : Value} (ho : ops[i]? = some o) (hop : o.op = .call { callee := .value (.func f), args := args, argTypes := ts }) (hg : o.guard = some (gi, want)) (ht : (ops[gi]?).bind (·.dst) = some t) (hw : F.lookup t = some (.bool want)) (hd : o.dst = some d) (hn : Nat.blt d C.n = true)
 (hx : args.toList.map (evF F) = vs.map some) (hen : ∀ args w, (callFunc f args).run C.P w = .ok (.enter f args) w) (hf : FnV C.P f vs.toArray h v) (k : Run dr C ops K r ⟨(d, v) :: F, h, L⟩) : Run dr C ops K (i :: r) ⟨F, h, L⟩ := by
 refine run_hardg ho hg ht hw (dst_lt hd hn) (by simp [cls, hop]) (fun v' h' L' => v' = v ∧ h' = h ∧ L' = L) (frm_call fun M a w ha h1 h2 hm => ?_) fun _ _ _ ⟨e1, e2, e3⟩ => by subst e1 e2 e3; rw [hd]; exact ⟨fun _ _ => ⟨fun _ _ hb => hb, List.Sublist.refl _⟩, k⟩
 refine Oper.wp_mono (fun a' w' ⟨v', h', L', ⟨e1, e2, e3⟩, ha', hm'⟩ => ?_) (h_call hop hx hen hf a w ha h1 h2 hm)
 subst e1 e3
 exact ⟨v', h, _, ⟨rfl, rfl, rfl⟩, ha', ⟨hm'.sat.less ⟨e2, List.Sublist.refl _⟩, hm'.new, hm.old, hm'.kp⟩⟩
end
end Go.Tal

namespace Go.Tal
open Go.RowKit Go.Proofs Go.Proofs.Tryz _root_.Tal
theorem ext_of {α : Type} {d : α} {xs ys : List α} (hl : xs.length = ys.length) (h : ∀ j, j < xs.length → xs.getD j d = ys.getD j d) : xs = ys := by
 apply List.ext_getElem hl
 intro j h1 h2
 have := h j h1
 simpa [List.getD_eq_getElem?_getD, List.getElem?_eq_getElem h1, List.getElem?_eq_getElem h2] using this
theorem ne_at {α : Type} {d : α} {xs ys : List α} {j : Nat} (h : xs.getD j d ≠ ys.getD j d) : xs ≠ ys := fun e => h (by rw [e])
theorem mapTo_ident (n : Nat) : mapTo (fun j => (j : Int)) n n = (ident n).1 := by
 apply List.ext_getElem
 ·simp [mapTo, ident]
 ·intro j h1 h2
  simp only [mapTo_len] at h1
  simp [mapTo, ident, h1]
set_option maxRecDepth 8000 in
theorem sameI_fn (xs ys : List Int) (v u : Value) (h : H) (hx : RdI h v xs) (hy : RdI h u ys) : FnV Tryz.prog 82 #[v, u] h (.bool (decide (xs = ys))) := by
 have hxm := hx.len
 have hym := hy.len
 refine fn_of (vs := [v, u]) func82 rfl ntmps82 (Nat.le_of_ble_eq_true rfl) fun w hw => ?_
 apply wp_seq'
 refine wp_text rfl ?_
 refine rm rfl ?_
 apply run_end
 apply wp_seq'
 apply wp_seq'
 refine wp_text rfl ?_
 refine rm rfl ?_
 refine rs rfl (s_lenI hx rfl rfl underlying35) ?_
 refine rm rfl ?_
 refine rs rfl (s_lenI hy rfl rfl underlying35) ?_
 refine rs rfl (s_ne rfl rfl rfl) ?_
 apply run_end
 refine wp_if' rfl (fun hc10 => ?_) (fun hc10 => ?_)
 ·skip
  apply wp_seq'
  refine wp_text rfl ?_
  refine rm rfl ?_
  apply run_end
  apply wp_ret'
  exact fin_ret (res_tmp rfl rfl) (by have hne : xs ≠ ys := (fun e => hc10 (by rw [e])); simp [hne])
 ·skip
  have hl : xs.length = ys.length := by omega
  apply wp_skip'
  apply wp_seq'
  apply wp_seq'
  refine wp_text rfl ?_
  refine rm rfl ?_
  apply run_end
  apply wp_block'
  refine wp_loop' (fun i : Nat => i ≤ xs.length ∧ ∀ j, j < i → xs.getD j 0 = ys.getD j 0) (fun i => ⟨[(5, .int .i64 i), (1, u), (0, v)], h, []⟩) (fun i => xs.length - i) 0 ⟨Nat.zero_le _, fun _ h => by omega⟩ ⟨by repeat (first|exact True.intro|refine And.intro rfl ?_), rfl, by repeat (first|exact NS _|exact SR _|apply SCC|apply SC)⟩ fun i hi => ?_
  obtain ⟨hi, hn⟩ := hi
  apply wp_seq'
  apply wp_seq'
  refine wp_text rfl ?_
  refine rm rfl ?_
  refine rm rfl ?_
  refine rs rfl (s_lenI hx rfl rfl underlying35) ?_
  refine rs rfl (s_lt rfl rfl rfl) ?_
  apply run_end
  refine wp_if' rfl (fun hc14 => ?_) (fun hc14 => ?_)
  ·skip
   apply wp_skip'
   apply wp_seq'
   apply wp_block'
   apply wp_seq'
   refine wp_any [0, 1, 2, 3, 4, 5, 6, 7, 8] rfl (by kernel_rfl) ?_
   refine rm rfl ?_
   refine rm rfl ?_
   refine rs rfl (s_iaI hx (by omega) (by omega) rfl rfl rfl underlying35 sizeOf3) ?_
   refine rs rfl (s_ldI hx (by omega) (by omega) rfl rfl isAgg3) ?_
   try simp only [Int.toNat_natCast]
   refine rm rfl ?_
   refine rm rfl ?_
   refine rs rfl (s_iaI hy (by omega) (by omega) rfl rfl rfl underlying35 sizeOf3) ?_
   refine rs rfl (s_ldI hy (by omega) (by omega) rfl rfl isAgg3) ?_
   try simp only [Int.toNat_natCast]
   refine rs rfl (s_ne rfl rfl rfl) ?_
   apply run_end
   refine wp_if' rfl (fun hc25 => ?_) (fun hc25 => ?_)
   ·skip
    apply wp_seq'
    refine wp_text rfl ?_
    refine rm rfl ?_
    apply run_end
    apply wp_ret'
    exact fin_ret (res_tmp rfl rfl) (by have hne : xs ≠ ys := ne_at (d := 0) (j := i) (hc25); simp [hne])
   ·skip
    apply wp_skip'
    refine wp_text rfl ?_
    refine rm rfl ?_
    refine rs rfl (s_add rfl rfl rfl (IntWalk.i64_in _ (by omega))) ?_
    refine rm rfl ?_
    apply run_end
    exact ⟨i + 1, ⟨by omega, fun j hj => (Nat.lt_succ_iff_lt_or_eq.1 hj).elim (hn j) (fun e => by rw [e]; exact Decidable.not_not.1 hc25)⟩, by omega, ⟨by repeat (first|exact True.intro|refine And.intro rfl ?_), rfl, by repeat (first|exact NS _|exact SR _|apply SCC|apply SC)⟩⟩
  ·skip
   apply wp_exit'
   apply wp_seq'
   refine wp_text rfl ?_
   refine rm rfl ?_
   apply run_end
   apply wp_ret'
   exact fin_ret (res_tmp rfl rfl) (by have he : xs = ys := ext_of (d := 0) hl (fun j hj => hn j (by omega)); simp [he])
set_option maxRecDepth 8000 in
theorem sameS_fn (a b : Sy) (v u : Value) (h : H) (hx : RdI h v a.1) (hy : RdI h u b.1) : FnV Tryz.prog 30 #[.agg #[v, .bool a.2], .agg #[u, .bool b.2]] h (.bool (decide (a = b))) := by
 refine fn_of (vs := [.agg #[v, .bool a.2], .agg #[u, .bool b.2]]) func30 rfl ntmps30 (Nat.le_of_ble_eq_true rfl) fun w hw => ?_
 apply wp_seq'
 refine wp_text rfl ?_
 refine run_box rfl rfl rfl rfl rfl rfl rfl fun b1 => ?_
 refine run_box rfl rfl rfl rfl rfl rfl rfl fun b2 => ?_
 refine rm rfl ?_
 apply run_end
 apply wp_seq'
 refine wp_text rfl ?_
 refine rs rfl (s_fa (off := 1) rfl rfl underlying37 rfl sizeOf4 rfl) ?_
 refine rs rfl (s_ld rfl rfl isAgg4 (.o_ rfl)) ?_
 refine rs rfl (s_fa (off := 1) rfl rfl underlying37 rfl sizeOf4 rfl) ?_
 refine rs rfl (s_ld rfl rfl isAgg4 (.o_ rfl)) ?_
 refine rs rfl (s_beq rfl rfl rfl underlying4) ?_
 refine rm rfl ?_
 refine run_cb (t := 10) rfl (fun hg10 => ?_) (fun hg10 => ?_)
 ·skip
  refine rsg rfl rfl (s_fa (off := 0) rfl rfl underlying37 rfl sizeOf35 rfl) ?_
  refine rsg rfl rfl (s_ld rfl rfl isAgg35 (.o_ rfl)) ?_
  refine rsg rfl rfl (s_fa (off := 0) rfl rfl underlying37 rfl sizeOf35 rfl) ?_
  refine rsg rfl rfl (s_ld rfl rfl isAgg35 (.o_ rfl)) ?_
  refine run_callvg (vs := [_, _]) rfl rfl rfl rfl rfl rfl rfl rfl en82 (sameI_fn _ _ _ _ _ hx hy) ?_
  refine rs rfl (s_pick rfl rfl (fun _ => rfl) (fun h => by cases h)) ?_
  refine rm rfl ?_
  apply run_end
  apply wp_ret'
  exact fin_ret (res_tmp rfl rfl) (by obtain ⟨a1, a2⟩ := a; obtain ⟨b1, b2⟩ := b; simp_all)
 ·skip
  refine run_skip rfl rfl rfl rfl rfl rfl rfl ?_
  refine run_skip rfl rfl rfl rfl rfl rfl rfl ?_
  refine run_skip rfl rfl rfl rfl rfl rfl rfl ?_
  refine run_skip rfl rfl rfl rfl rfl rfl rfl ?_
  refine run_skip rfl rfl rfl rfl rfl rfl rfl ?_
  refine rs rfl (s_pick rfl rfl (fun h => by cases h) (fun _ => rfl)) ?_
  refine rm rfl ?_
  apply run_end
  apply wp_ret'
  exact fin_ret (res_tmp rfl rfl) (by obtain ⟨a1, a2⟩ := a; obtain ⟨b1, b2⟩ := b; simp_all)
set_option maxRecDepth 8000 in
theorem sameL_fn (xs ys : List Sy) (v u : Value) (h : H) (hx : RdS h v xs) (hy : RdS h u ys) : FnV Tryz.prog 69 #[v, u] h (.bool (decide (xs = ys))) := by
 have hxm := hx.len
 have hym := hy.len
 refine fn_of (vs := [v, u]) func69 rfl ntmps69 (Nat.le_of_ble_eq_true rfl) fun w hw => ?_
 apply wp_seq'
 refine wp_text rfl ?_
 refine rm rfl ?_
 apply run_end
 apply wp_seq'
 apply wp_seq'
 refine wp_text rfl ?_
 refine rm rfl ?_
 refine rs rfl (s_lenS hx rfl rfl underlying22) ?_
 refine rm rfl ?_
 refine rs rfl (s_lenS hy rfl rfl underlying22) ?_
 refine rs rfl (s_ne rfl rfl rfl) ?_
 apply run_end
 refine wp_if' rfl (fun hc10 => ?_) (fun hc10 => ?_)
 ·skip
  apply wp_seq'
  refine wp_text rfl ?_
  refine rm rfl ?_
  apply run_end
  apply wp_ret'
  exact fin_ret (res_tmp rfl rfl) (by have hne : xs ≠ ys := (fun e => hc10 (by rw [e])); simp [hne])
 ·skip
  have hl : xs.length = ys.length := by omega
  apply wp_skip'
  apply wp_seq'
  apply wp_seq'
  refine wp_text rfl ?_
  refine rm rfl ?_
  apply run_end
  apply wp_block'
  refine wp_loop' (fun i : Nat => i ≤ xs.length ∧ ∀ j, j < i → xs.getD j ([], false) = ys.getD j ([], false)) (fun i => ⟨[(5, .int .i64 i), (1, u), (0, v)], h, []⟩) (fun i => xs.length - i) 0 ⟨Nat.zero_le _, fun _ h => by omega⟩ ⟨by repeat (first|exact True.intro|refine And.intro rfl ?_), rfl, by repeat (first|exact NS _|exact SR _|apply SCC|apply SC)⟩ fun i hi => ?_
  obtain ⟨hi, hn⟩ := hi
  apply wp_seq'
  apply wp_seq'
  refine wp_text rfl ?_
  refine rm rfl ?_
  refine rm rfl ?_
  refine rs rfl (s_lenS hx rfl rfl underlying22) ?_
  refine rs rfl (s_lt rfl rfl rfl) ?_
  apply run_end
  refine wp_if' rfl (fun hc14 => ?_) (fun hc14 => ?_)
  ·skip
   apply wp_skip'
   apply wp_seq'
   apply wp_block'
   apply wp_seq'
   refine wp_any [0, 1, 2, 3, 4, 5, 6, 7, 8, 9] rfl (by kernel_rfl) ?_
   refine rm rfl ?_
   refine rm rfl ?_
   refine rs rfl (s_iaS hx (by omega) (by omega) rfl rfl rfl underlying22 sizeOf37) ?_
   obtain ⟨sv20, hsv20, hat20⟩ := hx.get (j := i) (by omega)
   refine rs rfl (s_ldS hat20 (by omega) rfl rfl isAgg37 sizeOf37) ?_
   refine rm rfl ?_
   refine rm rfl ?_
   refine rs rfl (s_iaS hy (by omega) (by omega) rfl rfl rfl underlying22 sizeOf37) ?_
   obtain ⟨sv24, hsv24, hat24⟩ := hy.get (j := i) (by omega)
   refine rs rfl (s_ldS hat24 (by omega) rfl rfl isAgg37 sizeOf37) ?_
   refine run_callv (vs := [_, _]) rfl rfl rfl rfl rfl rfl en30 (sameS_fn _ _ _ _ _ hsv20 hsv24) ?_
   refine rs rfl (s_not rfl rfl) ?_
   apply run_end
   refine wp_cond' rfl (fun hc26 => ?_) (fun hc26 => ?_)
   ·skip
    apply wp_seq'
    refine wp_text rfl ?_
    refine rm rfl ?_
    apply run_end
    apply wp_ret'
    exact fin_ret (res_tmp rfl rfl) (by have hne : xs ≠ ys := ne_at (d := ([], false)) (j := i) (by simpa using hc26); simp [hne])
   ·skip
    apply wp_skip'
    refine wp_text rfl ?_
    refine rm rfl ?_
    refine rs rfl (s_add rfl rfl rfl (IntWalk.i64_in _ (by omega))) ?_
    refine rm rfl ?_
    apply run_end
    exact ⟨i + 1, ⟨by omega, fun j hj => (Nat.lt_succ_iff_lt_or_eq.1 hj).elim (hn j) (fun e => by rw [e]; simpa using hc26)⟩, by omega, ⟨by repeat (first|exact True.intro|refine And.intro rfl ?_), rfl, by repeat (first|exact NS _|exact SR _|apply SCC|apply SC)⟩⟩
  ·skip
   apply wp_exit'
   apply wp_seq'
   refine wp_text rfl ?_
   refine rm rfl ?_
   apply run_end
   apply wp_ret'
   exact fin_ret (res_tmp rfl rfl) (by have he : xs = ys := ext_of (d := ([], false)) hl (fun j hj => hn j (by omega)); simp [he])
set_option maxRecDepth 8000 in
theorem sameT_fn (xs ys : List (List Int)) (v u : Value) (h : H) (hx : RdT h v xs) (hy : RdT h u ys) : FnV Tryz.prog 81 #[v, u] h (.bool (decide (xs = ys))) := by
 have hxm := hx.len
 have hym := hy.len
 refine fn_of (vs := [v, u]) func81 rfl ntmps81 (Nat.le_of_ble_eq_true rfl) fun w hw => ?_
 apply wp_seq'
 refine wp_text rfl ?_
 refine rm rfl ?_
 apply run_end
 apply wp_seq'
 apply wp_seq'
 refine wp_text rfl ?_
 refine rm rfl ?_
 refine rs rfl (s_lenT hx rfl rfl underlying26) ?_
 refine rm rfl ?_
 refine rs rfl (s_lenT hy rfl rfl underlying26) ?_
 refine rs rfl (s_ne rfl rfl rfl) ?_
 apply run_end
 refine wp_if' rfl (fun hc10 => ?_) (fun hc10 => ?_)
 ·skip
  apply wp_seq'
  refine wp_text rfl ?_
  refine rm rfl ?_
  apply run_end
  apply wp_ret'
  exact fin_ret (res_tmp rfl rfl) (by have hne : xs ≠ ys := (fun e => hc10 (by rw [e])); simp [hne])
 ·skip
  have hl : xs.length = ys.length := by omega
  apply wp_skip'
  apply wp_seq'
  apply wp_seq'
  refine wp_text rfl ?_
  refine rm rfl ?_
  apply run_end
  apply wp_block'
  refine wp_loop' (fun i : Nat => i ≤ xs.length ∧ ∀ j, j < i → xs.getD j [] = ys.getD j []) (fun i => ⟨[(5, .int .i64 i), (1, u), (0, v)], h, []⟩) (fun i => xs.length - i) 0 ⟨Nat.zero_le _, fun _ h => by omega⟩ ⟨by repeat (first|exact True.intro|refine And.intro rfl ?_), rfl, by repeat (first|exact NS _|exact SR _|apply SCC|apply SC)⟩ fun i hi => ?_
  obtain ⟨hi, hn⟩ := hi
  apply wp_seq'
  apply wp_seq'
  refine wp_text rfl ?_
  refine rm rfl ?_
  refine rm rfl ?_
  refine rs rfl (s_lenT hx rfl rfl underlying26) ?_
  refine rs rfl (s_lt rfl rfl rfl) ?_
  apply run_end
  refine wp_if' rfl (fun hc14 => ?_) (fun hc14 => ?_)
  ·skip
   apply wp_skip'
   apply wp_seq'
   apply wp_block'
   apply wp_seq'
   refine wp_any [0, 1, 2, 3, 4, 5, 6, 7, 8, 9] rfl (by kernel_rfl) ?_
   refine rm rfl ?_
   refine rm rfl ?_
   refine rs rfl (s_iaT hx (by omega) (by omega) rfl rfl rfl underlying26 sizeOf35) ?_
   obtain ⟨sv20, hsv20, hat20⟩ := hx.get (j := i) (by omega)
   refine rs rfl (s_ldT hat20 (by omega) rfl rfl isAgg35) ?_
   refine rm rfl ?_
   refine rm rfl ?_
   refine rs rfl (s_iaT hy (by omega) (by omega) rfl rfl rfl underlying26 sizeOf35) ?_
   obtain ⟨sv24, hsv24, hat24⟩ := hy.get (j := i) (by omega)
   refine rs rfl (s_ldT hat24 (by omega) rfl rfl isAgg35) ?_
   refine run_callv (vs := [_, _]) rfl rfl rfl rfl rfl rfl en82 (sameI_fn _ _ _ _ _ hsv20 hsv24) ?_
   refine rs rfl (s_not rfl rfl) ?_
   apply run_end
   refine wp_cond' rfl (fun hc26 => ?_) (fun hc26 => ?_)
   ·skip
    apply wp_seq'
    refine wp_text rfl ?_
    refine rm rfl ?_
    apply run_end
    apply wp_ret'
    exact fin_ret (res_tmp rfl rfl) (by have hne : xs ≠ ys := ne_at (d := []) (j := i) (by simpa using hc26); simp [hne])
   ·skip
    apply wp_skip'
    refine wp_text rfl ?_
    refine rm rfl ?_
    refine rs rfl (s_add rfl rfl rfl (IntWalk.i64_in _ (by omega))) ?_
    refine rm rfl ?_
    apply run_end
    exact ⟨i + 1, ⟨by omega, fun j hj => (Nat.lt_succ_iff_lt_or_eq.1 hj).elim (hn j) (fun e => by rw [e]; simpa using hc26)⟩, by omega, ⟨by repeat (first|exact True.intro|refine And.intro rfl ?_), rfl, by repeat (first|exact NS _|exact SR _|apply SCC|apply SC)⟩⟩
  ·skip
   apply wp_exit'
   apply wp_seq'
   refine wp_text rfl ?_
   refine rm rfl ?_
   apply run_end
   apply wp_ret'
   exact fin_ret (res_tmp rfl rfl) (by have he : xs = ys := ext_of (d := []) hl (fun j hj => hn j (by omega)); simp [he])
set_option maxRecDepth 8000 in
theorem identity_fn (n : Nat) (h : H) (hn : n ≤ 4294967296) : Fn Tryz.prog 163 #[.int .i64 n] h fun v h' => ∃ sv, v = .agg #[sv, .bool false] ∧ RdI h' sv (ident n).1 := by
 refine fn_of (vs := [.int .i64 n]) func163 rfl ntmps163 (Nat.le_of_ble_eq_true rfl) fun w hw => ?_
 apply wp_seq'
 refine wp_text rfl ?_
 refine run_alloc rfl rfl rfl rfl rfl zeroValue112 rfl fun b1 => ?_
 apply run_end
 apply wp_seq'
 refine wp_text rfl ?_
 refine rm rfl ?_
 refine run_mksl rfl rfl rfl rfl rfl rfl rfl underlying35 info3 rfl (by omega) (by omega) fun b2 => ?_
 refine rs rfl (s_build1 rfl rfl (b112_0 _ _ _)) ?_
 refine run_alloc rfl rfl rfl rfl rfl zeroValue112 rfl fun b3 => ?_
 refine run_st2 rfl rfl rfl rfl rfl rfl (by first | rfl | assumption | exact RdI.one (by assumption)) rfl sizeOf112 (by repeat first|exact Swap.here|apply Swap.there) rfl ?_
 apply run_end
 apply wp_seq'
 apply wp_seq'
 refine wp_text rfl ?_
 refine rs rfl (s_fa (off := 0) rfl rfl underlying112 rfl sizeOf35 rfl) ?_
 refine rs rfl (s_ld rfl rfl isAgg35 (.o_ rfl)) ?_
 refine rs rfl (s_len rfl rfl underlying35) ?_
 refine rm rfl ?_
 apply run_end
 apply wp_block'
 rw [← mapTo_zero fun j => (j : Int)]
 refine wp_loop' (fun i : Nat => i ≤ n) (fun i => ⟨[(11, .int .i64 i), (10, .int .i64 n), (3, .pointer (some ⟨b3, 0, none⟩)), (2, .pointer (some ⟨b1, 0, none⟩))], h, [.obj b3 (.cells #[.slice (some ⟨b2, 0, none⟩) n n, .bool false] 112 (0, 0)), .row (.slice (some ⟨b2, 0, none⟩) n n) 3 1 n ((mapTo (fun j => (j : Int)) n i).map (Value.int .i64)), .obj b1 (.cells #[.slice none 0 0, .bool false] 112 (0, 0))]⟩) (fun i => n - i) 0 (Nat.zero_le _) ⟨by repeat (first|exact True.intro|refine And.intro rfl ?_), rfl, by repeat (first|exact NS _|exact SR _|apply SCC|apply SC)⟩ fun i hi => ?_
 apply wp_seq'
 refine wp_text rfl ?_
 refine rs rfl (s_lt rfl rfl rfl) ?_
 apply run_end
 apply wp_seq'
 refine wp_if' rfl (fun hc12 => ?_) (fun hc12 => ?_)
 ·skip
  apply wp_skip'
  apply wp_seq'
  apply wp_block'
  apply wp_seq'
  refine wp_text rfl ?_
  refine rm rfl ?_
  refine rm rfl ?_
  apply run_end
  refine wp_text rfl ?_
  refine rs rfl (s_fa (off := 0) rfl rfl underlying112 rfl sizeOf35 rfl) ?_
  refine rs rfl (s_ld rfl rfl isAgg35 (.o_ rfl)) ?_
  refine rm rfl ?_
  refine rm rfl ?_
  refine rs rfl (s_ia1 rfl rfl rfl underlying35 sizeOf3 (by omega) (by omega)) ?_
  refine run_strowM (Value.int .i64) rfl rfl rfl rfl rfl rfl rfl rfl sizeOf3 (by repeat first|exact Swap.here|apply Swap.there) (by omega) ?_
  apply run_end
  refine wp_text rfl ?_
  refine rs rfl (s_add rfl rfl rfl (IntWalk.i64_in _ (by omega))) ?_
  refine rm rfl ?_
  apply run_end
  refine ⟨i + 1, by omega, by omega, ⟨by repeat (first|exact True.intro|refine And.intro rfl ?_), rfl, ?_⟩⟩
  rw [← mapTo_set]
  repeat (first | exact List.nil_sublist _ | exact List.Sublist.refl _ | apply List.Sublist.cons_cons | apply List.Sublist.cons)
 ·skip
  apply wp_exit'
  apply wp_seq'
  refine wp_text rfl ?_
  refine rs rfl (s_ld2 rfl rfl isAgg112 sizeOf112 (.o_ rfl) (.o_ rfl)) ?_
  refine run_st2 rfl rfl rfl rfl rfl rfl (by first | rfl | assumption | exact RdI.one (by assumption)) rfl sizeOf112 (by repeat first|exact Swap.here|apply Swap.there) rfl ?_
  apply run_end
  obtain rfl : i = n := by omega
  refine WP.letI rfl (by repeat first|exact Pick.here|apply Pick.there) (mapTo_len _ _ _) (by omega) fun h' hh hr => ?_
  rw [mapTo_ident] at hr
  apply wp_ret'
  exact fin_ret (res_cell2 rfl rfl isAgg112 sizeOf112 (.own _ _ _ (by repeat first|exact MH _|apply MT) rfl) (.own _ _ _ (by repeat first|exact MH _|apply MT) rfl)) (⟨_, rfl, hr⟩)
end Go.Tal

/-
 Symbolic states: maps whose keys are strings.
-/
namespace Go.Tal
open Go.RowKit
/-- The entries of a map that has lost none. -/
def mkE : Nat → List (ByteArray × Value) → List MapEntry
 | _, [] => []
 | i, (k, v) :: r => { key := .string k, val := v, born := i } :: mkE (i + 1) r
def mapO (kvs : List (ByteArray × Value)) : Obj := .map (mkE 0 kvs).toArray kvs.length
def kvGet (kvs : List (ByteArray × Value)) (s : ByteArray) : Option Value := (kvs.find? (fun p => s == p.1)).map (·.2)
theorem findNow_mkE (s : ByteArray) : ∀ (kvs : List (ByteArray × Value)) (i j : Nat), (Instr.findNow .string (.string s) (mkE i kvs) j).map (fun r => r.map (·.2)) = some (kvGet kvs s)
 | [], i, j => rfl
 | (k, v) :: r, i, j => by
  simp only [mkE, Instr.findNow, Instr.sameNow, kvGet, List.find?_cons]
  cases h : (s == k) with
  | true => simp
  | false => simpa [kvGet] using findNow_mkE s r (i + 1) (j + 1)
theorem run_checkKey' {P : Program} {k : TypeId} {s : ByteArray} (hk : P.underlying k = some .string) (e : Bool) (w : World) : (Instr.checkKey e 10000 k (.string s)).run P w = .ok () w := by
 unfold Instr.checkKey
 simp [run_underlying hk]
theorem run_findKey_str {P : Program} {k : TypeId} {s : ByteArray} (hk : P.underlying k = some .string) (kvs : List (ByteArray × Value)) (w : World) : ∃ r, (Instr.findKey k (.string s) (mkE 0 kvs)).run P w = .ok r w ∧ r.map (·.2) = kvGet kvs s := by
 have h := findNow_mkE s kvs 0 0
 cases h1 : Instr.findNow .string (.string s) (mkE 0 kvs) 0 with
 | none => rw [h1] at h; cases h
 | some r =>
  rw [h1] at h
  refine ⟨r, ?_, by simpa using h⟩
  simp [Instr.findKey, run_underlying hk, h1]
theorem run_look {P : Program} {t k e : TypeId} {b : Nat} {s : ByteArray} {z : Value} {kvs : List (ByteArray × Value)} (ht : P.underlying t = some (.map k e)) (hk : P.underlying k = some .string) (hz : ∀ w, (zeroValue e).run P w = .ok z w) {w : World} (hb : w.heap[b]? = some (mapO kvs)) :
 (Instr.lookup t (.map (some b)) (.string s) true).run P w = .ok (.tuple #[(kvGet kvs s).getD z, .bool (kvGet kvs s).isSome]) w := by
 obtain ⟨r, h1, h2⟩ := run_findKey_str (s := s) hk kvs w
 have hg : (getObj b).run P w = .ok (mapO kvs) w := by simp [getObj, Sem.run, hb, mapO]
 simp only [Instr.lookup, Sem.run_bind, run_underlying ht, Result.andThen_ok, hg, mapO, Sem.run_pure, run_checkKey' hk, h1]
 rw [← h2]
 cases r with
 | none => simp [hz w]
 | some p => simp
/-- A value put under a key: in its place, or behind. -/
def kvPut : List (ByteArray × Value) → ByteArray → Value → List (ByteArray × Value)
 | [], s, v => [(s, v)]
 | (k, u) :: r, s, v => if s == k then (s, v) :: r else (k, u) :: kvPut r s v
theorem kvPut_none {s : ByteArray} {v : Value} : ∀ {kvs : List (ByteArray × Value)}, kvGet kvs s = none → kvPut kvs s v = kvs ++ [(s, v)]
 | [], _ => rfl
 | (k, u) :: r, h => by
  simp only [kvGet, List.find?_cons] at h
  cases h1 : (s == k) with
  | true => rw [h1] at h; simp at h
  | false =>
   rw [h1] at h
   rw [kvPut, if_neg (by rw [h1]; decide), kvPut_none (by simpa [kvGet] using h)]; rfl
theorem mkE_len : ∀ (i : Nat) (kvs : List (ByteArray × Value)), (mkE i kvs).length = kvs.length
 | _, [] => rfl
 | i, (k, v) :: r => by simp [mkE, mkE_len (i + 1) r]
theorem mkE_snoc (s : ByteArray) (v : Value) : ∀ (i : Nat) (kvs : List (ByteArray × Value)), mkE i (kvs ++ [(s, v)]) = mkE i kvs ++ [{ key := .string s, val := v, born := i + kvs.length }]
 | i, [] => rfl
 | i, (k, u) :: r => by
  simp only [List.cons_append, mkE, mkE_snoc s v (i + 1) r, List.length_cons, List.cons.injEq, true_and, List.append_cancel_left_eq, and_true]
  congr 1
  omega
/-- Where a key is found, and what is put there. -/
theorem findNow_put (s : ByteArray) (v : Value) : ∀ (kvs : List (ByteArray × Value)) (i j : Nat), (Instr.findNow .string (.string s) (mkE i kvs) j = some none ∧ kvPut kvs s v = kvs ++ [(s, v)]) ∨
 ∃ n u, Instr.findNow .string (.string s) (mkE i kvs) j = some (some (j + n, u)) ∧ ((mkE i kvs)[n]?).map (·.key) = some (.string s) ∧ mkE i (kvPut kvs s v) = (mkE i kvs).modify n (fun e => { e with key := .string s, val := v }) ∧ (kvPut kvs s v).length = kvs.length
 | [], i, j => .inl ⟨rfl, rfl⟩
 | (k, u) :: r, i, j => by
  simp only [mkE, Instr.findNow, Instr.sameNow, kvPut]
  cases h : (s == k) with
  | true =>
   have : s = k := (MapKept.bytes_beq s k).1 h
   subst this
   right
   have hb : (s == s) = true := (MapKept.bytes_beq s s).2 rfl
   exact ⟨0, u, by simp, by simp, by simp [mkE], by simp⟩
  | false =>
   simp only [Bool.false_eq_true, if_false]
   rcases findNow_put s v r (i + 1) (j + 1) with ⟨h1, h2⟩ | ⟨n, u', h1, h2, h3, h4⟩
   ·exact .inl ⟨h1, by rw [h2]; rfl⟩
   ·right
    exact ⟨n + 1, u', by rw [h1]; congr 3; omega, by simpa using h2, by simp [mkE, h3], by simp [h4]⟩
theorem run_mapup {P : Program} {t k e : TypeId} {b : Nat} {s : ByteArray} {v : Value} {kvs : List (ByteArray × Value)} (ht : P.underlying t = some (.map k e)) (hk : P.underlying k = some .string) {w : World} (hb : w.heap[b]? = some (mapO kvs)) :
 (Instr.mapUpdate t (.map (some b)) (.string s) v).run P w = .ok () { w with heap := w.heap.setIfInBounds b (mapO (kvPut kvs s v)) } := by
 have hg : (getObj b).run P w = .ok (mapO kvs) w := by simp [getObj, Sem.run, hb, mapO]
 have hs : ∀ o, (setObj b o).run P w = .ok () { w with heap := w.heap.setIfInBounds b o } := fun o => MapKept.run_setObj_map o (by rw [hb]; rfl)
 rcases findNow_put s v kvs 0 0 with ⟨h1, h2⟩ | ⟨n, u, h1, h2, h3, h4⟩
 ·have hf : (Instr.findKey k (.string s) (mkE 0 kvs)).run P w = .ok none w := by simp [Instr.findKey, run_underlying hk, h1]
  simp only [Instr.mapUpdate, Sem.run_bind, run_underlying ht, Result.andThen_ok, hg, mapO, run_checkKey' hk, hf, hs]
  rw [h2]
  congr 3
  simp [mkE_snoc]
 ·have hf : (Instr.findKey k (.string s) (mkE 0 kvs)).run P w = .ok (some (n, u)) w := by simp [Instr.findKey, run_underlying hk, h1]
  have hkey : (((mkE 0 kvs).toArray[n]?).map (·.key)).getD (.string s) = .string s := by simp [h2]
  have hst : (Instr.keyThatStays (.string s) (.string s)).run P w = .ok (.string s) w := by
   have : Instr.sameBits 10000 (.string s) (.string s) = true := by unfold Instr.sameBits; exact (MapKept.bytes_beq s s).2 rfl
   simp [Instr.keyThatStays, this]
  simp only [Instr.mapUpdate, Sem.run_bind, run_underlying ht, Result.andThen_ok, hg, mapO, run_checkKey' hk, hf, hkey, hst, hs]
  rw [h3, h4]
  congr 3
  simp [List.modify_toArray]
end Go.Tal

/-
 Symbolic states: the operations on maps whose keys are strings.
-/
namespace Go.Tal
open Go.RowKit
inductive MapAt (h : H) (L : List Own) (b : Nat) (kvs : List (ByteArray × Value)) : Prop
 | imm (hb : h b = some (mapO kvs))
 | own (hb : Own.obj b (mapO kvs) ∈ L)
theorem MapAt.at_ {h : H} {L : List Own} {b : Nat} {kvs : List (ByteArray × Value)} (c : MapAt h L b kvs) {w : World} (s : Sat h L w) : w.heap[b]? = some (mapO kvs) := by
 cases c with
 | imm hb => exact s.imm b _ hb
 | own hb => exact s.own _ hb
section
variable {P : Program} {o : Oper} {F : List (Nat × Value)} {h : H} {L : List Own} {x y z : Operand}
theorem s_look {t k e : TypeId} {b : Nat} {s : ByteArray} {zv : Value} {kvs : List (ByteArray × Value)} (ho : o.op = .lookup t x y true) (hx : evF F x = some (.map (some b))) (hy : evF F y = some (.string s)) (ht : P.underlying t = some (.map k e)) (hk : P.underlying k = some .string) (hz : ∀ w, (zeroValue e).run P w = .ok zv w) (hm : MapAt h L b kvs) :
 SoftOk P o F h L (.tuple #[(kvGet kvs s).getD zv, .bool (kvGet kvs s).isSome]) := fun a w ha hw => by
 have h1 := agree_of ha (by rw [ho]; simp [Op.operands]) hx
 have h2 := agree_of ha (x := y) (by rw [ho]; simp [Op.operands]) hy
 have hw : Sat h L w := by
  rcases hw with hw | hw
  ·simp [cls, ho] at hw
  ·exact hw
 simp only [execOp, ho, h1, h2]
 exact run_v (run_look ht hk hz (hm.at_ hw))
theorem s_lenm {t k e : TypeId} {b : Nat} {kvs : List (ByteArray × Value)} (ho : o.op = .call { callee := .builtin .len, args := #[x], argTypes := #[t] }) (hx : evF F x = some (.map (some b))) (ht : P.underlying t = some (.map k e)) (hm : MapAt h L b kvs) : SoftOk P o F h L (.int .i64 kvs.length) := fun a w ha hw => by
 have h1 := agree_of ha (by rw [ho]; simp [Op.operands, Call.operands]) hx
 have hw : Sat h L w := by
  rcases hw with hw | hw
  ·simp [cls, ho] at hw
  ·exact hw
 have hb := hm.at_ hw
 have hg : (getObj b).run P w = .ok (mapO kvs) w := by simp [getObj, Sem.run, hb, mapO]
 simp [execOp, ho, resolve, h1, invoke, builtin, Builtin.len_, run_underlying ht, goInt, hg, mapO, mkE_len]
end
section
variable {dr : Bool} {C : Ctx} {ops : Array Oper} {K : S → Prop} {i : Nat} {r : List Nat} {F : List (Nat × Value)} {h : H} {L L' : List Own} {o : Oper} {x y z : Operand} {v : Value}
theorem h_mapup {t k e : TypeId} {b : Nat} {s : ByteArray} {kvs : List (ByteArray × Value)} (ho : o.op = .mapUpdate t x y z ∨ o.op = .insert t x y z) (hx : evF F x = some (.map (some b))) (hy : evF F y = some (.string s)) (hz : evF F z = some v) (ht : C.P.underlying t = some (.map k e)) (hk : C.P.underlying k = some .string)
 (p : Swap (.obj b (mapO kvs)) (.obj b (mapO (kvPut kvs s v))) L L') : HardW C o F h L (fun v' h' L'' => v' = undef ∧ h' = h ∧ L'' = L') := fun a w ha _ _ hm => by
 have e1 := agree_of ha (x := x) (by rcases ho with ho | ho <;> rw [ho] <;> simp [Op.operands]) hx
 have e2 := agree_of ha (x := y) (by rcases ho with ho | ho <;> rw [ho] <;> simp [Op.operands]) hy
 have e3 := agree_of ha (x := z) (by rcases ho with ho | ho <;> rw [ho] <;> simp [Op.operands]) hz
 obtain ⟨L0, p1, _⟩ := p.pick
 have hb : w.heap[b]? = some (mapO kvs) := hm.sat.own _ (p1.perm.mem_iff.2 List.mem_cons_self)
 have hlt := (Array.getElem?_eq_some_iff.1 hb).1
 have hr := run_mapup (P := C.P) (v := v) (s := s) ht hk hb
 refine upon_skip (w' := { w with heap := w.heap.setIfInBounds b (mapO (kvPut kvs s v)) }) ?_ ⟨undef, h, L', ⟨rfl, rfl, rfl⟩, rfl, ?_⟩
 ·rcases ho with ho | ho <;> (simp only [execOp, ho, e1, e2, e3]; rw [Sem.run_bind, hr]; rfl)
 ·refine hm.swap p rfl (fun c hc => .inl (by cases hc; rfl)) ?_ rfl rfl rfl (by simp) (Nat.le_refl _) (fun j _ hj => by simp [Array.getElem?_setIfInBounds_ne (Ne.symm hj)])
  show (w.heap.setIfInBounds b _)[b]? = _
  rw [Array.getElem?_setIfInBounds_self_of_lt hlt]
theorem run_mapup1 {t k e : TypeId} {b : Nat} {s : ByteArray} {kvs : List (ByteArray × Value)} (ho : ops[i]? = some o) (hop : o.op = .mapUpdate t x y z ∨ o.op = .insert t x y z) (hg : o.guard = none) (hd : o.dst = none) (hx : evF F x = some (.map (some b))) (hy : evF F y = some (.string s)) (hz : evF F z = some v) (ht : C.P.underlying t = some (.map k e)) (hk : C.P.underlying k = some .string)
 (p : Swap (.obj b (mapO kvs)) (.obj b (mapO (kvPut kvs s v))) L L') (kk : Run dr C ops K r ⟨F, h, L'⟩) : Run dr C ops K (i :: r) ⟨F, h, L⟩ := by
 have hc : cls o = 3 := by rcases hop with hop | hop <;> simp [cls, hop]
 exact run_hard ho hg (dst_no hd) (by rw [hc]; rfl) _ (frm_st fun M => h_mapup hop hx hy hz ht hk (p.append M)) fun _ _ _ ⟨e1, e2, e3⟩ => by subst e1 e2 e3; rw [hd]; exact ⟨(fun _ hc' => by rw [hc] at hc'; cases hc'), kk⟩
end
end Go.Tal

namespace Go.Tal
open Go.RowKit Go.Proofs Go.Proofs.Tryz _root_.Tal
/-- The entries of a set of symmetries. -/
def symE (p : Value × Sy) : ByteArray × Value := (strOfNums (keyL p.2.1 p.2.2), .agg #[p.1, .bool p.2.2])
def symKV (l : List (Value × Sy)) : List (ByteArray × Value) := l.map symE
/-- Its elements' cells are read. -/
def SetOk (h : H) (l : List (Value × Sy)) : Prop := ∀ p ∈ l, RdI h p.1 p.2.1
theorem SetOk.mono {h h' : H} {l : List (Value × Sy)} (r : SetOk h l) (hh : ∀ b o, h b = some o → h' b = some o) : SetOk h' l := fun p hp => (r p hp).mono hh
theorem kvGet_set {h : H} {l : List (Value × Sy)} (hl : SetOk h l) (s : ByteArray) : ∃ sv c, (kvGet (symKV l) s).getD (.agg #[.slice none 0 0, .bool false]) = .agg #[sv, .bool c] ∧ sv.oneCell' = true := by
 unfold kvGet symKV
 cases h1 : (l.map symE).find? (fun p => s == p.1) with
 | none => exact ⟨.slice none 0 0, false, rfl, rfl⟩
 | some q =>
  obtain ⟨p, hp, rfl⟩ := List.mem_map.1 (List.mem_of_find?_eq_some h1)
  exact ⟨p.1, p.2.2, rfl, (hl p hp).one⟩
def hasI (l : List (Value × Sy)) (a : List Int) (cm : Bool) : Bool := (kvGet (symKV l) (strOfNums (keyL a cm))).isSome
set_option maxRecDepth 8000 in
theorem has_fn (l : List (Value × Sy)) (a : List Int) (cm : Bool) (m : Nat) (va : Value) (h : H) (hl : SetOk h l) (ha : RdI h va a) : FnM Tryz.prog 121 #[.map (some m), .agg #[va, .bool cm]] h [.obj m (mapO (symKV l))] fun v _ L => v = .bool (hasI l a cm) ∧ L = [.obj m (mapO (symKV l))] := by
 refine fnM_of (vs := [.map (some m), .agg #[va, .bool cm]]) func121 rfl ntmps121 (Nat.le_of_ble_eq_true rfl) fun w hw => ?_
 apply wp_seq'
 refine wp_text rfl ?_
 refine run_box rfl rfl rfl rfl rfl rfl rfl fun b1 => ?_
 refine rm rfl ?_
 apply run_end
 apply wp_seq'
 refine wp_text rfl ?_
 refine rm rfl ?_
 refine rs rfl (s_ld2 rfl rfl isAgg112 sizeOf112 (.o_ rfl) (.o_ rfl)) ?_
 refine run_callv (vs := [_]) rfl rfl rfl rfl rfl rfl en123 (key_fn _ _ _ _ ha) ?_
 refine rs rfl (s_look rfl rfl rfl underlying115 underlying9 zeroValue112 (.own (by repeat first|exact MH _|apply MT))) ?_
 obtain ⟨sv, sc, hse, hso⟩ := kvGet_set hl (strOfNums (keyL a cm))
 rw [hse]
 refine rm rfl ?_
 refine rs rfl (s_extract rfl rfl rfl) ?_
 refine rs rfl (s_extract rfl rfl rfl) ?_
 refine run_alloc rfl rfl rfl rfl rfl zeroValue112 rfl fun b2 => ?_
 refine run_st2 rfl rfl rfl rfl rfl rfl (by first | rfl | assumption | exact RdI.one (by assumption)) rfl sizeOf112 (by repeat first|exact Swap.here|apply Swap.there) rfl ?_
 refine rm rfl ?_
 apply run_end
 apply wp_seq'
 refine wp_text rfl ?_
 refine rm rfl ?_
 refine rm rfl ?_
 apply run_end
 apply wp_ret'
 exact finM_ret [.obj m (mapO (symKV l))] (res_tmp rfl rfl) ⟨_, .refl _, by repeat (first|exact NS _|exact SR _|apply SCC|apply SC)⟩ (⟨rfl, rfl⟩)
end Go.Tal

namespace Go.Tal
open Go.RowKit Go.Proofs Go.Proofs.Tryz _root_.Tal
def rangeI (f : List Int) : Int := whenI (f.any farI) 3
theorem rangeI_drop {f : List Int} {i : Nat} (hi : i < f.length) : rangeI (f.drop i) = if farI (f.getD i 0) = true then 3 else rangeI (f.drop (i + 1)) := by
 rw [List.drop_eq_getElem_cons hi]
 simp only [rangeI, List.any_cons, List.getD_eq_getElem?_getD, List.getElem?_eq_getElem hi, Option.getD_some]
 cases farI f[i] <;> simp [whenI]
def rfillI (f : List Int) : Int := bif decide (256 < (f.length : Int)) then 5 else rangeI f
def longI (f : List Int) : Bool := (decide (16 < (f.length : Int)) && decide ((f.length : Int) < 250)) || decide (260 < (f.length : Int))
set_option maxRecDepth 8000 in
theorem lwhen_fn (b : Bool) (e : Int) (h : H) : FnV Tryz.prog 37 #[.bool b, .int .i64 e] h (.int .i64 (whenI b e)) := by
 refine fn_of (vs := [.bool b, .int .i64 e]) func37 rfl ntmps37 (Nat.le_of_ble_eq_true rfl) fun w hw => ?_
 apply wp_seq'
 refine wp_text rfl ?_
 refine rm rfl ?_
 apply run_end
 apply wp_seq'
 apply wp_seq'
 refine wp_text rfl ?_
 refine rm rfl ?_
 apply run_end
 refine wp_cond' rfl (fun hc5 => ?_) (fun hc5 => ?_)
 ·skip
  apply wp_seq'
  refine wp_text rfl ?_
  refine rm rfl ?_
  refine rm rfl ?_
  apply run_end
  apply wp_ret'
  exact fin_ret (res_tmp rfl rfl) (by rw [hc5]; rfl)
 ·skip
  apply wp_skip'
  apply wp_seq'
  refine wp_text rfl ?_
  refine rm rfl ?_
  apply run_end
  apply wp_ret'
  exact fin_ret (res_tmp rfl rfl) (by rw [hc5]; rfl)
set_option maxRecDepth 8000 in
theorem rcells_fn (c : Int) (h : H) : FnV Tryz.prog 25 #[.int .i64 c] h (.int .i64 (cellsI c)) := by
 refine fn_of (vs := [.int .i64 c]) func25 rfl ntmps25 (Nat.le_of_ble_eq_true rfl) fun w hw => ?_
 apply wp_seq'
 refine wp_text rfl ?_
 refine rm rfl ?_
 apply run_end
 apply wp_seq'
 apply wp_seq'
 refine wp_text rfl ?_
 refine rm rfl ?_
 refine rs rfl (s_lt rfl rfl rfl) ?_
 refine rm rfl ?_
 refine run_cases (t := 5) rfl (fun hg5 => ?_) (fun hg5 => ?_)
 ·skip
  refine run_skip rfl rfl rfl rfl rfl rfl rfl ?_
  refine run_skip rfl rfl rfl rfl rfl rfl rfl ?_
  refine rs rfl (s_pick rfl rfl (fun _ => rfl) (fun h => by cases h)) ?_
  apply run_end
  refine wp_cond' (b := true) rfl (fun _ => ?_) (fun h => by cases h)
  apply wp_seq'
  refine wp_text rfl ?_
  refine rm rfl ?_
  apply run_end
  apply wp_ret'
  exact fin_ret (res_tmp rfl rfl) (by rw [cellsI, whenI, decide_eq_true hg5]; rfl)
 ·skip
  refine rsg rfl rfl (s_move rfl rfl) ?_
  refine rsg rfl rfl (s_gt rfl rfl rfl) ?_
  refine rs rfl (s_pick rfl rfl (fun h => by cases h) (fun _ => rfl)) ?_
  apply run_end
  refine wp_if' rfl (fun hc8 => ?_) (fun hc8 => ?_)
  ·skip
   apply wp_seq'
   refine wp_text rfl ?_
   refine rm rfl ?_
   apply run_end
   apply wp_ret'
   exact fin_ret (res_tmp rfl rfl) (by rw [cellsI, whenI, decide_eq_true hc8, Bool.or_true]; rfl)
  ·skip
   apply wp_skip'
   apply wp_seq'
   refine wp_text rfl ?_
   refine rm rfl ?_
   apply run_end
   apply wp_ret'
   exact fin_ret (res_tmp rfl rfl) (by rw [cellsI, whenI, decide_eq_false hg5, decide_eq_false hc8]; rfl)
set_option maxRecDepth 8000 in
theorem range_fn (f : List Int) (v : Value) (h : H) (hl : RdI h v f) : FnV Tryz.prog 59 #[v] h (.int .i64 (rangeI f)) := by
 have hlm := hl.len
 refine fn_of (vs := [v]) func59 rfl ntmps59 (Nat.le_of_ble_eq_true rfl) fun w hw => ?_
 apply wp_seq'
 refine wp_text rfl ?_
 refine rm rfl ?_
 apply run_end
 apply wp_seq'
 apply wp_seq'
 refine wp_text rfl ?_
 refine rm rfl ?_
 apply run_end
 apply wp_block'
 refine wp_loop' (fun i : Nat => i ≤ f.length ∧ rangeI (f.drop i) = rangeI f) (fun i => ⟨[(3, .int .i64 i), (0, v)], h, []⟩) (fun i => f.length - i) 0 ⟨Nat.zero_le _, by simp⟩ ⟨by repeat (first|exact True.intro|refine And.intro rfl ?_), rfl, by repeat (first|exact NS _|exact SR _|apply SCC|apply SC)⟩ fun i hi => ?_
 obtain ⟨hi, hp⟩ := hi
 apply wp_seq'
 apply wp_seq'
 refine wp_text rfl ?_
 refine rm rfl ?_
 refine rm rfl ?_
 refine rs rfl (s_lenI hl rfl rfl underlying35) ?_
 refine rs rfl (s_lt rfl rfl rfl) ?_
 apply run_end
 refine wp_if' rfl (fun hc7 => ?_) (fun hc7 => ?_)
 ·skip
  apply wp_skip'
  apply wp_seq'
  apply wp_block'
  apply wp_seq'
  refine wp_text rfl ?_
  refine rm rfl ?_
  refine rm rfl ?_
  refine rs rfl (s_iaI hl (by omega) (by omega) rfl rfl rfl underlying35 sizeOf3) ?_
  refine rs rfl (s_ldI hl (by omega) (by omega) rfl rfl isAgg3) ?_
  try simp only [Int.toNat_natCast]
  refine rs rfl (s_lt rfl rfl rfl) ?_
  refine rm rfl ?_
  refine run_cases (t := 15) rfl (fun hg15 => ?_) (fun hg15 => ?_)
  ·skip
   refine run_skip rfl rfl rfl rfl rfl rfl rfl ?_
   refine run_skip rfl rfl rfl rfl rfl rfl rfl ?_
   refine run_skip rfl rfl rfl rfl rfl rfl rfl ?_
   refine run_skip rfl rfl rfl rfl rfl rfl rfl ?_
   refine run_skip rfl rfl rfl rfl rfl rfl rfl ?_
   refine rs rfl (s_pick rfl rfl (fun _ => rfl) (fun h => by cases h)) ?_
   apply run_end
   refine wp_cond' (b := true) rfl (fun _ => ?_) (fun h => by cases h)
   apply wp_seq'
   refine wp_text rfl ?_
   refine rm rfl ?_
   apply run_end
   apply wp_ret'
   exact fin_ret (res_tmp rfl rfl) (by rw [← hp, rangeI_drop (i := i) (by omega), if_pos (by simp_all [farI])])
  ·skip
   refine rsg rfl rfl (s_move rfl rfl) ?_
   refine rsg rfl rfl (s_move rfl rfl) ?_
   refine rsg rfl rfl (s_iaI hl (by omega) (by omega) rfl rfl rfl underlying35 sizeOf3) ?_
   refine rsg rfl rfl (s_ldI hl (by omega) (by omega) rfl rfl isAgg3) ?_
   try simp only [Int.toNat_natCast]
   refine rsg rfl rfl (s_gt rfl rfl rfl) ?_
   refine rs rfl (s_pick rfl rfl (fun h => by cases h) (fun _ => rfl)) ?_
   apply run_end
   refine wp_if' rfl (fun hc21 => ?_) (fun hc21 => ?_)
   ·skip
    apply wp_seq'
    refine wp_text rfl ?_
    refine rm rfl ?_
    apply run_end
    apply wp_ret'
    exact fin_ret (res_tmp rfl rfl) (by rw [← hp, rangeI_drop (i := i) (by omega), if_pos (by simp_all [farI])])
   ·skip
    apply wp_skip'
    refine wp_text rfl ?_
    refine rm rfl ?_
    refine rs rfl (s_add rfl rfl rfl (IntWalk.i64_in _ (by omega))) ?_
    refine rm rfl ?_
    apply run_end
    exact ⟨i + 1, ⟨by omega, by rw [← hp, rangeI_drop (i := i) (by omega), if_neg (by first | (simp_all [farI]; done) | (simp_all [farI]; omega))]⟩, by omega, ⟨by repeat (first|exact True.intro|refine And.intro rfl ?_), rfl, by repeat (first|exact NS _|exact SR _|apply SCC|apply SC)⟩⟩
 ·skip
  apply wp_exit'
  apply wp_seq'
  refine wp_text rfl ?_
  refine rm rfl ?_
  apply run_end
  apply wp_ret'
  exact fin_ret (res_tmp rfl rfl) (by rw [← hp, List.drop_eq_nil_of_le (by omega)]; rfl)
set_option maxRecDepth 8000 in
theorem rfill_fn (f : List Int) (v : Value) (h : H) (hl : RdI h v f) : FnV Tryz.prog 57 #[v] h (.int .i64 (rfillI f)) := by
 refine fn_of (vs := [v]) func57 rfl ntmps57 (Nat.le_of_ble_eq_true rfl) fun w hw => ?_
 apply wp_seq'
 refine wp_text rfl ?_
 refine rm rfl ?_
 apply run_end
 apply wp_seq'
 apply wp_seq'
 refine wp_text rfl ?_
 refine rm rfl ?_
 refine rs rfl (s_lenI hl rfl rfl underlying35) ?_
 refine rs rfl (s_gt rfl rfl rfl) ?_
 apply run_end
 refine wp_if' rfl (fun hc5 => ?_) (fun hc5 => ?_)
 ·skip
  apply wp_seq'
  refine wp_text rfl ?_
  refine rm rfl ?_
  apply run_end
  apply wp_ret'
  exact fin_ret (res_tmp rfl rfl) (by rw [rfillI, show decide (256 < (f.length : Int)) = true from by simpa using hc5]; rfl)
 ·skip
  apply wp_skip'
  apply wp_seq'
  refine wp_text rfl ?_
  refine rm rfl ?_
  refine run_callv (vs := [_]) rfl rfl rfl rfl rfl rfl en59 (range_fn _ _ _ hl) ?_
  refine rm rfl ?_
  apply run_end
  apply wp_ret'
  exact fin_ret (res_tmp rfl rfl) (by rw [rfillI, show decide (256 < (f.length : Int)) = false from by simpa using hc5]; rfl)
set_option maxRecDepth 8000 in
theorem long_fn (f : List Int) (v : Value) (h : H) (hl : RdI h v f) : FnV Tryz.prog 51 #[v] h (.bool (longI f)) := by
 refine fn_of (vs := [v]) func51 rfl ntmps51 (Nat.le_of_ble_eq_true rfl) fun w hw => ?_
 apply wp_seq'
 refine wp_text rfl ?_
 refine rm rfl ?_
 apply run_end
 apply wp_seq'
 refine wp_text rfl ?_
 refine rm rfl ?_
 refine rs rfl (s_lenI hl rfl rfl underlying35) ?_
 refine rs rfl (s_gt rfl rfl rfl) ?_
 refine rm rfl ?_
 refine run_cases (t := 6) rfl (fun hg6 => ?_) (fun hg6 => ?_)
 ·skip
  refine rsg rfl rfl (s_move rfl rfl) ?_
  refine rsg rfl rfl (s_lenI hl rfl rfl underlying35) ?_
  refine rsg rfl rfl (s_lt rfl rfl rfl) ?_
  refine rs rfl (s_pick rfl rfl (fun _ => rfl) (fun h => by cases h)) ?_
  refine rm rfl ?_
  refine run_cases (t := 11) rfl (fun hg11 => ?_) (fun hg11 => ?_)
  ·skip
   refine run_skip rfl rfl rfl rfl rfl rfl rfl ?_
   refine run_skip rfl rfl rfl rfl rfl rfl rfl ?_
   refine run_skip rfl rfl rfl rfl rfl rfl rfl ?_
   refine rs rfl (s_pick rfl rfl (fun _ => rfl) (fun h => by cases h)) ?_
   refine rm rfl ?_
   apply run_end
   apply wp_ret'
   exact fin_ret (res_tmp rfl rfl) (by first | (simp_all [longI]; done) | (simp_all [longI]; omega))
  ·skip
   refine rsg rfl rfl (s_move rfl rfl) ?_
   refine rsg rfl rfl (s_lenI hl rfl rfl underlying35) ?_
   refine rsg rfl rfl (s_gt rfl rfl rfl) ?_
   refine rs rfl (s_pick rfl rfl (fun h => by cases h) (fun _ => rfl)) ?_
   refine rm rfl ?_
   apply run_end
   apply wp_ret'
   exact fin_ret (res_tmp rfl rfl) (by first | (simp_all [longI]; done) | (simp_all [longI]; omega))
 ·skip
  refine run_skip rfl rfl rfl rfl rfl rfl rfl ?_
  refine run_skip rfl rfl rfl rfl rfl rfl rfl ?_
  refine run_skip rfl rfl rfl rfl rfl rfl rfl ?_
  refine rs rfl (s_pick rfl rfl (fun h => by cases h) (fun _ => rfl)) ?_
  refine rm rfl ?_
  refine rsg rfl rfl (s_move rfl rfl) ?_
  refine rsg rfl rfl (s_lenI hl rfl rfl underlying35) ?_
  refine rsg rfl rfl (s_gt rfl rfl rfl) ?_
  refine rs rfl (s_pick rfl rfl (fun h => by cases h) (fun _ => rfl)) ?_
  refine rm rfl ?_
  apply run_end
  apply wp_ret'
  exact fin_ret (res_tmp rfl rfl) (by first | (simp_all [longI]; done) | (simp_all [longI]; omega))
set_option maxRecDepth 8000 in
theorem lfirst_fn (l : List Int) (v : Value) (h : H) (hl : RdI h v l) : FnV Tryz.prog 41 #[v] h (.int .i64 (firstI l)) := by
 have hlm := hl.len
 refine fn_of (vs := [v]) func41 rfl ntmps41 (Nat.le_of_ble_eq_true rfl) fun w hw => ?_
 apply wp_seq'
 refine wp_text rfl ?_
 refine rm rfl ?_
 apply run_end
 apply wp_seq'
 apply wp_seq'
 refine wp_text rfl ?_
 refine rm rfl ?_
 apply run_end
 apply wp_block'
 refine wp_loop' (fun i : Nat => i ≤ l.length ∧ firstI (l.drop i) = firstI l) (fun i => ⟨[(3, .int .i64 i), (0, v)], h, []⟩) (fun i => l.length - i) 0 ⟨Nat.zero_le _, by simp⟩ ⟨by repeat (first|exact True.intro|refine And.intro rfl ?_), rfl, by repeat (first|exact NS _|exact SR _|apply SCC|apply SC)⟩ fun i hi => ?_
 obtain ⟨hi, hp⟩ := hi
 apply wp_seq'
 apply wp_seq'
 refine wp_text rfl ?_
 refine rm rfl ?_
 refine rm rfl ?_
 refine rs rfl (s_lenI hl rfl rfl underlying35) ?_
 refine rs rfl (s_lt rfl rfl rfl) ?_
 apply run_end
 refine wp_if' rfl (fun hc7 => ?_) (fun hc7 => ?_)
 ·skip
  apply wp_skip'
  apply wp_seq'
  apply wp_block'
  apply wp_seq'
  refine wp_text rfl ?_
  refine rm rfl ?_
  refine rm rfl ?_
  refine rs rfl (s_iaI hl (by omega) (by omega) rfl rfl rfl underlying35 sizeOf3) ?_
  refine rs rfl (s_ldI hl (by omega) (by omega) rfl rfl isAgg3) ?_
  try simp only [Int.toNat_natCast]
  refine rs rfl (s_ne rfl rfl rfl) ?_
  apply run_end
  refine wp_if' rfl (fun hc14 => ?_) (fun hc14 => ?_)
  ·skip
   apply wp_seq'
   refine wp_text rfl ?_
   refine rm rfl ?_
   refine rm rfl ?_
   refine rs rfl (s_iaI hl (by omega) (by omega) rfl rfl rfl underlying35 sizeOf3) ?_
   refine rs rfl (s_ldI hl (by omega) (by omega) rfl rfl isAgg3) ?_
   try simp only [Int.toNat_natCast]
   refine rm rfl ?_
   apply run_end
   apply wp_ret'
   exact fin_ret (res_tmp rfl rfl) (by rw [← hp, firstI_drop (i := i) (by omega), if_neg hc14])
  ·skip
   apply wp_skip'
   refine wp_text rfl ?_
   refine rm rfl ?_
   refine rs rfl (s_add rfl rfl rfl (IntWalk.i64_in _ (by omega))) ?_
   refine rm rfl ?_
   apply run_end
   exact ⟨i + 1, ⟨by omega, by rw [← hp, firstI_drop (i := i) (by omega), if_pos (Decidable.not_not.1 hc14)]⟩, by omega, ⟨by repeat (first|exact True.intro|refine And.intro rfl ?_), rfl, by repeat (first|exact NS _|exact SR _|apply SCC|apply SC)⟩⟩
 ·skip
  apply wp_exit'
  apply wp_seq'
  refine wp_text rfl ?_
  refine rm rfl ?_
  apply run_end
  apply wp_ret'
  exact fin_ret (res_tmp rfl rfl) (by rw [← hp, List.drop_eq_nil_of_le (by omega)]; rfl)
end Go.Tal

namespace Go.Tal
open Go.RowKit Go.Proofs Go.Proofs.Tryz _root_.Tal
def rsymI (a : List Int) (c : Int) : Int := bif decide (cellsI c ≠ 0) then 3 else bif decide ((a.length : Int) ≠ c) then 2 else permI a
theorem rsymI_eq (a : List Int) (c : Int) : rsymI a c = symI a c ∨ (256 < a.length) := by
 rcases Nat.lt_or_ge 256 a.length with h | h
 ·exact .inr h
 ·left
  have hc : cellsI c = 0 ∨ cellsI c = 3 := by unfold cellsI whenI; cases (decide (c < 0) || decide (256 < c)) <;> simp
  have hp : permI a = whenI (!isPerm a) 14 := by
   have h1 := permI_eq a
   unfold permI at h1 ⊢
   have h2 : decide (256 < a.length) = false := by simpa using h
   rw [h2] at h1 ⊢
   simp only [cond_false] at h1 ⊢
   cases h3 : permLoop a.length a (List.replicate a.length false) with
   | true => rw [h3] at h1; simp at h1; rw [h1]; rfl
   | false => rw [h3] at h1; simp at h1; rw [h1]; rfl
  unfold rsymI symI
  rw [hp]
  rcases hc with hc | hc
  ·rw [hc]
   by_cases e : (a.length : Int) = c
   ·simp [e, firstI, whenI]
    cases isPerm a <;> simp
   ·simp [e, firstI, whenI]
  ·rw [hc]; simp [firstI]
set_option maxRecDepth 8000 in
theorem rperm_fn (l : List Int) (v : Value) (h : H) (hl : RdI h v l) : FnV Tryz.prog 93 #[v] h (.int .i64 (permI l)) := by
 have hlm : l.length ≤ 4294967296 := by obtain ⟨_, _, _, h1, _⟩ := hl; exact h1
 refine fn_of (vs := [v]) func93 rfl ntmps93 (Nat.le_of_ble_eq_true rfl) fun w hw => ?_
 apply wp_seq'
 refine wp_text rfl ?_
 refine rm rfl ?_
 apply run_end
 apply wp_seq'
 apply wp_seq'
 refine wp_text rfl ?_
 refine rm rfl ?_
 refine rs rfl (s_lenI hl rfl rfl underlying35) ?_
 refine rs rfl (s_gt rfl rfl rfl) ?_
 apply run_end
 refine wp_if' rfl (fun hc7 => ?_) (fun hc7 => ?_)
 ·skip
  have e8 : decide (256 < l.length) = true := by simp; omega
  apply wp_seq'
  refine wp_text rfl ?_
  refine rm rfl ?_
  apply run_end
  apply wp_ret'
  exact fin_ret (res_tmp rfl rfl) (by simp [permI, e8])
 ·skip
  have e8 : decide (256 < l.length) = false := by simp; omega
  apply wp_skip'
  apply wp_seq'
  refine wp_text rfl ?_
  refine rm rfl ?_
  refine rs rfl (s_lenI hl rfl rfl underlying35) ?_
  refine run_mksl rfl rfl rfl rfl rfl rfl rfl underlying108 info4 rfl (by omega) (by omega) fun b1 => ?_
  refine rm rfl ?_
  apply run_end
  apply wp_seq'
  apply wp_seq'
  refine wp_text rfl ?_
  refine rm rfl ?_
  apply run_end
  apply wp_block'
  rw [← List.map_replicate (f := Value.bool)]
  refine wp_loop' (fun i : Nat × List Bool => i.1 ≤ l.length ∧ i.2.length = l.length ∧ permLoop l.length (l.drop i.1) i.2 = permLoop l.length l (List.replicate l.length false)) (fun i => ⟨[(4, .int .i64 i.1), (3, .slice (some ⟨b1, 0, none⟩) l.length l.length), (0, v)], h, [.row (.slice (some ⟨b1, 0, none⟩) l.length l.length) 4 1 l.length (i.2.map Value.bool)]⟩) (fun i => l.length - i.1) (0, List.replicate l.length false) ⟨Nat.zero_le _, by simp, by simp⟩ ⟨by repeat (first|exact True.intro|refine And.intro rfl ?_), rfl, by repeat (first|exact NS _|exact SR _|apply SCC|apply SC)⟩ fun i hi => ?_
  obtain ⟨i, sn⟩ := i
  obtain ⟨hi, hs, hp⟩ := hi
  dsimp only at hi hs hp ⊢
  apply wp_seq'
  apply wp_seq'
  refine wp_text rfl ?_
  refine rm rfl ?_
  refine rm rfl ?_
  refine rs rfl (s_lenI hl rfl rfl underlying35) ?_
  refine rs rfl (s_lt rfl rfl rfl) ?_
  apply run_end
  refine wp_if' rfl (fun hc14 => ?_) (fun hc14 => ?_)
  ·skip
   apply wp_skip'
   apply wp_seq'
   apply wp_block'
   apply wp_seq'
   apply wp_seq'
   refine wp_text rfl ?_
   refine rm rfl ?_
   refine rm rfl ?_
   refine rs rfl (s_iaI hl (by omega) (by omega) rfl rfl rfl underlying35 sizeOf3) ?_
   try simp only
   refine rs rfl (s_ldI hl (by omega) (by omega) rfl rfl isAgg3) ?_
   try simp only [Int.toNat_natCast]
   refine rs rfl (s_lt rfl rfl rfl) ?_
   refine rm rfl ?_
   refine run_cases (t := 22) rfl (fun hg22 => ?_) (fun hg22 => ?_)
   ·skip
    refine run_skip rfl rfl rfl rfl rfl rfl rfl ?_
    refine run_skip rfl rfl rfl rfl rfl rfl rfl ?_
    refine run_skip rfl rfl rfl rfl rfl rfl rfl ?_
    refine run_skip rfl rfl rfl rfl rfl rfl rfl ?_
    refine run_skip rfl rfl rfl rfl rfl rfl rfl ?_
    refine run_skip rfl rfl rfl rfl rfl rfl rfl ?_
    refine run_skip rfl rfl rfl rfl rfl rfl rfl ?_
    refine rs rfl (s_pick rfl rfl (fun _ => rfl) (fun h => by cases h)) ?_
    refine rm rfl ?_
    refine run_skip rfl rfl rfl rfl rfl rfl rfl ?_
    refine run_skip rfl rfl rfl rfl rfl rfl rfl ?_
    refine run_skip rfl rfl rfl rfl rfl rfl rfl ?_
    refine run_skip rfl rfl rfl rfl rfl rfl rfl ?_
    refine run_skip rfl rfl rfl rfl rfl rfl rfl ?_
    refine run_skip rfl rfl rfl rfl rfl rfl rfl ?_
    refine run_skip rfl rfl rfl rfl rfl rfl rfl ?_
    refine rs rfl (s_pick rfl rfl (fun _ => rfl) (fun h => by cases h)) ?_
    apply run_end
    refine wp_cond' (b := true) rfl (fun _ => ?_) (fun h => by cases h)
    apply wp_seq'
    refine wp_text rfl ?_
    refine rm rfl ?_
    apply run_end
    apply wp_ret'
    exact fin_ret (res_tmp rfl rfl) (by rw [permI, ← hp, permLoop_step (l := l) (i := i) (by omega), if_pos (by simp_all)]; simp [e8])
   ·skip
    refine rsg rfl rfl (s_move rfl rfl) ?_
    refine rsg rfl rfl (s_move rfl rfl) ?_
    refine rsg rfl rfl (s_iaI hl (by omega) (by omega) rfl rfl rfl underlying35 sizeOf3) ?_
    refine rsg rfl rfl (s_ldI hl (by omega) (by omega) rfl rfl isAgg3) ?_
    try simp only [Int.toNat_natCast]
    refine rsg rfl rfl (s_move rfl rfl) ?_
    refine rsg rfl rfl (s_lenI hl rfl rfl underlying35) ?_
    refine rsg rfl rfl (s_ge rfl rfl rfl) ?_
    refine rs rfl (s_pick rfl rfl (fun h => by cases h) (fun _ => rfl)) ?_
    refine rm rfl ?_
    refine run_cases (t := 31) rfl (fun hg31 => ?_) (fun hg31 => ?_)
    ·skip
     refine run_skip rfl rfl rfl rfl rfl rfl rfl ?_
     refine run_skip rfl rfl rfl rfl rfl rfl rfl ?_
     refine run_skip rfl rfl rfl rfl rfl rfl rfl ?_
     refine run_skip rfl rfl rfl rfl rfl rfl rfl ?_
     refine run_skip rfl rfl rfl rfl rfl rfl rfl ?_
     refine run_skip rfl rfl rfl rfl rfl rfl rfl ?_
     refine run_skip rfl rfl rfl rfl rfl rfl rfl ?_
     refine rs rfl (s_pick rfl rfl (fun _ => rfl) (fun h => by cases h)) ?_
     apply run_end
     refine wp_cond' (b := true) rfl (fun _ => ?_) (fun h => by cases h)
     apply wp_seq'
     refine wp_text rfl ?_
     refine rm rfl ?_
     apply run_end
     apply wp_ret'
     exact fin_ret (res_tmp rfl rfl) (by rw [permI, ← hp, permLoop_step (l := l) (i := i) (by omega), if_pos (by simp_all)]; simp [e8])
    ·skip
     refine rsg rfl rfl (s_move rfl rfl) ?_
     refine rsg rfl rfl (s_move rfl rfl) ?_
     refine rsg rfl rfl (s_move rfl rfl) ?_
     refine rsg rfl rfl (s_iaI hl (by omega) (by omega) rfl rfl rfl underlying35 sizeOf3) ?_
     refine rsg rfl rfl (s_ldI hl (by omega) (by omega) rfl rfl isAgg3) ?_
     try simp only [Int.toNat_natCast]
     refine rsg rfl rfl (s_ia1 rfl rfl rfl underlying108 sizeOf4 (by omega) (by omega)) ?_
     refine rsg rfl rfl (s_ld rfl rfl isAgg4 (.rowM (e := 4) (sz := 1) Value.bool false (by repeat first|exact MH _|apply MT) (by first | omega | (simp; omega)))) ?_
     refine rs rfl (s_pick rfl rfl (fun h => by cases h) (fun _ => rfl)) ?_
     apply run_end
     refine wp_cond' rfl (fun hc39 => ?_) (fun hc39 => ?_)
     ·skip
      apply wp_seq'
      refine wp_text rfl ?_
      refine rm rfl ?_
      apply run_end
      apply wp_ret'
      exact fin_ret (res_tmp rfl rfl) (by rw [permI, ← hp, permLoop_step (l := l) (i := i) (by omega), if_pos (by simp_all)]; simp [e8])
     ·skip
      apply wp_skip'
      refine wp_text rfl ?_
      refine rm rfl ?_
      refine rm rfl ?_
      refine rm rfl ?_
      refine rs rfl (s_iaI hl (by omega) (by omega) rfl rfl rfl underlying35 sizeOf3) ?_
      refine rs rfl (s_ldI hl (by omega) (by omega) rfl rfl isAgg3) ?_
      try simp only [Int.toNat_natCast]
      refine rs rfl (s_ia1 rfl rfl rfl underlying108 sizeOf4 (by omega) (by omega)) ?_
      refine run_strowM Value.bool rfl rfl rfl rfl rfl rfl rfl rfl sizeOf4 (by repeat first|exact Swap.here|apply Swap.there) (by omega) ?_
      apply run_end
      refine wp_text rfl ?_
      refine rm rfl ?_
      refine rs rfl (s_add rfl rfl rfl (IntWalk.i64_in _ (by omega))) ?_
      refine rm rfl ?_
      apply run_end
      exact ⟨(i + 1, sn.set (l.getD i 0).toNat true), ⟨by dsimp only; omega, by simpa using hs, by rw [← hp, permLoop_step (l := l) (i := i) (by omega), if_neg (by rintro (h1 | h1 | h1) <;> first | omega | simp_all)]⟩, by dsimp only; omega, ⟨by repeat (first|exact True.intro|refine And.intro rfl ?_), rfl, by repeat (first|exact NS _|exact SR _|apply SCC|apply SC)⟩⟩
  ·skip
   apply wp_exit'
   apply wp_seq'
   refine wp_text rfl ?_
   refine rm rfl ?_
   apply run_end
   apply wp_ret'
   exact fin_ret (res_tmp rfl rfl) (by rw [permI, ← hp, List.drop_eq_nil_of_le (by omega)]; simp [permLoop, e8])
set_option maxRecDepth 8000 in
theorem rsym_fn (a : List Int) (cm : Bool) (c : Int) (va : Value) (h : H) (hl : RdI h va a) : FnV Tryz.prog 26 #[.agg #[va, .bool cm], .int .i64 c] h (.int .i64 (rsymI a c)) := by
 refine fn_of (vs := [.agg #[va, .bool cm], .int .i64 c]) func26 rfl ntmps26 (Nat.le_of_ble_eq_true rfl) fun w hw => ?_
 apply wp_seq'
 refine wp_text rfl ?_
 refine run_box rfl rfl rfl rfl rfl rfl rfl fun b1 => ?_
 refine rm rfl ?_
 apply run_end
 apply wp_seq'
 apply wp_seq'
 refine wp_text rfl ?_
 refine rm rfl ?_
 refine run_callv (vs := [_]) rfl rfl rfl rfl rfl rfl en25 (rcells_fn _ _) ?_
 refine rs rfl (s_ne rfl rfl rfl) ?_
 apply run_end
 refine wp_if' rfl (fun hc7 => ?_) (fun hc7 => ?_)
 ·skip
  apply wp_seq'
  refine wp_text rfl ?_
  refine rm rfl ?_
  apply run_end
  apply wp_ret'
  exact fin_ret (res_tmp rfl rfl) (by rw [rsymI, decide_eq_true hc7]; rfl)
 ·skip
  apply wp_skip'
  apply wp_seq'
  apply wp_seq'
  refine wp_text rfl ?_
  refine rs rfl (s_fa (off := 0) rfl rfl underlying37 rfl sizeOf35 rfl) ?_
  refine rs rfl (s_ld rfl rfl isAgg35 (.o_ rfl)) ?_
  refine rs rfl (s_lenI hl rfl rfl underlying35) ?_
  refine rm rfl ?_
  refine rs rfl (s_ne rfl rfl rfl) ?_
  apply run_end
  refine wp_if' rfl (fun hc12 => ?_) (fun hc12 => ?_)
  ·skip
   apply wp_seq'
   refine wp_text rfl ?_
   refine rm rfl ?_
   apply run_end
   apply wp_ret'
   exact fin_ret (res_tmp rfl rfl) (by rw [rsymI, decide_eq_false hc7, decide_eq_true hc12]; rfl)
  ·skip
   apply wp_skip'
   apply wp_seq'
   refine wp_text rfl ?_
   refine rs rfl (s_fa (off := 0) rfl rfl underlying37 rfl sizeOf35 rfl) ?_
   refine rs rfl (s_ld rfl rfl isAgg35 (.o_ rfl)) ?_
   refine run_callv (vs := [_]) rfl rfl rfl rfl rfl rfl en93 (rperm_fn _ _ _ hl) ?_
   refine rm rfl ?_
   apply run_end
   apply wp_ret'
   exact fin_ret (res_tmp rfl rfl) (by rw [rsymI, decide_eq_false hc7, decide_eq_false hc12]; rfl)
set_option maxRecDepth 8000 in
theorem alone_fn (a : List Int) (cm : Bool) (va : Value) (h : H) (hl : RdI h va a) : FnV Tryz.prog 61 #[.agg #[va, .bool cm]] h (.int .i64 (rsymI a a.length)) := by
 refine fn_of (vs := [.agg #[va, .bool cm]]) func61 rfl ntmps61 (Nat.le_of_ble_eq_true rfl) fun w hw => ?_
 apply wp_seq'
 refine wp_text rfl ?_
 refine run_box rfl rfl rfl rfl rfl rfl rfl fun b1 => ?_
 refine rm rfl ?_
 apply run_end
 apply wp_seq'
 refine wp_text rfl ?_
 refine rs rfl (s_ld2 rfl rfl isAgg37 sizeOf37 (.o_ rfl) (.o_ rfl)) ?_
 refine rs rfl (s_fa (off := 0) rfl rfl underlying37 rfl sizeOf35 rfl) ?_
 refine rs rfl (s_ld rfl rfl isAgg35 (.o_ rfl)) ?_
 refine rs rfl (s_lenI hl rfl rfl underlying35) ?_
 refine run_callv (vs := [_, _]) rfl rfl rfl rfl rfl rfl en26 (rsym_fn _ _ _ _ _ hl) ?_
 refine rm rfl ?_
 apply run_end
 apply wp_ret'
 exact fin_ret (res_tmp rfl rfl) (rfl)
set_option maxRecDepth 8000 in
theorem rapply_fn (a : List Int) (cm : Bool) (f : List Int) (va vf : Value) (h : H) (ha : RdI h va a) (hf : RdI h vf f) (hp : PermL f.length a) (hr : ∀ i, i < f.length → -999999999 ≤ f.getD i 0 ∧ f.getD i 0 ≤ 999999999) : Fn Tryz.prog 58 #[.agg #[va, .bool cm], vf] h fun v h' => RdI h' v (imgI a cm f) := by
 have hfm := hf.len
 have hal := hp.1
 refine fn_of (vs := [.agg #[va, .bool cm], vf]) func58 rfl ntmps58 (Nat.le_of_ble_eq_true rfl) fun w hw => ?_
 apply wp_seq'
 refine wp_text rfl ?_
 refine run_box rfl rfl rfl rfl rfl rfl rfl fun b1 => ?_
 refine rm rfl ?_
 apply run_end
 apply wp_seq'
 refine wp_text rfl ?_
 refine rm rfl ?_
 refine rs rfl (s_lenI hf rfl rfl underlying35) ?_
 refine run_mksl rfl rfl rfl rfl rfl rfl rfl underlying35 info3 rfl (by omega) (by omega) fun b2 => ?_
 refine rm rfl ?_
 apply run_end
 apply wp_seq'
 apply wp_seq'
 refine wp_text rfl ?_
 refine rm rfl ?_
 apply run_end
 apply wp_block'
 rw [← imgTo_zero a cm f]
 refine wp_loop' (fun i : Nat => i ≤ f.length) (fun i => ⟨[(6, .int .i64 i), (5, .slice (some ⟨b2, 0, none⟩) f.length f.length), (2, .pointer (some ⟨b1, 0, none⟩)), (1, vf)], h, [.row (.slice (some ⟨b2, 0, none⟩) f.length f.length) 3 1 f.length ((imgTo a cm f i).map (Value.int .i64)), .obj b1 (.cells #[va, .bool cm] 37 (0, 0))]⟩) (fun i => f.length - i) 0 (Nat.zero_le _) ⟨by repeat (first|exact True.intro|refine And.intro rfl ?_), rfl, by repeat (first|exact NS _|exact SR _|apply SCC|apply SC)⟩ fun i hi => ?_
 apply wp_seq'
 apply wp_seq'
 refine wp_text rfl ?_
 refine rm rfl ?_
 refine rm rfl ?_
 refine rs rfl (s_lenI hf rfl rfl underlying35) ?_
 refine rs rfl (s_lt rfl rfl rfl) ?_
 apply run_end
 refine wp_if' rfl (fun hc14 => ?_) (fun hc14 => ?_)
 ·skip
  apply wp_skip'
  apply wp_seq'
  apply wp_block'
  apply wp_seq'
  refine wp_text rfl ?_
  refine rm rfl ?_
  refine rm rfl ?_
  refine rs rfl (s_iaI hf (by omega) (by omega) rfl rfl rfl underlying35 sizeOf3) ?_
  refine rs rfl (s_ldI hf (by omega) (by omega) rfl rfl isAgg3) ?_
  try simp only [Int.toNat_natCast]
  have hfi := hr i (by omega)
  have hai := hp.getD_range (i := i) (by omega)
  refine rm rfl ?_
  apply run_end
  apply wp_seq'
  apply wp_seq'
  refine wp_text rfl ?_
  refine rs rfl (s_fa (off := 1) rfl rfl underlying37 rfl sizeOf4 rfl) ?_
  refine rs rfl (s_ld rfl rfl isAgg4 (.o_ rfl)) ?_
  apply run_end
  refine wp_cond' rfl (fun hc22 => ?_) (fun hc22 => ?_)
  ·skip
   refine wp_text rfl ?_
   refine rm rfl ?_
   refine rs rfl (s_lenI hf rfl rfl underlying35) ?_
   refine rs rfl (s_add rfl rfl rfl (IntWalk.i64_in _ (by omega))) ?_
   refine rm rfl ?_
   refine rs rfl (s_sub rfl rfl rfl (IntWalk.i64_in _ (by omega))) ?_
   refine rm rfl ?_
   apply run_end
   refine wp_text rfl ?_
   refine rm rfl ?_
   refine rs rfl (s_fa (off := 0) rfl rfl underlying37 rfl sizeOf35 rfl) ?_
   refine rs rfl (s_ld rfl rfl isAgg35 (.o_ rfl)) ?_
   refine rm rfl ?_
   refine rs rfl (s_iaI ha (by omega) (by omega) rfl rfl rfl underlying35 sizeOf3) ?_
   refine rs rfl (s_ldI ha (by omega) (by omega) rfl rfl isAgg3) ?_
   try simp only [Int.toNat_natCast]
   refine rm rfl ?_
   refine rs rfl (s_ia1 rfl rfl rfl underlying35 sizeOf3 (by omega) (by omega)) ?_
   refine run_strowM (Value.int .i64) rfl rfl rfl rfl rfl rfl rfl rfl sizeOf3 (by repeat first|exact Swap.here|apply Swap.there) (by omega) ?_
   apply run_end
   refine wp_text rfl ?_
   refine rm rfl ?_
   refine rs rfl (s_add rfl rfl rfl (IntWalk.i64_in _ (by omega))) ?_
   refine rm rfl ?_
   apply run_end
   refine ⟨i + 1, by omega, by omega, ⟨by repeat (first|exact True.intro|refine And.intro rfl ?_), rfl, ?_⟩⟩
   rw [imgTo_succ, imgStep]
   simp only at *
   simp only [*, if_true]
   exact List.Sublist.refl _
  ·skip
   apply wp_skip'
   refine wp_text rfl ?_
   refine rm rfl ?_
   refine rs rfl (s_fa (off := 0) rfl rfl underlying37 rfl sizeOf35 rfl) ?_
   refine rs rfl (s_ld rfl rfl isAgg35 (.o_ rfl)) ?_
   refine rm rfl ?_
   refine rs rfl (s_iaI ha (by omega) (by omega) rfl rfl rfl underlying35 sizeOf3) ?_
   refine rs rfl (s_ldI ha (by omega) (by omega) rfl rfl isAgg3) ?_
   try simp only [Int.toNat_natCast]
   refine rm rfl ?_
   refine rs rfl (s_ia1 rfl rfl rfl underlying35 sizeOf3 (by omega) (by omega)) ?_
   refine run_strowM (Value.int .i64) rfl rfl rfl rfl rfl rfl rfl rfl sizeOf3 (by repeat first|exact Swap.here|apply Swap.there) (by omega) ?_
   apply run_end
   refine wp_text rfl ?_
   refine rm rfl ?_
   refine rs rfl (s_add rfl rfl rfl (IntWalk.i64_in _ (by omega))) ?_
   refine rm rfl ?_
   apply run_end
   refine ⟨i + 1, by omega, by omega, ⟨by repeat (first|exact True.intro|refine And.intro rfl ?_), rfl, ?_⟩⟩
   rw [imgTo_succ, imgStep]
   simp only at *
   simp only [*, Bool.false_eq_true, if_false]
   exact List.Sublist.refl _
 ·skip
  apply wp_exit'
  apply wp_seq'
  refine wp_text rfl ?_
  refine rm rfl ?_
  refine rm rfl ?_
  apply run_end
  obtain rfl : i = f.length := by omega
  refine WP.letO rfl (by repeat first|exact Pick.here|apply Pick.there) (by omega) fun h' hh hr => ?_
  apply wp_ret'
  exact fin_ret (res_tmp rfl rfl) (hr)
end Go.Tal

namespace Go.Tal
open Go.RowKit Go.Proofs Go.Proofs.Tryz _root_.Tal
def compL (p q : List Int) : List Int := q.map fun c => p.getD c.toNat 0
def listB (a : List Int) (e bad : Int) (want : List Int) : Bool := bif decide (bad ≠ 0) then decide ((a.length : Int) = 0) && decide (e = bad) else decide (e = 0) && decide (a = want)
def symB (a : Sy) (e bad : Int) (want : Sy) : Bool := bif decide (bad ≠ 0) then (decide ((a.1.length : Int) = 0) && !a.2) && decide (e = bad) else decide (e = 0) && decide (a = want)
theorem b37_01 (A : Option Addr) (n c : Nat) (b : Bool) : ∀ w, (Instr.build 37 #[(0, .slice A n c), (1, .bool b)]).run Tryz.prog w = .ok (.agg #[.slice A n c, .bool b]) w := fun _ => by kernel_rfl
set_option maxRecDepth 8000 in
theorem rcomp_fn (p q : List Int) (v u : Value) (h : H) (hx : RdI h v p) (hy : RdI h u q) (hr : ∀ i, i < q.length → 0 ≤ q.getD i 0 ∧ q.getD i 0 < p.length) : Fn Tryz.prog 144 #[v, u] h fun v h' => RdI h' v (compL p q) := by
 have hxm := hx.len
 have hym := hy.len
 refine fn_of (vs := [v, u]) func144 rfl ntmps144 (Nat.le_of_ble_eq_true rfl) fun w hw => ?_
 apply wp_seq'
 refine wp_text rfl ?_
 refine rm rfl ?_
 apply run_end
 apply wp_seq'
 refine wp_text rfl ?_
 refine rm rfl ?_
 apply run_end
 refine WP.nilrow 3 1 ?_
 apply wp_seq'
 apply wp_seq'
 refine wp_text rfl ?_
 refine rm rfl ?_
 apply run_end
 apply wp_block'
 refine wp_loop' (fun i : Nat × Value => i.1 ≤ q.length) (fun i => ⟨[(6, .int .i64 i.1), (5, i.2), (1, u), (0, v)], h, [.row i.2 3 1 i.1 ((compL p (q.take i.1)).map (Value.int .i64))]⟩) (fun i => q.length - i.1) (0, .slice none 0 0) (Nat.zero_le _) ⟨by repeat (first|exact True.intro|refine And.intro rfl ?_), rfl, by repeat (first|exact NS _|exact SR _|apply SCC|apply SC)⟩ fun i hi => ?_
 obtain ⟨i, s⟩ := i
 dsimp only at hi ⊢
 apply wp_seq'
 apply wp_seq'
 refine wp_text rfl ?_
 refine rm rfl ?_
 refine rm rfl ?_
 refine rs rfl (s_lenI hy rfl rfl underlying35) ?_
 refine rs rfl (s_lt rfl rfl rfl) ?_
 apply run_end
 refine wp_if' rfl (fun hc10 => ?_) (fun hc10 => ?_)
 ·skip
  apply wp_skip'
  apply wp_seq'
  apply wp_block'
  refine wp_text rfl ?_
  refine rm rfl ?_
  refine rm rfl ?_
  refine rm rfl ?_
  refine rm rfl ?_
  refine rs rfl (s_iaI hy (by omega) (by omega) rfl rfl rfl underlying35 sizeOf3) ?_
  refine rs rfl (s_ldI hy (by omega) (by omega) rfl rfl isAgg3) ?_
  try simp only [Int.toNat_natCast]
  have hqi := hr i (by omega)
  refine rs rfl (s_iaI hx (by omega) (by omega) rfl rfl rfl underlying35 sizeOf3) ?_
  refine rs rfl (s_ldI hx (by omega) (by omega) rfl rfl isAgg3) ?_
  try simp only [Int.toNat_natCast]
  refine run_bso (parts := [_]) (vs := [_]) rfl rfl rfl rfl rfl rfl (bs35_1 _) fun b1 => ?_
  refine run_app1 (Value.int .i64) _ rfl rfl rfl rfl rfl rfl rfl underlying35 info3 rfl (fun v' => (by repeat first|exact Swap.here|apply Swap.there)) (by repeat first|exact MH _|apply MT) rfl (by omega) (by decide) fun v1 hv1 => ?_
  refine rm rfl ?_
  apply run_end
  refine wp_text rfl ?_
  refine rm rfl ?_
  refine rs rfl (s_add rfl rfl rfl (IntWalk.i64_in _ (by omega))) ?_
  refine rm rfl ?_
  apply run_end
  refine ⟨(i + 1, v1), by dsimp only; omega, by dsimp only; omega, ⟨by repeat (first|exact True.intro|refine And.intro rfl ?_), rfl, ?_⟩⟩
  dsimp only
  rw [compL, map_take_succ (by omega)]
  repeat (first | exact List.nil_sublist _ | exact List.Sublist.refl _ | apply List.Sublist.cons_cons | apply List.Sublist.cons)
 ·skip
  apply wp_exit'
  apply wp_seq'
  refine wp_text rfl ?_
  refine rm rfl ?_
  refine rm rfl ?_
  apply run_end
  obtain rfl : i = q.length := by omega
  rw [List.take_length]
  refine WP.letO rfl (by repeat first|exact Pick.here|apply Pick.there) (by omega) fun h' hh hr2 => ?_
  apply wp_ret'
  exact fin_ret (res_tmp rfl rfl) (hr2)
set_option maxRecDepth 8000 in
theorem rinv_fn (a : List Int) (va : Value) (h : H) (ha : RdI h va a) (hp : PermL a.length a) : Fn Tryz.prog 141 #[va] h fun v h' => RdI h' v (invTo a a.length) := by
 have ham := ha.len
 refine fn_of (vs := [va]) func141 rfl ntmps141 (Nat.le_of_ble_eq_true rfl) fun w hw => ?_
 apply wp_seq'
 refine wp_text rfl ?_
 refine rm rfl ?_
 apply run_end
 apply wp_seq'
 refine wp_text rfl ?_
 refine rm rfl ?_
 refine rs rfl (s_lenI ha rfl rfl underlying35) ?_
 refine run_mksl rfl rfl rfl rfl rfl rfl rfl underlying35 info3 rfl (by omega) (by omega) fun b1 => ?_
 refine rm rfl ?_
 apply run_end
 apply wp_seq'
 apply wp_seq'
 refine wp_text rfl ?_
 refine rm rfl ?_
 apply run_end
 apply wp_block'
 rw [← invTo_zero a]
 refine wp_loop' (fun i : Nat => i ≤ a.length) (fun i => ⟨[(4, .int .i64 i), (3, .slice (some ⟨b1, 0, none⟩) a.length a.length), (0, va)], h, [.row (.slice (some ⟨b1, 0, none⟩) a.length a.length) 3 1 a.length ((invTo a i).map (Value.int .i64))]⟩) (fun i => a.length - i) 0 (Nat.zero_le _) ⟨by repeat (first|exact True.intro|refine And.intro rfl ?_), rfl, by repeat (first|exact NS _|exact SR _|apply SCC|apply SC)⟩ fun i hi => ?_
 apply wp_seq'
 apply wp_seq'
 refine wp_text rfl ?_
 refine rm rfl ?_
 refine rm rfl ?_
 refine rs rfl (s_lenI ha rfl rfl underlying35) ?_
 refine rs rfl (s_lt rfl rfl rfl) ?_
 apply run_end
 refine wp_if' rfl (fun hc11 => ?_) (fun hc11 => ?_)
 ·skip
  apply wp_skip'
  apply wp_seq'
  apply wp_block'
  refine wp_text rfl ?_
  refine rm rfl ?_
  refine rm rfl ?_
  refine rm rfl ?_
  refine rs rfl (s_iaI ha (by omega) (by omega) rfl rfl rfl underlying35 sizeOf3) ?_
  refine rs rfl (s_ldI ha (by omega) (by omega) rfl rfl isAgg3) ?_
  try simp only [Int.toNat_natCast]
  have hai := hp.getD_range (i := i) (by omega)
  refine rm rfl ?_
  refine rs rfl (s_ia1 rfl rfl rfl underlying35 sizeOf3 (by omega) (by omega)) ?_
  refine run_strowM (Value.int .i64) rfl rfl rfl rfl rfl rfl rfl rfl sizeOf3 (by repeat first|exact Swap.here|apply Swap.there) (by omega) ?_
  apply run_end
  refine wp_text rfl ?_
  refine rm rfl ?_
  refine rs rfl (s_add rfl rfl rfl (IntWalk.i64_in _ (by omega))) ?_
  refine rm rfl ?_
  apply run_end
  refine ⟨i + 1, by omega, by omega, ⟨by repeat (first|exact True.intro|refine And.intro rfl ?_), rfl, ?_⟩⟩
  rw [invTo_succ]
  repeat (first | exact List.nil_sublist _ | exact List.Sublist.refl _ | apply List.Sublist.cons_cons | apply List.Sublist.cons)
 ·skip
  apply wp_exit'
  apply wp_seq'
  refine wp_text rfl ?_
  refine rm rfl ?_
  refine rm rfl ?_
  apply run_end
  obtain rfl : i = a.length := by omega
  refine WP.letI rfl (by repeat first|exact Pick.here|apply Pick.there) (invTo_len _ _) (by omega) fun h' hh hr => ?_
  apply wp_ret'
  exact fin_ret (res_tmp rfl rfl) (hr)
set_option maxRecDepth 8000 in
theorem rcompose_fn (a b : Sym) (va vb : Value) (h : H) (ha : RdI h va a.1) (hb : RdI h vb b.1) (hr : ∀ i, i < b.1.length → 0 ≤ b.1.getD i 0 ∧ b.1.getD i 0 < a.1.length) : Fn Tryz.prog 65 #[.agg #[va, .bool a.2], .agg #[vb, .bool b.2]] h fun v h' => ∃ sv, v = .agg #[sv, .bool (comp a b).2] ∧ RdI h' sv (comp a b).1 := by
 refine fn_of (vs := [.agg #[va, .bool a.2], .agg #[vb, .bool b.2]]) func65 rfl ntmps65 (Nat.le_of_ble_eq_true rfl) fun w hw => ?_
 apply wp_seq'
 refine wp_text rfl ?_
 refine run_box rfl rfl rfl rfl rfl rfl rfl fun b1 => ?_
 refine run_box rfl rfl rfl rfl rfl rfl rfl fun b2 => ?_
 refine run_alloc rfl rfl rfl rfl rfl zeroValue37 rfl fun b3 => ?_
 apply run_end
 apply wp_seq'
 refine wp_any [0, 1, 2, 3, 5, 6, 7, 8, 9, 4, 10, 11] rfl (by kernel_rfl) ?_
 refine rs rfl (s_fa (off := 0) rfl rfl underlying37 rfl sizeOf35 rfl) ?_
 refine rs rfl (s_ld rfl rfl isAgg35 (.o_ rfl)) ?_
 refine rs rfl (s_fa (off := 0) rfl rfl underlying37 rfl sizeOf35 rfl) ?_
 refine rs rfl (s_ld rfl rfl isAgg35 (.o_ rfl)) ?_
 refine rs rfl (s_fa (off := 1) rfl rfl underlying37 rfl sizeOf4 rfl) ?_
 refine rs rfl (s_ld rfl rfl isAgg4 (.o_ rfl)) ?_
 refine rs rfl (s_fa (off := 1) rfl rfl underlying37 rfl sizeOf4 rfl) ?_
 refine rs rfl (s_ld rfl rfl isAgg4 (.o_ rfl)) ?_
 refine rs rfl (s_bne rfl rfl rfl underlying4) ?_
 refine run_call (vs := [_, _]) rfl rfl rfl rfl rfl rfl en144 (rcomp_fn a.1 b.1 va vb _ ha hb hr) ?_
 intro v8 h8 hv8 hh8
 have ha := ha.mono hh8
 have hb := hb.mono hh8
 obtain ⟨A8, c8, rfl⟩ := hv8.slice
 refine rs rfl (s_build2 rfl rfl rfl (b37_01 _ _ _ _)) ?_
 refine run_st2 rfl rfl rfl rfl rfl rfl (by first | rfl | assumption | exact RdI.one (by assumption)) rfl sizeOf37 (by repeat first|exact Swap.here|apply Swap.there) rfl ?_
 apply run_end
 apply wp_ret'
 exact fin_ret (res_cell2 rfl rfl isAgg37 sizeOf37 (.own _ _ _ (by repeat first|exact MH _|apply MT) rfl) (.own _ _ _ (by repeat first|exact MH _|apply MT) rfl)) (⟨_, rfl, hv8⟩)
set_option maxRecDepth 8000 in
theorem rinvert_fn (a : Sym) (va : Value) (h : H) (ha : RdI h va a.1) (hp : PermL a.1.length a.1) : Fn Tryz.prog 63 #[.agg #[va, .bool a.2]] h fun v h' => ∃ sv, v = .agg #[sv, .bool a.2] ∧ RdI h' sv (invTo a.1 a.1.length) := by
 refine fn_of (vs := [.agg #[va, .bool a.2]]) func63 rfl ntmps63 (Nat.le_of_ble_eq_true rfl) fun w hw => ?_
 apply wp_seq'
 refine wp_text rfl ?_
 refine run_box rfl rfl rfl rfl rfl rfl rfl fun b1 => ?_
 refine run_alloc rfl rfl rfl rfl rfl zeroValue37 rfl fun b2 => ?_
 apply run_end
 apply wp_seq'
 refine wp_any [0, 1, 3, 4, 2, 5, 6] rfl (by kernel_rfl) ?_
 refine rs rfl (s_fa (off := 0) rfl rfl underlying37 rfl sizeOf35 rfl) ?_
 refine rs rfl (s_ld rfl rfl isAgg35 (.o_ rfl)) ?_
 refine rs rfl (s_fa (off := 1) rfl rfl underlying37 rfl sizeOf4 rfl) ?_
 refine rs rfl (s_ld rfl rfl isAgg4 (.o_ rfl)) ?_
 refine run_call (vs := [_]) rfl rfl rfl rfl rfl rfl en141 (rinv_fn a.1 va _ ha hp) ?_
 intro v8 h8 hv8 hh8
 have ha := ha.mono hh8
 obtain ⟨A8, c8, rfl⟩ := hv8.slice
 refine rs rfl (s_build2 rfl rfl rfl (b37_01 _ _ _ _)) ?_
 refine run_st2 rfl rfl rfl rfl rfl rfl (by first | rfl | assumption | exact RdI.one (by assumption)) rfl sizeOf37 (by repeat first|exact Swap.here|apply Swap.there) rfl ?_
 apply run_end
 apply wp_ret'
 exact fin_ret (res_cell2 rfl rfl isAgg37 sizeOf37 (.own _ _ _ (by repeat first|exact MH _|apply MT) rfl) (.own _ _ _ (by repeat first|exact MH _|apply MT) rfl)) (⟨_, rfl, hv8⟩)
set_option maxRecDepth 8000 in
theorem list_fn (a : List Int) (e bad : Int) (want : List Int) (v u : Value) (h : H) (hx : RdI h v a) (hy : bad = 0 → RdI h u want) : FnV Tryz.prog 60 #[v, .int .i64 e, .int .i64 bad, u] h (.bool (listB a e bad want)) := by
 refine fn_of (vs := [v, .int .i64 e, .int .i64 bad, u]) func60 rfl ntmps60 (Nat.le_of_ble_eq_true rfl) fun w hw => ?_
 apply wp_seq'
 refine wp_text rfl ?_
 refine rm rfl ?_
 apply run_end
 apply wp_seq'
 apply wp_seq'
 refine wp_text rfl ?_
 refine rm rfl ?_
 refine rs rfl (s_ne rfl rfl rfl) ?_
 apply run_end
 refine wp_if' rfl (fun hc10 => ?_) (fun hc10 => ?_)
 ·skip
  apply wp_seq'
  refine wp_text rfl ?_
  refine rm rfl ?_
  refine rs rfl (s_lenI hx rfl rfl underlying35) ?_
  refine rs rfl (s_eq rfl rfl rfl) ?_
  refine rm rfl ?_
  refine run_cases (t := 14) rfl (fun hg14 => ?_) (fun hg14 => ?_)
  ·skip
   refine rsg rfl rfl (s_move rfl rfl) ?_
   refine rsg rfl rfl (s_move rfl rfl) ?_
   refine rsg rfl rfl (s_eq rfl rfl rfl) ?_
   refine rs rfl (s_pick rfl rfl (fun _ => rfl) (fun h => by cases h)) ?_
   refine rm rfl ?_
   apply run_end
   apply wp_ret'
   exact fin_ret (res_tmp rfl rfl) (by simp_all [listB])
  ·skip
   refine run_skip rfl rfl rfl rfl rfl rfl rfl ?_
   refine run_skip rfl rfl rfl rfl rfl rfl rfl ?_
   refine run_skip rfl rfl rfl rfl rfl rfl rfl ?_
   refine rs rfl (s_pick rfl rfl (fun h => by cases h) (fun _ => rfl)) ?_
   refine rm rfl ?_
   apply run_end
   apply wp_ret'
   exact fin_ret (res_tmp rfl rfl) (by simp_all [listB])
 ·skip
  have hy := hy (Decidable.not_not.1 hc10)
  have hb := Decidable.not_not.1 hc10
  apply wp_skip'
  apply wp_seq'
  refine wp_text rfl ?_
  refine rm rfl ?_
  refine rs rfl (s_eq rfl rfl rfl) ?_
  refine rm rfl ?_
  refine run_cases (t := 21) rfl (fun hg21 => ?_) (fun hg21 => ?_)
  ·skip
   refine rsg rfl rfl (s_move rfl rfl) ?_
   refine rsg rfl rfl (s_move rfl rfl) ?_
   refine run_callvg (vs := [_, _]) rfl rfl rfl rfl rfl rfl rfl rfl en82 (sameI_fn _ _ _ _ _ hx hy) ?_
   refine rs rfl (s_pick rfl rfl (fun _ => rfl) (fun h => by cases h)) ?_
   refine rm rfl ?_
   apply run_end
   apply wp_ret'
   exact fin_ret (res_tmp rfl rfl) (by simp_all [listB])
  ·skip
   refine run_skip rfl rfl rfl rfl rfl rfl rfl ?_
   refine run_skip rfl rfl rfl rfl rfl rfl rfl ?_
   refine run_skip rfl rfl rfl rfl rfl rfl rfl ?_
   refine rs rfl (s_pick rfl rfl (fun h => by cases h) (fun _ => rfl)) ?_
   refine rm rfl ?_
   apply run_end
   apply wp_ret'
   exact fin_ret (res_tmp rfl rfl) (by simp_all [listB])
set_option maxRecDepth 8000 in
theorem symmetry_fn (a : Sy) (e bad : Int) (want : Sy) (v u : Value) (h : H) (hx : RdI h v a.1) (hy : bad = 0 → RdI h u want.1) (_ : u.oneCell' = true) : FnV Tryz.prog 62 #[.agg #[v, .bool a.2], .int .i64 e, .int .i64 bad, .agg #[u, .bool want.2]] h (.bool (symB a e bad want)) := by
 refine fn_of (vs := [.agg #[v, .bool a.2], .int .i64 e, .int .i64 bad, .agg #[u, .bool want.2]]) func62 rfl ntmps62 (Nat.le_of_ble_eq_true rfl) fun w hw => ?_
 apply wp_seq'
 refine wp_text rfl ?_
 refine run_box rfl rfl rfl rfl rfl rfl rfl fun b1 => ?_
 refine run_box rfl rfl rfl rfl rfl rfl rfl fun b2 => ?_
 refine rm rfl ?_
 apply run_end
 apply wp_seq'
 apply wp_seq'
 refine wp_text rfl ?_
 refine rm rfl ?_
 refine rs rfl (s_ne rfl rfl rfl) ?_
 apply run_end
 refine wp_if' rfl (fun hc10 => ?_) (fun hc10 => ?_)
 ·skip
  apply wp_seq'
  refine wp_text rfl ?_
  refine rs rfl (s_fa (off := 0) rfl rfl underlying37 rfl sizeOf35 rfl) ?_
  refine rs rfl (s_ld rfl rfl isAgg35 (.o_ rfl)) ?_
  refine rs rfl (s_lenI hx rfl rfl underlying35) ?_
  refine rs rfl (s_eq rfl rfl rfl) ?_
  refine rm rfl ?_
  refine run_cases (t := 15) rfl (fun hg15 => ?_) (fun hg15 => ?_)
  ·skip
   refine rsg rfl rfl (s_fa (off := 1) rfl rfl underlying37 rfl sizeOf4 rfl) ?_
   refine rsg rfl rfl (s_ld rfl rfl isAgg4 (.o_ rfl)) ?_
   refine rsg rfl rfl (s_not rfl rfl) ?_
   refine rs rfl (s_pick rfl rfl (fun _ => rfl) (fun h => by cases h)) ?_
   refine rm rfl ?_
   refine run_cb (t := 20) rfl (fun hg20 => ?_) (fun hg20 => ?_)
   ·skip
    refine rsg rfl rfl (s_move rfl rfl) ?_
    refine rsg rfl rfl (s_move rfl rfl) ?_
    refine rsg rfl rfl (s_eq rfl rfl rfl) ?_
    refine rs rfl (s_pick rfl rfl (fun _ => rfl) (fun h => by cases h)) ?_
    refine rm rfl ?_
    apply run_end
    apply wp_ret'
    exact fin_ret (res_tmp rfl rfl) (by simp_all [symB])
   ·skip
    refine run_skip rfl rfl rfl rfl rfl rfl rfl ?_
    refine run_skip rfl rfl rfl rfl rfl rfl rfl ?_
    refine run_skip rfl rfl rfl rfl rfl rfl rfl ?_
    refine rs rfl (s_pick rfl rfl (fun h => by cases h) (fun _ => rfl)) ?_
    refine rm rfl ?_
    apply run_end
    apply wp_ret'
    exact fin_ret (res_tmp rfl rfl) (by simp_all [symB])
  ·skip
   refine run_skip rfl rfl rfl rfl rfl rfl rfl ?_
   refine run_skip rfl rfl rfl rfl rfl rfl rfl ?_
   refine run_skip rfl rfl rfl rfl rfl rfl rfl ?_
   refine rs rfl (s_pick rfl rfl (fun h => by cases h) (fun _ => rfl)) ?_
   refine rm rfl ?_
   refine run_skip rfl rfl rfl rfl rfl rfl rfl ?_
   refine run_skip rfl rfl rfl rfl rfl rfl rfl ?_
   refine run_skip rfl rfl rfl rfl rfl rfl rfl ?_
   refine rs rfl (s_pick rfl rfl (fun h => by cases h) (fun _ => rfl)) ?_
   refine rm rfl ?_
   apply run_end
   apply wp_ret'
   exact fin_ret (res_tmp rfl rfl) (by simp_all [symB])
 ·skip
  have hy := hy (Decidable.not_not.1 hc10)
  have hb := Decidable.not_not.1 hc10
  apply wp_skip'
  apply wp_seq'
  refine wp_text rfl ?_
  refine rm rfl ?_
  refine rs rfl (s_eq rfl rfl rfl) ?_
  refine rm rfl ?_
  refine run_cases (t := 27) rfl (fun hg27 => ?_) (fun hg27 => ?_)
  ·skip
   refine rsg rfl rfl (s_ld2 rfl rfl isAgg37 sizeOf37 (.o_ rfl) (.o_ rfl)) ?_
   refine rsg rfl rfl (s_ld2 rfl rfl isAgg37 sizeOf37 (.o_ rfl) (.o_ rfl)) ?_
   refine run_callvg (vs := [_, _]) rfl rfl rfl rfl rfl rfl rfl rfl en30 (sameS_fn _ _ _ _ _ hx hy) ?_
   refine rs rfl (s_pick rfl rfl (fun _ => rfl) (fun h => by cases h)) ?_
   refine rm rfl ?_
   apply run_end
   apply wp_ret'
   exact fin_ret (res_tmp rfl rfl) (by simp_all [symB])
  ·skip
   refine run_skip rfl rfl rfl rfl rfl rfl rfl ?_
   refine run_skip rfl rfl rfl rfl rfl rfl rfl ?_
   refine run_skip rfl rfl rfl rfl rfl rfl rfl ?_
   refine rs rfl (s_pick rfl rfl (fun h => by cases h) (fun _ => rfl)) ?_
   refine rm rfl ?_
   apply run_end
   apply wp_ret'
   exact fin_ret (res_tmp rfl rfl) (by simp_all [symB])
end Go.Tal

namespace Go.Tal
open Go.RowKit Go.Proofs Go.Proofs.Tryz _root_.Tal
set_option maxRecDepth 8000 in
theorem rgcd_fn (a b : Int) (h : H) (ha : 0 ≤ a) (hb : 0 ≤ b) : FnV Tryz.prog 199 #[.int .i64 a, .int .i64 b] h (.int .i64 (gcdI a b)) := by
 refine fn_of (vs := [.int .i64 a, .int .i64 b]) func199 rfl ntmps199 (Nat.le_of_ble_eq_true rfl) fun w hw => ?_
 apply wp_seq'
 refine wp_text rfl ?_
 refine rm rfl ?_
 apply run_end
 apply wp_seq'
 apply wp_block'
 refine wp_loop' (fun i : Int × Int => 0 ≤ i.1 ∧ 0 ≤ i.2 ∧ gcdI i.1 i.2 = gcdI a b) (fun i => ⟨[(1, .int .i64 i.2), (0, .int .i64 i.1)], h, []⟩) (fun i => i.2.natAbs) (a, b) ⟨ha, hb, rfl⟩ ⟨by repeat (first|exact True.intro|refine And.intro rfl ?_), rfl, by repeat (first|exact NS _|exact SR _|apply SCC|apply SC)⟩ fun i hi => ?_
 obtain ⟨x, y⟩ := i
 obtain ⟨hx, hy, hi⟩ := hi
 dsimp only at hx hy hi ⊢
 apply wp_seq'
 apply wp_seq'
 refine wp_text rfl ?_
 refine rm rfl ?_
 refine rs rfl (s_gt rfl rfl rfl) ?_
 apply run_end
 refine wp_if' rfl (fun hc6 => ?_) (fun hc6 => ?_)
 ·skip
  apply wp_skip'
  apply wp_block'
  refine wp_any [0, 1, 2, 3, 4, 5] rfl (by kernel_rfl) ?_
  refine rm rfl ?_
  refine rm rfl ?_
  refine rm rfl ?_
  refine rs rfl (s_rem rfl rfl rfl (by omega) rfl) ?_
  refine rm rfl ?_
  refine rm rfl ?_
  apply run_end
  have hne : y ≠ 0 := by omega
  exact ⟨(y, x.tmod y), ⟨hy, Int.tmod_nonneg _ hx, by rw [← hi]; conv => { rhs; rw [gcdI, dif_neg hne] }⟩, by have := Int.natAbs_tmod x y; have h2 : 0 < y.natAbs := Int.natAbs_pos.2 hne; dsimp only; rw [this]; exact Nat.mod_lt _ h2, ⟨by repeat (first|exact True.intro|refine And.intro rfl ?_), rfl, by repeat (first|exact NS _|exact SR _|apply SCC|apply SC)⟩⟩
 ·skip
  apply wp_exit'
  apply wp_seq'
  refine wp_text rfl ?_
  refine rm rfl ?_
  refine rm rfl ?_
  apply run_end
  apply wp_ret'
  exact fin_ret (res_tmp rfl rfl) (by rw [← hi, show y = 0 from by omega, gcdI, dif_pos rfl])
end Go.Tal

/-
 Symbolic states: ranges over functions: one round of the body.
-/
namespace Go.Tal
open Go.RowKit
theorem wr_in (ro : Option Nat) (l : Nat) : (wr ro).inRound l = wr (some l) := by cases ro <;> rfl
theorem Mem.sub {C : Ctx} {h : H} {L L' : List Own} {w : World} (m : Mem C h L w) (hs : L'.Sublist L) : Mem C h L' w :=
 ⟨m.sat.less ⟨fun _ _ hb => hb, hs⟩, fun x hx => m.new x (hs.subset hx), m.old, m.kp⟩
theorem Mem.putRec {C : Ctx} {h : H} {L : List Own} {l : Nat} {o o' : Obj} {M : List Own} {w : World} (m : Mem C h (L ++ .obj l o :: M) w) : Mem C h (L ++ .obj l o' :: M) (w.putObj l o') := by
 have m1 : Mem C h (.obj l o :: (L ++ M)) w := m.perm List.perm_middle
 have hb : w.heap[l]? = some o := m1.sat.own _ List.mem_cons_self
 have hlt := (Array.getElem?_eq_some_iff.1 hb).1
 have m2 : Mem C h (.obj l o' :: (L ++ M)) (w.putObj l o') := m1.change (b := l) rfl (fun c hc => .inl (by cases hc; rfl)) (World.putObj_heap_same hlt) rfl rfl rfl (by simp [World.putObj]) (Nat.le_refl _) (fun k _ hk => World.putObj_heap_other hk)
 exact m2.perm List.perm_middle.symm
theorem Mem.ctx {C C' : Ctx} {h : H} {L : List Own} {w : World} (h1 : C'.w0 = C.w0) (h2 : C'.h0 = C.h0) (h3 : C'.I = C.I) (m : Mem C h L w) : Mem C' h L w :=
 ⟨m.sat, by rw [h1, h3]; exact m.new, by rw [h1, h2]; exact m.old, by rw [h1, h3]; exact m.kp⟩
/-- How a round's body ends. -/
def RoundEnd (K : H → List Own → Prop) (Kx : Code → H → List Own → Prop) : Exit → S → Prop
 | .normal, s => ∃ L', K s.h L' ∧ ∃ M : List Own, M.Perm L' ∧ M.Sublist s.L
 | .ret, s => ∃ L', Kx .ret s.h L' ∧ ∃ M : List Own, M.Perm L' ∧ M.Sublist s.L
 | .exit id, s => ∃ L', Kx (.exit id) s.h L' ∧ ∃ M : List Own, M.Perm L' ∧ M.Sublist s.L
 | .goto t, s => ∃ L', Kx (.goto t) s.h L' ∧ ∃ M : List Own, M.Perm L' ∧ M.Sublist s.L
 | _, _ => False
def onlyN (K : S → Prop) : Exit → S → Prop
 | .normal, s => K s
 | _, _ => False
/-- A round. -/
theorem round_of {C : Ctx} (hG : C.G = RoOk) {ro : Option Nat} {n l f : Nat} {r : Loop} (hr : r.state = .ready) (hp : r.pending = none) {M : List Own} {tmps : Array Value} {F : List (Nat × Value)} {h : H} {L : List Own} {w : World} {K : H → List Own → Prop} {Kx : Code → H → List Own → Prop}
 (hsz : tmps.size = C.n) (hsl : ∀ t v, F.lookup t = some v → tmps[t]? = some v) (hm : Mem C h (L ++ .obj l (.loop r) :: M) w)
 (hwp : WP C r.assign (onlyN fun s => WP C r.body (RoundEnd K Kx) s) ⟨F, h, L⟩) :
 RoundIn (wr ro) n C.P l f tmps r.assign r.body w fun e w' => ∃ h' L', (K h' L' ∧ e = .returned (.bool true) ∧ Mem C h' (L' ++ .obj l (.loop r) :: M) w') ∨
  ∃ c, Kx c h' L' ∧ e = .returned (.bool false) ∧ Mem C h' (L' ++ .obj l (.loop { r with state := .done, pending := some c }) :: M) w' := by
 refine roundIn_of_wpIn (wr_fn ro f) ?_
 rw [wr_in]
 have hro : ∀ r', C.G (some l) (.obj l (.loop r') :: M) := fun r' => by rw [hG]; exact fun k hk => by cases hk; exact ⟨r', List.mem_cons_self⟩
 have st : St C (.obj l (.loop r) :: M) ⟨F, h, L⟩ { tmps := tmps, defers := [] } w := ⟨[], ⟨⟨hsz, hsl⟩, rfl⟩, by simpa using hm⟩
 refine Go.wpIn_mono (hwp (some l) n _ (hro r) _ _ st) fun e a1 w1 ⟨s1, ⟨Ds, hf, hm1⟩, he⟩ => ?_
 cases e with
 | normal =>
  rw [← List.append_assoc] at hm1
  have hb : w1.heap[l]? = some (.loop r) := hm1.sat.own (.obj l (.loop r)) (by simp)
  refine ⟨_, run_beginRound hb hr, ?_⟩
  have m2 := hm1.putRec (o' := .loop { r with state := .busy })
  rw [List.append_assoc] at m2
  refine Go.wpIn_mono (he (some l) n _ (hro _) a1 _ ⟨Ds, hf, m2⟩) fun e a2 w2 ⟨s2, ⟨Ds2, _, m3⟩, hq⟩ => ?_
  have m4 : Mem C s2.h (s2.L ++ .obj l (.loop { r with state := .busy }) :: M) w2 := m3.sub ((List.Sublist.refl _).append (List.sublist_append_right _ _))
  have hb2 : w2.heap[l]? = some (.loop { r with state := .busy }) := m4.sat.own (.obj l (.loop { r with state := .busy })) (by simp)
  have hr2 : ({ { r with state := LoopState.busy } with state := LoopState.ready, pending := none } : Loop) = r := by
   cases r; simp only at hr hp; subst hr hp; rfl
  have less : ∀ {L' : List Own}, (∃ M : List Own, M.Perm L' ∧ M.Sublist s2.L) → Mem C s2.h (L' ++ .obj l (.loop { r with state := .busy }) :: M) w2 := fun ⟨M0, h1, h2⟩ => (m4.sub (h2.append (List.Sublist.refl _))).perm (h1.append_right _)
  cases e with
  | normal =>
   obtain ⟨L', hq, hM⟩ := hq
   refine ⟨_, _, run_endRound none hb2, s2.h, L', .inl ⟨hq, rfl, ?_⟩⟩
   have := (less hM).putRec (o' := .loop r)
   simp only [Option.isNone_none, if_true]
   rw [hr2]
   exact this
  | ret => obtain ⟨L', hq, hM⟩ := hq; exact ⟨_, _, run_endRound (some .ret) hb2, s2.h, L', .inr ⟨.ret, hq, rfl, (less hM).putRec⟩⟩
  | exit id => obtain ⟨L', hq, hM⟩ := hq; exact ⟨_, _, run_endRound (some (.exit id)) hb2, s2.h, L', .inr ⟨.exit id, hq, rfl, (less hM).putRec⟩⟩
  | goto t => obtain ⟨L', hq, hM⟩ := hq; exact ⟨_, _, run_endRound (some (.goto t)) hb2, s2.h, L', .inr ⟨.goto t, hq, rfl, (less hM).putRec⟩⟩
  | panic ch => exact hq.elim
  | outgrown => exact hq.elim
 | _ => exact he.elim
theorem re_normal {K : H → List Own → Prop} {Kx : Code → H → List Own → Prop} {s : S} (L' : List Own) (h : K s.h L') (hM : ∃ M : List Own, M.Perm L' ∧ M.Sublist s.L) : RoundEnd K Kx .normal s := ⟨L', h, hM⟩
theorem re_ret {K : H → List Own → Prop} {Kx : Code → H → List Own → Prop} {s : S} (L' : List Own) (h : Kx .ret s.h L') (hM : ∃ M : List Own, M.Perm L' ∧ M.Sublist s.L) : RoundEnd K Kx .ret s := ⟨L', h, hM⟩
theorem re_exit {K : H → List Own → Prop} {Kx : Code → H → List Own → Prop} {s : S} {id : Nat} (L' : List Own) (h : Kx (.exit id) s.h L') (hM : ∃ M : List Own, M.Perm L' ∧ M.Sublist s.L) : RoundEnd K Kx (.exit id) s := ⟨L', h, hM⟩
attribute [irreducible] RoundEnd
/-- Operations run one by one, the rest later. -/
theorem Run.pre {C : Ctx} {M : List Own} {ro : Option Nat} {m : Nat} {ops : Array Oper} {K : S → Prop} {Q : Exit → Act → World → Prop} (l2 : List Nat) (hK : ∀ s a w, St C M s a w → K s → wpOpsIn (wr ro) m C.P ops Q l2 a w) : ∀ (l : List Nat) {s : S} {a : Act} {w : World}, Run false C ops K l s → St C M s a w → wpOpsIn (wr ro) m C.P ops Q (l ++ l2) a w
 | [], s, a, w, h, hs => by
  obtain ⟨F, he, hk⟩ := h
  exact hK (⟨F, s.h, s.L⟩ : S) a w (hs.eqF he) hk
 | i :: r, s, a, w, h, hs => by
  obtain ⟨o, ho, hn⟩ := h
  rw [List.cons_append, wpOpsIn_cons]
  exact wpOpIn_mono (fun a' w' ⟨s', hs', hr⟩ => Run.pre l2 hK r hr hs') (hn.step ho hs)
end Go.Tal

/-
 Symbolic states: the range over a function, and the call of yield.
-/
namespace Go.Tal
open Go.RowKit
theorem wr_calls' {ro : Option Nat} {n : Nat} {P : Program} {f : FuncId} {args : Array Value} {w : World} {R : Ending → World → Prop} (h : CallsIn Fence.wide n P f args w R) : CallsIn (wr ro) n P f args w R := by
 cases ro with
 | none => exact h
 | some l => exact CallsIn.inRound l h
/-- How the function that is ranged over ends. -/
def SeqEnd (C : Ctx) (l : Nat) (r : Loop) (M : List Own) (J : H → List Own → Prop) (Jx : Code → H → List Own → Prop) (e : Ending) (w : World) : Prop :=
 (∃ v, e = .returned v) ∧ ∃ h L, (J h L ∧ Mem C h (L ++ .obj l (.loop r) :: M) w) ∨ ∃ c, Jx c h L ∧ Mem C h (L ++ .obj l (.loop { r with state := .done, pending := some c }) :: M) w
structure RecOk (C : Ctx) (F : List (Nat × Value)) (ps : Array Tmp) (assign body : Code) (r : Loop) : Prop where
 ready : r.state = .ready
 pend : r.pending = none
 ps : r.params = ps
 assign : r.assign = assign
 body : r.body = body
 size : r.tmps.size = C.n
 slots : ∀ t v, F.lookup t = some v → r.tmps[t]? = some v
theorem wp_rangeF {C : Ctx} (hG : C.G = RoOk) {Q : Exit → S → Prop} {g : Operand} {ps : Array Tmp} {assign body : Code} {s : S} {f : Nat} {cb : Array Value}
 (hg : evF s.F g = some (.func (.func f) #[] cb)) (hen : ∀ args w, (callFunc f args).run C.P w = .ok (.enter f args) w)
 (J : H → List Own → Prop) (Jx : Code → H → List Own → Prop)
 (hcall : ∀ (n l : Nat) (r : Loop) (M : List Own) (w : World), RecOk C s.F ps assign body r → Mem C s.h (s.L ++ .obj l (.loop r) :: M) w → CallsIn Fence.wide n C.P f (#[.func (.yield l) #[] #[]] ++ cb) w (SeqEnd C l r M J Jx))
 (after : ∀ h L, J h L → Q .normal ⟨s.F, h, L⟩) (afterx : ∀ c h L, Jx c h L → WP C c Q ⟨s.F, h, L⟩) : WP C (.rangeFunc g ps assign body) Q s := by
 intro ro n M hGM a w ⟨Ds, ⟨hf, hdf⟩, hm⟩
 have hgv : a.eval g = .func (.func f) #[] cb := hf.eval g _ hg
 -- the end, whatever marks there are
 have fin : ∀ (l : Nat) (r : Loop) (Ds' : List Nat) (e : Ending) (w' : World), r.state = .ready → r.pending = none → SeqEnd C l r (Ds'.map shut ++ M) J Jx e w' →
  rangePost (wr ro) n C.P l (fun e a' w' => ∃ s', St C M s' a' w' ∧ Q e s') { a with defers := Ds'.map mark } e w' := by
  intro l r Ds' e w' hst hpe ⟨⟨v, hv⟩, h, L, hend⟩
  subst hv
  rcases hend with ⟨hJ, m⟩ | ⟨c, hJ, m⟩
  ·have hb : w'.heap[l]? = some (.loop r) := m.sat.own (.obj l _) (by simp)
   refine ⟨_, _, run_endLoop hb (by rw [hst]; decide), ?_⟩
   rw [hpe]
   have m2 := (m.putRec (o' := .loop { r with state := .exhausted })).sub (L' := L ++ (Ds'.map shut ++ M)) ((List.Sublist.refl _).append (List.sublist_cons_self _ _))
   exact ⟨⟨s.F, h, L⟩, ⟨Ds', ⟨⟨hf.size, hf.slots⟩, rfl⟩, by rw [hpe] at m2; exact m2⟩, after h L hJ⟩
  ·have hb : w'.heap[l]? = some (.loop { r with state := .done, pending := some c }) := m.sat.own (.obj l _) (by simp)
   refine ⟨_, _, run_endLoop hb (fun hc => by cases hc), ?_⟩
   have m2 := (m.putRec (o' := .loop { r with state := .exhausted, pending := some c })).sub (L' := L ++ (Ds'.map shut ++ M)) ((List.Sublist.refl _).append (List.sublist_cons_self _ _))
   exact afterx c h L hJ ro n M hGM _ _ ⟨Ds', ⟨⟨hf.size, hf.slots⟩, rfl⟩, m2⟩
 have hres : ∀ l W, (resolve a.eval (rangeCall g l) 0).run C.P W = .ok { target := .fn (.func f) cb, args := #[.func (.yield l) #[] #[]] } W := fun l W => by
  have hy : a.eval (.const (.func (.yield l) #[] #[])) = .func (.yield l) #[] #[] := rfl
  simp [resolve, hgv, Deferred.ofValue, hy]
 have hinv : ∀ l W, (invoke (.fn (.func f) cb) #[.func (.yield l) #[] #[]]).run C.P W = .ok (.enter f (#[.func (.yield l) #[] #[]] ++ cb)) W := fun l W => by
  simp [invoke, hen]
 have hdp : (wr ro).depth.isSome = true → 1 ≤ n := fun hh => by rw [wr_depth] at hh; cases hh
 refine wpIn_rangeFunc fun fn _ => ?_
 rw [wr_round]
 cases hro : ro with
 | none =>
  subst hro
  have m2 := (hm.alloc (.deferred (some []))).alloc (.loop { state := .ready, pending := none, fn := fn, tmps := a.tmps, params := ps, assign := assign, body := body, defers := w.heap.size })
  have m3 := m2.perm (L' := s.L ++ .obj (w.heap.size + 1) (.loop { state := .ready, pending := none, fn := fn, tmps := a.tmps, params := ps, assign := assign, body := body, defers := w.heap.size }) :: ((w.heap.size :: Ds).map shut ++ M)) (by
   rw [World.size_alloc]
   refine .trans ?_ List.perm_middle.symm
   refine .cons _ ?_
   exact List.perm_middle.symm)
  refine ⟨w.heap.size + 1, [mark w.heap.size], _, _, _, f, _, _, run_enterLoop_outer _ _ _ _ _, hres _ _, fun _ _ => wr_fn _ _, hinv _ _, hdp, ?_⟩
  rw [hdf]
  exact (wr_calls' (ro := none) (hcall (n - 1) _ _ _ _ ⟨rfl, rfl, rfl, rfl, rfl, hf.size, hf.slots⟩ m3)).mono fun e w' he => fin _ _ (w.heap.size :: Ds) e w' rfl rfl he
 | some l0 =>
  subst hro
  rw [hG] at hGM
  obtain ⟨r0, hr0⟩ := hGM l0 rfl
  have hb0 : w.heap[l0]? = some (.loop r0) := hm.sat.own _ (List.mem_append_right _ (List.mem_append_right _ hr0))
  have m2 := hm.alloc (.loop { state := .ready, pending := none, fn := fn, tmps := a.tmps, params := ps, assign := assign, body := body, defers := r0.defers })
  have m3 := m2.perm (L' := s.L ++ .obj w.heap.size (.loop { state := .ready, pending := none, fn := fn, tmps := a.tmps, params := ps, assign := assign, body := body, defers := r0.defers }) :: (Ds.map shut ++ M)) List.perm_middle.symm
  refine ⟨w.heap.size, [], _, _, _, f, _, _, run_enterLoop_inner hb0 _ _ _ _ _, hres _ _, fun _ _ => wr_fn _ _, hinv _ _, hdp, ?_⟩
  rw [hdf]
  exact (wr_calls' (ro := some l0) (hcall (n - 1) _ _ _ _ ⟨rfl, rfl, rfl, rfl, rfl, hf.size, hf.slots⟩ m3)).mono fun e w' he => fin _ _ Ds e w' rfl rfl he

/-! ### the function that is ranged over: its call of yield -/
/-- Operation i, in a function's own frame, nothing held beside. -/
def YStep (C : Ctx) (ops : Array Oper) (i : Nat) (X : S → Prop) (s : S) : Prop :=
 ∃ o, ops[i]? = some o ∧ o.guard = none ∧ ∀ (n : Nat) (a : Act) (w : World) (Q : Exit → Act → World → Prop), St C [] s a w → o.wpIn (wr none) n C.P a w (fun a' w' => ∃ s', St C [] s' a' w' ∧ X s') Q
theorem wp_textY {C : Ctx} {Q : Exit → S → Prop} {s : S} {id : Nat} {ops : Array Oper} (hG : ∀ ro M, C.G ro M → ro = none ∧ M = []) (l1 : List Nat) (i : Nat) (l2 : List Nat) (hl : List.range ops.size = l1 ++ i :: l2)
 (h : Run false C ops (YStep C ops i (Run false C ops (Q .normal) l2)) l1 s) : WP C (.region id ops false) Q s := by
 intro ro m M hGM a w hs
 obtain ⟨rfl, rfl⟩ := hG ro M hGM
 refine Go.wpIn_region ?_
 rw [hl]
 refine Run.pre (i :: l2) (fun s1 a1 w1 hs1 ⟨o, ho, hg, hy⟩ => ?_) l1 h hs
 rw [wpOpsIn_cons]
 unfold wpOpIn
 rw [ho]
 have hw : Region.wanted o (yielded ops a1.tmps) = true := by unfold Region.wanted; rw [hg]
 simp only [hw, if_true]
 exact Oper.wpIn_mono (fun a' w' ⟨s', h1, h2⟩ => Run.ops (fun s _ _ h1 h2 => ⟨s, h1, h2⟩) l2 h2 h1) (hy m a1 w1 _ hs1)
theorem y_step {C : Ctx} {ops : Array Oper} {i d l : Nat} {o : Oper} {X : S → Prop} {s : S} {y : Operand} {args : Array Operand} {ts : Array TypeId} {vs : List Value} {r : Loop} {R : Bool → H → List Own → Prop} (ho : ops[i]? = some o) (hop : o.op = .call { callee := .value y, args := args, argTypes := ts }) (hg : o.guard = none) (hd : o.dst = some d) (hn : Nat.blt d C.n = true)
 (hy : evF s.F y = some (.func (.yield l) #[] #[])) (hx : args.toList.map (evF s.F) = vs.map some) (hr : Own.obj l (.loop r) ∈ s.L) (hsz : vs.length = r.params.size)
 (round : ∀ (n : Nat) (N : List Own) (w : World), Mem C s.h (s.L ++ N) w → RoundIn Fence.wide n C.P l r.fn ((r.params.zip vs.toArray).foldl (fun tmps (t, a) => tmps.setIfInBounds t a) r.tmps) r.assign r.body w fun e w' => ∃ b h' L', e = .returned (.bool b) ∧ R b h' L' ∧ Mem C h' (L' ++ N) w')
 (k : ∀ b h' L', R b h' L' → X ⟨(d, .bool b) :: s.F, h', L'⟩) : YStep C ops i X s := by
 refine ⟨o, ho, hg, fun n a w Q ⟨Ds, ⟨hf, hdf⟩, hm⟩ => ?_⟩
 have ha := hf.agree o
 have hargs : args.map a.eval = vs.toArray := by
  apply Array.ext'
  rw [Array.toList_map]
  apply List.ext_getElem?
  intro j
  have h3 := congrArg (fun l => l[j]?) hx
  simp only [List.getElem?_map] at h3 ⊢
  cases hp : args.toList[j]? with
  | none => rw [hp] at h3; cases hv : vs[j]? with
   | none => rfl
   | some v => rw [hv] at h3; simp at h3
  | some p => rw [hp] at h3; cases hv : vs[j]? with
   | none => rw [hv] at h3; simp at h3
   | some v =>
    rw [hv] at h3
    simp only [Option.map_some, Option.some.injEq] at h3 ⊢
    exact ha p (by
     rw [hop]
     simp only [Op.operands, Call.operands, Array.toList_append, List.mem_append]
     exact .inr (List.mem_of_getElem? hp)) v h3
 have hgv : a.eval y = .func (.yield l) #[] #[] := hf.eval y _ hy
 have hb : w.heap[l]? = some (.loop r) := hm.sat.own _ (List.mem_append_left _ hr)
 refine ⟨fun f _ => wr_fn none f, ?_⟩
 rw [wr_round, Oper.semAt_eq none a.eval o (fun c hc => by rw [hop] at hc; cases hc)]
 have hex : (execOp a.eval o).run C.P w = .ok (.round l r.fn ((r.params.zip vs.toArray).foldl (fun tmps (t, a) => tmps.setIfInBounds t a) r.tmps) r.assign r.body) w := by
  have hyl := run_yield (P := C.P) (args := vs.toArray) hb (by simpa using hsz)
  simp only [execOp, hop, resolve, hargs, hgv]
  simpa [Deferred.ofValue, invoke] using hyl
 rw [hex, Oper.uponIn_round]
 refine ⟨fun hh => (by rw [wr_depth] at hh; cases hh), ?_⟩
 refine RoundIn.mono (round (n - 1) (Ds.map shut ++ []) w hm) fun e w' ⟨b, h', L', he, hR, hm'⟩ => ?_
 subst he
 refine ⟨⟨(d, .bool b) :: s.F, h', L'⟩, ⟨Ds, ⟨?_, by rw [put_defers]; exact hdf⟩, hm'⟩, k b h' L' hR⟩
 have := hf.put (some d) (.bool b) (fun t ht => by cases ht; exact Nat.le_of_ble_eq_true hn)
 rw [hd]
 exact this
end Go.Tal

/-
 Symbolic states: fields of the elements of a list of symmetries.
-/
namespace Go.Tal
open Go.RowKit
/-- A block of one's own is read from now on. -/
theorem WP.letObj {C : Ctx} {Q : Exit → S → Prop} {c : Code} {F : List (Nat × Value)} {h : H} {L L' : List Own} {b : Nat} {o : Obj} (hI : C.I = []) (p : Pick (.obj b o) L L')
 (k : ∀ h', (∀ b o, h b = some o → h' b = some o) → h' b = some o → WP C c Q ⟨F, h', L'⟩) : WP C c Q ⟨F, h, L⟩ := by
 intro ro n' M hG a w ⟨Ds, hf, m⟩
 have p := p.append (Ds.map shut ++ M)
 have hb : w.heap[b]? = some o := (m.perm p.perm).sat.own _ List.mem_cons_self
 have hhb : h b = none := (m.perm p.perm).sat.off _ List.mem_cons_self b rfl
 exact k (updH h b w.heap[b]?) (upd_mono hhb) (by simp [updH, hb]) ro n' M hG a w ⟨Ds, hf, m.let_ p rfl hI⟩
def fldPtr (sz : Nat) (v : Value) (m : Int) (f : Nat) : Value := match v with
 | .slice (some a) _ _ => .pointer (some ((a.add (m.toNat * sz)).add f))
 | _ => undef
section
variable {P : Program} {o : Oper} {F : List (Nat × Value)} {h : H} {L : List Own} {v : Value} {x y : Operand} {l : List Sy} {m : Int} {k : IntKind}
theorem add_none (b o n : Nat) : (⟨b, o, none⟩ : Addr).add n = ⟨b, o + n, none⟩ := by unfold Addr.add; split <;> simp_all
theorem s_faS {t : TypeId} {f j n : Nat} {sv : Value} {cm : Bool} {fs : Array Field} {fd : Field} (r : SyAt h v j sv cm) (ho : o.op = .fieldAddr t x f) (hx : evF F x = some (elemPtr 2 v m)) (ht : P.underlying t = some (.struct fs)) (hf : fs[f]? = some fd)
 (hs : ∀ w, (sizeOf fd.type).run P w = .ok (n + 1) w) {off : Nat} (hoff : fd.offset = off) : SoftOk P o F h L (fldPtr 2 v m off) := by
 obtain ⟨b, o', n', c, arr, t', fz, e1, e2, e3, e4⟩ := r.at_
 subst e1 hoff
 simp only [elemPtr, add_none] at hx
 simp only [fldPtr, add_none]
 exact s_fa ho hx ht hf hs rfl
theorem s_ldS0 {t : TypeId} {j : Nat} {sv : Value} {cm : Bool} (r : SyAt h v j sv cm) (hj : m.toNat = j) (ho : o.op = .load t x) (hx : evF F x = some (fldPtr 2 v m 0)) (hg : ∀ w, (isAgg t).run P w = .ok false w) : SoftOk P o F h L sv := by
 obtain ⟨b, o', n', c, arr, t', fz, e1, e2, e3, e4⟩ := r.at_
 subst e1 hj
 simp only [fldPtr, add_none] at hx
 exact s_ld ho hx hg (.imm arr t' fz e2 e3)
theorem s_ldS1 {t : TypeId} {j : Nat} {sv : Value} {cm : Bool} (r : SyAt h v j sv cm) (hj : m.toNat = j) (ho : o.op = .load t x) (hx : evF F x = some (fldPtr 2 v m 1)) (hg : ∀ w, (isAgg t).run P w = .ok false w) : SoftOk P o F h L (.bool cm) := by
 obtain ⟨b, o', n', c, arr, t', fz, e1, e2, e3, e4⟩ := r.at_
 subst e1 hj
 simp only [fldPtr, add_none] at hx
 exact s_ld ho hx hg (.imm arr t' fz e2 e4)
end
end Go.Tal

/-
 Symbolic states: function values made; the queue.
-/
namespace Go.Tal
open Go.RowKit
theorem args_eval {F : List (Nat × Value)} {o : Oper} {a : Act} {cs : Array Operand} {vs : List Value} (ha : Agree F o a) (hsub : ∀ p ∈ cs.toList, p ∈ o.op.operands.toList) (hx : cs.toList.map (evF F) = vs.map some) : cs.map a.eval = vs.toArray := by
 apply Array.ext'
 rw [Array.toList_map]
 apply List.ext_getElem?
 intro j
 have h3 := congrArg (fun l => l[j]?) hx
 simp only [List.getElem?_map] at h3 ⊢
 cases hp : cs.toList[j]? with
 | none => rw [hp] at h3; cases hv : vs[j]? with
  | none => rfl
  | some v => rw [hv] at h3; simp at h3
 | some p => rw [hp] at h3; cases hv : vs[j]? with
  | none => rw [hv] at h3; simp at h3
  | some v =>
   rw [hv] at h3
   simp only [Option.map_some, Option.some.injEq] at h3 ⊢
   exact ha p (hsub p (List.mem_of_getElem? hp)) v h3
section
variable {P : Program} {o : Oper} {F : List (Nat × Value)} {h : H} {L : List Own} {x y : Operand}
theorem s_mkf {f : Go.Fn} {cs : Array Operand} {vs : List Value} (ho : o.op = .makeFunc f #[] cs) (hx : cs.toList.map (evF F) = vs.map some) : SoftOk P o F h L (.func f #[] vs.toArray) := fun a w ha _ => by
 have h1 := args_eval ha (by rw [ho]; simp [Op.operands]) hx
 simp only [execOp, ho]
 refine run_v ?_
 rw [h1]
 simp [Instr.makeFunc]
/-- queue[1:] -/
theorem s_cut {t e : TypeId} {b o' n c sz : Nat} (ho : o.op = .slice t x (some y) none none) (hx : evF F x = some (.slice (some ⟨b, o', none⟩) n c)) (hy : evF F y = some (.int .i64 1)) (ht : P.underlying t = some (.slice e)) (hs : ∀ w, (sizeOf e).run P w = .ok sz w) (hn : 0 < n) : SoftOk P o F h L (.slice (if c = 1 then some ⟨b, o', none⟩ else some ⟨b, o' + sz, none⟩) (n - 1) (c - 1)) := fun a w ha _ => by
 have h1 := agree_of ha (by rw [ho]; simp [Op.operands]) hx
 have h2 := agree_of ha (x := y) (by rw [ho]; simp [Op.operands]) hy
 simp only [execOp, ho]
 refine run_v ?_
 have hb : (1 : Int) ≤ n := by omega
 have hadd : (⟨b, o', none⟩ : Addr).add sz = ⟨b, o' + sz, none⟩ := by unfold Addr.add; split <;> simp_all
 simp [Instr.sliceAt, h1, h2, Instr.slice, run_underlying ht, Instr.sliceBounds, Instr.sliceBound, asIntOf, hb, hs w, hadd]
end
section
variable {C : Ctx} {o : Oper} {F : List (Nat × Value)} {h : H} {L : List Own} {x y : Operand}
/-- queue = append(queue, e..): the queue is a row's end. -/
theorem h_appQ {t e : TypeId} {zv : Value} {sz by_ b off n K c b2 o' : Nat} {ys news : List Value} {L' : Nat → Nat → Nat → List Value → List Own} (ho : o.op = .call { callee := .builtin .append, args := #[x, y], argTypes := #[t, t] }) (hx : evF F x = some (.slice (some ⟨b, off * sz, none⟩) n (K - off))) (hy : evF F y = some (.slice (some ⟨b2, o', none⟩) 1 c))
 (ht : C.P.underlying t = some (.slice e)) (hi : (C.P.info? e).map (fun i => (i.zero, i.size, i.bytes)) = some (some zv, sz, by_)) (hzs : zv.cells.size = sz) (hsz : 0 < sz) (hl : news.length = 1 * sz) (hnews : ∀ j u, news[j]? = some u → Cell h L b2 (o' + j) u) (h1 : ∀ u ∈ news, u.oneCell' = true)
 (h63 : off + n + 1 ≤ 8796093022208) (hbytes : (off + n + 1) * by_ ≤ 140737488355328)
 (p : ∀ b' m' K' ys', Swap (.row (.slice (some ⟨b, 0, none⟩) (off + n) K) e sz (off + n) ys) (.row (.slice (some ⟨b', 0, none⟩) m' K') e sz m' ys') L (L' b' m' K' ys')) :
 HardW C o F h L (fun v' h' L'' => ∃ b' off' K' ys', v' = .slice (some ⟨b', off' * sz, none⟩) (n + 1) (K' - off') ∧ off' + (n + 1) ≤ K' ∧ off' ≤ off ∧ ys'.drop (off' * sz) = ys.drop (off * sz) ++ news ∧ h' = h ∧ L'' = L' b' (off' + (n + 1)) K' ys') := fun a w ha _ _ hmem => by
 have e1 := agree_of ha (by rw [ho]; simp [Op.operands, Call.operands]) hx
 have e2 := agree_of ha (x := y) (by rw [ho]; simp [Op.operands, Call.operands]) hy
 obtain ⟨i, hi1, hi2⟩ := Option.map_eq_some_iff.1 hi
 simp only [Prod.mk.injEq] at hi2
 obtain ⟨L0, p1, _⟩ := (p b 0 K ys).pick
 have hown : w.ownsRow 0 e sz (.slice (some ⟨b, 0, none⟩) (off + n) K) (off + n) ys := hmem.sat.own _ (p1.perm.mem_iff.2 List.mem_cons_self)
 have hn : ∀ j u, news[j]? = some u → w.cell? ((⟨b2, o', none⟩ : Addr).add j) = some u := fun j u hj => by
  have hadd : (⟨b2, o', none⟩ : Addr).add j = ⟨b2, o' + j, none⟩ := by unfold Addr.add; split <;> simp_all
  rw [hadd]; exact (hnews j u hj).at_ hmem.sat
 have h63' : off + n + 1 ≤ maxLen := by simp only [maxLen]; omega
 have hcells : ∀ j u, ys[j]? = some u → w.cell? ⟨b, j, none⟩ = some u := fun j u hj => by
  have := hown.cells (g := b) rfl j u hj
  rwa [show (⟨b, 0, none⟩ : Addr).add j = ⟨b, j, none⟩ from by unfold Addr.add; split <;> simp_all] at this
 have hylen : ys.length = (off + n) * sz := hown.1
 obtain ⟨g, cap, cur, hcur, _, hg, hnc, hcm, hcs, htake⟩ : ∃ g cap cur, (Value.slice (some ⟨b, 0, none⟩) (off + n) K) = .slice (some ⟨g, 0, none⟩) (off + n) cap ∧ 0 ≤ g ∧ w.heap[g]? = some (.cells cur e (0, 0)) ∧ off + n ≤ cap ∧ cap ≤ maxLen ∧ cur.size = cap * sz ∧ cur.toList.take ((off + n) * sz) = ys := by
  rcases hown.2 with ⟨h2, _⟩ | h2
  ·cases h2
  ·exact h2
 cases hcur
 have hsz1 : i.size = sz := hi2.2.1
 by_cases hroom : n + 1 ≤ K - off
 ·-- in its place
  have hcc : ∀ j, j < news.length → (w.cell? ⟨b, (off + n) * sz + j, none⟩).isSome = true := fun j hj => by
   have : (off + n) * sz + j < cur.size := by
    rw [hcs]
    have h2 : (off + n + 1) * sz ≤ K * sz := Nat.mul_le_mul_right _ (by omega)
    rw [Nat.add_mul (off + n) 1] at h2
    omega
   simp [World.cell?, hg, this]
  have hff : ∀ j, j < news.length → w.frozen? ⟨b, (off + n) * sz + j, none⟩ = false := fun j _ => by simp [World.frozen?, hg]
  have hq := run_append_room_cells (P := C.P) w t o.type e i ht hi1 b (off * sz) n (K - off) ⟨b2, o', none⟩ 1 c news (by rw [hsz1]; exact hl) hn h1 hroom (fun j hj => by
   rw [hsz1, ← Nat.add_mul]; exact hcc j hj) (fun j hj => by rw [hsz1, ← Nat.add_mul]; exact hff j hj)
  have hf := run_append_room_cells (P := C.P) w t o.type e i ht hi1 b 0 (off + n) K ⟨b2, o', none⟩ 1 c news (by rw [hsz1]; exact hl) hn h1 (by omega) (fun j hj => by
   rw [hsz1, Nat.zero_add]; exact hcc j hj) (fun j hj => by rw [hsz1, Nat.zero_add]; exact hff j hj)
  obtain ⟨v', w', hr, r1, r2, _, r4⟩ := run_append_own_at (P := C.P) w 0 t o.type e i zv sz by_ ht hi1 hi2.1 hi2.2.1 hi2.2.2 hzs hsz _ (off + n) ys hown ⟨b2, o', none⟩ 1 c news hl hn h1 h63' hbytes (Nat.zero_le _)
  have hdr := app_drawn (P := C.P) w t o.type e i zv sz by_ ht hi1 hi2.1 hi2.2.1 hi2.2.2 hzs hsz _ (off + n) ys hown ⟨b2, o', none⟩ 1 c news hl hn h1 (by omega) h63' hbytes hr
  rw [hf] at hr
  simp only [Result.ok.injEq] at hr
  obtain ⟨hv, hw⟩ := hr
  subst hv
  rw [hsz1, Nat.zero_add] at hw
  rw [hsz1, ← Nat.add_mul] at hq
  rw [hw] at hq
  refine upon_val (q := .slice (some ⟨b, off * sz, none⟩) (n + 1) (K - off)) (w' := w') ?_ ⟨_, h, _, ⟨b, off, K, ys ++ news, rfl, by omega, Nat.le_refl _, ?_, rfl, rfl⟩, rfl, ?_⟩
  ·simp only [execOp, ho, resolve, invoke, builtin, Sem.run_bind, Sem.run_pure, Result.andThen_ok, List.map_toArray, List.map_cons, List.map_nil, e1, e2, hq]
  ·rw [List.drop_append_of_le_length]
   rw [hylen]; exact Nat.mul_le_mul_right _ (Nat.le_add_right _ _)
  ·exact hmem.swap2 (p b (off + (n + 1)) K (ys ++ news)) (fun k hk => .inl hk) r1 r2.os r2.tape r2.output r2.size hdr r2.block
 ·-- a new row
  obtain ⟨v', w', hr, r1, r2⟩ := run_append_arg_grows (P := C.P) w t o.type e i zv sz by_ ht hi1 hi2.1 hi2.2.1 hi2.2.2 hzs hsz ⟨b, off * sz, none⟩ n (K - off) (ys.drop (off * sz)) (by rw [List.length_drop, hylen, Nat.add_mul]; omega) (fun j u hj => by
   rw [List.getElem?_drop] at hj
   have := hcells _ u hj
   rwa [show (⟨b, off * sz, none⟩ : Addr).add j = ⟨b, off * sz + j, none⟩ from by unfold Addr.add; split <;> simp_all]) ⟨b2, o', none⟩ 1 c news hl hn (by omega) (by simp only [maxLen]; omega) (Nat.le_trans (Nat.mul_le_mul_right _ (by omega)) hbytes)
  have hdr : w.drawn ≤ w'.drawn := by
   have hr2 := run_append_grow (P := C.P) w t o.type e i zv ht hi1 hi2.1 ⟨b, off * sz, none⟩ n (K - off) (ys.drop (off * sz)) (by rw [List.length_drop, hylen, Nat.add_mul, hsz1]; omega) (fun j u hj => by
    rw [List.getElem?_drop] at hj
    have := hcells _ u hj
    rwa [show (⟨b, off * sz, none⟩ : Addr).add j = ⟨b, off * sz + j, none⟩ from by unfold Addr.add; split <;> simp_all]) ⟨b2, o', none⟩ 1 c news (by rw [hsz1]; exact hl) hn (by omega) (by omega) (by rw [hi2.2.2]; exact growslice_fits (by omega) (Nat.le_trans (Nat.mul_le_mul_right _ (by omega)) hbytes))
   rw [hr2] at hr
   cases hr
   exact Nat.le_succ _
  obtain ⟨g', cap', cur', hv', hge, hg', hnc', hcm', hcs', htk'⟩ : ∃ g cap cur, v' = .slice (some ⟨g, 0, none⟩) (n + 1) cap ∧ w.heap.size ≤ g ∧ w'.heap[g]? = some (.cells cur e (0, 0)) ∧ n + 1 ≤ cap ∧ cap ≤ maxLen ∧ cur.size = cap * sz ∧ cur.toList.take ((n + 1) * sz) = ys.drop (off * sz) ++ news := by
   rcases r1.2 with ⟨_, h3⟩ | h2
   ·omega
   ·exact h2
  subst hv'
  refine upon_val (q := .slice (some ⟨g', 0, none⟩) (n + 1) cap') (w' := w') ?_ ⟨_, h, _, ⟨g', 0, cap', ys.drop (off * sz) ++ news, by rw [Nat.zero_mul, Nat.sub_zero], by omega, Nat.zero_le _, by rw [Nat.zero_mul, List.drop_zero], rfl, rfl⟩, rfl, ?_⟩
  ·simp only [execOp, ho, resolve, invoke, builtin, Sem.run_bind, Sem.run_pure, Result.andThen_ok, List.map_toArray, List.map_cons, List.map_nil, e1, e2, hr]
  ·rw [Nat.zero_add]
   exact hmem.swap2 (p g' (n + 1) cap' _) (fun k hk => .inr (by cases hk; exact hge)) ⟨r1.1, .inr ⟨g', cap', cur', rfl, Nat.zero_le _, hg', hnc', hcm', hcs', htk'⟩⟩ r2.os r2.tape r2.output r2.size hdr (fun k hk _ => r2.block k hk (by simp))
end
section
variable {dr : Bool} {C : Ctx} {ops : Array Oper} {K : S → Prop} {i d : Nat} {r : List Nat} {F : List (Nat × Value)} {h : H} {L : List Own} {o : Oper} {x y : Operand}
theorem run_appQ {t e : TypeId} {zv : Value} {sz by_ b off n N c b2 o' : Nat} {ys news : List Value} {L' : Nat → Nat → Nat → List Value → List Own} (ho : ops[i]? = some o) (hop : o.op = .call { callee := .builtin .append, args := #[x, y], argTypes := #[t, t] }) (hg : o.guard = none) (hd : o.dst = some d) (hn : Nat.blt d C.n = true)
 (hx : evF F x = some (.slice (some ⟨b, off * sz, none⟩) n (N - off))) (hy : evF F y = some (.slice (some ⟨b2, o', none⟩) 1 c))
 (ht : C.P.underlying t = some (.slice e)) (hi : (C.P.info? e).map (fun i => (i.zero, i.size, i.bytes)) = some (some zv, sz, by_)) (hzs : zv.cells.size = sz) (hsz : 0 < sz)
 (p : ∀ b' m' K' ys', Swap (.row (.slice (some ⟨b, 0, none⟩) (off + n) N) e sz (off + n) ys) (.row (.slice (some ⟨b', 0, none⟩) m' K') e sz m' ys') L (L' b' m' K' ys')) (hl : news.length = 1 * sz) (hnews : ∀ j u, news[j]? = some u → Cell h L b2 (o' + j) u) (h1 : ∀ u ∈ news, u.oneCell' = true)
 (h63 : off + n + 1 ≤ 8796093022208) (hbytes : (off + n + 1) * by_ ≤ 140737488355328)
 (k : ∀ b' off' K' ys', off' + (n + 1) ≤ K' → off' ≤ off → ys'.drop (off' * sz) = ys.drop (off * sz) ++ news → Run dr C ops K r ⟨(d, .slice (some ⟨b', off' * sz, none⟩) (n + 1) (K' - off')) :: F, h, L' b' (off' + (n + 1)) K' ys'⟩) : Run dr C ops K (i :: r) ⟨F, h, L⟩ :=
 run_hard ho hg (dst_lt hd hn) (by simp [cls, hop]) (fun v' h' L'' => ∃ b' off' K' ys', v' = .slice (some ⟨b', off' * sz, none⟩) (n + 1) (K' - off') ∧ off' + (n + 1) ≤ K' ∧ off' ≤ off ∧ ys'.drop (off' * sz) = ys.drop (off * sz) ++ news ∧ h' = h ∧ L'' = L' b' (off' + (n + 1)) K' ys')
  (fun M => (h_appQ (L' := fun b m k y => L' b m k y ++ M) hop hx hy ht hi hzs hsz hl (fun j u hj => (hnews j u hj).app M) h1 h63 hbytes fun b m k y => (p b m k y).append M).imp fun v' _ _ ⟨b', off', K', ys', e1, e2, e3, e4, e5, e6⟩ => ⟨L' b' (off' + (n + 1)) K' ys', ⟨b', off', K', ys', e1, e2, e3, e4, e5, rfl⟩, e6⟩)
  fun v' _ _ ⟨b', off', K', ys', e1, e2, e3, e4, e5, e6⟩ => by subst e1 e5 e6; rw [hd]; exact ⟨fun _ hc => by simp [cls, hop] at hc, k b' off' K' ys' e2 e3 e4⟩
end
end Go.Tal

/-
 The iterator of the program, and ranges over it.
-/
namespace Go.Tal
open Go.RowKit Go.Proofs Go.Proofs.Tryz _root_.Tal
/-- all(l): the list's slice is boxed. -/
theorem all_fn (v : Value) (h : H) (hc : v.cells = #[v]) : Fn Tryz.prog 90 #[v] h fun r h' => ∃ b, r = .func (.func 159) #[] #[.pointer (some ⟨b, 0, none⟩)] ∧ h' b = some (.cells #[v] 22 (0, 0)) := by
 refine fn_of (vs := [v]) func90 rfl ntmps90 (Nat.le_of_ble_eq_true rfl) fun w hw => ?_
 refine wp_seq' (wp_text rfl ?_)
 refine run_box rfl rfl rfl rfl rfl rfl hc fun b1 => ?_
 refine rm rfl ?_
 apply run_end
 refine wp_seq' (wp_text rfl ?_)
 refine rs rfl (s_mkf (vs := [.pointer (some ⟨b1, 0, none⟩)]) rfl rfl) ?_
 refine rm rfl ?_
 apply run_end
 refine WP.letObj rfl (by repeat first|exact Pick.here|apply Pick.there) fun h' hh hb => ?_
 apply wp_ret'
 exact fin_ret (res_tmp rfl rfl) ⟨b1, rfl, hb⟩
/-- How the iterator ends. -/
def Fin9 (l : Nat) (r : Loop) (M : List Own) (J : H → List Own → Prop) (Jx : Code → H → List Own → Prop) (e : Exit) (s : S) : Prop :=
 (e = .normal ∨ e = .ret) ∧ ∃ L, (J s.h L ∧ s.L = L ++ .obj l (.loop r) :: M) ∨ ∃ c, Jx c s.h L ∧ s.L = L ++ .obj l (.loop { r with state := .done, pending := some c }) :: M
def yG (ro : Option Nat) (M : List Own) : Prop := ro = none ∧ M = []
def ctx9 (C : Ctx) (P : Program) (k : Nat) : Ctx := { P := P, w0 := C.w0, h0 := C.h0, I := C.I, n := k, G := yG }
theorem mem9 {C : Ctx} {P : Program} {k : Nat} {h : H} {L : List Own} {w : World} : Mem (ctx9 C P k) h L w ↔ Mem C h L w := ⟨fun m => ⟨m.sat, m.new, m.old, m.kp⟩, fun m => ⟨m.sat, m.new, m.old, m.kp⟩⟩
theorem iter_of {C : Ctx} {P : Program} {f : FuncId} {fn : Func} {c : Code} {vs : List Value} {h0 : H} {L0 : List Own} {w : World} {k l : Nat} {r : Loop} {M : List Own} {J : H → List Own → Prop} {Jx : Code → H → List Own → Prop} (hf : P.funcs[f]? = some fn) (hb : fn.body = some c) (hn : fn.ntmps = k) (hl : vs.length ≤ k) (hres : fn.results = #[]) (hm : Mem C h0 L0 w)
 (hwp : WP (ctx9 C P k) c (Fin9 l r M J Jx) ⟨argsF 0 vs, h0, L0⟩) (n : Nat) : CallsIn Fence.wide n P f vs.toArray w (SeqEnd C l r M J Jx) := by
 refine callsIn_of_wp_marks (F := Fence.wide) hf hb trivial ?_
 have hst : St (ctx9 C P k) [] ⟨argsF 0 vs, h0, L0⟩ { tmps := vs.toArray ++ Array.replicate (fn.ntmps - vs.toArray.size) undef, defers := [] } w := by
  refine ⟨[], ⟨⟨by simp [ctx9, hn]; omega, fun t v ht => ?_⟩, rfl⟩, by simpa using mem9.2 hm⟩
  obtain ⟨j, h1, h2⟩ := argsF_lookup 0 vs t v ht
  have hj : j < vs.length := (List.getElem?_eq_some_iff.1 h2).1
  obtain rfl : t = j := by omega
  rw [Array.getElem?_append_left (by simpa using hj)]
  simpa using h2
 refine Go.wpIn_mono (hwp none n [] ⟨rfl, rfl⟩ _ _ hst) fun e a' w' ⟨s', ⟨Ds, ⟨hf', hdf⟩, hm'⟩, he, L, hR⟩ => ?_
 rw [List.append_nil] at hm'
 have fin : LeavesInM Fence.wide n P fn a'.tmps (SeqEnd C l r M J Jx) a'.defers .returning w' := by
  rw [hdf]
  refine leaves_marks (C := ctx9 C P k) (h := s'.h) (L := s'.L) (fun w'' m => ⟨.tuple #[], results_none hres _ _ _, ⟨_, rfl⟩, s'.h, L, ?_⟩) Ds w' hm'
  have m' := mem9.1 m
  rcases hR with ⟨h1, h2⟩ | ⟨c, h1, h2⟩
  ·rw [h2] at m'; exact .inl ⟨h1, m'⟩
  ·rw [h2] at m'; exact .inr ⟨c, h1, m'⟩
 rcases he with rfl | rfl
 ·exact fin
 ·exact fin
attribute [irreducible] Fin9
theorem fin9_end {l : Nat} {r : Loop} {M : List Own} {J : H → List Own → Prop} {Jx : Code → H → List Own → Prop} {s : S} (L : List Own) (h : J s.h L) (hL : s.L = L ++ .obj l (.loop r) :: M) : Fin9 l r M J Jx .normal s := by
 unfold Fin9; exact ⟨.inl rfl, L, .inl ⟨h, hL⟩⟩
theorem fin9_ret {l : Nat} {r : Loop} {M : List Own} {J : H → List Own → Prop} {Jx : Code → H → List Own → Prop} {s : S} {c : Code} (L : List Own) (h : Jx c s.h L) (hL : s.L = L ++ .obj l (.loop { r with state := .done, pending := some c }) :: M) : Fin9 l r M J Jx .ret s := by
 unfold Fin9; exact ⟨.inr rfl, L, .inr ⟨c, h, hL⟩⟩
theorem iter_fn {C : Ctx} (hP : C.P = Tryz.prog) {l : Nat} {r : Loop} {M : List Own} {v : Value} {xs : List Sy} {h0 : H} {box : Nat} (hb : h0 box = some (.cells #[v] 22 (0, 0))) (hx : RdS h0 v xs) (hps : r.params.size = 2)
 {J : Nat → H → List Own → Prop} {Jx : Code → H → List Own → Prop}
 (round : ∀ i h L, i < xs.length → (∀ b o, h0 b = some o → h b = some o) → J i h L → ∀ av, RdI h av (xs.getD i ([], false)).1 → ∀ (n : Nat) (N : List Own) (w : World), Mem C h (L ++ .obj l (.loop r) :: N) w →
  RoundIn Fence.wide n C.P l r.fn ((r.params.zip [.int .i64 i, .agg #[av, .bool (xs.getD i ([], false)).2]].toArray).foldl (fun tmps (t, a) => tmps.setIfInBounds t a) r.tmps) r.assign r.body w fun e w' => ∃ h' L', (((∀ b o, h b = some o → h' b = some o) ∧ J (i + 1) h' L') ∧ e = .returned (.bool true) ∧ Mem C h' (L' ++ .obj l (.loop r) :: N) w') ∨
  ∃ c, Jx c h' L' ∧ e = .returned (.bool false) ∧ Mem C h' (L' ++ .obj l (.loop { r with state := .done, pending := some c }) :: N) w')
 {L : List Own} {w : World} (hJ : J 0 h0 L) (hm : Mem C h0 (L ++ .obj l (.loop r) :: M) w) (n : Nat) :
 CallsIn Fence.wide n C.P 159 #[.func (.yield l) #[] #[], .pointer (some ⟨box, 0, none⟩)] w (SeqEnd C l r M (fun h' L' => (∀ b o, h0 b = some o → h' b = some o) ∧ J xs.length h' L') Jx) := by
 have hxm := hx.len
 rw [hP] at round ⊢
 refine iter_of (vs := [.func (.yield l) #[] #[], .pointer (some ⟨box, 0, none⟩)]) func159 rfl ntmps159 (Nat.le_of_ble_eq_true rfl) rfl hm ?_ n
 refine wp_seq' (wp_text rfl ?_)
 refine rs rfl (s_ld rfl rfl isAgg22 (Cell.imm (h := h0) #[v] 22 (0, 0) hb rfl)) ?_
 refine rs rfl (s_lenS hx rfl rfl underlying22) ?_
 refine rm rfl ?_
 apply run_end
 refine wp_block' (wp_loop' (ι := Nat × H × List Own) (fun i => i.1 ≤ xs.length ∧ (∀ b o, h0 b = some o → i.2.1 b = some o) ∧ J i.1 i.2.1 i.2.2) (fun i => ⟨[(7, .int .i64 i.1), (6, .int .i64 xs.length), (5, v), (0, .func (.yield l) #[] #[])], i.2.1, i.2.2 ++ .obj l (.loop r) :: M⟩) (fun i => xs.length - i.1) (0, h0, L) ⟨Nat.zero_le _, fun _ _ hb => hb, hJ⟩ ⟨by repeat (first|exact True.intro|refine And.intro rfl ?_), rfl, List.Sublist.refl _⟩ fun i hi => ?_)
 obtain ⟨i, h, L⟩ := i
 obtain ⟨hi, hh, hJ⟩ := hi
 dsimp only at hi hh hJ ⊢
 refine wp_seq' (wp_text rfl ?_)
 refine rs rfl (s_lt rfl rfl rfl) ?_
 apply run_end
 refine wp_seq' (wp_if' rfl (fun hc => ?_) (fun hc => ?_))
 ·apply wp_skip'
  have hx' : RdS h v xs := hx.mono hh
  obtain ⟨av, hav, hat⟩ := hx'.get (j := i) (by omega)
  refine wp_seq' (wp_block' ?_)
  refine wp_seq' (wp_text rfl ?_)
  refine rm rfl ?_
  refine rs rfl (s_iaS hx' (by omega) (by omega) rfl rfl rfl underlying22 sizeOf37) ?_
  refine rs rfl (s_ldS hat (by omega) rfl rfl isAgg37 sizeOf37) ?_
  refine run_alloc rfl rfl rfl rfl rfl zeroValue37 rfl fun b4 => ?_
  refine rm rfl ?_
  refine run_st2 rfl rfl rfl rfl rfl rfl (RdI.one hav) rfl sizeOf37 (by repeat first|exact Swap.here|apply Swap.there) rfl ?_
  apply run_end
  refine wp_seq' (wp_textY (fun _ _ h => h) [0, 1, 2] 3 [4] rfl ?_)
  refine rm rfl ?_
  refine rm rfl ?_
  refine rs rfl (s_ld2 rfl rfl isAgg37 sizeOf37 (.own _ _ _ List.mem_cons_self rfl) (.own _ _ _ List.mem_cons_self rfl)) ?_
  apply run_end
  refine y_step (r := r) (R := fun b h' L2 => (b = true ∧ ∃ L', ((∀ b o, h b = some o → h' b = some o) ∧ J (i + 1) h' L') ∧ L2 = L' ++ .obj l (.loop r) :: M) ∨ (b = false ∧ ∃ c L', Jx c h' L' ∧ L2 = L' ++ .obj l (.loop { r with state := .done, pending := some c }) :: M)) rfl rfl rfl rfl rfl rfl (vs := [.int .i64 i, .agg #[av, .bool (xs.getD i ([], false)).2]]) rfl (by simp) (by simp [hps]) (fun n N w m => ?_) fun b h' L2 hR => ?_
  ·have m' := (mem9.1 m).sub (L' := L ++ .obj l (.loop r) :: (M ++ N)) (by simp)
   refine RoundIn.mono (round i h L (by omega) hh hJ av hav n (M ++ N) w m') fun e w' ⟨h', L', hR⟩ => ?_
   rcases hR with ⟨h1, h2, h3⟩ | ⟨c, h1, h2, h3⟩
   ·exact ⟨true, h', _, h2, .inl ⟨rfl, L', h1, rfl⟩, mem9.2 (by simpa using h3)⟩
   ·exact ⟨false, h', _, h2, .inr ⟨rfl, c, L', h1, rfl⟩, mem9.2 (by simpa using h3)⟩
  rcases hR with ⟨rfl, L', ⟨h1, h2⟩, rfl⟩ | ⟨rfl, c, L', h1, rfl⟩
  ·refine rs rfl (s_not rfl rfl) ?_
   apply run_end
   refine wp_cond' rfl (fun hb => by cases hb) (fun _ => ?_)
   apply wp_skip'
   refine wp_text rfl ?_
   refine rs rfl (s_add rfl rfl rfl (IntWalk.i64_in _ (by omega))) ?_
   refine rm rfl ?_
   apply run_end
   exact ⟨(i + 1, h', L'), ⟨by dsimp only; omega, fun b o hb => h1 b o (hh b o hb), h2⟩, by dsimp only; omega, by repeat (first|exact True.intro|refine And.intro rfl ?_), rfl, List.Sublist.refl _⟩
  ·refine rs rfl (s_not rfl rfl) ?_
   apply run_end
   refine wp_cond' rfl (fun _ => ?_) (fun hb => by cases hb)
   apply wp_ret'
   exact fin9_ret L' h1 rfl
 ·apply wp_exit'
  obtain rfl : i = xs.length := by omega
  exact fin9_end L ⟨hh, hJ⟩ rfl
/-- for i, a := range all(l) { .. } -/
theorem wp_all {C : Ctx} (hG : C.G = RoOk) (hP : C.P = Tryz.prog) {Q : Exit → S → Prop} {g : Operand} {p1 p2 : Nat} {assign body : Code} {s : S} {box : Nat} {v : Value} {xs : List Sy}
 (hg : evF s.F g = some (.func (.func 159) #[] #[.pointer (some ⟨box, 0, none⟩)])) (hb : s.h box = some (.cells #[v] 22 (0, 0))) (hx : RdS s.h v xs) (h12 : Nat.beq p1 p2 = false) (h1 : Nat.blt p1 C.n = true) (h2 : Nat.blt p2 C.n = true)
 (J : Nat → H → List Own → Prop) (Jx : Code → H → List Own → Prop) (h0 : J 0 s.h s.L)
 (round : ∀ i h L, i < xs.length → (∀ b o, s.h b = some o → h b = some o) → J i h L → ∀ av, RdI h av (xs.getD i ([], false)).1 → WP C assign (onlyN fun s' => WP C body (RoundEnd (fun h' L' => (∀ b o, h b = some o → h' b = some o) ∧ J (i + 1) h' L') Jx) s') ⟨(p2, .agg #[av, .bool (xs.getD i ([], false)).2]) :: (p1, .int .i64 i) :: s.F, h, L⟩)
 (after : ∀ h L, (∀ b o, s.h b = some o → h b = some o) → J xs.length h L → Q .normal ⟨s.F, h, L⟩) (afterx : ∀ c h L, Jx c h L → WP C c Q ⟨s.F, h, L⟩) : WP C (.rangeFunc g #[p1, p2] assign body) Q s := by
 refine wp_rangeF hG hg (by rw [hP]; exact en159) (fun h' L' => (∀ b o, s.h b = some o → h' b = some o) ∧ J xs.length h' L') Jx (fun n l r M w hrec hm => ?_) (fun h L hJ => after h L hJ.1 hJ.2) afterx
 obtain ⟨r1, r2, r3, r4, r5, r6, r7⟩ := hrec
 refine iter_fn hP hb hx (by rw [r3]; rfl) (J := J) (Jx := Jx) (fun i h L hi hh hJ av hav n N w m => ?_) h0 hm n
 subst r4 r5
 generalize htm : Array.foldl (fun tmps (x : Nat × Value) => match x with | (t, a) => tmps.setIfInBounds t a) r.tmps (r.params.zip [.int .i64 i, .agg #[av, .bool (xs.getD i ([], false)).2]].toArray) = tm
 rw [r3] at htm
 show RoundIn (wr none) n C.P l r.fn tm r.assign r.body w _
 refine round_of hG (ro := none) r1 r2 (F := (p2, .agg #[av, .bool (xs.getD i ([], false)).2]) :: (p1, .int .i64 i) :: s.F) ?_ (fun t u ht => ?_) m (round i h L hi hh hJ av hav)
 ·subst htm
  simp only [List.zip_toArray, List.zip_cons_cons, List.zip_nil_right, List.foldl_toArray, List.foldl_cons, List.foldl_nil, Array.size_setIfInBounds]
  exact r6
 have hn1 : p1 < r.tmps.size := by rw [r6]; exact Nat.le_of_ble_eq_true h1
 have hn2 : p2 < r.tmps.size := by rw [r6]; exact Nat.le_of_ble_eq_true h2
 have hne : p1 ≠ p2 := fun e => by rw [e, Nat.beq_refl] at h12; cases h12
 subst htm
 simp only [List.zip_toArray, List.zip_cons_cons, List.zip_nil_right, List.foldl_toArray, List.foldl_cons, List.foldl_nil]
 simp only [lookup_cons'] at ht
 split at ht
 ·rename_i e
  subst e
  cases ht
  rw [Array.getElem?_setIfInBounds_self_of_lt (by simpa using hn2)]
 ·rename_i e
  rw [Array.getElem?_setIfInBounds_ne (Ne.symm e)]
  split at ht
  ·rename_i e1
   subst e1
   cases ht
   rw [Array.getElem?_setIfInBounds_self_of_lt hn1]
  ·rename_i e1
   rw [Array.getElem?_setIfInBounds_ne (Ne.symm e1)]
   exact r7 t u ht
end Go.Tal

/-
 Sorting: the kit's contracts of slices.SortFunc as contracts over rows of one's own.
-/
namespace Go.Tal
open Go.RowKit Go.Sort Go.Proofs Go.Shelf
theorem kp_grow {w w' : World} (k : Kp w [] w') : ∃ q os, w' = grow (w.drewN q) os := by
 refine ⟨w'.drawn - w.drawn, w'.heap.extract w.heap.size w'.heap.size, ?_⟩
 obtain ⟨hp, tp, dr, os, out⟩ := w
 obtain ⟨hp', tp', dr', os', out'⟩ := w'
 obtain ⟨h1, h2, h3, h4, h5, h6⟩ := k
 simp only at h1 h2 h3 h4 h5 h6
 subst h1 h2 h3
 simp only [grow, World.drewN, World.mk.injEq, true_and, and_true]
 refine ⟨?_, by omega⟩
 apply Array.ext_getElem?
 intro j
 by_cases hj : j < hp.size
 ·rw [Array.getElem?_append_left hj]
  exact h6 j hj (by simp)
 ·rw [Array.getElem?_append_right (by omega), Array.getElem?_extract]
  by_cases hj2 : j < hp'.size
  ·rw [if_pos (by omega)]
   congr 1
   omega
  ·rw [if_neg (by omega)]
   exact Array.getElem?_eq_none (by omega)
theorem putRow_heap {α : Type} [Inhabited α] (enc : α → Value) (w : World) (b off : Nat) (d : Array α) {k : Nat} (hk : k ≠ b) : (putRow enc w b off d).heap[k]? = w.heap[k]? := by
 simp only [putRow, mapBlock, Array.getElem?_modify]
 rw [if_neg (fun e => hk e.symm)]
theorem putRow_here {α : Type} [Inhabited α] (enc : α → Value) (w : World) (b : Nat) (d : Array α) {c : Array Value} {e : TypeId} {fz : Nat × Nat} (hb : w.heap[b]? = some (.cells c e fz)) : (putRow enc w b 0 d).heap[b]? = some (.cells (putCells enc 0 d c) e fz) := by
 simp only [putRow, mapBlock, Array.getElem?_modify, if_true, hb, Option.map_some]
 rfl
theorem putCells_take {α : Type} [Inhabited α] (enc : α → Value) (d : Array α) (c : Array Value) (h : d.size ≤ c.size) : (putCells enc 0 d c).toList.take d.size = d.toList.map enc := by
 apply List.ext_getElem?
 intro j
 rw [List.getElem?_take]
 by_cases hj : j < d.size
 ·rw [if_pos hj, List.getElem?_map]
  simp only [putCells, Array.getElem?_toList, Array.getElem?_mapIdx]
  rw [Array.getElem?_eq_getElem (by omega), Array.getElem?_eq_getElem hj]
  simp [hj]
 ·rw [if_neg hj, List.getElem?_map]
  simp [Array.getElem?_eq_none (show d.size ≤ j by omega)]
theorem size_putCells' {α : Type} [Inhabited α] (enc : α → Value) (d : Array α) (c : Array Value) : (putCells enc 0 d c).size = c.size := by simp [putCells]
/-- A row that has been put. -/
theorem put_mem {P : Program} {α : Type} [Inhabited α] {enc : α → Value} {w : World} {h : H} {b n cap k m : Nat} {e : TypeId} {xs : List Value} {d : Array α} {os : Array Obj} (hs : Sat h [.row (.slice (some ⟨b, 0, none⟩) n cap) e k n xs] w) (hd : d.size = n * k) :
 Mem (ctxM P w h [.row (.slice (some ⟨b, 0, none⟩) n cap) e k n xs] 0) h [.row (.slice (some ⟨b, 0, none⟩) n cap) e k n (d.toList.map enc)] (grow (putRow enc (Go.Sort.ahead w m) b 0 d) os) := by
 have hr : w.ownsRow 0 e k (.slice (some ⟨b, 0, none⟩) n cap) n xs := hs.own _ List.mem_cons_self
 obtain ⟨hl, hr⟩ := hr
 rcases hr with ⟨hr, _⟩ | ⟨g, cap', cur, hr, hb0, hg, hnc, hcm, hsz, htk⟩
 ·cases hr
 cases hr
 have hlt := (Array.getElem?_eq_some_iff.1 hg).1
 have hsize : (putRow enc (Go.Sort.ahead w m) b 0 d).heap.size = w.heap.size := Go.Sort.size_putRow _ _ _ _ _
 have hold : ∀ j, j < w.heap.size → j ≠ b → (grow (putRow enc (Go.Sort.ahead w m) b 0 d) os).heap[j]? = w.heap[j]? := fun j hj hjb => by
  show ((putRow enc (Go.Sort.ahead w m) b 0 d).heap ++ os)[j]? = _
  rw [Array.getElem?_append_left (by rw [hsize]; exact hj), putRow_heap _ _ _ _ _ hjb]
  rfl
 have hhb : h b = none := hs.off _ List.mem_cons_self b rfl
 have hcap : n * k ≤ cur.size := by rw [hsz]; exact Nat.mul_le_mul_right _ hnc
 refine ⟨⟨fun j o hj => ?_, fun x hx => ?_, fun x hx c hc => ?_, ?_⟩, fun x hx c hc => ?_, fun _ _ => rfl, ⟨rfl, rfl, rfl, ?_, ?_, fun j hj hI => ?_⟩⟩
 ·have h1 := hs.imm j o hj
  rw [hold j (Array.getElem?_eq_some_iff.1 h1).1 (fun e => by rw [e, hhb] at hj; cases hj)]
  exact h1
 ·rw [List.mem_singleton] at hx
  subst hx
  refine ⟨by rw [List.length_map, Array.length_toList, hd], .inr ⟨b, cap, putCells enc 0 d cur, rfl, hb0, ?_, hnc, hcm, by rw [size_putCells', hsz], ?_⟩⟩
  ·show ((putRow enc (Go.Sort.ahead w m) b 0 d).heap ++ os)[b]? = _
   rw [Array.getElem?_append_left (by rw [hsize]; exact hlt)]
   exact putRow_here enc (Go.Sort.ahead w m) b d hg
  ·rw [← hd]
   exact putCells_take enc d cur (by omega)
 ·rw [List.mem_singleton] at hx
  subst hx
  cases hc
  exact hhb
 ·exact List.pairwise_singleton _ _
 ·rw [List.mem_singleton] at hx
  subst hx
  cases hc
  exact .inr (blk_mem (x := .row (.slice (some ⟨b, 0, none⟩) n cap) e k n xs) List.mem_cons_self rfl)
 ·show w.heap.size ≤ ((putRow enc (Go.Sort.ahead w m) b 0 d).heap ++ os).size
  rw [Array.size_append, hsize]
  exact Nat.le_add_right _ _
 ·exact Nat.le_add_right _ _
 ·refine hold j hj (fun e => hI ?_)
  subst e
  exact blk_mem (x := .row (.slice (some ⟨_, 0, none⟩) n cap) e k n xs) List.mem_cons_self rfl
theorem flatK_list {α : Type} [Inhabited α] (enc : α → List Value) (k : Nat) (hk : ∀ x, (enc x).length = k) (d : Array α) : (flatK enc k d).toList = d.toList.flatMap enc := by
 have key : ∀ (l : List α), (flatK enc k l.toArray).toList = l.flatMap enc := by
  intro l
  have hlen : ∀ l : List α, (l.flatMap enc).length = l.length * k := fun l => by
   induction l with
   | nil => simp
   | cons x l ih => rw [List.flatMap_cons, List.length_append, ih, hk]; simp [Nat.succ_mul]; omega
  apply List.ext_getElem?
  intro j
  by_cases hj : j < l.length * k
  ·have hk0 : 0 < k := by exact Nat.pos_of_ne_zero (fun h0 => by rw [h0] at hj; omega)
   have h1 : (flatK enc k l.toArray)[j]! = (enc l.toArray[j / k]!)[j % k]! := get_flatK enc k l.toArray j (by simpa using hj)
   have hsz : j < (flatK enc k l.toArray).size := by simpa using hj
   rw [Array.getElem?_toList, Array.getElem?_eq_getElem hsz, ← getElem!_pos _ j hsz, h1]
   clear h1 hsz
   induction l generalizing j with
   | nil => simp at hj
   | cons x l ih =>
    rw [List.flatMap_cons]
    by_cases hjk : j < k
    ·rw [List.getElem?_append_left (by rw [hk]; exact hjk), Nat.div_eq_of_lt hjk, Nat.mod_eq_of_lt hjk]
     have : j < (enc x).length := by rw [hk]; exact hjk
     simp [this]
    ·rw [List.getElem?_append_right (by rw [hk]; omega), hk]
     have hj' : j - k < l.length * k := by simp only [List.length_cons, Nat.succ_mul] at hj; omega
     rw [← ih (j - k) hj']
     have e1 : j / k = (j - k) / k + 1 := by
      rw [Nat.div_eq_sub_div hk0 (by omega)]
     have e2 : j % k = (j - k) % k := Nat.mod_eq_sub_mod (by omega)
     rw [e1, e2]
     congr 2
     have hq : (j - k) / k < l.length := (Nat.div_lt_iff_lt_mul hk0).2 hj'
     simp [getElem!_pos, hq]
  ·rw [List.getElem?_eq_none (l := l.flatMap enc) (by rw [hlen]; omega)]
   exact List.getElem?_eq_none (by simp; omega)
 simpa using key d.toList
theorem perm_of_in {α : Type} [Inhabited α] {d d' : Array α} (h : PermIn 0 d.size d d') : d'.toList.Perm d.toList := by
 obtain ⟨hsz, _, hperm⟩ := h
 have e1 : d'.extract 0 d.size = d' := by rw [← hsz]; exact Array.extract_size
 rw [e1, Array.extract_size] at hperm
 exact hperm
theorem sorted_of_in {α : Type} [Inhabited α] {lt : α → α → Bool} {d d' : Array α} (hsz : d'.size = d.size) (h : SortedIn lt 0 d.size d') : d'.toList.Pairwise fun x y => lt y x = false := by
 rw [List.pairwise_iff_getElem]
 intro i j hi hj hij
 have hi' : i < d'.size := by simpa using hi
 have hj' : j < d'.size := by simpa using hj
 have := h i j (Nat.zero_le _) hij (by omega)
 rw [getElem!_pos d' j hj', getElem!_pos d' i hi'] at this
 simpa using this
variable {P : Program} {ρ : Ren} {α : Type} [Inhabited α]
/-- slices.SortFunc over structs of k cells. -/
theorem sortK_fn (L : SlLaysF0.n6 P ρ) (k : Nat) (aE : ∀ w, (isAgg (ρ.t 24)).run P w = .ok true w) (zE : ∀ w, (Go.sizeOf (ρ.t 24)).run P w = .ok k w) (enc : α → List Value) (hk : ∀ x, (enc x).length = k) (h1 : ∀ x, ∀ v ∈ enc x, v.oneCell' = true) (cf : α → α → Int) (hO : SWO (ltOf cf)) (g : Nat) (cb : Array Value)
 {h : H} {e : TypeId} {n cap b : Nat} (d : List α) (eg : ∀ args w, (callFunc g args).run P w = .ok (.enter g args) w) (hcmp : ∀ x y : α, FnV P g (#[.agg (enc x).toArray, .agg (enc y).toArray] ++ cb) h (.int .i64 (cf x y))) (hn : d.length = n) (hsz : n < 4611686018427387904) :
 FnM P (ρ.f 6) #[.slice (some ⟨b, 0, none⟩) n cap, .func (.func g) #[] cb] h [.row (.slice (some ⟨b, 0, none⟩) n cap) e k n (d.flatMap enc)] fun v h' L' => v = .tuple #[] ∧ h' = h ∧ ∃ d' : List α, d'.Perm d ∧ d'.Pairwise (fun x y => ltOf cf y x = false) ∧ L' = [.row (.slice (some ⟨b, 0, none⟩) n cap) e k n (d'.flatMap enc)] := by
 intro w hs
 subst hn
 have hr : w.ownsRow 0 e k (.slice (some ⟨b, 0, none⟩) d.length cap) d.length (d.flatMap enc) := hs.own _ List.mem_cons_self
 have hhb : h b = none := hs.off _ List.mem_cons_self b rfl
 have hcl : CmpLays P g cb enc k cf b 0 d.toArray.size w := by
  intro m os dk hdk x y
  refine (hcmp x y (sortWorldK enc k w b 0 m dk os) fun c o hc => ?_).mono fun e w' ⟨v, h', he, hv, _, _, hkp⟩ => ⟨by rw [he, hv], kp_grow hkp⟩
  have h1 := hs.imm c o hc
  have hlt := (Array.getElem?_eq_some_iff.1 h1).1
  show ((putRow id (Go.Sort.ahead w m) b 0 (flatK enc k dk)).heap ++ os)[c]? = _
  rw [Array.getElem?_append_left (by rw [Go.Sort.size_putRow]; exact hlt), putRow_heap _ _ _ _ _ (fun e => by rw [e, hhb] at hc; cases hc)]
  exact h1
 obtain ⟨hl, hr⟩ := hr
 rcases hr with ⟨hr, _⟩ | ⟨g', cap', cur, hr, hb0, hg, hnc, hcm, hsz', htk⟩
 ·cases hr
 cases hr
 have hH : HoldsK enc k w b 0 d.toArray := fun j hj => by
  have hj' : j < d.length * k := by simpa using hj
  have hjc : j < cur.size := by rw [hsz']; exact Nat.lt_of_lt_of_le hj' (Nat.mul_le_mul_right _ hnc)
  refine ⟨?_, by simp [World.frozen?, hg]⟩
  have e1 : (flatK enc k d.toArray).toList[j]? = cur.toList[j]? := by
   rw [flatK_list enc k hk, ← htk, List.getElem?_take, if_pos hj']
  have hj2 : j < (flatK enc k d.toArray).size := by simpa using hj
  rw [Array.getElem?_toList, Array.getElem?_eq_getElem hj2, ← getElem!_pos _ j hj2] at e1
  simp only [World.cell?, hg, Option.isSome_none, Bool.false_eq_true, if_false, Nat.zero_add]
  rw [← Array.getElem?_toList, ← e1]
  rfl
 have hc := AnyQ.slices_SortFunc L k aE zE enc hk h1 cf hO g cb b 0 cap d.toArray w eg hcl hH (Array.getElem?_eq_some_iff.1 hg).1 (by simpa using hsz)
 simp only [List.size_toArray] at hc
 refine hc.mono fun e' w' ⟨he, d', m, os, hp, hso, hw⟩ => ?_
 have hsz2 : d'.size = d.length := by simpa using hp.1
 refine ⟨.tuple #[], h, _, he, ⟨rfl, rfl, d'.toList, by simpa using perm_of_in (d := d.toArray) (by simpa using hp), sorted_of_in (d := d.toArray) hp.1 (by simpa using hso), rfl⟩, ?_⟩
 have hpm := put_mem (P := P) (enc := id) (m := m) (os := os) (d := flatK enc k d') hs (by rw [size_flatK, hsz2])
 rw [List.map_id, flatK_list enc k hk] at hpm
 rw [hw]
 exact hpm
/-- .. over elements of one cell. -/
theorem sort1_fn (L : SlLaysF.n6 P ρ) (enc : α → Value) (h1 : OneCell enc) (cf : α → α → Int) (hO : SWO (ltOf cf)) (g : Nat) (cb : Array Value)
 {h : H} {e : TypeId} {n cap b : Nat} (d : List α) (eg : ∀ args w, (callFunc g args).run P w = .ok (.enter g args) w) (hcmp : ∀ x y : α, FnV P g (#[enc x, enc y] ++ cb) h (.int .i64 (cf x y))) (hn : d.length = n) (hsz : n < 4611686018427387904) :
 FnM P (ρ.f 6) #[.slice (some ⟨b, 0, none⟩) n cap, .func (.func g) #[] cb] h [.row (.slice (some ⟨b, 0, none⟩) n cap) e 1 n (d.map enc)] fun v h' L' => v = .tuple #[] ∧ h' = h ∧ ∃ d' : List α, d'.Perm d ∧ d'.Pairwise (fun x y => ltOf cf y x = false) ∧ L' = [.row (.slice (some ⟨b, 0, none⟩) n cap) e 1 n (d'.map enc)] := by
 intro w hs
 subst hn
 have hr : w.ownsRow 0 e 1 (.slice (some ⟨b, 0, none⟩) d.length cap) d.length (d.map enc) := hs.own _ List.mem_cons_self
 have hhb : h b = none := hs.off _ List.mem_cons_self b rfl
 have hcl : CmpLays1 P g cb enc cf b 0 d.toArray.size w := by
  intro m os dk hdk x y
  refine (hcmp x y (sortWorld enc w b 0 m dk os) fun c o hc => ?_).mono fun e w' ⟨v, h', he, hv, _, _, hkp⟩ => ⟨by rw [he, hv], kp_grow hkp⟩
  have h1 := hs.imm c o hc
  have hlt := (Array.getElem?_eq_some_iff.1 h1).1
  show ((putRow enc (Go.Sort.ahead w m) b 0 dk).heap ++ os)[c]? = _
  rw [Array.getElem?_append_left (by rw [Go.Sort.size_putRow]; exact hlt), putRow_heap _ _ _ _ _ (fun e => by rw [e, hhb] at hc; cases hc)]
  exact h1
 obtain ⟨hl, hr⟩ := hr
 rcases hr with ⟨hr, _⟩ | ⟨g', cap', cur, hr, hb0, hg, hnc, hcm, hsz', htk⟩
 ·cases hr
 cases hr
 have hH : Holds enc w b 0 d.toArray := fun j hj => by
  have hj' : j < d.length := by simpa using hj
  refine ⟨?_, by simp [World.frozen?, hg]⟩
  have e1 : (d.map enc)[j]? = cur.toList[j]? := by rw [← htk, List.getElem?_take, if_pos (by omega)]
  rw [List.getElem?_map, List.getElem?_eq_getElem hj'] at e1
  simp only [Option.map_some] at e1
  simp [World.cell?, hg, ← Array.getElem?_toList, ← e1, hj']
 have hc := Any.slices_SortFunc L enc h1 cf hO g cb b 0 cap d.toArray w eg hcl hH (Array.getElem?_eq_some_iff.1 hg).1 (by simpa using hsz)
 simp only [List.size_toArray] at hc
 refine hc.mono fun e' w' ⟨he, d', m, os, hp, hso, hw⟩ => ?_
 have hsz2 : d'.size = d.length := by simpa using hp.1
 refine ⟨.tuple #[], h, _, he, ⟨rfl, rfl, d'.toList, by simpa using perm_of_in (d := d.toArray) (by simpa using hp), sorted_of_in (d := d.toArray) hp.1 (by simpa using hso), rfl⟩, ?_⟩
 rw [hw]
 exact put_mem hs (by omega)
end Go.Tal

/-
 Symbolic states: ranges over maps whose keys are strings.
-/
namespace Go.Tal
open Go.RowKit
theorem mem_mkE : ∀ {i : Nat} {kvs : List (ByteArray × Value)} {x : MapEntry}, x ∈ mkE i kvs ↔ ∃ j p, kvs[j]? = some p ∧ x = { key := .string p.1, val := p.2, born := i + j }
 | i, [], x => by simp [mkE]
 | i, (k, v) :: r, x => by
  simp only [mkE, List.mem_cons, mem_mkE (i := i + 1) (kvs := r)]
  constructor
  ·rintro (rfl | ⟨j, p, h1, h2⟩)
   ·exact ⟨0, (k, v), rfl, rfl⟩
   ·exact ⟨j + 1, p, by simpa using h1, by rw [h2]; congr 1; omega⟩
  ·rintro ⟨j, p, h1, h2⟩
   cases j with
   | zero => simp at h1; subst h1; left; exact h2
   | succ j => right; exact ⟨j, p, by simpa using h1, by rw [h2]; congr 1; omega⟩
theorem born_mkE : ∀ (i : Nat) (kvs : List (ByteArray × Value)), (mkE i kvs).map (·.born) = List.range' i kvs.length
 | _, [] => rfl
 | i, (k, v) :: r => by simp [mkE, born_mkE (i + 1) r, List.range']
def iterO (m n : Nat) (seen : List Nat) : Obj := .mapIter (some m) n seen.toArray n
section
variable {dr : Bool} {C : Ctx} {ops : Array Oper} {K : S → Prop} {i d : Nat} {r : List Nat} {F : List (Nat × Value)} {h : H} {L : List Own} {o : Oper} {x : Operand} {P : Program}
theorem run_rangem {t k e : TypeId} {m : Nat} {kvs : List (ByteArray × Value)} (ho : ops[i]? = some o) (hop : o.op = .range t x) (hg : o.guard = none) (hd : o.dst = some d) (hn : Nat.blt d C.n = true) (hx : evF F x = some (.map (some m))) (ht : C.P.underlying t = some (.map k e)) (hm : MapAt h L m kvs)
 (kk : ∀ b, Run dr C ops K r ⟨(d, .pointer (some ⟨b, 0, none⟩)) :: F, h, .obj b (iterO m kvs.length []) :: L⟩) : Run dr C ops K (i :: r) ⟨F, h, L⟩ := by
 refine run_hard ho hg (dst_lt hd hn) (by simp [cls, hop]) (OutNew h L (fun b => .obj b (iterO m kvs.length [])) fun b => .pointer (some ⟨b, 0, none⟩)) (frm_new fun M a w ha _ _ hmem => ?_) fun _ _ _ ⟨b, e1, e2, e3⟩ => by subst e1 e2 e3; rw [hd]; exact ⟨fun _ _ => grow_new _, kk b⟩
 have h1 := agree_of ha (by rw [hop]; simp [Op.operands]) hx
 have hb := hm.at_ (hmem.sat.less ⟨fun _ _ hb => hb, List.sublist_append_left L M⟩)
 refine upon_val (q := .pointer (some ⟨w.heap.size, 0, none⟩)) (w' := w.alloc (iterO m kvs.length [])) ?_ ⟨_, h, _, ⟨w.heap.size, rfl, rfl, rfl⟩, rfl, hmem.alloc _⟩
 simp only [execOp, hop, h1]
 exact run_v (run_range_map w t k e m _ _ ht hb)
theorem MapAt.frame {b : Nat} {kvs : List (ByteArray × Value)} (hm : MapAt h L b kvs) (M : List Own) : MapAt h (L ++ M) b kvs := by
 cases hm with
 | imm hb => exact .imm hb
 | own hb => exact .own (List.mem_append_left _ hb)
/-- One round more, or none. -/
theorem run_nextm {m b : Nat} {seen : List Nat} {kvs : List (ByteArray × Value)} {L' : Nat → List Own} (ho : ops[i]? = some o) (hop : o.op = .next x false) (hg : o.guard = none) (hd : o.dst = some d) (hn : Nat.blt d C.n = true) (hx : evF F x = some (.pointer (some ⟨b, 0, none⟩))) (hm : MapAt h L m kvs) (hb : Own.obj b (iterO m kvs.length seen) ∈ L)
 (p : ∀ j, Swap (.obj b (iterO m kvs.length seen)) (.obj b (iterO m kvs.length (seen ++ [j]))) L (L' j))
 (k0 : (∀ j, j < kvs.length → j ∈ seen) → Run dr C ops K r ⟨(d, .tuple #[.bool false]) :: F, h, L⟩)
 (k1 : ∀ j q, kvs[j]? = some q → j ∉ seen → Run dr C ops K r ⟨(d, .tuple #[.bool true, .string q.1, q.2]) :: F, h, L' j⟩) : Run dr C ops K (i :: r) ⟨F, h, L⟩ := by
 refine run_hard ho hg (dst_lt hd hn) (by simp [cls, hop]) (fun v h' L2 => ((∀ j, j < kvs.length → j ∈ seen) ∧ v = .tuple #[.bool false] ∧ h' = h ∧ L2 = L) ∨ ∃ j q, kvs[j]? = some q ∧ j ∉ seen ∧ v = .tuple #[.bool true, .string q.1, q.2] ∧ h' = h ∧ L2 = L' j) (fun M a w ha _ _ hmem => ?_) fun v h' L2 ho' => ?_
 ·have h1 := agree_of ha (by rw [hop]; simp [Op.operands]) hx
  have hmo := (hm.frame M).at_ hmem.sat
  have hbo : w.heap[b]? = some (iterO m kvs.length seen) := hmem.sat.own _ (List.mem_append_left _ hb)
  have hex : execOp a.eval o = (Instr.next (.pointer (some ⟨b, 0, none⟩)) false o.type >>= fun v => pure (Next.value v)) := by simp only [execOp, hop, h1]
  rcases run_next_at (P := C.P) w o.type b m kvs.length kvs.length seen.toArray (mkE 0 kvs).toArray kvs.length hbo hmo (fun e he => by
   obtain ⟨j, q, h2, h3⟩ := mem_mkE.1 (by simpa using he)
   have := (List.getElem?_eq_some_iff.1 h2).1
   rw [h3]; simp; exact this) (Nat.le_refl _) with ⟨h2, h3⟩ | ⟨e, he, w1, hw, h3⟩
  ·refine upon_val (q := .tuple #[.bool false]) (w' := w) (by rw [hex]; exact run_v h3) ⟨_, h, _, ⟨L, .inl ⟨fun j hj => ?_, rfl, rfl, rfl⟩, rfl⟩, rfl, hmem⟩
   refine Classical.byContradiction fun hjn => ?_
   have h4 : leftOf (mkE 0 kvs).toArray seen.toArray = #[] := Array.eq_empty_of_size_eq_zero h2
   unfold leftOf at h4
   rw [Array.filter_eq_empty_iff] at h4
   have := h4 { key := .string (kvs[j]).1, val := (kvs[j]).2, born := j } (by
    simp only [List.mem_toArray]
    exact mem_mkE.2 ⟨j, kvs[j], List.getElem?_eq_getElem hj, by simp⟩)
   simp [hjn] at this
  ·have he' : e ∈ mkE 0 kvs ∧ e.born ∉ seen := by
    simp only [leftOf, Array.toList_filter, List.mem_filter] at he
    simpa using he
   obtain ⟨j, q, h4, h5⟩ := mem_mkE.1 he'.1
   have hj : e.born = j := by rw [h5]; simp
   refine upon_val (q := .tuple #[.bool true, e.key, e.val]) (w' := Go.ChangeMaps.setBlock w1 b (iterO m kvs.length (seen ++ [j]))) (by
    rw [hex]
    have : iterO m kvs.length (seen ++ [j]) = .mapIter (some m) kvs.length (seen.toArray.push e.born) kvs.length := by
     simp [iterO, hj]
    rw [this]
    exact run_v h3) ⟨_, h, _, ⟨L' j, .inr ⟨j, q, h4, by rw [← hj]; exact he'.2, by rw [h5], rfl, rfl⟩, rfl⟩, rfl, ?_⟩
   have hm1 : Mem C h (L ++ M) w1 := by
    rcases hw with rfl | rfl
    ·exact hmem
    ·exact hmem.drew
   have hb1 : w1.heap[b]? = some (iterO m kvs.length seen) := hm1.sat.own _ (List.mem_append_left _ hb)
   have hlt := (Array.getElem?_eq_some_iff.1 hb1).1
   refine hm1.swap ((p j).append M) rfl (fun c hc => .inl (by cases hc; rfl)) ?_ rfl rfl rfl (by simp [Go.ChangeMaps.setBlock]) (Nat.le_refl _) (fun k _ hk => by simp [Go.ChangeMaps.setBlock, Array.getElem?_setIfInBounds_ne (Ne.symm hk)])
   show (w1.heap.setIfInBounds b _)[b]? = _
   rw [Array.getElem?_setIfInBounds_self_of_lt hlt]
 ·rcases ho' with ⟨e1, e2, e3, e4⟩ | ⟨j, q, e1, e2, e3, e4, e5⟩
  ·subst e2 e3 e4; rw [hd]; exact ⟨(fun _ hc => by simp [cls, hop] at hc), k0 e1⟩
  ·subst e3 e4 e5; rw [hd]; exact ⟨(fun _ hc => by simp [cls, hop] at hc), k1 j q e1 e2⟩
/-- The round's entry, read once more. -/
theorem s_entry {m b j : Nat} {seen : List Nat} {q : ByteArray × Value} {kvs : List (ByteArray × Value)} (ho : o.op = .entry x) (hx : evF F x = some (.pointer (some ⟨b, 0, none⟩))) (hm : MapAt h L m kvs) (hb : Own.obj b (iterO m kvs.length (seen ++ [j])) ∈ L) (hj : kvs[j]? = some q) : SoftOk P o F h L (.tuple #[.string q.1, q.2]) := fun a w ha hw => by
 have h1 := agree_of ha (by rw [ho]; simp [Op.operands]) hx
 have hw : Sat h L w := by
  rcases hw with hw | hw
  ·simp [cls, ho] at hw
  ·exact hw
 have hbo : w.heap[b]? = some (iterO m kvs.length (seen ++ [j])) := hw.own _ hb
 simp only [execOp, ho, h1]
 have hr := run_entry_at (P := P) w b m kvs.length seen.toArray (mkE 0 kvs).toArray kvs.length { key := .string q.1, val := q.2, born := j } (by rw [hbo]; simp [iterO]) (hm.at_ hw) (by
  simp only
  exact mem_mkE.2 ⟨j, q, hj, by simp⟩) (by
  simp only
  rw [born_mkE]
  exact List.nodup_range')
 exact run_v hr
end
end Go.Tal

/-
 Symbolic states: maps made, calls that leave a block as it was, rows of symmetries read.
-/
namespace Go.Tal
open Go.RowKit
section
variable {dr : Bool} {C : Ctx} {ops : Array Oper} {K : S → Prop} {i d : Nat} {r : List Nat} {F : List (Nat × Value)} {h : H} {L M : List Own} {o : Oper} {x y : Operand} {cb : Array Value} {g : Operand} {f : FuncId} {args : Array Operand} {ts : Array TypeId} {vs : List Value} {R : Value → H → Prop}
theorem run_mkmapO {t : TypeId} (ho : ops[i]? = some o) (hop : o.op = .makeMap t none) (hg : o.guard = none) (hd : o.dst = some d) (hn : Nat.blt d C.n = true)
 (k : ∀ b, Run dr C ops K r ⟨(d, .map (some b)) :: F, h, .obj b (mapO []) :: L⟩) : Run dr C ops K (i :: r) ⟨F, h, L⟩ := run_mkmap ho hop hg hd hn k
/-- A call that is handed a block, and leaves it as it was. -/
theorem h_callK {X : Own} (ho : o.op = .call { callee := .value g, args := args, argTypes := ts }) (hx : args.toList.map (evF F) = vs.map some) (hgf : evF F g = some (.func (.func f) #[] cb)) (hen : ∀ args w, (callFunc f args).run C.P w = .ok (.enter f args) w) (p : Pick X L M)
 (hf : FnM C.P f (vs.toArray ++ cb) h [X] fun v h' L' => R v h' ∧ L' = [X]) : HardW C o F h L (fun v h' L' => R v h' ∧ (∀ b o, h b = some o → h' b = some o) ∧ L' = L) := fun a w h1 h2 h3 h4 => by
 refine Oper.wp_mono (fun a' w' ⟨v, h', L', ⟨L1, ⟨e1, e2⟩, e3, e4⟩, e5, e6⟩ => ?_) (h_callM ho hx hgf hen (L := [X]) (M := M) p.perm hf a w h1 h2 h3 h4)
 subst e2 e4
 exact ⟨v, h', L, ⟨e1, e3, rfl⟩, e5, e6.perm p.perm.symm⟩
theorem run_callK {X : Own} (ho : ops[i]? = some o) (hop : o.op = .call { callee := .value g, args := args, argTypes := ts }) (hg : o.guard = none) (hd : ∀ t, o.dst = some t → t < C.n)
 (hx : args.toList.map (evF F) = vs.map some) (hgf : evF F g = some (.func (.func f) #[] cb)) (hen : ∀ args w, (callFunc f args).run C.P w = .ok (.enter f args) w) (p : Pick X L M) (hf : FnM C.P f (vs.toArray ++ cb) h [X] fun v h' L' => R v h' ∧ L' = [X])
 (k : ∀ v h', R v h' → (∀ b o, h b = some o → h' b = some o) → Run dr C ops K r ⟨putF o.dst v F, h', L⟩) : Run dr C ops K (i :: r) ⟨F, h, L⟩ :=
 run_hard ho hg hd (by simp [cls, hop]) (fun v h' L' => R v h' ∧ (∀ b o, h b = some o → h' b = some o) ∧ L' = L) (fun N => (h_callK hop hx hgf hen (p.append N) hf).imp fun _ _ _ ⟨e1, e2, e3⟩ => ⟨L, ⟨e1, e2, rfl⟩, e3⟩) fun v h' _ ⟨e1, e2, e3⟩ => by subst e3; exact ⟨fun _ _ => ⟨e2, List.Sublist.refl _⟩, k _ _ e1 e2⟩
end
section
variable {P : Program} {o : Oper} {F : List (Nat × Value)} {h : H} {L : List Own} {v : Value} {x y : Operand} {m : Int} {k : IntKind}
/-- An element's address in a row of one's own, wherever that is. -/
theorem s_iaR {t e : TypeId} {b n c sz : Nat} (hv : v = .slice (some ⟨b, 0, none⟩) n c) (h0 : 0 ≤ m) (h1 : m < n) (ho : o.op = .indexAddr t x y) (hx : evF F x = some v) (hy : evF F y = some (.int k m)) (ht : P.underlying t = some (.slice e)) (hs : ∀ w, (sizeOf e).run P w = .ok sz w) : SoftOk P o F h L (elemPtr sz v m) := by
 exact s_iav ho hx hv rfl hy ht hs h0 h1
theorem s_ldrow2 {t e' : TypeId} {b n c : Nat} {ys : List Value} {u0 u1 : Value} (hv : v = .slice (some ⟨b, 0, none⟩) n c) (hm : Own.row v e' 2 n ys ∈ L) {j : Nat} (hj : m.toNat = j) (hu0 : ys[j * 2]? = some u0) (hu1 : ys[j * 2 + 1]? = some u1) (ho : o.op = .load t x) (hx : evF F x = some (elemPtr 2 v m)) (hg : ∀ w, (isAgg t).run P w = .ok true w) (hs : ∀ w, (sizeOf t).run P w = .ok 2 w) : SoftOk P o F h L (.agg #[u0, u1]) := by
 subst hv hj
 simp only [elemPtr, add_none, Nat.zero_add] at hx
 exact s_ld2 ho hx hg hs (.row e' 2 n c ys hm hu0) (.row e' 2 n c ys hm hu1)
end
/-- A row that is not empty has a block. -/
theorem WP.rowAt {C : Ctx} {Q : Exit → S → Prop} {c : Code} {F : List (Nat × Value)} {h : H} {L L' : List Own} {v : Value} {n sz : Nat} {e : TypeId} {xs : List Value} (p : Pick (.row v e sz n xs) L L') (hn : 0 < n)
 (k : (∃ b cap, v = .slice (some ⟨b, 0, none⟩) n cap ∧ n ≤ cap) → xs.length = n * sz → WP C c Q ⟨F, h, L⟩) : WP C c Q ⟨F, h, L⟩ := by
 intro ro n' M hG a w ⟨Ds, hf, m⟩
 have hin : w.ownsRow 0 e sz v n xs := (m.perm (p.append (Ds.map shut ++ M)).perm).sat.own _ List.mem_cons_self
 refine k ?_ hin.1 ro n' M hG a w ⟨Ds, hf, m⟩
 rcases hin.2 with ⟨_, h2⟩ | ⟨g, cap, cur, h1, _, _, hnc, _⟩
 ·omega
 ·exact ⟨g, cap, h1, hnc⟩
end Go.Tal

/-
 Symbolic states: blocks told as rows; results in cells.
-/
namespace Go.Tal
open Go.RowKit
/-- A block of one's own told as a row. -/
theorem WP.objRow {C : Ctx} {Q : Exit → S → Prop} {c : Code} {F : List (Nat × Value)} {h : H} {L L' : List Own} {b n cap sz : Nat} {e : TypeId} {cur : Array Value} (p : Pick (.obj b (.cells cur e (0, 0))) L L') (hc : Nat.ble n cap = true) (hm : Nat.ble cap maxLen = true) (hs : cur.size = cap * sz)
 (k : WP C c Q ⟨F, h, .row (.slice (some ⟨b, 0, none⟩) n cap) e sz n (cur.toList.take (n * sz)) :: L'⟩) : WP C c Q ⟨F, h, L⟩ :=
 fun ro m M hG a w hs' => k ro m M hG a w (St.map (s := ⟨F, h, L⟩) (t := ⟨F, h, .row (.slice (some ⟨b, 0, none⟩) n cap) e sz n (cur.toList.take (n * sz)) :: L'⟩) (fun _ _ hv => hv) (fun N m => by
  have m1 := m.perm (p.append N).perm
  exact m1.asRow (Nat.le_of_ble_eq_true hc) (Nat.le_of_ble_eq_true hm) hs) hs')
theorem run_loadVar1 {P : Program} {e : TypeId} {b : Nat} {v : Value} {w : World} (hg : ∀ w, (isAgg e).run P w = .ok false w) (hc : w.cell? ⟨b, 0, none⟩ = some v) : (loadVar e ⟨b, 0, none⟩).run P w = .ok v w := by
 simp [loadVar, hg w, hc]
theorem res_ccc {P : Program} {fn : Func} {s : S} {t u q b1 b2 b3 : Nat} {e1 e2 e3 : TypeId} {v1 v2 v3 : Value} (h : fn.results = #[.cell t e1, .cell u e2, .cell q e3]) (ht : s.F.lookup t = some (.pointer (some ⟨b1, 0, none⟩))) (hu : s.F.lookup u = some (.pointer (some ⟨b2, 0, none⟩))) (hq : s.F.lookup q = some (.pointer (some ⟨b3, 0, none⟩)))
 (g1 : ∀ w, (isAgg e1).run P w = .ok false w) (g2 : ∀ w, (isAgg e2).run P w = .ok false w) (g3 : ∀ w, (isAgg e3).run P w = .ok false w) (c1 : Cell s.h s.L b1 0 v1) (c2 : Cell s.h s.L b2 0 v2) (c3 : Cell s.h s.L b3 0 v3) : ResOk P fn s (.tuple #[v1, v2, v3]) := fun a w hsl hsat => by
 have ha : ∀ b, (asAddr (.pointer (some ⟨b, 0, none⟩))).run P w = .ok ⟨b, 0, none⟩ w := fun _ => rfl
 simp [results, h, hsl t _ ht, hsl u _ hu, hsl q _ hq, ha, run_loadVar1 g1 (c1.at_ hsat), run_loadVar1 g2 (c2.at_ hsat), run_loadVar1 g3 (c3.at_ hsat)]
theorem res_cc {P : Program} {fn : Func} {s : S} {t u b1 b2 : Nat} {e1 e2 : TypeId} {v1 v2 : Value} (h : fn.results = #[.cell t e1, .cell u e2]) (ht : s.F.lookup t = some (.pointer (some ⟨b1, 0, none⟩))) (hu : s.F.lookup u = some (.pointer (some ⟨b2, 0, none⟩)))
 (g1 : ∀ w, (isAgg e1).run P w = .ok false w) (g2 : ∀ w, (isAgg e2).run P w = .ok false w) (c1 : Cell s.h s.L b1 0 v1) (c2 : Cell s.h s.L b2 0 v2) : ResOk P fn s (.tuple #[v1, v2]) := fun a w hsl hsat => by
 have ha : ∀ b, (asAddr (.pointer (some ⟨b, 0, none⟩))).run P w = .ok ⟨b, 0, none⟩ w := fun _ => rfl
 simp [results, h, hsl t _ ht, hsl u _ hu, ha, run_loadVar1 g1 (c1.at_ hsat), run_loadVar1 g2 (c2.at_ hsat)]
end Go.Tal

/-
 Symbolic states: regions whose loads may come ahead of stores or behind them: each of these orders is run.
-/
namespace Go.Tal
open Go.RowKit
def hardL (ops : Array Oper) (i : Nat) : Bool := match ops[i]? with
 | some o => decide (2 ≤ cls o) || (decide (cls o = 1) && ops.toList.any fun y => decide (cls y = 3))
 | none => true
/-- j before i: a soft one may come behind it, or i waits for it; two hard ones: nothing is asked. -/
def beforeL (ops : Array Oper) (B : List Nat) (j i : Nat) : Bool :=
 match ops[j]?, ops[i]? with
 | some x, some y => (okPair ops x y || (B.getD i 0).testBit j || (hardL ops j && hardL ops i)) && !(edges x).contains i
 | _, _ => false
def ordOkL (ops : Array Oper) (B : List Nat) : List Nat → Bool
 | [] => true
 | j :: r => r.all (fun i => beforeL ops B j i || (hardL ops j && r.any fun k => hardL ops k && (B.getD i 0).testBit k)) && ordOkL ops B r
def drawsOkL (ops : Array Oper) (ords : List (List Nat)) : Bool :=
 let B := bitsOf ops
 bitsOk ops B && ords.all (fun l => ordOkL ops B l && decide (l.length = ops.size) && (List.range ops.size).all fun i => l.contains i) &&
 (perms ((List.range ops.size).filter (hardL ops))).all fun p => !waits B p || ords.any fun l => l.filter (hardL ops) == p
/-- What is asked of an order. -/
def OrdPL (ops : Array Oper) (B : List Nat) : List Nat → Prop
 | [] => True
 | j :: r => (∀ i ∈ r, beforeL ops B j i = true ∨ (hardL ops j = true ∧ ∃ k ∈ r, hardL ops k = true ∧ (B.getD i 0).testBit k = true)) ∧ OrdPL ops B r
theorem ordOkL_pair {ops : Array Oper} {B : List Nat} : ∀ {l : List Nat}, ordOkL ops B l = true → OrdPL ops B l
 | [], _ => trivial
 | j :: r, h => by
  simp only [ordOkL, Bool.and_eq_true, List.all_eq_true, Bool.or_eq_true, List.any_eq_true] at h
  exact ⟨h.1, ordOkL_pair h.2⟩
theorem OrdPL.mem {ops : Array Oper} {B : List Nat} {i : Nat} {q : List Nat} : ∀ {p : List Nat}, OrdPL ops B (p ++ i :: q) → ∀ j ∈ p, beforeL ops B j i = true ∨ ∃ k ∈ p ++ i :: q, (B.getD i 0).testBit k = true
 | [], _, j, hj => by cases hj
 | x :: p, h, j, hj => by
  rcases List.mem_cons.1 hj with rfl | hj
  ·rcases h.1 i (by simp) with h1 | ⟨_, k, hk, _, h2⟩
   ·exact .inl h1
   ·exact .inr ⟨k, List.mem_cons_of_mem _ hk, h2⟩
  ·rcases OrdPL.mem h.2 j hj with h1 | ⟨k, hk, h2⟩
   ·exact .inl h1
   ·exact .inr ⟨k, List.mem_cons_of_mem _ hk, h2⟩
theorem OrdPL.del {ops : Array Oper} {B : List Nat} {i : Nat} {q : List Nat} : ∀ {p : List Nat}, OrdPL ops B (p ++ i :: q) → (∀ j ∈ p, hardL ops j = true → hardL ops i = true → False) → OrdPL ops B (p ++ q)
 | [], h, _ => h.2
 | x :: p, h, hh => by
  refine ⟨fun y hy => ?_, OrdPL.del h.2 fun j hj => hh j (List.mem_cons_of_mem _ hj)⟩
  have hy' : y ∈ p ++ i :: q := ((List.Sublist.refl p).append (List.sublist_cons_self i q)).subset hy
  rcases h.1 y hy' with h1 | ⟨h1, k, hk, h2, h3⟩
  ·exact .inl h1
  ·refine .inr ⟨h1, k, ?_, h2, h3⟩
   rcases List.mem_append.1 hk with hk | hk
   ·exact List.mem_append_left _ hk
   ·rcases List.mem_cons.1 hk with rfl | hk
    ·exact (hh x List.mem_cons_self h1 h2).elim
    ·exact List.mem_append_right _ hk
/-- A drawn order out of the run of an order with the same order of what is hard. -/
theorem Run.linL {M : List Own} {ro : Option Nat} {m : Nat} {C : Ctx} {ops : Array Oper} {K : S → Prop} {Q : Exit → Act → World → Prop} (hK : ∀ s a w, St C M s a w → K s → Q .normal a w) {B : List Nat} (hB : bitsOk ops B = true) : ∀ (n t : Nat) (l : List Nat) (listed : Array Bool) {s : S} {a : Act} {w : World}, l.length = n → Rest ops l listed →
 OrdPL ops B l → (Region.linearise.go .any ops n t listed []).filter (hardL ops) = l.filter (hardL ops) → Run true C ops K l s → St C M s a w → wpOpsIn (wr ro) m C.P ops Q (Region.linearise.go .any ops n t listed []) a w := by
 intro n
 induction n with
 | zero =>
  intro t l listed s a w hl L _ _ hr hs
  obtain rfl : l = [] := List.eq_nil_of_length_eq_zero hl
  obtain ⟨F, he, hk⟩ := hr
  exact hK (⟨F, s.h, s.L⟩ : S) a w (hs.eqF he) hk
 | succ n ih =>
  intro t l listed s a w hl L hpw heq hr hs
  have hne := L.ready hB (by intro h; simp [h] at hl)
  have hpos : 0 < (Region.ready .any ops listed).length := List.length_pos_iff.2 hne
  have hlt := Nat.mod_lt t hpos
  obtain ⟨i, hi⟩ : ∃ i, (Region.ready .any ops listed)[t % (Region.ready .any ops listed).length] = i := ⟨_, rfl⟩
  have hgo : Region.linearise.go .any ops (n + 1) t listed [] = i :: Region.linearise.go .any ops n (t / (Region.ready .any ops listed).length) (listed.setIfInBounds i true) [] := by
   simp only [Region.linearise.go]
   change (match (Region.ready .any ops listed)[t % (Region.ready .any ops listed).length]? with
    | some i => Region.linearise.go .any ops n (t / (Region.ready .any ops listed).length) (listed.setIfInBounds i true) [i]
    | none => [].reverse) = _
   rw [List.getElem?_eq_getElem hlt, hi]
   simp only []
   rw [linearise_go_acc, List.reverse_singleton, List.singleton_append]
  rw [hgo] at heq ⊢
  rw [wpOpsIn_cons]
  obtain ⟨o, p, q, ho, rfl, hedge⟩ := L.at_ (i := i) (by rw [← hi]; exact List.getElem_mem hlt)
  have hhard : ∀ j ∈ p, hardL ops j = true → hardL ops i = true → False := by
   intro j hj h1 h2
   have hnd := L.nd
   rw [List.nodup_append] at hnd
   rw [List.filter_cons, if_pos h2, List.filter_append] at heq
   cases hp : p.filter (hardL ops) with
   | nil => have : j ∈ p.filter (hardL ops) := List.mem_filter.2 ⟨hj, h1⟩; rw [hp] at this; cases this
   | cons x xs =>
    rw [hp] at heq
    simp only [List.cons_append, List.cons.injEq] at heq
    have hx : x ∈ p := (List.mem_filter.1 (by rw [hp]; exact List.mem_cons_self)).1
    exact hnd.2.2 x hx i List.mem_cons_self heq.1.symm
  have hp : ∀ j ∈ p, ∃ x, ops[j]? = some x ∧ okPair ops x o = true := fun j hj => by
   have hjl := L.lt j (List.mem_append_left _ hj)
   have h3 : beforeL ops B j i = true := by
    rcases hpw.mem j hj with h3 | ⟨k, hk, h3⟩
    ·exact h3
    ·exact (L.no_bit hB i i (Nat.le_refl _) o ho hedge k (L.lt k hk) h3).elim hk
   unfold beforeL at h3
   rw [Array.getElem?_eq_getElem hjl, ho] at h3
   simp only [Bool.and_eq_true, Bool.or_eq_true] at h3
   refine ⟨_, Array.getElem?_eq_getElem hjl, ?_⟩
   rcases h3.1 with (h4 | h4) | h4
   ·exact h4
   ·exact absurd (List.mem_append_left _ hj) (L.no_bit hB i i (Nat.le_refl _) o ho hedge j hjl h4)
   ·exact (hhard j hj h4.1 h4.2).elim
  obtain ⟨o', ho', hn⟩ := Run.front ho p q hp hr
  rw [ho] at ho'
  cases ho'
  have hsub : (p ++ q).Sublist (p ++ i :: q) := (List.Sublist.refl p).append (List.sublist_cons_self i q)
  refine wpOpIn_mono (fun a' w' ⟨s', hs', hr'⟩ => ih _ (p ++ q) _ (by simp at hl ⊢; omega) (L.step ho hedge) (hpw.del hhard) ?_ hr' hs') (hn.step ho hs)
  rw [List.filter_cons, List.filter_append, List.filter_cons] at heq
  rw [List.filter_append]
  by_cases h2 : hardL ops i = true
  ·rw [if_pos h2, if_pos h2] at heq
   have : p.filter (hardL ops) = [] := List.filter_eq_nil_iff.2 fun j hj h1 => hhard j hj h1 h2
   rw [this] at heq ⊢
   simpa using heq
  ·rw [if_neg h2, if_neg h2] at heq
   exact heq
theorem wp_anysL {C : Ctx} {id : Nat} {ops : Array Oper} {Q : Exit → S → Prop} {s : S} (ords : List (List Nat)) (hm : C.P.follows .mixedOrders = true) (hc : drawsOkL ops ords = true) (hr : ∀ l ∈ ords, Run true C ops (Q .normal) l s) : WP C (.region id ops true) Q s := by
 intro ro m M hG a w hs
 simp only [drawsOkL, Bool.and_eq_true, decide_eq_true_eq, List.all_eq_true] at hc
 obtain ⟨⟨hB, hords⟩, hcov⟩ := hc
 refine wpIn_region_draw fun t => ?_
 simp only [Region.schedule, hm, Bool.true_or, if_true]
 have hall : ∀ i, i < ops.size → (Array.replicate ops.size false).getD i true = false := fun i hi => by simp [Array.getD, hi]
 have R0 : Rest ops (List.range ops.size) (Array.replicate ops.size false) := ⟨by simp, fun i hi => by simp [hall i hi, hi], fun i hi => List.mem_range.1 hi, List.nodup_range, fun k o hk hn => absurd (List.mem_range.2 (Array.getElem?_eq_some_iff.1 hk).1) hn⟩
 obtain ⟨hp1, hp2⟩ := lin_props hB ops.size t (List.range ops.size) _ (by simp) R0
 have hpf := hp1.filter (hardL ops)
 have hmem := hcov _ (mem_perms hpf.symm)
 rw [waits_of (hp2.filter _)] at hmem
 simp only [Bool.not_true, Bool.false_or, List.any_eq_true, beq_iff_eq] at hmem
 obtain ⟨l, hl, heq⟩ := hmem
 obtain ⟨⟨ho, hlen⟩, hin⟩ := hords l hl
 have hin' : ∀ i, i < ops.size → i ∈ l := fun i hi => by simpa using hin i (List.mem_range.2 hi)
 have hnd : (List.range ops.size).Nodup := List.nodup_range
 have hlt : ∀ i ∈ l, i < ops.size := by
  intro i hi
  refine Classical.byContradiction fun hn => ?_
  obtain ⟨p, q, rfl⟩ := List.append_of_mem hi
  have := sub_len hnd (ys := p ++ q) (fun x hx => by
   have h1 := hin' x (List.mem_range.1 hx)
   simp only [List.mem_append, List.mem_cons] at h1 ⊢
   rcases h1 with h1 | rfl | h1
   ·exact .inl h1
   ·exact absurd (List.mem_range.1 hx) hn
   ·exact .inr h1)
  simp at this hlen
  omega
 have hndo : l.Nodup := by
  refine Classical.byContradiction fun hn => ?_
  obtain ⟨x, p, q, r, rfl⟩ := dup_of hn
  have := sub_len hnd (ys := p ++ q ++ x :: r) (fun y hy => by
   have h1 := hin' y (List.mem_range.1 hy)
   simp only [List.mem_append, List.mem_cons] at h1 ⊢
   rcases h1 with h1 | rfl | h1 | rfl | h1 <;> simp [*])
  simp at this hlen
  omega
 exact Run.linL (fun s a w h1 h2 => ⟨s, h1, h2⟩) hB ops.size t l _ hlen ⟨by simp, fun i hi => by simp [hall i hi, hin' i hi], hlt, hndo, fun k o hk hn => absurd (hin' k (Array.getElem?_eq_some_iff.1 hk).1) hn⟩ (ordOkL_pair ho) heq.symm (hr l hl) hs.drew

theorem wp_cutL {C : Ctx} {id : Nat} {ops : Array Oper} {Q : Exit → S → Prop} {s : S} {ι : Type} {y : Code} {Q1 : Exit → S → Prop} (T : ι → S) (ords : List (List Nat)) (hQ : ∀ s, Q .normal s = WP C y Q1 s) (hm : C.P.follows .mixedOrders = true) (hc : drawsOkL ops ords = true)
 (hr : ∀ l ∈ ords, Run true C ops (fun s => ∃ p, Wq s (T p)) l s) (hk : ∀ p, WP C y Q1 (T p)) : WP C (.region id ops true) Q s := by
 refine wp_anysL ords hm hc fun l hl => ?_
 refine Run.imp (fun s' ⟨p, hp⟩ => ?_) l (hr l hl)
 rw [hQ]
 exact fun ro m M hG a w hs => hk p ro m M hG a w (hs.wq hp)
end Go.Tal
