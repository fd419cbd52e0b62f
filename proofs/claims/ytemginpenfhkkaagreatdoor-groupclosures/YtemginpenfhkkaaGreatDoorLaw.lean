/-
  GroupClosures: for every input the law returns true, and each argument reads behind the call as it read before; no condition beyond the given card (three tables of the library as the program lays them: tied).
-/
import Derived.Test.YtemginpenfhkkaaGreatDoorPart5
import Derived.Test.YtemginpenfhkkaaGreatDoorPart4
import Derived.Test.YtemginpenfhkkaaGreatDoorCards
import Derived.Test.YtemginpenfhkkaaGreatDoorTie
import Derived.WalkKit
import Derived.ProofKit
import Derived.OpenShut
import Derived.ShutString
import Derived.ChangeOld
import Derived.Below
import Derived.Carry
import Derived.SizedLaws
import Derived.LaidMore
import Derived.LaidHandle
import Derived.SevenTiedAt
/-
 GroupClosures: for every input the law returns true, and each argument reads behind the call as it read before; three tables of the library are as the program lays them (tied).
-/
namespace Go.Proofs.YtemginpenfhkkaaGreatDoor
open Go Go.ChangeShapes Go.WideShapes Go.ChangeAt Go.RowKit Go.Tal
theorem own : ownKnob Tryz.prog.godebug = none := by kernel_rfl
theorem laidOut : laidOutB Tryz.prog = true := by kernel_rfl
theorem door_met (os : Os) (args : Array Value) : laidMetH Tryz.prog Rows.groupClosuresRow.laid ((World.doorLaid Tryz.prog 400 os).forCall (fun _ _ => 0) ⟨#[], args, []⟩).memory :=
 laidMetH_of_parts3 (fuel := 8) (laidMet_of_run' 8 (by kernel_rfl) (by kernel_rfl)) (by kernel_rfl) (by kernel_rfl)
set_option maxRecDepth 100000 in
theorem lifted (os : Os) (started : os.Started) (H : Type) (enc : TypeId × Value → H) :
 ReturnsInHanded {} Tryz.checked os 4 .any (fun w args => (Rows.groupClosuresSpec.pre enc Tryz.prog Tryz.f4 Rows.groupClosuresRow.domain false w args ∧ laidMetH Tryz.prog Rows.groupClosuresRow.laid w) ∧ sizedMet enc Tryz.prog Tryz.f4 (OpenSpec.ofChange Rows.groupClosuresSpec) false w args)
  (Rows.groupClosuresSpec.post enc Tryz.prog Tryz.f4 false true false false) := by
 refine returnsInHanded_of_change_and (C := Tryz.checked) (X := fun w _ => laidMetH Tryz.prog Rows.groupClosuresRow.laid w) (fun _ _ _ hh h => h.of_heap hh) own started (by kernel_rfl) Tryz.func4
  (ChangeSpec.witness_shaped (enc := enc) (C := Tryz.checked) (os := os) (X := fun w _ => laidMetH Tryz.prog Rows.groupClosuresRow.laid w) false (World.doorLaid Tryz.prog 400 os) #[.slice none 0 0, .int .i64 0] 8 rfl (World.shaped_of_RefB (by kernel_rfl) (by kernel_rfl)) (by kernel_rfl) (by kernel_rfl) (by kernel_rfl) (door_met os _)) ?_
 intro W base args ds gs before hval0 hW _ _ _ _
 have hval : ∀ (j : Nat) t v, Tryz.f4.params[j]? = some t → args[j]? = some v → Value.okWide Tryz.prog W .any base t v := hval0
 have hW' := hW
 obtain ⟨p, q, hA0, hV, rfl, hfz, hnd⟩ := hW
 have hA : DataW.TrodAll enc Tryz.prog W 0 (fun _ => true) true Tryz.f4.params.toList args.toList ds p := hA0
 rw [Tryz.params4] at hA hval
 obtain ⟨v0, vs0, d0, ds0, p0, q0, hargs, rfl, rfl, h0, r0⟩ := trodAll_cons hA
 obtain ⟨v1, vs1, d1, ds1, p1, q1, rfl, rfl, rfl, h1, r1⟩ := trodAll_cons r0
 obtain ⟨rfl, rfl, rfl⟩ := trodAll_nil r1
 obtain rfl : args = #[v0, v1] := by cases args; simp_all
 obtain ⟨rfl, rfl⟩ := trodVars_none hV
 have k0 := h0
 have lt0 : ∀ x ∈ p0, x.block < W.heap.size := by obtain ⟨m, hm⟩ := k0; exact DataW.trod_lt m _ _ _ hm
 obtain ⟨s0, l0, c0, rfl⟩ := okWide_slice Tryz.underlying22 (hval 0 22 v0 rfl rfl)
 obtain ⟨fuel0, hf0⟩ := h0
 obtain ⟨z0, e0⟩ := rdS0_trod Tryz.underlying22 Tryz.underlying37 (by kernel_rfl) rfl rfl (by kernel_rfl) (by kernel_rfl) Tryz.underlying35 Tryz.underlying4 Tryz.underlying3 (by kernel_rfl) hf0
 obtain ⟨a1, rfl, rfl, rfl, w1⟩ := open_int Tryz.underlying3 (hval 1 3 v1 rfl rfl) h1
 clear hA0 hval0

 have hcall := law_closures _ a1 _ (memH W) e0 W (fun _ _ hb => hb)
 refine hcall.mono fun e W' ⟨v, h', he, hv, _, _, hk⟩ => ?_
 subst he hv
 have bel : Below W.heap.size W W' := ⟨hk.os, hk.tape, hk.output, hk.size, fun b hb => hk.block b hb (by simp)⟩
 exact ⟨_, rfl, _, _, _, [], _, [], hW', trodAll_mk1 (shut_bool Tryz.underlying4 _), (trodAll_cons_mk (Below.trod laidOut (by kernel_rfl) (of_decide_eq_true (by kernel_rfl)) k0 bel lt0) (trodAll_cons_mk (shut_int Tryz.underlying3 w1) trodAll_mk0)), rfl, bel.frame _, fun h => by cases h⟩
theorem band {a b : Bool} (ha : a = true) (hb : b = true) : (a && b) = true := by rw [ha, hb]; rfl
set_option maxRecDepth 100000 in
set_option maxHeartbeats 400000000 in
theorem facts : joinedFacts Tryz.pinned.checked.prog 4 Tryz.f4 Rows.groupClosuresSpec Rows.groupClosuresRow = true := by
 unfold joinedFacts; repeat' with_reducible apply band
 all_goals as_aux_lemma => kernel_rfl
theorem fnamed : Tryz.pinned.checked.prog.funcNamed Rows.groupClosuresRow.func = some 4 := by kernel_rfl
theorem finst : Tryz.f4.isInstance Tryz.pinned.checked.prog Rows.groupClosuresRow.origin Rows.groupClosuresRow.targs := of_decide_eq_true (by kernel_rfl)
theorem fwrap : Tryz.f4.isWrapper Tryz.pinned.checked.prog Rows.groupClosuresRow.wrapper Rows.groupClosuresRow.mainSum := by unfold Func.isWrapper; first | (rw [if_pos (by decide +kernel)]; kernel_rfl) | (rw [if_neg (by decide +kernel)]; exact ⟨rfl, rfl⟩)
theorem groupClosures_row : Rows.GroupClosuresSaid :=
 OpenClaim.holds_of_wide 4 Tryz.f4 rfl rfl rfl rfl rfl rfl rfl ⟨rfl, rfl, rfl, rfl, rfl⟩ rfl rfl rfl rfl rfl fnamed Tryz.func4 facts finst fwrap
  (fun os started H enc _ => lifted os started H enc)
theorem fwf : Rows.groupClosuresRow.wfByText (OpenSpec.ofChange Rows.groupClosuresSpec) = true := by kernel_rfl
theorem fmain : Tryz.pinned.checked.prog.mainIs = some (true, ("0bc9430c3fd4ed99a8fa0e0f6a03279a655becb705f64068ca3a8d31c247051f" : String).toList) := by kernel_rfl
theorem flooks : false = Tryz.pinned.checked.prog.looks [] := by kernel_rfl
theorem fgoes : false = Rows.groupClosuresRow.goesBy Tryz.pinned.checked.prog := by kernel_rfl
theorem fstand : ([22, 3].all fun u => !Tryz.pinned.checked.prog.wantsStandIn u) = true := by kernel_rfl
/-- The tied card. -/
theorem groupClosures_holds : Rows.GroupClosuresCardSaid :=
 Claim7.holds_tied_plain_at .later [] [.data, .data, .data] true (true, "0bc9430c3fd4ed99a8fa0e0f6a03279a655becb705f64068ca3a8d31c247051f") false
  groupClosures_row (fun _ h => by cases h) fwf (fun _ h => by cases h) groupClosures_row_tie rfl ⟨rfl, rfl⟩ fmain rfl
  (fun f fn hf hfn => by
   obtain rfl : f = 4 := Option.some.inj (fnamed.symm.trans hf) |>.symm
   obtain rfl : fn = Tryz.f4 := (Option.some.inj ((show Tryz.pinned.checked.prog.funcs[4]? = some Tryz.f4 from Tryz.func4).symm.trans hfn)).symm
   exact ⟨flooks, fun j t ht => by
    rw [Tryz.params4] at ht
    have hm : t ∈ [22, 3] := by simpa using Array.mem_of_getElem? ht
    exact (show Tryz.pinned.checked.prog.wantsStandIn t = false by simpa using List.all_eq_true.1 fstand t hm)⟩)
  fgoes
#print axioms groupClosures_holds
end Go.Proofs.YtemginpenfhkkaaGreatDoor
