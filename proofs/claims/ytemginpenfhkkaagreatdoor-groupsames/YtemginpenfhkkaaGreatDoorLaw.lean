/-
  GroupSames: for every input the law returns true, and each argument reads behind the call as it read before; no condition beyond the given card (three tables of the library as the program lays them: tied).
-/
import Derived.Test.YtemginpenfhkkaaGreatDoorPart4
import Derived.Test.YtemginpenfhkkaaGreatDoorPart3
import Derived.Test.YtemginpenfhkkaaGreatDoorCards
import Derived.Test.YtemginpenfhkkaaGreatDoorTie
import Derived.WalkKit
import Derived.ProofKit
import Derived.OpenShut
import Derived.ShutString
import Derived.ChangeOld
import Derived.Below
import Derived.Carry
import Derived.SizedLaws
import Derived.LaidMore
import Derived.LaidHandle
import Derived.SevenTiedAt
/-
  GroupSames: for every input the law returns true, and each argument reads behind the call as it read before; three tables of the library are as the program lays them (tied).
-/
namespace Go.Proofs.YtemginpenfhkkaaGreatDoor
open Go Go.ChangeShapes Go.WideShapes Go.ChangeAt Go.RowKit Go.Tal
theorem own : ownKnob Tryz.prog.godebug = none := by kernel_rfl
theorem laidOut : laidOutB Tryz.prog = true := by kernel_rfl
theorem door_met (os : Os) (args : Array Value) : laidMetH Tryz.prog Rows.groupSamesRow.laid ((World.doorLaid Tryz.prog 400 os).forCall (fun _ _ => 0) ⟨#[], args, []⟩).memory :=
  laidMetH_of_parts3 (fuel := 8) (laidMet_of_run' 8 (by kernel_rfl) (by kernel_rfl)) (by kernel_rfl) (by kernel_rfl)
set_option maxRecDepth 100000 in
theorem lifted (os : Os) (started : os.Started) (H : Type) (enc : TypeId × Value → H) :
    ReturnsInHanded {} Tryz.checked os 16 .any (fun w args => (Rows.groupSamesSpec.pre enc Tryz.prog Tryz.f16 Rows.groupSamesRow.domain false w args ∧ laidMetH Tryz.prog Rows.groupSamesRow.laid w) ∧ sizedMet enc Tryz.prog Tryz.f16 (OpenSpec.ofChange Rows.groupSamesSpec) false w args)
      (Rows.groupSamesSpec.post enc Tryz.prog Tryz.f16 false true false false) := by
  refine returnsInHanded_of_change_and (C := Tryz.checked) (X := fun w _ => laidMetH Tryz.prog Rows.groupSamesRow.laid w) (fun _ _ _ hh h => h.of_heap hh) own started (by kernel_rfl) Tryz.func16
    (ChangeSpec.witness_shaped (enc := enc) (C := Tryz.checked) (os := os) (X := fun w _ => laidMetH Tryz.prog Rows.groupSamesRow.laid w) false (World.doorLaid Tryz.prog 400 os) #[.slice none 0 0, .slice none 0 0, .slice none 0 0] 8 rfl (World.shaped_of_RefB (by kernel_rfl) (by kernel_rfl)) (by kernel_rfl) (by kernel_rfl) (by kernel_rfl) (door_met os _)) ?_
  intro W base args ds gs before hval0 hW _ _ _ _
  have hval : ∀ (j : Nat) t v, Tryz.f16.params[j]? = some t → args[j]? = some v → Value.okWide Tryz.prog W .any base t v := hval0
  have hW' := hW
  obtain ⟨p, q, hA0, hV, rfl, hfz, hnd⟩ := hW
  have hA : DataW.TrodAll enc Tryz.prog W 0 (fun _ => true) true Tryz.f16.params.toList args.toList ds p := hA0
  rw [Tryz.params16] at hA hval
  obtain ⟨v0, vs0, d0, ds0, p0, q0, hargs, rfl, rfl, h0, r0⟩ := trodAll_cons hA
  obtain ⟨v1, vs1, d1, ds1, p1, q1, rfl, rfl, rfl, h1, r1⟩ := trodAll_cons r0
  obtain ⟨v2, vs2, d2, ds2, p2, q2, rfl, rfl, rfl, h2, r2⟩ := trodAll_cons r1
  obtain ⟨rfl, rfl, rfl⟩ := trodAll_nil r2
  obtain rfl : args = #[v0, v1, v2] := by cases args; simp_all
  obtain ⟨rfl, rfl⟩ := trodVars_none hV
  have k0 := h0
  have lt0 : ∀ x ∈ p0, x.block < W.heap.size := by obtain ⟨m, hm⟩ := k0; exact DataW.trod_lt m _ _ _ hm
  obtain ⟨s0, l0, c0, rfl⟩ := okWide_slice Tryz.underlying22 (hval 0 22 v0 rfl rfl)
  obtain ⟨fuel0, hf0⟩ := h0
  obtain ⟨z0, e0⟩ := rdS0_trod Tryz.underlying22 Tryz.underlying37 (by kernel_rfl) rfl rfl (by kernel_rfl) (by kernel_rfl) Tryz.underlying35 Tryz.underlying4 Tryz.underlying3 (by kernel_rfl) hf0
  have k1 := h1
  have lt1 : ∀ x ∈ p1, x.block < W.heap.size := by obtain ⟨m, hm⟩ := k1; exact DataW.trod_lt m _ _ _ hm
  obtain ⟨s1, l1, c1, rfl⟩ := okWide_slice Tryz.underlying35 (hval 1 35 v1 rfl rfl)
  obtain ⟨fuel1, hf1⟩ := h1
  obtain ⟨z1, e1⟩ := rdI0_trod Tryz.underlying35 Tryz.underlying3 (by kernel_rfl) hf1
  have k2 := h2
  have lt2 : ∀ x ∈ p2, x.block < W.heap.size := by obtain ⟨m, hm⟩ := k2; exact DataW.trod_lt m _ _ _ hm
  obtain ⟨s2, l2, c2, rfl⟩ := okWide_slice Tryz.underlying35 (hval 2 35 v2 rfl rfl)
  obtain ⟨fuel2, hf2⟩ := h2
  obtain ⟨z2, e2⟩ := rdI0_trod Tryz.underlying35 Tryz.underlying3 (by kernel_rfl) hf2
  clear hA0 hval0

  have hcall := law_sames _ _ _ _ _ _ (memH W) e0 e1 e2 W (fun _ _ hb => hb)
  refine hcall.mono fun e W' ⟨v, h', he, hv, _, _, hk⟩ => ?_
  subst he hv
  have bel : Below W.heap.size W W' := ⟨hk.os, hk.tape, hk.output, hk.size, fun b hb => hk.block b hb (by simp)⟩
  exact ⟨_, rfl, _, _, _, [], _, [], hW', trodAll_mk1 (shut_bool Tryz.underlying4 _), (trodAll_cons_mk (Below.trod laidOut (by kernel_rfl) (of_decide_eq_true (by kernel_rfl)) k0 bel lt0) (trodAll_cons_mk (Below.trod laidOut (by kernel_rfl) (of_decide_eq_true (by kernel_rfl)) k1 bel lt1) (trodAll_cons_mk (Below.trod laidOut (by kernel_rfl) (of_decide_eq_true (by kernel_rfl)) k2 bel lt2) trodAll_mk0))), rfl, bel.frame _, fun h => by cases h⟩
theorem band {a b : Bool} (ha : a = true) (hb : b = true) : (a && b) = true := by rw [ha, hb]; rfl
set_option maxRecDepth 100000 in
theorem fact0 : (Rows.groupSamesRow.wf (OpenSpec.ofChange Rows.groupSamesSpec)) = true := by kernel_rfl
set_option maxRecDepth 100000 in
theorem fact1 : (laidOutB (Tryz.pinned.checked.prog)) = true := by kernel_rfl
set_option maxRecDepth 100000 in
theorem fact2 : (mapsRowed (Tryz.pinned.checked.prog)) = true := by kernel_rfl
set_option maxRecDepth 100000 in
theorem fact3 : (Tryz.f16.params.all (Tryz.pinned.checked.prog.readableRec ·)) = true := by kernel_rfl
set_option maxRecDepth 100000 in
theorem fact4 : (namedTie (Tryz.pinned.checked.prog) Rows.groupSamesRow.named Rows.groupSamesSpec.vars) = true := by kernel_rfl
set_option maxRecDepth 100000 in
theorem fact5 : ((Rows.groupSamesRow.stops == [])) = true := by kernel_rfl
set_option maxRecDepth 100000 in
theorem fact6 : ((Tryz.pinned.checked.prog.stops == [])) = true := by kernel_rfl
set_option maxRecDepth 100000 in
theorem fact7 : ((Rows.groupSamesRow.knobs == [])) = true := by kernel_rfl
set_option maxRecDepth 100000 in
theorem fact8 : ((Tryz.pinned.checked.prog.stopKnobs == [])) = true := by kernel_rfl
set_option maxRecDepth 100000 in
theorem fact9 : ((Rows.groupSamesRow.inPlace == Tryz.pinned.checked.prog.inPlace 16)) = true := by kernel_rfl
set_option maxRecDepth 100000 in
theorem fact10 : ((Rows.groupSamesRow.unfollowed == Tryz.pinned.checked.prog.unfollowed 16)) = true := by kernel_rfl
set_option maxRecDepth 100000 in
theorem fact11 : ((Rows.groupSamesRow.recurses == Tryz.pinned.checked.prog.recurses 16)) = true := by kernel_rfl
set_option maxRecDepth 100000 in
theorem fact12 : ((Rows.groupSamesRow.named == Tryz.pinned.checked.prog.varsNamed 16)) = true := by kernel_rfl
set_option maxRecDepth 100000 in
theorem fact13 : ((Rows.groupSamesRow.maps == (Tryz.f16.params.toList ++ Rows.groupSamesSpec.plain.varTypes (Tryz.pinned.checked.prog)).any (Tryz.pinned.checked.prog.mapsRec ·))) = true := by kernel_rfl
set_option maxRecDepth 100000 in
theorem fact14 : ((Rows.groupSamesRow.ifaces == (Tryz.f16.params.toList ++ Rows.groupSamesSpec.plain.varTypes (Tryz.pinned.checked.prog)).any (Tryz.pinned.checked.prog.ifacesRec ·))) = true := by kernel_rfl
set_option maxRecDepth 100000 in
theorem fact15 : ((Rows.groupSamesRow.mapsOut == Tryz.pinned.checked.prog.mapsAmong Tryz.f16.resultTypes.toList)) = true := by kernel_rfl
set_option maxRecDepth 100000 in
theorem fact16 : ((Rows.groupSamesRow.loops == (Tryz.f16.params.toList ++ Rows.groupSamesSpec.plain.varTypes (Tryz.pinned.checked.prog)).any (Tryz.pinned.checked.prog.loopsFrom ·))) = true := by kernel_rfl
set_option maxRecDepth 100000 in
theorem fact17 : ((Rows.groupSamesRow.wideKeys == (Tryz.f16.params.toList ++ Rows.groupSamesSpec.plain.varTypes (Tryz.pinned.checked.prog) ++ Tryz.f16.resultTypes.toList).any (Tryz.pinned.checked.prog.wideKeysFrom ·))) = true := by kernel_rfl
set_option maxRecDepth 100000 in
theorem fact18 : (Rows.groupSamesSpec.vars.all (Tryz.pinned.checked.prog.varReadable ·)) = true := by kernel_rfl
set_option maxRecDepth 100000 in
theorem fact19 : (Tryz.f16.resultTypes.all (fun t => Tryz.pinned.checked.prog.readableRec t && decide (t < Tryz.pinned.checked.prog.types.size))) = true := by kernel_rfl
set_option maxRecDepth 100000 in
theorem fact20 : ((Rows.groupSamesRow.ifacesOut == Tryz.f16.resultTypes.toList.any (Tryz.pinned.checked.prog.ifacesRec ·))) = true := by kernel_rfl
set_option maxRecDepth 100000 in
theorem fact21 : ((Rows.groupSamesRow.loopsOut == Tryz.f16.resultTypes.toList.any (Tryz.pinned.checked.prog.loopsFrom ·))) = true := by kernel_rfl
set_option maxRecDepth 100000 in
theorem fact22 : ((Rows.groupSamesRow.plainKeys == Tryz.pinned.checked.prog.plainKeys)) = true := by kernel_rfl
set_option maxRecDepth 100000 in
theorem fact23 : (Rows.groupSamesRow.shortTexts.isNone) = true := by kernel_rfl
set_option maxRecDepth 100000 in
theorem fact24 : (Tryz.pinned.checked.prog.stopsHeard) = true := by kernel_rfl
set_option maxRecDepth 100000 in
theorem fact25 : (Tryz.pinned.checked.prog.mayEnter) = true := by kernel_rfl
set_option maxRecDepth 100000 in
theorem fact26 : ((Rows.groupSamesRow.lifted == Tryz.pinned.checked.prog.liftsFinal)) = true := by kernel_rfl
set_option maxRecDepth 100000 in
theorem fact27 : ((Tryz.pinned.checked.prog.make == some Rows.groupSamesRow.make)) = true := by kernel_rfl
set_option maxRecDepth 100000 in
theorem fact28 : ((Rows.groupSamesRow.kinds == (if Rows.groupSamesRow.domain.isEmpty then [] else Tryz.f16.params.toList.map fun t => match Tryz.pinned.checked.prog.underlying t with | some (.int k) => some k | _ => none))) = true := by kernel_rfl
set_option maxRecDepth 100000 in
theorem fact29 : ((Rows.groupSamesRow.pinned == Rows.groupSamesRow.pinnedBy)) = true := by kernel_rfl
set_option maxRecDepth 100000 in
theorem fact30 : ((Rows.groupSamesRow.veiled == (Tryz.f16.params.toList ++ Rows.groupSamesSpec.plain.varTypes (Tryz.pinned.checked.prog) ++ Tryz.f16.resultTypes.toList).any (Tryz.pinned.checked.prog.veiledRec ·))) = true := by kernel_rfl
set_option maxRecDepth 100000 in
theorem fact31 : (Rows.groupSamesRow.veiledFits (Tryz.pinned.checked.prog) Tryz.f16.params.toList (Tryz.f16.params.toList ++ Rows.groupSamesSpec.plain.varTypes (Tryz.pinned.checked.prog) ++ Tryz.f16.resultTypes.toList)) = true := by kernel_rfl
set_option maxRecDepth 100000 in
theorem facts : joinedFacts Tryz.pinned.checked.prog 16 Tryz.f16 Rows.groupSamesSpec Rows.groupSamesRow = true := (band (band (band (band (band (band (band (band (band (band (band (band (band (band (band (band (band (band (band (band (band (band (band (band (band (band (band (band (band (band (band fact0 fact1) fact2) fact3) fact4) fact5) fact6) fact7) fact8) fact9) fact10) fact11) fact12) fact13) fact14) fact15) fact16) fact17) fact18) fact19) fact20) fact21) fact22) fact23) fact24) fact25) fact26) fact27) fact28) fact29) fact30) fact31)
theorem fnamed : Tryz.pinned.checked.prog.funcNamed Rows.groupSamesRow.func = some 16 := by kernel_rfl
theorem finst : Tryz.f16.isInstance Tryz.pinned.checked.prog Rows.groupSamesRow.origin Rows.groupSamesRow.targs := of_decide_eq_true (by kernel_rfl)
theorem fwrap : Tryz.f16.isWrapper Tryz.pinned.checked.prog Rows.groupSamesRow.wrapper Rows.groupSamesRow.mainSum := by unfold Func.isWrapper; first | (rw [if_pos (by decide +kernel)]; kernel_rfl) | (rw [if_neg (by decide +kernel)]; exact ⟨rfl, rfl⟩)
theorem groupSames_row : Rows.GroupSamesSaid :=
  OpenClaim.holds_of_wide 16 Tryz.f16 rfl rfl rfl rfl rfl rfl rfl ⟨rfl, rfl, rfl, rfl, rfl⟩ rfl rfl rfl rfl rfl fnamed Tryz.func16 facts finst fwrap
    (fun os started H enc _ => lifted os started H enc)
theorem fwf : Rows.groupSamesRow.wfByText (OpenSpec.ofChange Rows.groupSamesSpec) = true := by kernel_rfl
theorem fmain : Tryz.pinned.checked.prog.mainIs = some (true, ("0bc9430c3fd4ed99a8fa0e0f6a03279a655becb705f64068ca3a8d31c247051f" : String).toList) := by kernel_rfl
theorem flooks : false = Tryz.pinned.checked.prog.looks [] := by kernel_rfl
theorem fgoes : false = Rows.groupSamesRow.goesBy Tryz.pinned.checked.prog := by kernel_rfl
theorem fstand : ([22, 35, 35].all fun u => !Tryz.pinned.checked.prog.wantsStandIn u) = true := by kernel_rfl
/-- The tied card. -/
theorem groupSames_holds : Rows.GroupSamesCardSaid :=
  Claim7.holds_tied_plain_at .later [] [.data, .data, .data] true (true, "0bc9430c3fd4ed99a8fa0e0f6a03279a655becb705f64068ca3a8d31c247051f") false
    groupSames_row (fun _ h => by cases h) fwf (fun _ h => by cases h) groupSames_row_tie rfl ⟨rfl, rfl⟩ fmain rfl
    (fun f fn hf hfn => by
      obtain rfl : f = 16 := Option.some.inj (fnamed.symm.trans hf) |>.symm
      obtain rfl : fn = Tryz.f16 := (Option.some.inj ((show Tryz.pinned.checked.prog.funcs[16]? = some Tryz.f16 from Tryz.func16).symm.trans hfn)).symm
      exact ⟨flooks, fun j t ht => by
        rw [Tryz.params16] at ht
        have hm : t ∈ [22, 35, 35] := by simpa using Array.mem_of_getElem? ht
        exact (show Tryz.pinned.checked.prog.wantsStandIn t = false by simpa using List.all_eq_true.1 fstand t hm)⟩)
    fgoes
#print axioms groupSames_holds
end Go.Proofs.YtemginpenfhkkaaGreatDoor
