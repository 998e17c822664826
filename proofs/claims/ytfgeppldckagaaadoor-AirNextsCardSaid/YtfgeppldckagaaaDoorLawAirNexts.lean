/- The row of the law AirNexts: for every input the call returns true, and its arguments read as before; out of its pure statement and the contract of its code. Condition: the three listed package variables read as listed when the call begins; the card ties that to the program's own text. No other condition. -/
import Derived.Test.YtfgeppldckagaaaDoorRows
import Derived.Test.YtfgeppldckagaaaDoorPAllx0
import Derived.Test.YtfgeppldckagaaaDoorPAllx23
import Derived.Test.YtfgeppldckagaaaDoorPureAirNexts
import Derived.Test.YtfgeppldckagaaaDoorOpens
import Derived.WalkKit
import Derived.ProofKit
import Derived.OpenShut
import Derived.ShutString
import Derived.ChangeOld
import Derived.Below
import Derived.SizedLaws
import Derived.Test.YtfgeppldckagaaaDoorLaid
import Derived.Test.YtfgeppldckagaaaDoorCards
import Derived.Test.YtfgeppldckagaaaDoorTie
import Derived.SevenTiedAt
import Derived.LaidMore
import Derived.LaidLaws
import Derived.Stop.Joined
namespace Go.Proofs.YtfgeppldckagaaaDoor.airNexts
open Go.ChangeShapes Go.WideShapes Go.ChangeAt Go.RowKit Go.Proofs.YtfgeppldckagaaaDoor.Opens Go.Proofs.YtfgeppldckagaaaDoor.PAll Go.Proofs.YtfgeppldckagaaaDoorW.PrintWords
open Go.ChangeMaps (open_string shut_string)
set_option linter.unusedVariables false
theorem own : ownKnob Tryd.prog.godebug = none := by kernel_rfl
theorem laidOut : laidOutB Tryd.prog = true := by kernel_rfl
theorem opStruct30 : Opens Tryd.prog 30 k30 (fun x => ((Lit.int .i64 x.f0).wf = true ∧ (Lit.int .i64 x.f1).wf = true)) :=
  opens_struct (φ := fun x : S30 => (x.f0, x.f1)) (ψ := fun y => ⟨y.1, y.2⟩) (fun _ => rfl) Tryd.underlying30 (by kernel_rfl) (opensF_cons rfl (by kernel_rfl) (opens_int Tryd.underlying3) (opensF_one rfl (by kernel_rfl) (opens_int Tryd.underlying3)))
theorem opSlice22 : Opens Tryd.prog 22 (Kd.slice 3 (Kd.int .i64)) (fun x => (x.length * 8 ≤ 140737488351232 ∧ ∀ y ∈ x, (Lit.int .i64 y).wf = true)) := opens_slice Tryd.underlying22 (by kernel_rfl) (by kernel_rfl) (opens_int Tryd.underlying3)
theorem opStruct36 : Opens Tryd.prog 36 k36 (fun x => (((Lit.int .i64 x.f0.f0).wf = true ∧ (Lit.int .i64 x.f0.f1).wf = true) ∧ ((Lit.int .i64 x.f1.f0).wf = true ∧ (Lit.int .i64 x.f1.f1).wf = true) ∧ (Lit.int .i64 x.f2).wf = true ∧ (x.f3.length * 8 ≤ 140737488351232 ∧ ∀ y ∈ x.f3, (Lit.int .i64 y).wf = true))) :=
  opens_struct (φ := fun x : S36 => (x.f0, x.f1, x.f2, x.f3)) (ψ := fun y => ⟨y.1, y.2.1, y.2.2.1, y.2.2.2⟩) (fun _ => rfl) Tryd.underlying36 (by kernel_rfl) (opensF_cons rfl (by kernel_rfl) opStruct30 (opensF_cons rfl (by kernel_rfl) opStruct30 (opensF_cons rfl (by kernel_rfl) (opens_int Tryd.underlying3) (opensF_one rfl (by kernel_rfl) opSlice22))))
set_option maxRecDepth 100000 in
theorem lifted (os : Os) (started : os.Started) (H : Type) (enc : TypeId × Value → H) :
    ReturnsInHanded {} Tryd.checked os 5 .any (fun w args => (Rows.airNextsSpec.pre enc Tryd.prog Tryd.f5 [] false w args ∧ laidMetH Tryd.prog Laid.laid3 w) ∧ sizedMet enc Tryd.prog Tryd.f5 (OpenSpec.ofChange Rows.airNextsSpec) false w args)
      (Rows.airNextsSpec.post enc Tryd.prog Tryd.f5 false true false false) := by
  refine returnsInHanded_of_change_and (C := Tryd.checked) (X := fun w _ => laidMetH Tryd.prog Laid.laid3 w) (fun _ _ _ hh h => h.of_heap hh) own started (by kernel_rfl) Tryd.func5
    (ChangeSpec.witness_shaped (enc := enc) (C := Tryd.checked) (os := os) (X := fun w _ => laidMetH Tryd.prog Laid.laid3 w) false (World.doorLaid Tryd.prog 400 os) #[(.agg #[(.int .i64 0), (.int .i64 0), (.int .i64 0), (.int .i64 0), (.int .i64 0), (.slice none 0 0)])] 8 rfl (World.shaped_of_RefB (by kernel_rfl) (by kernel_rfl)) (by kernel_rfl) (by kernel_rfl) (by kernel_rfl) (Laid.door_met os _)) ?_
  intro W base args ds gs before hval0 hW hcnd hsz0 hL _
  have hsz : (DataW.weightsEach Tryd.prog (Tryd.f5.params.toList ++ Rows.airNextsSpec.plain.varTypes Tryd.prog) (ds ++ gs)).all (· ≤ reachBytes) = true := hsz0
  have hval : ∀ (j : Nat) t v, Tryd.f5.params[j]? = some t → args[j]? = some v → Value.okWide Tryd.prog W .any base t v := hval0
  have hW' := hW
  obtain ⟨p, q, hA0, hV, rfl, hfz, hnd⟩ := hW
  have hA : DataW.TrodAll enc Tryd.prog W 0 (fun _ => true) true Tryd.f5.params.toList args.toList ds p := hA0
  rw [Tryd.params5] at hA hval hsz
  obtain ⟨v0, vs0, d0, ds0, p0, q0, hargs, rfl, rfl, h0, r0⟩ := trodAll_cons hA
  obtain ⟨rfl, rfl, rfl⟩ := trodAll_nil r0
  obtain rfl : args = #[v0] := by cases args; simp_all
  obtain ⟨rfl, rfl⟩ := trodVars_none hV
  obtain ⟨cs0, rfl, _⟩ := okWide_struct Tryd.underlying36 (hval 0 36 v0 rfl rfl)
  have k0 := h0
  have lt0 : ∀ x ∈ p0, x.block < W.heap.size := by obtain ⟨m, hm⟩ := k0; exact DataW.trod_lt m _ _ _ hm
  obtain ⟨x0, hK0, g0⟩ := opened opStruct36 hsz (j := 0) (t := 36) rfl rfl h0
  obtain ⟨A0_5, c0_5, e0, hc0_5, hr0_5⟩ := k36_open hK0
  obtain ⟨cl0⟩ := cs0
  replace e0 : cl0 = [.int .i64 x0.f0.f0, .int .i64 x0.f0.f1, .int .i64 x0.f1.f0, .int .i64 x0.f1.f1, .int .i64 x0.f2, .slice A0_5 x0.f3.length c0_5] := e0
  subst e0
  clear hA0 hval0 hsz0 hsz
  obtain ⟨k, hf⟩ := Pure.AirNexts x0 g0
  refine (PAll.sawmilllaw35_AirNexts.calls k x0.f0.f0 x0.f0.f1 x0.f1.f0 x0.f1.f1 x0.f2 A0_5 c0_5 x0.f3 true W hr0_5 hc0_5 hf (Laid.of_laid hL)).mono fun e W' ⟨he, bel0⟩ => ?_
  have bel : Below W.heap.size W W' := bel0
  subst he
  exact ⟨_, rfl, _, _, _, [], _, [], hW', trodAll_mk1 (shut_bool Tryd.underlying4 _), (trodAll_cons_mk (Below.trod laidOut (by kernel_rfl) (of_decide_eq_true (by kernel_rfl)) k0 bel lt0) trodAll_mk0), rfl, bel.frame _, fun h => by cases h⟩
theorem over : Rows.airNextsRow.holds Tryd.pinned (OpenSpec.ofChange Rows.airNextsSpec) :=
  OpenClaim.holds_of_wide 5 Tryd.f5 rfl rfl rfl rfl rfl rfl rfl ⟨rfl, rfl, rfl, rfl, rfl⟩ rfl rfl rfl rfl rfl (by kernel_rfl) Tryd.func5 (by kernel_rfl)
    (of_decide_eq_true (by kernel_rfl)) (by unfold Func.isWrapper; first | (rw [if_pos (by decide +kernel)]; kernel_rfl) | (rw [if_neg (by decide +kernel)]; exact ⟨rfl, rfl⟩))
    (fun os started H enc _ => lifted os started H enc)
theorem proved : Rows.AirNextsSaid := over
/-- The tied card: the row, its listed variables tied to the program's text. -/
theorem card : Rows.AirNextsCardSaid :=
  Claim7.holds_tied_plain_at .later [] [.data, .data, .data] true (true, "129ee37cfff457d4748477379eb14968bbd88d0c333292d827b1612cd8dbdad4") false
    proved (fun _ h => by cases h) (by kernel_rfl) (fun _ h => by cases h) airNexts_row_tie rfl ⟨rfl, rfl⟩ (by kernel_rfl) rfl
    (fun f fn hf hfn => by
      obtain rfl : f = 5 := Option.some.inj ((show Tryd.prog.funcNamed "sawmill/sawmilllaw35.AirNexts" = some 5 by kernel_rfl).symm.trans hf) |>.symm
      obtain rfl : fn = Tryd.f5 := (Option.some.inj (Tryd.func5.symm.trans hfn)).symm
      exact ⟨by kernel_rfl, fun j t ht => by
        rw [Tryd.params5] at ht
        have hm : t ∈ ([36] : List Nat) := by simpa using Array.mem_of_getElem? ht
        have hall : (([36] : List Nat).all fun u => !Tryd.prog.wantsStandIn u) = true := by kernel_rfl
        exact (show Tryd.prog.wantsStandIn t = false by simpa using List.all_eq_true.1 hall t hm)⟩)
    (by kernel_rfl)
#print axioms card
end Go.Proofs.YtfgeppldckagaaaDoor.airNexts
namespace Go.Proofs.YtfgeppldckagaaaDoor
/-- The row, under a short name, for the claim. -/
theorem airNexts_holds : Rows.AirNextsCardSaid := airNexts.card
end Go.Proofs.YtfgeppldckagaaaDoor
