-- Written by a changed copy of the kit's print program, run in this session (NOTES.md tells the change). Not trusted: Lean checks it.
import Derived.Test.YtpbekhkmeaaejaaPAllx0
import Derived.Test.YtpbekhkmeaaejaaPAllx1
import Derived.Test.YtpbekhkmeaaejaaPAllx2
import Derived.Test.YtpbekhkmeaaejaaPAllx3
import Derived.Test.YtpbekhkmeaaejaaPAllx5
import Derived.Test.YtpbekhkmeaaejaaPAllx6
namespace Go.Proofs.Ytpbekhkmeaaejaa.PAll
open Go.RowKit Go.Proofs.YtpbekhkmeaaejaaW.PrintWords Go.Proofs.YtpbekhkmeaaejaaW.PrintLast Go.Proofs.YtpbekhkmeaaejaaW.PrintMore
attribute [local go_sem] max2_int min2_int max_two min_two max_three min_three max_four min_four   -- for this text's walks alone
set_option linter.unusedVariables false
set_option linter.unusedSimpArgs false

/-! ### given sawmilllaw05_awake: function 16 -/
def sawmilllaw05_awake.f : Option (Bool) := some true
set_option maxHeartbeats 4000000 in
set_option maxRecDepth 100000 in
theorem sawmilllaw05_awake.calls (r : Bool) (w : World) (h : sawmilllaw05_awake.f = some r) :
    Calls Try.prog 16 #[] w fun e w' => e = .returned (.bool r) ∧ Below w.heap.size w w' := by
  have HB := Aside0.mk (Below.refl w.heap.size w)
  obtain rfl := Option.some.inj h
  clear h
  go_enter Try.func16, Try.ntmps16
  go_wp2_with fail
  refine (wire_NewReader.calls ⟨#[172, 2, 5]⟩ ⟨#[172, 2, 5]⟩ 0 0 w _ HB.out rfl).mono ?_
  rintro e w1 ⟨g, rfl, hI1, hB1, hb1⟩
  have HI1 := Aside0.mk hI1
  have HB1 := Aside0.mk hB1
  clear hI1 hB1 hb1 HB
  go_wp2_with fail
  refine (wire_Reader_Uint.calls 20 g ⟨#[172, 2, 5]⟩ 0 0 300 ⟨#[172, 2, 5]⟩ 2 0 w _ HI1.out HB1.out (by decide +kernel)).mono ?_
  rintro e w2 ⟨rfl, hI2, hB2, -⟩
  have HI2 := Aside0.mk hI2
  have HB2 := Aside0.mk hB2
  clear hI2 hB2 HI1 HB1
  go_wp2_with fail
  refine (wire_Reader_Int.calls 20 g ⟨#[172, 2, 5]⟩ 2 0 (-10) 10 (-3) ⟨#[172, 2, 5]⟩ 3 0 w _ HI2.out HB2.out (by decide +kernel)).mono ?_
  rintro e w3 ⟨rfl, hI3, hB3, -⟩
  have HI3 := Aside0.mk hI3
  have HB3 := Aside0.mk hB3
  clear hI3 hB3 HI2 HB2
  go_wp2_with fail
  refine (wire_Reader_End.calls g ⟨#[172, 2, 5]⟩ 3 0 0 ⟨#[172, 2, 5]⟩ 3 0 w _ HI3.out HB3.out (by decide +kernel)).mono ?_
  rintro e w4 ⟨rfl, hI4, hB4, -⟩
  have HB4 := Aside0.mk hB4
  clear hI4 hB4 HI3 HB3
  go_wp2_with fail
  refine (wire_NewReader.calls ⟨#[2, 97, 98]⟩ ⟨#[2, 97, 98]⟩ 0 0 w _ HB4.out rfl).mono ?_
  rintro e w5 ⟨q, rfl, hI5, hB5, hb5⟩
  have HI5 := Aside0.mk hI5
  have HB5 := Aside0.mk hB5
  clear hI5 hB5 hb5 HB4
  go_wp2_with fail
  refine (wire_Reader_Text.calls 20 q ⟨#[2, 97, 98]⟩ 0 0 1 ⟨#[]⟩ ⟨#[2, 97, 98]⟩ 0 4 w _ HI5.out HB5.out (by decide +kernel)).mono ?_
  rintro e w6 ⟨rfl, hI6, hB6, -⟩
  have HI6 := Aside0.mk hI6
  have HB6 := Aside0.mk hB6
  clear hI6 hB6 HI5 HB5
  go_wp2_with fail
  refine (wire_Reader_Err.calls q ⟨#[2, 97, 98]⟩ 0 4 4 ⟨#[2, 97, 98]⟩ 0 4 w _ HI6.out HB6.out (by decide +kernel)).mono ?_
  rintro e w7 ⟨rfl, hI7, hB7, -⟩
  have HI7 := Aside0.mk hI7
  have HB7 := Aside0.mk hB7
  clear hI7 hB7 HI6 HB6
  go_wp2_with fail
  refine (wire_Reader_Left.calls q ⟨#[2, 97, 98]⟩ 0 4 3 ⟨#[2, 97, 98]⟩ 0 4 w _ HI7.out HB7.out (by decide +kernel)).mono ?_
  rintro e w8 ⟨rfl, hI8, hB8, -⟩
  have HB8 := Aside0.mk hB8
  clear hI8 hB8 HI7 HB7
  go_wp2_with fail
  refine (wire_Uint.calls 20 300 ⟨#[172, 2]⟩ _ (by decide +kernel)).mono ?_
  rintro e w9 ⟨rfl, hB9⟩
  have HB9 := Aside0.mk (below_step HB8.out hB9)
  clear hB9 HB8
  go_wp2_with fail
  refine (wire_Int.calls 20 (-3) ⟨#[5]⟩ _ (by decide +kernel)).mono ?_
  rintro e w10 ⟨rfl, hB10⟩
  have HB10 := Aside0.mk (below_step HB9.out hB10)
  clear hB10 HB9
  go_wp2_with fail
  refine (wire_Text.calls 20 ⟨#[97, 98]⟩ ⟨#[2, 97, 98]⟩ _ (by decide +kernel)).mono ?_
  rintro e w11 ⟨rfl, hB11⟩
  have HB11 := Aside0.mk (below_step HB10.out hB11)
  clear hB11 HB10
  go_wp2_with fail
  have hC : Kd.C (Kd.int .i64) (w11.alloc (.cells #[.int .i64 1, .int .i64 (-1)] 3)) (some ⟨w11.heap.size, 0, none⟩) ([1, -1] : List Int).length [1, -1] := by
    refine ⟨rfl, by decide, fun _ => ⟨_, rfl, fun j p hj => ⟨[.int .i64 p], rfl, rfl, fun i u hu => ?_⟩⟩⟩
    have hb := heap_alloc_new w11 (.cells #[.int .i64 1, .int .i64 (-1)] 3)
    rcases i with _ | i
    · rcases j with _ | _ | j
      · simp only [List.getElem?_cons_zero, Option.some.injEq] at hj hu
        subst hj; subst hu
        exact blk_cell hb 0
      · simp only [List.getElem?_cons_zero, List.getElem?_cons_succ, Option.some.injEq] at hj hu
        subst hj; subst hu
        exact blk_cell hb 1
      · simp at hj
    · simp at hu
  refine (wire_Ints.calls 20 (some ⟨w11.heap.size, 0, none⟩) 2 [1, -1] ⟨#[2, 2, 1]⟩ _ hC (by decide) (by decide +kernel)).mono ?_
  clear hC
  rintro e w12 ⟨rfl, hB12⟩
  have HB12 := Aside0.mk (below_step (below_alloc HB11.out _) hB12)
  clear hB12 HB11
  go_wp2_with fail
  go_ret
  exact ⟨rfl, HB12.out⟩

end Go.Proofs.Ytpbekhkmeaaejaa.PAll
