-- Written by a changed copy of the kit's print program, run in this session (NOTES.md tells the change). Not trusted: Lean checks it.
import Derived.Test.YtfgeppldckagaaaPAllx0
import Derived.Test.YtfgeppldckagaaaPAllx6
import Derived.Test.YtfgeppldckagaaaPAllx12
import Derived.Test.YtfgeppldckagaaaPAllx13
import Derived.Test.YtfgeppldckagaaaPAllx15
namespace Go.Proofs.Ytfgeppldckagaaa.PAll
open Go.RowKit Go.Proofs.YtfgeppldckagaaaW.PrintWords Go.Proofs.YtfgeppldckagaaaW.PrintLast Go.Proofs.YtfgeppldckagaaaW.PrintMore
attribute [local go_sem] max2_int min2_int max_two min_two max_three min_three max_four min_four   -- for this text's walks alone
set_option linter.unusedVariables false
set_option linter.unusedSimpArgs false

/-! ### sawmilllaw08_CurveFirst: function 10 -/
mutual
def sawmilllaw08_CurveFirst.j0 : Nat → List (S36) → Int → Int → Bool → Option (Bool)
  | 0, _, _, _, _ => none
  | k + 1, x0, x1, x2, x18 => if x18 = true then ((sawmilllaw08_awake.f k).bind fun t316 => (some t316)) else ((curve_Reach.f k x0 x1).bind fun bt317 => (sawmilllaw08_CurveFirst.l0 k x0 x1 x2 bt317.1 bt317.2 false 0))
def sawmilllaw08_CurveFirst.l0 : Nat → List (S36) → Int → Int → Int → Bool → Bool → Int → Option (Bool)
  | 0, _, _, _, _, _, _, _ => none
  | k + 1, x0, x1, x2, x7, x8, x9, x10 => if x10 < (x0.length : Int) then (if x9 = true then (sawmilllaw08_CurveFirst.l0 k x0 x1 x2 x7 x8 true (wrap64 (x10 + 1))) else (if 0 ≤ x10 then (sawmilllaw08_CurveFirst.l0 k x0 x1 x2 x7 x8 (decide (((rd_T36 x0 x10).f1) ≥ x1)) (wrap64 (x10 + 1))) else (none))) else (if (x8 != x9) = true then (some false) else (if x8 = true then (if 0 < (x0.length : Int) then (if x7 < ((rd_T36 x0 0).f0) then (sawmilllaw08_CurveFirst.j2 k x0 x1 x2 x7 true) else (if 0 ≤ (wrap64 ((x0.length : Int) - 1)) then (if (wrap64 ((x0.length : Int) - 1)) < (x0.length : Int) then (if x7 > ((rd_T36 x0 (wrap64 ((x0.length : Int) - 1))).f0) then (sawmilllaw08_CurveFirst.j2 k x0 x1 x2 x7 true) else ((curve_At.f k x0 x7).bind fun t324 => (sawmilllaw08_CurveFirst.j2 k x0 x1 x2 x7 (decide (t324 < x1))))) else (none)) else (none))) else (none)) else (if x7 = 0 then ((curve_At.f k x0 x2).bind fun t320 => (if t320 < x1 then ((sawmilllaw08_awake.f k).bind fun t321 => (some t321)) else (some false))) else (some false))))
def sawmilllaw08_CurveFirst.j2 : Nat → List (S36) → Int → Int → Int → Bool → Option (Bool)
  | 0, _, _, _, _, _ => none
  | k + 1, x0, x1, x2, x7, x82 => if x82 = true then (some false) else (if 0 < (x0.length : Int) then (if x7 > ((rd_T36 x0 0).f0) then ((curve_At.f k x0 (wrap64 (x7 - 1))).bind fun t326 => (sawmilllaw08_CurveFirst.j3 k x0 x1 x2 x7 (decide (t326 ≥ x1)))) else (sawmilllaw08_CurveFirst.j3 k x0 x1 x2 x7 false)) else (none))
def sawmilllaw08_CurveFirst.j3 : Nat → List (S36) → Int → Int → Int → Bool → Option (Bool)
  | 0, _, _, _, _, _ => none
  | k + 1, x0, x1, x2, x7, x96 => if x96 = true then (some false) else (if 0 < (x0.length : Int) then (if x2 < ((rd_T36 x0 0).f0) then ((sawmilllaw08_awake.f k).bind fun t328 => (some t328)) else (if x2 ≥ x7 then ((sawmilllaw08_awake.f k).bind fun t329 => (some t329)) else ((curve_At.f k x0 x2).bind fun t330 => (if t330 < x1 then ((sawmilllaw08_awake.f k).bind fun t331 => (some t331)) else (some false))))) else (none))
end
def sawmilllaw08_CurveFirst.f (k : Nat) (l0 : List (S36)) (a1 : Int) (a2 : Int) : Option (Bool) := (sawmilllaw08_small.f l0).bind fun t314 => (if t314 = true then ((sawmillref08_Check.f k l0).bind fun t315 => (sawmilllaw08_CurveFirst.j0 k l0 a1 a2 (t315 != 0))) else (sawmilllaw08_CurveFirst.j0 k l0 a1 a2 true))
theorem sawmilllaw08_CurveFirst.mono_l : ∀ k, (∀ y0 y1 y2 y3, LeO (sawmilllaw08_CurveFirst.j0 k y0 y1 y2 y3) (sawmilllaw08_CurveFirst.j0 (k + 1) y0 y1 y2 y3)) ∧ (∀ y0 y1 y2 y3 y4 y5 y6, LeO (sawmilllaw08_CurveFirst.l0 k y0 y1 y2 y3 y4 y5 y6) (sawmilllaw08_CurveFirst.l0 (k + 1) y0 y1 y2 y3 y4 y5 y6)) ∧ (∀ y0 y1 y2 y3 y4, LeO (sawmilllaw08_CurveFirst.j2 k y0 y1 y2 y3 y4) (sawmilllaw08_CurveFirst.j2 (k + 1) y0 y1 y2 y3 y4)) ∧ (∀ y0 y1 y2 y3 y4, LeO (sawmilllaw08_CurveFirst.j3 k y0 y1 y2 y3 y4) (sawmilllaw08_CurveFirst.j3 (k + 1) y0 y1 y2 y3 y4))
  | 0 => ⟨fun _ _ _ _ r h => by simp [sawmilllaw08_CurveFirst.j0] at h, fun _ _ _ _ _ _ _ r h => by simp [sawmilllaw08_CurveFirst.l0] at h, fun _ _ _ _ _ r h => by simp [sawmilllaw08_CurveFirst.j2] at h, fun _ _ _ _ _ r h => by simp [sawmilllaw08_CurveFirst.j3] at h⟩
  | k + 1 => by
    obtain ⟨ih0, ih1, ih2, ih3⟩ := sawmilllaw08_CurveFirst.mono_l k
    refine ⟨?_, ?_, ?_, ?_⟩
    · intro y0 y1 y2 y3
      unfold sawmilllaw08_CurveFirst.j0
      repeat' first
      | (with_reducible exact ih0 _ _ _ _)
      | (with_reducible exact ih1 _ _ _ _ _ _ _)
      | (with_reducible exact ih2 _ _ _ _ _)
      | (with_reducible exact ih3 _ _ _ _ _)
      | (with_reducible exact curve_At.mono _ _ _)
      | (with_reducible exact curve_Reach.mono _ _ _)
      | (with_reducible exact sawmilllaw08_awake.mono _)
      | (with_reducible exact sawmillref08_Check.mono _ _)
      | (with_reducible exact LeO.refl _)
      | (with_reducible exact LeO.none _)
      | (with_reducible refine LeO.ite ?_ ?_)
      | (with_reducible refine LeO.bind ?_ (fun _ => ?_))
      | exact ih0 _ _ _ _
      | exact ih1 _ _ _ _ _ _ _
      | exact ih2 _ _ _ _ _
      | exact ih3 _ _ _ _ _
      | exact curve_At.mono _ _ _
      | exact curve_Reach.mono _ _ _
      | exact sawmilllaw08_awake.mono _
      | exact sawmillref08_Check.mono _ _
      | exact LeO.none _
      | refine LeO.ite ?_ ?_
      | refine LeO.bind ?_ (fun _ => ?_)
    · intro y0 y1 y2 y3 y4 y5 y6
      unfold sawmilllaw08_CurveFirst.l0
      repeat' first
      | (with_reducible exact ih0 _ _ _ _)
      | (with_reducible exact ih1 _ _ _ _ _ _ _)
      | (with_reducible exact ih2 _ _ _ _ _)
      | (with_reducible exact ih3 _ _ _ _ _)
      | (with_reducible exact curve_At.mono _ _ _)
      | (with_reducible exact curve_Reach.mono _ _ _)
      | (with_reducible exact sawmilllaw08_awake.mono _)
      | (with_reducible exact sawmillref08_Check.mono _ _)
      | (with_reducible exact LeO.refl _)
      | (with_reducible exact LeO.none _)
      | (with_reducible refine LeO.ite ?_ ?_)
      | (with_reducible refine LeO.bind ?_ (fun _ => ?_))
      | exact ih0 _ _ _ _
      | exact ih1 _ _ _ _ _ _ _
      | exact ih2 _ _ _ _ _
      | exact ih3 _ _ _ _ _
      | exact curve_At.mono _ _ _
      | exact curve_Reach.mono _ _ _
      | exact sawmilllaw08_awake.mono _
      | exact sawmillref08_Check.mono _ _
      | exact LeO.none _
      | refine LeO.ite ?_ ?_
      | refine LeO.bind ?_ (fun _ => ?_)
    · intro y0 y1 y2 y3 y4
      unfold sawmilllaw08_CurveFirst.j2
      repeat' first
      | (with_reducible exact ih0 _ _ _ _)
      | (with_reducible exact ih1 _ _ _ _ _ _ _)
      | (with_reducible exact ih2 _ _ _ _ _)
      | (with_reducible exact ih3 _ _ _ _ _)
      | (with_reducible exact curve_At.mono _ _ _)
      | (with_reducible exact curve_Reach.mono _ _ _)
      | (with_reducible exact sawmilllaw08_awake.mono _)
      | (with_reducible exact sawmillref08_Check.mono _ _)
      | (with_reducible exact LeO.refl _)
      | (with_reducible exact LeO.none _)
      | (with_reducible refine LeO.ite ?_ ?_)
      | (with_reducible refine LeO.bind ?_ (fun _ => ?_))
      | exact ih0 _ _ _ _
      | exact ih1 _ _ _ _ _ _ _
      | exact ih2 _ _ _ _ _
      | exact ih3 _ _ _ _ _
      | exact curve_At.mono _ _ _
      | exact curve_Reach.mono _ _ _
      | exact sawmilllaw08_awake.mono _
      | exact sawmillref08_Check.mono _ _
      | exact LeO.none _
      | refine LeO.ite ?_ ?_
      | refine LeO.bind ?_ (fun _ => ?_)
    · intro y0 y1 y2 y3 y4
      unfold sawmilllaw08_CurveFirst.j3
      repeat' first
      | (with_reducible exact ih0 _ _ _ _)
      | (with_reducible exact ih1 _ _ _ _ _ _ _)
      | (with_reducible exact ih2 _ _ _ _ _)
      | (with_reducible exact ih3 _ _ _ _ _)
      | (with_reducible exact curve_At.mono _ _ _)
      | (with_reducible exact curve_Reach.mono _ _ _)
      | (with_reducible exact sawmilllaw08_awake.mono _)
      | (with_reducible exact sawmillref08_Check.mono _ _)
      | (with_reducible exact LeO.refl _)
      | (with_reducible exact LeO.none _)
      | (with_reducible refine LeO.ite ?_ ?_)
      | (with_reducible refine LeO.bind ?_ (fun _ => ?_))
      | exact ih0 _ _ _ _
      | exact ih1 _ _ _ _ _ _ _
      | exact ih2 _ _ _ _ _
      | exact ih3 _ _ _ _ _
      | exact curve_At.mono _ _ _
      | exact curve_Reach.mono _ _ _
      | exact sawmilllaw08_awake.mono _
      | exact sawmillref08_Check.mono _ _
      | exact LeO.none _
      | refine LeO.ite ?_ ?_
      | refine LeO.bind ?_ (fun _ => ?_)
theorem sawmilllaw08_CurveFirst.mono : ∀ a0 a1 a2 k, LeO (sawmilllaw08_CurveFirst.f k a0 a1 a2) (sawmilllaw08_CurveFirst.f (k + 1) a0 a1 a2) := by
  intro a0 a1 a2 k
  obtain ⟨ih0, ih1, ih2, ih3⟩ := sawmilllaw08_CurveFirst.mono_l k
  unfold sawmilllaw08_CurveFirst.f
  repeat' first
      | (with_reducible exact ih0 _ _ _ _)
      | (with_reducible exact ih1 _ _ _ _ _ _ _)
      | (with_reducible exact ih2 _ _ _ _ _)
      | (with_reducible exact ih3 _ _ _ _ _)
      | (with_reducible exact curve_At.mono _ _ _)
      | (with_reducible exact curve_Reach.mono _ _ _)
      | (with_reducible exact sawmilllaw08_awake.mono _)
      | (with_reducible exact sawmillref08_Check.mono _ _)
      | (with_reducible exact LeO.refl _)
      | (with_reducible exact LeO.none _)
      | (with_reducible refine LeO.ite ?_ ?_)
      | (with_reducible refine LeO.bind ?_ (fun _ => ?_))
      | exact ih0 _ _ _ _
      | exact ih1 _ _ _ _ _ _ _
      | exact ih2 _ _ _ _ _
      | exact ih3 _ _ _ _ _
      | exact curve_At.mono _ _ _
      | exact curve_Reach.mono _ _ _
      | exact sawmilllaw08_awake.mono _
      | exact sawmillref08_Check.mono _ _
      | exact LeO.none _
      | refine LeO.ite ?_ ?_
      | refine LeO.bind ?_ (fun _ => ?_)
set_option maxHeartbeats 8000000 in
set_option maxRecDepth 100000 in
theorem sawmilllaw08_CurveFirst.calls (k : Nat) (A0 : Option Addr) (c0 : Nat) (l0 : List (S36)) (a1 : Int) (a2 : Int) (r : Bool) (w : World) (hr0 : Kd.C k36 w A0 l0.length l0) (hc0 : l0.length ≤ c0) (h : sawmilllaw08_CurveFirst.f k l0 a1 a2 = some r) :
    Calls Try.prog 10 #[.slice A0 l0.length c0, .int .i64 a1, .int .i64 a2] w fun e w' => e = .returned (.bool r) ∧ Below w.heap.size w w' := by
  have HR0 := Aside0.mk hr0
  have HC0 := Aside0.mk hc0
  clear hr0 hc0
  have HB := Aside0.mk (Below.refl w.heap.size w)
  have H : ((sawmilllaw08_small.f l0).bind fun t314 => (if t314 = true then ((sawmillref08_Check.f k l0).bind fun t315 => (sawmilllaw08_CurveFirst.j0 k l0 a1 a2 (t315 != 0))) else (sawmilllaw08_CurveFirst.j0 k l0 a1 a2 true))) = some r := h
  clear h
  have HC4 := Aside0.mk H
  clear H
  go_enter Try.func10, Try.ntmps10
  go_upto_region 1 with (fail)
  go_cut [18] (fun v18 wc => ∃ (kq : Nat) (x18_3 : Bool), v18 = .bool x18_3 ∧ Aside0 (sawmilllaw08_CurveFirst.j0 kq l0 a1 a2 x18_3 = some r) ∧ Aside0 (kq ≤ k) ∧ Aside0 (Below w.heap.size w wc))
  case first =>
    have H := HC4.out
    clear HC4
    replace H := Option.bind_eq_some_iff.mp H
    obtain ⟨t314, A50, H⟩ := H
    replace H : (if t314 = true then ((sawmillref08_Check.f k l0).bind fun t315 => (sawmilllaw08_CurveFirst.j0 k l0 a1 a2 (t315 != 0))) else (sawmilllaw08_CurveFirst.j0 k l0 a1 a2 true)) = some r := H
    have A5 := Aside0.mk A50
    clear A50
    by_cases c6 : t314 = true
    · subst c6
      have H1 : ((sawmillref08_Check.f k l0).bind fun t315 => (sawmilllaw08_CurveFirst.j0 k l0 a1 a2 (t315 != 0))) = some r := by rw [if_pos rfl] at H; exact H
      clear H
      have H := H1
      clear H1
      replace H := Option.bind_eq_some_iff.mp H
      obtain ⟨t315, A70, H⟩ := H
      replace H : (sawmilllaw08_CurveFirst.j0 k l0 a1 a2 (t315 != 0)) = some r := H
      have A7 := Aside0.mk A70
      clear A70
      have H' := Aside0.mk H
      clear H
      go_wp2_with (first | ((with_reducible refine gate_callee (f := 15) rfl ?_); refine goesL_ (some 12) rfl rfl Try.func15 (by kernel_rfl) rfl #[.slice A0 l0.length c0] rfl (by (try simp only [List.map_toArray, List.map_cons, List.map_nil]); first | done | rfl | (simp only [List.length_drop, List.length_take]; rfl)) ?_; (with_reducible refine (sawmilllaw08_small.calls _ _ l0 true _ ?side1 ?side2 A5.out).mono ?_); (case side1 => repeat (first | exact (Kd.C_below HR0.out HB.out) | (with_reducible refine Kd.C_alloc ?_ _) | (with_reducible refine Kd.C_drewN ?_ _) | (with_reducible refine Kd.C_drew ?_))); (case side2 => exact HC0.out); rintro e w' ⟨rfl, ⟨nd, rfl⟩⟩; refine ⟨_, rfl, ?_⟩) | (go_at_call 19; (with_reducible refine (sawmillref08_Check.calls k _ _ l0 t315 _ ?side1 ?side2 A7.out).mono ?_); (case side1 => repeat (first | exact (Kd.C_below HR0.out (by repeat (first | (with_reducible first | exact HB.out | apply below_alloc | apply pw_below_drewN | apply below_drew1) | exact HB.out))) | (with_reducible refine Kd.C_alloc ?_ _) | (with_reducible refine Kd.C_drewN ?_ _) | (with_reducible refine Kd.C_drew ?_))); (case side2 => exact HC0.out); rintro e w' ⟨rfl, ⟨nd, rfl⟩⟩))
      go_meet
      case rel => exact ⟨_, ((t315 != 0)), (by first | rfl | (simp; done) | (simp [*]; done)), H', ⟨by first | omega | exact Nat.le_refl _⟩, ⟨by repeat (first | (with_reducible first | exact HB.out | apply below_alloc | apply pw_below_drewN | apply below_drew1) | exact HB.out)⟩⟩
    · replace c6 := Bool.eq_false_iff.mpr c6
      subst c6
      have H1 : (sawmilllaw08_CurveFirst.j0 k l0 a1 a2 true) = some r := by rw [if_neg (show ¬ (false = true) by decide)] at H; exact H
      clear H
      have H := H1
      clear H1
      have H' := Aside0.mk H
      clear H
      go_wp2_with (first | ((with_reducible refine gate_callee (f := 15) rfl ?_); refine goesL_ (some 12) rfl rfl Try.func15 (by kernel_rfl) rfl #[.slice A0 l0.length c0] rfl (by (try simp only [List.map_toArray, List.map_cons, List.map_nil]); first | done | rfl | (simp only [List.length_drop, List.length_take]; rfl)) ?_; (with_reducible refine (sawmilllaw08_small.calls _ _ l0 false _ ?side1 ?side2 A5.out).mono ?_); (case side1 => repeat (first | exact (Kd.C_below HR0.out HB.out) | (with_reducible refine Kd.C_alloc ?_ _) | (with_reducible refine Kd.C_drewN ?_ _) | (with_reducible refine Kd.C_drew ?_))); (case side2 => exact HC0.out); rintro e w' ⟨rfl, ⟨nd, rfl⟩⟩; refine ⟨_, rfl, ?_⟩))
      go_meet
      case rel => exact ⟨_, (true), (by first | rfl | (simp; done) | (simp [*]; done)), H', ⟨by first | omega | exact Nat.le_refl _⟩, ⟨by repeat (first | (with_reducible first | exact HB.out | apply below_alloc | apply pw_below_drewN | apply below_drew1) | exact HB.out)⟩⟩
  case rest =>
    clear HC4
    try clear c1
    try clear p2
    try clear c6
    obtain ⟨kq, x18_3, rfl, HA, HJ3, HB⟩ := hcut
    cases kq with
    | zero => exact absurd HA.out (by simp [sawmilllaw08_CurveFirst.j0])
    | succ kj3 =>
      have H := HA.out
      clear HA
      simp only [sawmilllaw08_CurveFirst.j0] at H
      by_cases c8 : x18_3 = true
      · subst c8
        have H1 : ((sawmilllaw08_awake.f kj3).bind fun t316 => (some t316)) = some r := by rw [if_pos rfl] at H; exact H
        clear H
        have H := H1
        clear H1
        replace H := Option.bind_eq_some_iff.mp H
        obtain ⟨t316, A90, H⟩ := H
        replace H : (some t316) = some r := H
        have A9 := Aside0.mk A90
        clear A90
        obtain rfl := Option.some.inj H
        go_wp2_with (first | ((with_reducible refine gate_callee (f := 13) rfl ?_); refine goesL_ (some 19) rfl rfl Try.func13 (by kernel_rfl) rfl #[] rfl (by (try simp only [List.map_toArray, List.map_cons, List.map_nil]); first | done | rfl | (simp only [List.length_drop, List.length_take]; rfl)) ?_; (with_reducible refine (sawmilllaw08_awake.calls kj3  t316 _ A9.out).mono ?_); rintro e w10 ⟨rfl, hb⟩; refine ⟨_, rfl, ?_⟩; have n0_ := Aside0.mk (below_step (by repeat (first | (with_reducible first | exact HB.out | apply below_alloc | apply pw_below_drewN | apply below_drew1) | exact HB.out)) hb); clear HB; have HB := n0_; clear n0_; (try clear hb); (try clear hb2); (try clear hk); (try clear hi)))
        go_ret
        exact ⟨by first | rfl | (simp [errW_none, errW_some] <;> rfl) | (simp [*, errW_none, errW_some] <;> rfl), by repeat (first | (with_reducible first | exact HB.out | apply below_alloc | apply pw_below_drewN | apply below_drew1) | exact HB.out)⟩
      · replace c8 := Bool.eq_false_iff.mpr c8
        subst c8
        have H1 : ((curve_Reach.f kj3 l0 a1).bind fun bt317 => (sawmilllaw08_CurveFirst.l0 kj3 l0 a1 a2 bt317.1 bt317.2 false 0)) = some r := by rw [if_neg (show ¬ (false = true) by decide)] at H; exact H
        clear H
        have H := H1
        clear H1
        replace H := Option.bind_eq_some_iff.mp H
        obtain ⟨⟨t317, t318⟩, A110, H⟩ := H
        replace H : (sawmilllaw08_CurveFirst.l0 kj3 l0 a1 a2 t317 t318 false 0) = some r := H
        have A11 := Aside0.mk A110
        clear A110
        have H' := Aside0.mk H
        clear H
        go_wp2_with (first | ((with_reducible refine gate_callee (f := 23) rfl ?_); refine goesL_ (some 23) rfl rfl Try.func23 (by kernel_rfl) rfl #[.slice A0 l0.length c0, .int .i64 a1] rfl (by (try simp only [List.map_toArray, List.map_cons, List.map_nil]); first | done | rfl | (simp only [List.length_drop, List.length_take]; rfl)) ?_; (with_reducible refine (curve_Reach.calls kj3 _ _ l0 a1 t317 t318 _ ?side1 ?side2 A11.out).mono ?_); (case side1 => repeat (first | exact (Kd.C_below HR0.out HB.out) | (with_reducible refine Kd.C_alloc ?_ _) | (with_reducible refine Kd.C_drewN ?_ _) | (with_reducible refine Kd.C_drew ?_))); (case side2 => exact HC0.out); rintro e w12 ⟨rfl, hb⟩; refine ⟨_, rfl, ?_⟩; have n0_ := Aside0.mk (below_step (by repeat (first | (with_reducible first | exact HB.out | apply below_alloc | apply pw_below_drewN | apply below_drew1) | exact HB.out)) hb); clear HB; have HB := n0_; clear n0_; (try clear hb); (try clear hb2); (try clear hk); (try clear hi)))
        go_loopg [9, 10] kj3 (fun kq v9 v10 w' => ∃ (x9_2 : Bool) (x10_2 : Int), v9 = .bool x9_2 ∧ v10 = .int .i64 x10_2 ∧ Aside0 (sawmilllaw08_CurveFirst.l0 kq l0 a1 a2 t317 t318 x9_2 x10_2 = some r) ∧ Aside0 (kq ≤ kj3) ∧ Aside0 (Below w.heap.size w w'))
        case atStart => exact ⟨(false), (0), (by first | rfl | (simp; done) | (simp [*]; done)), (by first | rfl | (simp; done) | (simp [*]; done)), H', ⟨Nat.le_refl _⟩, ⟨by repeat (first | (with_reducible first | exact HB.out | apply below_alloc | apply pw_below_drewN | apply below_drew1) | exact HB.out)⟩⟩
        case round =>
          clear H'
          try clear c1
          try clear c2
          try clear p2
          try clear c6
          try clear c8
          try clear c10
          try clear p2
          obtain ⟨x9_2, x10_2, rfl, rfl, HA, HK2, HB⟩ := hrel
          cases gk with
          | zero => exact absurd HA.out (by simp [sawmilllaw08_CurveFirst.l0])
          | succ k2 =>
            have H := HA.out
            clear HA
            simp only [sawmilllaw08_CurveFirst.l0] at H
            by_cases c13 : x10_2 < (l0.length : Int)
            · rw [if_pos c13] at H
              have c13b0 : decide (x10_2 < (l0.length : Int)) = true := decide_eq_true c13
              clear c13
              by_cases c14 : x9_2 = true
              · subst c14
                have H1 : (sawmilllaw08_CurveFirst.l0 k2 l0 a1 a2 t317 t318 true (wrap64 (x10_2 + 1))) = some r := by rw [if_pos rfl] at H; exact H
                clear H
                have H := H1
                clear H1
                have H' := Aside0.mk H
                clear H
                go_wp2
                go_roundg k2
                case measure => have := HJ3.out; have := HK2.out; omega
                case rel => exact ⟨(true), (wrap64 (x10_2 + 1)), (by first | rfl | (simp; done) | (simp [*]; done)), (by first | rfl | (simp; done) | (simp [*]; done)), H', ⟨by have := HJ3.out; have := HK2.out; omega⟩, ⟨by repeat (first | (with_reducible first | exact HB.out | apply below_alloc | apply pw_below_drewN | apply below_drew1) | exact HB.out)⟩⟩
              · replace c14 := Bool.eq_false_iff.mpr c14
                subst c14
                have H1 : (if 0 ≤ x10_2 then (sawmilllaw08_CurveFirst.l0 k2 l0 a1 a2 t317 t318 (decide (((rd_T36 l0 x10_2).f1) ≥ a1)) (wrap64 (x10_2 + 1))) else (none)) = some r := by rw [if_neg (show ¬ (false = true) by decide)] at H; exact H
                clear H
                have H := H1
                clear H1
                by_cases c15 : 0 ≤ x10_2
                · rw [if_pos c15] at H
                  have c15b0 : decide (0 ≤ x10_2) = true := decide_eq_true c15
                  clear c15
                  have H' := Aside0.mk H
                  clear H
                  have p319 : 0 ≤ (x10_2 : Int) := of_decide_eq_true (by first | (with_reducible assumption) | assumption)
                  have q319 : x10_2 < (l0.length : Int) := of_decide_eq_true (by first | (with_reducible assumption) | assumption)
                  obtain ⟨ad319, e319, hx319_0, hx319_1⟩ := at_T36 HR0.out x10_2 p319 q319
                  cases e319
                  replace hx319_0 := (HB.out.cell (World.block_lt_of_cell? w _ hx319_0)).trans hx319_0
                  replace hx319_1 := (HB.out.cell (World.block_lt_of_cell? w _ hx319_1)).trans hx319_1
                  replace p319 := eq_true p319
                  replace q319 := eq_true q319
                  go_wp2
                  go_roundg k2
                  case measure => have := HJ3.out; have := HK2.out; omega
                  case rel => exact ⟨(decide (((rd_T36 l0 x10_2).f1) ≥ a1)), (wrap64 (x10_2 + 1)), (by first | rfl | (simp; done) | (simp [*]; done)), (by first | rfl | (simp; done) | (simp [*]; done)), H', ⟨by have := HJ3.out; have := HK2.out; omega⟩, ⟨by repeat (first | (with_reducible first | exact HB.out | apply below_alloc | apply pw_below_drewN | apply below_drew1) | exact HB.out)⟩⟩
                · rw [if_neg c15] at H
                  exact absurd H (by simp)
            · rw [if_neg c13] at H
              have c13b0 : decide (x10_2 < (l0.length : Int)) = false := decide_eq_false c13
              clear c13
              by_cases c16 : (t318 != x9_2) = true
              · rw [if_pos c16] at H
                have c16b0 : (t318 != x9_2) = true := c16
                (try (have c16b1 : decide (t318 = x9_2) = false := by simpa using c16))
                (try (have c16b2 : (t318 == x9_2) = false := by simpa using c16))
                (try (have c16b3 : ¬ (t318 = x9_2) := by simpa using c16))
                clear c16
                obtain rfl := Option.some.inj H
                go_wp2
                go_ret
                exact ⟨by first | rfl | (simp [errW_none, errW_some] <;> rfl) | (simp [*, errW_none, errW_some] <;> rfl), by repeat (first | (with_reducible first | exact HB.out | apply below_alloc | apply pw_below_drewN | apply below_drew1) | exact HB.out)⟩
              · rw [if_neg c16] at H
                have c16b0 : (t318 != x9_2) = false := by simpa using c16
                (try (have c16b1 : decide (t318 = x9_2) = true := by simpa using c16))
                (try (have c16b2 : (t318 == x9_2) = true := by simpa using c16))
                clear c16
                by_cases c17 : t318 = true
                · subst c17
                  have H1 : (if 0 < (l0.length : Int) then (if t317 < ((rd_T36 l0 0).f0) then (sawmilllaw08_CurveFirst.j2 k2 l0 a1 a2 t317 true) else (if 0 ≤ (wrap64 ((l0.length : Int) - 1)) then (if (wrap64 ((l0.length : Int) - 1)) < (l0.length : Int) then (if t317 > ((rd_T36 l0 (wrap64 ((l0.length : Int) - 1))).f0) then (sawmilllaw08_CurveFirst.j2 k2 l0 a1 a2 t317 true) else ((curve_At.f k2 l0 t317).bind fun t324 => (sawmilllaw08_CurveFirst.j2 k2 l0 a1 a2 t317 (decide (t324 < a1))))) else (none)) else (none))) else (none)) = some r := by rw [if_pos rfl] at H; exact H
                  clear H
                  have H := H1
                  clear H1
                  have HC18 := Aside0.mk H
                  clear H
                  go_upto_region 13 with (fail)
                  go_cut [82] (fun v82 wc => ∃ (kq : Nat) (x82_17 : Bool), v82 = .bool x82_17 ∧ Aside0 (sawmilllaw08_CurveFirst.j2 kq l0 a1 a2 t317 x82_17 = some r) ∧ Aside0 (kq ≤ k2) ∧ Aside0 (Below w.heap.size w wc))
                  case first =>
                    have H := HC18.out
                    clear HC18
                    by_cases c19 : 0 < (l0.length : Int)
                    · rw [if_pos c19] at H
                      have c19b0 : decide (0 < (l0.length : Int)) = true := decide_eq_true c19
                      have c19b1 : decide (0 < l0.length) = true := decide_eq_true (by omega)
                      clear c19
                      (first | rw [c19b0] | (simp only [i64_w, i32_w]; rw [c19b0]) | skip)
                      by_cases c20 : t317 < ((rd_T36 l0 0).f0)
                      · rw [if_pos c20] at H
                        have c20b0 : decide (t317 < ((rd_T36 l0 0).f0)) = true := decide_eq_true c20
                        clear c20
                        have H' := Aside0.mk H
                        clear H
                        have p322 : 0 ≤ (0 : Int) := (by omega)
                        have q322 : 0 < (l0.length : Int) := of_decide_eq_true (by first | (with_reducible assumption) | assumption)
                        obtain ⟨ad322, e322, hx322_0, hx322_1⟩ := at_T36 HR0.out 0 p322 q322
                        cases e322
                        have qi322 : (0 < l0.length) = True := eq_true (by omega)
                        (try rw [show ((0 : Int)).toNat = 0 from rfl] at hx322_0)
                        (try rw [show 0 * 2 = 0 from rfl] at hx322_0)
                        (try rw [Addr.add_zero'] at hx322_0)
                        (try rw [show ((0 : Int)).toNat = 0 from rfl] at hx322_1)
                        (try rw [show 0 * 2 = 0 from rfl] at hx322_1)
                        (try rw [Addr.add_zero'] at hx322_1)
                        replace hx322_0 := (HB.out.cell (World.block_lt_of_cell? w _ hx322_0)).trans hx322_0
                        replace hx322_1 := (HB.out.cell (World.block_lt_of_cell? w _ hx322_1)).trans hx322_1
                        replace p322 := eq_true p322
                        replace q322 := eq_true q322
                        go_wp2
                        go_meet
                        case rel => exact ⟨_, (true), (by first | rfl | (simp; done) | (simp [*]; done)), H', ⟨by have := HJ3.out; have := HK2.out; first | omega | exact Nat.le_refl _⟩, ⟨by repeat (first | (with_reducible first | exact HB.out | apply below_alloc | apply pw_below_drewN | apply below_drew1) | exact HB.out)⟩⟩
                      · rw [if_neg c20] at H
                        have c20b0 : decide (t317 < ((rd_T36 l0 0).f0)) = false := decide_eq_false c20
                        clear c20
                        obtain ⟨ji21, hji21⟩ : ∃ j_ : Int, (wrap64 ((l0.length : Int) - 1)) = j_ := ⟨_, rfl⟩
                        replace H : (if 0 ≤ (ji21) then (if (ji21) < (l0.length : Int) then (if t317 > ((rd_T36 l0 (ji21)).f0) then (sawmilllaw08_CurveFirst.j2 k2 l0 a1 a2 t317 true) else ((curve_At.f k2 l0 t317).bind fun t324 => (sawmilllaw08_CurveFirst.j2 k2 l0 a1 a2 t317 (decide (t324 < a1))))) else (none)) else (none)) = some r := by first | (rw [hji21] at H; exact H) | (simp only [hji21] at H ⊢; exact H)
                        have hji21w : (IntKind.i64.wrap ((l0.length : Int) - 1)) = ji21 := (i64_w _).trans hji21
                        by_cases c22 : 0 ≤ (ji21)
                        · rw [if_pos c22] at H
                          have c22b0 : decide (0 ≤ (ji21)) = true := decide_eq_true c22
                          clear c22
                          by_cases c23 : (ji21) < (l0.length : Int)
                          · rw [if_pos c23] at H
                            have c23b0 : decide ((ji21) < (l0.length : Int)) = true := decide_eq_true c23
                            clear c23
                            by_cases c24 : t317 > ((rd_T36 l0 (ji21)).f0)
                            · rw [if_pos c24] at H
                              have c24b0 : decide (((rd_T36 l0 (ji21)).f0) < t317) = true := decide_eq_true c24
                              clear c24
                              have H' := Aside0.mk H
                              clear H
                              have p322 : 0 ≤ (0 : Int) := (by omega)
                              have q322 : 0 < (l0.length : Int) := of_decide_eq_true (by first | (with_reducible assumption) | assumption)
                              obtain ⟨ad322, e322, hx322_0, hx322_1⟩ := at_T36 HR0.out 0 p322 q322
                              cases e322
                              have qi322 : (0 < l0.length) = True := eq_true (by omega)
                              (try rw [show ((0 : Int)).toNat = 0 from rfl] at hx322_0)
                              (try rw [show 0 * 2 = 0 from rfl] at hx322_0)
                              (try rw [Addr.add_zero'] at hx322_0)
                              (try rw [show ((0 : Int)).toNat = 0 from rfl] at hx322_1)
                              (try rw [show 0 * 2 = 0 from rfl] at hx322_1)
                              (try rw [Addr.add_zero'] at hx322_1)
                              replace hx322_0 := (HB.out.cell (World.block_lt_of_cell? w _ hx322_0)).trans hx322_0
                              replace hx322_1 := (HB.out.cell (World.block_lt_of_cell? w _ hx322_1)).trans hx322_1
                              replace p322 := eq_true p322
                              replace q322 := eq_true q322
                              have p323 : 0 ≤ ((ji21) : Int) := of_decide_eq_true (by first | (with_reducible assumption) | assumption)
                              have q323 : (ji21) < (l0.length : Int) := of_decide_eq_true (by first | (with_reducible assumption) | assumption)
                              obtain ⟨ad323, e323, hx323_0, hx323_1⟩ := at_T36 HR0.out (ji21) p323 q323
                              obtain rfl : ad322 = ad323 := (by injection e323)
                              replace hx323_0 := (HB.out.cell (World.block_lt_of_cell? w _ hx323_0)).trans hx323_0
                              replace hx323_1 := (HB.out.cell (World.block_lt_of_cell? w _ hx323_1)).trans hx323_1
                              replace p323 := eq_true p323
                              replace q323 := eq_true q323
                              go_wp2
                              go_meet
                              case rel => exact ⟨_, (true), (by first | rfl | (simp; done) | (simp [*]; done)), H', ⟨by have := HJ3.out; have := HK2.out; first | omega | exact Nat.le_refl _⟩, ⟨by repeat (first | (with_reducible first | exact HB.out | apply below_alloc | apply pw_below_drewN | apply below_drew1) | exact HB.out)⟩⟩
                            · rw [if_neg c24] at H
                              have c24b0 : decide (((rd_T36 l0 (ji21)).f0) < t317) = false := decide_eq_false c24
                              clear c24
                              replace H := Option.bind_eq_some_iff.mp H
                              obtain ⟨t324, A250, H⟩ := H
                              replace H : (sawmilllaw08_CurveFirst.j2 k2 l0 a1 a2 t317 (decide (t324 < a1))) = some r := H
                              have A25 := Aside0.mk A250
                              clear A250
                              have H' := Aside0.mk H
                              clear H
                              have p322 : 0 ≤ (0 : Int) := (by omega)
                              have q322 : 0 < (l0.length : Int) := of_decide_eq_true (by first | (with_reducible assumption) | assumption)
                              obtain ⟨ad322, e322, hx322_0, hx322_1⟩ := at_T36 HR0.out 0 p322 q322
                              cases e322
                              have qi322 : (0 < l0.length) = True := eq_true (by omega)
                              (try rw [show ((0 : Int)).toNat = 0 from rfl] at hx322_0)
                              (try rw [show 0 * 2 = 0 from rfl] at hx322_0)
                              (try rw [Addr.add_zero'] at hx322_0)
                              (try rw [show ((0 : Int)).toNat = 0 from rfl] at hx322_1)
                              (try rw [show 0 * 2 = 0 from rfl] at hx322_1)
                              (try rw [Addr.add_zero'] at hx322_1)
                              replace hx322_0 := (HB.out.cell (World.block_lt_of_cell? w _ hx322_0)).trans hx322_0
                              replace hx322_1 := (HB.out.cell (World.block_lt_of_cell? w _ hx322_1)).trans hx322_1
                              replace p322 := eq_true p322
                              replace q322 := eq_true q322
                              have p323 : 0 ≤ ((ji21) : Int) := of_decide_eq_true (by first | (with_reducible assumption) | assumption)
                              have q323 : (ji21) < (l0.length : Int) := of_decide_eq_true (by first | (with_reducible assumption) | assumption)
                              obtain ⟨ad323, e323, hx323_0, hx323_1⟩ := at_T36 HR0.out (ji21) p323 q323
                              obtain rfl : ad322 = ad323 := (by injection e323)
                              replace hx323_0 := (HB.out.cell (World.block_lt_of_cell? w _ hx323_0)).trans hx323_0
                              replace hx323_1 := (HB.out.cell (World.block_lt_of_cell? w _ hx323_1)).trans hx323_1
                              replace p323 := eq_true p323
                              replace q323 := eq_true q323
                              go_wp2_with (first | (go_at_call 17; (with_reducible refine (curve_At.calls k2 _ _ l0 t317 t324 _ ?side1 ?side2 A25.out).mono ?_); (case side1 => repeat (first | exact (Kd.C_below HR0.out HB.out) | (with_reducible refine Kd.C_alloc ?_ _) | (with_reducible refine Kd.C_drewN ?_ _) | (with_reducible refine Kd.C_drew ?_))); (case side2 => exact HC0.out); rintro e w26 ⟨rfl, hb⟩; have n0_ := Aside0.mk (below_step (by repeat (first | (with_reducible first | exact HB.out | apply below_alloc | apply pw_below_drewN | apply below_drew1) | exact HB.out)) hb); clear HB; have HB := n0_; clear n0_; (try clear hb); (try clear hb2); (try clear hk); (try clear hi)))
                              go_meet
                              case rel => exact ⟨_, (decide (t324 < a1)), (by first | rfl | (simp; done) | (simp [*]; done)), H', ⟨by have := HJ3.out; have := HK2.out; first | omega | exact Nat.le_refl _⟩, ⟨by repeat (first | (with_reducible first | exact HB.out | apply below_alloc | apply pw_below_drewN | apply below_drew1) | exact HB.out)⟩⟩
                          · rw [if_neg c23] at H
                            exact absurd H (by simp)
                        · rw [if_neg c22] at H
                          exact absurd H (by simp)
                    · rw [if_neg c19] at H
                      exact absurd H (by simp)
                  case rest =>
                    clear HC18
                    try clear c1
                    try clear c2
                    try clear p2
                    try clear p3
                    try clear q3
                    try clear hx3
                    try clear qi3
                    try clear c6
                    try clear p6
                    try clear c8
                    try clear c10
                    try clear c13
                    try clear c13b0
                    try clear c14
                    try clear c15
                    try clear c15b0
                    try clear c16
                    try clear c16b0
                    try clear c16b1
                    try clear c16b2
                    try clear c17
                    try clear c19
                    try clear c19b0
                    try clear c19b1
                    try clear c20
                    try clear c20b0
                    try clear c22
                    try clear c22b0
                    try clear c23
                    try clear c23b0
                    try clear c24
                    try clear c24b0
                    try clear hx319_0
                    try clear hx319_1
                    try clear hx322_0
                    try clear hx322_1
                    try clear hx323_0
                    try clear hx323_1
                    try clear p2
                    try clear p319
                    try clear p322
                    try clear p323
                    try clear q319
                    try clear q322
                    try clear q323
                    obtain ⟨kq, x82_17, rfl, HA, HJ17, HB⟩ := hcut
                    cases kq with
                    | zero => exact absurd HA.out (by simp [sawmilllaw08_CurveFirst.j2])
                    | succ kj17 =>
                      have H := HA.out
                      clear HA
                      simp only [sawmilllaw08_CurveFirst.j2] at H
                      by_cases c27 : x82_17 = true
                      · subst c27
                        have H1 : (some false) = some r := by rw [if_pos rfl] at H; exact H
                        clear H
                        have H := H1
                        clear H1
                        obtain rfl := Option.some.inj H
                        go_wp2
                        go_ret
                        exact ⟨by first | rfl | (simp [errW_none, errW_some] <;> rfl) | (simp [*, errW_none, errW_some] <;> rfl), by repeat (first | (with_reducible first | exact HB.out | apply below_alloc | apply pw_below_drewN | apply below_drew1) | exact HB.out)⟩
                      · replace c27 := Bool.eq_false_iff.mpr c27
                        subst c27
                        have H1 : (if 0 < (l0.length : Int) then (if t317 > ((rd_T36 l0 0).f0) then ((curve_At.f kj17 l0 (wrap64 (t317 - 1))).bind fun t326 => (sawmilllaw08_CurveFirst.j3 kj17 l0 a1 a2 t317 (decide (t326 ≥ a1)))) else (sawmilllaw08_CurveFirst.j3 kj17 l0 a1 a2 t317 false)) else (none)) = some r := by rw [if_neg (show ¬ (false = true) by decide)] at H; exact H
                        clear H
                        have H := H1
                        clear H1
                        have HC28 := Aside0.mk H
                        clear H
                        go_upto_region 15 with (fail)
                        go_cut [96] (fun v96 wc => ∃ (kq : Nat) (x96_27 : Bool), v96 = .bool x96_27 ∧ Aside0 (sawmilllaw08_CurveFirst.j3 kq l0 a1 a2 t317 x96_27 = some r) ∧ Aside0 (kq ≤ kj17) ∧ Aside0 (Below w.heap.size w wc))
                        case first =>
                          have H := HC28.out
                          clear HC28
                          by_cases c29 : 0 < (l0.length : Int)
                          · rw [if_pos c29] at H
                            have c29b0 : decide (0 < (l0.length : Int)) = true := decide_eq_true c29
                            have c29b1 : decide (0 < l0.length) = true := decide_eq_true (by omega)
                            clear c29
                            (first | rw [c29b0] | (simp only [i64_w, i32_w]; rw [c29b0]) | skip)
                            by_cases c30 : t317 > ((rd_T36 l0 0).f0)
                            · rw [if_pos c30] at H
                              have c30b0 : decide (((rd_T36 l0 0).f0) < t317) = true := decide_eq_true c30
                              clear c30
                              replace H := Option.bind_eq_some_iff.mp H
                              obtain ⟨t326, A310, H⟩ := H
                              replace H : (sawmilllaw08_CurveFirst.j3 kj17 l0 a1 a2 t317 (decide (t326 ≥ a1))) = some r := H
                              have A31 := Aside0.mk A310
                              clear A310
                              have H' := Aside0.mk H
                              clear H
                              have p325 : 0 ≤ (0 : Int) := (by omega)
                              have q325 : 0 < (l0.length : Int) := of_decide_eq_true (by first | (with_reducible assumption) | assumption)
                              obtain ⟨ad325, e325, hx325_0, hx325_1⟩ := at_T36 HR0.out 0 p325 q325
                              cases e325
                              have qi325 : (0 < l0.length) = True := eq_true (by omega)
                              (try rw [show ((0 : Int)).toNat = 0 from rfl] at hx325_0)
                              (try rw [show 0 * 2 = 0 from rfl] at hx325_0)
                              (try rw [Addr.add_zero'] at hx325_0)
                              (try rw [show ((0 : Int)).toNat = 0 from rfl] at hx325_1)
                              (try rw [show 0 * 2 = 0 from rfl] at hx325_1)
                              (try rw [Addr.add_zero'] at hx325_1)
                              replace hx325_0 := (HB.out.cell (World.block_lt_of_cell? w _ hx325_0)).trans hx325_0
                              replace hx325_1 := (HB.out.cell (World.block_lt_of_cell? w _ hx325_1)).trans hx325_1
                              replace p325 := eq_true p325
                              replace q325 := eq_true q325
                              go_wp2_with (first | (go_at_call 17; (with_reducible refine (curve_At.calls kj17 _ _ l0 (wrap64 (t317 - 1)) t326 _ ?side1 ?side2 A31.out).mono ?_); (case side1 => repeat (first | exact (Kd.C_below HR0.out HB.out) | (with_reducible refine Kd.C_alloc ?_ _) | (with_reducible refine Kd.C_drewN ?_ _) | (with_reducible refine Kd.C_drew ?_))); (case side2 => exact HC0.out); rintro e w32 ⟨rfl, hb⟩; have n0_ := Aside0.mk (below_step (by repeat (first | (with_reducible first | exact HB.out | apply below_alloc | apply pw_below_drewN | apply below_drew1) | exact HB.out)) hb); clear HB; have HB := n0_; clear n0_; (try clear hb); (try clear hb2); (try clear hk); (try clear hi)))
                              go_meet
                              case rel => exact ⟨_, (decide (t326 ≥ a1)), (by first | rfl | (simp; done) | (simp [*]; done)), H', ⟨by have := HJ3.out; have := HK2.out; have := HJ17.out; first | omega | exact Nat.le_refl _⟩, ⟨by repeat (first | (with_reducible first | exact HB.out | apply below_alloc | apply pw_below_drewN | apply below_drew1) | exact HB.out)⟩⟩
                            · rw [if_neg c30] at H
                              have c30b0 : decide (((rd_T36 l0 0).f0) < t317) = false := decide_eq_false c30
                              clear c30
                              have H' := Aside0.mk H
                              clear H
                              have p325 : 0 ≤ (0 : Int) := (by omega)
                              have q325 : 0 < (l0.length : Int) := of_decide_eq_true (by first | (with_reducible assumption) | assumption)
                              obtain ⟨ad325, e325, hx325_0, hx325_1⟩ := at_T36 HR0.out 0 p325 q325
                              cases e325
                              have qi325 : (0 < l0.length) = True := eq_true (by omega)
                              (try rw [show ((0 : Int)).toNat = 0 from rfl] at hx325_0)
                              (try rw [show 0 * 2 = 0 from rfl] at hx325_0)
                              (try rw [Addr.add_zero'] at hx325_0)
                              (try rw [show ((0 : Int)).toNat = 0 from rfl] at hx325_1)
                              (try rw [show 0 * 2 = 0 from rfl] at hx325_1)
                              (try rw [Addr.add_zero'] at hx325_1)
                              replace hx325_0 := (HB.out.cell (World.block_lt_of_cell? w _ hx325_0)).trans hx325_0
                              replace hx325_1 := (HB.out.cell (World.block_lt_of_cell? w _ hx325_1)).trans hx325_1
                              replace p325 := eq_true p325
                              replace q325 := eq_true q325
                              go_wp2
                              go_meet
                              case rel => exact ⟨_, (false), (by first | rfl | (simp; done) | (simp [*]; done)), H', ⟨by have := HJ3.out; have := HK2.out; have := HJ17.out; first | omega | exact Nat.le_refl _⟩, ⟨by repeat (first | (with_reducible first | exact HB.out | apply below_alloc | apply pw_below_drewN | apply below_drew1) | exact HB.out)⟩⟩
                          · rw [if_neg c29] at H
                            exact absurd H (by simp)
                        case rest =>
                          clear HC28
                          try clear c1
                          try clear c2
                          try clear p2
                          try clear c3
                          try clear p3
                          try clear q3
                          try clear hx3
                          try clear qi3
                          try clear c6
                          try clear p6
                          try clear c8
                          try clear c10
                          try clear c13
                          try clear c13b0
                          try clear c14
                          try clear c15
                          try clear c15b0
                          try clear c16
                          try clear c16b0
                          try clear c16b1
                          try clear c16b2
                          try clear c17
                          try clear c19
                          try clear c19b0
                          try clear c19b1
                          try clear c20
                          try clear c20b0
                          try clear c22
                          try clear c22b0
                          try clear c23
                          try clear c23b0
                          try clear c24
                          try clear c24b0
                          try clear c27
                          try clear c29
                          try clear c29b0
                          try clear c29b1
                          try clear c30
                          try clear c30b0
                          try clear p31
                          try clear q31
                          try clear hx31
                          try clear p32
                          try clear q32
                          try clear hx32
                          try clear qi32
                          try clear hx319_0
                          try clear hx319_1
                          try clear hx322_0
                          try clear hx322_1
                          try clear hx323_0
                          try clear hx323_1
                          try clear hx325_0
                          try clear hx325_1
                          try clear p2
                          try clear p3
                          try clear p319
                          try clear p322
                          try clear p323
                          try clear p325
                          try clear p6
                          try clear q3
                          try clear q319
                          try clear q322
                          try clear q323
                          try clear q325
                          obtain ⟨kq, x96_27, rfl, HA, HJ27, HB⟩ := hcut
                          cases kq with
                          | zero => exact absurd HA.out (by simp [sawmilllaw08_CurveFirst.j3])
                          | succ kj27 =>
                            have H := HA.out
                            clear HA
                            simp only [sawmilllaw08_CurveFirst.j3] at H
                            by_cases c33 : x96_27 = true
                            · subst c33
                              have H1 : (some false) = some r := by rw [if_pos rfl] at H; exact H
                              clear H
                              have H := H1
                              clear H1
                              obtain rfl := Option.some.inj H
                              go_wp2
                              go_ret
                              exact ⟨by first | rfl | (simp [errW_none, errW_some] <;> rfl) | (simp [*, errW_none, errW_some] <;> rfl), by repeat (first | (with_reducible first | exact HB.out | apply below_alloc | apply pw_below_drewN | apply below_drew1) | exact HB.out)⟩
                            · replace c33 := Bool.eq_false_iff.mpr c33
                              subst c33
                              have H1 : (if 0 < (l0.length : Int) then (if a2 < ((rd_T36 l0 0).f0) then ((sawmilllaw08_awake.f kj27).bind fun t328 => (some t328)) else (if a2 ≥ t317 then ((sawmilllaw08_awake.f kj27).bind fun t329 => (some t329)) else ((curve_At.f kj27 l0 a2).bind fun t330 => (if t330 < a1 then ((sawmilllaw08_awake.f kj27).bind fun t331 => (some t331)) else (some false))))) else (none)) = some r := by rw [if_neg (show ¬ (false = true) by decide)] at H; exact H
                              clear H
                              have H := H1
                              clear H1
                              by_cases c34 : 0 < (l0.length : Int)
                              · rw [if_pos c34] at H
                                have c34b0 : decide (0 < (l0.length : Int)) = true := decide_eq_true c34
                                have c34b1 : decide (0 < l0.length) = true := decide_eq_true (by omega)
                                clear c34
                                by_cases c35 : a2 < ((rd_T36 l0 0).f0)
                                · rw [if_pos c35] at H
                                  have c35b0 : decide (a2 < ((rd_T36 l0 0).f0)) = true := decide_eq_true c35
                                  clear c35
                                  replace H := Option.bind_eq_some_iff.mp H
                                  obtain ⟨t328, A360, H⟩ := H
                                  replace H : (some t328) = some r := H
                                  have A36 := Aside0.mk A360
                                  clear A360
                                  obtain rfl := Option.some.inj H
                                  have p327 : 0 ≤ (0 : Int) := (by omega)
                                  have q327 : 0 < (l0.length : Int) := of_decide_eq_true (by first | (with_reducible assumption) | assumption)
                                  obtain ⟨ad327, e327, hx327_0, hx327_1⟩ := at_T36 HR0.out 0 p327 q327
                                  cases e327
                                  have qi327 : (0 < l0.length) = True := eq_true (by omega)
                                  (try rw [show ((0 : Int)).toNat = 0 from rfl] at hx327_0)
                                  (try rw [show 0 * 2 = 0 from rfl] at hx327_0)
                                  (try rw [Addr.add_zero'] at hx327_0)
                                  (try rw [show ((0 : Int)).toNat = 0 from rfl] at hx327_1)
                                  (try rw [show 0 * 2 = 0 from rfl] at hx327_1)
                                  (try rw [Addr.add_zero'] at hx327_1)
                                  replace hx327_0 := (HB.out.cell (World.block_lt_of_cell? w _ hx327_0)).trans hx327_0
                                  replace hx327_1 := (HB.out.cell (World.block_lt_of_cell? w _ hx327_1)).trans hx327_1
                                  replace p327 := eq_true p327
                                  replace q327 := eq_true q327
                                  go_wp2_with (first | (go_at_call 13; (with_reducible refine (sawmilllaw08_awake.calls kj27  t328 _ A36.out).mono ?_); rintro e w37 ⟨rfl, hb⟩; have n0_ := Aside0.mk (below_step (by repeat (first | (with_reducible first | exact HB.out | apply below_alloc | apply pw_below_drewN | apply below_drew1) | exact HB.out)) hb); clear HB; have HB := n0_; clear n0_; (try clear hb); (try clear hb2); (try clear hk); (try clear hi)))
                                  go_ret
                                  exact ⟨by first | rfl | (simp [errW_none, errW_some] <;> rfl) | (simp [*, errW_none, errW_some] <;> rfl), by repeat (first | (with_reducible first | exact HB.out | apply below_alloc | apply pw_below_drewN | apply below_drew1) | exact HB.out)⟩
                                · rw [if_neg c35] at H
                                  have c35b0 : decide (a2 < ((rd_T36 l0 0).f0)) = false := decide_eq_false c35
                                  clear c35
                                  by_cases c38 : a2 ≥ t317
                                  · rw [if_pos c38] at H
                                    have c38b0 : decide (t317 ≤ a2) = true := decide_eq_true c38
                                    clear c38
                                    replace H := Option.bind_eq_some_iff.mp H
                                    obtain ⟨t329, A390, H⟩ := H
                                    replace H : (some t329) = some r := H
                                    have A39 := Aside0.mk A390
                                    clear A390
                                    obtain rfl := Option.some.inj H
                                    have p327 : 0 ≤ (0 : Int) := (by omega)
                                    have q327 : 0 < (l0.length : Int) := of_decide_eq_true (by first | (with_reducible assumption) | assumption)
                                    obtain ⟨ad327, e327, hx327_0, hx327_1⟩ := at_T36 HR0.out 0 p327 q327
                                    cases e327
                                    have qi327 : (0 < l0.length) = True := eq_true (by omega)
                                    (try rw [show ((0 : Int)).toNat = 0 from rfl] at hx327_0)
                                    (try rw [show 0 * 2 = 0 from rfl] at hx327_0)
                                    (try rw [Addr.add_zero'] at hx327_0)
                                    (try rw [show ((0 : Int)).toNat = 0 from rfl] at hx327_1)
                                    (try rw [show 0 * 2 = 0 from rfl] at hx327_1)
                                    (try rw [Addr.add_zero'] at hx327_1)
                                    replace hx327_0 := (HB.out.cell (World.block_lt_of_cell? w _ hx327_0)).trans hx327_0
                                    replace hx327_1 := (HB.out.cell (World.block_lt_of_cell? w _ hx327_1)).trans hx327_1
                                    replace p327 := eq_true p327
                                    replace q327 := eq_true q327
                                    go_wp2_with (first | (go_at_call 13; (with_reducible refine (sawmilllaw08_awake.calls kj27  t329 _ A39.out).mono ?_); rintro e w40 ⟨rfl, hb⟩; have n0_ := Aside0.mk (below_step (by repeat (first | (with_reducible first | exact HB.out | apply below_alloc | apply pw_below_drewN | apply below_drew1) | exact HB.out)) hb); clear HB; have HB := n0_; clear n0_; (try clear hb); (try clear hb2); (try clear hk); (try clear hi)))
                                    go_ret
                                    exact ⟨by first | rfl | (simp [errW_none, errW_some] <;> rfl) | (simp [*, errW_none, errW_some] <;> rfl), by repeat (first | (with_reducible first | exact HB.out | apply below_alloc | apply pw_below_drewN | apply below_drew1) | exact HB.out)⟩
                                  · rw [if_neg c38] at H
                                    have c38b0 : decide (t317 ≤ a2) = false := decide_eq_false c38
                                    clear c38
                                    replace H := Option.bind_eq_some_iff.mp H
                                    obtain ⟨t330, A410, H⟩ := H
                                    replace H : (if t330 < a1 then ((sawmilllaw08_awake.f kj27).bind fun t331 => (some t331)) else (some false)) = some r := H
                                    have A41 := Aside0.mk A410
                                    clear A410
                                    by_cases c42 : t330 < a1
                                    · rw [if_pos c42] at H
                                      have c42b0 : decide (t330 < a1) = true := decide_eq_true c42
                                      clear c42
                                      replace H := Option.bind_eq_some_iff.mp H
                                      obtain ⟨t331, A430, H⟩ := H
                                      replace H : (some t331) = some r := H
                                      have A43 := Aside0.mk A430
                                      clear A430
                                      obtain rfl := Option.some.inj H
                                      have p327 : 0 ≤ (0 : Int) := (by omega)
                                      have q327 : 0 < (l0.length : Int) := of_decide_eq_true (by first | (with_reducible assumption) | assumption)
                                      obtain ⟨ad327, e327, hx327_0, hx327_1⟩ := at_T36 HR0.out 0 p327 q327
                                      cases e327
                                      have qi327 : (0 < l0.length) = True := eq_true (by omega)
                                      (try rw [show ((0 : Int)).toNat = 0 from rfl] at hx327_0)
                                      (try rw [show 0 * 2 = 0 from rfl] at hx327_0)
                                      (try rw [Addr.add_zero'] at hx327_0)
                                      (try rw [show ((0 : Int)).toNat = 0 from rfl] at hx327_1)
                                      (try rw [show 0 * 2 = 0 from rfl] at hx327_1)
                                      (try rw [Addr.add_zero'] at hx327_1)
                                      replace hx327_0 := (HB.out.cell (World.block_lt_of_cell? w _ hx327_0)).trans hx327_0
                                      replace hx327_1 := (HB.out.cell (World.block_lt_of_cell? w _ hx327_1)).trans hx327_1
                                      replace p327 := eq_true p327
                                      replace q327 := eq_true q327
                                      go_wp2_with (first | (go_at_call 17; (with_reducible refine (curve_At.calls kj27 _ _ l0 a2 t330 _ ?side1 ?side2 A41.out).mono ?_); (case side1 => repeat (first | exact (Kd.C_below HR0.out HB.out) | (with_reducible refine Kd.C_alloc ?_ _) | (with_reducible refine Kd.C_drewN ?_ _) | (with_reducible refine Kd.C_drew ?_))); (case side2 => exact HC0.out); rintro e w44 ⟨rfl, hb⟩; have n0_ := Aside0.mk (below_step (by repeat (first | (with_reducible first | exact HB.out | apply below_alloc | apply pw_below_drewN | apply below_drew1) | exact HB.out)) hb); clear HB; have HB := n0_; clear n0_; (try clear hb); (try clear hb2); (try clear hk); (try clear hi)) | (go_at_call 13; (with_reducible refine (sawmilllaw08_awake.calls kj27  t331 _ A43.out).mono ?_); rintro e w45 ⟨rfl, hb⟩; have n0_ := Aside0.mk (below_step (by repeat (first | (with_reducible first | exact HB.out | apply below_alloc | apply pw_below_drewN | apply below_drew1) | exact HB.out)) hb); clear HB; have HB := n0_; clear n0_; (try clear hb); (try clear hb2); (try clear hk); (try clear hi)))
                                      go_ret
                                      exact ⟨by first | rfl | (simp [errW_none, errW_some] <;> rfl) | (simp [*, errW_none, errW_some] <;> rfl), by repeat (first | (with_reducible first | exact HB.out | apply below_alloc | apply pw_below_drewN | apply below_drew1) | exact HB.out)⟩
                                    · rw [if_neg c42] at H
                                      have c42b0 : decide (t330 < a1) = false := decide_eq_false c42
                                      clear c42
                                      obtain rfl := Option.some.inj H
                                      have p327 : 0 ≤ (0 : Int) := (by omega)
                                      have q327 : 0 < (l0.length : Int) := of_decide_eq_true (by first | (with_reducible assumption) | assumption)
                                      obtain ⟨ad327, e327, hx327_0, hx327_1⟩ := at_T36 HR0.out 0 p327 q327
                                      cases e327
                                      have qi327 : (0 < l0.length) = True := eq_true (by omega)
                                      (try rw [show ((0 : Int)).toNat = 0 from rfl] at hx327_0)
                                      (try rw [show 0 * 2 = 0 from rfl] at hx327_0)
                                      (try rw [Addr.add_zero'] at hx327_0)
                                      (try rw [show ((0 : Int)).toNat = 0 from rfl] at hx327_1)
                                      (try rw [show 0 * 2 = 0 from rfl] at hx327_1)
                                      (try rw [Addr.add_zero'] at hx327_1)
                                      replace hx327_0 := (HB.out.cell (World.block_lt_of_cell? w _ hx327_0)).trans hx327_0
                                      replace hx327_1 := (HB.out.cell (World.block_lt_of_cell? w _ hx327_1)).trans hx327_1
                                      replace p327 := eq_true p327
                                      replace q327 := eq_true q327
                                      go_wp2_with (first | (go_at_call 17; (with_reducible refine (curve_At.calls kj27 _ _ l0 a2 t330 _ ?side1 ?side2 A41.out).mono ?_); (case side1 => repeat (first | exact (Kd.C_below HR0.out HB.out) | (with_reducible refine Kd.C_alloc ?_ _) | (with_reducible refine Kd.C_drewN ?_ _) | (with_reducible refine Kd.C_drew ?_))); (case side2 => exact HC0.out); rintro e w46 ⟨rfl, hb⟩; have n0_ := Aside0.mk (below_step (by repeat (first | (with_reducible first | exact HB.out | apply below_alloc | apply pw_below_drewN | apply below_drew1) | exact HB.out)) hb); clear HB; have HB := n0_; clear n0_; (try clear hb); (try clear hb2); (try clear hk); (try clear hi)))
                                      go_ret
                                      exact ⟨by first | rfl | (simp [errW_none, errW_some] <;> rfl) | (simp [*, errW_none, errW_some] <;> rfl), by repeat (first | (with_reducible first | exact HB.out | apply below_alloc | apply pw_below_drewN | apply below_drew1) | exact HB.out)⟩
                              · rw [if_neg c34] at H
                                exact absurd H (by simp)
                · replace c17 := Bool.eq_false_iff.mpr c17
                  subst c17
                  have H1 : (if t317 = 0 then ((curve_At.f k2 l0 a2).bind fun t320 => (if t320 < a1 then ((sawmilllaw08_awake.f k2).bind fun t321 => (some t321)) else (some false))) else (some false)) = some r := by rw [if_neg (show ¬ (false = true) by decide)] at H; exact H
                  clear H
                  have H := H1
                  clear H1
                  by_cases c47 : t317 = 0
                  · rw [if_pos c47] at H
                    have c47b0 : (t317 == 0) = true := beq_iff_eq.mpr c47
                    have c47b1 : (t317 != 0) = false := bne_eq_false_iff_eq.mpr c47
                    clear c47
                    replace H := Option.bind_eq_some_iff.mp H
                    obtain ⟨t320, A480, H⟩ := H
                    replace H : (if t320 < a1 then ((sawmilllaw08_awake.f k2).bind fun t321 => (some t321)) else (some false)) = some r := H
                    have A48 := Aside0.mk A480
                    clear A480
                    by_cases c49 : t320 < a1
                    · rw [if_pos c49] at H
                      have c49b0 : decide (t320 < a1) = true := decide_eq_true c49
                      clear c49
                      replace H := Option.bind_eq_some_iff.mp H
                      obtain ⟨t321, A500, H⟩ := H
                      replace H : (some t321) = some r := H
                      have A50 := Aside0.mk A500
                      clear A500
                      obtain rfl := Option.some.inj H
                      go_wp2_with (first | (go_at_call 17; (with_reducible refine (curve_At.calls k2 _ _ l0 a2 t320 _ ?side1 ?side2 A48.out).mono ?_); (case side1 => repeat (first | exact (Kd.C_below HR0.out HB.out) | (with_reducible refine Kd.C_alloc ?_ _) | (with_reducible refine Kd.C_drewN ?_ _) | (with_reducible refine Kd.C_drew ?_))); (case side2 => exact HC0.out); rintro e w51 ⟨rfl, hb⟩; have n0_ := Aside0.mk (below_step (by repeat (first | (with_reducible first | exact HB.out | apply below_alloc | apply pw_below_drewN | apply below_drew1) | exact HB.out)) hb); clear HB; have HB := n0_; clear n0_; (try clear hb); (try clear hb2); (try clear hk); (try clear hi)) | (go_at_call 13; (with_reducible refine (sawmilllaw08_awake.calls k2  t321 _ A50.out).mono ?_); rintro e w52 ⟨rfl, hb⟩; have n0_ := Aside0.mk (below_step (by repeat (first | (with_reducible first | exact HB.out | apply below_alloc | apply pw_below_drewN | apply below_drew1) | exact HB.out)) hb); clear HB; have HB := n0_; clear n0_; (try clear hb); (try clear hb2); (try clear hk); (try clear hi)))
                      go_ret
                      exact ⟨by first | rfl | (simp [errW_none, errW_some] <;> rfl) | (simp [*, errW_none, errW_some] <;> rfl), by repeat (first | (with_reducible first | exact HB.out | apply below_alloc | apply pw_below_drewN | apply below_drew1) | exact HB.out)⟩
                    · rw [if_neg c49] at H
                      have c49b0 : decide (t320 < a1) = false := decide_eq_false c49
                      clear c49
                      obtain rfl := Option.some.inj H
                      go_wp2_with (first | (go_at_call 17; (with_reducible refine (curve_At.calls k2 _ _ l0 a2 t320 _ ?side1 ?side2 A48.out).mono ?_); (case side1 => repeat (first | exact (Kd.C_below HR0.out HB.out) | (with_reducible refine Kd.C_alloc ?_ _) | (with_reducible refine Kd.C_drewN ?_ _) | (with_reducible refine Kd.C_drew ?_))); (case side2 => exact HC0.out); rintro e w53 ⟨rfl, hb⟩; have n0_ := Aside0.mk (below_step (by repeat (first | (with_reducible first | exact HB.out | apply below_alloc | apply pw_below_drewN | apply below_drew1) | exact HB.out)) hb); clear HB; have HB := n0_; clear n0_; (try clear hb); (try clear hb2); (try clear hk); (try clear hi)))
                      go_ret
                      exact ⟨by first | rfl | (simp [errW_none, errW_some] <;> rfl) | (simp [*, errW_none, errW_some] <;> rfl), by repeat (first | (with_reducible first | exact HB.out | apply below_alloc | apply pw_below_drewN | apply below_drew1) | exact HB.out)⟩
                  · rw [if_neg c47] at H
                    have c47b0 : (t317 == 0) = false := beq_eq_false_iff_ne.mpr c47
                    have c47b1 : (t317 != 0) = true := bne_iff_ne.mpr c47
                    obtain rfl := Option.some.inj H
                    go_wp2
                    go_ret
                    exact ⟨by first | rfl | (simp [errW_none, errW_some] <;> rfl) | (simp [*, errW_none, errW_some] <;> rfl), by repeat (first | (with_reducible first | exact HB.out | apply below_alloc | apply pw_below_drewN | apply below_drew1) | exact HB.out)⟩

end Go.Proofs.Ytfgeppldckagaaa.PAll
