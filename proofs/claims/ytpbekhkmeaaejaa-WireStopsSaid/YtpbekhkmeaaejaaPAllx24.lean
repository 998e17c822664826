-- Written by a changed copy of the kit's print program, run in this session (NOTES.md tells the change). Not trusted: Lean checks it.
import Derived.Test.YtpbekhkmeaaejaaPAllx0
import Derived.Test.YtpbekhkmeaaejaaPAllx3
import Derived.Test.YtpbekhkmeaaejaaPAllx5
import Derived.Test.YtpbekhkmeaaejaaPAllx7
import Derived.Test.YtpbekhkmeaaejaaPAllx12
import Derived.Test.YtpbekhkmeaaejaaPAllx23
namespace Go.Proofs.Ytpbekhkmeaaejaa.PAll
open Go.RowKit Go.Proofs.YtpbekhkmeaaejaaW.PrintWords Go.Proofs.YtpbekhkmeaaejaaW.PrintLast Go.Proofs.YtpbekhkmeaaejaaW.PrintMore
attribute [local go_sem] max2_int min2_int max_two min_two max_three min_three max_four min_four   -- for this text's walks alone
set_option linter.unusedVariables false
set_option linter.unusedSimpArgs false

/-! ### sawmilllaw05_WireStops: function 9 -/
mutual
def sawmilllaw05_WireStops.j0 : Nat → ByteArray → List (S32) → Bool → Option (Bool)
  | 0, _, _, _ => none
  | k + 1, x0, x1, x18 => if x18 = true then ((sawmilllaw05_awake.f).bind fun t510 => (some t510)) else ((wire_NewReader.f x0).bind fun bt511 => (sawmilllaw05_WireStops.l0 k x1 0 bt511.1 bt511.2.1 bt511.2.2))
def sawmilllaw05_WireStops.l0 : Nat → List (S32) → Int → ByteArray → Int → Int → Option (Bool)
  | 0, _, _, _, _, _ => none
  | k + 1, x1, x6, x515000, x515001, x515002 => if x6 < (x1.length : Int) then ((wire_Reader_Left.f x515000 x515001 x515002).bind fun bt516 => ((wire_Reader_Err.f bt516.2.1 bt516.2.2.1 bt516.2.2.2).bind fun bt520 => (if 0 ≤ x6 then ((sawmilllaw05_read.f k bt520.2.1 bt520.2.2.1 bt520.2.2.2 ((rd_T32 x1 x6).f0) ((rd_T32 x1 x6).f1) ((rd_T32 x1 x6).f2) ((rd_T32 x1 x6).f3)).bind fun bt525 => ((wire_Reader_Err.f bt525.2.2.2.2.2.1 bt525.2.2.2.2.2.2.1 bt525.2.2.2.2.2.2.2).bind fun bt536 => (if bt536.1 = 0 then (sawmilllaw05_WireStops.j2 k x1 x6 bt520.1 bt536.1 false bt536.2.1 bt536.2.2.1 bt536.2.2.2) else ((sawmilllaw05_zero.f bt525.1 bt525.2.1 bt525.2.2.1 bt525.2.2.2.1 bt525.2.2.2.2.1).bind fun t540 => (if t540 = true then ((wire_Reader_Left.f bt536.2.1 bt536.2.2.1 bt536.2.2.2).bind fun bt541 => (if bt541.1 = bt516.1 then ((wire_Reader_End.f bt541.2.1 bt541.2.2.1 bt541.2.2.2).bind fun bt545 => (sawmilllaw05_WireStops.j2 k x1 x6 bt520.1 bt536.1 (bt545.1 != bt536.1) bt545.2.1 bt545.2.2.1 bt545.2.2.2)) else (sawmilllaw05_WireStops.j2 k x1 x6 bt520.1 bt536.1 true bt541.2.1 bt541.2.2.1 bt541.2.2.2))) else (sawmilllaw05_WireStops.j2 k x1 x6 bt520.1 bt536.1 true bt536.2.1 bt536.2.2.1 bt536.2.2.2)))))) else (none)))) else ((sawmilllaw05_awake.f).bind fun t515 => (some t515))
def sawmilllaw05_WireStops.j2 : Nat → List (S32) → Int → Int → Int → Bool → ByteArray → Int → Int → Option (Bool)
  | 0, _, _, _, _, _, _, _, _ => none
  | k + 1, x1, x6, x8, x10, x58, x515000, x515001, x515002 => if x58 = true then (some false) else (if x8 = 0 then (sawmilllaw05_WireStops.l0 k x1 (wrap64 (x6 + 1)) x515000 x515001 x515002) else (if x10 = x8 then (sawmilllaw05_WireStops.l0 k x1 (wrap64 (x6 + 1)) x515000 x515001 x515002) else (some false)))
end
def sawmilllaw05_WireStops.f (k : Nat) (a0 : ByteArray) (l1 : List (S32)) : Option (Bool) := if (a0.size : Int) > 3000 then (sawmilllaw05_WireStops.j0 k a0 l1 true) else (sawmilllaw05_WireStops.j0 k a0 l1 (decide ((l1.length : Int) > 60)))
theorem sawmilllaw05_WireStops.mono_l : ∀ k, (∀ y0 y1 y2, LeO (sawmilllaw05_WireStops.j0 k y0 y1 y2) (sawmilllaw05_WireStops.j0 (k + 1) y0 y1 y2)) ∧ (∀ y0 y1 y2 y3 y4, LeO (sawmilllaw05_WireStops.l0 k y0 y1 y2 y3 y4) (sawmilllaw05_WireStops.l0 (k + 1) y0 y1 y2 y3 y4)) ∧ (∀ y0 y1 y2 y3 y4 y5 y6 y7, LeO (sawmilllaw05_WireStops.j2 k y0 y1 y2 y3 y4 y5 y6 y7) (sawmilllaw05_WireStops.j2 (k + 1) y0 y1 y2 y3 y4 y5 y6 y7))
  | 0 => ⟨fun _ _ _ r h => by simp [sawmilllaw05_WireStops.j0] at h, fun _ _ _ _ _ r h => by simp [sawmilllaw05_WireStops.l0] at h, fun _ _ _ _ _ _ _ _ r h => by simp [sawmilllaw05_WireStops.j2] at h⟩
  | k + 1 => by
    obtain ⟨ih0, ih1, ih2⟩ := sawmilllaw05_WireStops.mono_l k
    refine ⟨?_, ?_, ?_⟩
    · intro y0 y1 y2
      unfold sawmilllaw05_WireStops.j0
      repeat' first
      | (with_reducible exact ih0 _ _ _)
      | (with_reducible exact ih1 _ _ _ _ _)
      | (with_reducible exact ih2 _ _ _ _ _ _ _ _)
      | (with_reducible exact sawmilllaw05_read.mono _ _ _ _ _ _ _ _)
      | (with_reducible exact LeO.refl _)
      | (with_reducible exact LeO.none _)
      | (with_reducible refine LeO.ite ?_ ?_)
      | (with_reducible refine LeO.bind ?_ (fun _ => ?_))
      | exact ih0 _ _ _
      | exact ih1 _ _ _ _ _
      | exact ih2 _ _ _ _ _ _ _ _
      | exact sawmilllaw05_read.mono _ _ _ _ _ _ _ _
      | exact LeO.none _
      | refine LeO.ite ?_ ?_
      | refine LeO.bind ?_ (fun _ => ?_)
    · intro y0 y1 y2 y3 y4
      unfold sawmilllaw05_WireStops.l0
      repeat' first
      | (with_reducible exact ih0 _ _ _)
      | (with_reducible exact ih1 _ _ _ _ _)
      | (with_reducible exact ih2 _ _ _ _ _ _ _ _)
      | (with_reducible exact sawmilllaw05_read.mono _ _ _ _ _ _ _ _)
      | (with_reducible exact LeO.refl _)
      | (with_reducible exact LeO.none _)
      | (with_reducible refine LeO.ite ?_ ?_)
      | (with_reducible refine LeO.bind ?_ (fun _ => ?_))
      | exact ih0 _ _ _
      | exact ih1 _ _ _ _ _
      | exact ih2 _ _ _ _ _ _ _ _
      | exact sawmilllaw05_read.mono _ _ _ _ _ _ _ _
      | exact LeO.none _
      | refine LeO.ite ?_ ?_
      | refine LeO.bind ?_ (fun _ => ?_)
    · intro y0 y1 y2 y3 y4 y5 y6 y7
      unfold sawmilllaw05_WireStops.j2
      repeat' first
      | (with_reducible exact ih0 _ _ _)
      | (with_reducible exact ih1 _ _ _ _ _)
      | (with_reducible exact ih2 _ _ _ _ _ _ _ _)
      | (with_reducible exact sawmilllaw05_read.mono _ _ _ _ _ _ _ _)
      | (with_reducible exact LeO.refl _)
      | (with_reducible exact LeO.none _)
      | (with_reducible refine LeO.ite ?_ ?_)
      | (with_reducible refine LeO.bind ?_ (fun _ => ?_))
      | exact ih0 _ _ _
      | exact ih1 _ _ _ _ _
      | exact ih2 _ _ _ _ _ _ _ _
      | exact sawmilllaw05_read.mono _ _ _ _ _ _ _ _
      | exact LeO.none _
      | refine LeO.ite ?_ ?_
      | refine LeO.bind ?_ (fun _ => ?_)
theorem sawmilllaw05_WireStops.mono : ∀ a0 a1 k, LeO (sawmilllaw05_WireStops.f k a0 a1) (sawmilllaw05_WireStops.f (k + 1) a0 a1) := by
  intro a0 a1 k
  obtain ⟨ih0, ih1, ih2⟩ := sawmilllaw05_WireStops.mono_l k
  unfold sawmilllaw05_WireStops.f
  repeat' first
      | (with_reducible exact ih0 _ _ _)
      | (with_reducible exact ih1 _ _ _ _ _)
      | (with_reducible exact ih2 _ _ _ _ _ _ _ _)
      | (with_reducible exact sawmilllaw05_read.mono _ _ _ _ _ _ _ _)
      | (with_reducible exact LeO.refl _)
      | (with_reducible exact LeO.none _)
      | (with_reducible refine LeO.ite ?_ ?_)
      | (with_reducible refine LeO.bind ?_ (fun _ => ?_))
      | exact ih0 _ _ _
      | exact ih1 _ _ _ _ _
      | exact ih2 _ _ _ _ _ _ _ _
      | exact sawmilllaw05_read.mono _ _ _ _ _ _ _ _
      | exact LeO.none _
      | refine LeO.ite ?_ ?_
      | refine LeO.bind ?_ (fun _ => ?_)
set_option maxHeartbeats 8000000 in
set_option maxRecDepth 100000 in
theorem sawmilllaw05_WireStops.calls (k : Nat) (a0 : ByteArray) (A1 : Option Addr) (c1 : Nat) (l1 : List (S32)) (r : Bool) (w : World) (hr1 : Kd.C k32 w A1 l1.length l1) (hc1 : l1.length ≤ c1) (h : sawmilllaw05_WireStops.f k a0 l1 = some r) :
    Calls Try.prog 9 #[.string a0, .slice A1 l1.length c1] w fun e w' => e = .returned (.bool r) ∧ Below w.heap.size w w' := by
  have hu32 := Try.underlying32
  have hu45 := Try.underlying45
  have HR1 := Aside0.mk hr1
  have HC1 := Aside0.mk hc1
  clear hr1 hc1
  have HB := Aside0.mk (Below.refl w.heap.size w)
  have H : (if (a0.size : Int) > 3000 then (sawmilllaw05_WireStops.j0 k a0 l1 true) else (sawmilllaw05_WireStops.j0 k a0 l1 (decide ((l1.length : Int) > 60)))) = some r := h
  clear h
  have HC3 := Aside0.mk H
  clear H
  go_enter Try.func9, Try.ntmps9
  go_upto_region 1 with (fail)
  go_cut [18] (fun v18 wc => ∃ (kq : Nat) (x18_2 : Bool), v18 = .bool x18_2 ∧ Aside0 (sawmilllaw05_WireStops.j0 kq a0 l1 x18_2 = some r) ∧ Aside0 (kq ≤ k) ∧ Aside0 (Below w.heap.size w wc))
  case first =>
    have H := HC3.out
    clear HC3
    by_cases c4 : (a0.size : Int) > 3000
    · rw [if_pos c4] at H
      have c4b0 : decide (3000 < (a0.size : Int)) = true := decide_eq_true c4
      have c4b1 : decide (3000 < a0.size) = true := decide_eq_true (by omega)
      clear c4
      (first | rw [c4b0] | (simp only [i64_w, i32_w]; rw [c4b0]) | skip)
      have H' := Aside0.mk H
      clear H
      go_wp2
      go_meet
      case rel => exact ⟨_, (true), (by first | rfl | (simp; done) | (simp [*]; done)), H', ⟨by first | omega | exact Nat.le_refl _⟩, ⟨by repeat (first | (with_reducible first | exact HB.out | apply below_alloc | apply pw_below_drewN | apply below_drew1) | exact HB.out)⟩⟩
    · rw [if_neg c4] at H
      have c4b0 : decide (3000 < (a0.size : Int)) = false := decide_eq_false c4
      have c4b1 : decide (3000 < a0.size) = false := decide_eq_false (by omega)
      clear c4
      (first | rw [c4b0] | (simp only [i64_w, i32_w]; rw [c4b0]) | skip)
      have H' := Aside0.mk H
      clear H
      go_wp2
      go_meet
      case rel => exact ⟨_, (decide ((l1.length : Int) > 60)), (by first | rfl | (simp; done) | (simp [*]; done)), H', ⟨by first | omega | exact Nat.le_refl _⟩, ⟨by repeat (first | (with_reducible first | exact HB.out | apply below_alloc | apply pw_below_drewN | apply below_drew1) | exact HB.out)⟩⟩
  case rest =>
    clear HC3
    try clear c1
    try clear p2
    try clear c4
    try clear c4b0
    try clear c4b1
    obtain ⟨kq, x18_2, rfl, HA, HJ2, HB⟩ := hcut
    cases kq with
    | zero => exact absurd HA.out (by simp [sawmilllaw05_WireStops.j0])
    | succ kj2 =>
      have H := HA.out
      clear HA
      simp only [sawmilllaw05_WireStops.j0] at H
      by_cases c5 : x18_2 = true
      · subst c5
        have H1 : ((sawmilllaw05_awake.f).bind fun t510 => (some t510)) = some r := by rw [if_pos rfl] at H; exact H
        clear H
        have H := H1
        clear H1
        replace H := Option.bind_eq_some_iff.mp H
        obtain ⟨t510, A60, H⟩ := H
        replace H : (some t510) = some r := H
        have A6 := Aside0.mk A60
        clear A60
        obtain rfl := Option.some.inj H
        go_wp2_with (first | ((with_reducible refine gate_callee (f := 16) rfl ?_); refine goesL_ (some 19) rfl rfl Try.func16 (by kernel_rfl) rfl #[] rfl (by (try simp only [List.map_toArray, List.map_cons, List.map_nil]); first | done | rfl | (simp only [List.length_drop, List.length_take]; rfl)) ?_; (with_reducible refine (sawmilllaw05_awake.calls  t510 _ A6.out).mono ?_); rintro e w7 ⟨rfl, hb⟩; refine ⟨_, rfl, ?_⟩; have n0_ := Aside0.mk (below_step (by repeat (first | (with_reducible first | exact HB.out | apply below_alloc | apply pw_below_drewN | apply below_drew1) | exact HB.out)) hb); clear HB; have HB := n0_; clear n0_; (try clear hb); (try clear hb2); (try clear hk); (try clear hi)))
        go_ret
        exact ⟨by first | rfl | (simp [errW_none, errW_some] <;> rfl) | (simp [*, errW_none, errW_some] <;> rfl), by repeat (first | (with_reducible first | exact HB.out | apply below_alloc | apply pw_below_drewN | apply below_drew1) | exact HB.out)⟩
      · replace c5 := Bool.eq_false_iff.mpr c5
        subst c5
        have H1 : ((wire_NewReader.f a0).bind fun bt511 => (sawmilllaw05_WireStops.l0 kj2 l1 0 bt511.1 bt511.2.1 bt511.2.2)) = some r := by rw [if_neg (show ¬ (false = true) by decide)] at H; exact H
        clear H
        have H := H1
        clear H1
        replace H := Option.bind_eq_some_iff.mp H
        obtain ⟨⟨t511, t512, t513⟩, A80, H⟩ := H
        replace H : (sawmilllaw05_WireStops.l0 kj2 l1 0 t511 t512 t513) = some r := H
        have A8 := Aside0.mk A80
        clear A80
        have H' := Aside0.mk H
        clear H
        go_wp2_with (first | ((with_reducible refine gate_callee (f := 21) rfl ?_); refine goesL_ (some 21) rfl rfl Try.func21 (by kernel_rfl) rfl #[.string a0] rfl (by (try simp only [List.map_toArray, List.map_cons, List.map_nil]); first | done | rfl | (simp only [List.length_drop, List.length_take]; rfl)) ?_; (with_reducible refine (wire_NewReader.calls a0 t511 t512 t513 w _ ?side1 A8.out).mono ?_); (case side1 => repeat (first | (with_reducible first | exact HB.out | apply below_alloc | apply pw_below_drewN | apply below_drew1) | exact HB.out)); rintro e w9 ⟨g514, rfl, hi, hb, hb2⟩; refine ⟨_, rfl, ?_⟩; have n0_ := Aside0.mk (hb); have n1_ := Aside0.mk (hi); clear HB; have HB := n0_; have HI514 := n1_; clear n0_ n1_; (try clear hb); (try clear hb2); (try clear hk); (try clear hi)))
        go_loopg [6] kj2 (fun kq v6 w' => ∃ (x6_2 : Int) (x515000_2 : ByteArray) (x515001_2 : Int) (x515002_2 : Int), v6 = .int .i64 x6_2 ∧ Aside0 (sawmilllaw05_WireStops.l0 kq l1 x6_2 x515000_2 x515001_2 x515002_2 = some r) ∧ Aside0 (kq ≤ kj2) ∧ Aside0 (IsS73 w w' g514 x515000_2 x515001_2 x515002_2) ∧ Aside0 (Below w.heap.size w w'))
        case atStart => exact ⟨(0), (t511), (t512), (t513), (by first | rfl | (simp; done) | (simp [*]; done)), H', ⟨Nat.le_refl _⟩, ⟨by repeat (first | (with_reducible first | exact HI514.out | apply IsS73.alloc | apply IsS73.drewN | apply IsS73.drew | apply IsS73.set_0 | apply IsS73.set_1 | apply IsS73.set_2) | exact HI514.out)⟩, ⟨by repeat (first | (with_reducible first | exact HB.out | apply below_alloc | apply pw_below_drewN | apply below_drew1 | refine below_set ?_ (IsS73.ge HI514.out)) | exact HB.out)⟩⟩
        case round =>
          clear H'
          try clear c1
          try clear c2
          try clear p2
          try clear c4
          try clear c4b0
          try clear c4b1
          try clear c5
          try clear c9
          try clear p2
          obtain ⟨x6_2, x515000_2, x515001_2, x515002_2, rfl, HA, HK2, HI514, HB⟩ := hrel
          cases gk with
          | zero => exact absurd HA.out (by simp [sawmilllaw05_WireStops.l0])
          | succ k2 =>
            have H := HA.out
            clear HA
            simp only [sawmilllaw05_WireStops.l0] at H
            by_cases c10 : x6_2 < (l1.length : Int)
            · rw [if_pos c10] at H
              have c10b0 : decide (x6_2 < (l1.length : Int)) = true := decide_eq_true c10
              clear c10
              replace H := Option.bind_eq_some_iff.mp H
              obtain ⟨⟨t516, t517, t518, t519⟩, A110, H⟩ := H
              replace H : ((wire_Reader_Err.f t517 t518 t519).bind fun bt520 => (if 0 ≤ x6_2 then ((sawmilllaw05_read.f k2 bt520.2.1 bt520.2.2.1 bt520.2.2.2 ((rd_T32 l1 x6_2).f0) ((rd_T32 l1 x6_2).f1) ((rd_T32 l1 x6_2).f2) ((rd_T32 l1 x6_2).f3)).bind fun bt525 => ((wire_Reader_Err.f bt525.2.2.2.2.2.1 bt525.2.2.2.2.2.2.1 bt525.2.2.2.2.2.2.2).bind fun bt536 => (if bt536.1 = 0 then (sawmilllaw05_WireStops.j2 k2 l1 x6_2 bt520.1 bt536.1 false bt536.2.1 bt536.2.2.1 bt536.2.2.2) else ((sawmilllaw05_zero.f bt525.1 bt525.2.1 bt525.2.2.1 bt525.2.2.2.1 bt525.2.2.2.2.1).bind fun t540 => (if t540 = true then ((wire_Reader_Left.f bt536.2.1 bt536.2.2.1 bt536.2.2.2).bind fun bt541 => (if bt541.1 = t516 then ((wire_Reader_End.f bt541.2.1 bt541.2.2.1 bt541.2.2.2).bind fun bt545 => (sawmilllaw05_WireStops.j2 k2 l1 x6_2 bt520.1 bt536.1 (bt545.1 != bt536.1) bt545.2.1 bt545.2.2.1 bt545.2.2.2)) else (sawmilllaw05_WireStops.j2 k2 l1 x6_2 bt520.1 bt536.1 true bt541.2.1 bt541.2.2.1 bt541.2.2.2))) else (sawmilllaw05_WireStops.j2 k2 l1 x6_2 bt520.1 bt536.1 true bt536.2.1 bt536.2.2.1 bt536.2.2.2)))))) else (none))) = some r := H
              have A11 := Aside0.mk A110
              clear A110
              replace H := Option.bind_eq_some_iff.mp H
              obtain ⟨⟨t520, t521, t522, t523⟩, A120, H⟩ := H
              replace H : (if 0 ≤ x6_2 then ((sawmilllaw05_read.f k2 t521 t522 t523 ((rd_T32 l1 x6_2).f0) ((rd_T32 l1 x6_2).f1) ((rd_T32 l1 x6_2).f2) ((rd_T32 l1 x6_2).f3)).bind fun bt525 => ((wire_Reader_Err.f bt525.2.2.2.2.2.1 bt525.2.2.2.2.2.2.1 bt525.2.2.2.2.2.2.2).bind fun bt536 => (if bt536.1 = 0 then (sawmilllaw05_WireStops.j2 k2 l1 x6_2 t520 bt536.1 false bt536.2.1 bt536.2.2.1 bt536.2.2.2) else ((sawmilllaw05_zero.f bt525.1 bt525.2.1 bt525.2.2.1 bt525.2.2.2.1 bt525.2.2.2.2.1).bind fun t540 => (if t540 = true then ((wire_Reader_Left.f bt536.2.1 bt536.2.2.1 bt536.2.2.2).bind fun bt541 => (if bt541.1 = t516 then ((wire_Reader_End.f bt541.2.1 bt541.2.2.1 bt541.2.2.2).bind fun bt545 => (sawmilllaw05_WireStops.j2 k2 l1 x6_2 t520 bt536.1 (bt545.1 != bt536.1) bt545.2.1 bt545.2.2.1 bt545.2.2.2)) else (sawmilllaw05_WireStops.j2 k2 l1 x6_2 t520 bt536.1 true bt541.2.1 bt541.2.2.1 bt541.2.2.2))) else (sawmilllaw05_WireStops.j2 k2 l1 x6_2 t520 bt536.1 true bt536.2.1 bt536.2.2.1 bt536.2.2.2)))))) else (none)) = some r := H
              have A12 := Aside0.mk A120
              clear A120
              by_cases c13 : 0 ≤ x6_2
              · rw [if_pos c13] at H
                have c13b0 : decide (0 ≤ x6_2) = true := decide_eq_true c13
                clear c13
                replace H := Option.bind_eq_some_iff.mp H
                obtain ⟨⟨t525, t526, t527, t528, t529, t532, t533, t534⟩, A140, H⟩ := H
                replace H : ((wire_Reader_Err.f t532 t533 t534).bind fun bt536 => (if bt536.1 = 0 then (sawmilllaw05_WireStops.j2 k2 l1 x6_2 t520 bt536.1 false bt536.2.1 bt536.2.2.1 bt536.2.2.2) else ((sawmilllaw05_zero.f t525 t526 t527 t528 t529).bind fun t540 => (if t540 = true then ((wire_Reader_Left.f bt536.2.1 bt536.2.2.1 bt536.2.2.2).bind fun bt541 => (if bt541.1 = t516 then ((wire_Reader_End.f bt541.2.1 bt541.2.2.1 bt541.2.2.2).bind fun bt545 => (sawmilllaw05_WireStops.j2 k2 l1 x6_2 t520 bt536.1 (bt545.1 != bt536.1) bt545.2.1 bt545.2.2.1 bt545.2.2.2)) else (sawmilllaw05_WireStops.j2 k2 l1 x6_2 t520 bt536.1 true bt541.2.1 bt541.2.2.1 bt541.2.2.2))) else (sawmilllaw05_WireStops.j2 k2 l1 x6_2 t520 bt536.1 true bt536.2.1 bt536.2.2.1 bt536.2.2.2))))) = some r := H
                have A14 := Aside0.mk A140
                clear A140
                replace H := Option.bind_eq_some_iff.mp H
                obtain ⟨⟨t536, t537, t538, t539⟩, A150, H⟩ := H
                replace H : (if t536 = 0 then (sawmilllaw05_WireStops.j2 k2 l1 x6_2 t520 t536 false t537 t538 t539) else ((sawmilllaw05_zero.f t525 t526 t527 t528 t529).bind fun t540 => (if t540 = true then ((wire_Reader_Left.f t537 t538 t539).bind fun bt541 => (if bt541.1 = t516 then ((wire_Reader_End.f bt541.2.1 bt541.2.2.1 bt541.2.2.2).bind fun bt545 => (sawmilllaw05_WireStops.j2 k2 l1 x6_2 t520 t536 (bt545.1 != t536) bt545.2.1 bt545.2.2.1 bt545.2.2.2)) else (sawmilllaw05_WireStops.j2 k2 l1 x6_2 t520 t536 true bt541.2.1 bt541.2.2.1 bt541.2.2.2))) else (sawmilllaw05_WireStops.j2 k2 l1 x6_2 t520 t536 true t537 t538 t539)))) = some r := H
                have A15 := Aside0.mk A150
                clear A150
                have HC16 := Aside0.mk H
                clear H
                go_upto_region 11 with (first | ((with_reducible refine gate_callee (f := 24) rfl ?_); refine goesL_ (some 29) rfl rfl Try.func24 (by kernel_rfl) rfl #[.pointer (some ⟨g514, 0, none⟩)] rfl (by (try simp only [List.map_toArray, List.map_cons, List.map_nil]); first | done | rfl | (simp only [List.length_drop, List.length_take]; rfl)) ?_; (with_reducible refine (wire_Reader_Left.calls g514 x515000_2 x515001_2 x515002_2 t516 t517 t518 t519 w _ ?side1 ?side2 A11.out).mono ?_); (case side1 => repeat (first | (with_reducible first | exact HI514.out | apply IsS73.alloc | apply IsS73.drewN | apply IsS73.drew | apply IsS73.set_0 | apply IsS73.set_1 | apply IsS73.set_2) | exact HI514.out)); (case side2 => repeat (first | (with_reducible first | exact HB.out | apply below_alloc | apply pw_below_drewN | apply below_drew1 | refine below_set ?_ (IsS73.ge HI514.out)) | exact HB.out)); rintro e w17 ⟨rfl, hi, hb, hk⟩; refine ⟨_, rfl, ?_⟩; have n0_ := Aside0.mk (hb); have n1_ := Aside0.mk (hi); clear HB; clear HI514; have HB := n0_; have HI514 := n1_; clear n0_ n1_; (try clear hb); (try clear hb2); (try clear hk); (try clear hi)) | ((with_reducible refine gate_callee (f := 34) rfl ?_); refine goesL_ (some 31) rfl rfl Try.func34 (by kernel_rfl) rfl #[.pointer (some ⟨g514, 0, none⟩)] rfl (by (try simp only [List.map_toArray, List.map_cons, List.map_nil]); first | done | rfl | (simp only [List.length_drop, List.length_take]; rfl)) ?_; (with_reducible refine (wire_Reader_Err.calls g514 t517 t518 t519 t520 t521 t522 t523 w _ ?side1 ?side2 A12.out).mono ?_); (case side1 => repeat (first | (with_reducible first | exact HI514.out | apply IsS73.alloc | apply IsS73.drewN | apply IsS73.drew | apply IsS73.set_0 | apply IsS73.set_1 | apply IsS73.set_2) | exact HI514.out)); (case side2 => repeat (first | (with_reducible first | exact HB.out | apply below_alloc | apply pw_below_drewN | apply below_drew1 | refine below_set ?_ (IsS73.ge HI514.out)) | exact HB.out)); rintro e w18 ⟨rfl, hi, hb, hk⟩; refine ⟨_, rfl, ?_⟩; have n0_ := Aside0.mk (hb); have n1_ := Aside0.mk (hi); clear HB; clear HI514; have HB := n0_; have HI514 := n1_; clear n0_ n1_; (try clear hb); (try clear hb2); (try clear hk); (try clear hi); have p524 : 0 ≤ (x6_2 : Int) := of_decide_eq_true (by first | (with_reducible assumption) | assumption); have q524 : x6_2 < (l1.length : Int) := of_decide_eq_true (by first | (with_reducible assumption) | assumption); obtain ⟨ad524, e524, hx524_0, hx524_1, hx524_2, hx524_3⟩ := at_T32 HR1.out x6_2 p524 q524; cases e524; replace hx524_0 := (HB.out.cell (World.block_lt_of_cell? w _ hx524_0)).trans hx524_0; replace hx524_1 := (HB.out.cell (World.block_lt_of_cell? w _ hx524_1)).trans hx524_1; replace hx524_2 := (HB.out.cell (World.block_lt_of_cell? w _ hx524_2)).trans hx524_2; replace hx524_3 := (HB.out.cell (World.block_lt_of_cell? w _ hx524_3)).trans hx524_3; replace p524 := eq_true p524; replace q524 := eq_true q524) | ((with_reducible refine gate_callee (f := 27) rfl ?_); refine goesL_ (some 37) rfl rfl Try.func27 (by kernel_rfl) rfl #[.pointer (some ⟨g514, 0, none⟩), .agg #[.int .u8 ((rd_T32 l1 x6_2).f0), .int .i64 ((rd_T32 l1 x6_2).f1), .int .i64 ((rd_T32 l1 x6_2).f2), .int .i64 ((rd_T32 l1 x6_2).f3)]] rfl (by (try simp only [List.map_toArray, List.map_cons, List.map_nil]); first | done | rfl | (simp only [List.length_drop, List.length_take]; rfl)) ?_; (with_reducible refine (sawmilllaw05_read.calls k2 g514 t521 t522 t523 ((rd_T32 l1 x6_2).f0) ((rd_T32 l1 x6_2).f1) ((rd_T32 l1 x6_2).f2) ((rd_T32 l1 x6_2).f3) t525 t526 t527 t528 t529 t532 t533 t534 w _ ?side1 ?side2 A14.out).mono ?_); (case side1 => repeat (first | (with_reducible first | exact HI514.out | apply IsS73.alloc | apply IsS73.drewN | apply IsS73.drew | apply IsS73.set_0 | apply IsS73.set_1 | apply IsS73.set_2) | exact HI514.out)); (case side2 => repeat (first | (with_reducible first | exact HB.out | apply below_alloc | apply pw_below_drewN | apply below_drew1 | refine below_set ?_ (IsS73.ge HI514.out)) | exact HB.out)); rintro e w19 ⟨v530, rfl, ho0, hi, hb, hk⟩; refine ⟨_, rfl, ?_⟩; have n0_ := Aside0.mk (Kd.R_lower ho0 (below_size (by repeat (first | (with_reducible first | exact HB.out | apply below_alloc | apply pw_below_drewN | apply below_drew1 | refine below_set ?_ (IsS73.ge HI514.out)) | exact HB.out)))); have n1_ := Aside0.mk (hb); have n2_ := Aside0.mk (hi); clear HB; clear HI514; have HO531 := n0_; have HB := n1_; have HI514 := n2_; clear n0_ n1_ n2_; (try clear hb); (try clear hb2); (try clear hk); (try clear hi); (try clear ho0)) | ((with_reducible refine gate_dst (N := 9) rfl ?_); (try (refine gate_guard (by rfl) ?_; dsimp only)); refine box_event ?hg (N := 9) ?hd (cs := #[.int .u8 0, .int .u64 0, .int .i64 0, .string (⟨#[]⟩ : ByteArray), .slice none 0 0]) (t := 45) ?hr ?_; (case hd => rfl); (case hg => rfl); (case hr => first | (go_simp; done) | (go_simp; rfl)); intro gb535 hg w20 hbox hb; have n0_ := Aside0.mk (Kd.R_below (by (with_reducible repeat (first | apply Kd.R_alloc | apply Kd.R_drewN | apply Kd.R_drew)); exact HO531.out) hb); have n1_ := Aside0.mk (IsS73.below (by repeat (first | (with_reducible first | exact HI514.out | apply IsS73.alloc | apply IsS73.drewN | apply IsS73.drew | apply IsS73.set_0 | apply IsS73.set_1 | apply IsS73.set_2) | exact HI514.out)) hb); have n2_ := Aside0.mk (below_step (by repeat (first | (with_reducible first | exact HB.out | apply below_alloc | apply pw_below_drewN | apply below_drew1 | refine below_set ?_ (IsS73.ge HI514.out)) | exact HB.out)) hb); have n3_ := Aside0.mk (hbox); have n4_ := Aside0.mk ((by rw [hg]; exact (below_size (by repeat (first | (with_reducible first | exact HB.out | apply below_alloc | apply pw_below_drewN | apply below_drew1 | refine below_set ?_ (IsS73.ge HI514.out)) | exact HB.out))) : w.heap.size ≤ gb535)); have n5_ := Aside0.mk ((by rw [hg]; exact (below_size (by repeat (first | (with_reducible first | exact HB.out | apply below_alloc | apply pw_below_drewN | apply below_drew1 | refine below_set ?_ (IsS73.ge HI514.out)) | exact HB.out))) : w.heap.size ≤ gb535)); have n6_ := Aside0.mk ((by rw [hg]; exact Nat.ne_of_lt (IsS73.lt (show IsS73 w _ g514 t532 t533 t534 from by repeat (first | (with_reducible first | exact HI514.out | apply IsS73.alloc | apply IsS73.drewN | apply IsS73.drew | apply IsS73.set_0 | apply IsS73.set_1 | apply IsS73.set_2) | exact HI514.out))) : g514 ≠ gb535)); have n7_ := Aside0.mk ((by rw [hg]; exact Nat.ne_of_gt (IsS73.lt (show IsS73 w _ g514 t532 t533 t534 from by repeat (first | (with_reducible first | exact HI514.out | apply IsS73.alloc | apply IsS73.drewN | apply IsS73.drew | apply IsS73.set_0 | apply IsS73.set_1 | apply IsS73.set_2) | exact HI514.out))) : gb535 ≠ g514)); clear HO531; clear HI514; clear HB; have HO531 := n0_; have HI514 := n1_; have HB := n2_; have BK535 := n3_; have GW535 := n4_; have GE535 := n5_; have NB514_535 := n6_; have NB535_514 := n7_; clear n0_ n1_ n2_ n3_ n4_ n5_ n6_ n7_; clear hb hbox hg; have hnb21 := NB535_514.out; have hnc21 := NB514_535.out; have hcz22_0 : w20.cell? ⟨gb535, 0, none⟩ = some (.int .u8 0) := (blk_cell BK535.out 0).trans rfl; have hcz22_1 : w20.cell? ⟨gb535, 1, none⟩ = some (.int .u64 0) := (blk_cell BK535.out 1).trans rfl; have hcz22_2 : w20.cell? ⟨gb535, 2, none⟩ = some (.int .i64 0) := (blk_cell BK535.out 2).trans rfl; have hcz22_3 : w20.cell? ⟨gb535, 3, none⟩ = some (.string (⟨#[]⟩ : ByteArray)) := (blk_cell BK535.out 3).trans rfl; have hcz22_4 : w20.cell? ⟨gb535, 4, none⟩ = some (.slice none 0 0) := (blk_cell BK535.out 4).trans rfl; have hfz22_0 := blk_frozen BK535.out 0; have hfz22_1 := blk_frozen BK535.out 1; have hfz22_2 := blk_frozen BK535.out 2; have hfz22_3 := blk_frozen BK535.out 3; have hfz22_4 := blk_frozen BK535.out 4; obtain ⟨Ao23, co23, eo23⟩ := Kd.R_slice HO531.out; subst eo23) | ((with_reducible refine gate_callee (f := 34) rfl ?_); refine goesL_ (some 39) rfl rfl Try.func34 (by kernel_rfl) rfl #[.pointer (some ⟨g514, 0, none⟩)] rfl (by (try simp only [List.map_toArray, List.map_cons, List.map_nil]); first | done | rfl | (simp only [List.length_drop, List.length_take]; rfl)) ?_; (with_reducible refine (wire_Reader_Err.calls g514 t532 t533 t534 t536 t537 t538 t539 w _ ?side1 ?side2 A15.out).mono ?_); (case side1 => repeat (first | (with_reducible first | exact HI514.out | apply IsS73.alloc | apply IsS73.drewN | apply IsS73.drew | apply IsS73.set_0 | apply IsS73.set_1 | apply IsS73.set_2 | refine IsS73.far ?_ NB514_535.out _) | exact HI514.out)); (case side2 => repeat (first | (with_reducible first | exact HB.out | apply below_alloc | apply pw_below_drewN | apply below_drew1 | refine below_set ?_ (IsS73.ge HI514.out) | refine below_set ?_ GE535.out) | exact HB.out)); rintro e w24 ⟨rfl, hi, hb, hk⟩; refine ⟨_, rfl, ?_⟩; have n0_ := Aside0.mk (Kd.R_mono (Kd.R_keep (IsS73.apart (show IsS73 w _ g514 t532 t533 t534 from by repeat (first | (with_reducible first | exact HI514.out | apply IsS73.alloc | apply IsS73.drewN | apply IsS73.drew | apply IsS73.set_0 | apply IsS73.set_1 | apply IsS73.set_2 | refine IsS73.far ?_ NB514_535.out _) | exact HI514.out)) (by (with_reducible repeat (first | apply Kd.R_alloc | apply Kd.R_drewN | apply Kd.R_drew)); exact (Kd.R_mono (Kd.R_far (p := ⟨gb535, 4, none⟩) (Kd.R_far (p := ⟨gb535, 3, none⟩) (Kd.R_far (p := ⟨gb535, 2, none⟩) (Kd.R_far (p := ⟨gb535, 1, none⟩) (Kd.R_far (p := ⟨gb535, 0, none⟩) (Kd.R_types HO531.out BK535.out (by decide)) (fun _ hk => hk.2) (.int .u8 t525)) (fun _ hk => hk.2) (.int .u64 t526)) (fun _ hk => hk.2) (.int .i64 t527)) (fun _ hk => hk.2) (.string t528)) (fun _ hk => hk.2) (.slice Ao23 t529.length co23)) (fun _ h_ => h_.1))) (by decide)) hk (fun _ h => h.2)) (fun _ h => h.1)); have n1_ := Aside0.mk (KeepBut.blk hk (g' := gb535) (o := .cells #[.int .u8 t525, .int .u64 t526, .int .i64 t527, .string t528, .slice Ao23 t529.length co23] 45 (0, 0)) (by (with_reducible repeat (first | refine blk_drewN ?_ _ | refine blk_drew ?_ | refine blk_alloc ?_ _)); refine blk_put (cs := #[.int .u8 t525, .int .u64 t526, .int .i64 t527, .string t528, .slice none 0 0]) ?_ 4 _ rfl; (with_reducible repeat (first | refine blk_drewN ?_ _ | refine blk_drew ?_ | refine blk_alloc ?_ _)); refine blk_put (cs := #[.int .u8 t525, .int .u64 t526, .int .i64 t527, .string (⟨#[]⟩ : ByteArray), .slice none 0 0]) ?_ 3 _ rfl; (with_reducible repeat (first | refine blk_drewN ?_ _ | refine blk_drew ?_ | refine blk_alloc ?_ _)); refine blk_put (cs := #[.int .u8 t525, .int .u64 t526, .int .i64 0, .string (⟨#[]⟩ : ByteArray), .slice none 0 0]) ?_ 2 _ rfl; (with_reducible repeat (first | refine blk_drewN ?_ _ | refine blk_drew ?_ | refine blk_alloc ?_ _)); refine blk_put (cs := #[.int .u8 t525, .int .u64 0, .int .i64 0, .string (⟨#[]⟩ : ByteArray), .slice none 0 0]) ?_ 1 _ rfl; (with_reducible repeat (first | refine blk_drewN ?_ _ | refine blk_drew ?_ | refine blk_alloc ?_ _)); refine blk_put (cs := #[.int .u8 0, .int .u64 0, .int .i64 0, .string (⟨#[]⟩ : ByteArray), .slice none 0 0]) ?_ 0 _ rfl; (with_reducible repeat (first | refine blk_drewN ?_ _ | refine blk_drew ?_ | refine blk_alloc ?_ _)); exact BK535.out) NB535_514.out (by simp)); have n2_ := Aside0.mk (hb); have n3_ := Aside0.mk (hi); clear HO531; clear BK535; clear HB; clear HI514; have HO531 := n0_; have BK535 := n1_; have HB := n2_; have HI514 := n3_; clear n0_ n1_ n2_ n3_; (try clear hb); (try clear hb2); (try clear hk); (try clear hi)))
                (try simp only [Act.put, List.setIfInBounds_toArray, List.set_cons_zero, List.set_cons_succ])
                go_cut [58] (fun v58 wc => ∃ (kq : Nat) (x58_15 : Bool) (x515000_15 : ByteArray) (x515001_15 : Int) (x515002_15 : Int), v58 = .bool x58_15 ∧ Aside0 (sawmilllaw05_WireStops.j2 kq l1 x6_2 t520 t536 x58_15 x515000_15 x515001_15 x515002_15 = some r) ∧ Aside0 (kq ≤ k2) ∧ Aside0 (Kd.R (Kd.int .i64) 3 wc w.heap.size (fun _ => True) (.slice Ao23 t529.length co23) t529) ∧ Aside0 (wc.heap[gb535]? = some (.cells #[.int .u8 t525, .int .u64 t526, .int .i64 t527, .string t528, (.slice Ao23 t529.length co23)] 45 (0, 0))) ∧ Aside0 (IsS73 w wc g514 x515000_15 x515001_15 x515002_15) ∧ Aside0 (Below w.heap.size w wc))
                case first =>
                  have H := HC16.out
                  clear HC16
                  by_cases c25 : t536 = 0
                  · rw [if_pos c25] at H
                    have c25b0 : (t536 == 0) = true := beq_iff_eq.mpr c25
                    have c25b1 : (t536 != 0) = false := bne_eq_false_iff_eq.mpr c25
                    clear c25
                    (first | rw [c25b0] | (simp only [i64_w, i32_w]; rw [c25b0]) | skip)
                    have H' := Aside0.mk H
                    clear H
                    go_wp2
                    go_meet
                    case rel => exact ⟨_, (false), (t537), (t538), (t539), (by first | rfl | (simp; done) | (simp [*]; done)), H', ⟨by have := HJ2.out; have := HK2.out; first | omega | exact Nat.le_refl _⟩, ⟨by (with_reducible repeat (first | apply Kd.R_alloc | apply Kd.R_drewN | apply Kd.R_drew)); exact HO531.out⟩, ⟨by (with_reducible repeat (first | refine blk_drewN ?_ _ | refine blk_drew ?_ | refine blk_alloc ?_ _)); exact BK535.out⟩, ⟨by repeat (first | (with_reducible first | exact HI514.out | apply IsS73.alloc | apply IsS73.drewN | apply IsS73.drew | apply IsS73.set_0 | apply IsS73.set_1 | apply IsS73.set_2 | refine IsS73.far ?_ NB514_535.out _) | exact HI514.out)⟩, ⟨by repeat (first | (with_reducible first | exact HB.out | apply below_alloc | apply pw_below_drewN | apply below_drew1 | refine below_set ?_ (IsS73.ge HI514.out) | refine below_set ?_ GE535.out) | exact HB.out)⟩⟩
                  · rw [if_neg c25] at H
                    have c25b0 : (t536 == 0) = false := beq_eq_false_iff_ne.mpr c25
                    have c25b1 : (t536 != 0) = true := bne_iff_ne.mpr c25
                    (first | rw [c25b0] | (simp only [i64_w, i32_w]; rw [c25b0]) | skip)
                    replace H := Option.bind_eq_some_iff.mp H
                    obtain ⟨t540, A260, H⟩ := H
                    replace H : (if t540 = true then ((wire_Reader_Left.f t537 t538 t539).bind fun bt541 => (if bt541.1 = t516 then ((wire_Reader_End.f bt541.2.1 bt541.2.2.1 bt541.2.2.2).bind fun bt545 => (sawmilllaw05_WireStops.j2 k2 l1 x6_2 t520 t536 (bt545.1 != t536) bt545.2.1 bt545.2.2.1 bt545.2.2.2)) else (sawmilllaw05_WireStops.j2 k2 l1 x6_2 t520 t536 true bt541.2.1 bt541.2.2.1 bt541.2.2.2))) else (sawmilllaw05_WireStops.j2 k2 l1 x6_2 t520 t536 true t537 t538 t539)) = some r := H
                    have A26 := Aside0.mk A260
                    clear A260
                    by_cases c27 : t540 = true
                    · subst c27
                      have H1 : ((wire_Reader_Left.f t537 t538 t539).bind fun bt541 => (if bt541.1 = t516 then ((wire_Reader_End.f bt541.2.1 bt541.2.2.1 bt541.2.2.2).bind fun bt545 => (sawmilllaw05_WireStops.j2 k2 l1 x6_2 t520 t536 (bt545.1 != t536) bt545.2.1 bt545.2.2.1 bt545.2.2.2)) else (sawmilllaw05_WireStops.j2 k2 l1 x6_2 t520 t536 true bt541.2.1 bt541.2.2.1 bt541.2.2.2))) = some r := by rw [if_pos rfl] at H; exact H
                      clear H
                      have H := H1
                      clear H1
                      replace H := Option.bind_eq_some_iff.mp H
                      obtain ⟨⟨t541, t542, t543, t544⟩, A280, H⟩ := H
                      replace H : (if t541 = t516 then ((wire_Reader_End.f t542 t543 t544).bind fun bt545 => (sawmilllaw05_WireStops.j2 k2 l1 x6_2 t520 t536 (bt545.1 != t536) bt545.2.1 bt545.2.2.1 bt545.2.2.2)) else (sawmilllaw05_WireStops.j2 k2 l1 x6_2 t520 t536 true t542 t543 t544)) = some r := H
                      have A28 := Aside0.mk A280
                      clear A280
                      by_cases c29 : t541 = t516
                      · rw [if_pos c29] at H
                        have c29b0 : (t541 == t516) = true := beq_iff_eq.mpr c29
                        have c29b1 : (t541 != t516) = false := bne_eq_false_iff_eq.mpr c29
                        clear c29
                        replace H := Option.bind_eq_some_iff.mp H
                        obtain ⟨⟨t545, t546, t547, t548⟩, A300, H⟩ := H
                        replace H : (sawmilllaw05_WireStops.j2 k2 l1 x6_2 t520 t536 (t545 != t536) t546 t547 t548) = some r := H
                        have A30 := Aside0.mk A300
                        clear A300
                        have H' := Aside0.mk H
                        clear H
                        have hnb31 := NB535_514.out
                        have hnc31 := NB514_535.out
                        have hcz32_0 : w24.cell? ⟨gb535, 0, none⟩ = some (.int .u8 t525) := (blk_cell BK535.out 0).trans rfl
                        have hcz32_1 : w24.cell? ⟨gb535, 1, none⟩ = some (.int .u64 t526) := (blk_cell BK535.out 1).trans rfl
                        have hcz32_2 : w24.cell? ⟨gb535, 2, none⟩ = some (.int .i64 t527) := (blk_cell BK535.out 2).trans rfl
                        have hcz32_3 : w24.cell? ⟨gb535, 3, none⟩ = some (.string t528) := (blk_cell BK535.out 3).trans rfl
                        have hcz32_4 : w24.cell? ⟨gb535, 4, none⟩ = some (.slice Ao23 t529.length co23) := (blk_cell BK535.out 4).trans rfl
                        have hfz32_0 := blk_frozen BK535.out 0
                        have hfz32_1 := blk_frozen BK535.out 1
                        have hfz32_2 := blk_frozen BK535.out 2
                        have hfz32_3 := blk_frozen BK535.out 3
                        have hfz32_4 := blk_frozen BK535.out 4
                        go_wp2_with (first | (go_at_call 40; (with_reducible refine (sawmilllaw05_zero.calls t525 t526 t527 t528 _ _ t529 true _ ?side1 ?side2 A26.out).mono ?_); (case side1 => repeat (first | exact (Kd.R_reads' HO531.out).2.2 | (with_reducible refine Kd.C_alloc ?_ _) | (with_reducible refine Kd.C_drewN ?_ _) | (with_reducible refine Kd.C_drew ?_))); (case side2 => exact (Kd.R_reads' HO531.out).2.1); rintro e w33 ⟨rfl, hb⟩; have n0_ := Aside0.mk (Kd.R_below (by (with_reducible repeat (first | apply Kd.R_alloc | apply Kd.R_drewN | apply Kd.R_drew)); exact HO531.out) hb); have n1_ := Aside0.mk (IsS73.below (by repeat (first | (with_reducible first | exact HI514.out | apply IsS73.alloc | apply IsS73.drewN | apply IsS73.drew | apply IsS73.set_0 | apply IsS73.set_1 | apply IsS73.set_2 | refine IsS73.far ?_ NB514_535.out _) | exact HI514.out)) hb); have n2_ := Aside0.mk (blk_below (g := gb535) (o := .cells #[.int .u8 t525, .int .u64 t526, .int .i64 t527, .string t528, .slice Ao23 t529.length co23] 45 (0, 0)) (by (with_reducible repeat (first | refine blk_drewN ?_ _ | refine blk_drew ?_ | refine blk_alloc ?_ _)); exact BK535.out) hb); have n3_ := Aside0.mk (below_step (by repeat (first | (with_reducible first | exact HB.out | apply below_alloc | apply pw_below_drewN | apply below_drew1 | refine below_set ?_ (IsS73.ge HI514.out) | refine below_set ?_ GE535.out) | exact HB.out)) hb); clear HO531; clear HI514; clear BK535; clear HB; have HO531 := n0_; have HI514 := n1_; have BK535 := n2_; have HB := n3_; clear n0_ n1_ n2_ n3_; (try clear hb); (try clear hb2); (try clear hk); (try clear hi)) | (go_at_call 24; (with_reducible refine (wire_Reader_Left.calls g514 t537 t538 t539 t541 t542 t543 t544 w _ ?side1 ?side2 A28.out).mono ?_); (case side1 => repeat (first | (with_reducible first | exact HI514.out | apply IsS73.alloc | apply IsS73.drewN | apply IsS73.drew | apply IsS73.set_0 | apply IsS73.set_1 | apply IsS73.set_2 | refine IsS73.far ?_ NB514_535.out _) | exact HI514.out)); (case side2 => repeat (first | (with_reducible first | exact HB.out | apply below_alloc | apply pw_below_drewN | apply below_drew1 | refine below_set ?_ (IsS73.ge HI514.out) | refine below_set ?_ GE535.out) | exact HB.out)); rintro e w34 ⟨rfl, hi, hb, hk⟩; have n0_ := Aside0.mk (Kd.R_mono (Kd.R_keep (IsS73.apart (show IsS73 w _ g514 t537 t538 t539 from by repeat (first | (with_reducible first | exact HI514.out | apply IsS73.alloc | apply IsS73.drewN | apply IsS73.drew | apply IsS73.set_0 | apply IsS73.set_1 | apply IsS73.set_2 | refine IsS73.far ?_ NB514_535.out _) | exact HI514.out)) (by (with_reducible repeat (first | apply Kd.R_alloc | apply Kd.R_drewN | apply Kd.R_drew)); exact HO531.out) (by decide)) hk (fun _ h => h.2)) (fun _ h => h.1)); have n1_ := Aside0.mk (KeepBut.blk hk (g' := gb535) (o := .cells #[.int .u8 t525, .int .u64 t526, .int .i64 t527, .string t528, .slice Ao23 t529.length co23] 45 (0, 0)) (by (with_reducible repeat (first | refine blk_drewN ?_ _ | refine blk_drew ?_ | refine blk_alloc ?_ _)); exact BK535.out) NB535_514.out (by simp)); have n2_ := Aside0.mk (hb); have n3_ := Aside0.mk (hi); clear HO531; clear BK535; clear HB; clear HI514; have HO531 := n0_; have BK535 := n1_; have HB := n2_; have HI514 := n3_; clear n0_ n1_ n2_ n3_; (try clear hb); (try clear hb2); (try clear hk); (try clear hi)) | (go_at_call 23; (with_reducible refine (wire_Reader_End.calls g514 t542 t543 t544 t545 t546 t547 t548 w _ ?side1 ?side2 A30.out).mono ?_); (case side1 => repeat (first | (with_reducible first | exact HI514.out | apply IsS73.alloc | apply IsS73.drewN | apply IsS73.drew | apply IsS73.set_0 | apply IsS73.set_1 | apply IsS73.set_2 | refine IsS73.far ?_ NB514_535.out _) | exact HI514.out)); (case side2 => repeat (first | (with_reducible first | exact HB.out | apply below_alloc | apply pw_below_drewN | apply below_drew1 | refine below_set ?_ (IsS73.ge HI514.out) | refine below_set ?_ GE535.out) | exact HB.out)); rintro e w35 ⟨rfl, hi, hb, hk⟩; have n0_ := Aside0.mk (Kd.R_mono (Kd.R_keep (IsS73.apart (show IsS73 w _ g514 t542 t543 t544 from by repeat (first | (with_reducible first | exact HI514.out | apply IsS73.alloc | apply IsS73.drewN | apply IsS73.drew | apply IsS73.set_0 | apply IsS73.set_1 | apply IsS73.set_2 | refine IsS73.far ?_ NB514_535.out _) | exact HI514.out)) (by (with_reducible repeat (first | apply Kd.R_alloc | apply Kd.R_drewN | apply Kd.R_drew)); exact HO531.out) (by decide)) hk (fun _ h => h.2)) (fun _ h => h.1)); have n1_ := Aside0.mk (KeepBut.blk hk (g' := gb535) (o := .cells #[.int .u8 t525, .int .u64 t526, .int .i64 t527, .string t528, .slice Ao23 t529.length co23] 45 (0, 0)) (by (with_reducible repeat (first | refine blk_drewN ?_ _ | refine blk_drew ?_ | refine blk_alloc ?_ _)); exact BK535.out) NB535_514.out (by simp)); have n2_ := Aside0.mk (hb); have n3_ := Aside0.mk (hi); clear HO531; clear BK535; clear HB; clear HI514; have HO531 := n0_; have BK535 := n1_; have HB := n2_; have HI514 := n3_; clear n0_ n1_ n2_ n3_; (try clear hb); (try clear hb2); (try clear hk); (try clear hi)))
                        go_meet
                        case rel => exact ⟨_, ((t545 != t536)), (t546), (t547), (t548), (by first | rfl | (simp; done) | (simp [*]; done)), H', ⟨by have := HJ2.out; have := HK2.out; first | omega | exact Nat.le_refl _⟩, ⟨by (with_reducible repeat (first | apply Kd.R_alloc | apply Kd.R_drewN | apply Kd.R_drew)); exact HO531.out⟩, ⟨by (with_reducible repeat (first | refine blk_drewN ?_ _ | refine blk_drew ?_ | refine blk_alloc ?_ _)); exact BK535.out⟩, ⟨by repeat (first | (with_reducible first | exact HI514.out | apply IsS73.alloc | apply IsS73.drewN | apply IsS73.drew | apply IsS73.set_0 | apply IsS73.set_1 | apply IsS73.set_2 | refine IsS73.far ?_ NB514_535.out _) | exact HI514.out)⟩, ⟨by repeat (first | (with_reducible first | exact HB.out | apply below_alloc | apply pw_below_drewN | apply below_drew1 | refine below_set ?_ (IsS73.ge HI514.out) | refine below_set ?_ GE535.out) | exact HB.out)⟩⟩
                      · rw [if_neg c29] at H
                        have c29b0 : (t541 == t516) = false := beq_eq_false_iff_ne.mpr c29
                        have c29b1 : (t541 != t516) = true := bne_iff_ne.mpr c29
                        have H' := Aside0.mk H
                        clear H
                        have hnb36 := NB535_514.out
                        have hnc36 := NB514_535.out
                        have hcz37_0 : w24.cell? ⟨gb535, 0, none⟩ = some (.int .u8 t525) := (blk_cell BK535.out 0).trans rfl
                        have hcz37_1 : w24.cell? ⟨gb535, 1, none⟩ = some (.int .u64 t526) := (blk_cell BK535.out 1).trans rfl
                        have hcz37_2 : w24.cell? ⟨gb535, 2, none⟩ = some (.int .i64 t527) := (blk_cell BK535.out 2).trans rfl
                        have hcz37_3 : w24.cell? ⟨gb535, 3, none⟩ = some (.string t528) := (blk_cell BK535.out 3).trans rfl
                        have hcz37_4 : w24.cell? ⟨gb535, 4, none⟩ = some (.slice Ao23 t529.length co23) := (blk_cell BK535.out 4).trans rfl
                        have hfz37_0 := blk_frozen BK535.out 0
                        have hfz37_1 := blk_frozen BK535.out 1
                        have hfz37_2 := blk_frozen BK535.out 2
                        have hfz37_3 := blk_frozen BK535.out 3
                        have hfz37_4 := blk_frozen BK535.out 4
                        go_wp2_with (first | (go_at_call 40; (with_reducible refine (sawmilllaw05_zero.calls t525 t526 t527 t528 _ _ t529 true _ ?side1 ?side2 A26.out).mono ?_); (case side1 => repeat (first | exact (Kd.R_reads' HO531.out).2.2 | (with_reducible refine Kd.C_alloc ?_ _) | (with_reducible refine Kd.C_drewN ?_ _) | (with_reducible refine Kd.C_drew ?_))); (case side2 => exact (Kd.R_reads' HO531.out).2.1); rintro e w38 ⟨rfl, hb⟩; have n0_ := Aside0.mk (Kd.R_below (by (with_reducible repeat (first | apply Kd.R_alloc | apply Kd.R_drewN | apply Kd.R_drew)); exact HO531.out) hb); have n1_ := Aside0.mk (IsS73.below (by repeat (first | (with_reducible first | exact HI514.out | apply IsS73.alloc | apply IsS73.drewN | apply IsS73.drew | apply IsS73.set_0 | apply IsS73.set_1 | apply IsS73.set_2 | refine IsS73.far ?_ NB514_535.out _) | exact HI514.out)) hb); have n2_ := Aside0.mk (blk_below (g := gb535) (o := .cells #[.int .u8 t525, .int .u64 t526, .int .i64 t527, .string t528, .slice Ao23 t529.length co23] 45 (0, 0)) (by (with_reducible repeat (first | refine blk_drewN ?_ _ | refine blk_drew ?_ | refine blk_alloc ?_ _)); exact BK535.out) hb); have n3_ := Aside0.mk (below_step (by repeat (first | (with_reducible first | exact HB.out | apply below_alloc | apply pw_below_drewN | apply below_drew1 | refine below_set ?_ (IsS73.ge HI514.out) | refine below_set ?_ GE535.out) | exact HB.out)) hb); clear HO531; clear HI514; clear BK535; clear HB; have HO531 := n0_; have HI514 := n1_; have BK535 := n2_; have HB := n3_; clear n0_ n1_ n2_ n3_; (try clear hb); (try clear hb2); (try clear hk); (try clear hi)) | (go_at_call 24; (with_reducible refine (wire_Reader_Left.calls g514 t537 t538 t539 t541 t542 t543 t544 w _ ?side1 ?side2 A28.out).mono ?_); (case side1 => repeat (first | (with_reducible first | exact HI514.out | apply IsS73.alloc | apply IsS73.drewN | apply IsS73.drew | apply IsS73.set_0 | apply IsS73.set_1 | apply IsS73.set_2 | refine IsS73.far ?_ NB514_535.out _) | exact HI514.out)); (case side2 => repeat (first | (with_reducible first | exact HB.out | apply below_alloc | apply pw_below_drewN | apply below_drew1 | refine below_set ?_ (IsS73.ge HI514.out) | refine below_set ?_ GE535.out) | exact HB.out)); rintro e w39 ⟨rfl, hi, hb, hk⟩; have n0_ := Aside0.mk (Kd.R_mono (Kd.R_keep (IsS73.apart (show IsS73 w _ g514 t537 t538 t539 from by repeat (first | (with_reducible first | exact HI514.out | apply IsS73.alloc | apply IsS73.drewN | apply IsS73.drew | apply IsS73.set_0 | apply IsS73.set_1 | apply IsS73.set_2 | refine IsS73.far ?_ NB514_535.out _) | exact HI514.out)) (by (with_reducible repeat (first | apply Kd.R_alloc | apply Kd.R_drewN | apply Kd.R_drew)); exact HO531.out) (by decide)) hk (fun _ h => h.2)) (fun _ h => h.1)); have n1_ := Aside0.mk (KeepBut.blk hk (g' := gb535) (o := .cells #[.int .u8 t525, .int .u64 t526, .int .i64 t527, .string t528, .slice Ao23 t529.length co23] 45 (0, 0)) (by (with_reducible repeat (first | refine blk_drewN ?_ _ | refine blk_drew ?_ | refine blk_alloc ?_ _)); exact BK535.out) NB535_514.out (by simp)); have n2_ := Aside0.mk (hb); have n3_ := Aside0.mk (hi); clear HO531; clear BK535; clear HB; clear HI514; have HO531 := n0_; have BK535 := n1_; have HB := n2_; have HI514 := n3_; clear n0_ n1_ n2_ n3_; (try clear hb); (try clear hb2); (try clear hk); (try clear hi)))
                        go_meet
                        case rel => exact ⟨_, (true), (t542), (t543), (t544), (by first | rfl | (simp; done) | (simp [*]; done)), H', ⟨by have := HJ2.out; have := HK2.out; first | omega | exact Nat.le_refl _⟩, ⟨by (with_reducible repeat (first | apply Kd.R_alloc | apply Kd.R_drewN | apply Kd.R_drew)); exact HO531.out⟩, ⟨by (with_reducible repeat (first | refine blk_drewN ?_ _ | refine blk_drew ?_ | refine blk_alloc ?_ _)); exact BK535.out⟩, ⟨by repeat (first | (with_reducible first | exact HI514.out | apply IsS73.alloc | apply IsS73.drewN | apply IsS73.drew | apply IsS73.set_0 | apply IsS73.set_1 | apply IsS73.set_2 | refine IsS73.far ?_ NB514_535.out _) | exact HI514.out)⟩, ⟨by repeat (first | (with_reducible first | exact HB.out | apply below_alloc | apply pw_below_drewN | apply below_drew1 | refine below_set ?_ (IsS73.ge HI514.out) | refine below_set ?_ GE535.out) | exact HB.out)⟩⟩
                    · replace c27 := Bool.eq_false_iff.mpr c27
                      subst c27
                      have H1 : (sawmilllaw05_WireStops.j2 k2 l1 x6_2 t520 t536 true t537 t538 t539) = some r := by rw [if_neg (show ¬ (false = true) by decide)] at H; exact H
                      clear H
                      have H := H1
                      clear H1
                      have H' := Aside0.mk H
                      clear H
                      have hnb40 := NB535_514.out
                      have hnc40 := NB514_535.out
                      have hcz41_0 : w24.cell? ⟨gb535, 0, none⟩ = some (.int .u8 t525) := (blk_cell BK535.out 0).trans rfl
                      have hcz41_1 : w24.cell? ⟨gb535, 1, none⟩ = some (.int .u64 t526) := (blk_cell BK535.out 1).trans rfl
                      have hcz41_2 : w24.cell? ⟨gb535, 2, none⟩ = some (.int .i64 t527) := (blk_cell BK535.out 2).trans rfl
                      have hcz41_3 : w24.cell? ⟨gb535, 3, none⟩ = some (.string t528) := (blk_cell BK535.out 3).trans rfl
                      have hcz41_4 : w24.cell? ⟨gb535, 4, none⟩ = some (.slice Ao23 t529.length co23) := (blk_cell BK535.out 4).trans rfl
                      have hfz41_0 := blk_frozen BK535.out 0
                      have hfz41_1 := blk_frozen BK535.out 1
                      have hfz41_2 := blk_frozen BK535.out 2
                      have hfz41_3 := blk_frozen BK535.out 3
                      have hfz41_4 := blk_frozen BK535.out 4
                      go_wp2_with (first | (go_at_call 40; (with_reducible refine (sawmilllaw05_zero.calls t525 t526 t527 t528 _ _ t529 false _ ?side1 ?side2 A26.out).mono ?_); (case side1 => repeat (first | exact (Kd.R_reads' HO531.out).2.2 | (with_reducible refine Kd.C_alloc ?_ _) | (with_reducible refine Kd.C_drewN ?_ _) | (with_reducible refine Kd.C_drew ?_))); (case side2 => exact (Kd.R_reads' HO531.out).2.1); rintro e w42 ⟨rfl, hb⟩; have n0_ := Aside0.mk (Kd.R_below (by (with_reducible repeat (first | apply Kd.R_alloc | apply Kd.R_drewN | apply Kd.R_drew)); exact HO531.out) hb); have n1_ := Aside0.mk (IsS73.below (by repeat (first | (with_reducible first | exact HI514.out | apply IsS73.alloc | apply IsS73.drewN | apply IsS73.drew | apply IsS73.set_0 | apply IsS73.set_1 | apply IsS73.set_2 | refine IsS73.far ?_ NB514_535.out _) | exact HI514.out)) hb); have n2_ := Aside0.mk (blk_below (g := gb535) (o := .cells #[.int .u8 t525, .int .u64 t526, .int .i64 t527, .string t528, .slice Ao23 t529.length co23] 45 (0, 0)) (by (with_reducible repeat (first | refine blk_drewN ?_ _ | refine blk_drew ?_ | refine blk_alloc ?_ _)); exact BK535.out) hb); have n3_ := Aside0.mk (below_step (by repeat (first | (with_reducible first | exact HB.out | apply below_alloc | apply pw_below_drewN | apply below_drew1 | refine below_set ?_ (IsS73.ge HI514.out) | refine below_set ?_ GE535.out) | exact HB.out)) hb); clear HO531; clear HI514; clear BK535; clear HB; have HO531 := n0_; have HI514 := n1_; have BK535 := n2_; have HB := n3_; clear n0_ n1_ n2_ n3_; (try clear hb); (try clear hb2); (try clear hk); (try clear hi)))
                      go_meet
                      case rel => exact ⟨_, (true), (t537), (t538), (t539), (by first | rfl | (simp; done) | (simp [*]; done)), H', ⟨by have := HJ2.out; have := HK2.out; first | omega | exact Nat.le_refl _⟩, ⟨by (with_reducible repeat (first | apply Kd.R_alloc | apply Kd.R_drewN | apply Kd.R_drew)); exact HO531.out⟩, ⟨by (with_reducible repeat (first | refine blk_drewN ?_ _ | refine blk_drew ?_ | refine blk_alloc ?_ _)); exact BK535.out⟩, ⟨by repeat (first | (with_reducible first | exact HI514.out | apply IsS73.alloc | apply IsS73.drewN | apply IsS73.drew | apply IsS73.set_0 | apply IsS73.set_1 | apply IsS73.set_2 | refine IsS73.far ?_ NB514_535.out _) | exact HI514.out)⟩, ⟨by repeat (first | (with_reducible first | exact HB.out | apply below_alloc | apply pw_below_drewN | apply below_drew1 | refine below_set ?_ (IsS73.ge HI514.out) | refine below_set ?_ GE535.out) | exact HB.out)⟩⟩
                case rest =>
                  clear HC16
                  try clear c1
                  try clear c2
                  try clear p2
                  try clear c3
                  try clear c4
                  try clear c4b0
                  try clear c4b1
                  try clear c5
                  try clear p5
                  try clear q5
                  try clear hx5
                  try clear c9
                  try clear c10
                  try clear c10b0
                  try clear c13
                  try clear c13b0
                  try clear c16
                  try clear c21
                  try clear c24
                  try clear c25
                  try clear c25b0
                  try clear c25b1
                  try clear c27
                  try clear c29
                  try clear c29b0
                  try clear c29b1
                  try clear c31
                  try clear c34
                  try clear c36
                  try clear c40
                  try clear hcz22_0
                  try clear hcz22_1
                  try clear hcz22_2
                  try clear hcz22_3
                  try clear hcz22_4
                  try clear hcz32_0
                  try clear hcz32_1
                  try clear hcz32_2
                  try clear hcz32_3
                  try clear hcz32_4
                  try clear hcz37_0
                  try clear hcz37_1
                  try clear hcz37_2
                  try clear hcz37_3
                  try clear hcz37_4
                  try clear hcz41_0
                  try clear hcz41_1
                  try clear hcz41_2
                  try clear hcz41_3
                  try clear hcz41_4
                  try clear hfz22_0
                  try clear hfz22_1
                  try clear hfz22_2
                  try clear hfz22_3
                  try clear hfz22_4
                  try clear hfz32_0
                  try clear hfz32_1
                  try clear hfz32_2
                  try clear hfz32_3
                  try clear hfz32_4
                  try clear hfz37_0
                  try clear hfz37_1
                  try clear hfz37_2
                  try clear hfz37_3
                  try clear hfz37_4
                  try clear hfz41_0
                  try clear hfz41_1
                  try clear hfz41_2
                  try clear hfz41_3
                  try clear hfz41_4
                  try clear hx524_0
                  try clear hx524_1
                  try clear hx524_2
                  try clear hx524_3
                  try clear p2
                  try clear p524
                  try clear q524
                  obtain ⟨kq, x58_15, x515000_15, x515001_15, x515002_15, rfl, HA, HJ15, HO_536004, BK535, HI514, HB⟩ := hcut
                  cases kq with
                  | zero => exact absurd HA.out (by simp [sawmilllaw05_WireStops.j2])
                  | succ kj15 =>
                    have H := HA.out
                    clear HA
                    simp only [sawmilllaw05_WireStops.j2] at H
                    by_cases c43 : x58_15 = true
                    · subst c43
                      have H1 : (some false) = some r := by rw [if_pos rfl] at H; exact H
                      clear H
                      have H := H1
                      clear H1
                      obtain rfl := Option.some.inj H
                      go_wp2
                      go_ret
                      exact ⟨by first | rfl | (simp [errW_none, errW_some] <;> rfl) | (simp [*, errW_none, errW_some] <;> rfl), by repeat (first | (with_reducible first | exact HB.out | apply below_alloc | apply pw_below_drewN | apply below_drew1 | refine below_set ?_ (IsS73.ge HI514.out) | refine below_set ?_ GE535.out) | exact HB.out)⟩
                    · replace c43 := Bool.eq_false_iff.mpr c43
                      subst c43
                      have H1 : (if t520 = 0 then (sawmilllaw05_WireStops.l0 kj15 l1 (wrap64 (x6_2 + 1)) x515000_15 x515001_15 x515002_15) else (if t536 = t520 then (sawmilllaw05_WireStops.l0 kj15 l1 (wrap64 (x6_2 + 1)) x515000_15 x515001_15 x515002_15) else (some false))) = some r := by rw [if_neg (show ¬ (false = true) by decide)] at H; exact H
                      clear H
                      have H := H1
                      clear H1
                      by_cases c44 : t520 = 0
                      · rw [if_pos c44] at H
                        have c44b0 : (t520 == 0) = true := beq_iff_eq.mpr c44
                        have c44b1 : (t520 != 0) = false := bne_eq_false_iff_eq.mpr c44
                        clear c44
                        have H' := Aside0.mk H
                        clear H
                        go_wp2
                        go_roundg kj15
                        case measure => have := HJ2.out; have := HK2.out; have := HJ15.out; omega
                        case rel => exact ⟨(wrap64 (x6_2 + 1)), (x515000_15), (x515001_15), (x515002_15), (by first | rfl | (simp; done) | (simp [*]; done)), H', ⟨by have := HJ2.out; have := HK2.out; have := HJ15.out; omega⟩, ⟨by repeat (first | (with_reducible first | exact HI514.out | apply IsS73.alloc | apply IsS73.drewN | apply IsS73.drew | apply IsS73.set_0 | apply IsS73.set_1 | apply IsS73.set_2 | refine IsS73.far ?_ NB514_535.out _) | exact HI514.out)⟩, ⟨by repeat (first | (with_reducible first | exact HB.out | apply below_alloc | apply pw_below_drewN | apply below_drew1 | refine below_set ?_ (IsS73.ge HI514.out) | refine below_set ?_ GE535.out) | exact HB.out)⟩⟩
                      · rw [if_neg c44] at H
                        have c44b0 : (t520 == 0) = false := beq_eq_false_iff_ne.mpr c44
                        have c44b1 : (t520 != 0) = true := bne_iff_ne.mpr c44
                        by_cases c45 : t536 = t520
                        · rw [if_pos c45] at H
                          have c45b0 : (t536 == t520) = true := beq_iff_eq.mpr c45
                          have c45b1 : (t536 != t520) = false := bne_eq_false_iff_eq.mpr c45
                          clear c45
                          have H' := Aside0.mk H
                          clear H
                          go_wp2
                          go_roundg kj15
                          case measure => have := HJ2.out; have := HK2.out; have := HJ15.out; omega
                          case rel => exact ⟨(wrap64 (x6_2 + 1)), (x515000_15), (x515001_15), (x515002_15), (by first | rfl | (simp; done) | (simp [*]; done)), H', ⟨by have := HJ2.out; have := HK2.out; have := HJ15.out; omega⟩, ⟨by repeat (first | (with_reducible first | exact HI514.out | apply IsS73.alloc | apply IsS73.drewN | apply IsS73.drew | apply IsS73.set_0 | apply IsS73.set_1 | apply IsS73.set_2 | refine IsS73.far ?_ NB514_535.out _) | exact HI514.out)⟩, ⟨by repeat (first | (with_reducible first | exact HB.out | apply below_alloc | apply pw_below_drewN | apply below_drew1 | refine below_set ?_ (IsS73.ge HI514.out) | refine below_set ?_ GE535.out) | exact HB.out)⟩⟩
                        · rw [if_neg c45] at H
                          have c45b0 : (t536 == t520) = false := beq_eq_false_iff_ne.mpr c45
                          have c45b1 : (t536 != t520) = true := bne_iff_ne.mpr c45
                          obtain rfl := Option.some.inj H
                          go_wp2
                          go_ret
                          exact ⟨by first | rfl | (simp [errW_none, errW_some] <;> rfl) | (simp [*, errW_none, errW_some] <;> rfl), by repeat (first | (with_reducible first | exact HB.out | apply below_alloc | apply pw_below_drewN | apply below_drew1 | refine below_set ?_ (IsS73.ge HI514.out) | refine below_set ?_ GE535.out) | exact HB.out)⟩
              · rw [if_neg c13] at H
                exact absurd H (by simp)
            · rw [if_neg c10] at H
              have c10b0 : decide (x6_2 < (l1.length : Int)) = false := decide_eq_false c10
              clear c10
              replace H := Option.bind_eq_some_iff.mp H
              obtain ⟨t515, A460, H⟩ := H
              replace H : (some t515) = some r := H
              have A46 := Aside0.mk A460
              clear A460
              obtain rfl := Option.some.inj H
              go_wp2_with (first | ((with_reducible refine gate_callee (f := 16) rfl ?_); refine goesL_ (some 66) rfl rfl Try.func16 (by kernel_rfl) rfl #[] rfl (by (try simp only [List.map_toArray, List.map_cons, List.map_nil]); first | done | rfl | (simp only [List.length_drop, List.length_take]; rfl)) ?_; (with_reducible refine (sawmilllaw05_awake.calls  t515 _ A46.out).mono ?_); rintro e w47 ⟨rfl, hb⟩; refine ⟨_, rfl, ?_⟩; have n0_ := Aside0.mk (IsS73.below (by repeat (first | (with_reducible first | exact HI514.out | apply IsS73.alloc | apply IsS73.drewN | apply IsS73.drew | apply IsS73.set_0 | apply IsS73.set_1 | apply IsS73.set_2) | exact HI514.out)) hb); have n1_ := Aside0.mk (below_step (by repeat (first | (with_reducible first | exact HB.out | apply below_alloc | apply pw_below_drewN | apply below_drew1 | refine below_set ?_ (IsS73.ge HI514.out)) | exact HB.out)) hb); clear HI514; clear HB; have HI514 := n0_; have HB := n1_; clear n0_ n1_; (try clear hb); (try clear hb2); (try clear hk); (try clear hi)))
              go_ret
              exact ⟨by first | rfl | (simp [errW_none, errW_some] <;> rfl) | (simp [*, errW_none, errW_some] <;> rfl), by repeat (first | (with_reducible first | exact HB.out | apply below_alloc | apply pw_below_drewN | apply below_drew1 | refine below_set ?_ (IsS73.ge HI514.out)) | exact HB.out)⟩

end Go.Proofs.Ytpbekhkmeaaejaa.PAll
