import Derived.Test.YtfgeppldckagaaaPAllx0
import Derived.Test.YtfgeppldckagaaaPAllx4
import Derived.Test.YtfgeppldckagaaaPAllx6
import Derived.Test.YtfgeppldckagaaaPAllx8
import Derived.Test.YtfgeppldckagaaaPAllx9
import Derived.Test.YtfgeppldckagaaaPAllx13
import Derived.Test.YtfgeppldckagaaaPAllx15
import Derived.Test.YtfgeppldckagaaaPAllx27d
-- Written by a changed copy of the kit's print program, run in this session (NOTES.md tells the change). Not trusted: Lean checks it.
namespace Go.Proofs.Ytfgeppldckagaaa.PAll
open Go.RowKit Go.Proofs.YtfgeppldckagaaaW.PrintWords Go.Proofs.YtfgeppldckagaaaW.PrintLast Go.Proofs.YtfgeppldckagaaaW.PrintMore
attribute [local go_sem] max2_int min2_int max_two min_two max_three min_three max_four min_four   -- for this text's walks alone
set_option linter.unusedVariables false
set_option linter.unusedSimpArgs false

set_option maxHeartbeats 8000000 in
set_option maxRecDepth 100000 in
theorem sawmilllaw08_CurveRow.calls (k : Nat) (A0 : Option Addr) (c0 : Nat) (l0 : List (S36)) (a1 : Int) (a2 : Int) (r : Bool) (w : World) (hr0 : Kd.C k36 w A0 l0.length l0) (hc0 : l0.length ≤ c0) (h : sawmilllaw08_CurveRow.f k l0 a1 a2 = some r) :
  Calls Try.prog 4 #[.slice A0 l0.length c0, .int .i64 a1, .int .i64 a2] w fun e w' => e = .returned (.bool r) ∧ Below w.heap.size w w' := by
 have hu25 := Try.underlying25
 have HR0 := Aside0.mk hr0
 have HC0 := Aside0.mk hc0
 clear hr0 hc0
 have HB := Aside0.mk (Below.refl w.heap.size w)
 have H : ((sawmilllaw08_small.f l0).bind fun t149 => (if t149 = true then ((curve_Check.f k l0).bind fun t150 => (if t150 = 0 then (if a1 < (-1000000) then (sawmilllaw08_CurveRow.j0 k l0 a1 a2 true) else (sawmilllaw08_CurveRow.j0 k l0 a1 a2 (decide (a1 > 1000000)))) else (sawmilllaw08_CurveRow.j0 k l0 a1 a2 true))) else (sawmilllaw08_CurveRow.j0 k l0 a1 a2 true))) = some r := h
 clear h
 have HC4 := Aside0.mk H
 clear H
 go_enter Try.func4, Try.ntmps4
 go_upto_region 1 with (fail)
 go_cut [26] (fun v26 wc => ∃ (kq : Nat) (x26_3 : Bool), v26 = .bool x26_3 ∧ Aside0 (sawmilllaw08_CurveRow.j0 kq l0 a1 a2 x26_3 = some r) ∧ Aside0 (kq ≤ k) ∧ Aside0 (Below w.heap.size w wc))
 case first =>
  have H := HC4.out
  clear HC4
  replace H := Option.bind_eq_some_iff.mp H
  obtain ⟨t149, A50, H⟩ := H
  replace H : (if t149 = true then ((curve_Check.f k l0).bind fun t150 => (if t150 = 0 then (if a1 < (-1000000) then (sawmilllaw08_CurveRow.j0 k l0 a1 a2 true) else (sawmilllaw08_CurveRow.j0 k l0 a1 a2 (decide (a1 > 1000000)))) else (sawmilllaw08_CurveRow.j0 k l0 a1 a2 true))) else (sawmilllaw08_CurveRow.j0 k l0 a1 a2 true)) = some r := H
  have A5 := Aside0.mk A50
  clear A50
  by_cases c6 : t149 = true
  ·subst c6
   have H1 : ((curve_Check.f k l0).bind fun t150 => (if t150 = 0 then (if a1 < (-1000000) then (sawmilllaw08_CurveRow.j0 k l0 a1 a2 true) else (sawmilllaw08_CurveRow.j0 k l0 a1 a2 (decide (a1 > 1000000)))) else (sawmilllaw08_CurveRow.j0 k l0 a1 a2 true))) = some r := by rw [if_pos rfl] at H; exact H
   clear H
   have H := H1
   clear H1
   replace H := Option.bind_eq_some_iff.mp H
   obtain ⟨t150, A70, H⟩ := H
   replace H : (if t150 = 0 then (if a1 < (-1000000) then (sawmilllaw08_CurveRow.j0 k l0 a1 a2 true) else (sawmilllaw08_CurveRow.j0 k l0 a1 a2 (decide (a1 > 1000000)))) else (sawmilllaw08_CurveRow.j0 k l0 a1 a2 true)) = some r := H
   have A7 := Aside0.mk A70
   clear A70
   by_cases c8 : t150 = 0
   ·rw [if_pos c8] at H
    have c8b0 : (t150 == 0) = true := beq_iff_eq.mpr c8
    have c8b1 : (t150 != 0) = false := bne_eq_false_iff_eq.mpr c8
    clear c8
    (first | rw [c8b0] | (simp only [i64_w, i32_w]; rw [c8b0]) | skip)
    by_cases c9 : a1 < (-1000000)
    ·rw [if_pos c9] at H
     have c9b0 : decide (a1 < (-1000000)) = true := decide_eq_true c9
     clear c9
     have H' := Aside0.mk H
     clear H
     go_wp2_with (first | ((with_reducible refine gate_callee (f := 15) rfl ?_); refine goesL_ (some 12) rfl rfl Try.func15 (by kernel_rfl) rfl #[.slice A0 l0.length c0] rfl (by (try simp only [List.map_toArray, List.map_cons, List.map_nil]); first | done | rfl | (simp only [List.length_drop, List.length_take]; rfl)) ?_; (with_reducible refine (sawmilllaw08_small.calls _ _ l0 true _ ?side1 ?side2 A5.out).mono ?_); (case side1 => repeat (first | exact (Kd.C_below HR0.out HB.out) | (with_reducible refine Kd.C_alloc ?_ _) | (with_reducible refine Kd.C_drewN ?_ _) | (with_reducible refine Kd.C_drew ?_))); (case side2 => exact HC0.out); rintro e w' ⟨rfl, ⟨nd, rfl⟩⟩; refine ⟨_, rfl, ?_⟩) | (go_at_call 16; (with_reducible refine (curve_Check.calls k _ _ l0 t150 _ ?side1 ?side2 A7.out).mono ?_); (case side1 => repeat (first | exact (Kd.C_below HR0.out (by repeat (first | (with_reducible first | exact HB.out | apply cA | apply cN | apply cD) | exact HB.out))) | (with_reducible refine Kd.C_alloc ?_ _) | (with_reducible refine Kd.C_drewN ?_ _) | (with_reducible refine Kd.C_drew ?_))); (case side2 => exact HC0.out); rintro e w10 ⟨rfl, hb⟩; have n0_ := Aside0.mk (below_step (by repeat (first | (with_reducible first | exact HB.out | apply cA | apply cN | apply cD) | exact HB.out)) hb); clear HB; have HB := n0_; clear n0_; (try clear hb); (try clear hb2); (try clear hk); (try clear hi)))
     go_meet
     case rel => exact ⟨_, (true), (by first | rfl | (simp; done) | (simp [*]; done)), H', ⟨by first | omega | exact Nat.le_refl _⟩, ⟨by repeat (first | (with_reducible first | exact HB.out | apply cA | apply cN | apply cD) | exact HB.out)⟩⟩
    ·rw [if_neg c9] at H
     have c9b0 : decide (a1 < (-1000000)) = false := decide_eq_false c9
     clear c9
     have H' := Aside0.mk H
     clear H
     go_wp2_with (first | ((with_reducible refine gate_callee (f := 15) rfl ?_); refine goesL_ (some 12) rfl rfl Try.func15 (by kernel_rfl) rfl #[.slice A0 l0.length c0] rfl (by (try simp only [List.map_toArray, List.map_cons, List.map_nil]); first | done | rfl | (simp only [List.length_drop, List.length_take]; rfl)) ?_; (with_reducible refine (sawmilllaw08_small.calls _ _ l0 true _ ?side1 ?side2 A5.out).mono ?_); (case side1 => repeat (first | exact (Kd.C_below HR0.out HB.out) | (with_reducible refine Kd.C_alloc ?_ _) | (with_reducible refine Kd.C_drewN ?_ _) | (with_reducible refine Kd.C_drew ?_))); (case side2 => exact HC0.out); rintro e w' ⟨rfl, ⟨nd, rfl⟩⟩; refine ⟨_, rfl, ?_⟩) | (go_at_call 16; (with_reducible refine (curve_Check.calls k _ _ l0 t150 _ ?side1 ?side2 A7.out).mono ?_); (case side1 => repeat (first | exact (Kd.C_below HR0.out (by repeat (first | (with_reducible first | exact HB.out | apply cA | apply cN | apply cD) | exact HB.out))) | (with_reducible refine Kd.C_alloc ?_ _) | (with_reducible refine Kd.C_drewN ?_ _) | (with_reducible refine Kd.C_drew ?_))); (case side2 => exact HC0.out); rintro e w11 ⟨rfl, hb⟩; have n0_ := Aside0.mk (below_step (by repeat (first | (with_reducible first | exact HB.out | apply cA | apply cN | apply cD) | exact HB.out)) hb); clear HB; have HB := n0_; clear n0_; (try clear hb); (try clear hb2); (try clear hk); (try clear hi)))
     go_meet
     case rel => exact ⟨_, (decide (a1 > 1000000)), (by first | rfl | (simp; done) | (simp [*]; done)), H', ⟨by first | omega | exact Nat.le_refl _⟩, ⟨by repeat (first | (with_reducible first | exact HB.out | apply cA | apply cN | apply cD) | exact HB.out)⟩⟩
   ·rw [if_neg c8] at H
    have c8b0 : (t150 == 0) = false := beq_eq_false_iff_ne.mpr c8
    have c8b1 : (t150 != 0) = true := bne_iff_ne.mpr c8
    (first | rw [c8b0] | (simp only [i64_w, i32_w]; rw [c8b0]) | skip)
    have H' := Aside0.mk H
    clear H
    go_wp2_with (first | ((with_reducible refine gate_callee (f := 15) rfl ?_); refine goesL_ (some 12) rfl rfl Try.func15 (by kernel_rfl) rfl #[.slice A0 l0.length c0] rfl (by (try simp only [List.map_toArray, List.map_cons, List.map_nil]); first | done | rfl | (simp only [List.length_drop, List.length_take]; rfl)) ?_; (with_reducible refine (sawmilllaw08_small.calls _ _ l0 true _ ?side1 ?side2 A5.out).mono ?_); (case side1 => repeat (first | exact (Kd.C_below HR0.out HB.out) | (with_reducible refine Kd.C_alloc ?_ _) | (with_reducible refine Kd.C_drewN ?_ _) | (with_reducible refine Kd.C_drew ?_))); (case side2 => exact HC0.out); rintro e w' ⟨rfl, ⟨nd, rfl⟩⟩; refine ⟨_, rfl, ?_⟩) | (go_at_call 16; (with_reducible refine (curve_Check.calls k _ _ l0 t150 _ ?side1 ?side2 A7.out).mono ?_); (case side1 => repeat (first | exact (Kd.C_below HR0.out (by repeat (first | (with_reducible first | exact HB.out | apply cA | apply cN | apply cD) | exact HB.out))) | (with_reducible refine Kd.C_alloc ?_ _) | (with_reducible refine Kd.C_drewN ?_ _) | (with_reducible refine Kd.C_drew ?_))); (case side2 => exact HC0.out); rintro e w12 ⟨rfl, hb⟩; have n0_ := Aside0.mk (below_step (by repeat (first | (with_reducible first | exact HB.out | apply cA | apply cN | apply cD) | exact HB.out)) hb); clear HB; have HB := n0_; clear n0_; (try clear hb); (try clear hb2); (try clear hk); (try clear hi)))
    go_meet
    case rel => exact ⟨_, (true), (by first | rfl | (simp; done) | (simp [*]; done)), H', ⟨by first | omega | exact Nat.le_refl _⟩, ⟨by repeat (first | (with_reducible first | exact HB.out | apply cA | apply cN | apply cD) | exact HB.out)⟩⟩
  ·replace c6 := Bool.eq_false_iff.mpr c6
   subst c6
   have H1 : (sawmilllaw08_CurveRow.j0 k l0 a1 a2 true) = some r := by rw [if_neg (show ¬ (false = true) by decide)] at H; exact H
   clear H
   have H := H1
   clear H1
   have H' := Aside0.mk H
   clear H
   go_wp2_with (first | ((with_reducible refine gate_callee (f := 15) rfl ?_); refine goesL_ (some 12) rfl rfl Try.func15 (by kernel_rfl) rfl #[.slice A0 l0.length c0] rfl (by (try simp only [List.map_toArray, List.map_cons, List.map_nil]); first | done | rfl | (simp only [List.length_drop, List.length_take]; rfl)) ?_; (with_reducible refine (sawmilllaw08_small.calls _ _ l0 false _ ?side1 ?side2 A5.out).mono ?_); (case side1 => repeat (first | exact (Kd.C_below HR0.out HB.out) | (with_reducible refine Kd.C_alloc ?_ _) | (with_reducible refine Kd.C_drewN ?_ _) | (with_reducible refine Kd.C_drew ?_))); (case side2 => exact HC0.out); rintro e w' ⟨rfl, ⟨nd, rfl⟩⟩; refine ⟨_, rfl, ?_⟩))
   go_meet
   case rel => exact ⟨_, (true), (by first | rfl | (simp; done) | (simp [*]; done)), H', ⟨by first | omega | exact Nat.le_refl _⟩, ⟨by repeat (first | (with_reducible first | exact HB.out | apply cA | apply cN | apply cD) | exact HB.out)⟩⟩
 case rest =>
  clear HC4
  try clear c1
  try clear p2
  try clear c4
  try clear c6
  try clear c8
  try clear c8b0
  try clear c8b1
  try clear c9
  try clear c9b0
  obtain ⟨kq, x26_3, rfl, HA, HJ3, HB⟩ := hcut
  cases kq with
  | zero => exact absurd HA.out (by simp [sawmilllaw08_CurveRow.j0])
  | succ kj3 =>
   have H := HA.out
   clear HA
   simp only [sawmilllaw08_CurveRow.j0] at H
   by_cases c13 : x26_3 = true
   ·subst c13
    have H1 : ((sawmilllaw08_awake.f kj3).bind fun t151 => (some t151)) = some r := by rw [if_pos rfl] at H; exact H
    clear H
    have H := H1
    clear H1
    replace H := Option.bind_eq_some_iff.mp H
    obtain ⟨t151, A140, H⟩ := H
    replace H : (some t151) = some r := H
    have A14 := Aside0.mk A140
    clear A140
    obtain rfl := Option.some.inj H
    go_wp2_with (first | ((with_reducible refine gate_callee (f := 13) rfl ?_); refine goesL_ (some 27) rfl rfl Try.func13 (by kernel_rfl) rfl #[] rfl (by (try simp only [List.map_toArray, List.map_cons, List.map_nil]); first | done | rfl | (simp only [List.length_drop, List.length_take]; rfl)) ?_; (with_reducible refine (sawmilllaw08_awake.calls kj3  t151 _ A14.out).mono ?_); rintro e w15 ⟨rfl, hb⟩; refine ⟨_, rfl, ?_⟩; have n0_ := Aside0.mk (below_step (by repeat (first | (with_reducible first | exact HB.out | apply cA | apply cN | apply cD) | exact HB.out)) hb); clear HB; have HB := n0_; clear n0_; (try clear hb); (try clear hb2); (try clear hk); (try clear hi)))
    go_ret
    exact ⟨by first | rfl | (simp [errW_none, errW_some] <;> rfl) | (simp [*, errW_none, errW_some] <;> rfl), by repeat (first | (with_reducible first | exact HB.out | apply cA | apply cN | apply cD) | exact HB.out)⟩
   ·replace c13 := Bool.eq_false_iff.mpr c13
    subst c13
    have H1 : (sawmilllaw08_CurveRow.l0 kj3 l0 a1 a2 0 (([a1] : List Int)) ([] : List Int) (([[]] : List (List Int))) ([] : List Int) (([a1] : List Int)) ([] : List (List Int))) = some r := by rw [if_neg (show ¬ (false = true) by decide)] at H; exact H
    clear H
    have H := H1
    clear H1
    obtain ⟨y152, hy152⟩ : ∃ y_ : List Int, y_ = (([a1] : List Int)) := ⟨_, rfl⟩
    replace H : (sawmilllaw08_CurveRow.l0 kj3 l0 a1 a2 0 y152 ([] : List Int) (([[]] : List (List Int))) ([] : List Int) (([a1] : List Int)) ([] : List (List Int))) = some r := by first | (rw [hy152]; with_reducible exact H) | (have H2_ := (Option.bind_some _ _).symm.trans H; rw [hy152]; with_reducible exact H2_) | (have H2_ := (Option.bind_some _ _).symm.trans H; with_reducible exact H2_) | with_reducible exact H | (rw [hy152]; exact H) | exact H
    have Ny152 := Aside0.mk hy152
    clear hy152
    obtain ⟨y155, hy155⟩ : ∃ y_ : List (List Int), y_ = (([[]] : List (List Int))) := ⟨_, rfl⟩
    replace H : (sawmilllaw08_CurveRow.l0 kj3 l0 a1 a2 0 y152 ([] : List Int) y155 ([] : List Int) (([a1] : List Int)) ([] : List (List Int))) = some r := by first | (rw [hy155]; with_reducible exact H) | (have H2_ := (Option.bind_some _ _).symm.trans H; rw [hy155]; with_reducible exact H2_) | (have H2_ := (Option.bind_some _ _).symm.trans H; with_reducible exact H2_) | with_reducible exact H | (rw [hy155]; exact H) | exact H
    have Ny155 := Aside0.mk hy155
    clear hy155
    obtain ⟨y159, hy159⟩ : ∃ y_ : List Int, y_ = (([a1] : List Int)) := ⟨_, rfl⟩
    replace H : (sawmilllaw08_CurveRow.l0 kj3 l0 a1 a2 0 y152 ([] : List Int) y155 ([] : List Int) y159 ([] : List (List Int))) = some r := by first | (rw [hy159]; with_reducible exact H) | (have H2_ := (Option.bind_some _ _).symm.trans H; rw [hy159]; with_reducible exact H2_) | (have H2_ := (Option.bind_some _ _).symm.trans H; with_reducible exact H2_) | with_reducible exact H | (rw [hy159]; exact H) | exact H
    have Ny159 := Aside0.mk hy159
    clear hy159
    have H' := Aside0.mk H
    clear H
    go_wp2_with (first | ((with_reducible refine gate_dst (N := 29) rfl ?_); refine Kd.R_lit (Kd.int .i64) _ 3 ?hg (N := 29) ?hd (xs := ([a1] : List Int)) (inner := [.int .i64 a1]) (ok := fun _ => True) (okp := fun _ => True) ?hr ?hp (fun _ hk => hk) trivial (Below.refl _ _) (Nat.le_refl _) (by simp) ?_; (case hd => rfl); (case hg => rfl); (case hr => first | (go_simp; done) | (go_simp; rfl)); (case hp => exact (Reps.one (show Kd.M (Kd.int .i64) _ _ _ a1 [.int .i64 a1] from rfl) (Reps.none _ _))); intro v153 w16 ho17 hb hg_ hnew_; clear hg_ hnew_; (first | rw [← Ny152.out] at ho17 | (simp only [Int.reduceToNat] at ho17; rw [← Ny152.out] at ho17)); have n0_ := Aside0.mk (Kd.R_lower ho17 (below_size (by repeat (first | (with_reducible first | exact HB.out | apply cA | apply cN | apply cD) | exact HB.out)))); have n1_ := Aside0.mk (below_step (by repeat (first | (with_reducible first | exact HB.out | apply cA | apply cN | apply cD) | exact HB.out)) hb); clear HB; have HO154 := n0_; have HB := n1_; clear n0_ n1_; clear hb ho17) | ((with_reducible refine gate_dst (N := 30) rfl ?_); refine Kd.S_lit (Kd.slice 3 (Kd.int .i64)) _ 22 ?hg (N := 30) ?hd (xs := ([[]] : List (List Int))) (inner := [.slice none 0 0]) (ok := fun _ => True) (okp := fun _ => True) ?hr ?hp (fun _ hk => hk) trivial (Below.refl _ _) (Nat.le_refl _) (by simp) ?_; (case hd => rfl); (case hg => rfl); (case hr => first | (go_simp; done) | (go_simp; rfl)); (case hp => exact (Reps.one (show Kd.M (Kd.slice 3 (Kd.int .i64)) _ _ _ [] [.slice none 0 0] from ⟨_, rfl, Kd.R_nil _ _ _ _ _⟩) (Reps.none _ _))); intro v156 w18 ho19 hb hg_ hnew_; clear hg_ hnew_; (first | rw [← Ny155.out] at ho19 | (simp only [Int.reduceToNat] at ho19; rw [← Ny155.out] at ho19)); have n0_ := Aside0.mk (Kd.R_below (by (with_reducible repeat (first | apply Kd.R_alloc | apply Kd.R_drewN | apply Kd.R_drew)); exact HO154.out) hb); have n1_ := Aside0.mk (Kd.S_lower (Kd.S_new' ho19 (Kd.R_lt (by (with_reducible repeat (first | apply Kd.R_alloc | apply Kd.R_drewN | apply Kd.R_drew)); exact HO154.out))) (below_size (by repeat (first | (with_reducible first | exact HB.out | apply cA | apply cN | apply cD) | exact HB.out)))); have n2_ := Aside0.mk (below_step (by repeat (first | (with_reducible first | exact HB.out | apply cA | apply cN | apply cD) | exact HB.out)) hb); clear HO154; clear HB; have HO154 := n0_; have HO157 := n1_; have HB := n2_; clear n0_ n1_ n2_; clear hb ho19; obtain ⟨Ao20, co20, eo20⟩ := Kd.S_slice HO157.out; subst eo20; obtain ⟨Ao21, co21, eo21⟩ := Kd.R_slice HO154.out; subst eo21) | ((with_reducible refine gate_dst (N := 7) rfl ?_); refine box_event ?hg (N := 7) ?hd (cs := #[.slice none 0 0, .slice none 0 0, .slice none 0 0]) (t := 25) ?hr ?_; (case hd => rfl); (case hg => rfl); (case hr => first | (go_simp; done) | (go_simp; rfl)); intro gb158 hg w22 hbox hb; have n0_ := Aside0.mk (Kd.R_below (by (with_reducible repeat (first | apply Kd.R_alloc | apply Kd.R_drewN | apply Kd.R_drew)); exact HO154.out) hb); have n1_ := Aside0.mk (Kd.S_below (by (with_reducible repeat (first | apply Kd.S_alloc | apply Kd.S_drewN | apply Kd.S_drew)); exact HO157.out) hb); have n2_ := Aside0.mk (below_step (by repeat (first | (with_reducible first | exact HB.out | apply cA | apply cN | apply cD) | exact HB.out)) hb); have n3_ := Aside0.mk (hbox); have n4_ := Aside0.mk ((by rw [hg]; exact (below_size (by repeat (first | (with_reducible first | exact HB.out | apply cA | apply cN | apply cD) | exact HB.out))) : w.heap.size ≤ gb158)); have n5_ := Aside0.mk ((by rw [hg]; exact (below_size (by repeat (first | (with_reducible first | exact HB.out | apply cA | apply cN | apply cD) | exact HB.out))) : w.heap.size ≤ gb158)); clear HO154; clear HO157; clear HB; have HO154 := n0_; have HO157 := n1_; have HB := n2_; have BK158 := n3_; have GW158 := n4_; have GE158 := n5_; clear n0_ n1_ n2_ n3_ n4_ n5_; clear hb hbox hg; have hcz23_0 : w22.cell? ⟨gb158, 0, none⟩ = some (.slice none 0 0) := (blk_cell BK158.out 0).trans rfl; have hcz23_1 : w22.cell? ⟨gb158, 1, none⟩ = some (.slice none 0 0) := (blk_cell BK158.out 1).trans rfl; have hcz23_2 : w22.cell? ⟨gb158, 2, none⟩ = some (.slice none 0 0) := (blk_cell BK158.out 2).trans rfl; have hfz23_0 := blk_frozen BK158.out 0; have hfz23_1 := blk_frozen BK158.out 1; have hfz23_2 := blk_frozen BK158.out 2) | ((with_reducible refine gate_dst (N := 33) rfl ?_); refine Kd.R_lit (Kd.int .i64) _ 3 ?hg (N := 33) ?hd (xs := ([a1] : List Int)) (inner := [.int .i64 a1]) (ok := fun _ => True) (okp := fun _ => True) ?hr ?hp (fun _ hk => hk) trivial (Below.refl _ _) (Nat.le_refl _) (by simp) ?_; (case hd => rfl); (case hg => rfl); (case hr => first | (go_simp; done) | (go_simp; rfl)); (case hp => exact (Reps.one (show Kd.M (Kd.int .i64) _ _ _ a1 [.int .i64 a1] from rfl) (Reps.none _ _))); intro v160 w24 ho25 hb hg_ hnew_; clear hg_ hnew_; (first | rw [← Ny159.out] at ho25 | (simp only [Int.reduceToNat] at ho25; rw [← Ny159.out] at ho25)); have n0_ := Aside0.mk (Kd.R_elder' (by (with_reducible repeat (first | apply Kd.R_alloc | apply Kd.R_drewN | apply Kd.R_drew)); exact (Kd.R_mono (Kd.R_far (p := ⟨gb158, 2, none⟩) (Kd.R_far (p := ⟨gb158, 1, none⟩) (Kd.R_far (p := ⟨gb158, 0, none⟩) (Kd.R_types HO154.out BK158.out (by decide)) (fun _ hk => hk.2) (.slice Ao21 y152.length co21)) (fun _ hk => hk.2) (.slice none 0 0)) (fun _ hk => hk.2) (.slice Ao20 y155.length co20)) (fun _ h_ => h_.1))) (Kd.R_base ho25) hb); have n1_ := Aside0.mk (Kd.S_elder' (by (with_reducible repeat (first | apply Kd.S_alloc | apply Kd.S_drewN | apply Kd.S_drew)); exact (Kd.S_mono (Kd.S_far (p := ⟨gb158, 2, none⟩) (Kd.S_far (p := ⟨gb158, 1, none⟩) (Kd.S_far (p := ⟨gb158, 0, none⟩) (Kd.S_types HO157.out BK158.out (by decide)) (fun _ hk => hk.2) (.slice Ao21 y152.length co21)) (fun _ hk => hk.2) (.slice none 0 0)) (fun _ hk => hk.2) (.slice Ao20 y155.length co20)) (fun _ h_ => h_.1))) (Kd.R_base ho25) hb); have n2_ := Aside0.mk (Kd.R_lower (Kd.R_new' ho25 (Kd.R_lt (by (with_reducible repeat (first | apply Kd.R_alloc | apply Kd.R_drewN | apply Kd.R_drew)); exact (Kd.R_mono (Kd.R_far (p := ⟨gb158, 2, none⟩) (Kd.R_far (p := ⟨gb158, 1, none⟩) (Kd.R_far (p := ⟨gb158, 0, none⟩) (Kd.R_types HO154.out BK158.out (by decide)) (fun _ hk => hk.2) (.slice Ao21 y152.length co21)) (fun _ hk => hk.2) (.slice none 0 0)) (fun _ hk => hk.2) (.slice Ao20 y155.length co20)) (fun _ h_ => h_.1))))) (below_size (by repeat (first | (with_reducible first | exact HB.out | apply cA | apply cN | apply cD | refine cS ?_ GE158.out) | exact HB.out)))); have n3_ := Aside0.mk (blk_below (g := gb158) (o := .cells #[.slice Ao21 y152.length co21, .slice none 0 0, .slice Ao20 y155.length co20] 25 (0, 0)) (by (with_reducible repeat (first | refine bN ?_ _ | refine bD ?_ | refine bA ?_ _)); refine blk_put (cs := #[.slice Ao21 y152.length co21, .slice none 0 0, .slice none 0 0]) ?_ 2 _ rfl; (with_reducible repeat (first | refine bN ?_ _ | refine bD ?_ | refine bA ?_ _)); refine blk_put (cs := #[.slice Ao21 y152.length co21, .slice none 0 0, .slice none 0 0]) ?_ 1 _ rfl; (with_reducible repeat (first | refine bN ?_ _ | refine bD ?_ | refine bA ?_ _)); refine blk_put (cs := #[.slice none 0 0, .slice none 0 0, .slice none 0 0]) ?_ 0 _ rfl; (with_reducible repeat (first | refine bN ?_ _ | refine bD ?_ | refine bA ?_ _)); exact BK158.out) hb); have n4_ := Aside0.mk (below_step (by repeat (first | (with_reducible first | exact HB.out | apply cA | apply cN | apply cD | refine cS ?_ GE158.out) | exact HB.out)) hb); clear HO154; clear HO157; clear BK158; clear HB; have HO154 := n0_; have HO157 := n1_; have HO161 := n2_; have BK158 := n3_; have HB := n4_; clear n0_ n1_ n2_ n3_ n4_; clear hb ho25; obtain ⟨Ao26, co26, eo26⟩ := Kd.R_slice HO161.out; subst eo26) | ((with_reducible refine gate_dst (N := 8) rfl ?_); refine box_event ?hg (N := 8) ?hd (cs := #[.slice none 0 0, .slice none 0 0, .slice none 0 0]) (t := 25) ?hr ?_; (case hd => rfl); (case hg => rfl); (case hr => first | (go_simp; done) | (go_simp; rfl)); intro gb162 hg w27 hbox hb; have n0_ := Aside0.mk (Kd.R_below (by (with_reducible repeat (first | apply Kd.R_alloc | apply Kd.R_drewN | apply Kd.R_drew)); exact HO154.out) hb); have n1_ := Aside0.mk (Kd.S_below (by (with_reducible repeat (first | apply Kd.S_alloc | apply Kd.S_drewN | apply Kd.S_drew)); exact HO157.out) hb); have n2_ := Aside0.mk (Kd.R_below (by (with_reducible repeat (first | apply Kd.R_alloc | apply Kd.R_drewN | apply Kd.R_drew)); exact HO161.out) hb); have n3_ := Aside0.mk (blk_below (Up.blk BK158.out) hb); have n4_ := Aside0.mk (below_step (by repeat (first | (with_reducible first | exact HB.out | apply cA | apply cN | apply cD | refine cS ?_ GE158.out) | exact HB.out)) hb); have n5_ := Aside0.mk (hbox); have n6_ := Aside0.mk ((by rw [hg]; exact (below_size (by repeat (first | (with_reducible first | exact HB.out | apply cA | apply cN | apply cD | refine cS ?_ GE158.out) | exact HB.out))) : w.heap.size ≤ gb162)); have n7_ := Aside0.mk ((by rw [hg]; exact (below_size (by repeat (first | (with_reducible first | exact HB.out | apply cA | apply cN | apply cD | refine cS ?_ GE158.out) | exact HB.out))) : w.heap.size ≤ gb162)); have n8_ := Aside0.mk ((by rw [hg]; exact Nat.ne_of_lt (blk_lt (Up.blk BK158.out)) : gb158 ≠ gb162)); have n9_ := Aside0.mk ((by rw [hg]; exact Nat.ne_of_gt (blk_lt (Up.blk BK158.out)) : gb162 ≠ gb158)); clear HO154; clear HO157; clear HO161; clear BK158; clear HB; have HO154 := n0_; have HO157 := n1_; have HO161 := n2_; have BK158 := n3_; have HB := n4_; have BK162 := n5_; have GW162 := n6_; have GE162 := n7_; have NB158_162 := n8_; have NB162_158 := n9_; clear n0_ n1_ n2_ n3_ n4_ n5_ n6_ n7_ n8_ n9_; clear hb hbox hg; have hnb28 := NB162_158.out; have hnc28 := NB158_162.out; have hcz29_0 : w27.cell? ⟨gb162, 0, none⟩ = some (.slice none 0 0) := (blk_cell BK162.out 0).trans rfl; have hcz29_1 : w27.cell? ⟨gb162, 1, none⟩ = some (.slice none 0 0) := (blk_cell BK162.out 1).trans rfl; have hcz29_2 : w27.cell? ⟨gb162, 2, none⟩ = some (.slice none 0 0) := (blk_cell BK162.out 2).trans rfl; have hfz29_0 := blk_frozen BK162.out 0; have hfz29_1 := blk_frozen BK162.out 1; have hfz29_2 := blk_frozen BK162.out 2))
    go_loopg [9] kj3 (fun kq v9 w' => ∃ (T0 : Nat → Prop) (x9_2 : Int) (x159001_2 : List Int) (x159002_2 : List (List Int)) (x163000_2 : List Int) (x163002_2 : List (List Int)) (u159001 : Value) (u159002 : Value) (u163000 : Value) (u163002 : Value), v9 = .int .i64 x9_2 ∧ Aside0 (sawmilllaw08_CurveRow.l0 kq l0 a1 a2 x9_2 y152 x159001_2 x159002_2 x163000_2 y159 x163002_2 = some r) ∧ Aside0 (kq ≤ kj3) ∧ Aside0 (Kd.R (Kd.int .i64) 3 w' w.heap.size (fun k_ => some k_ ≠ (u159001 : Value).ownBlock ∧ some k_ ≠ (u163000 : Value).ownBlock ∧ some k_ ≠ ((.slice Ao26 y159.length co26) : Value).ownBlock) (.slice Ao21 y152.length co21) y152) ∧ Aside0 (Kd.R (Kd.int .i64) 3 w' w.heap.size (fun k_ => some k_ ≠ ((.slice Ao21 y152.length co21) : Value).ownBlock ∧ some k_ ≠ (u163000 : Value).ownBlock ∧ some k_ ≠ ((.slice Ao26 y159.length co26) : Value).ownBlock) u159001 x159001_2) ∧ Aside0 (Kd.S (Kd.slice 3 (Kd.int .i64)) 22 w' w.heap.size (fun k_ => (some k_ ≠ ((.slice Ao21 y152.length co21) : Value).ownBlock ∧ T0 k_) ∧ some k_ ≠ (u159001 : Value).ownBlock ∧ some k_ ≠ (u163000 : Value).ownBlock ∧ some k_ ≠ ((.slice Ao26 y159.length co26) : Value).ownBlock ∧ some k_ ≠ (u163002 : Value).ownBlock) u159002 x159002_2) ∧ Aside0 (Kd.R (Kd.int .i64) 3 w' w.heap.size (fun k_ => some k_ ≠ ((.slice Ao21 y152.length co21) : Value).ownBlock ∧ some k_ ≠ (u159001 : Value).ownBlock ∧ some k_ ≠ ((.slice Ao26 y159.length co26) : Value).ownBlock) u163000 x163000_2) ∧ Aside0 (Kd.R (Kd.int .i64) 3 w' w.heap.size (fun k_ => some k_ ≠ ((.slice Ao21 y152.length co21) : Value).ownBlock ∧ some k_ ≠ (u159001 : Value).ownBlock ∧ some k_ ≠ (u163000 : Value).ownBlock) (.slice Ao26 y159.length co26) y159) ∧ Aside0 (Kd.S (Kd.slice 3 (Kd.int .i64)) 22 w' w.heap.size (fun k_ => (some k_ ≠ ((.slice Ao21 y152.length co21) : Value).ownBlock ∧ ¬ T0 k_) ∧ some k_ ≠ (u159001 : Value).ownBlock ∧ some k_ ≠ (u159002 : Value).ownBlock ∧ some k_ ≠ (u163000 : Value).ownBlock ∧ some k_ ≠ ((.slice Ao26 y159.length co26) : Value).ownBlock) u163002 x163002_2) ∧ Aside0 (w'.heap[gb158]? = some (.cells #[(.slice Ao21 y152.length co21), u159001, u159002] 25 (0, 0))) ∧ Aside0 (w'.heap[gb162]? = some (.cells #[u163000, (.slice Ao26 y159.length co26), u163002] 25 (0, 0))) ∧ Aside0 (Below w.heap.size w w'))
    case atStart => exact ⟨(fun _ => True), (0), (([] : List Int)), (y155), (([] : List Int)), (([] : List (List Int))), (.slice none 0 0), (.slice Ao20 y155.length co20), (.slice none 0 0), (.slice none 0 0), (by first | rfl | (simp; done) | (simp [*]; done)), H', ⟨Nat.le_refl _⟩, ⟨by (with_reducible repeat (first | apply Kd.R_alloc | apply Kd.R_drewN | apply Kd.R_drew)); exact Kd.R_mono (Kd.R_far (p := ⟨gb162, 2, none⟩) (Kd.R_far (p := ⟨gb162, 1, none⟩) (Kd.R_far (p := ⟨gb162, 0, none⟩) (Kd.R_types HO154.out BK162.out (by decide)) (fun _ hk => hk.2) (.slice none 0 0)) (fun _ hk => hk.2) (.slice Ao26 y159.length co26)) (fun _ hk => hk.2) (.slice none 0 0)) (fun _ hk => ⟨(by simp [Value.ownBlock]), ⟨(by simp [Value.ownBlock]), hk.1.2⟩⟩)⟩, ⟨by first | exact Kd.R_nil _ _ _ _ _ | exact Kd.N_nil _ _ _ _ _ | exact Kd.V_nil _ _ _ _ _ | exact Kd.Q_nil _ _ _ _ _ | exact Kd.S_nil _ _ _ _ _⟩, ⟨by (with_reducible repeat (first | apply Kd.S_alloc | apply Kd.S_drewN | apply Kd.S_drew)); exact Kd.S_mono (Kd.S_far (p := ⟨gb162, 2, none⟩) (Kd.S_far (p := ⟨gb162, 1, none⟩) (Kd.S_far (p := ⟨gb162, 0, none⟩) (Kd.S_types HO157.out BK162.out (by decide)) (fun _ hk => hk.2) (.slice none 0 0)) (fun _ hk => hk.2) (.slice Ao26 y159.length co26)) (fun _ hk => hk.2) (.slice none 0 0)) (fun _ hk => ⟨⟨hk.1.1.2, trivial⟩, ⟨(by simp [Value.ownBlock]), ⟨(by simp [Value.ownBlock]), ⟨hk.1.2, (by simp [Value.ownBlock])⟩⟩⟩⟩)⟩, ⟨by first | exact Kd.R_nil _ _ _ _ _ | exact Kd.N_nil _ _ _ _ _ | exact Kd.V_nil _ _ _ _ _ | exact Kd.Q_nil _ _ _ _ _ | exact Kd.S_nil _ _ _ _ _⟩, ⟨by (with_reducible repeat (first | apply Kd.R_alloc | apply Kd.R_drewN | apply Kd.R_drew)); exact Kd.R_mono (Kd.R_far (p := ⟨gb162, 2, none⟩) (Kd.R_far (p := ⟨gb162, 1, none⟩) (Kd.R_far (p := ⟨gb162, 0, none⟩) (Kd.R_types HO161.out BK162.out (by decide)) (fun _ hk => hk.2) (.slice none 0 0)) (fun _ hk => hk.2) (.slice Ao26 y159.length co26)) (fun _ hk => hk.2) (.slice none 0 0)) (fun _ hk => ⟨hk.1.2, ⟨(by simp [Value.ownBlock]), (by simp [Value.ownBlock])⟩⟩)⟩, ⟨by first | exact Kd.S_nil _ _ _ _ _ | exact Kd.N_nil _ _ _ _ _ | exact Kd.V_nil _ _ _ _ _ | exact Kd.Q_nil _ _ _ _ _ | exact Kd.R_nil _ _ _ _ _⟩, ⟨by (with_reducible repeat (first | refine bN ?_ _ | refine bD ?_ | refine bA ?_ _)); refine bF ?_ NB158_162.out _; (with_reducible repeat (first | refine bN ?_ _ | refine bD ?_ | refine bA ?_ _)); refine bF ?_ NB158_162.out _; (with_reducible repeat (first | refine bN ?_ _ | refine bD ?_ | refine bA ?_ _)); refine bF ?_ NB158_162.out _; (with_reducible repeat (first | refine bN ?_ _ | refine bD ?_ | refine bA ?_ _)); exact BK158.out⟩, ⟨by (with_reducible repeat (first | refine bN ?_ _ | refine bD ?_ | refine bA ?_ _)); refine blk_put (cs := #[.slice none 0 0, .slice Ao26 y159.length co26, .slice none 0 0]) ?_ 2 _ rfl; (with_reducible repeat (first | refine bN ?_ _ | refine bD ?_ | refine bA ?_ _)); refine blk_put (cs := #[.slice none 0 0, .slice none 0 0, .slice none 0 0]) ?_ 1 _ rfl; (with_reducible repeat (first | refine bN ?_ _ | refine bD ?_ | refine bA ?_ _)); refine blk_put (cs := #[.slice none 0 0, .slice none 0 0, .slice none 0 0]) ?_ 0 _ rfl; (with_reducible repeat (first | refine bN ?_ _ | refine bD ?_ | refine bA ?_ _)); exact BK162.out⟩, ⟨by repeat (first | (with_reducible first | exact HB.out | apply cA | apply cN | apply cD | refine cS ?_ GE158.out | refine cS ?_ GE162.out) | exact HB.out)⟩⟩
    case round =>
     clear H'
     try clear c1
     try clear c2
     try clear p2
     try clear c4
     try clear c6
     try clear c8
     try clear c8b0
     try clear c8b1
     try clear c9
     try clear c9b0
     try clear c13
     try clear c15
     try clear c28
     try clear hcz23_0
     try clear hcz23_1
     try clear hcz23_2
     try clear hcz29_0
     try clear hcz29_1
     try clear hcz29_2
     try clear hfz23_0
     try clear hfz23_1
     try clear hfz23_2
     try clear hfz29_0
     try clear hfz29_1
     try clear hfz29_2
     try clear p2
     obtain ⟨T0, x9_2, x159001_2, x159002_2, x163000_2, x163002_2, u159001, u159002, u163000, u163002, rfl, HA, HK2, HO_159000, HO_159001, HO_159002, HO_163000, HO_163001, HO_163002, BK158, BK162, HB⟩ := hrel
     cases gk with
     | zero => exact absurd HA.out (by simp [sawmilllaw08_CurveRow.l0])
     | succ k2 =>
      have H := HA.out
      clear HA
      simp only [sawmilllaw08_CurveRow.l0] at H
      by_cases c30 : x9_2 < (l0.length : Int)
      ·rw [if_pos c30] at H
       have c30b0 : decide (x9_2 < (l0.length : Int)) = true := decide_eq_true c30
       clear c30
       by_cases c31 : 0 ≤ x9_2
       ·rw [if_pos c31] at H
        have c31b0 : decide (0 ≤ x9_2) = true := decide_eq_true c31
        clear c31
        by_cases c32 : x159001_2.length < 17592186044416
        ·rw [if_pos c32] at H
         have LMc32 := Aside0.mk c32
         clear c32
         obtain ⟨y164, hy164⟩ : ∃ y_ : List Int, y_ = (x159001_2 ++ [(rd_T36 l0 x9_2).f0]) := ⟨_, rfl⟩
         replace H : (if 0 < (x159002_2.length : Int) then (if (rd_L1 x159002_2 0).length < 17592186044416 then (if x163000_2.length < 17592186044416 then (if x163002_2.length < 5864062014805 then (sawmilllaw08_CurveRow.l0 k2 l0 a1 a2 (wrap64 (x9_2 + 1)) y152 y164 (x159002_2.set (0 : Int).toNat ((rd_L1 x159002_2 0) ++ [(rd_T36 l0 x9_2).f1])) (x163000_2 ++ [(rd_T36 l0 x9_2).f0]) y159 (x163002_2 ++ [(([(rd_T36 l0 x9_2).f1] : List Int))])) else (none)) else (none)) else (none)) else (none)) = some r := by first | (rw [hy164]; with_reducible exact H) | (have H2_ := (Option.bind_some _ _).symm.trans H; rw [hy164]; with_reducible exact H2_) | (have H2_ := (Option.bind_some _ _).symm.trans H; with_reducible exact H2_) | with_reducible exact H | (rw [hy164]; exact H) | exact H
         have Ny164 := Aside0.mk hy164
         clear hy164
         by_cases c33 : 0 < (x159002_2.length : Int)
         ·rw [if_pos c33] at H
          have c33b0 : decide (0 < (x159002_2.length : Int)) = true := decide_eq_true c33
          have c33b1 : decide (0 < x159002_2.length) = true := decide_eq_true (by omega)
          clear c33
          by_cases c34 : (rd_L1 x159002_2 0).length < 17592186044416
          ·rw [if_pos c34] at H
           have LMc34 := Aside0.mk c34
           clear c34
           obtain ⟨y169, hy169⟩ : ∃ y_ : List Int, y_ = ((rd_L1 x159002_2 0) ++ [(rd_T36 l0 x9_2).f1]) := ⟨_, rfl⟩
           replace H : (if x163000_2.length < 17592186044416 then (if x163002_2.length < 5864062014805 then (sawmilllaw08_CurveRow.l0 k2 l0 a1 a2 (wrap64 (x9_2 + 1)) y152 y164 (x159002_2.set (0 : Int).toNat y169) (x163000_2 ++ [(rd_T36 l0 x9_2).f0]) y159 (x163002_2 ++ [(([(rd_T36 l0 x9_2).f1] : List Int))])) else (none)) else (none)) = some r := by first | (rw [hy169]; with_reducible exact H) | (have H2_ := (Option.bind_some _ _).symm.trans H; rw [hy169]; with_reducible exact H2_) | (have H2_ := (Option.bind_some _ _).symm.trans H; with_reducible exact H2_) | with_reducible exact H | (rw [hy169]; exact H) | exact H
           have Ny169 := Aside0.mk hy169
           clear hy169
           obtain ⟨y172, hy172⟩ : ∃ y_ : List (List Int), y_ = (x159002_2.set (0 : Int).toNat y169) := ⟨_, rfl⟩
           replace H : (if x163000_2.length < 17592186044416 then (if x163002_2.length < 5864062014805 then (sawmilllaw08_CurveRow.l0 k2 l0 a1 a2 (wrap64 (x9_2 + 1)) y152 y164 y172 (x163000_2 ++ [(rd_T36 l0 x9_2).f0]) y159 (x163002_2 ++ [(([(rd_T36 l0 x9_2).f1] : List Int))])) else (none)) else (none)) = some r := by first | (rw [hy172]; with_reducible exact H) | (have H2_ := (Option.bind_some _ _).symm.trans H; rw [hy172]; with_reducible exact H2_) | (have H2_ := (Option.bind_some _ _).symm.trans H; with_reducible exact H2_) | with_reducible exact H | (rw [hy172]; exact H) | exact H
           have Ny172 := Aside0.mk hy172
           clear hy172
           by_cases c36 : x163000_2.length < 17592186044416
           ·rw [if_pos c36] at H
            have LMc36 := Aside0.mk c36
            clear c36
            obtain ⟨y174, hy174⟩ : ∃ y_ : List Int, y_ = (x163000_2 ++ [(rd_T36 l0 x9_2).f0]) := ⟨_, rfl⟩
            replace H : (if x163002_2.length < 5864062014805 then (sawmilllaw08_CurveRow.l0 k2 l0 a1 a2 (wrap64 (x9_2 + 1)) y152 y164 y172 y174 y159 (x163002_2 ++ [(([(rd_T36 l0 x9_2).f1] : List Int))])) else (none)) = some r := by first | (rw [hy174]; with_reducible exact H) | (have H2_ := (Option.bind_some _ _).symm.trans H; rw [hy174]; with_reducible exact H2_) | (have H2_ := (Option.bind_some _ _).symm.trans H; with_reducible exact H2_) | with_reducible exact H | (rw [hy174]; exact H) | exact H
            have Ny174 := Aside0.mk hy174
            clear hy174
            obtain ⟨y178, hy178⟩ : ∃ y_ : List Int, y_ = (([(rd_T36 l0 x9_2).f1] : List Int)) := ⟨_, rfl⟩
            replace H : (if x163002_2.length < 5864062014805 then (sawmilllaw08_CurveRow.l0 k2 l0 a1 a2 (wrap64 (x9_2 + 1)) y152 y164 y172 y174 y159 (x163002_2 ++ [y178])) else (none)) = some r := by first | (rw [hy178]; with_reducible exact H) | (have H2_ := (Option.bind_some _ _).symm.trans H; rw [hy178]; with_reducible exact H2_) | (have H2_ := (Option.bind_some _ _).symm.trans H; with_reducible exact H2_) | with_reducible exact H | (rw [hy178]; exact H) | exact H
            have Ny178 := Aside0.mk hy178
            clear hy178
            by_cases c37 : x163002_2.length < 5864062014805
            ·rw [if_pos c37] at H
             have LMc37 := Aside0.mk c37
             clear c37
             obtain ⟨y181, hy181⟩ : ∃ y_ : List (List Int), y_ = (x163002_2 ++ [y178]) := ⟨_, rfl⟩
             replace H : (sawmilllaw08_CurveRow.l0 k2 l0 a1 a2 (wrap64 (x9_2 + 1)) y152 y164 y172 y174 y159 y181) = some r := by first | (rw [hy181]; with_reducible exact H) | (have H2_ := (Option.bind_some _ _).symm.trans H; rw [hy181]; with_reducible exact H2_) | (have H2_ := (Option.bind_some _ _).symm.trans H; with_reducible exact H2_) | with_reducible exact H | (rw [hy181]; exact H) | exact H
             have Ny181 := Aside0.mk hy181
             clear hy181
             have H' := Aside0.mk H
             clear H
             try go_wp2
             have n0_ := Aside0.mk (Kd.R_drew HO_159000.out)
             have n1_ := Aside0.mk (Kd.R_drew HO_159001.out)
             have n2_ := Aside0.mk (Kd.S_drew HO_159002.out)
             have n3_ := Aside0.mk (Kd.R_drew HO_163000.out)
             have n4_ := Aside0.mk (Kd.R_drew HO_163001.out)
             have n5_ := Aside0.mk (Kd.S_drew HO_163002.out)
             have n6_ := Aside0.mk (bD BK158.out)
             have n7_ := Aside0.mk (bD BK162.out)
             have n8_ := Aside0.mk (cD HB.out)
             clear HO_159000
             clear HO_159001
             clear HO_159002
             clear HO_163000
             clear HO_163001
             clear HO_163002
             clear BK158
             clear BK162
             clear HB
             have HO_159000 := n0_
             have HO_159001 := n1_
             have HO_159002 := n2_
             have HO_163000 := n3_
             have HO_163001 := n4_
             have HO_163002 := n5_
             have BK158 := n6_
             have BK162 := n7_
             have HB := n8_
             clear n0_ n1_ n2_ n3_ n4_ n5_ n6_ n7_ n8_
             have p163 : 0 ≤ (x9_2 : Int) := of_decide_eq_true (by first | (with_reducible assumption) | assumption)
             have q163 : x9_2 < (l0.length : Int) := of_decide_eq_true (by first | (with_reducible assumption) | assumption)
             obtain ⟨ad163, e163, hx163_0, hx163_1⟩ := at_T36 HR0.out x9_2 p163 q163
             have hw163_1 := hx163_1
             have hw163_0 := hx163_0
             cases e163
             replace hx163_0 := (HB.out.cell (World.block_lt_of_cell? w _ hx163_0)).trans hx163_0
             replace hx163_1 := (HB.out.cell (World.block_lt_of_cell? w _ hx163_1)).trans hx163_1
             replace p163 := eq_true p163
             replace q163 := eq_true q163
             refine start_ (n := 11) (S := fun w' => w'.cell? ⟨gb158, 0, none⟩ = some (.slice Ao21 y152.length co21) ∧ w'.cell? ⟨gb158, 1, none⟩ = some (u159001) ∧ w'.cell? ⟨gb158, 2, none⟩ = some (u159002) ∧ w'.cell? (ad163.add ((x9_2).toNat * 2)) = some (.int .i64 ((rd_T36 l0 x9_2).f0)) ∧ w'.cell? ⟨(ad163.add ((x9_2).toNat * 2)).block, (ad163.add ((x9_2).toNat * 2)).off + 1, none⟩ = some (.int .i64 ((rd_T36 l0 x9_2).f1))) (ds := [10]) Bo27_0 (by kernel_rfl) rfl rfl ⟨(blk_cell BK158.out 0).trans rfl, (blk_cell BK158.out 1).trans rfl, (blk_cell BK158.out 2).trans rfl, ((HB.out.cell (World.block_lt_of_cell? w _ hw163_0)).trans hw163_0), ((HB.out.cell (World.block_lt_of_cell? w _ hw163_1)).trans hw163_1)⟩ (fun hHeld => ?_); refine with_tabW sawmilllaw08_CurveRow.tab8 sawmilllaw08_CurveRow.bits8 (fun HT_ HW_ => ?_)
             generalize wr.drew = w38 at HO_159000 HO_159001 HO_159002 HO_163000 HO_163001 HO_163002 BK158 BK162 HB hx163_0 hx163_1 hHeld ⊢
             refine pure_ (i := 0) (N := some 41) (v := ?_) (a' := ?_) Bo27_1 rfl rfl (any_of HT_.out (by kernel_rfl)) (fun _ _ _ h => h) (Or.inl ⟨by rfl, ?_⟩) ?_ ?_
             rotate_left
             ·intro w'
              go_simp
              with_reducible rfl
             rotate_left
             ·simp only [Act.put, List.setIfInBounds_toArray, List.set_cons_zero, List.set_cons_succ, i64_w, i32_w]
              rfl
             refine pure_ (i := 2) (N := some 43) (v := ?_) (a' := ?_) Bo27_2 rfl rfl (any_of HT_.out (by kernel_rfl)) (fun _ _ _ h => h) (Or.inl ⟨by rfl, ?_⟩) ?_ ?_
             rotate_left
             ·intro w'
              go_simp
              with_reducible rfl
             rotate_left
             ·simp only [Act.put, List.setIfInBounds_toArray, List.set_cons_zero, List.set_cons_succ, i64_w, i32_w]
              rfl
             refine pure_ (i := 3) (N := some 44) (v := ?_) (a' := ?_) Bo27_3 rfl rfl (any_of HT_.out (by kernel_rfl)) (fun _ _ _ h => h) (Or.inl ⟨by rfl, ?_⟩) ?_ ?_
             rotate_left
             ·intro w'
              go_simp
              with_reducible rfl
             rotate_left
             ·simp only [Act.put, List.setIfInBounds_toArray, List.set_cons_zero, List.set_cons_succ, i64_w, i32_w]
              rfl
             refine pure_ (i := 4) (N := some 45) (v := ?_) (a' := ?_) Bo27_4 rfl rfl (any_of HT_.out (by kernel_rfl)) (fun _ _ _ h => h) (Or.inl ⟨by rfl, ?_⟩) ?_ ?_
             rotate_left
             ·intro w'
              go_simp
              with_reducible rfl
             rotate_left
             ·simp only [Act.put, List.setIfInBounds_toArray, List.set_cons_zero, List.set_cons_succ, i64_w, i32_w]
              rfl
             refine pure_ (i := 5) (N := some 46) (v := ?_) (a' := ?_) Bo27_5 rfl rfl (any_of HT_.out (by kernel_rfl)) (fun _ _ _ h => h) (Or.inl ⟨by rfl, ?_⟩) ?_ ?_
             rotate_left
             ·intro w'
              go_simp
              with_reducible rfl
             rotate_left
             ·simp only [Act.put, List.setIfInBounds_toArray, List.set_cons_zero, List.set_cons_succ, i64_w, i32_w]
              rfl
             refine take_ (i := 1) (N := some 42) (v := ?_) (a' := ?_) Bo27_6 rfl rfl (take_ofW HT_.out HW_.out (by kernel_rfl)) (fun _ _ _ h => h) (Or.inl ⟨by rfl, ?_⟩) hHeld ?_ ?_
             rotate_left
             ·rintro w' ⟨s0, s1, s2, s3, s4⟩
              go_simp
              with_reducible rfl
             rotate_left
             ·simp only [Act.put, List.setIfInBounds_toArray, List.set_cons_zero, List.set_cons_succ, i64_w, i32_w]
              rfl
             refine take_ (i := 6) (N := some 47) (v := ?_) (a' := ?_) Bo27_7 rfl rfl (take_ofW HT_.out HW_.out (by kernel_rfl)) (fun _ _ _ h => h) (Or.inl ⟨by rfl, ?_⟩) hHeld ?_ ?_
             rotate_left
             ·rintro w' ⟨s0, s1, s2, s3, s4⟩
              go_simp
              with_reducible rfl
             rotate_left
             ·simp only [Act.put, List.setIfInBounds_toArray, List.set_cons_zero, List.set_cons_succ, i64_w, i32_w]
              rfl
             refine one_ (i := 7) (N := some 48) Bo27_8 rfl rfl (one_of HT_.out (by kernel_rfl)) (by decide) (fun K hK => ?_)
             refine value_ (w1 := ?_) (v := ?_) (by rfl) rfl ?_ ?_
             rotate_left 2
             ·go_simp
              constructor
              ·rfl
              ·rfl
             refine hK.out _ _ ⟨(blk_cell (bA BK158.out _) 0).trans rfl, (blk_cell (bA BK158.out _) 1).trans rfl, (blk_cell (bA BK158.out _) 2).trans rfl, (World.cell?_alloc_lt _ _ _ (World.block_lt_of_cell? _ _ (((HB.out.cell (World.block_lt_of_cell? w _ hw163_0)).trans hw163_0)))).trans (((HB.out.cell (World.block_lt_of_cell? w _ hw163_0)).trans hw163_0)), (World.cell?_alloc_lt _ _ _ (World.block_lt_of_cell? _ _ (((HB.out.cell (World.block_lt_of_cell? w _ hw163_1)).trans hw163_1)))).trans (((HB.out.cell (World.block_lt_of_cell? w _ hw163_1)).trans hw163_1))⟩ (fun hHeld => ?_)
             clear hK K
             refine norm_ (a' := ?_) ?_ ?_
             rotate_left
             ·show Act.put _ (some 48) _ = _
              simp only [Act.put, List.setIfInBounds_toArray, List.set_cons_zero, List.set_cons_succ, i64_w, i32_w]
              rfl
             refine one_ (i := 8) (N := some 49) Bo27_9 rfl rfl (one_of HT_.out (by kernel_rfl)) (by decide) (fun K hK => ?_)
             refine Kd.R_append_step (Kd.int .i64) (w0 := w) w.heap.size (by rfl) (.tmp 42) (.tmp 48) 22 3 (.int .i64 0) 8 rfl Try.underlying22 info3 rfl (by decide) (by omega) u159001 x159001_2 ((rd_T36 l0 x9_2).f0) [.int .i64 ((rd_T36 l0 x9_2).f0)] (fun k_ => some k_ ≠ (.slice Ao21 y152.length co21 : Value).ownBlock ∧ some k_ ≠ (u163000 : Value).ownBlock ∧ some k_ ≠ (.slice Ao26 y159.length co26 : Value).ownBlock) (fun _ => False) rfl rfl ?aP (fun _ hk => hk.elim) ?aF ?aO ?aB ?aS ?aL ?_
             (case aP => exact rfl)
             (case aB => exact (by repeat (first | (with_reducible first | exact HB.out | apply cA | apply cN | apply cD | refine cS ?_ GE158.out | refine cS ?_ GE162.out) | exact HB.out)))
             (case aF => exact (fun k_ hk => ⟨Kd.fresh' (Kd.R_lt (by (with_reducible repeat (first | apply Kd.R_alloc | apply Kd.R_drewN | apply Kd.R_drew)); exact HO_159000.out)) k_ hk, Kd.fresh' (Kd.R_lt (by (with_reducible repeat (first | apply Kd.R_alloc | apply Kd.R_drewN | apply Kd.R_drew)); exact HO_163000.out)) k_ hk, Kd.fresh' (Kd.R_lt (by (with_reducible repeat (first | apply Kd.R_alloc | apply Kd.R_drewN | apply Kd.R_drew)); exact HO_163001.out)) k_ hk⟩))
             (case aO => exact (by (with_reducible repeat (first | apply Kd.R_alloc | apply Kd.R_drewN | apply Kd.R_drew)); exact HO_159001.out))
             (case aS => exact (below_size (by repeat (first | (with_reducible first | exact HB.out | apply cA | apply cN | apply cD | refine cS ?_ GE158.out | refine cS ?_ GE162.out) | exact HB.out))))
             (case aL => have := LMc32.out; omega)
             intro v165 w39 ho hb hg hat
             rw [← Ny164.out] at ho
             have n0_ := Aside0.mk (Kd.R_after (ok := (fun k_ => some k_ ≠ (u163000 : Value).ownBlock ∧ some k_ ≠ (.slice Ao26 y159.length co26 : Value).ownBlock)) (by (with_reducible repeat (first | apply Kd.R_alloc | apply Kd.R_drewN | apply Kd.R_drew)); exact Kd.R_mono HO_159000.out (fun _ hk => ⟨⟨hk.2.1, hk.2.2⟩, hk.1⟩)) hg hat)
             have n1_ := Aside0.mk (Kd.S_after (ok := (fun k_ => (some k_ ≠ (.slice Ao21 y152.length co21 : Value).ownBlock ∧ T0 k_) ∧ some k_ ≠ (u163000 : Value).ownBlock ∧ some k_ ≠ (.slice Ao26 y159.length co26 : Value).ownBlock ∧ some k_ ≠ (u163002 : Value).ownBlock)) (by (with_reducible repeat (first | apply Kd.S_alloc | apply Kd.S_drewN | apply Kd.S_drew)); exact Kd.S_mono HO_159002.out (fun _ hk => ⟨⟨hk.1, ⟨hk.2.2.1, ⟨hk.2.2.2.1, hk.2.2.2.2⟩⟩⟩, hk.2.1⟩)) hg hat)
             have n2_ := Aside0.mk (Kd.R_after (ok := (fun k_ => some k_ ≠ (.slice Ao21 y152.length co21 : Value).ownBlock ∧ some k_ ≠ (.slice Ao26 y159.length co26 : Value).ownBlock)) (by (with_reducible repeat (first | apply Kd.R_alloc | apply Kd.R_drewN | apply Kd.R_drew)); exact Kd.R_mono HO_163000.out (fun _ hk => ⟨⟨hk.1, hk.2.2⟩, hk.2.1⟩)) hg hat)
             have n3_ := Aside0.mk (Kd.R_after (ok := (fun k_ => some k_ ≠ (.slice Ao21 y152.length co21 : Value).ownBlock ∧ some k_ ≠ (u163000 : Value).ownBlock)) (by (with_reducible repeat (first | apply Kd.R_alloc | apply Kd.R_drewN | apply Kd.R_drew)); exact Kd.R_mono HO_163001.out (fun _ hk => ⟨⟨hk.1, hk.2.2⟩, hk.2.1⟩)) hg hat)
             have n4_ := Aside0.mk (Kd.S_after (ok := (fun k_ => (some k_ ≠ (.slice Ao21 y152.length co21 : Value).ownBlock ∧ ¬ T0 k_) ∧ some k_ ≠ (u159002 : Value).ownBlock ∧ some k_ ≠ (u163000 : Value).ownBlock ∧ some k_ ≠ (.slice Ao26 y159.length co26 : Value).ownBlock)) (by (with_reducible repeat (first | apply Kd.S_alloc | apply Kd.S_drewN | apply Kd.S_drew)); exact Kd.S_mono HO_163002.out (fun _ hk => ⟨⟨hk.1, ⟨hk.2.2.1, ⟨hk.2.2.2.1, hk.2.2.2.2⟩⟩⟩, hk.2.1⟩)) hg hat)
             have n5_ := Aside0.mk (blk_grown (Up.blk BK158.out) hg (Kd.R_ne HO_159001.out BK158.out (by decide)))
             have n6_ := Aside0.mk (blk_grown (Up.blk BK162.out) hg (Kd.R_ne HO_159001.out BK162.out (by decide)))
             have n7_ := Aside0.mk (hb)
             have n8_ := Aside0.mk (ho)
             clear HO_159000
             clear HO_159002
             clear HO_163000
             clear HO_163001
             clear HO_163002
             clear BK158
             clear BK162
             clear HB
             clear HO_159001
             have HO_159000 := n0_
             have HO_159002 := n1_
             have HO_163000 := n2_
             have HO_163001 := n3_
             have HO_163002 := n4_
             have BK158 := n5_
             have BK162 := n6_
             have HB := n7_
             have HO166 := n8_
             clear n0_ n1_ n2_ n3_ n4_ n5_ n6_ n7_ n8_
             clear ho hb hg hat
             obtain ⟨Ao40, co40, eo40⟩ := Kd.R_slice HO166.out
             (first | subst eo40 | (injection eo40 with f1_ f2_ f3_; have f4_ := f1_.symm; have f5_ := f3_.symm; clear f1_ f2_ f3_; subst f4_; subst f5_))
             refine hK.out _ _ ⟨(blk_cell BK158.out 0).trans rfl, (blk_cell BK158.out 1).trans rfl, (blk_cell BK158.out 2).trans rfl, ((HB.out.cell (World.block_lt_of_cell? w _ hw163_0)).trans hw163_0), ((HB.out.cell (World.block_lt_of_cell? w _ hw163_1)).trans hw163_1)⟩ (fun hHeld => ?_)
             clear hK K
             refine norm_ (a' := ?_) ?_ ?_
             rotate_left
             ·show Act.put _ (some 49) _ = _
              simp only [Act.put, List.setIfInBounds_toArray, List.set_cons_zero, List.set_cons_succ, i64_w, i32_w]
              rfl
             refine pure_ (i := 9) (N := some 50) (v := ?_) (a' := ?_) Bo27_10 rfl rfl (any_of HT_.out (by kernel_rfl)) (fun _ _ _ h => h) (Or.inl ⟨by rfl, ?_⟩) ?_ ?_
             rotate_left
             ·intro w'
              go_simp
              with_reducible rfl
             rotate_left
             ·simp only [Act.put, List.setIfInBounds_toArray, List.set_cons_zero, List.set_cons_succ, i64_w, i32_w]
              rfl
             refine last_ (i := 10) (N := none) Bo27_11 rfl rfl (one_of HT_.out (by kernel_rfl)) (by decide) (fun K hK => ?_)
             have hs41 : w39.cell? ⟨gb158, 1, none⟩ = some (u159001) := (blk_cell BK158.out 1).trans rfl
             have hfs41 := blk_frozen BK158.out 1
             have hns41_1 := NB162_158.out
             have hms41_1 := NB158_162.out
             refine skip_ (w1 := ?_) (by rfl) rfl ?_ ?_
             rotate_left
             ·go_simp
              rfl
             refine hK.out _ _ ?_
             clear hK K
             refine done_ (done_of HT_.out (by kernel_rfl)) ?_
             try go_wp2
             have n0_ : Aside0 (Kd.R (Kd.int .i64) 3 (w39.setCell ⟨gb158, 1, none⟩ (.slice Ao40 y164.length co40)) w.heap.size (fun k_ => some k_ ≠ (u163000 : Value).ownBlock ∧ some k_ ≠ (.slice Ao26 y159.length co26 : Value).ownBlock ∧ some k_ ≠ (.slice Ao40 y164.length co40 : Value).ownBlock) (.slice Ao21 y152.length co21) y152) := ⟨by (with_reducible repeat (first | apply Kd.R_alloc | apply Kd.R_drewN | apply Kd.R_drew)); exact Kd.R_mono (Kd.R_far (p := ⟨gb158, 1, none⟩) (Kd.R_types HO_159000.out BK158.out (by decide)) (fun _ hk => hk.2) (.slice Ao40 y164.length co40)) (fun _ hk => ⟨hk.1.1.1, ⟨hk.1.1.2, hk.1.2⟩⟩)⟩
             have n1_ : Aside0 (Kd.S (Kd.slice 3 (Kd.int .i64)) 22 (w39.setCell ⟨gb158, 1, none⟩ (.slice Ao40 y164.length co40)) w.heap.size (fun k_ => (some k_ ≠ (.slice Ao21 y152.length co21 : Value).ownBlock ∧ T0 k_) ∧ some k_ ≠ (u163000 : Value).ownBlock ∧ some k_ ≠ (.slice Ao26 y159.length co26 : Value).ownBlock ∧ some k_ ≠ (u163002 : Value).ownBlock ∧ some k_ ≠ (.slice Ao40 y164.length co40 : Value).ownBlock) u159002 x159002_2) := ⟨by (with_reducible repeat (first | apply Kd.S_alloc | apply Kd.S_drewN | apply Kd.S_drew)); exact Kd.S_mono (Kd.S_far (p := ⟨gb158, 1, none⟩) (Kd.S_types HO_159002.out BK158.out (by decide)) (fun _ hk => hk.2) (.slice Ao40 y164.length co40)) (fun _ hk => ⟨hk.1.1.1, ⟨hk.1.1.2.1, ⟨hk.1.1.2.2.1, ⟨hk.1.1.2.2.2, hk.1.2⟩⟩⟩⟩)⟩
             have n2_ : Aside0 (Kd.R (Kd.int .i64) 3 (w39.setCell ⟨gb158, 1, none⟩ (.slice Ao40 y164.length co40)) w.heap.size (fun k_ => some k_ ≠ (.slice Ao21 y152.length co21 : Value).ownBlock ∧ some k_ ≠ (.slice Ao26 y159.length co26 : Value).ownBlock ∧ some k_ ≠ (.slice Ao40 y164.length co40 : Value).ownBlock) u163000 x163000_2) := ⟨by (with_reducible repeat (first | apply Kd.R_alloc | apply Kd.R_drewN | apply Kd.R_drew)); exact Kd.R_mono (Kd.R_far (p := ⟨gb158, 1, none⟩) (Kd.R_types HO_163000.out BK158.out (by decide)) (fun _ hk => hk.2) (.slice Ao40 y164.length co40)) (fun _ hk => ⟨hk.1.1.1, ⟨hk.1.1.2, hk.1.2⟩⟩)⟩
             have n3_ : Aside0 (Kd.R (Kd.int .i64) 3 (w39.setCell ⟨gb158, 1, none⟩ (.slice Ao40 y164.length co40)) w.heap.size (fun k_ => some k_ ≠ (.slice Ao21 y152.length co21 : Value).ownBlock ∧ some k_ ≠ (u163000 : Value).ownBlock ∧ some k_ ≠ (.slice Ao40 y164.length co40 : Value).ownBlock) (.slice Ao26 y159.length co26) y159) := ⟨by (with_reducible repeat (first | apply Kd.R_alloc | apply Kd.R_drewN | apply Kd.R_drew)); exact Kd.R_mono (Kd.R_far (p := ⟨gb158, 1, none⟩) (Kd.R_types HO_163001.out BK158.out (by decide)) (fun _ hk => hk.2) (.slice Ao40 y164.length co40)) (fun _ hk => ⟨hk.1.1.1, ⟨hk.1.1.2, hk.1.2⟩⟩)⟩
             have n4_ : Aside0 (Kd.S (Kd.slice 3 (Kd.int .i64)) 22 (w39.setCell ⟨gb158, 1, none⟩ (.slice Ao40 y164.length co40)) w.heap.size (fun k_ => (some k_ ≠ (.slice Ao21 y152.length co21 : Value).ownBlock ∧ ¬ T0 k_) ∧ some k_ ≠ (u159002 : Value).ownBlock ∧ some k_ ≠ (u163000 : Value).ownBlock ∧ some k_ ≠ (.slice Ao26 y159.length co26 : Value).ownBlock ∧ some k_ ≠ (.slice Ao40 y164.length co40 : Value).ownBlock) u163002 x163002_2) := ⟨by (with_reducible repeat (first | apply Kd.S_alloc | apply Kd.S_drewN | apply Kd.S_drew)); exact Kd.S_mono (Kd.S_far (p := ⟨gb158, 1, none⟩) (Kd.S_types HO_163002.out BK158.out (by decide)) (fun _ hk => hk.2) (.slice Ao40 y164.length co40)) (fun _ hk => ⟨hk.1.1.1, ⟨hk.1.1.2.1, ⟨hk.1.1.2.2.1, ⟨hk.1.1.2.2.2, hk.1.2⟩⟩⟩⟩)⟩
             have n5_ : Aside0 (Kd.R (Kd.int .i64) 3 (w39.setCell ⟨gb158, 1, none⟩ (.slice Ao40 y164.length co40)) w.heap.size (fun k_ => some k_ ≠ (.slice Ao21 y152.length co21 : Value).ownBlock ∧ some k_ ≠ (u163000 : Value).ownBlock ∧ some k_ ≠ (.slice Ao26 y159.length co26 : Value).ownBlock) (.slice Ao40 y164.length co40) y164) := ⟨by (with_reducible repeat (first | apply Kd.R_alloc | apply Kd.R_drewN | apply Kd.R_drew)); exact Kd.R_mono (Kd.R_far (p := ⟨gb158, 1, none⟩) (Kd.R_types HO166.out BK158.out (by decide)) (fun _ hk => hk.2) (.slice Ao40 y164.length co40)) (fun _ hk => ⟨hk.1.1, ⟨hk.1.2.1, hk.1.2.2⟩⟩)⟩
             have n6_ : Aside0 ((w39.setCell ⟨gb158, 1, none⟩ (.slice Ao40 y164.length co40)).heap[gb158]? = some (.cells #[.slice Ao21 y152.length co21, .slice Ao40 y164.length co40, u159002] 25 (0, 0))) := ⟨by (with_reducible repeat (first | refine bN ?_ _ | refine bD ?_ | refine bA ?_ _)); refine blk_put (cs := #[.slice Ao21 y152.length co21, u159001, u159002]) ?_ 1 _ rfl; (with_reducible repeat (first | refine bN ?_ _ | refine bD ?_ | refine bA ?_ _)); exact BK158.out⟩
             have n7_ : Aside0 ((w39.setCell ⟨gb158, 1, none⟩ (.slice Ao40 y164.length co40)).heap[gb162]? = some (.cells #[u163000, .slice Ao26 y159.length co26, u163002] 25 (0, 0))) := ⟨by (with_reducible repeat (first | refine bN ?_ _ | refine bD ?_ | refine bA ?_ _)); refine bF ?_ NB162_158.out _; (with_reducible repeat (first | refine bN ?_ _ | refine bD ?_ | refine bA ?_ _)); exact BK162.out⟩
             have n8_ : Aside0 (Below w.heap.size w (w39.setCell ⟨gb158, 1, none⟩ (.slice Ao40 y164.length co40))) := ⟨by repeat (first | (with_reducible first | exact HB.out | apply cA | apply cN | apply cD | refine cS ?_ GE158.out | refine cS ?_ GE162.out) | exact HB.out)⟩
             (try clear HO_159000)
             (try clear HO_159002)
             (try clear HO_163000)
             (try clear HO_163001)
             (try clear HO_163002)
             (try clear HO166)
             (try clear BK158)
             (try clear BK162)
             (try clear HB)
             generalize (w39.setCell ⟨gb158, 1, none⟩ (.slice Ao40 y164.length co40)) = w42 at n0_ n1_ n2_ n3_ n4_ n5_ n6_ n7_ n8_ ⊢
             have HO_159000 := n0_
             have HO_159002 := n1_
             have HO_163000 := n2_
             have HO_163001 := n3_
             have HO_163002 := n4_
             have HO166 := n5_
             have BK158 := n6_
             have BK162 := n7_
             have HB := n8_
             clear n0_ n1_ n2_ n3_ n4_ n5_ n6_ n7_ n8_
             have n0_ := Aside0.mk (Kd.R_drew HO_159000.out)
             have n1_ := Aside0.mk (Kd.S_drew HO_159002.out)
             have n2_ := Aside0.mk (Kd.R_drew HO_163000.out)
             have n3_ := Aside0.mk (Kd.R_drew HO_163001.out)
             have n4_ := Aside0.mk (Kd.S_drew HO_163002.out)
             have n5_ := Aside0.mk (Kd.R_drew HO166.out)
             have n6_ := Aside0.mk (bD BK158.out)
             have n7_ := Aside0.mk (bD BK162.out)
             have n8_ := Aside0.mk (cD HB.out)
             clear HO_159000
             clear HO_159002
             clear HO_163000
             clear HO_163001
             clear HO_163002
             clear HO166
             clear BK158
             clear BK162
             clear HB
             have HO_159000 := n0_
             have HO_159002 := n1_
             have HO_163000 := n2_
             have HO_163001 := n3_
             have HO_163002 := n4_
             have HO166 := n5_
             have BK158 := n6_
             have BK162 := n7_
             have HB := n8_
             clear n0_ n1_ n2_ n3_ n4_ n5_ n6_ n7_ n8_
             obtain ⟨T1, hT1⟩ : ∃ T1 : Nat → Prop, ∀ k, T1 k ↔ (k < w42.drew.heap.size → T0 k) := ⟨_, fun _ => Iff.rfl⟩
             have HT1n := Aside0.mk (show ∀ k, w42.drew.heap.size ≤ k → T1 k from fun k hk => (hT1 k).2 (fun h => absurd h (Nat.not_lt.2 hk)))
             replace HO_159002 := Aside0.mk (Kd.S_mono HO_159002.out (ok' := fun k_ => (some k_ ≠ (.slice Ao21 y152.length co21 : Value).ownBlock ∧ T1 k_) ∧ some k_ ≠ (u163000 : Value).ownBlock ∧ some k_ ≠ (.slice Ao26 y159.length co26 : Value).ownBlock ∧ some k_ ≠ (u163002 : Value).ownBlock ∧ some k_ ≠ (.slice Ao40 y164.length co40 : Value).ownBlock) (fun k_ hk => ⟨⟨hk.1.1, (hT1 k_).2 (fun _ => hk.1.2)⟩, hk.2⟩))
             replace HO_163002 := Aside0.mk (Kd.S_mono (Kd.S_bound HO_163002.out) (ok' := fun k_ => (some k_ ≠ (.slice Ao21 y152.length co21 : Value).ownBlock ∧ ¬ T1 k_) ∧ some k_ ≠ (u159002 : Value).ownBlock ∧ some k_ ≠ (u163000 : Value).ownBlock ∧ some k_ ≠ (.slice Ao26 y159.length co26 : Value).ownBlock ∧ some k_ ≠ (.slice Ao40 y164.length co40 : Value).ownBlock) (fun k_ hk => ⟨⟨hk.1.1.1, fun h => hk.1.1.2 ((hT1 k_).1 h hk.2.2.1)⟩, hk.1.2⟩))
             clear hT1
             obtain ⟨Ao44, co44, eo44⟩ := Kd.S_slice HO_159002.out
             (first | subst eo44 | (injection eo44 with f1_ f2_ f3_; have f4_ := f1_.symm; have f5_ := f3_.symm; clear f1_ f2_ f3_; subst f4_; subst f5_))
             have p167 : 0 ≤ (0 : Int) := (by omega)
             have q167 : 0 < (x159002_2.length : Int) := of_decide_eq_true (by first | (with_reducible assumption) | assumption)
             obtain ⟨ad167, A167_0, c167_0, e167, hx167_0, hl167_0, hi167_0⟩ := at_L1 (Kd.S_reads' HO_159002.out).2.2 0 p167 q167
             cases e167
             obtain ⟨ce167, hce167, hMe167, hcc167⟩ := Kd.S_get HO_159002.out [] 0 p167 (by first | exact q167 | exact of_decide_eq_true (by first | (with_reducible assumption) | assumption) | (have e_ := (Kd.S_reads' HO_159002.out).1; omega))
             obtain ⟨ve167_0, rfl, ge167_0⟩ := hMe167
             have hv167_0 := hcc167 0 _ rfl
             rw [Nat.add_zero, show ((Kd.slice 3 (Kd.int .i64))).sz = 1 from rfl, Nat.mul_one] at hv167_0
             replace hv167_0 := Option.some.inj (hv167_0.symm.trans hx167_0)
             rw [hv167_0] at ge167_0
             have HL167_0 := Aside0.mk (show Kd.R (Kd.int .i64) 3 _ _ _ _ (rd_L1 x159002_2 0) from ge167_0)
             clear hv167_0 ge167_0
             have HX167_0 := Aside0.mk hx167_0
             clear hcc167 hce167
             have qi167 : (0 < x159002_2.length) = True := eq_true (by omega)
             (try rw [show ((0 : Int)).toNat = 0 from rfl] at hx167_0)
             (try rw [Addr.add_zero'] at hx167_0)
             have HR167_0 := Aside0.mk hi167_0
             have HC167_0 := Aside0.mk hl167_0
             clear hi167_0 hl167_0
             replace p167 := eq_true p167
             replace q167 := eq_true q167
             have p168 : 0 ≤ (x9_2 : Int) := of_decide_eq_true (by first | (with_reducible assumption) | assumption)
             have q168 : x9_2 < (l0.length : Int) := of_decide_eq_true (by first | (with_reducible assumption) | assumption)
             obtain ⟨ad168, e168, hx168_0, hx168_1⟩ := at_T36 HR0.out x9_2 p168 q168
             have hw168_1 := hx168_1
             have hw168_0 := hx168_0
             obtain rfl : ad163 = ad168 := (by injection e168)
             replace hx168_0 := (HB.out.cell (World.block_lt_of_cell? w _ hx168_0)).trans hx168_0
             replace hx168_1 := (HB.out.cell (World.block_lt_of_cell? w _ hx168_1)).trans hx168_1
             replace p168 := eq_true p168
             replace q168 := eq_true q168
             obtain ⟨go45, co45, eo45, gb45, gl45, cl45, HG45⟩ := Kd.S_form HO_159002.out (by have h_ : (0 : Int) < ((x159002_2.length : Int) : Int) := of_decide_eq_true (by first | (with_reducible assumption) | assumption); have h2_ : 0 ≤ (0 : Int) := (by omega); omega)
             (first | cases eo45 | (injection eo45 with ea_ en_ ec_; (first | subst ea_ | (injection ea_ with ea_; subst ea_)); subst ec_; clear en_))
             have GB45 := Aside0.mk gb45
             have GG45 := Aside0.mk HG45
             clear gb45 gl45 HG45
             (first | simp only [add_plain] at hx167_0 | skip)
             obtain ⟨oki45, ce45, hcl45, hM45, hcc45, _, _, hH45⟩ := Kd.S_elem HO_159002.out [] (0 : Int) (by omega) (by have h_ : (0 : Int) < ((x159002_2.length : Int) : Int) := of_decide_eq_true (by first | (with_reducible assumption) | assumption); first | exact h_ | (have e_ := (Kd.S_reads' HO_159002.out).1; omega) | simpa using h_)
             obtain ⟨ve45_0, rfl, ge45_0⟩ := hM45
             have hv45 := hcc45 0 _ rfl
             have hX45 := HX167_0.out
             (try simp only [add_plain] at hX45)
             (try simp only [Nat.add_zero] at hv45)
             (try rw [show ((Kd.slice 3 (Kd.int .i64))).sz = 1 from rfl, Nat.mul_one] at hv45)
             replace hv45 := Option.some.inj (hv45.symm.trans hX45)
             subst hv45
             clear hX45 hcc45 hcl45
             have UU45 := Aside0.mk (show Kd.R (Kd.int .i64) 3 _ w.heap.size oki45 (.slice A167_0 (rd_L1 x159002_2 0).length c167_0) (rd_L1 x159002_2 0) from ge45_0)
             have HH45 := Aside0.mk hH45
             have HN45 := Aside0.mk (Kd.S_reads' HO_159002.out).1
             clear hH45 ge45_0
             refine start_ (n := 15) (S := fun w' => w'.cell? ⟨gb158, 0, none⟩ = some (.slice Ao21 y152.length co21) ∧ w'.cell? ⟨gb158, 1, none⟩ = some (.slice Ao40 y164.length co40) ∧ w'.cell? ⟨gb158, 2, none⟩ = some (.slice (some ⟨go45, 0, none⟩) x159002_2.length co44) ∧ w'.cell? ⟨go45, 0, none⟩ = some (.slice A167_0 (rd_L1 x159002_2 0).length c167_0) ∧ w'.cell? (ad163.add ((x9_2).toNat * 2)) = some (.int .i64 ((rd_T36 l0 x9_2).f0)) ∧ w'.cell? ⟨(ad163.add ((x9_2).toNat * 2)).block, (ad163.add ((x9_2).toNat * 2)).off + 1, none⟩ = some (.int .i64 ((rd_T36 l0 x9_2).f1))) (ds := [14]) Bo27_12 (by kernel_rfl) rfl rfl ⟨(blk_cell BK158.out 0).trans rfl, (blk_cell BK158.out 1).trans rfl, (blk_cell BK158.out 2).trans rfl, hx167_0, ((HB.out.cell (World.block_lt_of_cell? w _ hw168_0)).trans hw168_0), ((HB.out.cell (World.block_lt_of_cell? w _ hw168_1)).trans hw168_1)⟩ (fun hHeld => ?_); refine with_tabW sawmilllaw08_CurveRow.tab9 sawmilllaw08_CurveRow.bits9 (fun HT_ HW_ => ?_)
             generalize w42.drew = w43 at HO_159000 HO_159002 HO_163000 HO_163001 HO_163002 HO166 BK158 BK162 HB GG45 HH45 HL167_0 HR167_0 HX167_0 UU45 hx167_0 hx168_0 hx168_1 HT1n hHeld ⊢
             refine pure_ (i := 0) (N := some 51) (v := ?_) (a' := ?_) Bo27_13 rfl rfl (any_of HT_.out (by kernel_rfl)) (fun _ _ _ h => h) (Or.inl ⟨by rfl, ?_⟩) ?_ ?_
             rotate_left
             ·intro w'
              go_simp
              with_reducible rfl
             rotate_left
             ·simp only [Act.put, List.setIfInBounds_toArray, List.set_cons_zero, List.set_cons_succ, i64_w, i32_w]
              rfl
             refine pure_ (i := 2) (N := some 53) (v := ?_) (a' := ?_) Bo27_14 rfl rfl (any_of HT_.out (by kernel_rfl)) (fun _ _ _ h => h) (Or.inl ⟨by rfl, ?_⟩) ?_ ?_
             rotate_left
             ·intro w'
              go_simp
              with_reducible rfl
             rotate_left
             ·simp only [Act.put, List.setIfInBounds_toArray, List.set_cons_zero, List.set_cons_succ, i64_w, i32_w]
              rfl
             refine pure_ (i := 6) (N := some 57) (v := ?_) (a' := ?_) Bo27_15 rfl rfl (any_of HT_.out (by kernel_rfl)) (fun _ _ _ h => h) (Or.inl ⟨by rfl, ?_⟩) ?_ ?_
             rotate_left
             ·intro w'
              go_simp
              with_reducible rfl
             rotate_left
             ·simp only [Act.put, List.setIfInBounds_toArray, List.set_cons_zero, List.set_cons_succ, i64_w, i32_w]
              rfl
             refine pure_ (i := 7) (N := some 58) (v := ?_) (a' := ?_) Bo27_16 rfl rfl (any_of HT_.out (by kernel_rfl)) (fun _ _ _ h => h) (Or.inl ⟨by rfl, ?_⟩) ?_ ?_
             rotate_left
             ·intro w'
              go_simp
              with_reducible rfl
             rotate_left
             ·simp only [Act.put, List.setIfInBounds_toArray, List.set_cons_zero, List.set_cons_succ, i64_w, i32_w]
              rfl
             refine pure_ (i := 8) (N := some 59) (v := ?_) (a' := ?_) Bo27_17 rfl rfl (any_of HT_.out (by kernel_rfl)) (fun _ _ _ h => h) (Or.inl ⟨by rfl, ?_⟩) ?_ ?_
             rotate_left
             ·intro w'
              go_simp
              with_reducible rfl
             rotate_left
             ·simp only [Act.put, List.setIfInBounds_toArray, List.set_cons_zero, List.set_cons_succ, i64_w, i32_w]
              rfl
             refine pure_ (i := 9) (N := some 60) (v := ?_) (a' := ?_) Bo27_18 rfl rfl (any_of HT_.out (by kernel_rfl)) (fun _ _ _ h => h) (Or.inl ⟨by rfl, ?_⟩) ?_ ?_
             rotate_left
             ·intro w'
              go_simp
              with_reducible rfl
             rotate_left
             ·simp only [Act.put, List.setIfInBounds_toArray, List.set_cons_zero, List.set_cons_succ, i64_w, i32_w]
              rfl
             refine take_ (i := 1) (N := some 52) (v := ?_) (a' := ?_) Bo27_19 rfl rfl (take_ofW HT_.out HW_.out (by kernel_rfl)) (fun _ _ _ h => h) (Or.inl ⟨by rfl, ?_⟩) hHeld ?_ ?_
             rotate_left
             ·rintro w' ⟨s0, s1, s2, s3, s4, s5⟩
              go_simp
              with_reducible rfl
             rotate_left
             ·simp only [Act.put, List.setIfInBounds_toArray, List.set_cons_zero, List.set_cons_succ, i64_w, i32_w]
              rfl
             refine take_ (i := 3) (N := some 54) (v := ?_) (a' := ?_) Bo27_20 rfl rfl (take_ofW HT_.out HW_.out (by kernel_rfl)) (fun _ _ _ h => h) (Or.inl ⟨by rfl, ?_⟩) hHeld ?_ ?_
             rotate_left
             ·rintro w' ⟨s0, s1, s2, s3, s4, s5⟩
              go_simp
              with_reducible rfl
             rotate_left
             ·simp only [Act.put, List.setIfInBounds_toArray, List.set_cons_zero, List.set_cons_succ, i64_w, i32_w]
              rfl
             refine pure_ (i := 4) (N := some 55) (v := ?_) (a' := ?_) Bo27_21 rfl rfl (any_of HT_.out (by kernel_rfl)) (fun _ _ _ h => h) (Or.inl ⟨by rfl, ?_⟩) ?_ ?_
             rotate_left
             ·intro w'
              go_simp
              with_reducible rfl
             rotate_left
             ·simp only [Act.put, List.setIfInBounds_toArray, List.set_cons_zero, List.set_cons_succ, i64_w, i32_w]
              rfl
             refine take_ (i := 5) (N := some 56) (v := ?_) (a' := ?_) Bo27_22 rfl rfl (take_ofW HT_.out HW_.out (by kernel_rfl)) (fun _ _ _ h => h) (Or.inl ⟨by rfl, ?_⟩) hHeld ?_ ?_
             rotate_left
             ·rintro w' ⟨s0, s1, s2, s3, s4, s5⟩
              go_simp
              with_reducible rfl
             rotate_left
             ·simp only [Act.put, List.setIfInBounds_toArray, List.set_cons_zero, List.set_cons_succ, i64_w, i32_w]
              rfl
             refine take_ (i := 10) (N := some 61) (v := ?_) (a' := ?_) Bo27_23 rfl rfl (take_ofW HT_.out HW_.out (by kernel_rfl)) (fun _ _ _ h => h) (Or.inl ⟨by rfl, ?_⟩) hHeld ?_ ?_
             rotate_left
             ·rintro w' ⟨s0, s1, s2, s3, s4, s5⟩
              go_simp
              with_reducible rfl
             rotate_left
             ·simp only [Act.put, List.setIfInBounds_toArray, List.set_cons_zero, List.set_cons_succ, i64_w, i32_w]
              rfl
             refine one_ (i := 11) (N := some 62) Bo27_24 rfl rfl (one_of HT_.out (by kernel_rfl)) (by decide) (fun K hK => ?_)
             refine value_ (w1 := ?_) (v := ?_) (by rfl) rfl ?_ ?_
             rotate_left 2
             ·go_simp
              constructor
              ·rfl
              ·rfl
             refine hK.out _ _ ⟨(blk_cell (bA BK158.out _) 0).trans rfl, (blk_cell (bA BK158.out _) 1).trans rfl, (blk_cell (bA BK158.out _) 2).trans rfl, (World.cell?_alloc_lt _ _ _ (World.block_lt_of_cell? _ _ (hHeld.2.2.2.1))).trans (hHeld.2.2.2.1), (World.cell?_alloc_lt _ _ _ (World.block_lt_of_cell? _ _ (((HB.out.cell (World.block_lt_of_cell? w _ hw168_0)).trans hw168_0)))).trans (((HB.out.cell (World.block_lt_of_cell? w _ hw168_0)).trans hw168_0)), (World.cell?_alloc_lt _ _ _ (World.block_lt_of_cell? _ _ (((HB.out.cell (World.block_lt_of_cell? w _ hw168_1)).trans hw168_1)))).trans (((HB.out.cell (World.block_lt_of_cell? w _ hw168_1)).trans hw168_1))⟩ (fun hHeld => ?_)
             clear hK K
             refine norm_ (a' := ?_) ?_ ?_
             rotate_left
             ·show Act.put _ (some 62) _ = _
              simp only [Act.put, List.setIfInBounds_toArray, List.set_cons_zero, List.set_cons_succ, i64_w, i32_w]
              rfl
             refine one_ (i := 12) (N := some 63) Bo27_25 rfl rfl (one_of HT_.out (by kernel_rfl)) (by decide) (fun K hK => ?_)
             refine Kd.R_append_step (Kd.int .i64) (w0 := w) w.heap.size (by rfl) (.tmp 56) (.tmp 62) 22 3 (.int .i64 0) 8 rfl Try.underlying22 info3 rfl (by decide) (by omega) (.slice A167_0 (rd_L1 x159002_2 0).length c167_0) (rd_L1 x159002_2 0) ((rd_T36 l0 x9_2).f1) [.int .i64 ((rd_T36 l0 x9_2).f1)] (fun k_ => oki45 k_ ∨ ((fun k_ => (some k_ ≠ (.slice Ao21 y152.length co21 : Value).ownBlock ∧ T1 k_) ∧ some k_ ≠ (u163000 : Value).ownBlock ∧ some k_ ≠ (.slice Ao26 y159.length co26 : Value).ownBlock ∧ some k_ ≠ (u163002 : Value).ownBlock ∧ some k_ ≠ (.slice Ao40 y164.length co40 : Value).ownBlock)) k_ ∧ w43.heap.size ≤ k_) (fun _ => False) rfl rfl ?aP (fun _ hk => hk.elim) ?aF ?aO ?aB ?aS ?aL ?_
             (case aP => exact rfl)
             (case aB => exact (by repeat (first | (with_reducible first | exact HB.out | apply cA | apply cN | apply cD | refine cS ?_ GE158.out | refine cS ?_ GE162.out) | exact HB.out)))
             (case aF => exact (fun k_ hk => .inr ⟨⟨⟨Kd.fresh' (Kd.R_lt (by (with_reducible repeat (first | apply Kd.R_alloc | apply Kd.R_drewN | apply Kd.R_drew)); exact HO_159000.out)) k_ hk, HT1n.out k_ (by first | exact hk | (have h_ := hk; simp only [World.size_alloc] at h_; omega))⟩, Kd.fresh' (Kd.R_lt (by (with_reducible repeat (first | apply Kd.R_alloc | apply Kd.R_drewN | apply Kd.R_drew)); exact HO_163000.out)) k_ hk, Kd.fresh' (Kd.R_lt (by (with_reducible repeat (first | apply Kd.R_alloc | apply Kd.R_drewN | apply Kd.R_drew)); exact HO_163001.out)) k_ hk, Kd.fresh' (Kd.S_lt (by (with_reducible repeat (first | apply Kd.S_alloc | apply Kd.S_drewN | apply Kd.S_drew)); exact HO_163002.out)) k_ hk, Kd.fresh' (Kd.R_lt (by (with_reducible repeat (first | apply Kd.R_alloc | apply Kd.R_drewN | apply Kd.R_drew)); exact HO166.out)) k_ hk⟩, hk⟩))
             (case aO => exact (by (with_reducible repeat (first | apply Kd.R_alloc | apply Kd.R_drewN | apply Kd.R_drew)); exact Kd.R_mono UU45.out (fun _ hk => .inl hk)))
             (case aS => exact (below_size (by repeat (first | (with_reducible first | exact HB.out | apply cA | apply cN | apply cD | refine cS ?_ GE158.out | refine cS ?_ GE162.out) | exact HB.out))))
             (case aL => have := LMc34.out; omega)
             intro v170 w46 ho hb hg hat
             (first | have HS3_ := cell_grown hg (hHeld.2.2.2.1) (by first | (rw [add_block]; exact (fun e_ => ((HL167_0.out.1 _ e_.symm).2) rfl)) | (show some (Addr.add _ _).block ≠ _; rw [add_block]; exact (fun e_ => ((HL167_0.out.1 _ e_.symm).2) rfl)) | exact (fun e_ => ((HL167_0.out.1 _ e_.symm).2) rfl)) | have HS3_ := cell_grown hg (cell_unalloc (hHeld.2.2.2.1) (by first | (rw [add_block]; exact Kd.S_lt HO_159002.out _ rfl) | (show (Addr.add _ _).block < _; rw [add_block]; exact Kd.S_lt HO_159002.out _ rfl) | exact Kd.S_lt HO_159002.out _ rfl)) (by first | (rw [add_block]; exact (fun e_ => ((HL167_0.out.1 _ e_.symm).2) rfl)) | (show some (Addr.add _ _).block ≠ _; rw [add_block]; exact (fun e_ => ((HL167_0.out.1 _ e_.symm).2) rfl)) | exact (fun e_ => ((HL167_0.out.1 _ e_.symm).2) rfl)))
             rw [← Ny169.out] at ho
             have n0_ := Aside0.mk (Kd.R_grown2 (by (with_reducible repeat (first | apply Kd.R_alloc | apply Kd.R_drewN | apply Kd.R_drew)); exact HO_159000.out) rfl hg (fun k_ e_ => (HL167_0.out.1 k_ e_).1.1.1))
             have n1_ := Aside0.mk (Kd.R_grown2 (by (with_reducible repeat (first | apply Kd.R_alloc | apply Kd.R_drewN | apply Kd.R_drew)); exact HO_163000.out) rfl hg (fun k_ e_ => (HL167_0.out.1 k_ e_).1.2.1))
             have n2_ := Aside0.mk (Kd.R_grown2 (by (with_reducible repeat (first | apply Kd.R_alloc | apply Kd.R_drewN | apply Kd.R_drew)); exact HO_163001.out) rfl hg (fun k_ e_ => (HL167_0.out.1 k_ e_).1.2.2.1))
             have n3_ := Aside0.mk (Kd.S_grown (ok := fun k_ => (some k_ ≠ (.slice Ao21 y152.length co21 : Value).ownBlock ∧ ¬ T1 k_) ∧ some k_ ≠ (.slice (some ⟨go45, 0, none⟩) x159002_2.length co44 : Value).ownBlock ∧ some k_ ≠ (u163000 : Value).ownBlock ∧ some k_ ≠ (.slice Ao26 y159.length co26 : Value).ownBlock ∧ some k_ ≠ (.slice Ao40 y164.length co40 : Value).ownBlock) (by (with_reducible repeat (first | apply Kd.S_alloc | apply Kd.S_drewN | apply Kd.S_drew)); exact HO_163002.out) hg (fun k_ hk e_ => hk.1.2 (HL167_0.out.1 k_ e_.symm).1.1.2))
             have n4_ := Aside0.mk (blk_grown (Up.blk BK158.out) hg (Kd.R_ne HL167_0.out BK158.out (by decide)))
             have n5_ := Aside0.mk (blk_grown (Up.blk BK162.out) hg (Kd.R_ne HL167_0.out BK162.out (by decide)))
             have n6_ := Aside0.mk (Kd.R_grown2 (by (with_reducible repeat (first | apply Kd.R_alloc | apply Kd.R_drewN | apply Kd.R_drew)); exact HO166.out) rfl hg (fun k_ e_ => (HL167_0.out.1 k_ e_).1.2.2.2.2))
             have n7_ := Aside0.mk (hb)
             have n8_ := Aside0.mk (Kd.H_grown (Kd.H_widen (by repeat (first | exact HH45.out | refine Kd.H_alloc ?_ _ | refine Kd.H_drewN ?_ _ | refine Kd.H_drew ?_))) hg (fun k_ e_ => .inl (UU45.out.1 k_ e_)))
             have n9_ := Aside0.mk (ho)
             clear HO_159000
             clear HO_163000
             clear HO_163001
             clear HO_163002
             clear BK158
             clear BK162
             clear HO166
             clear HB
             clear HH45
             clear HO_159002
             clear UU45
             clear HL167_0
             have HO_159000 := n0_
             have HO_163000 := n1_
             have HO_163001 := n2_
             have HO_163002 := n3_
             have BK158 := n4_
             have BK162 := n5_
             have HO166 := n6_
             have HB := n7_
             have HH45 := n8_
             have HO171 := n9_
             clear n0_ n1_ n2_ n3_ n4_ n5_ n6_ n7_ n8_ n9_
             clear ho hb hg hat
             have p35 : 0 ≤ (0 : Int) := (by omega)
             have q35 : (0 : Int) < ((x159002_2.length : Int) : Int) := of_decide_eq_true (by first | (with_reducible assumption) | assumption)
             replace p35 := eq_true p35
             replace q35 := eq_true q35
             obtain ⟨Ao49, co49, eo49⟩ := Kd.R_slice HO171.out
             (first | subst eo49 | (injection eo49 with f1_ f2_ f3_; have f4_ := f1_.symm; have f5_ := f3_.symm; clear f1_ f2_ f3_; subst f4_; subst f5_))
             obtain ⟨_, _, hraw47, _, _, hcc47, _⟩ := Kd.H_raw HH45.out (by omega) (by have h_ : (0 : Int) < ((x159002_2.length : Int) : Int) := of_decide_eq_true (by first | (with_reducible assumption) | assumption); first | exact h_ | (have e_ := (HN45.out); omega) | simpa using h_)
             obtain ⟨_, hfr47⟩ := Kd.H_at HH45.out (by omega) (by have h_ : (0 : Int) < ((x159002_2.length : Int) : Int) := of_decide_eq_true (by first | (with_reducible assumption) | assumption); first | exact h_ | (have e_ := (HN45.out); omega) | simpa using h_)
             have hx47_0 := hcc47 0 _ rfl
             have hf47_0 := hfr47 0
             (try simp only [Nat.add_zero] at hx47_0 hf47_0)
             (try rw [show ((Kd.slice 3 (Kd.int .i64))).sz = 1 from rfl, Nat.mul_one] at hx47_0)
             (try rw [show ((Kd.slice 3 (Kd.int .i64))).sz = 1 from rfl, Nat.mul_one] at hf47_0)
             (try rw [show ((0 : Int)).toNat = 0 from rfl] at hx47_0)
             (try simp only [Nat.reduceMul, Nat.zero_mul, Nat.zero_add, Nat.reduceAdd] at hx47_0)
             (try rw [show ((0 : Int)).toNat = 0 from rfl] at hf47_0)
             (try simp only [Nat.reduceMul, Nat.zero_mul, Nat.zero_add, Nat.reduceAdd] at hf47_0)
             have HP47 := Kd.S_seg0 HH45.out (by omega) (by have h_ : (0 : Int) < ((x159002_2.length : Int) : Int) := of_decide_eq_true (by first | (with_reducible assumption) | assumption); first | exact h_ | (have e_ := (HN45.out); omega) | simpa using h_) (seg := [.slice Ao49 y169.length co49]) (j := 0) (show 1 ≤ 1 from by decide) (x' := y169) (Kd.M_row HO171.out) (fun _ hk => hk)
             (try simp only [show ((Kd.slice 3 (Kd.int .i64))).sz = 1 from rfl, Nat.mul_one, Nat.add_zero] at HP47)
             clear hcc47 hfr47
             have HNB158_go45 := Aside0.mk (show gb158 ≠ go45 from by have h_ := Kd.R_ne hraw47 BK158.out (by decide); intro e_; exact h_ (by rw [e_]; rfl))
             have HNB162_go45 := Aside0.mk (show gb162 ≠ go45 from by have h_ := Kd.R_ne hraw47 BK162.out (by decide); intro e_; exact h_ (by rw [e_]; rfl))
             have HS47 := HP47.1
             rw [← Ny172.out] at HS47
             have HQ47 := Aside0.mk HS47
             obtain ⟨_, hgg47⟩ := Kd.R_typed hraw47 go45 rfl
             have GG47_ := Aside0.mk hgg47
             clear HP47 HS47 hgg47
             refine hK.out _ _ ⟨(blk_cell BK158.out 0).trans rfl, (blk_cell BK158.out 1).trans rfl, (blk_cell BK158.out 2).trans rfl, HS3_, ((HB.out.cell (World.block_lt_of_cell? w _ hw168_0)).trans hw168_0), ((HB.out.cell (World.block_lt_of_cell? w _ hw168_1)).trans hw168_1)⟩ (fun hHeld => ?_)
             clear hK K
             refine norm_ (a' := ?_) ?_ ?_
             rotate_left
             ·show Act.put _ (some 63) _ = _
              simp only [Act.put, List.setIfInBounds_toArray, List.set_cons_zero, List.set_cons_succ, i64_w, i32_w]
              rfl
             refine pure_ (i := 13) (N := some 64) (v := ?_) (a' := ?_) Bo27_26 rfl rfl (any_of HT_.out (by kernel_rfl)) (fun _ _ _ h => h) (Or.inl ⟨by rfl, ?_⟩) ?_ ?_
             rotate_left
             ·intro w'
              go_simp
              with_reducible rfl
             rotate_left
             ·simp only [Act.put, List.setIfInBounds_toArray, List.set_cons_zero, List.set_cons_succ, i64_w, i32_w]
              rfl
             refine last_ (i := 14) (N := none) Bo27_27 rfl rfl (one_of HT_.out (by kernel_rfl)) (by decide) (fun K hK => ?_)
             refine skip_ (w1 := ?_) (by rfl) rfl ?_ ?_
             rotate_left
             ·go_simp
              rfl
             refine hK.out _ _ ?_
             clear hK K
             refine done_ (done_of HT_.out (by kernel_rfl)) ?_
             have n0_ : Aside0 (Kd.R (Kd.int .i64) 3 (w46.setCell ⟨go45, 0, none⟩ (.slice Ao49 y169.length co49)) w.heap.size (fun k_ => some k_ ≠ (u163000 : Value).ownBlock ∧ some k_ ≠ (.slice Ao26 y159.length co26 : Value).ownBlock ∧ some k_ ≠ (.slice Ao40 y164.length co40 : Value).ownBlock) (.slice Ao21 y152.length co21) y152) := ⟨by (with_reducible repeat (first | apply Kd.R_alloc | apply Kd.R_drewN | apply Kd.R_drew)); exact Kd.R_mono (Kd.R_far (p := ⟨go45, 0, none⟩) (Kd.R_types HO_159000.out GG47_.out (by decide)) (fun _ hk => hk.2) (.slice Ao49 y169.length co49)) (fun _ hk => ⟨hk.1.1, ⟨hk.1.2.1, hk.1.2.2⟩⟩)⟩
             have n1_ : Aside0 (Kd.R (Kd.int .i64) 3 (w46.setCell ⟨go45, 0, none⟩ (.slice Ao49 y169.length co49)) w.heap.size (fun k_ => some k_ ≠ (.slice Ao21 y152.length co21 : Value).ownBlock ∧ some k_ ≠ (.slice Ao26 y159.length co26 : Value).ownBlock ∧ some k_ ≠ (.slice Ao40 y164.length co40 : Value).ownBlock) u163000 x163000_2) := ⟨by (with_reducible repeat (first | apply Kd.R_alloc | apply Kd.R_drewN | apply Kd.R_drew)); exact Kd.R_mono (Kd.R_far (p := ⟨go45, 0, none⟩) (Kd.R_types HO_163000.out GG47_.out (by decide)) (fun _ hk => hk.2) (.slice Ao49 y169.length co49)) (fun _ hk => ⟨hk.1.1, ⟨hk.1.2.1, hk.1.2.2⟩⟩)⟩
             have n2_ : Aside0 (Kd.R (Kd.int .i64) 3 (w46.setCell ⟨go45, 0, none⟩ (.slice Ao49 y169.length co49)) w.heap.size (fun k_ => some k_ ≠ (.slice Ao21 y152.length co21 : Value).ownBlock ∧ some k_ ≠ (u163000 : Value).ownBlock ∧ some k_ ≠ (.slice Ao40 y164.length co40 : Value).ownBlock) (.slice Ao26 y159.length co26) y159) := ⟨by (with_reducible repeat (first | apply Kd.R_alloc | apply Kd.R_drewN | apply Kd.R_drew)); exact Kd.R_mono (Kd.R_far (p := ⟨go45, 0, none⟩) (Kd.R_types HO_163001.out GG47_.out (by decide)) (fun _ hk => hk.2) (.slice Ao49 y169.length co49)) (fun _ hk => ⟨hk.1.1, ⟨hk.1.2.1, hk.1.2.2⟩⟩)⟩
             have n3_ : Aside0 (Kd.S (Kd.slice 3 (Kd.int .i64)) 22 (w46.setCell ⟨go45, 0, none⟩ (.slice Ao49 y169.length co49)) w.heap.size (fun k_ => (some k_ ≠ (.slice Ao21 y152.length co21 : Value).ownBlock ∧ ¬ T1 k_) ∧ some k_ ≠ (u163000 : Value).ownBlock ∧ some k_ ≠ (.slice Ao26 y159.length co26 : Value).ownBlock ∧ some k_ ≠ (.slice Ao40 y164.length co40 : Value).ownBlock ∧ some k_ ≠ (.slice (some ⟨go45, 0, none⟩) x159002_2.length co44 : Value).ownBlock) u163002 x163002_2) := ⟨by (with_reducible repeat (first | apply Kd.S_alloc | apply Kd.S_drewN | apply Kd.S_drew)); exact Kd.S_mono (Kd.S_far (p := ⟨go45, 0, none⟩) (Kd.S_mono HO_163002.out (fun k_ hk => (⟨hk, fun e_ => hk.2.1 (by rw [e_]; rfl)⟩ : _ ∧ k_ ≠ go45))) (fun _ hk => hk.2) (.slice Ao49 y169.length co49)) (fun _ hk => ⟨hk.1.1, ⟨hk.1.2.2.1, ⟨hk.1.2.2.2.1, ⟨hk.1.2.2.2.2, hk.1.2.1⟩⟩⟩⟩)⟩
             have n4_ : Aside0 (Kd.R (Kd.int .i64) 3 (w46.setCell ⟨go45, 0, none⟩ (.slice Ao49 y169.length co49)) w.heap.size (fun k_ => some k_ ≠ (.slice Ao21 y152.length co21 : Value).ownBlock ∧ some k_ ≠ (u163000 : Value).ownBlock ∧ some k_ ≠ (.slice Ao26 y159.length co26 : Value).ownBlock) (.slice Ao40 y164.length co40) y164) := ⟨by (with_reducible repeat (first | apply Kd.R_alloc | apply Kd.R_drewN | apply Kd.R_drew)); exact Kd.R_mono (Kd.R_far (p := ⟨go45, 0, none⟩) (Kd.R_types HO166.out GG47_.out (by decide)) (fun _ hk => hk.2) (.slice Ao49 y169.length co49)) (fun _ hk => ⟨hk.1.1, ⟨hk.1.2.1, hk.1.2.2⟩⟩)⟩
             have n5_ : Aside0 (Kd.S (Kd.slice 3 (Kd.int .i64)) 22 (w46.setCell ⟨go45, 0, none⟩ (.slice Ao49 y169.length co49)) w.heap.size (fun k_ => (some k_ ≠ (.slice Ao21 y152.length co21 : Value).ownBlock ∧ T1 k_) ∧ some k_ ≠ (u163000 : Value).ownBlock ∧ some k_ ≠ (.slice Ao26 y159.length co26 : Value).ownBlock ∧ some k_ ≠ (u163002 : Value).ownBlock ∧ some k_ ≠ (.slice Ao40 y164.length co40 : Value).ownBlock) (.slice (some ⟨go45, 0, none⟩) x159002_2.length co44) y172) := ⟨by (with_reducible repeat (first | apply Kd.S_alloc | apply Kd.S_drewN | apply Kd.S_drew)); exact HQ47.out⟩
             have n6_ : Aside0 ((w46.setCell ⟨go45, 0, none⟩ (.slice Ao49 y169.length co49)).heap[gb158]? = some (.cells #[.slice Ao21 y152.length co21, .slice Ao40 y164.length co40, .slice (some ⟨go45, 0, none⟩) x159002_2.length co44] 25 (0, 0))) := ⟨by (with_reducible repeat (first | refine bN ?_ _ | refine bD ?_ | refine bA ?_ _)); refine bF ?_ HNB158_go45.out _; (with_reducible repeat (first | refine bN ?_ _ | refine bD ?_ | refine bA ?_ _)); exact BK158.out⟩
             have n7_ : Aside0 ((w46.setCell ⟨go45, 0, none⟩ (.slice Ao49 y169.length co49)).heap[gb162]? = some (.cells #[u163000, .slice Ao26 y159.length co26, u163002] 25 (0, 0))) := ⟨by (with_reducible repeat (first | refine bN ?_ _ | refine bD ?_ | refine bA ?_ _)); refine bF ?_ HNB162_go45.out _; (with_reducible repeat (first | refine bN ?_ _ | refine bD ?_ | refine bA ?_ _)); exact BK162.out⟩
             have n8_ : Aside0 (Below w.heap.size w (w46.setCell ⟨go45, 0, none⟩ (.slice Ao49 y169.length co49))) := ⟨by repeat (first | (with_reducible first | exact HB.out | apply cA | apply cN | apply cD | refine cS ?_ GB45.out | refine cS ?_ GE158.out | refine cS ?_ GE162.out) | exact HB.out)⟩
             (try clear HO_159000)
             (try clear HO_163000)
             (try clear HO_163001)
             (try clear HO_163002)
             (try clear HO166)
             (try clear HO_159002)
             (try clear BK158)
             (try clear BK162)
             (try clear HB)
             generalize (w46.setCell ⟨go45, 0, none⟩ (.slice Ao49 y169.length co49)) = w50 at n0_ n1_ n2_ n3_ n4_ n5_ n6_ n7_ n8_ ⊢
             have HO_159000 := n0_
             have HO_163000 := n1_
             have HO_163001 := n2_
             have HO_163002 := n3_
             have HO166 := n4_
             have HO_159002 := n5_
             have BK158 := n6_
             have BK162 := n7_
             have HB := n8_
             clear n0_ n1_ n2_ n3_ n4_ n5_ n6_ n7_ n8_
             try go_wp2
             have n0_ := Aside0.mk (Kd.R_drew HO_159000.out)
             have n1_ := Aside0.mk (Kd.R_drew HO_163000.out)
             have n2_ := Aside0.mk (Kd.R_drew HO_163001.out)
             have n3_ := Aside0.mk (Kd.S_drew HO_163002.out)
             have n4_ := Aside0.mk (Kd.R_drew HO166.out)
             have n5_ := Aside0.mk (Kd.S_drew HO_159002.out)
             have n6_ := Aside0.mk (bD BK158.out)
             have n7_ := Aside0.mk (bD BK162.out)
             have n8_ := Aside0.mk (cD HB.out)
             clear HO_159000
             clear HO_163000
             clear HO_163001
             clear HO_163002
             clear HO166
             clear HO_159002
             clear BK158
             clear BK162
             clear HB
             have HO_159000 := n0_
             have HO_163000 := n1_
             have HO_163001 := n2_
             have HO_163002 := n3_
             have HO166 := n4_
             have HO_159002 := n5_
             have BK158 := n6_
             have BK162 := n7_
             have HB := n8_
             clear n0_ n1_ n2_ n3_ n4_ n5_ n6_ n7_ n8_
             have p173 : 0 ≤ (x9_2 : Int) := of_decide_eq_true (by first | (with_reducible assumption) | assumption)
             have q173 : x9_2 < (l0.length : Int) := of_decide_eq_true (by first | (with_reducible assumption) | assumption)
             obtain ⟨ad173, e173, hx173_0, hx173_1⟩ := at_T36 HR0.out x9_2 p173 q173
             have hw173_1 := hx173_1
             have hw173_0 := hx173_0
             obtain rfl : ad163 = ad173 := (by injection e173)
             replace hx173_0 := (HB.out.cell (World.block_lt_of_cell? w _ hx173_0)).trans hx173_0
             replace hx173_1 := (HB.out.cell (World.block_lt_of_cell? w _ hx173_1)).trans hx173_1
             replace p173 := eq_true p173
             replace q173 := eq_true q173
             refine start_ (n := 11) (S := fun w' => w'.cell? ⟨gb162, 0, none⟩ = some (u163000) ∧ w'.cell? ⟨gb162, 1, none⟩ = some (.slice Ao26 y159.length co26) ∧ w'.cell? ⟨gb162, 2, none⟩ = some (u163002) ∧ w'.cell? (ad163.add ((x9_2).toNat * 2)) = some (.int .i64 ((rd_T36 l0 x9_2).f0)) ∧ w'.cell? ⟨(ad163.add ((x9_2).toNat * 2)).block, (ad163.add ((x9_2).toNat * 2)).off + 1, none⟩ = some (.int .i64 ((rd_T36 l0 x9_2).f1))) (ds := [10]) Bo27_0 (by kernel_rfl) rfl rfl ⟨(blk_cell BK162.out 0).trans rfl, (blk_cell BK162.out 1).trans rfl, (blk_cell BK162.out 2).trans rfl, ((HB.out.cell (World.block_lt_of_cell? w _ hw173_0)).trans hw173_0), ((HB.out.cell (World.block_lt_of_cell? w _ hw173_1)).trans hw173_1)⟩ (fun hHeld => ?_); refine with_tabW sawmilllaw08_CurveRow.tab10 sawmilllaw08_CurveRow.bits10 (fun HT_ HW_ => ?_)
             generalize w50.drew = w51 at HO_159000 HO_163000 HO_163001 HO_163002 HO166 HO_159002 BK158 BK162 HB hx173_0 hx173_1 hHeld ⊢
             refine pure_ (i := 0) (N := some 65) (v := ?_) (a' := ?_) Bo27_1 rfl rfl (any_of HT_.out (by kernel_rfl)) (fun _ _ _ h => h) (Or.inl ⟨by rfl, ?_⟩) ?_ ?_
             rotate_left
             ·intro w'
              go_simp
              with_reducible rfl
             rotate_left
             ·simp only [Act.put, List.setIfInBounds_toArray, List.set_cons_zero, List.set_cons_succ, i64_w, i32_w]
              rfl
             refine pure_ (i := 2) (N := some 67) (v := ?_) (a' := ?_) Bo27_2 rfl rfl (any_of HT_.out (by kernel_rfl)) (fun _ _ _ h => h) (Or.inl ⟨by rfl, ?_⟩) ?_ ?_
             rotate_left
             ·intro w'
              go_simp
              with_reducible rfl
             rotate_left
             ·simp only [Act.put, List.setIfInBounds_toArray, List.set_cons_zero, List.set_cons_succ, i64_w, i32_w]
              rfl
             refine pure_ (i := 3) (N := some 68) (v := ?_) (a' := ?_) Bo27_3 rfl rfl (any_of HT_.out (by kernel_rfl)) (fun _ _ _ h => h) (Or.inl ⟨by rfl, ?_⟩) ?_ ?_
             rotate_left
             ·intro w'
              go_simp
              with_reducible rfl
             rotate_left
             ·simp only [Act.put, List.setIfInBounds_toArray, List.set_cons_zero, List.set_cons_succ, i64_w, i32_w]
              rfl
             refine pure_ (i := 4) (N := some 69) (v := ?_) (a' := ?_) Bo27_4 rfl rfl (any_of HT_.out (by kernel_rfl)) (fun _ _ _ h => h) (Or.inl ⟨by rfl, ?_⟩) ?_ ?_
             rotate_left
             ·intro w'
              go_simp
              with_reducible rfl
             rotate_left
             ·simp only [Act.put, List.setIfInBounds_toArray, List.set_cons_zero, List.set_cons_succ, i64_w, i32_w]
              rfl
             refine pure_ (i := 5) (N := some 70) (v := ?_) (a' := ?_) Bo27_5 rfl rfl (any_of HT_.out (by kernel_rfl)) (fun _ _ _ h => h) (Or.inl ⟨by rfl, ?_⟩) ?_ ?_
             rotate_left
             ·intro w'
              go_simp
              with_reducible rfl
             rotate_left
             ·simp only [Act.put, List.setIfInBounds_toArray, List.set_cons_zero, List.set_cons_succ, i64_w, i32_w]
              rfl
             refine take_ (i := 1) (N := some 66) (v := ?_) (a' := ?_) Bo27_6 rfl rfl (take_ofW HT_.out HW_.out (by kernel_rfl)) (fun _ _ _ h => h) (Or.inl ⟨by rfl, ?_⟩) hHeld ?_ ?_
             rotate_left
             ·rintro w' ⟨s0, s1, s2, s3, s4⟩
              go_simp
              with_reducible rfl
             rotate_left
             ·simp only [Act.put, List.setIfInBounds_toArray, List.set_cons_zero, List.set_cons_succ, i64_w, i32_w]
              rfl
             refine take_ (i := 6) (N := some 71) (v := ?_) (a' := ?_) Bo27_7 rfl rfl (take_ofW HT_.out HW_.out (by kernel_rfl)) (fun _ _ _ h => h) (Or.inl ⟨by rfl, ?_⟩) hHeld ?_ ?_
             rotate_left
             ·rintro w' ⟨s0, s1, s2, s3, s4⟩
              go_simp
              with_reducible rfl
             rotate_left
             ·simp only [Act.put, List.setIfInBounds_toArray, List.set_cons_zero, List.set_cons_succ, i64_w, i32_w]
              rfl
             refine one_ (i := 7) (N := some 72) Bo27_8 rfl rfl (one_of HT_.out (by kernel_rfl)) (by decide) (fun K hK => ?_)
             refine value_ (w1 := ?_) (v := ?_) (by rfl) rfl ?_ ?_
             rotate_left 2
             ·go_simp
              constructor
              ·rfl
              ·rfl
             refine hK.out _ _ ⟨(blk_cell (bA BK162.out _) 0).trans rfl, (blk_cell (bA BK162.out _) 1).trans rfl, (blk_cell (bA BK162.out _) 2).trans rfl, (World.cell?_alloc_lt _ _ _ (World.block_lt_of_cell? _ _ (((HB.out.cell (World.block_lt_of_cell? w _ hw173_0)).trans hw173_0)))).trans (((HB.out.cell (World.block_lt_of_cell? w _ hw173_0)).trans hw173_0)), (World.cell?_alloc_lt _ _ _ (World.block_lt_of_cell? _ _ (((HB.out.cell (World.block_lt_of_cell? w _ hw173_1)).trans hw173_1)))).trans (((HB.out.cell (World.block_lt_of_cell? w _ hw173_1)).trans hw173_1))⟩ (fun hHeld => ?_)
             clear hK K
             refine norm_ (a' := ?_) ?_ ?_
             rotate_left
             ·show Act.put _ (some 72) _ = _
              simp only [Act.put, List.setIfInBounds_toArray, List.set_cons_zero, List.set_cons_succ, i64_w, i32_w]
              rfl
             refine one_ (i := 8) (N := some 73) Bo27_9 rfl rfl (one_of HT_.out (by kernel_rfl)) (by decide) (fun K hK => ?_)
             refine Kd.R_append_step (Kd.int .i64) (w0 := w) w.heap.size (by rfl) (.tmp 66) (.tmp 72) 22 3 (.int .i64 0) 8 rfl Try.underlying22 info3 rfl (by decide) (by omega) u163000 x163000_2 ((rd_T36 l0 x9_2).f0) [.int .i64 ((rd_T36 l0 x9_2).f0)] (fun k_ => some k_ ≠ (.slice Ao21 y152.length co21 : Value).ownBlock ∧ some k_ ≠ (.slice Ao26 y159.length co26 : Value).ownBlock ∧ some k_ ≠ (.slice Ao40 y164.length co40 : Value).ownBlock) (fun _ => False) rfl rfl ?aP (fun _ hk => hk.elim) ?aF ?aO ?aB ?aS ?aL ?_
             (case aP => exact rfl)
             (case aB => exact (by repeat (first | (with_reducible first | exact HB.out | apply cA | apply cN | apply cD | refine cS ?_ GE158.out | refine cS ?_ GE162.out) | exact HB.out)))
             (case aF => exact (fun k_ hk => ⟨Kd.fresh' (Kd.R_lt (by (with_reducible repeat (first | apply Kd.R_alloc | apply Kd.R_drewN | apply Kd.R_drew)); exact HO_159000.out)) k_ hk, Kd.fresh' (Kd.R_lt (by (with_reducible repeat (first | apply Kd.R_alloc | apply Kd.R_drewN | apply Kd.R_drew)); exact HO_163001.out)) k_ hk, Kd.fresh' (Kd.R_lt (by (with_reducible repeat (first | apply Kd.R_alloc | apply Kd.R_drewN | apply Kd.R_drew)); exact HO166.out)) k_ hk⟩))
             (case aO => exact (by (with_reducible repeat (first | apply Kd.R_alloc | apply Kd.R_drewN | apply Kd.R_drew)); exact HO_163000.out))
             (case aS => exact (below_size (by repeat (first | (with_reducible first | exact HB.out | apply cA | apply cN | apply cD | refine cS ?_ GE158.out | refine cS ?_ GE162.out) | exact HB.out))))
             (case aL => have := LMc36.out; omega)
             intro v175 w52 ho hb hg hat
             rw [← Ny174.out] at ho
             have n0_ := Aside0.mk (Kd.R_after (ok := (fun k_ => some k_ ≠ (.slice Ao26 y159.length co26 : Value).ownBlock ∧ some k_ ≠ (.slice Ao40 y164.length co40 : Value).ownBlock)) (by (with_reducible repeat (first | apply Kd.R_alloc | apply Kd.R_drewN | apply Kd.R_drew)); exact Kd.R_mono HO_159000.out (fun _ hk => ⟨⟨hk.2.1, hk.2.2⟩, hk.1⟩)) hg hat)
             have n1_ := Aside0.mk (Kd.R_after (ok := (fun k_ => some k_ ≠ (.slice Ao21 y152.length co21 : Value).ownBlock ∧ some k_ ≠ (.slice Ao40 y164.length co40 : Value).ownBlock)) (by (with_reducible repeat (first | apply Kd.R_alloc | apply Kd.R_drewN | apply Kd.R_drew)); exact Kd.R_mono HO_163001.out (fun _ hk => ⟨⟨hk.1, hk.2.2⟩, hk.2.1⟩)) hg hat)
             have n2_ := Aside0.mk (Kd.S_after (ok := (fun k_ => (some k_ ≠ (.slice Ao21 y152.length co21 : Value).ownBlock ∧ ¬ T1 k_) ∧ some k_ ≠ (.slice Ao26 y159.length co26 : Value).ownBlock ∧ some k_ ≠ (.slice Ao40 y164.length co40 : Value).ownBlock ∧ some k_ ≠ (.slice (some ⟨go45, 0, none⟩) x159002_2.length co44 : Value).ownBlock)) (by (with_reducible repeat (first | apply Kd.S_alloc | apply Kd.S_drewN | apply Kd.S_drew)); exact Kd.S_mono HO_163002.out (fun _ hk => ⟨⟨hk.1, ⟨hk.2.2.1, ⟨hk.2.2.2.1, hk.2.2.2.2⟩⟩⟩, hk.2.1⟩)) hg hat)
             have n3_ := Aside0.mk (blk_grown (Up.blk BK158.out) hg (Kd.R_ne HO_163000.out BK158.out (by decide)))
             have n4_ := Aside0.mk (blk_grown (Up.blk BK162.out) hg (Kd.R_ne HO_163000.out BK162.out (by decide)))
             have n5_ := Aside0.mk (Kd.R_after (ok := (fun k_ => some k_ ≠ (.slice Ao21 y152.length co21 : Value).ownBlock ∧ some k_ ≠ (.slice Ao26 y159.length co26 : Value).ownBlock)) (by (with_reducible repeat (first | apply Kd.R_alloc | apply Kd.R_drewN | apply Kd.R_drew)); exact Kd.R_mono HO166.out (fun _ hk => ⟨⟨hk.1, hk.2.2⟩, hk.2.1⟩)) hg hat)
             have n6_ := Aside0.mk (Kd.S_after (ok := (fun k_ => (some k_ ≠ (.slice Ao21 y152.length co21 : Value).ownBlock ∧ T1 k_) ∧ some k_ ≠ (.slice Ao26 y159.length co26 : Value).ownBlock ∧ some k_ ≠ (u163002 : Value).ownBlock ∧ some k_ ≠ (.slice Ao40 y164.length co40 : Value).ownBlock)) (by (with_reducible repeat (first | apply Kd.S_alloc | apply Kd.S_drewN | apply Kd.S_drew)); exact Kd.S_mono HO_159002.out (fun _ hk => ⟨⟨hk.1, ⟨hk.2.2.1, ⟨hk.2.2.2.1, hk.2.2.2.2⟩⟩⟩, hk.2.1⟩)) hg hat)
             have n7_ := Aside0.mk (hb)
             have n8_ := Aside0.mk (ho)
             clear HO_159000
             clear HO_163001
             clear HO_163002
             clear BK158
             clear BK162
             clear HO166
             clear HO_159002
             clear HB
             clear HO_163000
             have HO_159000 := n0_
             have HO_163001 := n1_
             have HO_163002 := n2_
             have BK158 := n3_
             have BK162 := n4_
             have HO166 := n5_
             have HO_159002 := n6_
             have HB := n7_
             have HO176 := n8_
             clear n0_ n1_ n2_ n3_ n4_ n5_ n6_ n7_ n8_
             clear ho hb hg hat
             obtain ⟨Ao53, co53, eo53⟩ := Kd.R_slice HO176.out
             (first | subst eo53 | (injection eo53 with f1_ f2_ f3_; have f4_ := f1_.symm; have f5_ := f3_.symm; clear f1_ f2_ f3_; subst f4_; subst f5_))
             refine hK.out _ _ ⟨(blk_cell BK162.out 0).trans rfl, (blk_cell BK162.out 1).trans rfl, (blk_cell BK162.out 2).trans rfl, ((HB.out.cell (World.block_lt_of_cell? w _ hw173_0)).trans hw173_0), ((HB.out.cell (World.block_lt_of_cell? w _ hw173_1)).trans hw173_1)⟩ (fun hHeld => ?_)
             clear hK K
             refine norm_ (a' := ?_) ?_ ?_
             rotate_left
             ·show Act.put _ (some 73) _ = _
              simp only [Act.put, List.setIfInBounds_toArray, List.set_cons_zero, List.set_cons_succ, i64_w, i32_w]
              rfl
             refine pure_ (i := 9) (N := some 74) (v := ?_) (a' := ?_) Bo27_10 rfl rfl (any_of HT_.out (by kernel_rfl)) (fun _ _ _ h => h) (Or.inl ⟨by rfl, ?_⟩) ?_ ?_
             rotate_left
             ·intro w'
              go_simp
              with_reducible rfl
             rotate_left
             ·simp only [Act.put, List.setIfInBounds_toArray, List.set_cons_zero, List.set_cons_succ, i64_w, i32_w]
              rfl
             refine last_ (i := 10) (N := none) Bo27_11 rfl rfl (one_of HT_.out (by kernel_rfl)) (by decide) (fun K hK => ?_)
             have hs54 : w52.cell? ⟨gb162, 0, none⟩ = some (u163000) := (blk_cell BK162.out 0).trans rfl
             have hfs54 := blk_frozen BK162.out 0
             have hns54_0 := NB158_162.out
             have hms54_0 := NB162_158.out
             refine skip_ (w1 := ?_) (by rfl) rfl ?_ ?_
             rotate_left
             ·go_simp
              rfl
             refine hK.out _ _ ?_
             clear hK K
             refine done_ (done_of HT_.out (by kernel_rfl)) ?_
             try go_wp2
             have n0_ : Aside0 (Kd.R (Kd.int .i64) 3 (w52.setCell ⟨gb162, 0, none⟩ (.slice Ao53 y174.length co53)) w.heap.size (fun k_ => some k_ ≠ (.slice Ao26 y159.length co26 : Value).ownBlock ∧ some k_ ≠ (.slice Ao40 y164.length co40 : Value).ownBlock ∧ some k_ ≠ (.slice Ao53 y174.length co53 : Value).ownBlock) (.slice Ao21 y152.length co21) y152) := ⟨by (with_reducible repeat (first | apply Kd.R_alloc | apply Kd.R_drewN | apply Kd.R_drew)); exact Kd.R_mono (Kd.R_far (p := ⟨gb162, 0, none⟩) (Kd.R_types HO_159000.out BK162.out (by decide)) (fun _ hk => hk.2) (.slice Ao53 y174.length co53)) (fun _ hk => ⟨hk.1.1.1, ⟨hk.1.1.2, hk.1.2⟩⟩)⟩
             have n1_ : Aside0 (Kd.R (Kd.int .i64) 3 (w52.setCell ⟨gb162, 0, none⟩ (.slice Ao53 y174.length co53)) w.heap.size (fun k_ => some k_ ≠ (.slice Ao21 y152.length co21 : Value).ownBlock ∧ some k_ ≠ (.slice Ao40 y164.length co40 : Value).ownBlock ∧ some k_ ≠ (.slice Ao53 y174.length co53 : Value).ownBlock) (.slice Ao26 y159.length co26) y159) := ⟨by (with_reducible repeat (first | apply Kd.R_alloc | apply Kd.R_drewN | apply Kd.R_drew)); exact Kd.R_mono (Kd.R_far (p := ⟨gb162, 0, none⟩) (Kd.R_types HO_163001.out BK162.out (by decide)) (fun _ hk => hk.2) (.slice Ao53 y174.length co53)) (fun _ hk => ⟨hk.1.1.1, ⟨hk.1.1.2, hk.1.2⟩⟩)⟩
             have n2_ : Aside0 (Kd.S (Kd.slice 3 (Kd.int .i64)) 22 (w52.setCell ⟨gb162, 0, none⟩ (.slice Ao53 y174.length co53)) w.heap.size (fun k_ => (some k_ ≠ (.slice Ao21 y152.length co21 : Value).ownBlock ∧ ¬ T1 k_) ∧ some k_ ≠ (.slice Ao26 y159.length co26 : Value).ownBlock ∧ some k_ ≠ (.slice Ao40 y164.length co40 : Value).ownBlock ∧ some k_ ≠ (.slice (some ⟨go45, 0, none⟩) x159002_2.length co44 : Value).ownBlock ∧ some k_ ≠ (.slice Ao53 y174.length co53 : Value).ownBlock) u163002 x163002_2) := ⟨by (with_reducible repeat (first | apply Kd.S_alloc | apply Kd.S_drewN | apply Kd.S_drew)); exact Kd.S_mono (Kd.S_far (p := ⟨gb162, 0, none⟩) (Kd.S_types HO_163002.out BK162.out (by decide)) (fun _ hk => hk.2) (.slice Ao53 y174.length co53)) (fun _ hk => ⟨hk.1.1.1, ⟨hk.1.1.2.1, ⟨hk.1.1.2.2.1, ⟨hk.1.1.2.2.2, hk.1.2⟩⟩⟩⟩)⟩
             have n3_ : Aside0 (Kd.R (Kd.int .i64) 3 (w52.setCell ⟨gb162, 0, none⟩ (.slice Ao53 y174.length co53)) w.heap.size (fun k_ => some k_ ≠ (.slice Ao21 y152.length co21 : Value).ownBlock ∧ some k_ ≠ (.slice Ao26 y159.length co26 : Value).ownBlock ∧ some k_ ≠ (.slice Ao53 y174.length co53 : Value).ownBlock) (.slice Ao40 y164.length co40) y164) := ⟨by (with_reducible repeat (first | apply Kd.R_alloc | apply Kd.R_drewN | apply Kd.R_drew)); exact Kd.R_mono (Kd.R_far (p := ⟨gb162, 0, none⟩) (Kd.R_types HO166.out BK162.out (by decide)) (fun _ hk => hk.2) (.slice Ao53 y174.length co53)) (fun _ hk => ⟨hk.1.1.1, ⟨hk.1.1.2, hk.1.2⟩⟩)⟩
             have n4_ : Aside0 (Kd.S (Kd.slice 3 (Kd.int .i64)) 22 (w52.setCell ⟨gb162, 0, none⟩ (.slice Ao53 y174.length co53)) w.heap.size (fun k_ => (some k_ ≠ (.slice Ao21 y152.length co21 : Value).ownBlock ∧ T1 k_) ∧ some k_ ≠ (.slice Ao26 y159.length co26 : Value).ownBlock ∧ some k_ ≠ (u163002 : Value).ownBlock ∧ some k_ ≠ (.slice Ao40 y164.length co40 : Value).ownBlock ∧ some k_ ≠ (.slice Ao53 y174.length co53 : Value).ownBlock) (.slice (some ⟨go45, 0, none⟩) x159002_2.length co44) y172) := ⟨by (with_reducible repeat (first | apply Kd.S_alloc | apply Kd.S_drewN | apply Kd.S_drew)); exact Kd.S_mono (Kd.S_far (p := ⟨gb162, 0, none⟩) (Kd.S_types HO_159002.out BK162.out (by decide)) (fun _ hk => hk.2) (.slice Ao53 y174.length co53)) (fun _ hk => ⟨hk.1.1.1, ⟨hk.1.1.2.1, ⟨hk.1.1.2.2.1, ⟨hk.1.1.2.2.2, hk.1.2⟩⟩⟩⟩)⟩
             have n5_ : Aside0 (Kd.R (Kd.int .i64) 3 (w52.setCell ⟨gb162, 0, none⟩ (.slice Ao53 y174.length co53)) w.heap.size (fun k_ => some k_ ≠ (.slice Ao21 y152.length co21 : Value).ownBlock ∧ some k_ ≠ (.slice Ao26 y159.length co26 : Value).ownBlock ∧ some k_ ≠ (.slice Ao40 y164.length co40 : Value).ownBlock) (.slice Ao53 y174.length co53) y174) := ⟨by (with_reducible repeat (first | apply Kd.R_alloc | apply Kd.R_drewN | apply Kd.R_drew)); exact Kd.R_mono (Kd.R_far (p := ⟨gb162, 0, none⟩) (Kd.R_types HO176.out BK162.out (by decide)) (fun _ hk => hk.2) (.slice Ao53 y174.length co53)) (fun _ hk => ⟨hk.1.1, ⟨hk.1.2.1, hk.1.2.2⟩⟩)⟩
             have n6_ : Aside0 ((w52.setCell ⟨gb162, 0, none⟩ (.slice Ao53 y174.length co53)).heap[gb158]? = some (.cells #[.slice Ao21 y152.length co21, .slice Ao40 y164.length co40, .slice (some ⟨go45, 0, none⟩) x159002_2.length co44] 25 (0, 0))) := ⟨by (with_reducible repeat (first | refine bN ?_ _ | refine bD ?_ | refine bA ?_ _)); refine bF ?_ NB158_162.out _; (with_reducible repeat (first | refine bN ?_ _ | refine bD ?_ | refine bA ?_ _)); exact BK158.out⟩
             have n7_ : Aside0 ((w52.setCell ⟨gb162, 0, none⟩ (.slice Ao53 y174.length co53)).heap[gb162]? = some (.cells #[.slice Ao53 y174.length co53, .slice Ao26 y159.length co26, u163002] 25 (0, 0))) := ⟨by (with_reducible repeat (first | refine bN ?_ _ | refine bD ?_ | refine bA ?_ _)); refine blk_put (cs := #[u163000, .slice Ao26 y159.length co26, u163002]) ?_ 0 _ rfl; (with_reducible repeat (first | refine bN ?_ _ | refine bD ?_ | refine bA ?_ _)); exact BK162.out⟩
             have n8_ : Aside0 (Below w.heap.size w (w52.setCell ⟨gb162, 0, none⟩ (.slice Ao53 y174.length co53))) := ⟨by repeat (first | (with_reducible first | exact HB.out | apply cA | apply cN | apply cD | refine cS ?_ GE158.out | refine cS ?_ GE162.out) | exact HB.out)⟩
             (try clear HO_159000)
             (try clear HO_163001)
             (try clear HO_163002)
             (try clear HO166)
             (try clear HO_159002)
             (try clear HO176)
             (try clear BK158)
             (try clear BK162)
             (try clear HB)
             generalize (w52.setCell ⟨gb162, 0, none⟩ (.slice Ao53 y174.length co53)) = w55 at n0_ n1_ n2_ n3_ n4_ n5_ n6_ n7_ n8_ ⊢
             have HO_159000 := n0_
             have HO_163001 := n1_
             have HO_163002 := n2_
             have HO166 := n3_
             have HO_159002 := n4_
             have HO176 := n5_
             have BK158 := n6_
             have BK162 := n7_
             have HB := n8_
             clear n0_ n1_ n2_ n3_ n4_ n5_ n6_ n7_ n8_
             have n0_ := Aside0.mk (Kd.R_drew HO_159000.out)
             have n1_ := Aside0.mk (Kd.R_drew HO_163001.out)
             have n2_ := Aside0.mk (Kd.S_drew HO_163002.out)
             have n3_ := Aside0.mk (Kd.R_drew HO166.out)
             have n4_ := Aside0.mk (Kd.S_drew HO_159002.out)
             have n5_ := Aside0.mk (Kd.R_drew HO176.out)
             have n6_ := Aside0.mk (bD BK158.out)
             have n7_ := Aside0.mk (bD BK162.out)
             have n8_ := Aside0.mk (cD HB.out)
             clear HO_159000
             clear HO_163001
             clear HO_163002
             clear HO166
             clear HO_159002
             clear HO176
             clear BK158
             clear BK162
             clear HB
             have HO_159000 := n0_
             have HO_163001 := n1_
             have HO_163002 := n2_
             have HO166 := n3_
             have HO_159002 := n4_
             have HO176 := n5_
             have BK158 := n6_
             have BK162 := n7_
             have HB := n8_
             clear n0_ n1_ n2_ n3_ n4_ n5_ n6_ n7_ n8_
             have p177 : 0 ≤ (x9_2 : Int) := of_decide_eq_true (by first | (with_reducible assumption) | assumption)
             have q177 : x9_2 < (l0.length : Int) := of_decide_eq_true (by first | (with_reducible assumption) | assumption)
             obtain ⟨ad177, e177, hx177_0, hx177_1⟩ := at_T36 HR0.out x9_2 p177 q177
             have hw177_1 := hx177_1
             have hw177_0 := hx177_0
             obtain rfl : ad163 = ad177 := (by injection e177)
             replace hx177_0 := (HB.out.cell (World.block_lt_of_cell? w _ hx177_0)).trans hx177_0
             replace hx177_1 := (HB.out.cell (World.block_lt_of_cell? w _ hx177_1)).trans hx177_1
             replace p177 := eq_true p177
             replace q177 := eq_true q177
             refine start_ (n := 12) (S := fun w' => w'.cell? ⟨gb162, 0, none⟩ = some (.slice Ao53 y174.length co53) ∧ w'.cell? ⟨gb162, 1, none⟩ = some (.slice Ao26 y159.length co26) ∧ w'.cell? ⟨gb162, 2, none⟩ = some (u163002) ∧ w'.cell? (ad163.add ((x9_2).toNat * 2)) = some (.int .i64 ((rd_T36 l0 x9_2).f0)) ∧ w'.cell? ⟨(ad163.add ((x9_2).toNat * 2)).block, (ad163.add ((x9_2).toNat * 2)).off + 1, none⟩ = some (.int .i64 ((rd_T36 l0 x9_2).f1))) (ds := [11]) Bo27_28 (by kernel_rfl) rfl rfl ⟨(blk_cell BK162.out 0).trans rfl, (blk_cell BK162.out 1).trans rfl, (blk_cell BK162.out 2).trans rfl, ((HB.out.cell (World.block_lt_of_cell? w _ hw177_0)).trans hw177_0), ((HB.out.cell (World.block_lt_of_cell? w _ hw177_1)).trans hw177_1)⟩ (fun hHeld => ?_); refine with_tabW sawmilllaw08_CurveRow.tab11 sawmilllaw08_CurveRow.bits11 (fun HT_ HW_ => ?_)
             generalize w55.drew = w56 at HO_159000 HO_163001 HO_163002 HO166 HO_159002 HO176 BK158 BK162 HB hx177_0 hx177_1 hHeld ⊢
             obtain ⟨T2, hT2⟩ : ∃ T2 : Nat → Prop, ∀ k, T2 k ↔ T1 k ∧ k < w56.heap.size := ⟨_, fun _ => Iff.rfl⟩
             have HN2 := Aside0.mk (show ∀ k, w56.heap.size ≤ k → ¬ T2 k from fun k hk h => absurd ((hT2 k).1 h).2 (Nat.not_lt.2 hk))
             replace HO_159002 := Aside0.mk (Kd.S_mono (Kd.S_bound HO_159002.out) (ok' := fun k_ => (some k_ ≠ (.slice Ao21 y152.length co21 : Value).ownBlock ∧ T2 k_) ∧ some k_ ≠ (.slice Ao26 y159.length co26 : Value).ownBlock ∧ some k_ ≠ (u163002 : Value).ownBlock ∧ some k_ ≠ (.slice Ao40 y164.length co40 : Value).ownBlock ∧ some k_ ≠ (.slice Ao53 y174.length co53 : Value).ownBlock) (fun k_ hk => ⟨⟨hk.1.1.1, (hT2 k_).2 ⟨hk.1.1.2, hk.2.2.1⟩⟩, hk.1.2⟩))
             replace HO_163002 := Aside0.mk (Kd.S_mono HO_163002.out (ok' := fun k_ => (some k_ ≠ (.slice Ao21 y152.length co21 : Value).ownBlock ∧ ¬ T2 k_) ∧ some k_ ≠ (.slice Ao26 y159.length co26 : Value).ownBlock ∧ some k_ ≠ (.slice Ao40 y164.length co40 : Value).ownBlock ∧ some k_ ≠ (.slice (some ⟨go45, 0, none⟩) x159002_2.length co44 : Value).ownBlock ∧ some k_ ≠ (.slice Ao53 y174.length co53 : Value).ownBlock) (fun k_ hk => ⟨⟨hk.1.1, fun h => hk.1.2 ((hT2 k_).1 h).1⟩, hk.2⟩))
             clear hT2
             refine pure_ (i := 0) (N := some 75) (v := ?_) (a' := ?_) Bo27_29 rfl rfl (any_of HT_.out (by kernel_rfl)) (fun _ _ _ h => h) (Or.inl ⟨by rfl, ?_⟩) ?_ ?_
             rotate_left
             ·intro w'
              go_simp
              with_reducible rfl
             rotate_left
             ·simp only [Act.put, List.setIfInBounds_toArray, List.set_cons_zero, List.set_cons_succ, i64_w, i32_w]
              rfl
             refine pure_ (i := 2) (N := some 77) (v := ?_) (a' := ?_) Bo27_30 rfl rfl (any_of HT_.out (by kernel_rfl)) (fun _ _ _ h => h) (Or.inl ⟨by rfl, ?_⟩) ?_ ?_
             rotate_left
             ·intro w'
              go_simp
              with_reducible rfl
             rotate_left
             ·simp only [Act.put, List.setIfInBounds_toArray, List.set_cons_zero, List.set_cons_succ, i64_w, i32_w]
              rfl
             refine pure_ (i := 3) (N := some 78) (v := ?_) (a' := ?_) Bo27_31 rfl rfl (any_of HT_.out (by kernel_rfl)) (fun _ _ _ h => h) (Or.inl ⟨by rfl, ?_⟩) ?_ ?_
             rotate_left
             ·intro w'
              go_simp
              with_reducible rfl
             rotate_left
             ·simp only [Act.put, List.setIfInBounds_toArray, List.set_cons_zero, List.set_cons_succ, i64_w, i32_w]
              rfl
             refine pure_ (i := 4) (N := some 79) (v := ?_) (a' := ?_) Bo27_32 rfl rfl (any_of HT_.out (by kernel_rfl)) (fun _ _ _ h => h) (Or.inl ⟨by rfl, ?_⟩) ?_ ?_
             rotate_left
             ·intro w'
              go_simp
              with_reducible rfl
             rotate_left
             ·simp only [Act.put, List.setIfInBounds_toArray, List.set_cons_zero, List.set_cons_succ, i64_w, i32_w]
              rfl
             refine pure_ (i := 5) (N := some 80) (v := ?_) (a' := ?_) Bo27_33 rfl rfl (any_of HT_.out (by kernel_rfl)) (fun _ _ _ h => h) (Or.inl ⟨by rfl, ?_⟩) ?_ ?_
             rotate_left
             ·intro w'
              go_simp
              with_reducible rfl
             rotate_left
             ·simp only [Act.put, List.setIfInBounds_toArray, List.set_cons_zero, List.set_cons_succ, i64_w, i32_w]
              rfl
             refine take_ (i := 1) (N := some 76) (v := ?_) (a' := ?_) Bo27_34 rfl rfl (take_ofW HT_.out HW_.out (by kernel_rfl)) (fun _ _ _ h => h) (Or.inl ⟨by rfl, ?_⟩) hHeld ?_ ?_
             rotate_left
             ·rintro w' ⟨s0, s1, s2, s3, s4⟩
              go_simp
              with_reducible rfl
             rotate_left
             ·simp only [Act.put, List.setIfInBounds_toArray, List.set_cons_zero, List.set_cons_succ, i64_w, i32_w]
              rfl
             refine take_ (i := 6) (N := some 81) (v := ?_) (a' := ?_) Bo27_35 rfl rfl (take_ofW HT_.out HW_.out (by kernel_rfl)) (fun _ _ _ h => h) (Or.inl ⟨by rfl, ?_⟩) hHeld ?_ ?_
             rotate_left
             ·rintro w' ⟨s0, s1, s2, s3, s4⟩
              go_simp
              with_reducible rfl
             rotate_left
             ·simp only [Act.put, List.setIfInBounds_toArray, List.set_cons_zero, List.set_cons_succ, i64_w, i32_w]
              rfl
             refine one_ (i := 7) (N := some 82) Bo27_36 rfl rfl (one_of HT_.out (by kernel_rfl)) (by decide) (fun K hK => ?_)
             refine Kd.R_lit_step (Kd.int .i64) _ 3 ?hg (N := 82) ?hd (xs := ([(rd_T36 l0 x9_2).f1] : List Int)) (inner := [.int .i64 ((rd_T36 l0 x9_2).f1)]) (ok := fun _ => True) (okp := fun _ => True) ?hr ?hp (fun _ hk => hk) trivial (Below.refl _ _) (Nat.le_refl _) (by simp) ?_; (case hd => rfl); (case hg => rfl); (case hr => first | (go_simp; done) | (go_simp; rfl)); (case hp => exact (Reps.one (show Kd.M (Kd.int .i64) _ _ _ ((rd_T36 l0 x9_2).f1) [.int .i64 ((rd_T36 l0 x9_2).f1)] from rfl) (Reps.none _ _)))
             intro v179 w57 ho58 hb hg_ hnew_
             replace ho58 := Kd.R_mono (ok' := fun k_ => ¬ T2 k_) (Kd.R_bound ho58) (fun k_ hk => HN2.out k_ hk.2.1)
             have HN3 := Aside0.mk (show ∀ k, w57.heap.size ≤ k → ¬ T2 k from fun k hk => HN2.out k (Nat.le_trans hb.size hk))
             clear hg_ hnew_
             (first | rw [← Ny178.out] at ho58 | (simp only [Int.reduceToNat] at ho58; rw [← Ny178.out] at ho58))
             have n0_ := Aside0.mk (Kd.R_elder' (by (with_reducible repeat (first | apply Kd.R_alloc | apply Kd.R_drewN | apply Kd.R_drew)); exact HO_159000.out) (Kd.R_base ho58) hb)
             have n1_ := Aside0.mk (Kd.R_elder' (by (with_reducible repeat (first | apply Kd.R_alloc | apply Kd.R_drewN | apply Kd.R_drew)); exact HO_163001.out) (Kd.R_base ho58) hb)
             have n2_ := Aside0.mk (Kd.S_elder' (by (with_reducible repeat (first | apply Kd.S_alloc | apply Kd.S_drewN | apply Kd.S_drew)); exact HO_163002.out) (Kd.R_base ho58) hb)
             have n3_ := Aside0.mk (Kd.R_elder' (by (with_reducible repeat (first | apply Kd.R_alloc | apply Kd.R_drewN | apply Kd.R_drew)); exact HO166.out) (Kd.R_base ho58) hb)
             have n4_ := Aside0.mk (Kd.S_elder' (by (with_reducible repeat (first | apply Kd.S_alloc | apply Kd.S_drewN | apply Kd.S_drew)); exact HO_159002.out) (Kd.R_base ho58) hb)
             have n5_ := Aside0.mk (Kd.R_elder' (by (with_reducible repeat (first | apply Kd.R_alloc | apply Kd.R_drewN | apply Kd.R_drew)); exact HO176.out) (Kd.R_base ho58) hb)
             have n6_ := Aside0.mk (Kd.R_lower (Kd.R_new' (Kd.R_new' (Kd.R_new' (Kd.R_new' ho58 (Kd.R_lt (by (with_reducible repeat (first | apply Kd.R_alloc | apply Kd.R_drewN | apply Kd.R_drew)); exact HO_159000.out))) (Kd.R_lt (by (with_reducible repeat (first | apply Kd.R_alloc | apply Kd.R_drewN | apply Kd.R_drew)); exact HO_163001.out))) (Kd.R_lt (by (with_reducible repeat (first | apply Kd.R_alloc | apply Kd.R_drewN | apply Kd.R_drew)); exact HO166.out))) (Kd.R_lt (by (with_reducible repeat (first | apply Kd.R_alloc | apply Kd.R_drewN | apply Kd.R_drew)); exact HO176.out))) (below_size (by repeat (first | (with_reducible first | exact HB.out | apply cA | apply cN | apply cD | refine cS ?_ GE158.out | refine cS ?_ GE162.out) | exact HB.out))))
             have n7_ := Aside0.mk (blk_below (Up.blk BK158.out) hb)
             have n8_ := Aside0.mk (blk_below (Up.blk BK162.out) hb)
             have n9_ := Aside0.mk (below_step (by repeat (first | (with_reducible first | exact HB.out | apply cA | apply cN | apply cD | refine cS ?_ GE158.out | refine cS ?_ GE162.out) | exact HB.out)) hb)
             clear HO_159000
             clear HO_163001
             clear HO_163002
             clear HO166
             clear HO_159002
             clear HO176
             clear BK158
             clear BK162
             clear HB
             have HO_159000 := n0_
             have HO_163001 := n1_
             have HO_163002 := n2_
             have HO166 := n3_
             have HO_159002 := n4_
             have HO176 := n5_
             have HO180 := n6_
             have BK158 := n7_
             have BK162 := n8_
             have HB := n9_
             clear n0_ n1_ n2_ n3_ n4_ n5_ n6_ n7_ n8_ n9_
             clear hb ho58
             obtain ⟨Ao60, co60, eo60⟩ := Kd.R_slice HO180.out
             (first | subst eo60 | (injection eo60 with f1_ f2_ f3_; have f4_ := f1_.symm; have f5_ := f3_.symm; clear f1_ f2_ f3_; subst f4_; subst f5_))
             refine hK.out _ _ ⟨(blk_cell BK162.out 0).trans rfl, (blk_cell BK162.out 1).trans rfl, (blk_cell BK162.out 2).trans rfl, ((HB.out.cell (World.block_lt_of_cell? w _ hw177_0)).trans hw177_0), ((HB.out.cell (World.block_lt_of_cell? w _ hw177_1)).trans hw177_1)⟩ (fun hHeld => ?_)
             clear hK K
             refine norm_ (a' := ?_) ?_ ?_
             rotate_left
             ·show Act.put _ (some 82) _ = _
              simp only [Act.put, List.setIfInBounds_toArray, List.set_cons_zero, List.set_cons_succ, i64_w, i32_w]
              rfl
             refine one_ (i := 8) (N := some 83) Bo27_37 rfl rfl (one_of HT_.out (by kernel_rfl)) (by decide) (fun K hK => ?_)
             refine value_ (w1 := ?_) (v := ?_) (by rfl) rfl ?_ ?_
             rotate_left 2
             ·go_simp
              constructor
              ·rfl
              ·rfl
             refine hK.out _ _ ⟨(blk_cell (bA BK162.out _) 0).trans rfl, (blk_cell (bA BK162.out _) 1).trans rfl, (blk_cell (bA BK162.out _) 2).trans rfl, (World.cell?_alloc_lt _ _ _ (World.block_lt_of_cell? _ _ (((HB.out.cell (World.block_lt_of_cell? w _ hw177_0)).trans hw177_0)))).trans (((HB.out.cell (World.block_lt_of_cell? w _ hw177_0)).trans hw177_0)), (World.cell?_alloc_lt _ _ _ (World.block_lt_of_cell? _ _ (((HB.out.cell (World.block_lt_of_cell? w _ hw177_1)).trans hw177_1)))).trans (((HB.out.cell (World.block_lt_of_cell? w _ hw177_1)).trans hw177_1))⟩ (fun hHeld => ?_)
             clear hK K
             refine norm_ (a' := ?_) ?_ ?_
             rotate_left
             ·show Act.put _ (some 83) _ = _
              simp only [Act.put, List.setIfInBounds_toArray, List.set_cons_zero, List.set_cons_succ, i64_w, i32_w]
              rfl
             refine one_ (i := 9) (N := some 84) Bo27_38 rfl rfl (one_of HT_.out (by kernel_rfl)) (by decide) (fun K hK => ?_)
             refine Kd.S_append_step (Kd.slice 3 (Kd.int .i64)) (w0 := w) w.heap.size (by rfl) (.tmp 76) (.tmp 83) 23 22 (.slice none 0 0) 24 rfl Try.underlying23 info22 rfl (by decide) (by omega) u163002 x163002_2 y178 [.slice Ao60 y178.length co60] (fun k_ => (some k_ ≠ (.slice Ao21 y152.length co21 : Value).ownBlock ∧ ¬ T2 k_) ∧ some k_ ≠ (.slice Ao26 y159.length co26 : Value).ownBlock ∧ some k_ ≠ (.slice Ao40 y164.length co40 : Value).ownBlock ∧ some k_ ≠ (.slice (some ⟨go45, 0, none⟩) x159002_2.length co44 : Value).ownBlock ∧ some k_ ≠ (.slice Ao53 y174.length co53 : Value).ownBlock) (fun k_ => some k_ = (.slice Ao60 y178.length co60 : Value).ownBlock) rfl rfl ?aP (fun k_ hk_ => ((Kd.R_mono (ok' := fun k_ => ((fun k_ => (some k_ ≠ (.slice Ao21 y152.length co21 : Value).ownBlock ∧ ¬ T2 k_) ∧ some k_ ≠ (.slice Ao26 y159.length co26 : Value).ownBlock ∧ some k_ ≠ (.slice Ao40 y164.length co40 : Value).ownBlock ∧ some k_ ≠ (.slice (some ⟨go45, 0, none⟩) x159002_2.length co44 : Value).ownBlock ∧ some k_ ≠ (.slice Ao53 y174.length co53 : Value).ownBlock)) k_ ∧ some k_ ≠ (u163002 : Value).ownBlock) (Kd.R_apart' (Kd.R_apart' (HO180.out) (Kd.S_typed HO_159002.out) (by decide)) (Kd.S_typed HO_163002.out) (by decide)) (fun k_ hk => ⟨⟨⟨hk.1.1.1.1.1.2, hk.1.1.1.1.1.1⟩, ⟨hk.1.1.1.1.2, ⟨hk.1.1.1.2, ⟨hk.1.2, hk.1.1.2⟩⟩⟩⟩, hk.2⟩))).1 k_ hk_.symm) ?aF ?aO ?aB ?aS ?aL ?_
             (case aP => exact Kd.M_row (Kd.R_mono (Kd.R_tight rfl (Kd.R_mono (ok' := fun k_ => ((fun k_ => (some k_ ≠ (.slice Ao21 y152.length co21 : Value).ownBlock ∧ ¬ T2 k_) ∧ some k_ ≠ (.slice Ao26 y159.length co26 : Value).ownBlock ∧ some k_ ≠ (.slice Ao40 y164.length co40 : Value).ownBlock ∧ some k_ ≠ (.slice (some ⟨go45, 0, none⟩) x159002_2.length co44 : Value).ownBlock ∧ some k_ ≠ (.slice Ao53 y174.length co53 : Value).ownBlock)) k_ ∧ some k_ ≠ (u163002 : Value).ownBlock) (Kd.R_apart' (Kd.R_apart' (HO180.out) (Kd.S_typed HO_159002.out) (by decide)) (Kd.S_typed HO_163002.out) (by decide)) (fun k_ hk => ⟨⟨⟨hk.1.1.1.1.1.2, hk.1.1.1.1.1.1⟩, ⟨hk.1.1.1.1.2, ⟨hk.1.1.1.2, ⟨hk.1.2, hk.1.1.2⟩⟩⟩⟩, hk.2⟩))) (fun _ h_ => h_)))
             (case aB => exact (by repeat (first | (with_reducible first | exact HB.out | apply cA | apply cN | apply cD | refine cS ?_ GE158.out | refine cS ?_ GE162.out) | exact HB.out)))
             (case aF => exact (fun k_ hk => ⟨⟨Kd.fresh' (Kd.R_lt (by (with_reducible repeat (first | apply Kd.R_alloc | apply Kd.R_drewN | apply Kd.R_drew)); exact HO_159000.out)) k_ hk, HN3.out k_ (by first | exact hk | (have h_ := hk; simp only [World.size_alloc] at h_; omega))⟩, Kd.fresh' (Kd.R_lt (by (with_reducible repeat (first | apply Kd.R_alloc | apply Kd.R_drewN | apply Kd.R_drew)); exact HO_163001.out)) k_ hk, Kd.fresh' (Kd.R_lt (by (with_reducible repeat (first | apply Kd.R_alloc | apply Kd.R_drewN | apply Kd.R_drew)); exact HO166.out)) k_ hk, Kd.fresh' (Kd.S_lt (by (with_reducible repeat (first | apply Kd.S_alloc | apply Kd.S_drewN | apply Kd.S_drew)); exact HO_159002.out)) k_ hk, Kd.fresh' (Kd.R_lt (by (with_reducible repeat (first | apply Kd.R_alloc | apply Kd.R_drewN | apply Kd.R_drew)); exact HO176.out)) k_ hk⟩))
             (case aO => exact (by (with_reducible repeat (first | apply Kd.S_alloc | apply Kd.S_drewN | apply Kd.S_drew)); exact Kd.S_mono HO_163002.out (fun k_ hk => ⟨⟨hk.1.1, ⟨hk.1.2.1, ⟨hk.1.2.2.1, ⟨hk.1.2.2.2.1, hk.1.2.2.2.2⟩⟩⟩⟩, fun e_ => hk.2 e_⟩)))
             (case aS => exact (below_size (by repeat (first | (with_reducible first | exact HB.out | apply cA | apply cN | apply cD | refine cS ?_ GE158.out | refine cS ?_ GE162.out) | exact HB.out))))
             (case aL => have := LMc37.out; omega)
             intro v182 w59 ho hb hg hat
             rw [← Ny181.out] at ho
             have n0_ := Aside0.mk (Kd.R_over' (by (with_reducible repeat (first | apply Kd.R_alloc | apply Kd.R_drewN | apply Kd.R_drew)); exact HO_159000.out) (Kd.S_typed (by (with_reducible repeat (first | apply Kd.S_alloc | apply Kd.S_drewN | apply Kd.S_drew)); exact HO_163002.out)) (by decide) hg)
             have n1_ := Aside0.mk (Kd.R_over' (by (with_reducible repeat (first | apply Kd.R_alloc | apply Kd.R_drewN | apply Kd.R_drew)); exact HO_163001.out) (Kd.S_typed (by (with_reducible repeat (first | apply Kd.S_alloc | apply Kd.S_drewN | apply Kd.S_drew)); exact HO_163002.out)) (by decide) hg)
             have n2_ := Aside0.mk (blk_grown (Up.blk BK158.out) hg (Kd.S_ne HO_163002.out BK158.out (by decide)))
             have n3_ := Aside0.mk (blk_grown (Up.blk BK162.out) hg (Kd.S_ne HO_163002.out BK162.out (by decide)))
             have n4_ := Aside0.mk (Kd.R_over' (by (with_reducible repeat (first | apply Kd.R_alloc | apply Kd.R_drewN | apply Kd.R_drew)); exact HO166.out) (Kd.S_typed (by (with_reducible repeat (first | apply Kd.S_alloc | apply Kd.S_drewN | apply Kd.S_drew)); exact HO_163002.out)) (by decide) hg)
             have n5_ := Aside0.mk (Kd.S_after (ok := (fun k_ => (some k_ ≠ (.slice Ao21 y152.length co21 : Value).ownBlock ∧ T2 k_) ∧ some k_ ≠ (.slice Ao26 y159.length co26 : Value).ownBlock ∧ some k_ ≠ (.slice Ao40 y164.length co40 : Value).ownBlock ∧ some k_ ≠ (.slice Ao53 y174.length co53 : Value).ownBlock ∧ some k_ ≠ (.slice Ao60 y178.length co60 : Value).ownBlock)) (by (with_reducible repeat (first | apply Kd.S_alloc | apply Kd.S_drewN | apply Kd.S_drew)); exact Kd.S_mono HO_159002.out (fun _ hk => ⟨⟨hk.1.1, ⟨hk.1.2.1, ⟨hk.1.2.2.2.1, ⟨hk.1.2.2.2.2, hk.2⟩⟩⟩⟩, hk.1.2.2.1⟩)) hg hat)
             have n6_ := Aside0.mk (Kd.R_over' (by (with_reducible repeat (first | apply Kd.R_alloc | apply Kd.R_drewN | apply Kd.R_drew)); exact HO176.out) (Kd.S_typed (by (with_reducible repeat (first | apply Kd.S_alloc | apply Kd.S_drewN | apply Kd.S_drew)); exact HO_163002.out)) (by decide) hg)
             have n7_ := Aside0.mk (hb)
             have n8_ := Aside0.mk (ho)
             clear HO_159000
             clear HO_163001
             clear BK158
             clear BK162
             clear HO166
             clear HO_159002
             clear HO176
             clear HB
             clear HO_163002
             clear HO180
             have HO_159000 := n0_
             have HO_163001 := n1_
             have BK158 := n2_
             have BK162 := n3_
             have HO166 := n4_
             have HO_159002 := n5_
             have HO176 := n6_
             have HB := n7_
             have HO183 := n8_
             clear n0_ n1_ n2_ n3_ n4_ n5_ n6_ n7_ n8_
             clear ho hb hg hat
             obtain ⟨Ao61, co61, eo61⟩ := Kd.S_slice HO183.out
             (first | subst eo61 | (injection eo61 with f1_ f2_ f3_; have f4_ := f1_.symm; have f5_ := f3_.symm; clear f1_ f2_ f3_; subst f4_; subst f5_))
             refine hK.out _ _ ⟨(blk_cell BK162.out 0).trans rfl, (blk_cell BK162.out 1).trans rfl, (blk_cell BK162.out 2).trans rfl, ((HB.out.cell (World.block_lt_of_cell? w _ hw177_0)).trans hw177_0), ((HB.out.cell (World.block_lt_of_cell? w _ hw177_1)).trans hw177_1)⟩ (fun hHeld => ?_)
             clear hK K
             refine norm_ (a' := ?_) ?_ ?_
             rotate_left
             ·show Act.put _ (some 84) _ = _
              simp only [Act.put, List.setIfInBounds_toArray, List.set_cons_zero, List.set_cons_succ, i64_w, i32_w]
              rfl
             refine pure_ (i := 10) (N := some 85) (v := ?_) (a' := ?_) Bo27_39 rfl rfl (any_of HT_.out (by kernel_rfl)) (fun _ _ _ h => h) (Or.inl ⟨by rfl, ?_⟩) ?_ ?_
             rotate_left
             ·intro w'
              go_simp
              with_reducible rfl
             rotate_left
             ·simp only [Act.put, List.setIfInBounds_toArray, List.set_cons_zero, List.set_cons_succ, i64_w, i32_w]
              rfl
             refine last_ (i := 11) (N := none) Bo27_40 rfl rfl (one_of HT_.out (by kernel_rfl)) (by decide) (fun K hK => ?_)
             have hs62 : w59.cell? ⟨gb162, 2, none⟩ = some (u163002) := (blk_cell BK162.out 2).trans rfl
             have hfs62 := blk_frozen BK162.out 2
             have hns62_0 := NB158_162.out
             have hms62_0 := NB162_158.out
             refine skip_ (w1 := ?_) (by rfl) rfl ?_ ?_
             rotate_left
             ·go_simp
              rfl
             refine hK.out _ _ ?_
             clear hK K
             refine done_ (done_of HT_.out (by kernel_rfl)) ?_
             try go_wp2
             go_roundg k2
             case measure => have := HJ3.out; have := HK2.out; omega
             case rel => exact ⟨T2, (wrap64 (x9_2 + 1)), (y164), (y172), (y174), (y181), (.slice Ao40 y164.length co40), (.slice (some ⟨go45, 0, none⟩) x159002_2.length co44), (.slice Ao53 y174.length co53), (.slice Ao61 y181.length co61), (by first | rfl | (simp; done) | (simp [*]; done)), H', ⟨by have := HJ3.out; have := HK2.out; omega⟩, ⟨by (with_reducible repeat (first | apply Kd.R_alloc | apply Kd.R_drewN | apply Kd.R_drew)); exact Kd.R_mono (Kd.R_far (p := ⟨gb162, 2, none⟩) (Kd.R_types HO_159000.out BK162.out (by decide)) (fun _ hk => hk.2) (.slice Ao61 y181.length co61)) (fun _ hk => ⟨hk.1.1.2.1, ⟨hk.1.1.2.2, hk.1.1.1⟩⟩)⟩, ⟨by (with_reducible repeat (first | apply Kd.R_alloc | apply Kd.R_drewN | apply Kd.R_drew)); exact Kd.R_mono (Kd.R_far (p := ⟨gb162, 2, none⟩) (Kd.R_types HO166.out BK162.out (by decide)) (fun _ hk => hk.2) (.slice Ao61 y181.length co61)) (fun _ hk => ⟨hk.1.1.1, ⟨hk.1.1.2.2, hk.1.1.2.1⟩⟩)⟩, ⟨by (with_reducible repeat (first | apply Kd.S_alloc | apply Kd.S_drewN | apply Kd.S_drew)); exact Kd.S_mono (Kd.S_far (p := ⟨gb162, 2, none⟩) (Kd.S_types HO_159002.out BK162.out (by decide)) (fun _ hk => hk.2) (.slice Ao61 y181.length co61)) (fun _ hk => ⟨hk.1.1.1, ⟨hk.1.1.2.2.1, ⟨hk.1.1.2.2.2.1, ⟨hk.1.1.2.1, hk.1.2⟩⟩⟩⟩)⟩, ⟨by (with_reducible repeat (first | apply Kd.R_alloc | apply Kd.R_drewN | apply Kd.R_drew)); exact Kd.R_mono (Kd.R_far (p := ⟨gb162, 2, none⟩) (Kd.R_types HO176.out BK162.out (by decide)) (fun _ hk => hk.2) (.slice Ao61 y181.length co61)) (fun _ hk => ⟨hk.1.1.1, ⟨hk.1.1.2.2, hk.1.1.2.1⟩⟩)⟩, ⟨by (with_reducible repeat (first | apply Kd.R_alloc | apply Kd.R_drewN | apply Kd.R_drew)); exact Kd.R_mono (Kd.R_far (p := ⟨gb162, 2, none⟩) (Kd.R_types HO_163001.out BK162.out (by decide)) (fun _ hk => hk.2) (.slice Ao61 y181.length co61)) (fun _ hk => ⟨hk.1.1.1, ⟨hk.1.1.2.1, hk.1.1.2.2⟩⟩)⟩, ⟨by (with_reducible repeat (first | apply Kd.S_alloc | apply Kd.S_drewN | apply Kd.S_drew)); exact Kd.S_mono (Kd.S_far (p := ⟨gb162, 2, none⟩) (Kd.S_types HO183.out BK162.out (by decide)) (fun _ hk => hk.2) (.slice Ao61 y181.length co61)) (fun _ hk => ⟨hk.1.1, ⟨hk.1.2.2.1, ⟨hk.1.2.2.2.1, ⟨hk.1.2.2.2.2, hk.1.2.1⟩⟩⟩⟩)⟩, ⟨by (with_reducible repeat (first | refine bN ?_ _ | refine bD ?_ | refine bA ?_ _)); refine bF ?_ NB158_162.out _; (with_reducible repeat (first | refine bN ?_ _ | refine bD ?_ | refine bA ?_ _)); exact BK158.out⟩, ⟨by (with_reducible repeat (first | refine bN ?_ _ | refine bD ?_ | refine bA ?_ _)); refine blk_put (cs := #[.slice Ao53 y174.length co53, .slice Ao26 y159.length co26, u163002]) ?_ 2 _ rfl; (with_reducible repeat (first | refine bN ?_ _ | refine bD ?_ | refine bA ?_ _)); exact BK162.out⟩, ⟨by repeat (first | (with_reducible first | exact HB.out | apply cA | apply cN | apply cD | refine cS ?_ GE158.out | refine cS ?_ GE162.out) | exact HB.out)⟩⟩
            ·rw [if_neg c37] at H
             exact absurd H (by simp)
           ·rw [if_neg c36] at H
            exact absurd H (by simp)
          ·rw [if_neg c34] at H
           exact absurd H (by simp)
         ·rw [if_neg c33] at H
          exact absurd H (by simp)
        ·rw [if_neg c32] at H
         exact absurd H (by simp)
       ·rw [if_neg c31] at H
        exact absurd H (by simp)
      ·rw [if_neg c30] at H
       have c30b0 : decide (x9_2 < (l0.length : Int)) = false := decide_eq_false c30
       clear c30
       replace H := Option.bind_eq_some_iff.mp H
       obtain ⟨t184, A630, H⟩ := H
       replace H : ((curve_CheckGrid.f k2 y152 x159001_2 x159002_2).bind fun t185 => (if t185 = 0 then ((curve_CheckGrid.f k2 x163000_2 y159 x163002_2).bind fun t186 => (if t186 = 0 then ((curve_Value.f k2 y152 x159001_2 x159002_2 a1 a2).bind fun t187 => (if t187 = t184 then ((curve_Value.f k2 x163000_2 y159 x163002_2 a2 a1).bind fun t188 => (if t188 = t184 then ((sawmilllaw08_awake.f k2).bind fun t189 => (some t189)) else (some false))) else (some false))) else (some false))) else (some false))) = some r := H
       have A63 := Aside0.mk A630
       clear A630
       replace H := Option.bind_eq_some_iff.mp H
       obtain ⟨t185, A640, H⟩ := H
       replace H : (if t185 = 0 then ((curve_CheckGrid.f k2 x163000_2 y159 x163002_2).bind fun t186 => (if t186 = 0 then ((curve_Value.f k2 y152 x159001_2 x159002_2 a1 a2).bind fun t187 => (if t187 = t184 then ((curve_Value.f k2 x163000_2 y159 x163002_2 a2 a1).bind fun t188 => (if t188 = t184 then ((sawmilllaw08_awake.f k2).bind fun t189 => (some t189)) else (some false))) else (some false))) else (some false))) else (some false)) = some r := H
       have A64 := Aside0.mk A640
       clear A640
       by_cases c65 : t185 = 0
       ·rw [if_pos c65] at H
        have c65b0 : (t185 == 0) = true := beq_iff_eq.mpr c65
        have c65b1 : (t185 != 0) = false := bne_eq_false_iff_eq.mpr c65
        clear c65
        replace H := Option.bind_eq_some_iff.mp H
        obtain ⟨t186, A660, H⟩ := H
        replace H : (if t186 = 0 then ((curve_Value.f k2 y152 x159001_2 x159002_2 a1 a2).bind fun t187 => (if t187 = t184 then ((curve_Value.f k2 x163000_2 y159 x163002_2 a2 a1).bind fun t188 => (if t188 = t184 then ((sawmilllaw08_awake.f k2).bind fun t189 => (some t189)) else (some false))) else (some false))) else (some false)) = some r := H
        have A66 := Aside0.mk A660
        clear A660
        by_cases c67 : t186 = 0
        ·rw [if_pos c67] at H
         have c67b0 : (t186 == 0) = true := beq_iff_eq.mpr c67
         have c67b1 : (t186 != 0) = false := bne_eq_false_iff_eq.mpr c67
         clear c67
         replace H := Option.bind_eq_some_iff.mp H
         obtain ⟨t187, A680, H⟩ := H
         replace H : (if t187 = t184 then ((curve_Value.f k2 x163000_2 y159 x163002_2 a2 a1).bind fun t188 => (if t188 = t184 then ((sawmilllaw08_awake.f k2).bind fun t189 => (some t189)) else (some false))) else (some false)) = some r := H
         have A68 := Aside0.mk A680
         clear A680
         by_cases c69 : t187 = t184
         ·rw [if_pos c69] at H
          have c69b0 : (t187 == t184) = true := beq_iff_eq.mpr c69
          have c69b1 : (t187 != t184) = false := bne_eq_false_iff_eq.mpr c69
          clear c69
          replace H := Option.bind_eq_some_iff.mp H
          obtain ⟨t188, A700, H⟩ := H
          replace H : (if t188 = t184 then ((sawmilllaw08_awake.f k2).bind fun t189 => (some t189)) else (some false)) = some r := H
          have A70 := Aside0.mk A700
          clear A700
          by_cases c71 : t188 = t184
          ·rw [if_pos c71] at H
           have c71b0 : (t188 == t184) = true := beq_iff_eq.mpr c71
           have c71b1 : (t188 != t184) = false := bne_eq_false_iff_eq.mpr c71
           clear c71
           replace H := Option.bind_eq_some_iff.mp H
           obtain ⟨t189, A720, H⟩ := H
           replace H : (some t189) = some r := H
           have A72 := Aside0.mk A720
           clear A720
           obtain rfl := Option.some.inj H
           go_wp2_with (first | ((with_reducible refine gate_callee (f := 17) rfl ?_); refine goesL_ (some 88) rfl rfl Try.func17 (by kernel_rfl) rfl #[.slice A0 l0.length c0, .int .i64 a2] rfl (by (try simp only [List.map_toArray, List.map_cons, List.map_nil]); first | done | rfl | (simp only [List.length_drop, List.length_take]; rfl)) ?_; (with_reducible refine (curve_At.calls k2 _ _ l0 a2 t184 _ ?side1 ?side2 A63.out).mono ?_); (case side1 => repeat (first | exact (Kd.C_below HR0.out HB.out) | (with_reducible refine Kd.C_alloc ?_ _) | (with_reducible refine Kd.C_drewN ?_ _) | (with_reducible refine Kd.C_drew ?_))); (case side2 => exact HC0.out); rintro e w73 ⟨rfl, hb⟩; refine ⟨_, rfl, ?_⟩; have n0_ := Aside0.mk (Kd.R_below (by (with_reducible repeat (first | apply Kd.R_alloc | apply Kd.R_drewN | apply Kd.R_drew)); exact HO_159000.out) hb); have n1_ := Aside0.mk (Kd.R_below (by (with_reducible repeat (first | apply Kd.R_alloc | apply Kd.R_drewN | apply Kd.R_drew)); exact HO_159001.out) hb); have n2_ := Aside0.mk (Kd.S_below (by (with_reducible repeat (first | apply Kd.S_alloc | apply Kd.S_drewN | apply Kd.S_drew)); exact HO_159002.out) hb); have n3_ := Aside0.mk (Kd.R_below (by (with_reducible repeat (first | apply Kd.R_alloc | apply Kd.R_drewN | apply Kd.R_drew)); exact HO_163000.out) hb); have n4_ := Aside0.mk (Kd.R_below (by (with_reducible repeat (first | apply Kd.R_alloc | apply Kd.R_drewN | apply Kd.R_drew)); exact HO_163001.out) hb); have n5_ := Aside0.mk (Kd.S_below (by (with_reducible repeat (first | apply Kd.S_alloc | apply Kd.S_drewN | apply Kd.S_drew)); exact HO_163002.out) hb); have n6_ := Aside0.mk (blk_below (Up.blk BK158.out) hb); have n7_ := Aside0.mk (blk_below (Up.blk BK162.out) hb); have n8_ := Aside0.mk (below_step (by repeat (first | (with_reducible first | exact HB.out | apply cA | apply cN | apply cD | refine cS ?_ GE158.out | refine cS ?_ GE162.out) | exact HB.out)) hb); clear HO_159000; clear HO_159001; clear HO_159002; clear HO_163000; clear HO_163001; clear HO_163002; clear BK158; clear BK162; clear HB; have HO_159000 := n0_; have HO_159001 := n1_; have HO_159002 := n2_; have HO_163000 := n3_; have HO_163001 := n4_; have HO_163002 := n5_; have BK158 := n6_; have BK162 := n7_; have HB := n8_; clear n0_ n1_ n2_ n3_ n4_ n5_ n6_ n7_ n8_; (try clear hb); (try clear hb2); (try clear hk); (try clear hi); have hnb74 := NB158_162.out; have hnc74 := NB162_158.out; have hcz75_0 : w73.cell? ⟨gb158, 0, none⟩ = some (.slice Ao21 y152.length co21) := (blk_cell BK158.out 0).trans rfl; have hcz75_1 : w73.cell? ⟨gb158, 1, none⟩ = some (u159001) := (blk_cell BK158.out 1).trans rfl; have hcz75_2 : w73.cell? ⟨gb158, 2, none⟩ = some (u159002) := (blk_cell BK158.out 2).trans rfl; have hfz75_0 := blk_frozen BK158.out 0; have hfz75_1 := blk_frozen BK158.out 1; have hfz75_2 := blk_frozen BK158.out 2; obtain ⟨Ao76, co76, eo76⟩ := Kd.R_slice HO_159001.out; subst eo76; obtain ⟨Ao77, co77, eo77⟩ := Kd.S_slice HO_159002.out; subst eo77) | ((with_reducible refine gate_callee (f := 18) rfl ?_); refine goesL_ (some 90) rfl rfl Try.func18 (by kernel_rfl) rfl #[.agg #[.slice Ao21 y152.length co21, .slice Ao76 x159001_2.length co76, .slice Ao77 x159002_2.length co77]] rfl (by (try simp only [List.map_toArray, List.map_cons, List.map_nil]); first | done | rfl | (simp only [List.length_drop, List.length_take]; rfl)) ?_; (with_reducible refine (curve_CheckGrid.calls k2 _ _ y152 _ _ x159001_2 _ _ x159002_2 t185 _ ?side1 ?side2 ?side3 ?side4 ?side5 ?side6 A64.out).mono ?_); (case side1 => repeat (first | exact (Kd.R_reads' HO_159000.out).2.2 | (with_reducible refine Kd.C_alloc ?_ _) | (with_reducible refine Kd.C_drewN ?_ _) | (with_reducible refine Kd.C_drew ?_))); (case side2 => exact (Kd.R_reads' HO_159000.out).2.1); (case side3 => repeat (first | exact (Kd.R_reads' HO_159001.out).2.2 | (with_reducible refine Kd.C_alloc ?_ _) | (with_reducible refine Kd.C_drewN ?_ _) | (with_reducible refine Kd.C_drew ?_))); (case side4 => exact (Kd.R_reads' HO_159001.out).2.1); (case side5 => repeat (first | exact (Kd.S_reads' HO_159002.out).2.2 | (with_reducible refine Kd.C_alloc ?_ _) | (with_reducible refine Kd.C_drewN ?_ _) | (with_reducible refine Kd.C_drew ?_))); (case side6 => exact (Kd.S_reads' HO_159002.out).2.1); rintro e w78 ⟨rfl, hb⟩; refine ⟨_, rfl, ?_⟩; have n0_ := Aside0.mk (Kd.R_below (by (with_reducible repeat (first | apply Kd.R_alloc | apply Kd.R_drewN | apply Kd.R_drew)); exact HO_159000.out) hb); have n1_ := Aside0.mk (Kd.R_below (by (with_reducible repeat (first | apply Kd.R_alloc | apply Kd.R_drewN | apply Kd.R_drew)); exact HO_159001.out) hb); have n2_ := Aside0.mk (Kd.S_below (by (with_reducible repeat (first | apply Kd.S_alloc | apply Kd.S_drewN | apply Kd.S_drew)); exact HO_159002.out) hb); have n3_ := Aside0.mk (Kd.R_below (by (with_reducible repeat (first | apply Kd.R_alloc | apply Kd.R_drewN | apply Kd.R_drew)); exact HO_163000.out) hb); have n4_ := Aside0.mk (Kd.R_below (by (with_reducible repeat (first | apply Kd.R_alloc | apply Kd.R_drewN | apply Kd.R_drew)); exact HO_163001.out) hb); have n5_ := Aside0.mk (Kd.S_below (by (with_reducible repeat (first | apply Kd.S_alloc | apply Kd.S_drewN | apply Kd.S_drew)); exact HO_163002.out) hb); have n6_ := Aside0.mk (blk_below (Up.blk BK158.out) hb); have n7_ := Aside0.mk (blk_below (Up.blk BK162.out) hb); have n8_ := Aside0.mk (below_step (by repeat (first | (with_reducible first | exact HB.out | apply cA | apply cN | apply cD | refine cS ?_ GE158.out | refine cS ?_ GE162.out) | exact HB.out)) hb); clear HO_159000; clear HO_159001; clear HO_159002; clear HO_163000; clear HO_163001; clear HO_163002; clear BK158; clear BK162; clear HB; have HO_159000 := n0_; have HO_159001 := n1_; have HO_159002 := n2_; have HO_163000 := n3_; have HO_163001 := n4_; have HO_163002 := n5_; have BK158 := n6_; have BK162 := n7_; have HB := n8_; clear n0_ n1_ n2_ n3_ n4_ n5_ n6_ n7_ n8_; (try clear hb); (try clear hb2); (try clear hk); (try clear hi); have hcz79_0 : w78.cell? ⟨gb162, 0, none⟩ = some (u163000) := (blk_cell BK162.out 0).trans rfl; have hcz79_1 : w78.cell? ⟨gb162, 1, none⟩ = some (.slice Ao26 y159.length co26) := (blk_cell BK162.out 1).trans rfl; have hcz79_2 : w78.cell? ⟨gb162, 2, none⟩ = some (u163002) := (blk_cell BK162.out 2).trans rfl; have hfz79_0 := blk_frozen BK162.out 0; have hfz79_1 := blk_frozen BK162.out 1; have hfz79_2 := blk_frozen BK162.out 2; obtain ⟨Ao80, co80, eo80⟩ := Kd.R_slice HO_163000.out; subst eo80; obtain ⟨Ao81, co81, eo81⟩ := Kd.S_slice HO_163002.out; subst eo81) | (go_at_call 18; (with_reducible refine (curve_CheckGrid.calls k2 _ _ x163000_2 _ _ y159 _ _ x163002_2 t186 _ ?side1 ?side2 ?side3 ?side4 ?side5 ?side6 A66.out).mono ?_); (case side1 => repeat (first | exact (Kd.R_reads' HO_163000.out).2.2 | (with_reducible refine Kd.C_alloc ?_ _) | (with_reducible refine Kd.C_drewN ?_ _) | (with_reducible refine Kd.C_drew ?_))); (case side2 => exact (Kd.R_reads' HO_163000.out).2.1); (case side3 => repeat (first | exact (Kd.R_reads' HO_163001.out).2.2 | (with_reducible refine Kd.C_alloc ?_ _) | (with_reducible refine Kd.C_drewN ?_ _) | (with_reducible refine Kd.C_drew ?_))); (case side4 => exact (Kd.R_reads' HO_163001.out).2.1); (case side5 => repeat (first | exact (Kd.S_reads' HO_163002.out).2.2 | (with_reducible refine Kd.C_alloc ?_ _) | (with_reducible refine Kd.C_drewN ?_ _) | (with_reducible refine Kd.C_drew ?_))); (case side6 => exact (Kd.S_reads' HO_163002.out).2.1); rintro e w82 ⟨rfl, hb⟩; have n0_ := Aside0.mk (Kd.R_below (by (with_reducible repeat (first | apply Kd.R_alloc | apply Kd.R_drewN | apply Kd.R_drew)); exact HO_159000.out) hb); have n1_ := Aside0.mk (Kd.R_below (by (with_reducible repeat (first | apply Kd.R_alloc | apply Kd.R_drewN | apply Kd.R_drew)); exact HO_159001.out) hb); have n2_ := Aside0.mk (Kd.S_below (by (with_reducible repeat (first | apply Kd.S_alloc | apply Kd.S_drewN | apply Kd.S_drew)); exact HO_159002.out) hb); have n3_ := Aside0.mk (Kd.R_below (by (with_reducible repeat (first | apply Kd.R_alloc | apply Kd.R_drewN | apply Kd.R_drew)); exact HO_163000.out) hb); have n4_ := Aside0.mk (Kd.R_below (by (with_reducible repeat (first | apply Kd.R_alloc | apply Kd.R_drewN | apply Kd.R_drew)); exact HO_163001.out) hb); have n5_ := Aside0.mk (Kd.S_below (by (with_reducible repeat (first | apply Kd.S_alloc | apply Kd.S_drewN | apply Kd.S_drew)); exact HO_163002.out) hb); have n6_ := Aside0.mk (blk_below (Up.blk BK158.out) hb); have n7_ := Aside0.mk (blk_below (Up.blk BK162.out) hb); have n8_ := Aside0.mk (below_step (by repeat (first | (with_reducible first | exact HB.out | apply cA | apply cN | apply cD | refine cS ?_ GE158.out | refine cS ?_ GE162.out) | exact HB.out)) hb); clear HO_159000; clear HO_159001; clear HO_159002; clear HO_163000; clear HO_163001; clear HO_163002; clear BK158; clear BK162; clear HB; have HO_159000 := n0_; have HO_159001 := n1_; have HO_159002 := n2_; have HO_163000 := n3_; have HO_163001 := n4_; have HO_163002 := n5_; have BK158 := n6_; have BK162 := n7_; have HB := n8_; clear n0_ n1_ n2_ n3_ n4_ n5_ n6_ n7_ n8_; (try clear hb); (try clear hb2); (try clear hk); (try clear hi); have hcz83_0 : w82.cell? ⟨gb158, 0, none⟩ = some (.slice Ao21 y152.length co21) := (blk_cell BK158.out 0).trans rfl; have hcz83_1 : w82.cell? ⟨gb158, 1, none⟩ = some (.slice Ao76 x159001_2.length co76) := (blk_cell BK158.out 1).trans rfl; have hcz83_2 : w82.cell? ⟨gb158, 2, none⟩ = some (.slice Ao77 x159002_2.length co77) := (blk_cell BK158.out 2).trans rfl; have hfz83_0 := blk_frozen BK158.out 0; have hfz83_1 := blk_frozen BK158.out 1; have hfz83_2 := blk_frozen BK158.out 2) | (go_at_call 14; (with_reducible refine (curve_Value.calls k2 _ _ y152 _ _ x159001_2 _ _ x159002_2 a1 a2 t187 _ ?side1 ?side2 ?side3 ?side4 ?side5 ?side6 A68.out).mono ?_); (case side1 => repeat (first | exact (Kd.R_reads' HO_159000.out).2.2 | (with_reducible refine Kd.C_alloc ?_ _) | (with_reducible refine Kd.C_drewN ?_ _) | (with_reducible refine Kd.C_drew ?_))); (case side2 => exact (Kd.R_reads' HO_159000.out).2.1); (case side3 => repeat (first | exact (Kd.R_reads' HO_159001.out).2.2 | (with_reducible refine Kd.C_alloc ?_ _) | (with_reducible refine Kd.C_drewN ?_ _) | (with_reducible refine Kd.C_drew ?_))); (case side4 => exact (Kd.R_reads' HO_159001.out).2.1); (case side5 => repeat (first | exact (Kd.S_reads' HO_159002.out).2.2 | (with_reducible refine Kd.C_alloc ?_ _) | (with_reducible refine Kd.C_drewN ?_ _) | (with_reducible refine Kd.C_drew ?_))); (case side6 => exact (Kd.S_reads' HO_159002.out).2.1); rintro e w84 ⟨rfl, hb⟩; have n0_ := Aside0.mk (Kd.R_below (by (with_reducible repeat (first | apply Kd.R_alloc | apply Kd.R_drewN | apply Kd.R_drew)); exact HO_159000.out) hb); have n1_ := Aside0.mk (Kd.R_below (by (with_reducible repeat (first | apply Kd.R_alloc | apply Kd.R_drewN | apply Kd.R_drew)); exact HO_159001.out) hb); have n2_ := Aside0.mk (Kd.S_below (by (with_reducible repeat (first | apply Kd.S_alloc | apply Kd.S_drewN | apply Kd.S_drew)); exact HO_159002.out) hb); have n3_ := Aside0.mk (Kd.R_below (by (with_reducible repeat (first | apply Kd.R_alloc | apply Kd.R_drewN | apply Kd.R_drew)); exact HO_163000.out) hb); have n4_ := Aside0.mk (Kd.R_below (by (with_reducible repeat (first | apply Kd.R_alloc | apply Kd.R_drewN | apply Kd.R_drew)); exact HO_163001.out) hb); have n5_ := Aside0.mk (Kd.S_below (by (with_reducible repeat (first | apply Kd.S_alloc | apply Kd.S_drewN | apply Kd.S_drew)); exact HO_163002.out) hb); have n6_ := Aside0.mk (blk_below (Up.blk BK158.out) hb); have n7_ := Aside0.mk (blk_below (Up.blk BK162.out) hb); have n8_ := Aside0.mk (below_step (by repeat (first | (with_reducible first | exact HB.out | apply cA | apply cN | apply cD | refine cS ?_ GE158.out | refine cS ?_ GE162.out) | exact HB.out)) hb); clear HO_159000; clear HO_159001; clear HO_159002; clear HO_163000; clear HO_163001; clear HO_163002; clear BK158; clear BK162; clear HB; have HO_159000 := n0_; have HO_159001 := n1_; have HO_159002 := n2_; have HO_163000 := n3_; have HO_163001 := n4_; have HO_163002 := n5_; have BK158 := n6_; have BK162 := n7_; have HB := n8_; clear n0_ n1_ n2_ n3_ n4_ n5_ n6_ n7_ n8_; (try clear hb); (try clear hb2); (try clear hk); (try clear hi); have hcz85_0 : w84.cell? ⟨gb162, 0, none⟩ = some (.slice Ao80 x163000_2.length co80) := (blk_cell BK162.out 0).trans rfl; have hcz85_1 : w84.cell? ⟨gb162, 1, none⟩ = some (.slice Ao26 y159.length co26) := (blk_cell BK162.out 1).trans rfl; have hcz85_2 : w84.cell? ⟨gb162, 2, none⟩ = some (.slice Ao81 x163002_2.length co81) := (blk_cell BK162.out 2).trans rfl; have hfz85_0 := blk_frozen BK162.out 0; have hfz85_1 := blk_frozen BK162.out 1; have hfz85_2 := blk_frozen BK162.out 2) | (go_at_call 14; (with_reducible refine (curve_Value.calls k2 _ _ x163000_2 _ _ y159 _ _ x163002_2 a2 a1 t188 _ ?side1 ?side2 ?side3 ?side4 ?side5 ?side6 A70.out).mono ?_); (case side1 => repeat (first | exact (Kd.R_reads' HO_163000.out).2.2 | (with_reducible refine Kd.C_alloc ?_ _) | (with_reducible refine Kd.C_drewN ?_ _) | (with_reducible refine Kd.C_drew ?_))); (case side2 => exact (Kd.R_reads' HO_163000.out).2.1); (case side3 => repeat (first | exact (Kd.R_reads' HO_163001.out).2.2 | (with_reducible refine Kd.C_alloc ?_ _) | (with_reducible refine Kd.C_drewN ?_ _) | (with_reducible refine Kd.C_drew ?_))); (case side4 => exact (Kd.R_reads' HO_163001.out).2.1); (case side5 => repeat (first | exact (Kd.S_reads' HO_163002.out).2.2 | (with_reducible refine Kd.C_alloc ?_ _) | (with_reducible refine Kd.C_drewN ?_ _) | (with_reducible refine Kd.C_drew ?_))); (case side6 => exact (Kd.S_reads' HO_163002.out).2.1); rintro e w86 ⟨rfl, hb⟩; have n0_ := Aside0.mk (Kd.R_below (by (with_reducible repeat (first | apply Kd.R_alloc | apply Kd.R_drewN | apply Kd.R_drew)); exact HO_159000.out) hb); have n1_ := Aside0.mk (Kd.R_below (by (with_reducible repeat (first | apply Kd.R_alloc | apply Kd.R_drewN | apply Kd.R_drew)); exact HO_159001.out) hb); have n2_ := Aside0.mk (Kd.S_below (by (with_reducible repeat (first | apply Kd.S_alloc | apply Kd.S_drewN | apply Kd.S_drew)); exact HO_159002.out) hb); have n3_ := Aside0.mk (Kd.R_below (by (with_reducible repeat (first | apply Kd.R_alloc | apply Kd.R_drewN | apply Kd.R_drew)); exact HO_163000.out) hb); have n4_ := Aside0.mk (Kd.R_below (by (with_reducible repeat (first | apply Kd.R_alloc | apply Kd.R_drewN | apply Kd.R_drew)); exact HO_163001.out) hb); have n5_ := Aside0.mk (Kd.S_below (by (with_reducible repeat (first | apply Kd.S_alloc | apply Kd.S_drewN | apply Kd.S_drew)); exact HO_163002.out) hb); have n6_ := Aside0.mk (blk_below (Up.blk BK158.out) hb); have n7_ := Aside0.mk (blk_below (Up.blk BK162.out) hb); have n8_ := Aside0.mk (below_step (by repeat (first | (with_reducible first | exact HB.out | apply cA | apply cN | apply cD | refine cS ?_ GE158.out | refine cS ?_ GE162.out) | exact HB.out)) hb); clear HO_159000; clear HO_159001; clear HO_159002; clear HO_163000; clear HO_163001; clear HO_163002; clear BK158; clear BK162; clear HB; have HO_159000 := n0_; have HO_159001 := n1_; have HO_159002 := n2_; have HO_163000 := n3_; have HO_163001 := n4_; have HO_163002 := n5_; have BK158 := n6_; have BK162 := n7_; have HB := n8_; clear n0_ n1_ n2_ n3_ n4_ n5_ n6_ n7_ n8_; (try clear hb); (try clear hb2); (try clear hk); (try clear hi)) | (go_at_call 13; (with_reducible refine (sawmilllaw08_awake.calls k2  t189 _ A72.out).mono ?_); rintro e w87 ⟨rfl, hb⟩; have n0_ := Aside0.mk (Kd.R_below (by (with_reducible repeat (first | apply Kd.R_alloc | apply Kd.R_drewN | apply Kd.R_drew)); exact HO_159000.out) hb); have n1_ := Aside0.mk (Kd.R_below (by (with_reducible repeat (first | apply Kd.R_alloc | apply Kd.R_drewN | apply Kd.R_drew)); exact HO_159001.out) hb); have n2_ := Aside0.mk (Kd.S_below (by (with_reducible repeat (first | apply Kd.S_alloc | apply Kd.S_drewN | apply Kd.S_drew)); exact HO_159002.out) hb); have n3_ := Aside0.mk (Kd.R_below (by (with_reducible repeat (first | apply Kd.R_alloc | apply Kd.R_drewN | apply Kd.R_drew)); exact HO_163000.out) hb); have n4_ := Aside0.mk (Kd.R_below (by (with_reducible repeat (first | apply Kd.R_alloc | apply Kd.R_drewN | apply Kd.R_drew)); exact HO_163001.out) hb); have n5_ := Aside0.mk (Kd.S_below (by (with_reducible repeat (first | apply Kd.S_alloc | apply Kd.S_drewN | apply Kd.S_drew)); exact HO_163002.out) hb); have n6_ := Aside0.mk (blk_below (Up.blk BK158.out) hb); have n7_ := Aside0.mk (blk_below (Up.blk BK162.out) hb); have n8_ := Aside0.mk (below_step (by repeat (first | (with_reducible first | exact HB.out | apply cA | apply cN | apply cD | refine cS ?_ GE158.out | refine cS ?_ GE162.out) | exact HB.out)) hb); clear HO_159000; clear HO_159001; clear HO_159002; clear HO_163000; clear HO_163001; clear HO_163002; clear BK158; clear BK162; clear HB; have HO_159000 := n0_; have HO_159001 := n1_; have HO_159002 := n2_; have HO_163000 := n3_; have HO_163001 := n4_; have HO_163002 := n5_; have BK158 := n6_; have BK162 := n7_; have HB := n8_; clear n0_ n1_ n2_ n3_ n4_ n5_ n6_ n7_ n8_; (try clear hb); (try clear hb2); (try clear hk); (try clear hi)))
           go_ret
           exact ⟨by first | rfl | (simp [errW_none, errW_some] <;> rfl) | (simp [*, errW_none, errW_some] <;> rfl), by repeat (first | (with_reducible first | exact HB.out | apply cA | apply cN | apply cD | refine cS ?_ GE158.out | refine cS ?_ GE162.out) | exact HB.out)⟩
          ·rw [if_neg c71] at H
           have c71b0 : (t188 == t184) = false := beq_eq_false_iff_ne.mpr c71
           have c71b1 : (t188 != t184) = true := bne_iff_ne.mpr c71
           obtain rfl := Option.some.inj H
           go_wp2_with (first | ((with_reducible refine gate_callee (f := 17) rfl ?_); refine goesL_ (some 88) rfl rfl Try.func17 (by kernel_rfl) rfl #[.slice A0 l0.length c0, .int .i64 a2] rfl (by (try simp only [List.map_toArray, List.map_cons, List.map_nil]); first | done | rfl | (simp only [List.length_drop, List.length_take]; rfl)) ?_; (with_reducible refine (curve_At.calls k2 _ _ l0 a2 t184 _ ?side1 ?side2 A63.out).mono ?_); (case side1 => repeat (first | exact (Kd.C_below HR0.out HB.out) | (with_reducible refine Kd.C_alloc ?_ _) | (with_reducible refine Kd.C_drewN ?_ _) | (with_reducible refine Kd.C_drew ?_))); (case side2 => exact HC0.out); rintro e w88 ⟨rfl, hb⟩; refine ⟨_, rfl, ?_⟩; have n0_ := Aside0.mk (Kd.R_below (by (with_reducible repeat (first | apply Kd.R_alloc | apply Kd.R_drewN | apply Kd.R_drew)); exact HO_159000.out) hb); have n1_ := Aside0.mk (Kd.R_below (by (with_reducible repeat (first | apply Kd.R_alloc | apply Kd.R_drewN | apply Kd.R_drew)); exact HO_159001.out) hb); have n2_ := Aside0.mk (Kd.S_below (by (with_reducible repeat (first | apply Kd.S_alloc | apply Kd.S_drewN | apply Kd.S_drew)); exact HO_159002.out) hb); have n3_ := Aside0.mk (Kd.R_below (by (with_reducible repeat (first | apply Kd.R_alloc | apply Kd.R_drewN | apply Kd.R_drew)); exact HO_163000.out) hb); have n4_ := Aside0.mk (Kd.R_below (by (with_reducible repeat (first | apply Kd.R_alloc | apply Kd.R_drewN | apply Kd.R_drew)); exact HO_163001.out) hb); have n5_ := Aside0.mk (Kd.S_below (by (with_reducible repeat (first | apply Kd.S_alloc | apply Kd.S_drewN | apply Kd.S_drew)); exact HO_163002.out) hb); have n6_ := Aside0.mk (blk_below (Up.blk BK158.out) hb); have n7_ := Aside0.mk (blk_below (Up.blk BK162.out) hb); have n8_ := Aside0.mk (below_step (by repeat (first | (with_reducible first | exact HB.out | apply cA | apply cN | apply cD | refine cS ?_ GE158.out | refine cS ?_ GE162.out) | exact HB.out)) hb); clear HO_159000; clear HO_159001; clear HO_159002; clear HO_163000; clear HO_163001; clear HO_163002; clear BK158; clear BK162; clear HB; have HO_159000 := n0_; have HO_159001 := n1_; have HO_159002 := n2_; have HO_163000 := n3_; have HO_163001 := n4_; have HO_163002 := n5_; have BK158 := n6_; have BK162 := n7_; have HB := n8_; clear n0_ n1_ n2_ n3_ n4_ n5_ n6_ n7_ n8_; (try clear hb); (try clear hb2); (try clear hk); (try clear hi); have hnb89 := NB158_162.out; have hnc89 := NB162_158.out; have hcz90_0 : w88.cell? ⟨gb158, 0, none⟩ = some (.slice Ao21 y152.length co21) := (blk_cell BK158.out 0).trans rfl; have hcz90_1 : w88.cell? ⟨gb158, 1, none⟩ = some (u159001) := (blk_cell BK158.out 1).trans rfl; have hcz90_2 : w88.cell? ⟨gb158, 2, none⟩ = some (u159002) := (blk_cell BK158.out 2).trans rfl; have hfz90_0 := blk_frozen BK158.out 0; have hfz90_1 := blk_frozen BK158.out 1; have hfz90_2 := blk_frozen BK158.out 2; obtain ⟨Ao91, co91, eo91⟩ := Kd.R_slice HO_159001.out; subst eo91; obtain ⟨Ao92, co92, eo92⟩ := Kd.S_slice HO_159002.out; subst eo92) | ((with_reducible refine gate_callee (f := 18) rfl ?_); refine goesL_ (some 90) rfl rfl Try.func18 (by kernel_rfl) rfl #[.agg #[.slice Ao21 y152.length co21, .slice Ao91 x159001_2.length co91, .slice Ao92 x159002_2.length co92]] rfl (by (try simp only [List.map_toArray, List.map_cons, List.map_nil]); first | done | rfl | (simp only [List.length_drop, List.length_take]; rfl)) ?_; (with_reducible refine (curve_CheckGrid.calls k2 _ _ y152 _ _ x159001_2 _ _ x159002_2 t185 _ ?side1 ?side2 ?side3 ?side4 ?side5 ?side6 A64.out).mono ?_); (case side1 => repeat (first | exact (Kd.R_reads' HO_159000.out).2.2 | (with_reducible refine Kd.C_alloc ?_ _) | (with_reducible refine Kd.C_drewN ?_ _) | (with_reducible refine Kd.C_drew ?_))); (case side2 => exact (Kd.R_reads' HO_159000.out).2.1); (case side3 => repeat (first | exact (Kd.R_reads' HO_159001.out).2.2 | (with_reducible refine Kd.C_alloc ?_ _) | (with_reducible refine Kd.C_drewN ?_ _) | (with_reducible refine Kd.C_drew ?_))); (case side4 => exact (Kd.R_reads' HO_159001.out).2.1); (case side5 => repeat (first | exact (Kd.S_reads' HO_159002.out).2.2 | (with_reducible refine Kd.C_alloc ?_ _) | (with_reducible refine Kd.C_drewN ?_ _) | (with_reducible refine Kd.C_drew ?_))); (case side6 => exact (Kd.S_reads' HO_159002.out).2.1); rintro e w93 ⟨rfl, hb⟩; refine ⟨_, rfl, ?_⟩; have n0_ := Aside0.mk (Kd.R_below (by (with_reducible repeat (first | apply Kd.R_alloc | apply Kd.R_drewN | apply Kd.R_drew)); exact HO_159000.out) hb); have n1_ := Aside0.mk (Kd.R_below (by (with_reducible repeat (first | apply Kd.R_alloc | apply Kd.R_drewN | apply Kd.R_drew)); exact HO_159001.out) hb); have n2_ := Aside0.mk (Kd.S_below (by (with_reducible repeat (first | apply Kd.S_alloc | apply Kd.S_drewN | apply Kd.S_drew)); exact HO_159002.out) hb); have n3_ := Aside0.mk (Kd.R_below (by (with_reducible repeat (first | apply Kd.R_alloc | apply Kd.R_drewN | apply Kd.R_drew)); exact HO_163000.out) hb); have n4_ := Aside0.mk (Kd.R_below (by (with_reducible repeat (first | apply Kd.R_alloc | apply Kd.R_drewN | apply Kd.R_drew)); exact HO_163001.out) hb); have n5_ := Aside0.mk (Kd.S_below (by (with_reducible repeat (first | apply Kd.S_alloc | apply Kd.S_drewN | apply Kd.S_drew)); exact HO_163002.out) hb); have n6_ := Aside0.mk (blk_below (Up.blk BK158.out) hb); have n7_ := Aside0.mk (blk_below (Up.blk BK162.out) hb); have n8_ := Aside0.mk (below_step (by repeat (first | (with_reducible first | exact HB.out | apply cA | apply cN | apply cD | refine cS ?_ GE158.out | refine cS ?_ GE162.out) | exact HB.out)) hb); clear HO_159000; clear HO_159001; clear HO_159002; clear HO_163000; clear HO_163001; clear HO_163002; clear BK158; clear BK162; clear HB; have HO_159000 := n0_; have HO_159001 := n1_; have HO_159002 := n2_; have HO_163000 := n3_; have HO_163001 := n4_; have HO_163002 := n5_; have BK158 := n6_; have BK162 := n7_; have HB := n8_; clear n0_ n1_ n2_ n3_ n4_ n5_ n6_ n7_ n8_; (try clear hb); (try clear hb2); (try clear hk); (try clear hi); have hcz94_0 : w93.cell? ⟨gb162, 0, none⟩ = some (u163000) := (blk_cell BK162.out 0).trans rfl; have hcz94_1 : w93.cell? ⟨gb162, 1, none⟩ = some (.slice Ao26 y159.length co26) := (blk_cell BK162.out 1).trans rfl; have hcz94_2 : w93.cell? ⟨gb162, 2, none⟩ = some (u163002) := (blk_cell BK162.out 2).trans rfl; have hfz94_0 := blk_frozen BK162.out 0; have hfz94_1 := blk_frozen BK162.out 1; have hfz94_2 := blk_frozen BK162.out 2; obtain ⟨Ao95, co95, eo95⟩ := Kd.R_slice HO_163000.out; subst eo95; obtain ⟨Ao96, co96, eo96⟩ := Kd.S_slice HO_163002.out; subst eo96) | (go_at_call 18; (with_reducible refine (curve_CheckGrid.calls k2 _ _ x163000_2 _ _ y159 _ _ x163002_2 t186 _ ?side1 ?side2 ?side3 ?side4 ?side5 ?side6 A66.out).mono ?_); (case side1 => repeat (first | exact (Kd.R_reads' HO_163000.out).2.2 | (with_reducible refine Kd.C_alloc ?_ _) | (with_reducible refine Kd.C_drewN ?_ _) | (with_reducible refine Kd.C_drew ?_))); (case side2 => exact (Kd.R_reads' HO_163000.out).2.1); (case side3 => repeat (first | exact (Kd.R_reads' HO_163001.out).2.2 | (with_reducible refine Kd.C_alloc ?_ _) | (with_reducible refine Kd.C_drewN ?_ _) | (with_reducible refine Kd.C_drew ?_))); (case side4 => exact (Kd.R_reads' HO_163001.out).2.1); (case side5 => repeat (first | exact (Kd.S_reads' HO_163002.out).2.2 | (with_reducible refine Kd.C_alloc ?_ _) | (with_reducible refine Kd.C_drewN ?_ _) | (with_reducible refine Kd.C_drew ?_))); (case side6 => exact (Kd.S_reads' HO_163002.out).2.1); rintro e w97 ⟨rfl, hb⟩; have n0_ := Aside0.mk (Kd.R_below (by (with_reducible repeat (first | apply Kd.R_alloc | apply Kd.R_drewN | apply Kd.R_drew)); exact HO_159000.out) hb); have n1_ := Aside0.mk (Kd.R_below (by (with_reducible repeat (first | apply Kd.R_alloc | apply Kd.R_drewN | apply Kd.R_drew)); exact HO_159001.out) hb); have n2_ := Aside0.mk (Kd.S_below (by (with_reducible repeat (first | apply Kd.S_alloc | apply Kd.S_drewN | apply Kd.S_drew)); exact HO_159002.out) hb); have n3_ := Aside0.mk (Kd.R_below (by (with_reducible repeat (first | apply Kd.R_alloc | apply Kd.R_drewN | apply Kd.R_drew)); exact HO_163000.out) hb); have n4_ := Aside0.mk (Kd.R_below (by (with_reducible repeat (first | apply Kd.R_alloc | apply Kd.R_drewN | apply Kd.R_drew)); exact HO_163001.out) hb); have n5_ := Aside0.mk (Kd.S_below (by (with_reducible repeat (first | apply Kd.S_alloc | apply Kd.S_drewN | apply Kd.S_drew)); exact HO_163002.out) hb); have n6_ := Aside0.mk (blk_below (Up.blk BK158.out) hb); have n7_ := Aside0.mk (blk_below (Up.blk BK162.out) hb); have n8_ := Aside0.mk (below_step (by repeat (first | (with_reducible first | exact HB.out | apply cA | apply cN | apply cD | refine cS ?_ GE158.out | refine cS ?_ GE162.out) | exact HB.out)) hb); clear HO_159000; clear HO_159001; clear HO_159002; clear HO_163000; clear HO_163001; clear HO_163002; clear BK158; clear BK162; clear HB; have HO_159000 := n0_; have HO_159001 := n1_; have HO_159002 := n2_; have HO_163000 := n3_; have HO_163001 := n4_; have HO_163002 := n5_; have BK158 := n6_; have BK162 := n7_; have HB := n8_; clear n0_ n1_ n2_ n3_ n4_ n5_ n6_ n7_ n8_; (try clear hb); (try clear hb2); (try clear hk); (try clear hi); have hcz98_0 : w97.cell? ⟨gb158, 0, none⟩ = some (.slice Ao21 y152.length co21) := (blk_cell BK158.out 0).trans rfl; have hcz98_1 : w97.cell? ⟨gb158, 1, none⟩ = some (.slice Ao91 x159001_2.length co91) := (blk_cell BK158.out 1).trans rfl; have hcz98_2 : w97.cell? ⟨gb158, 2, none⟩ = some (.slice Ao92 x159002_2.length co92) := (blk_cell BK158.out 2).trans rfl; have hfz98_0 := blk_frozen BK158.out 0; have hfz98_1 := blk_frozen BK158.out 1; have hfz98_2 := blk_frozen BK158.out 2) | (go_at_call 14; (with_reducible refine (curve_Value.calls k2 _ _ y152 _ _ x159001_2 _ _ x159002_2 a1 a2 t187 _ ?side1 ?side2 ?side3 ?side4 ?side5 ?side6 A68.out).mono ?_); (case side1 => repeat (first | exact (Kd.R_reads' HO_159000.out).2.2 | (with_reducible refine Kd.C_alloc ?_ _) | (with_reducible refine Kd.C_drewN ?_ _) | (with_reducible refine Kd.C_drew ?_))); (case side2 => exact (Kd.R_reads' HO_159000.out).2.1); (case side3 => repeat (first | exact (Kd.R_reads' HO_159001.out).2.2 | (with_reducible refine Kd.C_alloc ?_ _) | (with_reducible refine Kd.C_drewN ?_ _) | (with_reducible refine Kd.C_drew ?_))); (case side4 => exact (Kd.R_reads' HO_159001.out).2.1); (case side5 => repeat (first | exact (Kd.S_reads' HO_159002.out).2.2 | (with_reducible refine Kd.C_alloc ?_ _) | (with_reducible refine Kd.C_drewN ?_ _) | (with_reducible refine Kd.C_drew ?_))); (case side6 => exact (Kd.S_reads' HO_159002.out).2.1); rintro e w99 ⟨rfl, hb⟩; have n0_ := Aside0.mk (Kd.R_below (by (with_reducible repeat (first | apply Kd.R_alloc | apply Kd.R_drewN | apply Kd.R_drew)); exact HO_159000.out) hb); have n1_ := Aside0.mk (Kd.R_below (by (with_reducible repeat (first | apply Kd.R_alloc | apply Kd.R_drewN | apply Kd.R_drew)); exact HO_159001.out) hb); have n2_ := Aside0.mk (Kd.S_below (by (with_reducible repeat (first | apply Kd.S_alloc | apply Kd.S_drewN | apply Kd.S_drew)); exact HO_159002.out) hb); have n3_ := Aside0.mk (Kd.R_below (by (with_reducible repeat (first | apply Kd.R_alloc | apply Kd.R_drewN | apply Kd.R_drew)); exact HO_163000.out) hb); have n4_ := Aside0.mk (Kd.R_below (by (with_reducible repeat (first | apply Kd.R_alloc | apply Kd.R_drewN | apply Kd.R_drew)); exact HO_163001.out) hb); have n5_ := Aside0.mk (Kd.S_below (by (with_reducible repeat (first | apply Kd.S_alloc | apply Kd.S_drewN | apply Kd.S_drew)); exact HO_163002.out) hb); have n6_ := Aside0.mk (blk_below (Up.blk BK158.out) hb); have n7_ := Aside0.mk (blk_below (Up.blk BK162.out) hb); have n8_ := Aside0.mk (below_step (by repeat (first | (with_reducible first | exact HB.out | apply cA | apply cN | apply cD | refine cS ?_ GE158.out | refine cS ?_ GE162.out) | exact HB.out)) hb); clear HO_159000; clear HO_159001; clear HO_159002; clear HO_163000; clear HO_163001; clear HO_163002; clear BK158; clear BK162; clear HB; have HO_159000 := n0_; have HO_159001 := n1_; have HO_159002 := n2_; have HO_163000 := n3_; have HO_163001 := n4_; have HO_163002 := n5_; have BK158 := n6_; have BK162 := n7_; have HB := n8_; clear n0_ n1_ n2_ n3_ n4_ n5_ n6_ n7_ n8_; (try clear hb); (try clear hb2); (try clear hk); (try clear hi); have hcz100_0 : w99.cell? ⟨gb162, 0, none⟩ = some (.slice Ao95 x163000_2.length co95) := (blk_cell BK162.out 0).trans rfl; have hcz100_1 : w99.cell? ⟨gb162, 1, none⟩ = some (.slice Ao26 y159.length co26) := (blk_cell BK162.out 1).trans rfl; have hcz100_2 : w99.cell? ⟨gb162, 2, none⟩ = some (.slice Ao96 x163002_2.length co96) := (blk_cell BK162.out 2).trans rfl; have hfz100_0 := blk_frozen BK162.out 0; have hfz100_1 := blk_frozen BK162.out 1; have hfz100_2 := blk_frozen BK162.out 2) | (go_at_call 14; (with_reducible refine (curve_Value.calls k2 _ _ x163000_2 _ _ y159 _ _ x163002_2 a2 a1 t188 _ ?side1 ?side2 ?side3 ?side4 ?side5 ?side6 A70.out).mono ?_); (case side1 => repeat (first | exact (Kd.R_reads' HO_163000.out).2.2 | (with_reducible refine Kd.C_alloc ?_ _) | (with_reducible refine Kd.C_drewN ?_ _) | (with_reducible refine Kd.C_drew ?_))); (case side2 => exact (Kd.R_reads' HO_163000.out).2.1); (case side3 => repeat (first | exact (Kd.R_reads' HO_163001.out).2.2 | (with_reducible refine Kd.C_alloc ?_ _) | (with_reducible refine Kd.C_drewN ?_ _) | (with_reducible refine Kd.C_drew ?_))); (case side4 => exact (Kd.R_reads' HO_163001.out).2.1); (case side5 => repeat (first | exact (Kd.S_reads' HO_163002.out).2.2 | (with_reducible refine Kd.C_alloc ?_ _) | (with_reducible refine Kd.C_drewN ?_ _) | (with_reducible refine Kd.C_drew ?_))); (case side6 => exact (Kd.S_reads' HO_163002.out).2.1); rintro e w101 ⟨rfl, hb⟩; have n0_ := Aside0.mk (Kd.R_below (by (with_reducible repeat (first | apply Kd.R_alloc | apply Kd.R_drewN | apply Kd.R_drew)); exact HO_159000.out) hb); have n1_ := Aside0.mk (Kd.R_below (by (with_reducible repeat (first | apply Kd.R_alloc | apply Kd.R_drewN | apply Kd.R_drew)); exact HO_159001.out) hb); have n2_ := Aside0.mk (Kd.S_below (by (with_reducible repeat (first | apply Kd.S_alloc | apply Kd.S_drewN | apply Kd.S_drew)); exact HO_159002.out) hb); have n3_ := Aside0.mk (Kd.R_below (by (with_reducible repeat (first | apply Kd.R_alloc | apply Kd.R_drewN | apply Kd.R_drew)); exact HO_163000.out) hb); have n4_ := Aside0.mk (Kd.R_below (by (with_reducible repeat (first | apply Kd.R_alloc | apply Kd.R_drewN | apply Kd.R_drew)); exact HO_163001.out) hb); have n5_ := Aside0.mk (Kd.S_below (by (with_reducible repeat (first | apply Kd.S_alloc | apply Kd.S_drewN | apply Kd.S_drew)); exact HO_163002.out) hb); have n6_ := Aside0.mk (blk_below (Up.blk BK158.out) hb); have n7_ := Aside0.mk (blk_below (Up.blk BK162.out) hb); have n8_ := Aside0.mk (below_step (by repeat (first | (with_reducible first | exact HB.out | apply cA | apply cN | apply cD | refine cS ?_ GE158.out | refine cS ?_ GE162.out) | exact HB.out)) hb); clear HO_159000; clear HO_159001; clear HO_159002; clear HO_163000; clear HO_163001; clear HO_163002; clear BK158; clear BK162; clear HB; have HO_159000 := n0_; have HO_159001 := n1_; have HO_159002 := n2_; have HO_163000 := n3_; have HO_163001 := n4_; have HO_163002 := n5_; have BK158 := n6_; have BK162 := n7_; have HB := n8_; clear n0_ n1_ n2_ n3_ n4_ n5_ n6_ n7_ n8_; (try clear hb); (try clear hb2); (try clear hk); (try clear hi)))
           go_ret
           exact ⟨by first | rfl | (simp [errW_none, errW_some] <;> rfl) | (simp [*, errW_none, errW_some] <;> rfl), by repeat (first | (with_reducible first | exact HB.out | apply cA | apply cN | apply cD | refine cS ?_ GE158.out | refine cS ?_ GE162.out) | exact HB.out)⟩
         ·rw [if_neg c69] at H
          have c69b0 : (t187 == t184) = false := beq_eq_false_iff_ne.mpr c69
          have c69b1 : (t187 != t184) = true := bne_iff_ne.mpr c69
          obtain rfl := Option.some.inj H
          go_wp2_with (first | ((with_reducible refine gate_callee (f := 17) rfl ?_); refine goesL_ (some 88) rfl rfl Try.func17 (by kernel_rfl) rfl #[.slice A0 l0.length c0, .int .i64 a2] rfl (by (try simp only [List.map_toArray, List.map_cons, List.map_nil]); first | done | rfl | (simp only [List.length_drop, List.length_take]; rfl)) ?_; (with_reducible refine (curve_At.calls k2 _ _ l0 a2 t184 _ ?side1 ?side2 A63.out).mono ?_); (case side1 => repeat (first | exact (Kd.C_below HR0.out HB.out) | (with_reducible refine Kd.C_alloc ?_ _) | (with_reducible refine Kd.C_drewN ?_ _) | (with_reducible refine Kd.C_drew ?_))); (case side2 => exact HC0.out); rintro e w102 ⟨rfl, hb⟩; refine ⟨_, rfl, ?_⟩; have n0_ := Aside0.mk (Kd.R_below (by (with_reducible repeat (first | apply Kd.R_alloc | apply Kd.R_drewN | apply Kd.R_drew)); exact HO_159000.out) hb); have n1_ := Aside0.mk (Kd.R_below (by (with_reducible repeat (first | apply Kd.R_alloc | apply Kd.R_drewN | apply Kd.R_drew)); exact HO_159001.out) hb); have n2_ := Aside0.mk (Kd.S_below (by (with_reducible repeat (first | apply Kd.S_alloc | apply Kd.S_drewN | apply Kd.S_drew)); exact HO_159002.out) hb); have n3_ := Aside0.mk (Kd.R_below (by (with_reducible repeat (first | apply Kd.R_alloc | apply Kd.R_drewN | apply Kd.R_drew)); exact HO_163000.out) hb); have n4_ := Aside0.mk (Kd.R_below (by (with_reducible repeat (first | apply Kd.R_alloc | apply Kd.R_drewN | apply Kd.R_drew)); exact HO_163001.out) hb); have n5_ := Aside0.mk (Kd.S_below (by (with_reducible repeat (first | apply Kd.S_alloc | apply Kd.S_drewN | apply Kd.S_drew)); exact HO_163002.out) hb); have n6_ := Aside0.mk (blk_below (Up.blk BK158.out) hb); have n7_ := Aside0.mk (blk_below (Up.blk BK162.out) hb); have n8_ := Aside0.mk (below_step (by repeat (first | (with_reducible first | exact HB.out | apply cA | apply cN | apply cD | refine cS ?_ GE158.out | refine cS ?_ GE162.out) | exact HB.out)) hb); clear HO_159000; clear HO_159001; clear HO_159002; clear HO_163000; clear HO_163001; clear HO_163002; clear BK158; clear BK162; clear HB; have HO_159000 := n0_; have HO_159001 := n1_; have HO_159002 := n2_; have HO_163000 := n3_; have HO_163001 := n4_; have HO_163002 := n5_; have BK158 := n6_; have BK162 := n7_; have HB := n8_; clear n0_ n1_ n2_ n3_ n4_ n5_ n6_ n7_ n8_; (try clear hb); (try clear hb2); (try clear hk); (try clear hi); have hnb103 := NB158_162.out; have hnc103 := NB162_158.out; have hcz104_0 : w102.cell? ⟨gb158, 0, none⟩ = some (.slice Ao21 y152.length co21) := (blk_cell BK158.out 0).trans rfl; have hcz104_1 : w102.cell? ⟨gb158, 1, none⟩ = some (u159001) := (blk_cell BK158.out 1).trans rfl; have hcz104_2 : w102.cell? ⟨gb158, 2, none⟩ = some (u159002) := (blk_cell BK158.out 2).trans rfl; have hfz104_0 := blk_frozen BK158.out 0; have hfz104_1 := blk_frozen BK158.out 1; have hfz104_2 := blk_frozen BK158.out 2; obtain ⟨Ao105, co105, eo105⟩ := Kd.R_slice HO_159001.out; subst eo105; obtain ⟨Ao106, co106, eo106⟩ := Kd.S_slice HO_159002.out; subst eo106) | ((with_reducible refine gate_callee (f := 18) rfl ?_); refine goesL_ (some 90) rfl rfl Try.func18 (by kernel_rfl) rfl #[.agg #[.slice Ao21 y152.length co21, .slice Ao105 x159001_2.length co105, .slice Ao106 x159002_2.length co106]] rfl (by (try simp only [List.map_toArray, List.map_cons, List.map_nil]); first | done | rfl | (simp only [List.length_drop, List.length_take]; rfl)) ?_; (with_reducible refine (curve_CheckGrid.calls k2 _ _ y152 _ _ x159001_2 _ _ x159002_2 t185 _ ?side1 ?side2 ?side3 ?side4 ?side5 ?side6 A64.out).mono ?_); (case side1 => repeat (first | exact (Kd.R_reads' HO_159000.out).2.2 | (with_reducible refine Kd.C_alloc ?_ _) | (with_reducible refine Kd.C_drewN ?_ _) | (with_reducible refine Kd.C_drew ?_))); (case side2 => exact (Kd.R_reads' HO_159000.out).2.1); (case side3 => repeat (first | exact (Kd.R_reads' HO_159001.out).2.2 | (with_reducible refine Kd.C_alloc ?_ _) | (with_reducible refine Kd.C_drewN ?_ _) | (with_reducible refine Kd.C_drew ?_))); (case side4 => exact (Kd.R_reads' HO_159001.out).2.1); (case side5 => repeat (first | exact (Kd.S_reads' HO_159002.out).2.2 | (with_reducible refine Kd.C_alloc ?_ _) | (with_reducible refine Kd.C_drewN ?_ _) | (with_reducible refine Kd.C_drew ?_))); (case side6 => exact (Kd.S_reads' HO_159002.out).2.1); rintro e w107 ⟨rfl, hb⟩; refine ⟨_, rfl, ?_⟩; have n0_ := Aside0.mk (Kd.R_below (by (with_reducible repeat (first | apply Kd.R_alloc | apply Kd.R_drewN | apply Kd.R_drew)); exact HO_159000.out) hb); have n1_ := Aside0.mk (Kd.R_below (by (with_reducible repeat (first | apply Kd.R_alloc | apply Kd.R_drewN | apply Kd.R_drew)); exact HO_159001.out) hb); have n2_ := Aside0.mk (Kd.S_below (by (with_reducible repeat (first | apply Kd.S_alloc | apply Kd.S_drewN | apply Kd.S_drew)); exact HO_159002.out) hb); have n3_ := Aside0.mk (Kd.R_below (by (with_reducible repeat (first | apply Kd.R_alloc | apply Kd.R_drewN | apply Kd.R_drew)); exact HO_163000.out) hb); have n4_ := Aside0.mk (Kd.R_below (by (with_reducible repeat (first | apply Kd.R_alloc | apply Kd.R_drewN | apply Kd.R_drew)); exact HO_163001.out) hb); have n5_ := Aside0.mk (Kd.S_below (by (with_reducible repeat (first | apply Kd.S_alloc | apply Kd.S_drewN | apply Kd.S_drew)); exact HO_163002.out) hb); have n6_ := Aside0.mk (blk_below (Up.blk BK158.out) hb); have n7_ := Aside0.mk (blk_below (Up.blk BK162.out) hb); have n8_ := Aside0.mk (below_step (by repeat (first | (with_reducible first | exact HB.out | apply cA | apply cN | apply cD | refine cS ?_ GE158.out | refine cS ?_ GE162.out) | exact HB.out)) hb); clear HO_159000; clear HO_159001; clear HO_159002; clear HO_163000; clear HO_163001; clear HO_163002; clear BK158; clear BK162; clear HB; have HO_159000 := n0_; have HO_159001 := n1_; have HO_159002 := n2_; have HO_163000 := n3_; have HO_163001 := n4_; have HO_163002 := n5_; have BK158 := n6_; have BK162 := n7_; have HB := n8_; clear n0_ n1_ n2_ n3_ n4_ n5_ n6_ n7_ n8_; (try clear hb); (try clear hb2); (try clear hk); (try clear hi); have hcz108_0 : w107.cell? ⟨gb162, 0, none⟩ = some (u163000) := (blk_cell BK162.out 0).trans rfl; have hcz108_1 : w107.cell? ⟨gb162, 1, none⟩ = some (.slice Ao26 y159.length co26) := (blk_cell BK162.out 1).trans rfl; have hcz108_2 : w107.cell? ⟨gb162, 2, none⟩ = some (u163002) := (blk_cell BK162.out 2).trans rfl; have hfz108_0 := blk_frozen BK162.out 0; have hfz108_1 := blk_frozen BK162.out 1; have hfz108_2 := blk_frozen BK162.out 2; obtain ⟨Ao109, co109, eo109⟩ := Kd.R_slice HO_163000.out; subst eo109; obtain ⟨Ao110, co110, eo110⟩ := Kd.S_slice HO_163002.out; subst eo110) | (go_at_call 18; (with_reducible refine (curve_CheckGrid.calls k2 _ _ x163000_2 _ _ y159 _ _ x163002_2 t186 _ ?side1 ?side2 ?side3 ?side4 ?side5 ?side6 A66.out).mono ?_); (case side1 => repeat (first | exact (Kd.R_reads' HO_163000.out).2.2 | (with_reducible refine Kd.C_alloc ?_ _) | (with_reducible refine Kd.C_drewN ?_ _) | (with_reducible refine Kd.C_drew ?_))); (case side2 => exact (Kd.R_reads' HO_163000.out).2.1); (case side3 => repeat (first | exact (Kd.R_reads' HO_163001.out).2.2 | (with_reducible refine Kd.C_alloc ?_ _) | (with_reducible refine Kd.C_drewN ?_ _) | (with_reducible refine Kd.C_drew ?_))); (case side4 => exact (Kd.R_reads' HO_163001.out).2.1); (case side5 => repeat (first | exact (Kd.S_reads' HO_163002.out).2.2 | (with_reducible refine Kd.C_alloc ?_ _) | (with_reducible refine Kd.C_drewN ?_ _) | (with_reducible refine Kd.C_drew ?_))); (case side6 => exact (Kd.S_reads' HO_163002.out).2.1); rintro e w111 ⟨rfl, hb⟩; have n0_ := Aside0.mk (Kd.R_below (by (with_reducible repeat (first | apply Kd.R_alloc | apply Kd.R_drewN | apply Kd.R_drew)); exact HO_159000.out) hb); have n1_ := Aside0.mk (Kd.R_below (by (with_reducible repeat (first | apply Kd.R_alloc | apply Kd.R_drewN | apply Kd.R_drew)); exact HO_159001.out) hb); have n2_ := Aside0.mk (Kd.S_below (by (with_reducible repeat (first | apply Kd.S_alloc | apply Kd.S_drewN | apply Kd.S_drew)); exact HO_159002.out) hb); have n3_ := Aside0.mk (Kd.R_below (by (with_reducible repeat (first | apply Kd.R_alloc | apply Kd.R_drewN | apply Kd.R_drew)); exact HO_163000.out) hb); have n4_ := Aside0.mk (Kd.R_below (by (with_reducible repeat (first | apply Kd.R_alloc | apply Kd.R_drewN | apply Kd.R_drew)); exact HO_163001.out) hb); have n5_ := Aside0.mk (Kd.S_below (by (with_reducible repeat (first | apply Kd.S_alloc | apply Kd.S_drewN | apply Kd.S_drew)); exact HO_163002.out) hb); have n6_ := Aside0.mk (blk_below (Up.blk BK158.out) hb); have n7_ := Aside0.mk (blk_below (Up.blk BK162.out) hb); have n8_ := Aside0.mk (below_step (by repeat (first | (with_reducible first | exact HB.out | apply cA | apply cN | apply cD | refine cS ?_ GE158.out | refine cS ?_ GE162.out) | exact HB.out)) hb); clear HO_159000; clear HO_159001; clear HO_159002; clear HO_163000; clear HO_163001; clear HO_163002; clear BK158; clear BK162; clear HB; have HO_159000 := n0_; have HO_159001 := n1_; have HO_159002 := n2_; have HO_163000 := n3_; have HO_163001 := n4_; have HO_163002 := n5_; have BK158 := n6_; have BK162 := n7_; have HB := n8_; clear n0_ n1_ n2_ n3_ n4_ n5_ n6_ n7_ n8_; (try clear hb); (try clear hb2); (try clear hk); (try clear hi); have hcz112_0 : w111.cell? ⟨gb158, 0, none⟩ = some (.slice Ao21 y152.length co21) := (blk_cell BK158.out 0).trans rfl; have hcz112_1 : w111.cell? ⟨gb158, 1, none⟩ = some (.slice Ao105 x159001_2.length co105) := (blk_cell BK158.out 1).trans rfl; have hcz112_2 : w111.cell? ⟨gb158, 2, none⟩ = some (.slice Ao106 x159002_2.length co106) := (blk_cell BK158.out 2).trans rfl; have hfz112_0 := blk_frozen BK158.out 0; have hfz112_1 := blk_frozen BK158.out 1; have hfz112_2 := blk_frozen BK158.out 2) | (go_at_call 14; (with_reducible refine (curve_Value.calls k2 _ _ y152 _ _ x159001_2 _ _ x159002_2 a1 a2 t187 _ ?side1 ?side2 ?side3 ?side4 ?side5 ?side6 A68.out).mono ?_); (case side1 => repeat (first | exact (Kd.R_reads' HO_159000.out).2.2 | (with_reducible refine Kd.C_alloc ?_ _) | (with_reducible refine Kd.C_drewN ?_ _) | (with_reducible refine Kd.C_drew ?_))); (case side2 => exact (Kd.R_reads' HO_159000.out).2.1); (case side3 => repeat (first | exact (Kd.R_reads' HO_159001.out).2.2 | (with_reducible refine Kd.C_alloc ?_ _) | (with_reducible refine Kd.C_drewN ?_ _) | (with_reducible refine Kd.C_drew ?_))); (case side4 => exact (Kd.R_reads' HO_159001.out).2.1); (case side5 => repeat (first | exact (Kd.S_reads' HO_159002.out).2.2 | (with_reducible refine Kd.C_alloc ?_ _) | (with_reducible refine Kd.C_drewN ?_ _) | (with_reducible refine Kd.C_drew ?_))); (case side6 => exact (Kd.S_reads' HO_159002.out).2.1); rintro e w113 ⟨rfl, hb⟩; have n0_ := Aside0.mk (Kd.R_below (by (with_reducible repeat (first | apply Kd.R_alloc | apply Kd.R_drewN | apply Kd.R_drew)); exact HO_159000.out) hb); have n1_ := Aside0.mk (Kd.R_below (by (with_reducible repeat (first | apply Kd.R_alloc | apply Kd.R_drewN | apply Kd.R_drew)); exact HO_159001.out) hb); have n2_ := Aside0.mk (Kd.S_below (by (with_reducible repeat (first | apply Kd.S_alloc | apply Kd.S_drewN | apply Kd.S_drew)); exact HO_159002.out) hb); have n3_ := Aside0.mk (Kd.R_below (by (with_reducible repeat (first | apply Kd.R_alloc | apply Kd.R_drewN | apply Kd.R_drew)); exact HO_163000.out) hb); have n4_ := Aside0.mk (Kd.R_below (by (with_reducible repeat (first | apply Kd.R_alloc | apply Kd.R_drewN | apply Kd.R_drew)); exact HO_163001.out) hb); have n5_ := Aside0.mk (Kd.S_below (by (with_reducible repeat (first | apply Kd.S_alloc | apply Kd.S_drewN | apply Kd.S_drew)); exact HO_163002.out) hb); have n6_ := Aside0.mk (blk_below (Up.blk BK158.out) hb); have n7_ := Aside0.mk (blk_below (Up.blk BK162.out) hb); have n8_ := Aside0.mk (below_step (by repeat (first | (with_reducible first | exact HB.out | apply cA | apply cN | apply cD | refine cS ?_ GE158.out | refine cS ?_ GE162.out) | exact HB.out)) hb); clear HO_159000; clear HO_159001; clear HO_159002; clear HO_163000; clear HO_163001; clear HO_163002; clear BK158; clear BK162; clear HB; have HO_159000 := n0_; have HO_159001 := n1_; have HO_159002 := n2_; have HO_163000 := n3_; have HO_163001 := n4_; have HO_163002 := n5_; have BK158 := n6_; have BK162 := n7_; have HB := n8_; clear n0_ n1_ n2_ n3_ n4_ n5_ n6_ n7_ n8_; (try clear hb); (try clear hb2); (try clear hk); (try clear hi)))
          go_ret
          exact ⟨by first | rfl | (simp [errW_none, errW_some] <;> rfl) | (simp [*, errW_none, errW_some] <;> rfl), by repeat (first | (with_reducible first | exact HB.out | apply cA | apply cN | apply cD | refine cS ?_ GE158.out | refine cS ?_ GE162.out) | exact HB.out)⟩
        ·rw [if_neg c67] at H
         have c67b0 : (t186 == 0) = false := beq_eq_false_iff_ne.mpr c67
         have c67b1 : (t186 != 0) = true := bne_iff_ne.mpr c67
         obtain rfl := Option.some.inj H
         go_wp2_with (first | ((with_reducible refine gate_callee (f := 17) rfl ?_); refine goesL_ (some 88) rfl rfl Try.func17 (by kernel_rfl) rfl #[.slice A0 l0.length c0, .int .i64 a2] rfl (by (try simp only [List.map_toArray, List.map_cons, List.map_nil]); first | done | rfl | (simp only [List.length_drop, List.length_take]; rfl)) ?_; (with_reducible refine (curve_At.calls k2 _ _ l0 a2 t184 _ ?side1 ?side2 A63.out).mono ?_); (case side1 => repeat (first | exact (Kd.C_below HR0.out HB.out) | (with_reducible refine Kd.C_alloc ?_ _) | (with_reducible refine Kd.C_drewN ?_ _) | (with_reducible refine Kd.C_drew ?_))); (case side2 => exact HC0.out); rintro e w114 ⟨rfl, hb⟩; refine ⟨_, rfl, ?_⟩; have n0_ := Aside0.mk (Kd.R_below (by (with_reducible repeat (first | apply Kd.R_alloc | apply Kd.R_drewN | apply Kd.R_drew)); exact HO_159000.out) hb); have n1_ := Aside0.mk (Kd.R_below (by (with_reducible repeat (first | apply Kd.R_alloc | apply Kd.R_drewN | apply Kd.R_drew)); exact HO_159001.out) hb); have n2_ := Aside0.mk (Kd.S_below (by (with_reducible repeat (first | apply Kd.S_alloc | apply Kd.S_drewN | apply Kd.S_drew)); exact HO_159002.out) hb); have n3_ := Aside0.mk (Kd.R_below (by (with_reducible repeat (first | apply Kd.R_alloc | apply Kd.R_drewN | apply Kd.R_drew)); exact HO_163000.out) hb); have n4_ := Aside0.mk (Kd.R_below (by (with_reducible repeat (first | apply Kd.R_alloc | apply Kd.R_drewN | apply Kd.R_drew)); exact HO_163001.out) hb); have n5_ := Aside0.mk (Kd.S_below (by (with_reducible repeat (first | apply Kd.S_alloc | apply Kd.S_drewN | apply Kd.S_drew)); exact HO_163002.out) hb); have n6_ := Aside0.mk (blk_below (Up.blk BK158.out) hb); have n7_ := Aside0.mk (blk_below (Up.blk BK162.out) hb); have n8_ := Aside0.mk (below_step (by repeat (first | (with_reducible first | exact HB.out | apply cA | apply cN | apply cD | refine cS ?_ GE158.out | refine cS ?_ GE162.out) | exact HB.out)) hb); clear HO_159000; clear HO_159001; clear HO_159002; clear HO_163000; clear HO_163001; clear HO_163002; clear BK158; clear BK162; clear HB; have HO_159000 := n0_; have HO_159001 := n1_; have HO_159002 := n2_; have HO_163000 := n3_; have HO_163001 := n4_; have HO_163002 := n5_; have BK158 := n6_; have BK162 := n7_; have HB := n8_; clear n0_ n1_ n2_ n3_ n4_ n5_ n6_ n7_ n8_; (try clear hb); (try clear hb2); (try clear hk); (try clear hi); have hnb115 := NB158_162.out; have hnc115 := NB162_158.out; have hcz116_0 : w114.cell? ⟨gb158, 0, none⟩ = some (.slice Ao21 y152.length co21) := (blk_cell BK158.out 0).trans rfl; have hcz116_1 : w114.cell? ⟨gb158, 1, none⟩ = some (u159001) := (blk_cell BK158.out 1).trans rfl; have hcz116_2 : w114.cell? ⟨gb158, 2, none⟩ = some (u159002) := (blk_cell BK158.out 2).trans rfl; have hfz116_0 := blk_frozen BK158.out 0; have hfz116_1 := blk_frozen BK158.out 1; have hfz116_2 := blk_frozen BK158.out 2; obtain ⟨Ao117, co117, eo117⟩ := Kd.R_slice HO_159001.out; subst eo117; obtain ⟨Ao118, co118, eo118⟩ := Kd.S_slice HO_159002.out; subst eo118) | ((with_reducible refine gate_callee (f := 18) rfl ?_); refine goesL_ (some 90) rfl rfl Try.func18 (by kernel_rfl) rfl #[.agg #[.slice Ao21 y152.length co21, .slice Ao117 x159001_2.length co117, .slice Ao118 x159002_2.length co118]] rfl (by (try simp only [List.map_toArray, List.map_cons, List.map_nil]); first | done | rfl | (simp only [List.length_drop, List.length_take]; rfl)) ?_; (with_reducible refine (curve_CheckGrid.calls k2 _ _ y152 _ _ x159001_2 _ _ x159002_2 t185 _ ?side1 ?side2 ?side3 ?side4 ?side5 ?side6 A64.out).mono ?_); (case side1 => repeat (first | exact (Kd.R_reads' HO_159000.out).2.2 | (with_reducible refine Kd.C_alloc ?_ _) | (with_reducible refine Kd.C_drewN ?_ _) | (with_reducible refine Kd.C_drew ?_))); (case side2 => exact (Kd.R_reads' HO_159000.out).2.1); (case side3 => repeat (first | exact (Kd.R_reads' HO_159001.out).2.2 | (with_reducible refine Kd.C_alloc ?_ _) | (with_reducible refine Kd.C_drewN ?_ _) | (with_reducible refine Kd.C_drew ?_))); (case side4 => exact (Kd.R_reads' HO_159001.out).2.1); (case side5 => repeat (first | exact (Kd.S_reads' HO_159002.out).2.2 | (with_reducible refine Kd.C_alloc ?_ _) | (with_reducible refine Kd.C_drewN ?_ _) | (with_reducible refine Kd.C_drew ?_))); (case side6 => exact (Kd.S_reads' HO_159002.out).2.1); rintro e w119 ⟨rfl, hb⟩; refine ⟨_, rfl, ?_⟩; have n0_ := Aside0.mk (Kd.R_below (by (with_reducible repeat (first | apply Kd.R_alloc | apply Kd.R_drewN | apply Kd.R_drew)); exact HO_159000.out) hb); have n1_ := Aside0.mk (Kd.R_below (by (with_reducible repeat (first | apply Kd.R_alloc | apply Kd.R_drewN | apply Kd.R_drew)); exact HO_159001.out) hb); have n2_ := Aside0.mk (Kd.S_below (by (with_reducible repeat (first | apply Kd.S_alloc | apply Kd.S_drewN | apply Kd.S_drew)); exact HO_159002.out) hb); have n3_ := Aside0.mk (Kd.R_below (by (with_reducible repeat (first | apply Kd.R_alloc | apply Kd.R_drewN | apply Kd.R_drew)); exact HO_163000.out) hb); have n4_ := Aside0.mk (Kd.R_below (by (with_reducible repeat (first | apply Kd.R_alloc | apply Kd.R_drewN | apply Kd.R_drew)); exact HO_163001.out) hb); have n5_ := Aside0.mk (Kd.S_below (by (with_reducible repeat (first | apply Kd.S_alloc | apply Kd.S_drewN | apply Kd.S_drew)); exact HO_163002.out) hb); have n6_ := Aside0.mk (blk_below (Up.blk BK158.out) hb); have n7_ := Aside0.mk (blk_below (Up.blk BK162.out) hb); have n8_ := Aside0.mk (below_step (by repeat (first | (with_reducible first | exact HB.out | apply cA | apply cN | apply cD | refine cS ?_ GE158.out | refine cS ?_ GE162.out) | exact HB.out)) hb); clear HO_159000; clear HO_159001; clear HO_159002; clear HO_163000; clear HO_163001; clear HO_163002; clear BK158; clear BK162; clear HB; have HO_159000 := n0_; have HO_159001 := n1_; have HO_159002 := n2_; have HO_163000 := n3_; have HO_163001 := n4_; have HO_163002 := n5_; have BK158 := n6_; have BK162 := n7_; have HB := n8_; clear n0_ n1_ n2_ n3_ n4_ n5_ n6_ n7_ n8_; (try clear hb); (try clear hb2); (try clear hk); (try clear hi); have hcz120_0 : w119.cell? ⟨gb162, 0, none⟩ = some (u163000) := (blk_cell BK162.out 0).trans rfl; have hcz120_1 : w119.cell? ⟨gb162, 1, none⟩ = some (.slice Ao26 y159.length co26) := (blk_cell BK162.out 1).trans rfl; have hcz120_2 : w119.cell? ⟨gb162, 2, none⟩ = some (u163002) := (blk_cell BK162.out 2).trans rfl; have hfz120_0 := blk_frozen BK162.out 0; have hfz120_1 := blk_frozen BK162.out 1; have hfz120_2 := blk_frozen BK162.out 2; obtain ⟨Ao121, co121, eo121⟩ := Kd.R_slice HO_163000.out; subst eo121; obtain ⟨Ao122, co122, eo122⟩ := Kd.S_slice HO_163002.out; subst eo122) | (go_at_call 18; (with_reducible refine (curve_CheckGrid.calls k2 _ _ x163000_2 _ _ y159 _ _ x163002_2 t186 _ ?side1 ?side2 ?side3 ?side4 ?side5 ?side6 A66.out).mono ?_); (case side1 => repeat (first | exact (Kd.R_reads' HO_163000.out).2.2 | (with_reducible refine Kd.C_alloc ?_ _) | (with_reducible refine Kd.C_drewN ?_ _) | (with_reducible refine Kd.C_drew ?_))); (case side2 => exact (Kd.R_reads' HO_163000.out).2.1); (case side3 => repeat (first | exact (Kd.R_reads' HO_163001.out).2.2 | (with_reducible refine Kd.C_alloc ?_ _) | (with_reducible refine Kd.C_drewN ?_ _) | (with_reducible refine Kd.C_drew ?_))); (case side4 => exact (Kd.R_reads' HO_163001.out).2.1); (case side5 => repeat (first | exact (Kd.S_reads' HO_163002.out).2.2 | (with_reducible refine Kd.C_alloc ?_ _) | (with_reducible refine Kd.C_drewN ?_ _) | (with_reducible refine Kd.C_drew ?_))); (case side6 => exact (Kd.S_reads' HO_163002.out).2.1); rintro e w123 ⟨rfl, hb⟩; have n0_ := Aside0.mk (Kd.R_below (by (with_reducible repeat (first | apply Kd.R_alloc | apply Kd.R_drewN | apply Kd.R_drew)); exact HO_159000.out) hb); have n1_ := Aside0.mk (Kd.R_below (by (with_reducible repeat (first | apply Kd.R_alloc | apply Kd.R_drewN | apply Kd.R_drew)); exact HO_159001.out) hb); have n2_ := Aside0.mk (Kd.S_below (by (with_reducible repeat (first | apply Kd.S_alloc | apply Kd.S_drewN | apply Kd.S_drew)); exact HO_159002.out) hb); have n3_ := Aside0.mk (Kd.R_below (by (with_reducible repeat (first | apply Kd.R_alloc | apply Kd.R_drewN | apply Kd.R_drew)); exact HO_163000.out) hb); have n4_ := Aside0.mk (Kd.R_below (by (with_reducible repeat (first | apply Kd.R_alloc | apply Kd.R_drewN | apply Kd.R_drew)); exact HO_163001.out) hb); have n5_ := Aside0.mk (Kd.S_below (by (with_reducible repeat (first | apply Kd.S_alloc | apply Kd.S_drewN | apply Kd.S_drew)); exact HO_163002.out) hb); have n6_ := Aside0.mk (blk_below (Up.blk BK158.out) hb); have n7_ := Aside0.mk (blk_below (Up.blk BK162.out) hb); have n8_ := Aside0.mk (below_step (by repeat (first | (with_reducible first | exact HB.out | apply cA | apply cN | apply cD | refine cS ?_ GE158.out | refine cS ?_ GE162.out) | exact HB.out)) hb); clear HO_159000; clear HO_159001; clear HO_159002; clear HO_163000; clear HO_163001; clear HO_163002; clear BK158; clear BK162; clear HB; have HO_159000 := n0_; have HO_159001 := n1_; have HO_159002 := n2_; have HO_163000 := n3_; have HO_163001 := n4_; have HO_163002 := n5_; have BK158 := n6_; have BK162 := n7_; have HB := n8_; clear n0_ n1_ n2_ n3_ n4_ n5_ n6_ n7_ n8_; (try clear hb); (try clear hb2); (try clear hk); (try clear hi)))
         go_ret
         exact ⟨by first | rfl | (simp [errW_none, errW_some] <;> rfl) | (simp [*, errW_none, errW_some] <;> rfl), by repeat (first | (with_reducible first | exact HB.out | apply cA | apply cN | apply cD | refine cS ?_ GE158.out | refine cS ?_ GE162.out) | exact HB.out)⟩
       ·rw [if_neg c65] at H
        have c65b0 : (t185 == 0) = false := beq_eq_false_iff_ne.mpr c65
        have c65b1 : (t185 != 0) = true := bne_iff_ne.mpr c65
        obtain rfl := Option.some.inj H
        go_wp2_with (first | ((with_reducible refine gate_callee (f := 17) rfl ?_); refine goesL_ (some 88) rfl rfl Try.func17 (by kernel_rfl) rfl #[.slice A0 l0.length c0, .int .i64 a2] rfl (by (try simp only [List.map_toArray, List.map_cons, List.map_nil]); first | done | rfl | (simp only [List.length_drop, List.length_take]; rfl)) ?_; (with_reducible refine (curve_At.calls k2 _ _ l0 a2 t184 _ ?side1 ?side2 A63.out).mono ?_); (case side1 => repeat (first | exact (Kd.C_below HR0.out HB.out) | (with_reducible refine Kd.C_alloc ?_ _) | (with_reducible refine Kd.C_drewN ?_ _) | (with_reducible refine Kd.C_drew ?_))); (case side2 => exact HC0.out); rintro e w124 ⟨rfl, hb⟩; refine ⟨_, rfl, ?_⟩; have n0_ := Aside0.mk (Kd.R_below (by (with_reducible repeat (first | apply Kd.R_alloc | apply Kd.R_drewN | apply Kd.R_drew)); exact HO_159000.out) hb); have n1_ := Aside0.mk (Kd.R_below (by (with_reducible repeat (first | apply Kd.R_alloc | apply Kd.R_drewN | apply Kd.R_drew)); exact HO_159001.out) hb); have n2_ := Aside0.mk (Kd.S_below (by (with_reducible repeat (first | apply Kd.S_alloc | apply Kd.S_drewN | apply Kd.S_drew)); exact HO_159002.out) hb); have n3_ := Aside0.mk (Kd.R_below (by (with_reducible repeat (first | apply Kd.R_alloc | apply Kd.R_drewN | apply Kd.R_drew)); exact HO_163000.out) hb); have n4_ := Aside0.mk (Kd.R_below (by (with_reducible repeat (first | apply Kd.R_alloc | apply Kd.R_drewN | apply Kd.R_drew)); exact HO_163001.out) hb); have n5_ := Aside0.mk (Kd.S_below (by (with_reducible repeat (first | apply Kd.S_alloc | apply Kd.S_drewN | apply Kd.S_drew)); exact HO_163002.out) hb); have n6_ := Aside0.mk (blk_below (Up.blk BK158.out) hb); have n7_ := Aside0.mk (blk_below (Up.blk BK162.out) hb); have n8_ := Aside0.mk (below_step (by repeat (first | (with_reducible first | exact HB.out | apply cA | apply cN | apply cD | refine cS ?_ GE158.out | refine cS ?_ GE162.out) | exact HB.out)) hb); clear HO_159000; clear HO_159001; clear HO_159002; clear HO_163000; clear HO_163001; clear HO_163002; clear BK158; clear BK162; clear HB; have HO_159000 := n0_; have HO_159001 := n1_; have HO_159002 := n2_; have HO_163000 := n3_; have HO_163001 := n4_; have HO_163002 := n5_; have BK158 := n6_; have BK162 := n7_; have HB := n8_; clear n0_ n1_ n2_ n3_ n4_ n5_ n6_ n7_ n8_; (try clear hb); (try clear hb2); (try clear hk); (try clear hi); have hnb125 := NB158_162.out; have hnc125 := NB162_158.out; have hcz126_0 : w124.cell? ⟨gb158, 0, none⟩ = some (.slice Ao21 y152.length co21) := (blk_cell BK158.out 0).trans rfl; have hcz126_1 : w124.cell? ⟨gb158, 1, none⟩ = some (u159001) := (blk_cell BK158.out 1).trans rfl; have hcz126_2 : w124.cell? ⟨gb158, 2, none⟩ = some (u159002) := (blk_cell BK158.out 2).trans rfl; have hfz126_0 := blk_frozen BK158.out 0; have hfz126_1 := blk_frozen BK158.out 1; have hfz126_2 := blk_frozen BK158.out 2; obtain ⟨Ao127, co127, eo127⟩ := Kd.R_slice HO_159001.out; subst eo127; obtain ⟨Ao128, co128, eo128⟩ := Kd.S_slice HO_159002.out; subst eo128) | ((with_reducible refine gate_callee (f := 18) rfl ?_); refine goesL_ (some 90) rfl rfl Try.func18 (by kernel_rfl) rfl #[.agg #[.slice Ao21 y152.length co21, .slice Ao127 x159001_2.length co127, .slice Ao128 x159002_2.length co128]] rfl (by (try simp only [List.map_toArray, List.map_cons, List.map_nil]); first | done | rfl | (simp only [List.length_drop, List.length_take]; rfl)) ?_; (with_reducible refine (curve_CheckGrid.calls k2 _ _ y152 _ _ x159001_2 _ _ x159002_2 t185 _ ?side1 ?side2 ?side3 ?side4 ?side5 ?side6 A64.out).mono ?_); (case side1 => repeat (first | exact (Kd.R_reads' HO_159000.out).2.2 | (with_reducible refine Kd.C_alloc ?_ _) | (with_reducible refine Kd.C_drewN ?_ _) | (with_reducible refine Kd.C_drew ?_))); (case side2 => exact (Kd.R_reads' HO_159000.out).2.1); (case side3 => repeat (first | exact (Kd.R_reads' HO_159001.out).2.2 | (with_reducible refine Kd.C_alloc ?_ _) | (with_reducible refine Kd.C_drewN ?_ _) | (with_reducible refine Kd.C_drew ?_))); (case side4 => exact (Kd.R_reads' HO_159001.out).2.1); (case side5 => repeat (first | exact (Kd.S_reads' HO_159002.out).2.2 | (with_reducible refine Kd.C_alloc ?_ _) | (with_reducible refine Kd.C_drewN ?_ _) | (with_reducible refine Kd.C_drew ?_))); (case side6 => exact (Kd.S_reads' HO_159002.out).2.1); rintro e w129 ⟨rfl, hb⟩; refine ⟨_, rfl, ?_⟩; have n0_ := Aside0.mk (Kd.R_below (by (with_reducible repeat (first | apply Kd.R_alloc | apply Kd.R_drewN | apply Kd.R_drew)); exact HO_159000.out) hb); have n1_ := Aside0.mk (Kd.R_below (by (with_reducible repeat (first | apply Kd.R_alloc | apply Kd.R_drewN | apply Kd.R_drew)); exact HO_159001.out) hb); have n2_ := Aside0.mk (Kd.S_below (by (with_reducible repeat (first | apply Kd.S_alloc | apply Kd.S_drewN | apply Kd.S_drew)); exact HO_159002.out) hb); have n3_ := Aside0.mk (Kd.R_below (by (with_reducible repeat (first | apply Kd.R_alloc | apply Kd.R_drewN | apply Kd.R_drew)); exact HO_163000.out) hb); have n4_ := Aside0.mk (Kd.R_below (by (with_reducible repeat (first | apply Kd.R_alloc | apply Kd.R_drewN | apply Kd.R_drew)); exact HO_163001.out) hb); have n5_ := Aside0.mk (Kd.S_below (by (with_reducible repeat (first | apply Kd.S_alloc | apply Kd.S_drewN | apply Kd.S_drew)); exact HO_163002.out) hb); have n6_ := Aside0.mk (blk_below (Up.blk BK158.out) hb); have n7_ := Aside0.mk (blk_below (Up.blk BK162.out) hb); have n8_ := Aside0.mk (below_step (by repeat (first | (with_reducible first | exact HB.out | apply cA | apply cN | apply cD | refine cS ?_ GE158.out | refine cS ?_ GE162.out) | exact HB.out)) hb); clear HO_159000; clear HO_159001; clear HO_159002; clear HO_163000; clear HO_163001; clear HO_163002; clear BK158; clear BK162; clear HB; have HO_159000 := n0_; have HO_159001 := n1_; have HO_159002 := n2_; have HO_163000 := n3_; have HO_163001 := n4_; have HO_163002 := n5_; have BK158 := n6_; have BK162 := n7_; have HB := n8_; clear n0_ n1_ n2_ n3_ n4_ n5_ n6_ n7_ n8_; (try clear hb); (try clear hb2); (try clear hk); (try clear hi)))
        go_ret
        exact ⟨by first | rfl | (simp [errW_none, errW_some] <;> rfl) | (simp [*, errW_none, errW_some] <;> rfl), by repeat (first | (with_reducible first | exact HB.out | apply cA | apply cN | apply cD | refine cS ?_ GE158.out | refine cS ?_ GE162.out) | exact HB.out)⟩

end Go.Proofs.Ytfgeppldckagaaa.PAll
