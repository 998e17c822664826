import Derived.Test.YtpbekhkmeaaejaaPAllx0
import Derived.Test.YtpbekhkmeaaejaaPAllx3
import Derived.Test.YtpbekhkmeaaejaaPAllx5
import Derived.Test.YtpbekhkmeaaejaaPAllx7
import Derived.Test.YtpbekhkmeaaejaaPAllx12
import Derived.Test.YtpbekhkmeaaejaaPAllx13
import Derived.Test.YtpbekhkmeaaejaaPAllx14
import Derived.Test.YtpbekhkmeaaejaaPAllx15
import Derived.Test.YtpbekhkmeaaejaaPAllx16
import Derived.Test.YtpbekhkmeaaejaaPAllx17
import Derived.Test.YtpbekhkmeaaejaaPAllx12d
import Derived.Test.YtpbekhkmeaaejaaPAllx18d
-- Written by a changed copy of the kit's print program, run in this session (NOTES.md tells the change). Not trusted: Lean checks it.
namespace Go.Proofs.Ytpbekhkmeaaejaa.PAll
open Go.RowKit Go.Proofs.YtpbekhkmeaaejaaW.PrintWords Go.Proofs.YtpbekhkmeaaejaaW.PrintLast Go.Proofs.YtpbekhkmeaaejaaW.PrintMore
attribute [local go_sem] max2_int min2_int max_two min_two max_three min_three max_four min_four   -- for this text's walks alone
set_option linter.unusedVariables false
set_option linter.unusedSimpArgs false

set_option maxHeartbeats 8000000 in
set_option maxRecDepth 100000 in
theorem sawmilllaw05_WireReads.calls (k : Nat) (a0 : ByteArray) (A1 : Option Addr) (c1 : Nat) (l1 : List (S32)) (r : Bool) (w : World) (hr1 : Kd.C k32 w A1 l1.length l1) (hc1 : l1.length ≤ c1) (h : sawmilllaw05_WireReads.f k a0 l1 = some r) :
  Calls Try.prog 6 #[.string a0, .slice A1 l1.length c1] w fun e w' => e = .returned (.bool r) ∧ Below w.heap.size w w' := by
 have hu42 := Try.underlying42
 have hu32 := Try.underlying32
 have hu45 := Try.underlying45
 have HR1 := Aside0.mk hr1
 have HC1 := Aside0.mk hc1
 clear hr1 hc1
 have HB := Aside0.mk (Below.refl w.heap.size w)
 have H : (if (a0.size : Int) > 3000 then (sawmilllaw05_WireReads.j0 k a0 l1 true) else (sawmilllaw05_WireReads.j0 k a0 l1 (decide ((l1.length : Int) > 60)))) = some r := h
 clear h
 have HC3 := Aside0.mk H
 clear H
 go_enter Try.func6, Try.ntmps6
 go_upto_region 1 with (fail)
 go_cut [18] (fun v18 wc => ∃ (kq : Nat) (x18_2 : Bool), v18 = .bool x18_2 ∧ Aside0 (sawmilllaw05_WireReads.j0 kq a0 l1 x18_2 = some r) ∧ Aside0 (kq ≤ k) ∧ Aside0 (Below w.heap.size w wc))
 case first =>
  have H := HC3.out
  clear HC3
  by_cases c4 : (a0.size : Int) > 3000
  ·rw [if_pos c4] at H
   have c4b0 : decide (3000 < (a0.size : Int)) = true := decide_eq_true c4
   have c4b1 : decide (3000 < a0.size) = true := decide_eq_true (by omega)
   clear c4
   (first | rw [c4b0] | (simp only [i64_w, i32_w]; rw [c4b0]) | skip)
   have H' := Aside0.mk H
   clear H
   go_wp2
   go_meet
   case rel => exact ⟨_, (true), (by first | rfl | (simp; done) | (simp [*]; done)), H', ⟨by first | omega | exact Nat.le_refl _⟩, ⟨by repeat (first | (with_reducible first | exact HB.out | apply cA | apply cN | apply cD) | exact HB.out)⟩⟩
  ·rw [if_neg c4] at H
   have c4b0 : decide (3000 < (a0.size : Int)) = false := decide_eq_false c4
   have c4b1 : decide (3000 < a0.size) = false := decide_eq_false (by omega)
   clear c4
   (first | rw [c4b0] | (simp only [i64_w, i32_w]; rw [c4b0]) | skip)
   have H' := Aside0.mk H
   clear H
   go_wp2
   go_meet
   case rel => exact ⟨_, (decide ((l1.length : Int) > 60)), (by first | rfl | (simp; done) | (simp [*]; done)), H', ⟨by first | omega | exact Nat.le_refl _⟩, ⟨by repeat (first | (with_reducible first | exact HB.out | apply cA | apply cN | apply cD) | exact HB.out)⟩⟩
 case rest =>
  clear HC3
  try clear c1
  try clear p2
  try clear c4
  try clear c4b0
  try clear c4b1
  obtain ⟨kq, x18_2, rfl, HA, HJ2, HB⟩ := hcut
  cases kq with
  | zero => exact absurd HA.out (by simp [sawmilllaw05_WireReads.j0])
  | succ kj2 =>
   have H := HA.out
   clear HA
   simp only [sawmilllaw05_WireReads.j0] at H
   by_cases c5 : x18_2 = true
   ·subst c5
    have H1 : ((sawmilllaw05_awake.f).bind fun t342 => (some t342)) = some r := by rw [if_pos rfl] at H; exact H
    clear H
    have H := H1
    clear H1
    replace H := Option.bind_eq_some_iff.mp H
    obtain ⟨t342, A60, H⟩ := H
    replace H : (some t342) = some r := H
    have A6 := Aside0.mk A60
    clear A60
    obtain rfl := Option.some.inj H
    go_wp2_with (first | ((with_reducible refine gate_callee (f := 16) rfl ?_); refine goesL_ (some 19) rfl rfl Try.func16 (by kernel_rfl) rfl #[] rfl (by (try simp only [List.map_toArray, List.map_cons, List.map_nil]); first | done | rfl | (simp only [List.length_drop, List.length_take]; rfl)) ?_; (with_reducible refine (sawmilllaw05_awake.calls  t342 _ A6.out).mono ?_); rintro e w7 ⟨rfl, hb⟩; refine ⟨_, rfl, ?_⟩; have n0_ := Aside0.mk (below_step (by repeat (first | (with_reducible first | exact HB.out | apply cA | apply cN | apply cD) | exact HB.out)) hb); clear HB; have HB := n0_; clear n0_; (try clear hb); (try clear hb2); (try clear hk); (try clear hi)))
    go_ret
    exact ⟨by first | rfl | (simp [errW_none, errW_some] <;> rfl) | (simp [*, errW_none, errW_some] <;> rfl), by repeat (first | (with_reducible first | exact HB.out | apply cA | apply cN | apply cD) | exact HB.out)⟩
   ·replace c5 := Bool.eq_false_iff.mpr c5
    subst c5
    have H1 : ((wire_NewReader.f a0).bind fun bt343 => ((sawmillref05_NewReader.f a0).bind fun bt347 => (sawmilllaw05_WireReads.l0 kj2 l1 0 bt343.1 bt343.2.1 bt343.2.2 bt347.1 bt347.2.1 bt347.2.2))) = some r := by rw [if_neg (show ¬ (false = true) by decide)] at H; exact H
    clear H
    have H := H1
    clear H1
    replace H := Option.bind_eq_some_iff.mp H
    obtain ⟨⟨t343, t344, t345⟩, A80, H⟩ := H
    replace H : ((sawmillref05_NewReader.f a0).bind fun bt347 => (sawmilllaw05_WireReads.l0 kj2 l1 0 t343 t344 t345 bt347.1 bt347.2.1 bt347.2.2)) = some r := H
    have A8 := Aside0.mk A80
    clear A80
    replace H := Option.bind_eq_some_iff.mp H
    obtain ⟨⟨t347, t348, t349⟩, A90, H⟩ := H
    replace H : (sawmilllaw05_WireReads.l0 kj2 l1 0 t343 t344 t345 t347 t348 t349) = some r := H
    have A9 := Aside0.mk A90
    clear A90
    have H' := Aside0.mk H
    clear H
    go_wp2_with (first | ((with_reducible refine gate_callee (f := 21) rfl ?_); refine goesL_ (some 21) rfl rfl Try.func21 (by kernel_rfl) rfl #[.string a0] rfl (by (try simp only [List.map_toArray, List.map_cons, List.map_nil]); first | done | rfl | (simp only [List.length_drop, List.length_take]; rfl)) ?_; (with_reducible refine (wire_NewReader.calls a0 t343 t344 t345 w _ ?side1 A8.out).mono ?_); (case side1 => repeat (first | (with_reducible first | exact HB.out | apply cA | apply cN | apply cD) | exact HB.out)); rintro e w10 ⟨g346, rfl, hi, hb, hb2⟩; refine ⟨_, rfl, ?_⟩; have n0_ := Aside0.mk (hb); have n1_ := Aside0.mk (hi); clear HB; have HB := n0_; have HI346 := n1_; clear n0_ n1_; (try clear hb); (try clear hb2); (try clear hk); (try clear hi)) | ((with_reducible refine gate_callee (f := 26) rfl ?_); refine goesL_ (some 23) rfl rfl Try.func26 (by kernel_rfl) rfl #[.string a0] rfl (by (try simp only [List.map_toArray, List.map_cons, List.map_nil]); first | done | rfl | (simp only [List.length_drop, List.length_take]; rfl)) ?_; (with_reducible refine (sawmillref05_NewReader.calls a0 t347 t348 t349 _ A9.out).mono ?_); rintro e w11 ⟨rfl, hb⟩; refine ⟨_, rfl, ?_⟩; have n0_ := Aside0.mk (IsS73.below (by repeat (first | (with_reducible first | exact HI346.out | apply sA | apply sN | apply sD | apply s0 | apply s1 | apply s2) | exact HI346.out)) hb); have n1_ := Aside0.mk (below_step (by repeat (first | (with_reducible first | exact HB.out | apply cA | apply cN | apply cD | refine cS ?_ (IsS73.ge HI346.out)) | exact HB.out)) hb); clear HI346; clear HB; have HI346 := n0_; have HB := n1_; clear n0_ n1_; (try clear hb); (try clear hb2); (try clear hk); (try clear hi)) | ((with_reducible refine gate_dst (N := 6) rfl ?_); (try (refine gate_guard (by rfl) ?_; dsimp only)); refine box_event ?hg (N := 6) ?hd (cs := #[.string (⟨#[]⟩ : ByteArray), .int .i64 0, .int .i64 0]) (t := 42) ?hr ?_; (case hd => rfl); (case hg => rfl); (case hr => first | (go_simp; done) | (go_simp; rfl)); intro gb350 hg w12 hbox hb; have n0_ := Aside0.mk (IsS73.below (by repeat (first | (with_reducible first | exact HI346.out | apply sA | apply sN | apply sD | apply s0 | apply s1 | apply s2) | exact HI346.out)) hb); have n1_ := Aside0.mk (below_step (by repeat (first | (with_reducible first | exact HB.out | apply cA | apply cN | apply cD | refine cS ?_ (IsS73.ge HI346.out)) | exact HB.out)) hb); have n2_ := Aside0.mk (hbox); have n3_ := Aside0.mk ((by rw [hg]; exact (below_size (by repeat (first | (with_reducible first | exact HB.out | apply cA | apply cN | apply cD | refine cS ?_ (IsS73.ge HI346.out)) | exact HB.out))) : w.heap.size ≤ gb350)); have n4_ := Aside0.mk ((by rw [hg]; exact (below_size (by repeat (first | (with_reducible first | exact HB.out | apply cA | apply cN | apply cD | refine cS ?_ (IsS73.ge HI346.out)) | exact HB.out))) : w.heap.size ≤ gb350)); have n5_ := Aside0.mk ((by rw [hg]; exact Nat.ne_of_lt (IsS73.lt (show IsS73 w _ g346 t343 t344 t345 from by repeat (first | (with_reducible first | exact HI346.out | apply sA | apply sN | apply sD | apply s0 | apply s1 | apply s2) | exact HI346.out))) : g346 ≠ gb350)); have n6_ := Aside0.mk ((by rw [hg]; exact Nat.ne_of_gt (IsS73.lt (show IsS73 w _ g346 t343 t344 t345 from by repeat (first | (with_reducible first | exact HI346.out | apply sA | apply sN | apply sD | apply s0 | apply s1 | apply s2) | exact HI346.out))) : gb350 ≠ g346)); clear HI346; clear HB; have HI346 := n0_; have HB := n1_; have BK350 := n2_; have GW350 := n3_; have GE350 := n4_; have NB346_350 := n5_; have NB350_346 := n6_; clear n0_ n1_ n2_ n3_ n4_ n5_ n6_; clear hb hbox hg; have hnb13 := NB350_346.out; have hnc13 := NB346_350.out; have hcz14_0 : w12.cell? ⟨gb350, 0, none⟩ = some (.string (⟨#[]⟩ : ByteArray)) := (blk_cell BK350.out 0).trans rfl; have hcz14_1 : w12.cell? ⟨gb350, 1, none⟩ = some (.int .i64 0) := (blk_cell BK350.out 1).trans rfl; have hcz14_2 : w12.cell? ⟨gb350, 2, none⟩ = some (.int .i64 0) := (blk_cell BK350.out 2).trans rfl; have hfz14_0 := blk_frozen BK350.out 0; have hfz14_1 := blk_frozen BK350.out 1; have hfz14_2 := blk_frozen BK350.out 2))
    go_loopg [7] kj2 (fun kq v7 w' => ∃ (x7_2 : Int) (x347000_2 : ByteArray) (x347001_2 : Int) (x347002_2 : Int) (x351000_2 : ByteArray) (x351001_2 : Int) (x351002_2 : Int), v7 = .int .i64 x7_2 ∧ Aside0 (sawmilllaw05_WireReads.l0 kq l1 x7_2 x347000_2 x347001_2 x347002_2 x351000_2 x351001_2 x351002_2 = some r) ∧ Aside0 (kq ≤ kj2) ∧ Aside0 (w'.heap[gb350]? = some (.cells #[.string x351000_2, .int .i64 x351001_2, .int .i64 x351002_2] 42 (0, 0))) ∧ Aside0 (IsS73 w w' g346 x347000_2 x347001_2 x347002_2) ∧ Aside0 (Below w.heap.size w w'))
    case atStart => exact ⟨(0), (t343), (t344), (t345), (t347), (t348), (t349), (by first | rfl | (simp; done) | (simp [*]; done)), H', ⟨Nat.le_refl _⟩, ⟨by (with_reducible repeat (first | refine bN ?_ _ | refine bD ?_ | refine bA ?_ _)); refine blk_put (cs := #[.string t347, .int .i64 t348, .int .i64 0]) ?_ 2 _ rfl; (with_reducible repeat (first | refine bN ?_ _ | refine bD ?_ | refine bA ?_ _)); refine blk_put (cs := #[.string t347, .int .i64 0, .int .i64 0]) ?_ 1 _ rfl; (with_reducible repeat (first | refine bN ?_ _ | refine bD ?_ | refine bA ?_ _)); refine blk_put (cs := #[.string (⟨#[]⟩ : ByteArray), .int .i64 0, .int .i64 0]) ?_ 0 _ rfl; (with_reducible repeat (first | refine bN ?_ _ | refine bD ?_ | refine bA ?_ _)); exact BK350.out⟩, ⟨by repeat (first | (with_reducible first | exact HI346.out | apply sA | apply sN | apply sD | apply s0 | apply s1 | apply s2 | refine sF ?_ NB346_350.out _) | exact HI346.out)⟩, ⟨by repeat (first | (with_reducible first | exact HB.out | apply cA | apply cN | apply cD | refine cS ?_ (IsS73.ge HI346.out) | refine cS ?_ GE350.out) | exact HB.out)⟩⟩
    case round =>
     clear H'
     try clear c1
     try clear c2
     try clear p2
     try clear c4
     try clear c4b0
     try clear c4b1
     try clear c5
     try clear c6
     try clear c13
     try clear hcz14_0
     try clear hcz14_1
     try clear hcz14_2
     try clear hfz14_0
     try clear hfz14_1
     try clear hfz14_2
     try clear p2
     obtain ⟨x7_2, x347000_2, x347001_2, x347002_2, x351000_2, x351001_2, x351002_2, rfl, HA, HK2, BK350, HI346, HB⟩ := hrel
     cases gk with
     | zero => exact absurd HA.out (by simp [sawmilllaw05_WireReads.l0])
     | succ k2 =>
      have H := HA.out
      clear HA
      simp only [sawmilllaw05_WireReads.l0] at H
      by_cases c15 : x7_2 < (l1.length : Int)
      ·rw [if_pos c15] at H
       have c15b0 : decide (x7_2 < (l1.length : Int)) = true := decide_eq_true c15
       clear c15
       by_cases c16 : 0 ≤ x7_2
       ·rw [if_pos c16] at H
        have c16b0 : decide (0 ≤ x7_2) = true := decide_eq_true c16
        clear c16
        replace H := Option.bind_eq_some_iff.mp H
        obtain ⟨⟨t353, t354, t355, t356, t357, t360, t361, t362⟩, A170, H⟩ := H
        replace H : (if ((rd_T32 l1 x7_2).f0) = 0 then ((sawmillref05_ReadUint.f k2 x351000_2 x351001_2 x351002_2).bind fun bt365 => (sawmilllaw05_WireReads.j2 k2 l1 x7_2 t360 t361 t362 bt365.1 bt365.2.1 bt365.2.2.1 t353 t354 t355 t356 t357 ((rd_T32 l1 x7_2).f0) bt365.2.2.2 0 (⟨#[]⟩ : ByteArray) ([] : List Int))) else (if ((rd_T32 l1 x7_2).f0) = 1 then ((sawmillref05_ReadInt.f k2 x351000_2 x351001_2 x351002_2 ((rd_T32 l1 x7_2).f1) ((rd_T32 l1 x7_2).f2)).bind fun bt369 => (sawmilllaw05_WireReads.j2 k2 l1 x7_2 t360 t361 t362 bt369.1 bt369.2.1 bt369.2.2.1 t353 t354 t355 t356 t357 ((rd_T32 l1 x7_2).f0) 0 bt369.2.2.2 (⟨#[]⟩ : ByteArray) ([] : List Int))) else (if ((rd_T32 l1 x7_2).f0) = 2 then ((sawmillref05_ReadText.f k2 x351000_2 x351001_2 x351002_2 ((rd_T32 l1 x7_2).f3)).bind fun bt373 => (sawmilllaw05_WireReads.j2 k2 l1 x7_2 t360 t361 t362 bt373.1 bt373.2.1 bt373.2.2.1 t353 t354 t355 t356 t357 ((rd_T32 l1 x7_2).f0) 0 0 bt373.2.2.2 ([] : List Int))) else ((sawmillref05_ReadInts.f k2 x351000_2 x351001_2 x351002_2 ((rd_T32 l1 x7_2).f3) ((rd_T32 l1 x7_2).f1) ((rd_T32 l1 x7_2).f2)).bind fun bt377 => (sawmilllaw05_WireReads.j2 k2 l1 x7_2 t360 t361 t362 bt377.1 bt377.2.1 bt377.2.2.1 t353 t354 t355 t356 t357 ((rd_T32 l1 x7_2).f0) 0 0 (⟨#[]⟩ : ByteArray) bt377.2.2.2))))) = some r := H
        have A17 := Aside0.mk A170
        clear A170
        have HC18 := Aside0.mk H
        clear H
        have p351 : 0 ≤ (x7_2 : Int) := of_decide_eq_true (by first | (with_reducible assumption) | assumption)
        have q351 : x7_2 < (l1.length : Int) := of_decide_eq_true (by first | (with_reducible assumption) | assumption)
        obtain ⟨ad351, e351, hx351_0, hx351_1, hx351_2, hx351_3⟩ := at_T32 HR1.out x7_2 p351 q351
        cases e351
        replace hx351_0 := (HB.out.cell (World.block_lt_of_cell? w _ hx351_0)).trans hx351_0
        replace hx351_1 := (HB.out.cell (World.block_lt_of_cell? w _ hx351_1)).trans hx351_1
        replace hx351_2 := (HB.out.cell (World.block_lt_of_cell? w _ hx351_2)).trans hx351_2
        replace hx351_3 := (HB.out.cell (World.block_lt_of_cell? w _ hx351_3)).trans hx351_3
        replace p351 := eq_true p351
        replace q351 := eq_true q351
        go_upto_block 2 with (first | ((with_reducible refine gate_dst (N := 8) rfl ?_); (try (refine gate_guard (by rfl) ?_; dsimp only)); refine box_event ?hg (N := 8) ?hd (cs := #[.int .u8 0, .int .i64 0, .int .i64 0, .int .i64 0]) (t := 32) ?hr ?_; (case hd => rfl); (case hg => rfl); (case hr => first | (go_simp; done) | (go_simp; rfl)); intro gb352 hg w19 hbox hb; have n0_ := Aside0.mk (blk_below (Up.blk BK350.out) hb); have n1_ := Aside0.mk (IsS73.below (by repeat (first | (with_reducible first | exact HI346.out | apply sA | apply sN | apply sD | apply s0 | apply s1 | apply s2 | refine sF ?_ NB346_350.out _) | exact HI346.out)) hb); have n2_ := Aside0.mk (below_step (by repeat (first | (with_reducible first | exact HB.out | apply cA | apply cN | apply cD | refine cS ?_ (IsS73.ge HI346.out) | refine cS ?_ GE350.out) | exact HB.out)) hb); have n3_ := Aside0.mk (hbox); have n4_ := Aside0.mk ((by rw [hg]; exact (below_size (by repeat (first | (with_reducible first | exact HB.out | apply cA | apply cN | apply cD | refine cS ?_ (IsS73.ge HI346.out) | refine cS ?_ GE350.out) | exact HB.out))) : w.heap.size ≤ gb352)); have n5_ := Aside0.mk ((by rw [hg]; exact (below_size (by repeat (first | (with_reducible first | exact HB.out | apply cA | apply cN | apply cD | refine cS ?_ (IsS73.ge HI346.out) | refine cS ?_ GE350.out) | exact HB.out))) : w.heap.size ≤ gb352)); have n6_ := Aside0.mk ((by rw [hg]; exact Nat.ne_of_lt (blk_lt (Up.blk BK350.out)) : gb350 ≠ gb352)); have n7_ := Aside0.mk ((by rw [hg]; exact Nat.ne_of_gt (blk_lt (Up.blk BK350.out)) : gb352 ≠ gb350)); have n8_ := Aside0.mk ((by rw [hg]; exact Nat.ne_of_lt (IsS73.lt (show IsS73 w _ g346 x347000_2 x347001_2 x347002_2 from by repeat (first | (with_reducible first | exact HI346.out | apply sA | apply sN | apply sD | apply s0 | apply s1 | apply s2 | refine sF ?_ NB346_350.out _) | exact HI346.out))) : g346 ≠ gb352)); have n9_ := Aside0.mk ((by rw [hg]; exact Nat.ne_of_gt (IsS73.lt (show IsS73 w _ g346 x347000_2 x347001_2 x347002_2 from by repeat (first | (with_reducible first | exact HI346.out | apply sA | apply sN | apply sD | apply s0 | apply s1 | apply s2 | refine sF ?_ NB346_350.out _) | exact HI346.out))) : gb352 ≠ g346)); clear BK350; clear HI346; clear HB; have BK350 := n0_; have HI346 := n1_; have HB := n2_; have BK352 := n3_; have GW352 := n4_; have GE352 := n5_; have NB350_352 := n6_; have NB352_350 := n7_; have NB346_352 := n8_; have NB352_346 := n9_; clear n0_ n1_ n2_ n3_ n4_ n5_ n6_ n7_ n8_ n9_; clear hb hbox hg; have hnb20 := NB352_350.out; have hnc20 := NB350_352.out; have hnb21 := NB352_346.out; have hnc21 := NB346_352.out; have hcz22_0 : w19.cell? ⟨gb352, 0, none⟩ = some (.int .u8 0) := (blk_cell BK352.out 0).trans rfl; have hcz22_1 : w19.cell? ⟨gb352, 1, none⟩ = some (.int .i64 0) := (blk_cell BK352.out 1).trans rfl; have hcz22_2 : w19.cell? ⟨gb352, 2, none⟩ = some (.int .i64 0) := (blk_cell BK352.out 2).trans rfl; have hcz22_3 : w19.cell? ⟨gb352, 3, none⟩ = some (.int .i64 0) := (blk_cell BK352.out 3).trans rfl; have hfz22_0 := blk_frozen BK352.out 0; have hfz22_1 := blk_frozen BK352.out 1; have hfz22_2 := blk_frozen BK352.out 2; have hfz22_3 := blk_frozen BK352.out 3) | ((with_reducible refine gate_callee (f := 27) rfl ?_); refine goesL_ (some 36) rfl rfl Try.func27 (by kernel_rfl) rfl #[.pointer (some ⟨g346, 0, none⟩), .agg #[.int .u8 ((rd_T32 l1 x7_2).f0), .int .i64 ((rd_T32 l1 x7_2).f1), .int .i64 ((rd_T32 l1 x7_2).f2), .int .i64 ((rd_T32 l1 x7_2).f3)]] rfl (by (try simp only [List.map_toArray, List.map_cons, List.map_nil]); first | done | rfl | (simp only [List.length_drop, List.length_take]; rfl)) ?_; (with_reducible refine (sawmilllaw05_read.calls k2 g346 x347000_2 x347001_2 x347002_2 ((rd_T32 l1 x7_2).f0) ((rd_T32 l1 x7_2).f1) ((rd_T32 l1 x7_2).f2) ((rd_T32 l1 x7_2).f3) t353 t354 t355 t356 t357 t360 t361 t362 w _ ?side1 ?side2 A17.out).mono ?_); (case side1 => repeat (first | (with_reducible first | exact HI346.out | apply sA | apply sN | apply sD | apply s0 | apply s1 | apply s2 | refine sF ?_ NB346_350.out _ | refine sF ?_ NB346_352.out _) | exact HI346.out)); (case side2 => repeat (first | (with_reducible first | exact HB.out | apply cA | apply cN | apply cD | refine cS ?_ (IsS73.ge HI346.out) | refine cS ?_ GE350.out | refine cS ?_ GE352.out) | exact HB.out)); rintro e w23 ⟨v358, rfl, ho0, hi, hb, hk⟩; refine ⟨_, rfl, ?_⟩; have n0_ := Aside0.mk (KeepBut.blk hk (g' := gb350) (o := .cells #[.string x351000_2, .int .i64 x351001_2, .int .i64 x351002_2] 42 (0, 0)) (by (with_reducible repeat (first | refine bN ?_ _ | refine bD ?_ | refine bA ?_ _)); refine bF ?_ NB350_352.out _; (with_reducible repeat (first | refine bN ?_ _ | refine bD ?_ | refine bA ?_ _)); refine bF ?_ NB350_352.out _; (with_reducible repeat (first | refine bN ?_ _ | refine bD ?_ | refine bA ?_ _)); refine bF ?_ NB350_352.out _; (with_reducible repeat (first | refine bN ?_ _ | refine bD ?_ | refine bA ?_ _)); refine bF ?_ NB350_352.out _; (with_reducible repeat (first | refine bN ?_ _ | refine bD ?_ | refine bA ?_ _)); exact BK350.out) NB350_346.out (by simp)); have n1_ := Aside0.mk (KeepBut.blk hk (g' := gb352) (o := .cells #[.int .u8 ((rd_T32 l1 x7_2).f0), .int .i64 ((rd_T32 l1 x7_2).f1), .int .i64 ((rd_T32 l1 x7_2).f2), .int .i64 ((rd_T32 l1 x7_2).f3)] 32 (0, 0)) (by (with_reducible repeat (first | refine bN ?_ _ | refine bD ?_ | refine bA ?_ _)); refine blk_put (cs := #[.int .u8 ((rd_T32 l1 x7_2).f0), .int .i64 ((rd_T32 l1 x7_2).f1), .int .i64 ((rd_T32 l1 x7_2).f2), .int .i64 0]) ?_ 3 _ rfl; (with_reducible repeat (first | refine bN ?_ _ | refine bD ?_ | refine bA ?_ _)); refine blk_put (cs := #[.int .u8 ((rd_T32 l1 x7_2).f0), .int .i64 ((rd_T32 l1 x7_2).f1), .int .i64 0, .int .i64 0]) ?_ 2 _ rfl; (with_reducible repeat (first | refine bN ?_ _ | refine bD ?_ | refine bA ?_ _)); refine blk_put (cs := #[.int .u8 ((rd_T32 l1 x7_2).f0), .int .i64 0, .int .i64 0, .int .i64 0]) ?_ 1 _ rfl; (with_reducible repeat (first | refine bN ?_ _ | refine bD ?_ | refine bA ?_ _)); refine blk_put (cs := #[.int .u8 0, .int .i64 0, .int .i64 0, .int .i64 0]) ?_ 0 _ rfl; (with_reducible repeat (first | refine bN ?_ _ | refine bD ?_ | refine bA ?_ _)); exact BK352.out) NB352_346.out (by simp)); have n2_ := Aside0.mk (Kd.R_lower ho0 (below_size (by repeat (first | (with_reducible first | exact HB.out | apply cA | apply cN | apply cD | refine cS ?_ (IsS73.ge HI346.out) | refine cS ?_ GE350.out | refine cS ?_ GE352.out) | exact HB.out)))); have n3_ := Aside0.mk (hb); have n4_ := Aside0.mk (hi); clear BK350; clear BK352; clear HB; clear HI346; have BK350 := n0_; have BK352 := n1_; have HO359 := n2_; have HB := n3_; have HI346 := n4_; clear n0_ n1_ n2_ n3_ n4_; (try clear hb); (try clear hb2); (try clear hk); (try clear hi); (try clear ho0)) | ((with_reducible refine gate_dst (N := 9) rfl ?_); (try (refine gate_guard (by rfl) ?_; dsimp only)); refine box_event ?hg (N := 9) ?hd (cs := #[.int .u8 0, .int .u64 0, .int .i64 0, .string (⟨#[]⟩ : ByteArray), .slice none 0 0]) (t := 45) ?hr ?_; (case hd => rfl); (case hg => rfl); (case hr => first | (go_simp; done) | (go_simp; rfl)); intro gb363 hg w24 hbox hb; have n0_ := Aside0.mk (Kd.R_below (by (with_reducible repeat (first | apply Kd.R_alloc | apply Kd.R_drewN | apply Kd.R_drew)); exact HO359.out) hb); have n1_ := Aside0.mk (blk_below (Up.blk BK350.out) hb); have n2_ := Aside0.mk (IsS73.below (by repeat (first | (with_reducible first | exact HI346.out | apply sA | apply sN | apply sD | apply s0 | apply s1 | apply s2 | refine sF ?_ NB346_350.out _ | refine sF ?_ NB346_352.out _) | exact HI346.out)) hb); have n3_ := Aside0.mk (blk_below (Up.blk BK352.out) hb); have n4_ := Aside0.mk (below_step (by repeat (first | (with_reducible first | exact HB.out | apply cA | apply cN | apply cD | refine cS ?_ (IsS73.ge HI346.out) | refine cS ?_ GE350.out | refine cS ?_ GE352.out) | exact HB.out)) hb); have n5_ := Aside0.mk (hbox); have n6_ := Aside0.mk ((by rw [hg]; exact (below_size (by repeat (first | (with_reducible first | exact HB.out | apply cA | apply cN | apply cD | refine cS ?_ (IsS73.ge HI346.out) | refine cS ?_ GE350.out | refine cS ?_ GE352.out) | exact HB.out))) : w.heap.size ≤ gb363)); have n7_ := Aside0.mk ((by rw [hg]; exact (below_size (by repeat (first | (with_reducible first | exact HB.out | apply cA | apply cN | apply cD | refine cS ?_ (IsS73.ge HI346.out) | refine cS ?_ GE350.out | refine cS ?_ GE352.out) | exact HB.out))) : w.heap.size ≤ gb363)); have n8_ := Aside0.mk ((by rw [hg]; exact Nat.ne_of_lt (blk_lt (Up.blk BK350.out)) : gb350 ≠ gb363)); have n9_ := Aside0.mk ((by rw [hg]; exact Nat.ne_of_gt (blk_lt (Up.blk BK350.out)) : gb363 ≠ gb350)); have n10_ := Aside0.mk ((by rw [hg]; exact Nat.ne_of_lt (blk_lt (Up.blk BK352.out)) : gb352 ≠ gb363)); have n11_ := Aside0.mk ((by rw [hg]; exact Nat.ne_of_gt (blk_lt (Up.blk BK352.out)) : gb363 ≠ gb352)); have n12_ := Aside0.mk ((by rw [hg]; exact Nat.ne_of_lt (IsS73.lt (show IsS73 w _ g346 t360 t361 t362 from by repeat (first | (with_reducible first | exact HI346.out | apply sA | apply sN | apply sD | apply s0 | apply s1 | apply s2 | refine sF ?_ NB346_350.out _ | refine sF ?_ NB346_352.out _) | exact HI346.out))) : g346 ≠ gb363)); have n13_ := Aside0.mk ((by rw [hg]; exact Nat.ne_of_gt (IsS73.lt (show IsS73 w _ g346 t360 t361 t362 from by repeat (first | (with_reducible first | exact HI346.out | apply sA | apply sN | apply sD | apply s0 | apply s1 | apply s2 | refine sF ?_ NB346_350.out _ | refine sF ?_ NB346_352.out _) | exact HI346.out))) : gb363 ≠ g346)); clear HO359; clear BK350; clear HI346; clear BK352; clear HB; have HO359 := n0_; have BK350 := n1_; have HI346 := n2_; have BK352 := n3_; have HB := n4_; have BK363 := n5_; have GW363 := n6_; have GE363 := n7_; have NB350_363 := n8_; have NB363_350 := n9_; have NB352_363 := n10_; have NB363_352 := n11_; have NB346_363 := n12_; have NB363_346 := n13_; clear n0_ n1_ n2_ n3_ n4_ n5_ n6_ n7_ n8_ n9_ n10_ n11_ n12_ n13_; clear hb hbox hg; have hnb25 := NB363_350.out; have hnc25 := NB350_363.out; have hnb26 := NB363_352.out; have hnc26 := NB352_363.out; have hnb27 := NB363_346.out; have hnc27 := NB346_363.out; have hcz28_0 : w24.cell? ⟨gb363, 0, none⟩ = some (.int .u8 0) := (blk_cell BK363.out 0).trans rfl; have hcz28_1 : w24.cell? ⟨gb363, 1, none⟩ = some (.int .u64 0) := (blk_cell BK363.out 1).trans rfl; have hcz28_2 : w24.cell? ⟨gb363, 2, none⟩ = some (.int .i64 0) := (blk_cell BK363.out 2).trans rfl; have hcz28_3 : w24.cell? ⟨gb363, 3, none⟩ = some (.string (⟨#[]⟩ : ByteArray)) := (blk_cell BK363.out 3).trans rfl; have hcz28_4 : w24.cell? ⟨gb363, 4, none⟩ = some (.slice none 0 0) := (blk_cell BK363.out 4).trans rfl; have hfz28_0 := blk_frozen BK363.out 0; have hfz28_1 := blk_frozen BK363.out 1; have hfz28_2 := blk_frozen BK363.out 2; have hfz28_3 := blk_frozen BK363.out 3; have hfz28_4 := blk_frozen BK363.out 4; obtain ⟨Ao29, co29, eo29⟩ := Kd.R_slice HO359.out; subst eo29; have hcz30_0 : w24.cell? ⟨gb352, 0, none⟩ = some (.int .u8 ((rd_T32 l1 x7_2).f0)) := (blk_cell BK352.out 0).trans rfl; have hcz30_1 : w24.cell? ⟨gb352, 1, none⟩ = some (.int .i64 ((rd_T32 l1 x7_2).f1)) := (blk_cell BK352.out 1).trans rfl; have hcz30_2 : w24.cell? ⟨gb352, 2, none⟩ = some (.int .i64 ((rd_T32 l1 x7_2).f2)) := (blk_cell BK352.out 2).trans rfl; have hcz30_3 : w24.cell? ⟨gb352, 3, none⟩ = some (.int .i64 ((rd_T32 l1 x7_2).f3)) := (blk_cell BK352.out 3).trans rfl; have hfz30_0 := blk_frozen BK352.out 0; have hfz30_1 := blk_frozen BK352.out 1; have hfz30_2 := blk_frozen BK352.out 2; have hfz30_3 := blk_frozen BK352.out 3) | ((with_reducible refine gate_dst (N := 10) rfl ?_); (try (refine gate_guard (by rfl) ?_; dsimp only)); refine box_event ?hg (N := 10) ?hd (cs := #[.int .u8 0, .int .u64 0, .int .i64 0, .string (⟨#[]⟩ : ByteArray), .slice none 0 0]) (t := 45) ?hr ?_; (case hd => rfl); (case hg => rfl); (case hr => first | (go_simp; done) | (go_simp; rfl)); intro gb364 hg w31 hbox hb; have n0_ := Aside0.mk (Kd.R_below (by (with_reducible repeat (first | apply Kd.R_alloc | apply Kd.R_drewN | apply Kd.R_drew)); exact (Kd.R_mono (Kd.R_far (p := ⟨gb363, 4, none⟩) (Kd.R_far (p := ⟨gb363, 3, none⟩) (Kd.R_far (p := ⟨gb363, 2, none⟩) (Kd.R_far (p := ⟨gb363, 1, none⟩) (Kd.R_far (p := ⟨gb363, 0, none⟩) (Kd.R_types HO359.out BK363.out (by decide)) (fun _ hk => hk.2) (.int .u8 t353)) (fun _ hk => hk.2) (.int .u64 t354)) (fun _ hk => hk.2) (.int .i64 t355)) (fun _ hk => hk.2) (.string t356)) (fun _ hk => hk.2) (.slice Ao29 t357.length co29)) (fun _ h_ => h_.1))) hb); have n1_ := Aside0.mk (blk_below (g := gb350) (o := .cells #[.string x351000_2, .int .i64 x351001_2, .int .i64 x351002_2] 42 (0, 0)) (by (with_reducible repeat (first | refine bN ?_ _ | refine bD ?_ | refine bA ?_ _)); refine bF ?_ NB350_363.out _; (with_reducible repeat (first | refine bN ?_ _ | refine bD ?_ | refine bA ?_ _)); refine bF ?_ NB350_363.out _; (with_reducible repeat (first | refine bN ?_ _ | refine bD ?_ | refine bA ?_ _)); refine bF ?_ NB350_363.out _; (with_reducible repeat (first | refine bN ?_ _ | refine bD ?_ | refine bA ?_ _)); refine bF ?_ NB350_363.out _; (with_reducible repeat (first | refine bN ?_ _ | refine bD ?_ | refine bA ?_ _)); refine bF ?_ NB350_363.out _; (with_reducible repeat (first | refine bN ?_ _ | refine bD ?_ | refine bA ?_ _)); exact BK350.out) hb); have n2_ := Aside0.mk (IsS73.below (show IsS73 w (((((w24.setCell ⟨gb363, 0, none⟩ (.int .u8 t353)).setCell ⟨gb363, 1, none⟩ (.int .u64 t354)).setCell ⟨gb363, 2, none⟩ (.int .i64 t355)).setCell ⟨gb363, 3, none⟩ (.string t356)).setCell ⟨gb363, 4, none⟩ (.slice Ao29 t357.length co29)) g346 t360 t361 t362 from by repeat (first | (with_reducible first | exact HI346.out | apply sA | apply sN | apply sD | apply s0 | apply s1 | apply s2 | refine sF ?_ NB346_350.out _ | refine sF ?_ NB346_352.out _ | refine sF ?_ NB346_363.out _) | exact HI346.out)) hb); have n3_ := Aside0.mk (blk_below (g := gb352) (o := .cells #[.int .u8 ((rd_T32 l1 x7_2).f0), .int .i64 ((rd_T32 l1 x7_2).f1), .int .i64 ((rd_T32 l1 x7_2).f2), .int .i64 ((rd_T32 l1 x7_2).f3)] 32 (0, 0)) (by (with_reducible repeat (first | refine bN ?_ _ | refine bD ?_ | refine bA ?_ _)); refine bF ?_ NB352_363.out _; (with_reducible repeat (first | refine bN ?_ _ | refine bD ?_ | refine bA ?_ _)); refine bF ?_ NB352_363.out _; (with_reducible repeat (first | refine bN ?_ _ | refine bD ?_ | refine bA ?_ _)); refine bF ?_ NB352_363.out _; (with_reducible repeat (first | refine bN ?_ _ | refine bD ?_ | refine bA ?_ _)); refine bF ?_ NB352_363.out _; (with_reducible repeat (first | refine bN ?_ _ | refine bD ?_ | refine bA ?_ _)); refine bF ?_ NB352_363.out _; (with_reducible repeat (first | refine bN ?_ _ | refine bD ?_ | refine bA ?_ _)); exact BK352.out) hb); have n4_ := Aside0.mk (blk_below (g := gb363) (o := .cells #[.int .u8 t353, .int .u64 t354, .int .i64 t355, .string t356, .slice Ao29 t357.length co29] 45 (0, 0)) (by (with_reducible repeat (first | refine bN ?_ _ | refine bD ?_ | refine bA ?_ _)); refine blk_put (cs := #[.int .u8 t353, .int .u64 t354, .int .i64 t355, .string t356, .slice none 0 0]) ?_ 4 _ rfl; (with_reducible repeat (first | refine bN ?_ _ | refine bD ?_ | refine bA ?_ _)); refine blk_put (cs := #[.int .u8 t353, .int .u64 t354, .int .i64 t355, .string (⟨#[]⟩ : ByteArray), .slice none 0 0]) ?_ 3 _ rfl; (with_reducible repeat (first | refine bN ?_ _ | refine bD ?_ | refine bA ?_ _)); refine blk_put (cs := #[.int .u8 t353, .int .u64 t354, .int .i64 0, .string (⟨#[]⟩ : ByteArray), .slice none 0 0]) ?_ 2 _ rfl; (with_reducible repeat (first | refine bN ?_ _ | refine bD ?_ | refine bA ?_ _)); refine blk_put (cs := #[.int .u8 t353, .int .u64 0, .int .i64 0, .string (⟨#[]⟩ : ByteArray), .slice none 0 0]) ?_ 1 _ rfl; (with_reducible repeat (first | refine bN ?_ _ | refine bD ?_ | refine bA ?_ _)); refine blk_put (cs := #[.int .u8 0, .int .u64 0, .int .i64 0, .string (⟨#[]⟩ : ByteArray), .slice none 0 0]) ?_ 0 _ rfl; (with_reducible repeat (first | refine bN ?_ _ | refine bD ?_ | refine bA ?_ _)); exact BK363.out) hb); have n5_ := Aside0.mk (below_step (by repeat (first | (with_reducible first | exact HB.out | apply cA | apply cN | apply cD | refine cS ?_ (IsS73.ge HI346.out) | refine cS ?_ GE350.out | refine cS ?_ GE352.out | refine cS ?_ GE363.out) | exact HB.out)) hb); have n6_ := Aside0.mk (hbox); have n7_ := Aside0.mk ((by rw [hg]; exact (below_size (by repeat (first | (with_reducible first | exact HB.out | apply cA | apply cN | apply cD | refine cS ?_ (IsS73.ge HI346.out) | refine cS ?_ GE350.out | refine cS ?_ GE352.out | refine cS ?_ GE363.out) | exact HB.out))) : w.heap.size ≤ gb364)); have n8_ := Aside0.mk ((by rw [hg]; exact (below_size (by repeat (first | (with_reducible first | exact HB.out | apply cA | apply cN | apply cD | refine cS ?_ (IsS73.ge HI346.out) | refine cS ?_ GE350.out | refine cS ?_ GE352.out | refine cS ?_ GE363.out) | exact HB.out))) : w.heap.size ≤ gb364)); have n9_ := Aside0.mk ((by rw [hg]; exact Nat.ne_of_lt (blk_lt (g := gb350) (o := .cells #[.string x351000_2, .int .i64 x351001_2, .int .i64 x351002_2] 42 (0, 0)) (by (with_reducible repeat (first | refine bN ?_ _ | refine bD ?_ | refine bA ?_ _)); refine bF ?_ NB350_363.out _; (with_reducible repeat (first | refine bN ?_ _ | refine bD ?_ | refine bA ?_ _)); refine bF ?_ NB350_363.out _; (with_reducible repeat (first | refine bN ?_ _ | refine bD ?_ | refine bA ?_ _)); refine bF ?_ NB350_363.out _; (with_reducible repeat (first | refine bN ?_ _ | refine bD ?_ | refine bA ?_ _)); refine bF ?_ NB350_363.out _; (with_reducible repeat (first | refine bN ?_ _ | refine bD ?_ | refine bA ?_ _)); refine bF ?_ NB350_363.out _; (with_reducible repeat (first | refine bN ?_ _ | refine bD ?_ | refine bA ?_ _)); exact BK350.out)) : gb350 ≠ gb364)); have n10_ := Aside0.mk ((by rw [hg]; exact Nat.ne_of_gt (blk_lt (g := gb350) (o := .cells #[.string x351000_2, .int .i64 x351001_2, .int .i64 x351002_2] 42 (0, 0)) (by (with_reducible repeat (first | refine bN ?_ _ | refine bD ?_ | refine bA ?_ _)); refine bF ?_ NB350_363.out _; (with_reducible repeat (first | refine bN ?_ _ | refine bD ?_ | refine bA ?_ _)); refine bF ?_ NB350_363.out _; (with_reducible repeat (first | refine bN ?_ _ | refine bD ?_ | refine bA ?_ _)); refine bF ?_ NB350_363.out _; (with_reducible repeat (first | refine bN ?_ _ | refine bD ?_ | refine bA ?_ _)); refine bF ?_ NB350_363.out _; (with_reducible repeat (first | refine bN ?_ _ | refine bD ?_ | refine bA ?_ _)); refine bF ?_ NB350_363.out _; (with_reducible repeat (first | refine bN ?_ _ | refine bD ?_ | refine bA ?_ _)); exact BK350.out)) : gb364 ≠ gb350)); have n11_ := Aside0.mk ((by rw [hg]; exact Nat.ne_of_lt (blk_lt (g := gb352) (o := .cells #[.int .u8 ((rd_T32 l1 x7_2).f0), .int .i64 ((rd_T32 l1 x7_2).f1), .int .i64 ((rd_T32 l1 x7_2).f2), .int .i64 ((rd_T32 l1 x7_2).f3)] 32 (0, 0)) (by (with_reducible repeat (first | refine bN ?_ _ | refine bD ?_ | refine bA ?_ _)); refine bF ?_ NB352_363.out _; (with_reducible repeat (first | refine bN ?_ _ | refine bD ?_ | refine bA ?_ _)); refine bF ?_ NB352_363.out _; (with_reducible repeat (first | refine bN ?_ _ | refine bD ?_ | refine bA ?_ _)); refine bF ?_ NB352_363.out _; (with_reducible repeat (first | refine bN ?_ _ | refine bD ?_ | refine bA ?_ _)); refine bF ?_ NB352_363.out _; (with_reducible repeat (first | refine bN ?_ _ | refine bD ?_ | refine bA ?_ _)); refine bF ?_ NB352_363.out _; (with_reducible repeat (first | refine bN ?_ _ | refine bD ?_ | refine bA ?_ _)); exact BK352.out)) : gb352 ≠ gb364)); have n12_ := Aside0.mk ((by rw [hg]; exact Nat.ne_of_gt (blk_lt (g := gb352) (o := .cells #[.int .u8 ((rd_T32 l1 x7_2).f0), .int .i64 ((rd_T32 l1 x7_2).f1), .int .i64 ((rd_T32 l1 x7_2).f2), .int .i64 ((rd_T32 l1 x7_2).f3)] 32 (0, 0)) (by (with_reducible repeat (first | refine bN ?_ _ | refine bD ?_ | refine bA ?_ _)); refine bF ?_ NB352_363.out _; (with_reducible repeat (first | refine bN ?_ _ | refine bD ?_ | refine bA ?_ _)); refine bF ?_ NB352_363.out _; (with_reducible repeat (first | refine bN ?_ _ | refine bD ?_ | refine bA ?_ _)); refine bF ?_ NB352_363.out _; (with_reducible repeat (first | refine bN ?_ _ | refine bD ?_ | refine bA ?_ _)); refine bF ?_ NB352_363.out _; (with_reducible repeat (first | refine bN ?_ _ | refine bD ?_ | refine bA ?_ _)); refine bF ?_ NB352_363.out _; (with_reducible repeat (first | refine bN ?_ _ | refine bD ?_ | refine bA ?_ _)); exact BK352.out)) : gb364 ≠ gb352)); have n13_ := Aside0.mk ((by rw [hg]; exact Nat.ne_of_lt (blk_lt (g := gb363) (o := .cells #[.int .u8 t353, .int .u64 t354, .int .i64 t355, .string t356, .slice Ao29 t357.length co29] 45 (0, 0)) (by (with_reducible repeat (first | refine bN ?_ _ | refine bD ?_ | refine bA ?_ _)); refine blk_put (cs := #[.int .u8 t353, .int .u64 t354, .int .i64 t355, .string t356, .slice none 0 0]) ?_ 4 _ rfl; (with_reducible repeat (first | refine bN ?_ _ | refine bD ?_ | refine bA ?_ _)); refine blk_put (cs := #[.int .u8 t353, .int .u64 t354, .int .i64 t355, .string (⟨#[]⟩ : ByteArray), .slice none 0 0]) ?_ 3 _ rfl; (with_reducible repeat (first | refine bN ?_ _ | refine bD ?_ | refine bA ?_ _)); refine blk_put (cs := #[.int .u8 t353, .int .u64 t354, .int .i64 0, .string (⟨#[]⟩ : ByteArray), .slice none 0 0]) ?_ 2 _ rfl; (with_reducible repeat (first | refine bN ?_ _ | refine bD ?_ | refine bA ?_ _)); refine blk_put (cs := #[.int .u8 t353, .int .u64 0, .int .i64 0, .string (⟨#[]⟩ : ByteArray), .slice none 0 0]) ?_ 1 _ rfl; (with_reducible repeat (first | refine bN ?_ _ | refine bD ?_ | refine bA ?_ _)); refine blk_put (cs := #[.int .u8 0, .int .u64 0, .int .i64 0, .string (⟨#[]⟩ : ByteArray), .slice none 0 0]) ?_ 0 _ rfl; (with_reducible repeat (first | refine bN ?_ _ | refine bD ?_ | refine bA ?_ _)); exact BK363.out)) : gb363 ≠ gb364)); have n14_ := Aside0.mk ((by rw [hg]; exact Nat.ne_of_gt (blk_lt (g := gb363) (o := .cells #[.int .u8 t353, .int .u64 t354, .int .i64 t355, .string t356, .slice Ao29 t357.length co29] 45 (0, 0)) (by (with_reducible repeat (first | refine bN ?_ _ | refine bD ?_ | refine bA ?_ _)); refine blk_put (cs := #[.int .u8 t353, .int .u64 t354, .int .i64 t355, .string t356, .slice none 0 0]) ?_ 4 _ rfl; (with_reducible repeat (first | refine bN ?_ _ | refine bD ?_ | refine bA ?_ _)); refine blk_put (cs := #[.int .u8 t353, .int .u64 t354, .int .i64 t355, .string (⟨#[]⟩ : ByteArray), .slice none 0 0]) ?_ 3 _ rfl; (with_reducible repeat (first | refine bN ?_ _ | refine bD ?_ | refine bA ?_ _)); refine blk_put (cs := #[.int .u8 t353, .int .u64 t354, .int .i64 0, .string (⟨#[]⟩ : ByteArray), .slice none 0 0]) ?_ 2 _ rfl; (with_reducible repeat (first | refine bN ?_ _ | refine bD ?_ | refine bA ?_ _)); refine blk_put (cs := #[.int .u8 t353, .int .u64 0, .int .i64 0, .string (⟨#[]⟩ : ByteArray), .slice none 0 0]) ?_ 1 _ rfl; (with_reducible repeat (first | refine bN ?_ _ | refine bD ?_ | refine bA ?_ _)); refine blk_put (cs := #[.int .u8 0, .int .u64 0, .int .i64 0, .string (⟨#[]⟩ : ByteArray), .slice none 0 0]) ?_ 0 _ rfl; (with_reducible repeat (first | refine bN ?_ _ | refine bD ?_ | refine bA ?_ _)); exact BK363.out)) : gb364 ≠ gb363)); have n15_ := Aside0.mk ((by rw [hg]; exact Nat.ne_of_lt (IsS73.lt (show IsS73 w _ g346 t360 t361 t362 from by repeat (first | (with_reducible first | exact HI346.out | apply sA | apply sN | apply sD | apply s0 | apply s1 | apply s2 | refine sF ?_ NB346_350.out _ | refine sF ?_ NB346_352.out _ | refine sF ?_ NB346_363.out _) | exact HI346.out))) : g346 ≠ gb364)); have n16_ := Aside0.mk ((by rw [hg]; exact Nat.ne_of_gt (IsS73.lt (show IsS73 w _ g346 t360 t361 t362 from by repeat (first | (with_reducible first | exact HI346.out | apply sA | apply sN | apply sD | apply s0 | apply s1 | apply s2 | refine sF ?_ NB346_350.out _ | refine sF ?_ NB346_352.out _ | refine sF ?_ NB346_363.out _) | exact HI346.out))) : gb364 ≠ g346)); clear HO359; clear BK350; clear HI346; clear BK352; clear BK363; clear HB; have HO359 := n0_; have BK350 := n1_; have HI346 := n2_; have BK352 := n3_; have BK363 := n4_; have HB := n5_; have BK364 := n6_; have GW364 := n7_; have GE364 := n8_; have NB350_364 := n9_; have NB364_350 := n10_; have NB352_364 := n11_; have NB364_352 := n12_; have NB363_364 := n13_; have NB364_363 := n14_; have NB346_364 := n15_; have NB364_346 := n16_; clear n0_ n1_ n2_ n3_ n4_ n5_ n6_ n7_ n8_ n9_ n10_ n11_ n12_ n13_ n14_ n15_ n16_; clear hb hbox hg; have hnb32 := NB364_350.out; have hnc32 := NB350_364.out; have hnb33 := NB364_352.out; have hnc33 := NB352_364.out; have hnb34 := NB364_363.out; have hnc34 := NB363_364.out; have hnb35 := NB364_346.out; have hnc35 := NB346_364.out; have hcz36_0 : w31.cell? ⟨gb364, 0, none⟩ = some (.int .u8 0) := (blk_cell BK364.out 0).trans rfl; have hcz36_1 : w31.cell? ⟨gb364, 1, none⟩ = some (.int .u64 0) := (blk_cell BK364.out 1).trans rfl; have hcz36_2 : w31.cell? ⟨gb364, 2, none⟩ = some (.int .i64 0) := (blk_cell BK364.out 2).trans rfl; have hcz36_3 : w31.cell? ⟨gb364, 3, none⟩ = some (.string (⟨#[]⟩ : ByteArray)) := (blk_cell BK364.out 3).trans rfl; have hcz36_4 : w31.cell? ⟨gb364, 4, none⟩ = some (.slice none 0 0) := (blk_cell BK364.out 4).trans rfl; have hfz36_0 := blk_frozen BK364.out 0; have hfz36_1 := blk_frozen BK364.out 1; have hfz36_2 := blk_frozen BK364.out 2; have hfz36_3 := blk_frozen BK364.out 3; have hfz36_4 := blk_frozen BK364.out 4; have hcz37_0 : w31.cell? ⟨gb352, 0, none⟩ = some (.int .u8 ((rd_T32 l1 x7_2).f0)) := (blk_cell BK352.out 0).trans rfl; have hcz37_1 : w31.cell? ⟨gb352, 1, none⟩ = some (.int .i64 ((rd_T32 l1 x7_2).f1)) := (blk_cell BK352.out 1).trans rfl; have hcz37_2 : w31.cell? ⟨gb352, 2, none⟩ = some (.int .i64 ((rd_T32 l1 x7_2).f2)) := (blk_cell BK352.out 2).trans rfl; have hcz37_3 : w31.cell? ⟨gb352, 3, none⟩ = some (.int .i64 ((rd_T32 l1 x7_2).f3)) := (blk_cell BK352.out 3).trans rfl; have hfz37_0 := blk_frozen BK352.out 0; have hfz37_1 := blk_frozen BK352.out 1; have hfz37_2 := blk_frozen BK352.out 2; have hfz37_3 := blk_frozen BK352.out 3))
        (try simp only [Act.put, List.setIfInBounds_toArray, List.set_cons_zero, List.set_cons_succ])
        go_cut [] (fun wc => ∃ (kq : Nat) (x351000_17 : ByteArray) (x351001_17 : Int) (x351002_17 : Int) (x365001_17 : Int) (x365002_17 : Int) (x365003_17 : ByteArray) (x365004_17 : List Int) (u365004 : Value), Aside0 (sawmilllaw05_WireReads.j2 kq l1 x7_2 t360 t361 t362 x351000_17 x351001_17 x351002_17 t353 t354 t355 t356 t357 ((rd_T32 l1 x7_2).f0) x365001_17 x365002_17 x365003_17 x365004_17 = some r) ∧ Aside0 (kq ≤ k2) ∧ Aside0 (Kd.R (Kd.int .i64) 3 wc w.heap.size (fun k_ => some k_ ≠ (u365004 : Value).ownBlock) (.slice Ao29 t357.length co29) t357) ∧ Aside0 (Kd.R (Kd.int .i64) 3 wc w.heap.size (fun k_ => some k_ ≠ ((.slice Ao29 t357.length co29) : Value).ownBlock) u365004 x365004_17) ∧ Aside0 (wc.heap[gb350]? = some (.cells #[.string x351000_17, .int .i64 x351001_17, .int .i64 x351002_17] 42 (0, 0))) ∧ Aside0 (wc.heap[gb352]? = some (.cells #[.int .u8 ((rd_T32 l1 x7_2).f0), .int .i64 ((rd_T32 l1 x7_2).f1), .int .i64 ((rd_T32 l1 x7_2).f2), .int .i64 ((rd_T32 l1 x7_2).f3)] 32 (0, 0))) ∧ Aside0 (wc.heap[gb363]? = some (.cells #[.int .u8 t353, .int .u64 t354, .int .i64 t355, .string t356, (.slice Ao29 t357.length co29)] 45 (0, 0))) ∧ Aside0 (wc.heap[gb364]? = some (.cells #[.int .u8 ((rd_T32 l1 x7_2).f0), .int .u64 x365001_17, .int .i64 x365002_17, .string x365003_17, u365004] 45 (0, 0))) ∧ Aside0 (IsS73 w wc g346 t360 t361 t362) ∧ Aside0 (Below w.heap.size w wc))
        case first =>
         have H := HC18.out
         clear HC18
         by_cases c38 : ((rd_T32 l1 x7_2).f0) = 0
         ·rw [if_pos c38] at H
          have c38b0 : (((rd_T32 l1 x7_2).f0) == 0) = true := beq_iff_eq.mpr c38
          have c38b1 : (((rd_T32 l1 x7_2).f0) != 0) = false := bne_eq_false_iff_eq.mpr c38
          clear c38
          (first | rw [c38b0] | (simp only [i64_w, i32_w]; rw [c38b0]) | skip)
          replace H := Option.bind_eq_some_iff.mp H
          obtain ⟨⟨t365, t366, t367, t368⟩, A390, H⟩ := H
          replace H : (sawmilllaw05_WireReads.j2 k2 l1 x7_2 t360 t361 t362 t365 t366 t367 t353 t354 t355 t356 t357 ((rd_T32 l1 x7_2).f0) t368 0 (⟨#[]⟩ : ByteArray) ([] : List Int)) = some r := H
          have A39 := Aside0.mk A390
          clear A390
          have H' := Aside0.mk H
          clear H
          have hnb40 := NB350_352.out
          have hnc40 := NB352_350.out
          have hnb41 := NB350_363.out
          have hnc41 := NB363_350.out
          have hnb42 := NB350_364.out
          have hnc42 := NB364_350.out
          have hnb43 := NB350_346.out
          have hnc43 := NB346_350.out
          have hcz44_0 : w31.cell? ⟨gb350, 0, none⟩ = some (.string x351000_2) := (blk_cell BK350.out 0).trans rfl
          have hcz44_1 : w31.cell? ⟨gb350, 1, none⟩ = some (.int .i64 x351001_2) := (blk_cell BK350.out 1).trans rfl
          have hcz44_2 : w31.cell? ⟨gb350, 2, none⟩ = some (.int .i64 x351002_2) := (blk_cell BK350.out 2).trans rfl
          have hfz44_0 := blk_frozen BK350.out 0
          have hfz44_1 := blk_frozen BK350.out 1
          have hfz44_2 := blk_frozen BK350.out 2
          go_wp2_with (first | ((with_reducible refine gate_callee (f := 28) rfl ?_); refine goesL_ (some 58) rfl rfl Try.func28 (by kernel_rfl) rfl #[.agg #[.string x351000_2, .int .i64 x351001_2, .int .i64 x351002_2]] rfl (by (try simp only [List.map_toArray, List.map_cons, List.map_nil]); first | done | rfl | (simp only [List.length_drop, List.length_take]; rfl)) ?_; (with_reducible refine (sawmillref05_ReadUint.calls k2 x351000_2 x351001_2 x351002_2 t365 t366 t367 t368 _ A39.out).mono ?_); rintro e w45 ⟨rfl, hb⟩; refine ⟨_, rfl, ?_⟩; have n0_ := Aside0.mk (Kd.R_below (by (with_reducible repeat (first | apply Kd.R_alloc | apply Kd.R_drewN | apply Kd.R_drew)); exact (Kd.R_mono (Kd.R_far (p := ⟨gb364, 4, none⟩) (Kd.R_far (p := ⟨gb364, 3, none⟩) (Kd.R_far (p := ⟨gb364, 2, none⟩) (Kd.R_far (p := ⟨gb364, 1, none⟩) (Kd.R_far (p := ⟨gb364, 0, none⟩) (Kd.R_types HO359.out BK364.out (by decide)) (fun _ hk => hk.2) (.int .u8 ((rd_T32 l1 x7_2).f0))) (fun _ hk => hk.2) (.int .u64 0)) (fun _ hk => hk.2) (.int .i64 0)) (fun _ hk => hk.2) (.string (⟨#[]⟩ : ByteArray))) (fun _ hk => hk.2) (.slice none 0 0)) (fun _ h_ => h_.1))) hb); have n1_ := Aside0.mk (blk_below (g := gb350) (o := .cells #[.string x351000_2, .int .i64 x351001_2, .int .i64 x351002_2] 42 (0, 0)) (by (with_reducible repeat (first | refine bN ?_ _ | refine bD ?_ | refine bA ?_ _)); refine bF ?_ NB350_364.out _; (with_reducible repeat (first | refine bN ?_ _ | refine bD ?_ | refine bA ?_ _)); refine bF ?_ NB350_364.out _; (with_reducible repeat (first | refine bN ?_ _ | refine bD ?_ | refine bA ?_ _)); refine bF ?_ NB350_364.out _; (with_reducible repeat (first | refine bN ?_ _ | refine bD ?_ | refine bA ?_ _)); refine bF ?_ NB350_364.out _; (with_reducible repeat (first | refine bN ?_ _ | refine bD ?_ | refine bA ?_ _)); refine bF ?_ NB350_364.out _; (with_reducible repeat (first | refine bN ?_ _ | refine bD ?_ | refine bA ?_ _)); exact BK350.out) hb); have n2_ := Aside0.mk (IsS73.below (show IsS73 w (((((w31.setCell ⟨gb364, 0, none⟩ (.int .u8 ((rd_T32 l1 x7_2).f0))).setCell ⟨gb364, 1, none⟩ (.int .u64 0)).setCell ⟨gb364, 2, none⟩ (.int .i64 0)).setCell ⟨gb364, 3, none⟩ (.string (⟨#[]⟩ : ByteArray))).setCell ⟨gb364, 4, none⟩ (.slice none 0 0)) g346 t360 t361 t362 from by repeat (first | (with_reducible first | exact HI346.out | apply sA | apply sN | apply sD | apply s0 | apply s1 | apply s2 | refine sF ?_ NB346_350.out _ | refine sF ?_ NB346_352.out _ | refine sF ?_ NB346_363.out _ | refine sF ?_ NB346_364.out _) | exact HI346.out)) hb); have n3_ := Aside0.mk (blk_below (g := gb352) (o := .cells #[.int .u8 ((rd_T32 l1 x7_2).f0), .int .i64 ((rd_T32 l1 x7_2).f1), .int .i64 ((rd_T32 l1 x7_2).f2), .int .i64 ((rd_T32 l1 x7_2).f3)] 32 (0, 0)) (by (with_reducible repeat (first | refine bN ?_ _ | refine bD ?_ | refine bA ?_ _)); refine bF ?_ NB352_364.out _; (with_reducible repeat (first | refine bN ?_ _ | refine bD ?_ | refine bA ?_ _)); refine bF ?_ NB352_364.out _; (with_reducible repeat (first | refine bN ?_ _ | refine bD ?_ | refine bA ?_ _)); refine bF ?_ NB352_364.out _; (with_reducible repeat (first | refine bN ?_ _ | refine bD ?_ | refine bA ?_ _)); refine bF ?_ NB352_364.out _; (with_reducible repeat (first | refine bN ?_ _ | refine bD ?_ | refine bA ?_ _)); refine bF ?_ NB352_364.out _; (with_reducible repeat (first | refine bN ?_ _ | refine bD ?_ | refine bA ?_ _)); exact BK352.out) hb); have n4_ := Aside0.mk (blk_below (g := gb363) (o := .cells #[.int .u8 t353, .int .u64 t354, .int .i64 t355, .string t356, .slice Ao29 t357.length co29] 45 (0, 0)) (by (with_reducible repeat (first | refine bN ?_ _ | refine bD ?_ | refine bA ?_ _)); refine bF ?_ NB363_364.out _; (with_reducible repeat (first | refine bN ?_ _ | refine bD ?_ | refine bA ?_ _)); refine bF ?_ NB363_364.out _; (with_reducible repeat (first | refine bN ?_ _ | refine bD ?_ | refine bA ?_ _)); refine bF ?_ NB363_364.out _; (with_reducible repeat (first | refine bN ?_ _ | refine bD ?_ | refine bA ?_ _)); refine bF ?_ NB363_364.out _; (with_reducible repeat (first | refine bN ?_ _ | refine bD ?_ | refine bA ?_ _)); refine bF ?_ NB363_364.out _; (with_reducible repeat (first | refine bN ?_ _ | refine bD ?_ | refine bA ?_ _)); exact BK363.out) hb); have n5_ := Aside0.mk (blk_below (g := gb364) (o := .cells #[.int .u8 ((rd_T32 l1 x7_2).f0), .int .u64 0, .int .i64 0, .string (⟨#[]⟩ : ByteArray), .slice none 0 0] 45 (0, 0)) (by (with_reducible repeat (first | refine bN ?_ _ | refine bD ?_ | refine bA ?_ _)); refine blk_put (cs := #[.int .u8 ((rd_T32 l1 x7_2).f0), .int .u64 0, .int .i64 0, .string (⟨#[]⟩ : ByteArray), .slice none 0 0]) ?_ 4 _ rfl; (with_reducible repeat (first | refine bN ?_ _ | refine bD ?_ | refine bA ?_ _)); refine blk_put (cs := #[.int .u8 ((rd_T32 l1 x7_2).f0), .int .u64 0, .int .i64 0, .string (⟨#[]⟩ : ByteArray), .slice none 0 0]) ?_ 3 _ rfl; (with_reducible repeat (first | refine bN ?_ _ | refine bD ?_ | refine bA ?_ _)); refine blk_put (cs := #[.int .u8 ((rd_T32 l1 x7_2).f0), .int .u64 0, .int .i64 0, .string (⟨#[]⟩ : ByteArray), .slice none 0 0]) ?_ 2 _ rfl; (with_reducible repeat (first | refine bN ?_ _ | refine bD ?_ | refine bA ?_ _)); refine blk_put (cs := #[.int .u8 ((rd_T32 l1 x7_2).f0), .int .u64 0, .int .i64 0, .string (⟨#[]⟩ : ByteArray), .slice none 0 0]) ?_ 1 _ rfl; (with_reducible repeat (first | refine bN ?_ _ | refine bD ?_ | refine bA ?_ _)); refine blk_put (cs := #[.int .u8 0, .int .u64 0, .int .i64 0, .string (⟨#[]⟩ : ByteArray), .slice none 0 0]) ?_ 0 _ rfl; (with_reducible repeat (first | refine bN ?_ _ | refine bD ?_ | refine bA ?_ _)); exact BK364.out) hb); have n6_ := Aside0.mk (below_step (by repeat (first | (with_reducible first | exact HB.out | apply cA | apply cN | apply cD | refine cS ?_ (IsS73.ge HI346.out) | refine cS ?_ GE350.out | refine cS ?_ GE352.out | refine cS ?_ GE363.out | refine cS ?_ GE364.out) | exact HB.out)) hb); clear HO359; clear BK350; clear HI346; clear BK352; clear BK363; clear BK364; clear HB; have HO359 := n0_; have BK350 := n1_; have HI346 := n2_; have BK352 := n3_; have BK363 := n4_; have BK364 := n5_; have HB := n6_; clear n0_ n1_ n2_ n3_ n4_ n5_ n6_; (try clear hb); (try clear hb2); (try clear hk); (try clear hi); have hcz46_0 : w45.cell? ⟨gb350, 0, none⟩ = some (.string x351000_2) := (blk_cell BK350.out 0).trans rfl; have hcz46_1 : w45.cell? ⟨gb350, 1, none⟩ = some (.int .i64 x351001_2) := (blk_cell BK350.out 1).trans rfl; have hcz46_2 : w45.cell? ⟨gb350, 2, none⟩ = some (.int .i64 x351002_2) := (blk_cell BK350.out 2).trans rfl; have hfz46_0 := blk_frozen BK350.out 0; have hfz46_1 := blk_frozen BK350.out 1; have hfz46_2 := blk_frozen BK350.out 2; have hnb47 := NB364_352.out; have hnc47 := NB352_364.out; have hnb48 := NB364_363.out; have hnc48 := NB363_364.out; have hnb49 := NB364_346.out; have hnc49 := NB346_364.out; have hcz50_0 : w45.cell? ⟨gb364, 0, none⟩ = some (.int .u8 ((rd_T32 l1 x7_2).f0)) := (blk_cell BK364.out 0).trans rfl; have hcz50_1 : w45.cell? ⟨gb364, 1, none⟩ = some (.int .u64 0) := (blk_cell BK364.out 1).trans rfl; have hcz50_2 : w45.cell? ⟨gb364, 2, none⟩ = some (.int .i64 0) := (blk_cell BK364.out 2).trans rfl; have hcz50_3 : w45.cell? ⟨gb364, 3, none⟩ = some (.string (⟨#[]⟩ : ByteArray)) := (blk_cell BK364.out 3).trans rfl; have hcz50_4 : w45.cell? ⟨gb364, 4, none⟩ = some (.slice none 0 0) := (blk_cell BK364.out 4).trans rfl; have hfz50_0 := blk_frozen BK364.out 0; have hfz50_1 := blk_frozen BK364.out 1; have hfz50_2 := blk_frozen BK364.out 2; have hfz50_3 := blk_frozen BK364.out 3; have hfz50_4 := blk_frozen BK364.out 4))
          go_meet
          case rel => exact ⟨_, (t365), (t366), (t367), (t368), (0), ((⟨#[]⟩ : ByteArray)), (([] : List Int)), (.slice none 0 0), H', ⟨by have := HJ2.out; have := HK2.out; first | omega | exact Nat.le_refl _⟩, ⟨by (with_reducible repeat (first | apply Kd.R_alloc | apply Kd.R_drewN | apply Kd.R_drew)); exact Kd.R_mono (Kd.R_far (p := ⟨gb364, 1, none⟩) (Kd.R_far (p := ⟨gb350, 2, none⟩) (Kd.R_far (p := ⟨gb350, 1, none⟩) (Kd.R_far (p := ⟨gb350, 0, none⟩) (Kd.R_types (Kd.R_types HO359.out BK350.out (by decide)) BK364.out (by decide)) (fun _ hk => hk.1.2) (.string t365)) (fun _ hk => hk.1.2) (.int .i64 t366)) (fun _ hk => hk.1.2) (.int .i64 t367)) (fun _ hk => hk.2) (.int .u64 t368)) (fun _ hk => (by simp [Value.ownBlock]))⟩, ⟨by first | exact Kd.R_nil _ _ _ _ _ | exact Kd.N_nil _ _ _ _ _ | exact Kd.V_nil _ _ _ _ _ | exact Kd.Q_nil _ _ _ _ _ | exact Kd.S_nil _ _ _ _ _⟩, ⟨by (with_reducible repeat (first | refine bN ?_ _ | refine bD ?_ | refine bA ?_ _)); refine bF ?_ NB350_364.out _; (with_reducible repeat (first | refine bN ?_ _ | refine bD ?_ | refine bA ?_ _)); refine blk_put (cs := #[.string t365, .int .i64 t366, .int .i64 x351002_2]) ?_ 2 _ rfl; (with_reducible repeat (first | refine bN ?_ _ | refine bD ?_ | refine bA ?_ _)); refine blk_put (cs := #[.string t365, .int .i64 x351001_2, .int .i64 x351002_2]) ?_ 1 _ rfl; (with_reducible repeat (first | refine bN ?_ _ | refine bD ?_ | refine bA ?_ _)); refine blk_put (cs := #[.string x351000_2, .int .i64 x351001_2, .int .i64 x351002_2]) ?_ 0 _ rfl; (with_reducible repeat (first | refine bN ?_ _ | refine bD ?_ | refine bA ?_ _)); exact BK350.out⟩, ⟨by (with_reducible repeat (first | refine bN ?_ _ | refine bD ?_ | refine bA ?_ _)); refine bF ?_ NB352_364.out _; (with_reducible repeat (first | refine bN ?_ _ | refine bD ?_ | refine bA ?_ _)); refine bF ?_ NB352_350.out _; (with_reducible repeat (first | refine bN ?_ _ | refine bD ?_ | refine bA ?_ _)); refine bF ?_ NB352_350.out _; (with_reducible repeat (first | refine bN ?_ _ | refine bD ?_ | refine bA ?_ _)); refine bF ?_ NB352_350.out _; (with_reducible repeat (first | refine bN ?_ _ | refine bD ?_ | refine bA ?_ _)); exact BK352.out⟩, ⟨by (with_reducible repeat (first | refine bN ?_ _ | refine bD ?_ | refine bA ?_ _)); refine bF ?_ NB363_364.out _; (with_reducible repeat (first | refine bN ?_ _ | refine bD ?_ | refine bA ?_ _)); refine bF ?_ NB363_350.out _; (with_reducible repeat (first | refine bN ?_ _ | refine bD ?_ | refine bA ?_ _)); refine bF ?_ NB363_350.out _; (with_reducible repeat (first | refine bN ?_ _ | refine bD ?_ | refine bA ?_ _)); refine bF ?_ NB363_350.out _; (with_reducible repeat (first | refine bN ?_ _ | refine bD ?_ | refine bA ?_ _)); exact BK363.out⟩, ⟨by (with_reducible repeat (first | refine bN ?_ _ | refine bD ?_ | refine bA ?_ _)); refine blk_put (cs := #[.int .u8 ((rd_T32 l1 x7_2).f0), .int .u64 0, .int .i64 0, .string (⟨#[]⟩ : ByteArray), .slice none 0 0]) ?_ 1 _ rfl; (with_reducible repeat (first | refine bN ?_ _ | refine bD ?_ | refine bA ?_ _)); refine bF ?_ NB364_350.out _; (with_reducible repeat (first | refine bN ?_ _ | refine bD ?_ | refine bA ?_ _)); refine bF ?_ NB364_350.out _; (with_reducible repeat (first | refine bN ?_ _ | refine bD ?_ | refine bA ?_ _)); refine bF ?_ NB364_350.out _; (with_reducible repeat (first | refine bN ?_ _ | refine bD ?_ | refine bA ?_ _)); exact BK364.out⟩, ⟨by repeat (first | (with_reducible first | exact HI346.out | apply sA | apply sN | apply sD | apply s0 | apply s1 | apply s2 | refine sF ?_ NB346_350.out _ | refine sF ?_ NB346_352.out _ | refine sF ?_ NB346_363.out _ | refine sF ?_ NB346_364.out _) | exact HI346.out)⟩, ⟨by repeat (first | (with_reducible first | exact HB.out | apply cA | apply cN | apply cD | refine cS ?_ (IsS73.ge HI346.out) | refine cS ?_ GE350.out | refine cS ?_ GE352.out | refine cS ?_ GE363.out | refine cS ?_ GE364.out) | exact HB.out)⟩⟩
         ·rw [if_neg c38] at H
          have c38b0 : (((rd_T32 l1 x7_2).f0) == 0) = false := beq_eq_false_iff_ne.mpr c38
          have c38b1 : (((rd_T32 l1 x7_2).f0) != 0) = true := bne_iff_ne.mpr c38
          (first | rw [c38b0] | (simp only [i64_w, i32_w]; rw [c38b0]) | skip)
          by_cases c51 : ((rd_T32 l1 x7_2).f0) = 1
          ·rw [if_pos c51] at H
           have c51b0 : (((rd_T32 l1 x7_2).f0) == 1) = true := beq_iff_eq.mpr c51
           have c51b1 : (((rd_T32 l1 x7_2).f0) != 1) = false := bne_eq_false_iff_eq.mpr c51
           clear c51
           replace H := Option.bind_eq_some_iff.mp H
           obtain ⟨⟨t369, t370, t371, t372⟩, A520, H⟩ := H
           replace H : (sawmilllaw05_WireReads.j2 k2 l1 x7_2 t360 t361 t362 t369 t370 t371 t353 t354 t355 t356 t357 ((rd_T32 l1 x7_2).f0) 0 t372 (⟨#[]⟩ : ByteArray) ([] : List Int)) = some r := H
           have A52 := Aside0.mk A520
           clear A520
           have H' := Aside0.mk H
           clear H
           have hnb53 := NB350_352.out
           have hnc53 := NB352_350.out
           have hnb54 := NB350_363.out
           have hnc54 := NB363_350.out
           have hnb55 := NB350_364.out
           have hnc55 := NB364_350.out
           have hnb56 := NB350_346.out
           have hnc56 := NB346_350.out
           have hcz57_0 : w31.cell? ⟨gb350, 0, none⟩ = some (.string x351000_2) := (blk_cell BK350.out 0).trans rfl
           have hcz57_1 : w31.cell? ⟨gb350, 1, none⟩ = some (.int .i64 x351001_2) := (blk_cell BK350.out 1).trans rfl
           have hcz57_2 : w31.cell? ⟨gb350, 2, none⟩ = some (.int .i64 x351002_2) := (blk_cell BK350.out 2).trans rfl
           have hfz57_0 := blk_frozen BK350.out 0
           have hfz57_1 := blk_frozen BK350.out 1
           have hfz57_2 := blk_frozen BK350.out 2
           have hnb58 := NB352_363.out
           have hnc58 := NB363_352.out
           have hnb59 := NB352_364.out
           have hnc59 := NB364_352.out
           have hnb60 := NB352_346.out
           have hnc60 := NB346_352.out
           have hcz61_0 : w31.cell? ⟨gb352, 0, none⟩ = some (.int .u8 ((rd_T32 l1 x7_2).f0)) := (blk_cell BK352.out 0).trans rfl
           have hcz61_1 : w31.cell? ⟨gb352, 1, none⟩ = some (.int .i64 ((rd_T32 l1 x7_2).f1)) := (blk_cell BK352.out 1).trans rfl
           have hcz61_2 : w31.cell? ⟨gb352, 2, none⟩ = some (.int .i64 ((rd_T32 l1 x7_2).f2)) := (blk_cell BK352.out 2).trans rfl
           have hcz61_3 : w31.cell? ⟨gb352, 3, none⟩ = some (.int .i64 ((rd_T32 l1 x7_2).f3)) := (blk_cell BK352.out 3).trans rfl
           have hfz61_0 := blk_frozen BK352.out 0
           have hfz61_1 := blk_frozen BK352.out 1
           have hfz61_2 := blk_frozen BK352.out 2
           have hfz61_3 := blk_frozen BK352.out 3
           go_wp2_with (first | ((with_reducible refine gate_callee (f := 29) rfl ?_); refine goesL_ (some 70) rfl rfl Try.func29 (by kernel_rfl) rfl #[.agg #[.string x351000_2, .int .i64 x351001_2, .int .i64 x351002_2], .int .i64 ((rd_T32 l1 x7_2).f1), .int .i64 ((rd_T32 l1 x7_2).f2)] rfl (by (try simp only [List.map_toArray, List.map_cons, List.map_nil]); first | done | rfl | (simp only [List.length_drop, List.length_take]; rfl)) ?_; (with_reducible refine (sawmillref05_ReadInt.calls k2 x351000_2 x351001_2 x351002_2 ((rd_T32 l1 x7_2).f1) ((rd_T32 l1 x7_2).f2) t369 t370 t371 t372 _ A52.out).mono ?_); rintro e w62 ⟨rfl, hb⟩; refine ⟨_, rfl, ?_⟩; have n0_ := Aside0.mk (Kd.R_below (by (with_reducible repeat (first | apply Kd.R_alloc | apply Kd.R_drewN | apply Kd.R_drew)); exact (Kd.R_mono (Kd.R_far (p := ⟨gb364, 4, none⟩) (Kd.R_far (p := ⟨gb364, 3, none⟩) (Kd.R_far (p := ⟨gb364, 2, none⟩) (Kd.R_far (p := ⟨gb364, 1, none⟩) (Kd.R_far (p := ⟨gb364, 0, none⟩) (Kd.R_types HO359.out BK364.out (by decide)) (fun _ hk => hk.2) (.int .u8 ((rd_T32 l1 x7_2).f0))) (fun _ hk => hk.2) (.int .u64 0)) (fun _ hk => hk.2) (.int .i64 0)) (fun _ hk => hk.2) (.string (⟨#[]⟩ : ByteArray))) (fun _ hk => hk.2) (.slice none 0 0)) (fun _ h_ => h_.1))) hb); have n1_ := Aside0.mk (blk_below (g := gb350) (o := .cells #[.string x351000_2, .int .i64 x351001_2, .int .i64 x351002_2] 42 (0, 0)) (by (with_reducible repeat (first | refine bN ?_ _ | refine bD ?_ | refine bA ?_ _)); refine bF ?_ NB350_364.out _; (with_reducible repeat (first | refine bN ?_ _ | refine bD ?_ | refine bA ?_ _)); refine bF ?_ NB350_364.out _; (with_reducible repeat (first | refine bN ?_ _ | refine bD ?_ | refine bA ?_ _)); refine bF ?_ NB350_364.out _; (with_reducible repeat (first | refine bN ?_ _ | refine bD ?_ | refine bA ?_ _)); refine bF ?_ NB350_364.out _; (with_reducible repeat (first | refine bN ?_ _ | refine bD ?_ | refine bA ?_ _)); refine bF ?_ NB350_364.out _; (with_reducible repeat (first | refine bN ?_ _ | refine bD ?_ | refine bA ?_ _)); exact BK350.out) hb); have n2_ := Aside0.mk (IsS73.below (show IsS73 w (((((w31.setCell ⟨gb364, 0, none⟩ (.int .u8 ((rd_T32 l1 x7_2).f0))).setCell ⟨gb364, 1, none⟩ (.int .u64 0)).setCell ⟨gb364, 2, none⟩ (.int .i64 0)).setCell ⟨gb364, 3, none⟩ (.string (⟨#[]⟩ : ByteArray))).setCell ⟨gb364, 4, none⟩ (.slice none 0 0)) g346 t360 t361 t362 from by repeat (first | (with_reducible first | exact HI346.out | apply sA | apply sN | apply sD | apply s0 | apply s1 | apply s2 | refine sF ?_ NB346_350.out _ | refine sF ?_ NB346_352.out _ | refine sF ?_ NB346_363.out _ | refine sF ?_ NB346_364.out _) | exact HI346.out)) hb); have n3_ := Aside0.mk (blk_below (g := gb352) (o := .cells #[.int .u8 ((rd_T32 l1 x7_2).f0), .int .i64 ((rd_T32 l1 x7_2).f1), .int .i64 ((rd_T32 l1 x7_2).f2), .int .i64 ((rd_T32 l1 x7_2).f3)] 32 (0, 0)) (by (with_reducible repeat (first | refine bN ?_ _ | refine bD ?_ | refine bA ?_ _)); refine bF ?_ NB352_364.out _; (with_reducible repeat (first | refine bN ?_ _ | refine bD ?_ | refine bA ?_ _)); refine bF ?_ NB352_364.out _; (with_reducible repeat (first | refine bN ?_ _ | refine bD ?_ | refine bA ?_ _)); refine bF ?_ NB352_364.out _; (with_reducible repeat (first | refine bN ?_ _ | refine bD ?_ | refine bA ?_ _)); refine bF ?_ NB352_364.out _; (with_reducible repeat (first | refine bN ?_ _ | refine bD ?_ | refine bA ?_ _)); refine bF ?_ NB352_364.out _; (with_reducible repeat (first | refine bN ?_ _ | refine bD ?_ | refine bA ?_ _)); exact BK352.out) hb); have n4_ := Aside0.mk (blk_below (g := gb363) (o := .cells #[.int .u8 t353, .int .u64 t354, .int .i64 t355, .string t356, .slice Ao29 t357.length co29] 45 (0, 0)) (by (with_reducible repeat (first | refine bN ?_ _ | refine bD ?_ | refine bA ?_ _)); refine bF ?_ NB363_364.out _; (with_reducible repeat (first | refine bN ?_ _ | refine bD ?_ | refine bA ?_ _)); refine bF ?_ NB363_364.out _; (with_reducible repeat (first | refine bN ?_ _ | refine bD ?_ | refine bA ?_ _)); refine bF ?_ NB363_364.out _; (with_reducible repeat (first | refine bN ?_ _ | refine bD ?_ | refine bA ?_ _)); refine bF ?_ NB363_364.out _; (with_reducible repeat (first | refine bN ?_ _ | refine bD ?_ | refine bA ?_ _)); refine bF ?_ NB363_364.out _; (with_reducible repeat (first | refine bN ?_ _ | refine bD ?_ | refine bA ?_ _)); exact BK363.out) hb); have n5_ := Aside0.mk (blk_below (g := gb364) (o := .cells #[.int .u8 ((rd_T32 l1 x7_2).f0), .int .u64 0, .int .i64 0, .string (⟨#[]⟩ : ByteArray), .slice none 0 0] 45 (0, 0)) (by (with_reducible repeat (first | refine bN ?_ _ | refine bD ?_ | refine bA ?_ _)); refine blk_put (cs := #[.int .u8 ((rd_T32 l1 x7_2).f0), .int .u64 0, .int .i64 0, .string (⟨#[]⟩ : ByteArray), .slice none 0 0]) ?_ 4 _ rfl; (with_reducible repeat (first | refine bN ?_ _ | refine bD ?_ | refine bA ?_ _)); refine blk_put (cs := #[.int .u8 ((rd_T32 l1 x7_2).f0), .int .u64 0, .int .i64 0, .string (⟨#[]⟩ : ByteArray), .slice none 0 0]) ?_ 3 _ rfl; (with_reducible repeat (first | refine bN ?_ _ | refine bD ?_ | refine bA ?_ _)); refine blk_put (cs := #[.int .u8 ((rd_T32 l1 x7_2).f0), .int .u64 0, .int .i64 0, .string (⟨#[]⟩ : ByteArray), .slice none 0 0]) ?_ 2 _ rfl; (with_reducible repeat (first | refine bN ?_ _ | refine bD ?_ | refine bA ?_ _)); refine blk_put (cs := #[.int .u8 ((rd_T32 l1 x7_2).f0), .int .u64 0, .int .i64 0, .string (⟨#[]⟩ : ByteArray), .slice none 0 0]) ?_ 1 _ rfl; (with_reducible repeat (first | refine bN ?_ _ | refine bD ?_ | refine bA ?_ _)); refine blk_put (cs := #[.int .u8 0, .int .u64 0, .int .i64 0, .string (⟨#[]⟩ : ByteArray), .slice none 0 0]) ?_ 0 _ rfl; (with_reducible repeat (first | refine bN ?_ _ | refine bD ?_ | refine bA ?_ _)); exact BK364.out) hb); have n6_ := Aside0.mk (below_step (by repeat (first | (with_reducible first | exact HB.out | apply cA | apply cN | apply cD | refine cS ?_ (IsS73.ge HI346.out) | refine cS ?_ GE350.out | refine cS ?_ GE352.out | refine cS ?_ GE363.out | refine cS ?_ GE364.out) | exact HB.out)) hb); clear HO359; clear BK350; clear HI346; clear BK352; clear BK363; clear BK364; clear HB; have HO359 := n0_; have BK350 := n1_; have HI346 := n2_; have BK352 := n3_; have BK363 := n4_; have BK364 := n5_; have HB := n6_; clear n0_ n1_ n2_ n3_ n4_ n5_ n6_; (try clear hb); (try clear hb2); (try clear hk); (try clear hi); have hcz63_0 : w62.cell? ⟨gb350, 0, none⟩ = some (.string x351000_2) := (blk_cell BK350.out 0).trans rfl; have hcz63_1 : w62.cell? ⟨gb350, 1, none⟩ = some (.int .i64 x351001_2) := (blk_cell BK350.out 1).trans rfl; have hcz63_2 : w62.cell? ⟨gb350, 2, none⟩ = some (.int .i64 x351002_2) := (blk_cell BK350.out 2).trans rfl; have hfz63_0 := blk_frozen BK350.out 0; have hfz63_1 := blk_frozen BK350.out 1; have hfz63_2 := blk_frozen BK350.out 2; have hnb64 := NB364_363.out; have hnc64 := NB363_364.out; have hnb65 := NB364_346.out; have hnc65 := NB346_364.out; have hcz66_0 : w62.cell? ⟨gb364, 0, none⟩ = some (.int .u8 ((rd_T32 l1 x7_2).f0)) := (blk_cell BK364.out 0).trans rfl; have hcz66_1 : w62.cell? ⟨gb364, 1, none⟩ = some (.int .u64 0) := (blk_cell BK364.out 1).trans rfl; have hcz66_2 : w62.cell? ⟨gb364, 2, none⟩ = some (.int .i64 0) := (blk_cell BK364.out 2).trans rfl; have hcz66_3 : w62.cell? ⟨gb364, 3, none⟩ = some (.string (⟨#[]⟩ : ByteArray)) := (blk_cell BK364.out 3).trans rfl; have hcz66_4 : w62.cell? ⟨gb364, 4, none⟩ = some (.slice none 0 0) := (blk_cell BK364.out 4).trans rfl; have hfz66_0 := blk_frozen BK364.out 0; have hfz66_1 := blk_frozen BK364.out 1; have hfz66_2 := blk_frozen BK364.out 2; have hfz66_3 := blk_frozen BK364.out 3; have hfz66_4 := blk_frozen BK364.out 4))
           go_meet
           case rel => exact ⟨_, (t369), (t370), (t371), (0), (t372), ((⟨#[]⟩ : ByteArray)), (([] : List Int)), (.slice none 0 0), H', ⟨by have := HJ2.out; have := HK2.out; first | omega | exact Nat.le_refl _⟩, ⟨by (with_reducible repeat (first | apply Kd.R_alloc | apply Kd.R_drewN | apply Kd.R_drew)); exact Kd.R_mono (Kd.R_far (p := ⟨gb364, 2, none⟩) (Kd.R_far (p := ⟨gb350, 2, none⟩) (Kd.R_far (p := ⟨gb350, 1, none⟩) (Kd.R_far (p := ⟨gb350, 0, none⟩) (Kd.R_types (Kd.R_types HO359.out BK350.out (by decide)) BK364.out (by decide)) (fun _ hk => hk.1.2) (.string t369)) (fun _ hk => hk.1.2) (.int .i64 t370)) (fun _ hk => hk.1.2) (.int .i64 t371)) (fun _ hk => hk.2) (.int .i64 t372)) (fun _ hk => (by simp [Value.ownBlock]))⟩, ⟨by first | exact Kd.R_nil _ _ _ _ _ | exact Kd.N_nil _ _ _ _ _ | exact Kd.V_nil _ _ _ _ _ | exact Kd.Q_nil _ _ _ _ _ | exact Kd.S_nil _ _ _ _ _⟩, ⟨by (with_reducible repeat (first | refine bN ?_ _ | refine bD ?_ | refine bA ?_ _)); refine bF ?_ NB350_364.out _; (with_reducible repeat (first | refine bN ?_ _ | refine bD ?_ | refine bA ?_ _)); refine blk_put (cs := #[.string t369, .int .i64 t370, .int .i64 x351002_2]) ?_ 2 _ rfl; (with_reducible repeat (first | refine bN ?_ _ | refine bD ?_ | refine bA ?_ _)); refine blk_put (cs := #[.string t369, .int .i64 x351001_2, .int .i64 x351002_2]) ?_ 1 _ rfl; (with_reducible repeat (first | refine bN ?_ _ | refine bD ?_ | refine bA ?_ _)); refine blk_put (cs := #[.string x351000_2, .int .i64 x351001_2, .int .i64 x351002_2]) ?_ 0 _ rfl; (with_reducible repeat (first | refine bN ?_ _ | refine bD ?_ | refine bA ?_ _)); exact BK350.out⟩, ⟨by (with_reducible repeat (first | refine bN ?_ _ | refine bD ?_ | refine bA ?_ _)); refine bF ?_ NB352_364.out _; (with_reducible repeat (first | refine bN ?_ _ | refine bD ?_ | refine bA ?_ _)); refine bF ?_ NB352_350.out _; (with_reducible repeat (first | refine bN ?_ _ | refine bD ?_ | refine bA ?_ _)); refine bF ?_ NB352_350.out _; (with_reducible repeat (first | refine bN ?_ _ | refine bD ?_ | refine bA ?_ _)); refine bF ?_ NB352_350.out _; (with_reducible repeat (first | refine bN ?_ _ | refine bD ?_ | refine bA ?_ _)); exact BK352.out⟩, ⟨by (with_reducible repeat (first | refine bN ?_ _ | refine bD ?_ | refine bA ?_ _)); refine bF ?_ NB363_364.out _; (with_reducible repeat (first | refine bN ?_ _ | refine bD ?_ | refine bA ?_ _)); refine bF ?_ NB363_350.out _; (with_reducible repeat (first | refine bN ?_ _ | refine bD ?_ | refine bA ?_ _)); refine bF ?_ NB363_350.out _; (with_reducible repeat (first | refine bN ?_ _ | refine bD ?_ | refine bA ?_ _)); refine bF ?_ NB363_350.out _; (with_reducible repeat (first | refine bN ?_ _ | refine bD ?_ | refine bA ?_ _)); exact BK363.out⟩, ⟨by (with_reducible repeat (first | refine bN ?_ _ | refine bD ?_ | refine bA ?_ _)); refine blk_put (cs := #[.int .u8 ((rd_T32 l1 x7_2).f0), .int .u64 0, .int .i64 0, .string (⟨#[]⟩ : ByteArray), .slice none 0 0]) ?_ 2 _ rfl; (with_reducible repeat (first | refine bN ?_ _ | refine bD ?_ | refine bA ?_ _)); refine bF ?_ NB364_350.out _; (with_reducible repeat (first | refine bN ?_ _ | refine bD ?_ | refine bA ?_ _)); refine bF ?_ NB364_350.out _; (with_reducible repeat (first | refine bN ?_ _ | refine bD ?_ | refine bA ?_ _)); refine bF ?_ NB364_350.out _; (with_reducible repeat (first | refine bN ?_ _ | refine bD ?_ | refine bA ?_ _)); exact BK364.out⟩, ⟨by repeat (first | (with_reducible first | exact HI346.out | apply sA | apply sN | apply sD | apply s0 | apply s1 | apply s2 | refine sF ?_ NB346_350.out _ | refine sF ?_ NB346_352.out _ | refine sF ?_ NB346_363.out _ | refine sF ?_ NB346_364.out _) | exact HI346.out)⟩, ⟨by repeat (first | (with_reducible first | exact HB.out | apply cA | apply cN | apply cD | refine cS ?_ (IsS73.ge HI346.out) | refine cS ?_ GE350.out | refine cS ?_ GE352.out | refine cS ?_ GE363.out | refine cS ?_ GE364.out) | exact HB.out)⟩⟩
          ·rw [if_neg c51] at H
           have c51b0 : (((rd_T32 l1 x7_2).f0) == 1) = false := beq_eq_false_iff_ne.mpr c51
           have c51b1 : (((rd_T32 l1 x7_2).f0) != 1) = true := bne_iff_ne.mpr c51
           by_cases c67 : ((rd_T32 l1 x7_2).f0) = 2
           ·rw [if_pos c67] at H
            have c67b0 : (((rd_T32 l1 x7_2).f0) == 2) = true := beq_iff_eq.mpr c67
            have c67b1 : (((rd_T32 l1 x7_2).f0) != 2) = false := bne_eq_false_iff_eq.mpr c67
            clear c67
            replace H := Option.bind_eq_some_iff.mp H
            obtain ⟨⟨t373, t374, t375, t376⟩, A680, H⟩ := H
            replace H : (sawmilllaw05_WireReads.j2 k2 l1 x7_2 t360 t361 t362 t373 t374 t375 t353 t354 t355 t356 t357 ((rd_T32 l1 x7_2).f0) 0 0 t376 ([] : List Int)) = some r := H
            have A68 := Aside0.mk A680
            clear A680
            have H' := Aside0.mk H
            clear H
            have hnb69 := NB350_352.out
            have hnc69 := NB352_350.out
            have hnb70 := NB350_363.out
            have hnc70 := NB363_350.out
            have hnb71 := NB350_364.out
            have hnc71 := NB364_350.out
            have hnb72 := NB350_346.out
            have hnc72 := NB346_350.out
            have hcz73_0 : w31.cell? ⟨gb350, 0, none⟩ = some (.string x351000_2) := (blk_cell BK350.out 0).trans rfl
            have hcz73_1 : w31.cell? ⟨gb350, 1, none⟩ = some (.int .i64 x351001_2) := (blk_cell BK350.out 1).trans rfl
            have hcz73_2 : w31.cell? ⟨gb350, 2, none⟩ = some (.int .i64 x351002_2) := (blk_cell BK350.out 2).trans rfl
            have hfz73_0 := blk_frozen BK350.out 0
            have hfz73_1 := blk_frozen BK350.out 1
            have hfz73_2 := blk_frozen BK350.out 2
            have hnb74 := NB352_363.out
            have hnc74 := NB363_352.out
            have hnb75 := NB352_364.out
            have hnc75 := NB364_352.out
            have hnb76 := NB352_346.out
            have hnc76 := NB346_352.out
            have hcz77_0 : w31.cell? ⟨gb352, 0, none⟩ = some (.int .u8 ((rd_T32 l1 x7_2).f0)) := (blk_cell BK352.out 0).trans rfl
            have hcz77_1 : w31.cell? ⟨gb352, 1, none⟩ = some (.int .i64 ((rd_T32 l1 x7_2).f1)) := (blk_cell BK352.out 1).trans rfl
            have hcz77_2 : w31.cell? ⟨gb352, 2, none⟩ = some (.int .i64 ((rd_T32 l1 x7_2).f2)) := (blk_cell BK352.out 2).trans rfl
            have hcz77_3 : w31.cell? ⟨gb352, 3, none⟩ = some (.int .i64 ((rd_T32 l1 x7_2).f3)) := (blk_cell BK352.out 3).trans rfl
            have hfz77_0 := blk_frozen BK352.out 0
            have hfz77_1 := blk_frozen BK352.out 1
            have hfz77_2 := blk_frozen BK352.out 2
            have hfz77_3 := blk_frozen BK352.out 3
            go_wp2_with (first | ((with_reducible refine gate_callee (f := 30) rfl ?_); refine goesL_ (some 80) rfl rfl Try.func30 (by kernel_rfl) rfl #[.agg #[.string x351000_2, .int .i64 x351001_2, .int .i64 x351002_2], .int .i64 ((rd_T32 l1 x7_2).f3)] rfl (by (try simp only [List.map_toArray, List.map_cons, List.map_nil]); first | done | rfl | (simp only [List.length_drop, List.length_take]; rfl)) ?_; (with_reducible refine (sawmillref05_ReadText.calls k2 x351000_2 x351001_2 x351002_2 ((rd_T32 l1 x7_2).f3) t373 t374 t375 t376 _ A68.out).mono ?_); rintro e w78 ⟨rfl, hb⟩; refine ⟨_, rfl, ?_⟩; have n0_ := Aside0.mk (Kd.R_below (by (with_reducible repeat (first | apply Kd.R_alloc | apply Kd.R_drewN | apply Kd.R_drew)); exact (Kd.R_mono (Kd.R_far (p := ⟨gb364, 4, none⟩) (Kd.R_far (p := ⟨gb364, 3, none⟩) (Kd.R_far (p := ⟨gb364, 2, none⟩) (Kd.R_far (p := ⟨gb364, 1, none⟩) (Kd.R_far (p := ⟨gb364, 0, none⟩) (Kd.R_types HO359.out BK364.out (by decide)) (fun _ hk => hk.2) (.int .u8 ((rd_T32 l1 x7_2).f0))) (fun _ hk => hk.2) (.int .u64 0)) (fun _ hk => hk.2) (.int .i64 0)) (fun _ hk => hk.2) (.string (⟨#[]⟩ : ByteArray))) (fun _ hk => hk.2) (.slice none 0 0)) (fun _ h_ => h_.1))) hb); have n1_ := Aside0.mk (blk_below (g := gb350) (o := .cells #[.string x351000_2, .int .i64 x351001_2, .int .i64 x351002_2] 42 (0, 0)) (by (with_reducible repeat (first | refine bN ?_ _ | refine bD ?_ | refine bA ?_ _)); refine bF ?_ NB350_364.out _; (with_reducible repeat (first | refine bN ?_ _ | refine bD ?_ | refine bA ?_ _)); refine bF ?_ NB350_364.out _; (with_reducible repeat (first | refine bN ?_ _ | refine bD ?_ | refine bA ?_ _)); refine bF ?_ NB350_364.out _; (with_reducible repeat (first | refine bN ?_ _ | refine bD ?_ | refine bA ?_ _)); refine bF ?_ NB350_364.out _; (with_reducible repeat (first | refine bN ?_ _ | refine bD ?_ | refine bA ?_ _)); refine bF ?_ NB350_364.out _; (with_reducible repeat (first | refine bN ?_ _ | refine bD ?_ | refine bA ?_ _)); exact BK350.out) hb); have n2_ := Aside0.mk (IsS73.below (show IsS73 w (((((w31.setCell ⟨gb364, 0, none⟩ (.int .u8 ((rd_T32 l1 x7_2).f0))).setCell ⟨gb364, 1, none⟩ (.int .u64 0)).setCell ⟨gb364, 2, none⟩ (.int .i64 0)).setCell ⟨gb364, 3, none⟩ (.string (⟨#[]⟩ : ByteArray))).setCell ⟨gb364, 4, none⟩ (.slice none 0 0)) g346 t360 t361 t362 from by repeat (first | (with_reducible first | exact HI346.out | apply sA | apply sN | apply sD | apply s0 | apply s1 | apply s2 | refine sF ?_ NB346_350.out _ | refine sF ?_ NB346_352.out _ | refine sF ?_ NB346_363.out _ | refine sF ?_ NB346_364.out _) | exact HI346.out)) hb); have n3_ := Aside0.mk (blk_below (g := gb352) (o := .cells #[.int .u8 ((rd_T32 l1 x7_2).f0), .int .i64 ((rd_T32 l1 x7_2).f1), .int .i64 ((rd_T32 l1 x7_2).f2), .int .i64 ((rd_T32 l1 x7_2).f3)] 32 (0, 0)) (by (with_reducible repeat (first | refine bN ?_ _ | refine bD ?_ | refine bA ?_ _)); refine bF ?_ NB352_364.out _; (with_reducible repeat (first | refine bN ?_ _ | refine bD ?_ | refine bA ?_ _)); refine bF ?_ NB352_364.out _; (with_reducible repeat (first | refine bN ?_ _ | refine bD ?_ | refine bA ?_ _)); refine bF ?_ NB352_364.out _; (with_reducible repeat (first | refine bN ?_ _ | refine bD ?_ | refine bA ?_ _)); refine bF ?_ NB352_364.out _; (with_reducible repeat (first | refine bN ?_ _ | refine bD ?_ | refine bA ?_ _)); refine bF ?_ NB352_364.out _; (with_reducible repeat (first | refine bN ?_ _ | refine bD ?_ | refine bA ?_ _)); exact BK352.out) hb); have n4_ := Aside0.mk (blk_below (g := gb363) (o := .cells #[.int .u8 t353, .int .u64 t354, .int .i64 t355, .string t356, .slice Ao29 t357.length co29] 45 (0, 0)) (by (with_reducible repeat (first | refine bN ?_ _ | refine bD ?_ | refine bA ?_ _)); refine bF ?_ NB363_364.out _; (with_reducible repeat (first | refine bN ?_ _ | refine bD ?_ | refine bA ?_ _)); refine bF ?_ NB363_364.out _; (with_reducible repeat (first | refine bN ?_ _ | refine bD ?_ | refine bA ?_ _)); refine bF ?_ NB363_364.out _; (with_reducible repeat (first | refine bN ?_ _ | refine bD ?_ | refine bA ?_ _)); refine bF ?_ NB363_364.out _; (with_reducible repeat (first | refine bN ?_ _ | refine bD ?_ | refine bA ?_ _)); refine bF ?_ NB363_364.out _; (with_reducible repeat (first | refine bN ?_ _ | refine bD ?_ | refine bA ?_ _)); exact BK363.out) hb); have n5_ := Aside0.mk (blk_below (g := gb364) (o := .cells #[.int .u8 ((rd_T32 l1 x7_2).f0), .int .u64 0, .int .i64 0, .string (⟨#[]⟩ : ByteArray), .slice none 0 0] 45 (0, 0)) (by (with_reducible repeat (first | refine bN ?_ _ | refine bD ?_ | refine bA ?_ _)); refine blk_put (cs := #[.int .u8 ((rd_T32 l1 x7_2).f0), .int .u64 0, .int .i64 0, .string (⟨#[]⟩ : ByteArray), .slice none 0 0]) ?_ 4 _ rfl; (with_reducible repeat (first | refine bN ?_ _ | refine bD ?_ | refine bA ?_ _)); refine blk_put (cs := #[.int .u8 ((rd_T32 l1 x7_2).f0), .int .u64 0, .int .i64 0, .string (⟨#[]⟩ : ByteArray), .slice none 0 0]) ?_ 3 _ rfl; (with_reducible repeat (first | refine bN ?_ _ | refine bD ?_ | refine bA ?_ _)); refine blk_put (cs := #[.int .u8 ((rd_T32 l1 x7_2).f0), .int .u64 0, .int .i64 0, .string (⟨#[]⟩ : ByteArray), .slice none 0 0]) ?_ 2 _ rfl; (with_reducible repeat (first | refine bN ?_ _ | refine bD ?_ | refine bA ?_ _)); refine blk_put (cs := #[.int .u8 ((rd_T32 l1 x7_2).f0), .int .u64 0, .int .i64 0, .string (⟨#[]⟩ : ByteArray), .slice none 0 0]) ?_ 1 _ rfl; (with_reducible repeat (first | refine bN ?_ _ | refine bD ?_ | refine bA ?_ _)); refine blk_put (cs := #[.int .u8 0, .int .u64 0, .int .i64 0, .string (⟨#[]⟩ : ByteArray), .slice none 0 0]) ?_ 0 _ rfl; (with_reducible repeat (first | refine bN ?_ _ | refine bD ?_ | refine bA ?_ _)); exact BK364.out) hb); have n6_ := Aside0.mk (below_step (by repeat (first | (with_reducible first | exact HB.out | apply cA | apply cN | apply cD | refine cS ?_ (IsS73.ge HI346.out) | refine cS ?_ GE350.out | refine cS ?_ GE352.out | refine cS ?_ GE363.out | refine cS ?_ GE364.out) | exact HB.out)) hb); clear HO359; clear BK350; clear HI346; clear BK352; clear BK363; clear BK364; clear HB; have HO359 := n0_; have BK350 := n1_; have HI346 := n2_; have BK352 := n3_; have BK363 := n4_; have BK364 := n5_; have HB := n6_; clear n0_ n1_ n2_ n3_ n4_ n5_ n6_; (try clear hb); (try clear hb2); (try clear hk); (try clear hi); have hcz79_0 : w78.cell? ⟨gb350, 0, none⟩ = some (.string x351000_2) := (blk_cell BK350.out 0).trans rfl; have hcz79_1 : w78.cell? ⟨gb350, 1, none⟩ = some (.int .i64 x351001_2) := (blk_cell BK350.out 1).trans rfl; have hcz79_2 : w78.cell? ⟨gb350, 2, none⟩ = some (.int .i64 x351002_2) := (blk_cell BK350.out 2).trans rfl; have hfz79_0 := blk_frozen BK350.out 0; have hfz79_1 := blk_frozen BK350.out 1; have hfz79_2 := blk_frozen BK350.out 2; have hnb80 := NB364_363.out; have hnc80 := NB363_364.out; have hnb81 := NB364_346.out; have hnc81 := NB346_364.out; have hcz82_0 : w78.cell? ⟨gb364, 0, none⟩ = some (.int .u8 ((rd_T32 l1 x7_2).f0)) := (blk_cell BK364.out 0).trans rfl; have hcz82_1 : w78.cell? ⟨gb364, 1, none⟩ = some (.int .u64 0) := (blk_cell BK364.out 1).trans rfl; have hcz82_2 : w78.cell? ⟨gb364, 2, none⟩ = some (.int .i64 0) := (blk_cell BK364.out 2).trans rfl; have hcz82_3 : w78.cell? ⟨gb364, 3, none⟩ = some (.string (⟨#[]⟩ : ByteArray)) := (blk_cell BK364.out 3).trans rfl; have hcz82_4 : w78.cell? ⟨gb364, 4, none⟩ = some (.slice none 0 0) := (blk_cell BK364.out 4).trans rfl; have hfz82_0 := blk_frozen BK364.out 0; have hfz82_1 := blk_frozen BK364.out 1; have hfz82_2 := blk_frozen BK364.out 2; have hfz82_3 := blk_frozen BK364.out 3; have hfz82_4 := blk_frozen BK364.out 4))
            go_meet
            case rel => exact ⟨_, (t373), (t374), (t375), (0), (0), (t376), (([] : List Int)), (.slice none 0 0), H', ⟨by have := HJ2.out; have := HK2.out; first | omega | exact Nat.le_refl _⟩, ⟨by (with_reducible repeat (first | apply Kd.R_alloc | apply Kd.R_drewN | apply Kd.R_drew)); exact Kd.R_mono (Kd.R_far (p := ⟨gb364, 3, none⟩) (Kd.R_far (p := ⟨gb350, 2, none⟩) (Kd.R_far (p := ⟨gb350, 1, none⟩) (Kd.R_far (p := ⟨gb350, 0, none⟩) (Kd.R_types (Kd.R_types HO359.out BK350.out (by decide)) BK364.out (by decide)) (fun _ hk => hk.1.2) (.string t373)) (fun _ hk => hk.1.2) (.int .i64 t374)) (fun _ hk => hk.1.2) (.int .i64 t375)) (fun _ hk => hk.2) (.string t376)) (fun _ hk => (by simp [Value.ownBlock]))⟩, ⟨by first | exact Kd.R_nil _ _ _ _ _ | exact Kd.N_nil _ _ _ _ _ | exact Kd.V_nil _ _ _ _ _ | exact Kd.Q_nil _ _ _ _ _ | exact Kd.S_nil _ _ _ _ _⟩, ⟨by (with_reducible repeat (first | refine bN ?_ _ | refine bD ?_ | refine bA ?_ _)); refine bF ?_ NB350_364.out _; (with_reducible repeat (first | refine bN ?_ _ | refine bD ?_ | refine bA ?_ _)); refine blk_put (cs := #[.string t373, .int .i64 t374, .int .i64 x351002_2]) ?_ 2 _ rfl; (with_reducible repeat (first | refine bN ?_ _ | refine bD ?_ | refine bA ?_ _)); refine blk_put (cs := #[.string t373, .int .i64 x351001_2, .int .i64 x351002_2]) ?_ 1 _ rfl; (with_reducible repeat (first | refine bN ?_ _ | refine bD ?_ | refine bA ?_ _)); refine blk_put (cs := #[.string x351000_2, .int .i64 x351001_2, .int .i64 x351002_2]) ?_ 0 _ rfl; (with_reducible repeat (first | refine bN ?_ _ | refine bD ?_ | refine bA ?_ _)); exact BK350.out⟩, ⟨by (with_reducible repeat (first | refine bN ?_ _ | refine bD ?_ | refine bA ?_ _)); refine bF ?_ NB352_364.out _; (with_reducible repeat (first | refine bN ?_ _ | refine bD ?_ | refine bA ?_ _)); refine bF ?_ NB352_350.out _; (with_reducible repeat (first | refine bN ?_ _ | refine bD ?_ | refine bA ?_ _)); refine bF ?_ NB352_350.out _; (with_reducible repeat (first | refine bN ?_ _ | refine bD ?_ | refine bA ?_ _)); refine bF ?_ NB352_350.out _; (with_reducible repeat (first | refine bN ?_ _ | refine bD ?_ | refine bA ?_ _)); exact BK352.out⟩, ⟨by (with_reducible repeat (first | refine bN ?_ _ | refine bD ?_ | refine bA ?_ _)); refine bF ?_ NB363_364.out _; (with_reducible repeat (first | refine bN ?_ _ | refine bD ?_ | refine bA ?_ _)); refine bF ?_ NB363_350.out _; (with_reducible repeat (first | refine bN ?_ _ | refine bD ?_ | refine bA ?_ _)); refine bF ?_ NB363_350.out _; (with_reducible repeat (first | refine bN ?_ _ | refine bD ?_ | refine bA ?_ _)); refine bF ?_ NB363_350.out _; (with_reducible repeat (first | refine bN ?_ _ | refine bD ?_ | refine bA ?_ _)); exact BK363.out⟩, ⟨by (with_reducible repeat (first | refine bN ?_ _ | refine bD ?_ | refine bA ?_ _)); refine blk_put (cs := #[.int .u8 ((rd_T32 l1 x7_2).f0), .int .u64 0, .int .i64 0, .string (⟨#[]⟩ : ByteArray), .slice none 0 0]) ?_ 3 _ rfl; (with_reducible repeat (first | refine bN ?_ _ | refine bD ?_ | refine bA ?_ _)); refine bF ?_ NB364_350.out _; (with_reducible repeat (first | refine bN ?_ _ | refine bD ?_ | refine bA ?_ _)); refine bF ?_ NB364_350.out _; (with_reducible repeat (first | refine bN ?_ _ | refine bD ?_ | refine bA ?_ _)); refine bF ?_ NB364_350.out _; (with_reducible repeat (first | refine bN ?_ _ | refine bD ?_ | refine bA ?_ _)); exact BK364.out⟩, ⟨by repeat (first | (with_reducible first | exact HI346.out | apply sA | apply sN | apply sD | apply s0 | apply s1 | apply s2 | refine sF ?_ NB346_350.out _ | refine sF ?_ NB346_352.out _ | refine sF ?_ NB346_363.out _ | refine sF ?_ NB346_364.out _) | exact HI346.out)⟩, ⟨by repeat (first | (with_reducible first | exact HB.out | apply cA | apply cN | apply cD | refine cS ?_ (IsS73.ge HI346.out) | refine cS ?_ GE350.out | refine cS ?_ GE352.out | refine cS ?_ GE363.out | refine cS ?_ GE364.out) | exact HB.out)⟩⟩
           ·rw [if_neg c67] at H
            have c67b0 : (((rd_T32 l1 x7_2).f0) == 2) = false := beq_eq_false_iff_ne.mpr c67
            have c67b1 : (((rd_T32 l1 x7_2).f0) != 2) = true := bne_iff_ne.mpr c67
            replace H := Option.bind_eq_some_iff.mp H
            obtain ⟨⟨t377, t378, t379, t380⟩, A830, H⟩ := H
            replace H : (sawmilllaw05_WireReads.j2 k2 l1 x7_2 t360 t361 t362 t377 t378 t379 t353 t354 t355 t356 t357 ((rd_T32 l1 x7_2).f0) 0 0 (⟨#[]⟩ : ByteArray) t380) = some r := H
            have A83 := Aside0.mk A830
            clear A830
            have H' := Aside0.mk H
            clear H
            have hnb84 := NB350_352.out
            have hnc84 := NB352_350.out
            have hnb85 := NB350_363.out
            have hnc85 := NB363_350.out
            have hnb86 := NB350_364.out
            have hnc86 := NB364_350.out
            have hnb87 := NB350_346.out
            have hnc87 := NB346_350.out
            have hcz88_0 : w31.cell? ⟨gb350, 0, none⟩ = some (.string x351000_2) := (blk_cell BK350.out 0).trans rfl
            have hcz88_1 : w31.cell? ⟨gb350, 1, none⟩ = some (.int .i64 x351001_2) := (blk_cell BK350.out 1).trans rfl
            have hcz88_2 : w31.cell? ⟨gb350, 2, none⟩ = some (.int .i64 x351002_2) := (blk_cell BK350.out 2).trans rfl
            have hfz88_0 := blk_frozen BK350.out 0
            have hfz88_1 := blk_frozen BK350.out 1
            have hfz88_2 := blk_frozen BK350.out 2
            have hnb89 := NB352_363.out
            have hnc89 := NB363_352.out
            have hnb90 := NB352_364.out
            have hnc90 := NB364_352.out
            have hnb91 := NB352_346.out
            have hnc91 := NB346_352.out
            have hcz92_0 : w31.cell? ⟨gb352, 0, none⟩ = some (.int .u8 ((rd_T32 l1 x7_2).f0)) := (blk_cell BK352.out 0).trans rfl
            have hcz92_1 : w31.cell? ⟨gb352, 1, none⟩ = some (.int .i64 ((rd_T32 l1 x7_2).f1)) := (blk_cell BK352.out 1).trans rfl
            have hcz92_2 : w31.cell? ⟨gb352, 2, none⟩ = some (.int .i64 ((rd_T32 l1 x7_2).f2)) := (blk_cell BK352.out 2).trans rfl
            have hcz92_3 : w31.cell? ⟨gb352, 3, none⟩ = some (.int .i64 ((rd_T32 l1 x7_2).f3)) := (blk_cell BK352.out 3).trans rfl
            have hfz92_0 := blk_frozen BK352.out 0
            have hfz92_1 := blk_frozen BK352.out 1
            have hfz92_2 := blk_frozen BK352.out 2
            have hfz92_3 := blk_frozen BK352.out 3
            go_wp2_with (first | ((with_reducible refine gate_callee (f := 31) rfl ?_); refine goesL_ (some 50) rfl rfl Try.func31 (by kernel_rfl) rfl #[.agg #[.string x351000_2, .int .i64 x351001_2, .int .i64 x351002_2], .int .i64 ((rd_T32 l1 x7_2).f3), .int .i64 ((rd_T32 l1 x7_2).f1), .int .i64 ((rd_T32 l1 x7_2).f2)] rfl (by (try simp only [List.map_toArray, List.map_cons, List.map_nil]); first | done | rfl | (simp only [List.length_drop, List.length_take]; rfl)) ?_; (with_reducible refine (sawmillref05_ReadInts.calls k2 x351000_2 x351001_2 x351002_2 ((rd_T32 l1 x7_2).f3) ((rd_T32 l1 x7_2).f1) ((rd_T32 l1 x7_2).f2) t377 t378 t379 t380 _ A83.out).mono ?_); rintro e w93 ⟨v381, rfl, ho0, hb⟩; refine ⟨_, rfl, ?_⟩; have n0_ := Aside0.mk (Kd.R_elder' (by (with_reducible repeat (first | apply Kd.R_alloc | apply Kd.R_drewN | apply Kd.R_drew)); exact (Kd.R_mono (Kd.R_far (p := ⟨gb364, 4, none⟩) (Kd.R_far (p := ⟨gb364, 3, none⟩) (Kd.R_far (p := ⟨gb364, 2, none⟩) (Kd.R_far (p := ⟨gb364, 1, none⟩) (Kd.R_far (p := ⟨gb364, 0, none⟩) (Kd.R_types HO359.out BK364.out (by decide)) (fun _ hk => hk.2) (.int .u8 ((rd_T32 l1 x7_2).f0))) (fun _ hk => hk.2) (.int .u64 0)) (fun _ hk => hk.2) (.int .i64 0)) (fun _ hk => hk.2) (.string (⟨#[]⟩ : ByteArray))) (fun _ hk => hk.2) (.slice none 0 0)) (fun _ h_ => h_.1))) (Kd.R_base ho0) hb); have n1_ := Aside0.mk (Kd.R_lower (Kd.R_new' ho0 (Kd.R_lt (by (with_reducible repeat (first | apply Kd.R_alloc | apply Kd.R_drewN | apply Kd.R_drew)); exact (Kd.R_mono (Kd.R_far (p := ⟨gb364, 4, none⟩) (Kd.R_far (p := ⟨gb364, 3, none⟩) (Kd.R_far (p := ⟨gb364, 2, none⟩) (Kd.R_far (p := ⟨gb364, 1, none⟩) (Kd.R_far (p := ⟨gb364, 0, none⟩) (Kd.R_types HO359.out BK364.out (by decide)) (fun _ hk => hk.2) (.int .u8 ((rd_T32 l1 x7_2).f0))) (fun _ hk => hk.2) (.int .u64 0)) (fun _ hk => hk.2) (.int .i64 0)) (fun _ hk => hk.2) (.string (⟨#[]⟩ : ByteArray))) (fun _ hk => hk.2) (.slice none 0 0)) (fun _ h_ => h_.1))))) (below_size (by repeat (first | (with_reducible first | exact HB.out | apply cA | apply cN | apply cD | refine cS ?_ (IsS73.ge HI346.out) | refine cS ?_ GE350.out | refine cS ?_ GE352.out | refine cS ?_ GE363.out | refine cS ?_ GE364.out) | exact HB.out)))); have n2_ := Aside0.mk (blk_below (g := gb350) (o := .cells #[.string x351000_2, .int .i64 x351001_2, .int .i64 x351002_2] 42 (0, 0)) (by (with_reducible repeat (first | refine bN ?_ _ | refine bD ?_ | refine bA ?_ _)); refine bF ?_ NB350_364.out _; (with_reducible repeat (first | refine bN ?_ _ | refine bD ?_ | refine bA ?_ _)); refine bF ?_ NB350_364.out _; (with_reducible repeat (first | refine bN ?_ _ | refine bD ?_ | refine bA ?_ _)); refine bF ?_ NB350_364.out _; (with_reducible repeat (first | refine bN ?_ _ | refine bD ?_ | refine bA ?_ _)); refine bF ?_ NB350_364.out _; (with_reducible repeat (first | refine bN ?_ _ | refine bD ?_ | refine bA ?_ _)); refine bF ?_ NB350_364.out _; (with_reducible repeat (first | refine bN ?_ _ | refine bD ?_ | refine bA ?_ _)); exact BK350.out) hb); have n3_ := Aside0.mk (IsS73.below (show IsS73 w (((((w31.setCell ⟨gb364, 0, none⟩ (.int .u8 ((rd_T32 l1 x7_2).f0))).setCell ⟨gb364, 1, none⟩ (.int .u64 0)).setCell ⟨gb364, 2, none⟩ (.int .i64 0)).setCell ⟨gb364, 3, none⟩ (.string (⟨#[]⟩ : ByteArray))).setCell ⟨gb364, 4, none⟩ (.slice none 0 0)) g346 t360 t361 t362 from by repeat (first | (with_reducible first | exact HI346.out | apply sA | apply sN | apply sD | apply s0 | apply s1 | apply s2 | refine sF ?_ NB346_350.out _ | refine sF ?_ NB346_352.out _ | refine sF ?_ NB346_363.out _ | refine sF ?_ NB346_364.out _) | exact HI346.out)) hb); have n4_ := Aside0.mk (blk_below (g := gb352) (o := .cells #[.int .u8 ((rd_T32 l1 x7_2).f0), .int .i64 ((rd_T32 l1 x7_2).f1), .int .i64 ((rd_T32 l1 x7_2).f2), .int .i64 ((rd_T32 l1 x7_2).f3)] 32 (0, 0)) (by (with_reducible repeat (first | refine bN ?_ _ | refine bD ?_ | refine bA ?_ _)); refine bF ?_ NB352_364.out _; (with_reducible repeat (first | refine bN ?_ _ | refine bD ?_ | refine bA ?_ _)); refine bF ?_ NB352_364.out _; (with_reducible repeat (first | refine bN ?_ _ | refine bD ?_ | refine bA ?_ _)); refine bF ?_ NB352_364.out _; (with_reducible repeat (first | refine bN ?_ _ | refine bD ?_ | refine bA ?_ _)); refine bF ?_ NB352_364.out _; (with_reducible repeat (first | refine bN ?_ _ | refine bD ?_ | refine bA ?_ _)); refine bF ?_ NB352_364.out _; (with_reducible repeat (first | refine bN ?_ _ | refine bD ?_ | refine bA ?_ _)); exact BK352.out) hb); have n5_ := Aside0.mk (blk_below (g := gb363) (o := .cells #[.int .u8 t353, .int .u64 t354, .int .i64 t355, .string t356, .slice Ao29 t357.length co29] 45 (0, 0)) (by (with_reducible repeat (first | refine bN ?_ _ | refine bD ?_ | refine bA ?_ _)); refine bF ?_ NB363_364.out _; (with_reducible repeat (first | refine bN ?_ _ | refine bD ?_ | refine bA ?_ _)); refine bF ?_ NB363_364.out _; (with_reducible repeat (first | refine bN ?_ _ | refine bD ?_ | refine bA ?_ _)); refine bF ?_ NB363_364.out _; (with_reducible repeat (first | refine bN ?_ _ | refine bD ?_ | refine bA ?_ _)); refine bF ?_ NB363_364.out _; (with_reducible repeat (first | refine bN ?_ _ | refine bD ?_ | refine bA ?_ _)); refine bF ?_ NB363_364.out _; (with_reducible repeat (first | refine bN ?_ _ | refine bD ?_ | refine bA ?_ _)); exact BK363.out) hb); have n6_ := Aside0.mk (blk_below (g := gb364) (o := .cells #[.int .u8 ((rd_T32 l1 x7_2).f0), .int .u64 0, .int .i64 0, .string (⟨#[]⟩ : ByteArray), .slice none 0 0] 45 (0, 0)) (by (with_reducible repeat (first | refine bN ?_ _ | refine bD ?_ | refine bA ?_ _)); refine blk_put (cs := #[.int .u8 ((rd_T32 l1 x7_2).f0), .int .u64 0, .int .i64 0, .string (⟨#[]⟩ : ByteArray), .slice none 0 0]) ?_ 4 _ rfl; (with_reducible repeat (first | refine bN ?_ _ | refine bD ?_ | refine bA ?_ _)); refine blk_put (cs := #[.int .u8 ((rd_T32 l1 x7_2).f0), .int .u64 0, .int .i64 0, .string (⟨#[]⟩ : ByteArray), .slice none 0 0]) ?_ 3 _ rfl; (with_reducible repeat (first | refine bN ?_ _ | refine bD ?_ | refine bA ?_ _)); refine blk_put (cs := #[.int .u8 ((rd_T32 l1 x7_2).f0), .int .u64 0, .int .i64 0, .string (⟨#[]⟩ : ByteArray), .slice none 0 0]) ?_ 2 _ rfl; (with_reducible repeat (first | refine bN ?_ _ | refine bD ?_ | refine bA ?_ _)); refine blk_put (cs := #[.int .u8 ((rd_T32 l1 x7_2).f0), .int .u64 0, .int .i64 0, .string (⟨#[]⟩ : ByteArray), .slice none 0 0]) ?_ 1 _ rfl; (with_reducible repeat (first | refine bN ?_ _ | refine bD ?_ | refine bA ?_ _)); refine blk_put (cs := #[.int .u8 0, .int .u64 0, .int .i64 0, .string (⟨#[]⟩ : ByteArray), .slice none 0 0]) ?_ 0 _ rfl; (with_reducible repeat (first | refine bN ?_ _ | refine bD ?_ | refine bA ?_ _)); exact BK364.out) hb); have n7_ := Aside0.mk (below_step (by repeat (first | (with_reducible first | exact HB.out | apply cA | apply cN | apply cD | refine cS ?_ (IsS73.ge HI346.out) | refine cS ?_ GE350.out | refine cS ?_ GE352.out | refine cS ?_ GE363.out | refine cS ?_ GE364.out) | exact HB.out)) hb); clear HO359; clear BK350; clear HI346; clear BK352; clear BK363; clear BK364; clear HB; have HO359 := n0_; have HO382 := n1_; have BK350 := n2_; have HI346 := n3_; have BK352 := n4_; have BK363 := n5_; have BK364 := n6_; have HB := n7_; clear n0_ n1_ n2_ n3_ n4_ n5_ n6_ n7_; (try clear hb); (try clear hb2); (try clear hk); (try clear hi); (try clear ho0); have hcz94_0 : w93.cell? ⟨gb350, 0, none⟩ = some (.string x351000_2) := (blk_cell BK350.out 0).trans rfl; have hcz94_1 : w93.cell? ⟨gb350, 1, none⟩ = some (.int .i64 x351001_2) := (blk_cell BK350.out 1).trans rfl; have hcz94_2 : w93.cell? ⟨gb350, 2, none⟩ = some (.int .i64 x351002_2) := (blk_cell BK350.out 2).trans rfl; have hfz94_0 := blk_frozen BK350.out 0; have hfz94_1 := blk_frozen BK350.out 1; have hfz94_2 := blk_frozen BK350.out 2; obtain ⟨Ao95, co95, eo95⟩ := Kd.R_slice HO382.out; subst eo95; have hnb96 := NB364_363.out; have hnc96 := NB363_364.out; have hnb97 := NB364_346.out; have hnc97 := NB346_364.out; have hcz98_0 : w93.cell? ⟨gb364, 0, none⟩ = some (.int .u8 ((rd_T32 l1 x7_2).f0)) := (blk_cell BK364.out 0).trans rfl; have hcz98_1 : w93.cell? ⟨gb364, 1, none⟩ = some (.int .u64 0) := (blk_cell BK364.out 1).trans rfl; have hcz98_2 : w93.cell? ⟨gb364, 2, none⟩ = some (.int .i64 0) := (blk_cell BK364.out 2).trans rfl; have hcz98_3 : w93.cell? ⟨gb364, 3, none⟩ = some (.string (⟨#[]⟩ : ByteArray)) := (blk_cell BK364.out 3).trans rfl; have hcz98_4 : w93.cell? ⟨gb364, 4, none⟩ = some (.slice none 0 0) := (blk_cell BK364.out 4).trans rfl; have hfz98_0 := blk_frozen BK364.out 0; have hfz98_1 := blk_frozen BK364.out 1; have hfz98_2 := blk_frozen BK364.out 2; have hfz98_3 := blk_frozen BK364.out 3; have hfz98_4 := blk_frozen BK364.out 4))
            go_meet
            case rel => exact ⟨_, (t377), (t378), (t379), (0), (0), ((⟨#[]⟩ : ByteArray)), (t380), (.slice Ao95 t380.length co95), H', ⟨by have := HJ2.out; have := HK2.out; first | omega | exact Nat.le_refl _⟩, ⟨by (with_reducible repeat (first | apply Kd.R_alloc | apply Kd.R_drewN | apply Kd.R_drew)); exact Kd.R_mono (Kd.R_far (p := ⟨gb364, 4, none⟩) (Kd.R_far (p := ⟨gb350, 2, none⟩) (Kd.R_far (p := ⟨gb350, 1, none⟩) (Kd.R_far (p := ⟨gb350, 0, none⟩) (Kd.R_types (Kd.R_types HO359.out BK350.out (by decide)) BK364.out (by decide)) (fun _ hk => hk.1.2) (.string t377)) (fun _ hk => hk.1.2) (.int .i64 t378)) (fun _ hk => hk.1.2) (.int .i64 t379)) (fun _ hk => hk.2) (.slice Ao95 t380.length co95)) (fun _ hk => hk.1.1.2)⟩, ⟨by (with_reducible repeat (first | apply Kd.R_alloc | apply Kd.R_drewN | apply Kd.R_drew)); exact Kd.R_mono (Kd.R_far (p := ⟨gb364, 4, none⟩) (Kd.R_far (p := ⟨gb350, 2, none⟩) (Kd.R_far (p := ⟨gb350, 1, none⟩) (Kd.R_far (p := ⟨gb350, 0, none⟩) (Kd.R_types (Kd.R_types HO382.out BK350.out (by decide)) BK364.out (by decide)) (fun _ hk => hk.1.2) (.string t377)) (fun _ hk => hk.1.2) (.int .i64 t378)) (fun _ hk => hk.1.2) (.int .i64 t379)) (fun _ hk => hk.2) (.slice Ao95 t380.length co95)) (fun _ hk => hk.1.1.2)⟩, ⟨by (with_reducible repeat (first | refine bN ?_ _ | refine bD ?_ | refine bA ?_ _)); refine bF ?_ NB350_364.out _; (with_reducible repeat (first | refine bN ?_ _ | refine bD ?_ | refine bA ?_ _)); refine blk_put (cs := #[.string t377, .int .i64 t378, .int .i64 x351002_2]) ?_ 2 _ rfl; (with_reducible repeat (first | refine bN ?_ _ | refine bD ?_ | refine bA ?_ _)); refine blk_put (cs := #[.string t377, .int .i64 x351001_2, .int .i64 x351002_2]) ?_ 1 _ rfl; (with_reducible repeat (first | refine bN ?_ _ | refine bD ?_ | refine bA ?_ _)); refine blk_put (cs := #[.string x351000_2, .int .i64 x351001_2, .int .i64 x351002_2]) ?_ 0 _ rfl; (with_reducible repeat (first | refine bN ?_ _ | refine bD ?_ | refine bA ?_ _)); exact BK350.out⟩, ⟨by (with_reducible repeat (first | refine bN ?_ _ | refine bD ?_ | refine bA ?_ _)); refine bF ?_ NB352_364.out _; (with_reducible repeat (first | refine bN ?_ _ | refine bD ?_ | refine bA ?_ _)); refine bF ?_ NB352_350.out _; (with_reducible repeat (first | refine bN ?_ _ | refine bD ?_ | refine bA ?_ _)); refine bF ?_ NB352_350.out _; (with_reducible repeat (first | refine bN ?_ _ | refine bD ?_ | refine bA ?_ _)); refine bF ?_ NB352_350.out _; (with_reducible repeat (first | refine bN ?_ _ | refine bD ?_ | refine bA ?_ _)); exact BK352.out⟩, ⟨by (with_reducible repeat (first | refine bN ?_ _ | refine bD ?_ | refine bA ?_ _)); refine bF ?_ NB363_364.out _; (with_reducible repeat (first | refine bN ?_ _ | refine bD ?_ | refine bA ?_ _)); refine bF ?_ NB363_350.out _; (with_reducible repeat (first | refine bN ?_ _ | refine bD ?_ | refine bA ?_ _)); refine bF ?_ NB363_350.out _; (with_reducible repeat (first | refine bN ?_ _ | refine bD ?_ | refine bA ?_ _)); refine bF ?_ NB363_350.out _; (with_reducible repeat (first | refine bN ?_ _ | refine bD ?_ | refine bA ?_ _)); exact BK363.out⟩, ⟨by (with_reducible repeat (first | refine bN ?_ _ | refine bD ?_ | refine bA ?_ _)); refine blk_put (cs := #[.int .u8 ((rd_T32 l1 x7_2).f0), .int .u64 0, .int .i64 0, .string (⟨#[]⟩ : ByteArray), .slice none 0 0]) ?_ 4 _ rfl; (with_reducible repeat (first | refine bN ?_ _ | refine bD ?_ | refine bA ?_ _)); refine bF ?_ NB364_350.out _; (with_reducible repeat (first | refine bN ?_ _ | refine bD ?_ | refine bA ?_ _)); refine bF ?_ NB364_350.out _; (with_reducible repeat (first | refine bN ?_ _ | refine bD ?_ | refine bA ?_ _)); refine bF ?_ NB364_350.out _; (with_reducible repeat (first | refine bN ?_ _ | refine bD ?_ | refine bA ?_ _)); exact BK364.out⟩, ⟨by repeat (first | (with_reducible first | exact HI346.out | apply sA | apply sN | apply sD | apply s0 | apply s1 | apply s2 | refine sF ?_ NB346_350.out _ | refine sF ?_ NB346_352.out _ | refine sF ?_ NB346_363.out _ | refine sF ?_ NB346_364.out _) | exact HI346.out)⟩, ⟨by repeat (first | (with_reducible first | exact HB.out | apply cA | apply cN | apply cD | refine cS ?_ (IsS73.ge HI346.out) | refine cS ?_ GE350.out | refine cS ?_ GE352.out | refine cS ?_ GE363.out | refine cS ?_ GE364.out) | exact HB.out)⟩⟩
        case rest =>
         clear HC18
         try clear c1
         try clear c2
         try clear p2
         try clear c3
         try clear p3
         try clear q3
         try clear hx3
         try clear c4
         try clear c4b0
         try clear c4b1
         try clear c5
         try clear c6
         try clear c7
         try clear c8
         try clear c9
         try clear c13
         try clear c15
         try clear c15b0
         try clear c16
         try clear c16b0
         try clear c20
         try clear c21
         try clear c25
         try clear c26
         try clear c27
         try clear c28
         try clear c29
         try clear c30
         try clear c31
         try clear c32
         try clear c33
         try clear c34
         try clear c35
         try clear p35
         try clear q35
         try clear hx35
         try clear c38
         try clear c38b0
         try clear c38b1
         try clear c40
         try clear c41
         try clear c42
         try clear c43
         try clear c47
         try clear c48
         try clear c49
         try clear c51
         try clear c51b0
         try clear c51b1
         try clear c53
         try clear c54
         try clear c55
         try clear c56
         try clear c58
         try clear c59
         try clear c60
         try clear c64
         try clear c65
         try clear c67
         try clear c67b0
         try clear c67b1
         try clear c69
         try clear c70
         try clear c71
         try clear c72
         try clear c74
         try clear c75
         try clear c76
         try clear c80
         try clear c81
         try clear c84
         try clear c85
         try clear c86
         try clear c87
         try clear c89
         try clear c90
         try clear c91
         try clear c96
         try clear c97
         try clear hcz14_0
         try clear hcz14_1
         try clear hcz14_2
         try clear hcz22_0
         try clear hcz22_1
         try clear hcz22_2
         try clear hcz22_3
         try clear hcz28_0
         try clear hcz28_1
         try clear hcz28_2
         try clear hcz28_3
         try clear hcz28_4
         try clear hcz30_0
         try clear hcz30_1
         try clear hcz30_2
         try clear hcz30_3
         try clear hcz36_0
         try clear hcz36_1
         try clear hcz36_2
         try clear hcz36_3
         try clear hcz36_4
         try clear hcz37_0
         try clear hcz37_1
         try clear hcz37_2
         try clear hcz37_3
         try clear hcz44_0
         try clear hcz44_1
         try clear hcz44_2
         try clear hcz46_0
         try clear hcz46_1
         try clear hcz46_2
         try clear hcz50_0
         try clear hcz50_1
         try clear hcz50_2
         try clear hcz50_3
         try clear hcz50_4
         try clear hcz57_0
         try clear hcz57_1
         try clear hcz57_2
         try clear hcz61_0
         try clear hcz61_1
         try clear hcz61_2
         try clear hcz61_3
         try clear hcz63_0
         try clear hcz63_1
         try clear hcz63_2
         try clear hcz66_0
         try clear hcz66_1
         try clear hcz66_2
         try clear hcz66_3
         try clear hcz66_4
         try clear hcz73_0
         try clear hcz73_1
         try clear hcz73_2
         try clear hcz77_0
         try clear hcz77_1
         try clear hcz77_2
         try clear hcz77_3
         try clear hcz79_0
         try clear hcz79_1
         try clear hcz79_2
         try clear hcz82_0
         try clear hcz82_1
         try clear hcz82_2
         try clear hcz82_3
         try clear hcz82_4
         try clear hcz88_0
         try clear hcz88_1
         try clear hcz88_2
         try clear hcz92_0
         try clear hcz92_1
         try clear hcz92_2
         try clear hcz92_3
         try clear hcz94_0
         try clear hcz94_1
         try clear hcz94_2
         try clear hcz98_0
         try clear hcz98_1
         try clear hcz98_2
         try clear hcz98_3
         try clear hcz98_4
         try clear hfz14_0
         try clear hfz14_1
         try clear hfz14_2
         try clear hfz22_0
         try clear hfz22_1
         try clear hfz22_2
         try clear hfz22_3
         try clear hfz28_0
         try clear hfz28_1
         try clear hfz28_2
         try clear hfz28_3
         try clear hfz28_4
         try clear hfz30_0
         try clear hfz30_1
         try clear hfz30_2
         try clear hfz30_3
         try clear hfz36_0
         try clear hfz36_1
         try clear hfz36_2
         try clear hfz36_3
         try clear hfz36_4
         try clear hfz37_0
         try clear hfz37_1
         try clear hfz37_2
         try clear hfz37_3
         try clear hfz44_0
         try clear hfz44_1
         try clear hfz44_2
         try clear hfz46_0
         try clear hfz46_1
         try clear hfz46_2
         try clear hfz50_0
         try clear hfz50_1
         try clear hfz50_2
         try clear hfz50_3
         try clear hfz50_4
         try clear hfz57_0
         try clear hfz57_1
         try clear hfz57_2
         try clear hfz61_0
         try clear hfz61_1
         try clear hfz61_2
         try clear hfz61_3
         try clear hfz63_0
         try clear hfz63_1
         try clear hfz63_2
         try clear hfz66_0
         try clear hfz66_1
         try clear hfz66_2
         try clear hfz66_3
         try clear hfz66_4
         try clear hfz73_0
         try clear hfz73_1
         try clear hfz73_2
         try clear hfz77_0
         try clear hfz77_1
         try clear hfz77_2
         try clear hfz77_3
         try clear hfz79_0
         try clear hfz79_1
         try clear hfz79_2
         try clear hfz82_0
         try clear hfz82_1
         try clear hfz82_2
         try clear hfz82_3
         try clear hfz82_4
         try clear hfz88_0
         try clear hfz88_1
         try clear hfz88_2
         try clear hfz92_0
         try clear hfz92_1
         try clear hfz92_2
         try clear hfz92_3
         try clear hfz94_0
         try clear hfz94_1
         try clear hfz94_2
         try clear hfz98_0
         try clear hfz98_1
         try clear hfz98_2
         try clear hfz98_3
         try clear hfz98_4
         try clear hx351_0
         try clear hx351_1
         try clear hx351_2
         try clear hx351_3
         try clear p2
         try clear p351
         try clear q351
         obtain ⟨kq, x351000_17, x351001_17, x351002_17, x365001_17, x365002_17, x365003_17, x365004_17, u365004, HA, HJ17, HO_364004, HO_365004, BK350, BK352, BK363, BK364, HI346, HB⟩ := hcut
         cases kq with
         | zero => exact absurd HA.out (by simp [sawmilllaw05_WireReads.j2])
         | succ kj17 =>
          have H := HA.out
          clear HA
          simp only [sawmilllaw05_WireReads.j2] at H
          replace H := Option.bind_eq_some_iff.mp H
          obtain ⟨t383, A990, H⟩ := H
          replace H : (if t383 = true then ((wire_Reader_Left.f t360 t361 t362).bind fun bt384 => ((sawmillref05_Left.f x351000_17 x351001_17 x351002_17).bind fun t388 => (if bt384.1 = t388 then ((wire_Reader_Err.f bt384.2.1 bt384.2.2.1 bt384.2.2.2).bind fun bt389 => (if bt389.1 = x351002_17 then ((wire_Reader_End.f bt389.2.1 bt389.2.2.1 bt389.2.2.2).bind fun bt393 => ((sawmillref05_End.f x351000_17 x351001_17 x351002_17).bind fun t397 => (if bt393.1 = t397 then (sawmilllaw05_WireReads.l0 kj17 l1 (wrap64 (x7_2 + 1)) bt393.2.1 bt393.2.2.1 bt393.2.2.2 x351000_17 x351001_17 x351002_17) else (some false)))) else (some false))) else (some false)))) else (some false)) = some r := H
          have A99 := Aside0.mk A990
          clear A990
          by_cases c100 : t383 = true
          ·subst c100
           have H1 : ((wire_Reader_Left.f t360 t361 t362).bind fun bt384 => ((sawmillref05_Left.f x351000_17 x351001_17 x351002_17).bind fun t388 => (if bt384.1 = t388 then ((wire_Reader_Err.f bt384.2.1 bt384.2.2.1 bt384.2.2.2).bind fun bt389 => (if bt389.1 = x351002_17 then ((wire_Reader_End.f bt389.2.1 bt389.2.2.1 bt389.2.2.2).bind fun bt393 => ((sawmillref05_End.f x351000_17 x351001_17 x351002_17).bind fun t397 => (if bt393.1 = t397 then (sawmilllaw05_WireReads.l0 kj17 l1 (wrap64 (x7_2 + 1)) bt393.2.1 bt393.2.2.1 bt393.2.2.2 x351000_17 x351001_17 x351002_17) else (some false)))) else (some false))) else (some false)))) = some r := by rw [if_pos rfl] at H; exact H
           clear H
           have H := H1
           clear H1
           replace H := Option.bind_eq_some_iff.mp H
           obtain ⟨⟨t384, t385, t386, t387⟩, A1010, H⟩ := H
           replace H : ((sawmillref05_Left.f x351000_17 x351001_17 x351002_17).bind fun t388 => (if t384 = t388 then ((wire_Reader_Err.f t385 t386 t387).bind fun bt389 => (if bt389.1 = x351002_17 then ((wire_Reader_End.f bt389.2.1 bt389.2.2.1 bt389.2.2.2).bind fun bt393 => ((sawmillref05_End.f x351000_17 x351001_17 x351002_17).bind fun t397 => (if bt393.1 = t397 then (sawmilllaw05_WireReads.l0 kj17 l1 (wrap64 (x7_2 + 1)) bt393.2.1 bt393.2.2.1 bt393.2.2.2 x351000_17 x351001_17 x351002_17) else (some false)))) else (some false))) else (some false))) = some r := H
           have A101 := Aside0.mk A1010
           clear A1010
           replace H := Option.bind_eq_some_iff.mp H
           obtain ⟨t388, A1020, H⟩ := H
           replace H : (if t384 = t388 then ((wire_Reader_Err.f t385 t386 t387).bind fun bt389 => (if bt389.1 = x351002_17 then ((wire_Reader_End.f bt389.2.1 bt389.2.2.1 bt389.2.2.2).bind fun bt393 => ((sawmillref05_End.f x351000_17 x351001_17 x351002_17).bind fun t397 => (if bt393.1 = t397 then (sawmilllaw05_WireReads.l0 kj17 l1 (wrap64 (x7_2 + 1)) bt393.2.1 bt393.2.2.1 bt393.2.2.2 x351000_17 x351001_17 x351002_17) else (some false)))) else (some false))) else (some false)) = some r := H
           have A102 := Aside0.mk A1020
           clear A1020
           by_cases c103 : t384 = t388
           ·rw [if_pos c103] at H
            have c103b0 : (t384 == t388) = true := beq_iff_eq.mpr c103
            have c103b1 : (t384 != t388) = false := bne_eq_false_iff_eq.mpr c103
            clear c103
            replace H := Option.bind_eq_some_iff.mp H
            obtain ⟨⟨t389, t390, t391, t392⟩, A1040, H⟩ := H
            replace H : (if t389 = x351002_17 then ((wire_Reader_End.f t390 t391 t392).bind fun bt393 => ((sawmillref05_End.f x351000_17 x351001_17 x351002_17).bind fun t397 => (if bt393.1 = t397 then (sawmilllaw05_WireReads.l0 kj17 l1 (wrap64 (x7_2 + 1)) bt393.2.1 bt393.2.2.1 bt393.2.2.2 x351000_17 x351001_17 x351002_17) else (some false)))) else (some false)) = some r := H
            have A104 := Aside0.mk A1040
            clear A1040
            by_cases c105 : t389 = x351002_17
            ·rw [if_pos c105] at H
             have c105b0 : (t389 == x351002_17) = true := beq_iff_eq.mpr c105
             have c105b1 : (t389 != x351002_17) = false := bne_eq_false_iff_eq.mpr c105
             clear c105
             replace H := Option.bind_eq_some_iff.mp H
             obtain ⟨⟨t393, t394, t395, t396⟩, A1060, H⟩ := H
             replace H : ((sawmillref05_End.f x351000_17 x351001_17 x351002_17).bind fun t397 => (if t393 = t397 then (sawmilllaw05_WireReads.l0 kj17 l1 (wrap64 (x7_2 + 1)) t394 t395 t396 x351000_17 x351001_17 x351002_17) else (some false))) = some r := H
             have A106 := Aside0.mk A1060
             clear A1060
             replace H := Option.bind_eq_some_iff.mp H
             obtain ⟨t397, A1070, H⟩ := H
             replace H : (if t393 = t397 then (sawmilllaw05_WireReads.l0 kj17 l1 (wrap64 (x7_2 + 1)) t394 t395 t396 x351000_17 x351001_17 x351002_17) else (some false)) = some r := H
             have A107 := Aside0.mk A1070
             clear A1070
             by_cases c108 : t393 = t397
             ·rw [if_pos c108] at H
              have c108b0 : (t393 == t397) = true := beq_iff_eq.mpr c108
              have c108b1 : (t393 != t397) = false := bne_eq_false_iff_eq.mpr c108
              clear c108
              have H' := Aside0.mk H
              clear H
              try go_wp2
              have n0_ := Aside0.mk (Kd.R_drew HO_364004.out)
              have n1_ := Aside0.mk (Kd.R_drew HO_365004.out)
              have n2_ := Aside0.mk (bD BK350.out)
              have n3_ := Aside0.mk (bD BK352.out)
              have n4_ := Aside0.mk (bD BK363.out)
              have n5_ := Aside0.mk (bD BK364.out)
              have n6_ := Aside0.mk (sD HI346.out)
              have n7_ := Aside0.mk (cD HB.out)
              clear HO_364004
              clear HO_365004
              clear BK350
              clear BK352
              clear BK363
              clear BK364
              clear HI346
              clear HB
              have HO_364004 := n0_
              have HO_365004 := n1_
              have BK350 := n2_
              have BK352 := n3_
              have BK363 := n4_
              have BK364 := n5_
              have HI346 := n6_
              have HB := n7_
              clear n0_ n1_ n2_ n3_ n4_ n5_ n6_ n7_
              obtain ⟨Ao110, co110, eo110⟩ := Kd.R_slice HO_365004.out
              (first | subst eo110 | (injection eo110 with f1_ f2_ f3_; have f4_ := f1_.symm; have f5_ := f3_.symm; clear f1_ f2_ f3_; subst f4_; subst f5_))
              refine start_ (n := 25) (S := fun w' => w'.cell? ⟨gb363, 0, none⟩ = some (.int .u8 t353) ∧ w'.cell? ⟨gb363, 1, none⟩ = some (.int .u64 t354) ∧ w'.cell? ⟨gb363, 2, none⟩ = some (.int .i64 t355) ∧ w'.cell? ⟨gb363, 3, none⟩ = some (.string t356) ∧ w'.cell? ⟨gb363, 4, none⟩ = some (.slice Ao29 t357.length co29) ∧ w'.cell? ⟨gb364, 0, none⟩ = some (.int .u8 ((rd_T32 l1 x7_2).f0)) ∧ w'.cell? ⟨gb364, 1, none⟩ = some (.int .u64 x365001_17) ∧ w'.cell? ⟨gb364, 2, none⟩ = some (.int .i64 x365002_17) ∧ w'.cell? ⟨gb364, 3, none⟩ = some (.string x365003_17) ∧ w'.cell? ⟨gb364, 4, none⟩ = some (.slice Ao110 x365004_17.length co110) ∧ w'.cell? ⟨gb350, 0, none⟩ = some (.string x351000_17) ∧ w'.cell? ⟨gb350, 1, none⟩ = some (.int .i64 x351001_17) ∧ w'.cell? ⟨gb350, 2, none⟩ = some (.int .i64 x351002_17)) (ds := []) Bo18_0 (by kernel_rfl) rfl rfl ⟨(blk_cell BK363.out 0).trans rfl, (blk_cell BK363.out 1).trans rfl, (blk_cell BK363.out 2).trans rfl, (blk_cell BK363.out 3).trans rfl, (blk_cell BK363.out 4).trans rfl, (blk_cell BK364.out 0).trans rfl, (blk_cell BK364.out 1).trans rfl, (blk_cell BK364.out 2).trans rfl, (blk_cell BK364.out 3).trans rfl, (blk_cell BK364.out 4).trans rfl, (blk_cell BK350.out 0).trans rfl, (blk_cell BK350.out 1).trans rfl, (blk_cell BK350.out 2).trans rfl⟩ (fun hHeld => ?_); refine with_tabW sawmilllaw05_WireReads.tab19 sawmilllaw05_WireReads.bits19 (fun HT_ HW_ => ?_)
              generalize wc.drew = w109 at HO_364004 HO_365004 BK350 BK352 BK363 BK364 HI346 HB hHeld ⊢
              refine take_ (i := 0) (N := some 84) (v := ?_) (a' := ?_) Bo18_1 rfl rfl (take_ofW HT_.out HW_.out (by kernel_rfl)) (fun _ _ _ h => h) (Or.inl ⟨by rfl, ?_⟩) hHeld ?_ ?_
              rotate_left
              ·rintro w' ⟨s0, s1, s2, s3, s4, s5, s6, s7, s8, s9, s10, s11, s12⟩
               go_simp
               with_reducible rfl
              rotate_left
              ·simp only [Act.put, List.setIfInBounds_toArray, List.set_cons_zero, List.set_cons_succ, i64_w, i32_w]
               rfl
              refine take_ (i := 1) (N := some 85) (v := ?_) (a' := ?_) Bo18_2 rfl rfl (take_ofW HT_.out HW_.out (by kernel_rfl)) (fun _ _ _ h => h) (Or.inl ⟨by rfl, ?_⟩) hHeld ?_ ?_
              rotate_left
              ·rintro w' ⟨s0, s1, s2, s3, s4, s5, s6, s7, s8, s9, s10, s11, s12⟩
               go_simp
               with_reducible rfl
              rotate_left
              ·simp only [Act.put, List.setIfInBounds_toArray, List.set_cons_zero, List.set_cons_succ, i64_w, i32_w]
               rfl
              refine one_ (i := 2) (N := some 86) Bo18_3 rfl rfl (one_of HT_.out (by kernel_rfl)) (by decide) (fun K hK => ?_)
              refine goes_ Try.func32 (by kernel_rfl) rfl #[.agg #[.int .u8 t353, .int .u64 t354, .int .i64 t355, .string t356, .slice Ao29 t357.length co29], .agg #[.int .u8 ((rd_T32 l1 x7_2).f0), .int .u64 x365001_17, .int .i64 x365002_17, .string x365003_17, .slice Ao110 x365004_17.length co110]] (by rfl) rfl rfl (by (try simp only [List.map_toArray, List.map_cons, List.map_nil]); first | done | rfl | (simp only [List.length_drop, List.length_take]; rfl)) ?_
              with_reducible refine (sawmilllaw05_same.calls kj17 t353 t354 t355 t356 _ _ t357 ((rd_T32 l1 x7_2).f0) x365001_17 x365002_17 x365003_17 _ _ x365004_17 true _ ?side1 ?side2 ?side3 ?side4 A99.out).mono ?_
              (case side1 => repeat (first | exact (Kd.R_reads' HO_364004.out).2.2 | (with_reducible refine Kd.C_alloc ?_ _) | (with_reducible refine Kd.C_drewN ?_ _) | (with_reducible refine Kd.C_drew ?_)))
              (case side2 => exact (Kd.R_reads' HO_364004.out).2.1)
              (case side3 => repeat (first | exact (Kd.R_reads' HO_365004.out).2.2 | (with_reducible refine Kd.C_alloc ?_ _) | (with_reducible refine Kd.C_drewN ?_ _) | (with_reducible refine Kd.C_drew ?_)))
              (case side4 => exact (Kd.R_reads' HO_365004.out).2.1)
              rintro e w111 ⟨rfl, hb⟩
              refine ⟨_, rfl, ?_⟩
              have n0_ := Aside0.mk (Kd.R_below (by (with_reducible repeat (first | apply Kd.R_alloc | apply Kd.R_drewN | apply Kd.R_drew)); exact HO_364004.out) hb)
              have n1_ := Aside0.mk (Kd.R_below (by (with_reducible repeat (first | apply Kd.R_alloc | apply Kd.R_drewN | apply Kd.R_drew)); exact HO_365004.out) hb)
              have n2_ := Aside0.mk (blk_below (Up.blk BK350.out) hb)
              have n3_ := Aside0.mk (blk_below (Up.blk BK352.out) hb)
              have n4_ := Aside0.mk (blk_below (Up.blk BK363.out) hb)
              have n5_ := Aside0.mk (blk_below (Up.blk BK364.out) hb)
              have n6_ := Aside0.mk (IsS73.below (by repeat (first | (with_reducible first | exact HI346.out | apply sA | apply sN | apply sD | apply s0 | apply s1 | apply s2 | refine sF ?_ NB346_350.out _ | refine sF ?_ NB346_352.out _ | refine sF ?_ NB346_363.out _ | refine sF ?_ NB346_364.out _) | exact HI346.out)) hb)
              have n7_ := Aside0.mk (below_step (by repeat (first | (with_reducible first | exact HB.out | apply cA | apply cN | apply cD | refine cS ?_ (IsS73.ge HI346.out) | refine cS ?_ GE350.out | refine cS ?_ GE352.out | refine cS ?_ GE363.out | refine cS ?_ GE364.out) | exact HB.out)) hb)
              clear HO_364004
              clear HO_365004
              clear BK350
              clear BK352
              clear BK363
              clear BK364
              clear HI346
              clear HB
              have HO_364004 := n0_
              have HO_365004 := n1_
              have BK350 := n2_
              have BK352 := n3_
              have BK363 := n4_
              have BK364 := n5_
              have HI346 := n6_
              have HB := n7_
              clear n0_ n1_ n2_ n3_ n4_ n5_ n6_ n7_
              (try clear hb)
              (try clear hb2)
              (try clear hk)
              (try clear hi)
              refine hK.out _ _ ⟨(blk_cell BK363.out 0).trans rfl, (blk_cell BK363.out 1).trans rfl, (blk_cell BK363.out 2).trans rfl, (blk_cell BK363.out 3).trans rfl, (blk_cell BK363.out 4).trans rfl, (blk_cell BK364.out 0).trans rfl, (blk_cell BK364.out 1).trans rfl, (blk_cell BK364.out 2).trans rfl, (blk_cell BK364.out 3).trans rfl, (blk_cell BK364.out 4).trans rfl, (blk_cell BK350.out 0).trans rfl, (blk_cell BK350.out 1).trans rfl, (blk_cell BK350.out 2).trans rfl⟩ (fun hHeld => ?_)
              clear hK K
              refine norm_ (a' := ?_) ?_ ?_
              rotate_left
              ·show Act.put _ (some 86) _ = _
               simp only [Act.put, List.setIfInBounds_toArray, List.set_cons_zero, List.set_cons_succ, i64_w, i32_w]
               rfl
              refine pure_ (i := 3) (N := some 87) (v := ?_) (a' := ?_) Bo18_4 rfl rfl (any_of HT_.out (by kernel_rfl)) (fun _ _ _ h => h) (Or.inl ⟨by rfl, ?_⟩) ?_ ?_
              rotate_left
              ·intro w'
               go_simp
               with_reducible rfl
              rotate_left
              ·simp only [Act.put, List.setIfInBounds_toArray, List.set_cons_zero, List.set_cons_succ, i64_w, i32_w]
               rfl
              refine pure_ (i := 4) (N := some 88) (v := ?_) (a' := ?_) Bo18_5 rfl rfl (any_of HT_.out (by kernel_rfl)) (fun _ _ _ h => h) (Or.inl ⟨by rfl, ?_⟩) ?_ ?_
              rotate_left
              ·intro w'
               go_simp
               with_reducible rfl
              rotate_left
              ·simp only [Act.put, List.setIfInBounds_toArray, List.set_cons_zero, List.set_cons_succ, i64_w, i32_w]
               rfl
              refine pure_ (i := 5) (N := some 89) (v := ?_) (a' := ?_) Bo18_6 rfl rfl (any_of HT_.out (by kernel_rfl)) (fun _ _ _ h => h) (Or.inl ⟨by rfl, ?_⟩) ?_ ?_
              rotate_left
              ·intro w'
               go_simp
               with_reducible rfl
              rotate_left
              ·simp only [Act.put, List.setIfInBounds_toArray, List.set_cons_zero, List.set_cons_succ, i64_w, i32_w]
               rfl
              refine take_ (i := 7) (N := some 91) (v := ?_) (a' := ?_) Bo18_7 rfl rfl (take_ofW HT_.out HW_.out (by kernel_rfl)) (fun _ _ _ h => h) (Or.inl ⟨by rfl, ?_⟩) hHeld ?_ ?_
              rotate_left
              ·rintro w' ⟨s0, s1, s2, s3, s4, s5, s6, s7, s8, s9, s10, s11, s12⟩
               go_simp
               with_reducible rfl
              rotate_left
              ·simp only [Act.put, List.setIfInBounds_toArray, List.set_cons_zero, List.set_cons_succ, i64_w, i32_w]
               rfl
              refine one_ (i := 6) (N := some 90) Bo18_8 rfl rfl (one_of HT_.out (by kernel_rfl)) (by decide) (fun K hK => ?_)
              refine goes_ Try.func24 (by kernel_rfl) rfl #[.pointer (some ⟨g346, 0, none⟩)] (by rfl) rfl rfl (by (try simp only [List.map_toArray, List.map_cons, List.map_nil]); first | done | rfl | (simp only [List.length_drop, List.length_take]; rfl)) ?_
              with_reducible refine (wire_Reader_Left.calls g346 t360 t361 t362 t384 t385 t386 t387 w _ ?side1 ?side2 A101.out).mono ?_
              (case side1 => repeat (first | (with_reducible first | exact HI346.out | apply sA | apply sN | apply sD | apply s0 | apply s1 | apply s2 | refine sF ?_ NB346_350.out _ | refine sF ?_ NB346_352.out _ | refine sF ?_ NB346_363.out _ | refine sF ?_ NB346_364.out _) | exact HI346.out))
              (case side2 => repeat (first | (with_reducible first | exact HB.out | apply cA | apply cN | apply cD | refine cS ?_ (IsS73.ge HI346.out) | refine cS ?_ GE350.out | refine cS ?_ GE352.out | refine cS ?_ GE363.out | refine cS ?_ GE364.out) | exact HB.out))
              rintro e w112 ⟨rfl, hi, hb, hk⟩
              refine ⟨_, rfl, ?_⟩
              have n0_ := Aside0.mk (Kd.R_mono (Kd.R_keep (IsS73.apart (show IsS73 w _ g346 t360 t361 t362 from by repeat (first | (with_reducible first | exact HI346.out | apply sA | apply sN | apply sD | apply s0 | apply s1 | apply s2 | refine sF ?_ NB346_350.out _ | refine sF ?_ NB346_352.out _ | refine sF ?_ NB346_363.out _ | refine sF ?_ NB346_364.out _) | exact HI346.out)) (by (with_reducible repeat (first | apply Kd.R_alloc | apply Kd.R_drewN | apply Kd.R_drew)); exact HO_364004.out) (by decide)) hk (fun _ h => h.2)) (fun _ h => h.1))
              have n1_ := Aside0.mk (Kd.R_mono (Kd.R_keep (IsS73.apart (show IsS73 w _ g346 t360 t361 t362 from by repeat (first | (with_reducible first | exact HI346.out | apply sA | apply sN | apply sD | apply s0 | apply s1 | apply s2 | refine sF ?_ NB346_350.out _ | refine sF ?_ NB346_352.out _ | refine sF ?_ NB346_363.out _ | refine sF ?_ NB346_364.out _) | exact HI346.out)) (by (with_reducible repeat (first | apply Kd.R_alloc | apply Kd.R_drewN | apply Kd.R_drew)); exact HO_365004.out) (by decide)) hk (fun _ h => h.2)) (fun _ h => h.1))
              have n2_ := Aside0.mk (KeepBut.blk hk (g' := gb350) (o := .cells #[.string x351000_17, .int .i64 x351001_17, .int .i64 x351002_17] 42 (0, 0)) (Up.blk BK350.out) NB350_346.out (by simp))
              have n3_ := Aside0.mk (KeepBut.blk hk (g' := gb352) (o := .cells #[.int .u8 ((rd_T32 l1 x7_2).f0), .int .i64 ((rd_T32 l1 x7_2).f1), .int .i64 ((rd_T32 l1 x7_2).f2), .int .i64 ((rd_T32 l1 x7_2).f3)] 32 (0, 0)) (Up.blk BK352.out) NB352_346.out (by simp))
              have n4_ := Aside0.mk (KeepBut.blk hk (g' := gb363) (o := .cells #[.int .u8 t353, .int .u64 t354, .int .i64 t355, .string t356, .slice Ao29 t357.length co29] 45 (0, 0)) (Up.blk BK363.out) NB363_346.out (by simp))
              have n5_ := Aside0.mk (KeepBut.blk hk (g' := gb364) (o := .cells #[.int .u8 ((rd_T32 l1 x7_2).f0), .int .u64 x365001_17, .int .i64 x365002_17, .string x365003_17, .slice Ao110 x365004_17.length co110] 45 (0, 0)) (Up.blk BK364.out) NB364_346.out (by simp))
              have n6_ := Aside0.mk (hb)
              have n7_ := Aside0.mk (hi)
              clear HO_364004
              clear HO_365004
              clear BK350
              clear BK352
              clear BK363
              clear BK364
              clear HB
              clear HI346
              have HO_364004 := n0_
              have HO_365004 := n1_
              have BK350 := n2_
              have BK352 := n3_
              have BK363 := n4_
              have BK364 := n5_
              have HB := n6_
              have HI346 := n7_
              clear n0_ n1_ n2_ n3_ n4_ n5_ n6_ n7_
              (try clear hb)
              (try clear hb2)
              (try clear hk)
              (try clear hi)
              refine hK.out _ _ ⟨(blk_cell BK363.out 0).trans rfl, (blk_cell BK363.out 1).trans rfl, (blk_cell BK363.out 2).trans rfl, (blk_cell BK363.out 3).trans rfl, (blk_cell BK363.out 4).trans rfl, (blk_cell BK364.out 0).trans rfl, (blk_cell BK364.out 1).trans rfl, (blk_cell BK364.out 2).trans rfl, (blk_cell BK364.out 3).trans rfl, (blk_cell BK364.out 4).trans rfl, (blk_cell BK350.out 0).trans rfl, (blk_cell BK350.out 1).trans rfl, (blk_cell BK350.out 2).trans rfl⟩ (fun hHeld => ?_)
              clear hK K
              refine norm_ (a' := ?_) ?_ ?_
              rotate_left
              ·show Act.put _ (some 90) _ = _
               simp only [Act.put, List.setIfInBounds_toArray, List.set_cons_zero, List.set_cons_succ, i64_w, i32_w]
               rfl
              refine one_ (i := 8) (N := some 92) Bo18_9 rfl rfl (one_of HT_.out (by kernel_rfl)) (by decide) (fun K hK => ?_)
              refine goes_ Try.func33 (by kernel_rfl) rfl #[.agg #[.string x351000_17, .int .i64 x351001_17, .int .i64 x351002_17]] (by rfl) rfl rfl (by (try simp only [List.map_toArray, List.map_cons, List.map_nil]); first | done | rfl | (simp only [List.length_drop, List.length_take]; rfl)) ?_
              with_reducible refine (sawmillref05_Left.calls x351000_17 x351001_17 x351002_17 t388 _ A102.out).mono ?_
              rintro e w113 ⟨rfl, hb⟩
              refine ⟨_, rfl, ?_⟩
              have n0_ := Aside0.mk (Kd.R_below (by (with_reducible repeat (first | apply Kd.R_alloc | apply Kd.R_drewN | apply Kd.R_drew)); exact HO_364004.out) hb)
              have n1_ := Aside0.mk (Kd.R_below (by (with_reducible repeat (first | apply Kd.R_alloc | apply Kd.R_drewN | apply Kd.R_drew)); exact HO_365004.out) hb)
              have n2_ := Aside0.mk (blk_below (Up.blk BK350.out) hb)
              have n3_ := Aside0.mk (blk_below (Up.blk BK352.out) hb)
              have n4_ := Aside0.mk (blk_below (Up.blk BK363.out) hb)
              have n5_ := Aside0.mk (blk_below (Up.blk BK364.out) hb)
              have n6_ := Aside0.mk (IsS73.below (by repeat (first | (with_reducible first | exact HI346.out | apply sA | apply sN | apply sD | apply s0 | apply s1 | apply s2 | refine sF ?_ NB346_350.out _ | refine sF ?_ NB346_352.out _ | refine sF ?_ NB346_363.out _ | refine sF ?_ NB346_364.out _) | exact HI346.out)) hb)
              have n7_ := Aside0.mk (below_step (by repeat (first | (with_reducible first | exact HB.out | apply cA | apply cN | apply cD | refine cS ?_ (IsS73.ge HI346.out) | refine cS ?_ GE350.out | refine cS ?_ GE352.out | refine cS ?_ GE363.out | refine cS ?_ GE364.out) | exact HB.out)) hb)
              clear HO_364004
              clear HO_365004
              clear BK350
              clear BK352
              clear BK363
              clear BK364
              clear HI346
              clear HB
              have HO_364004 := n0_
              have HO_365004 := n1_
              have BK350 := n2_
              have BK352 := n3_
              have BK363 := n4_
              have BK364 := n5_
              have HI346 := n6_
              have HB := n7_
              clear n0_ n1_ n2_ n3_ n4_ n5_ n6_ n7_
              (try clear hb)
              (try clear hb2)
              (try clear hk)
              (try clear hi)
              refine hK.out _ _ ⟨(blk_cell BK363.out 0).trans rfl, (blk_cell BK363.out 1).trans rfl, (blk_cell BK363.out 2).trans rfl, (blk_cell BK363.out 3).trans rfl, (blk_cell BK363.out 4).trans rfl, (blk_cell BK364.out 0).trans rfl, (blk_cell BK364.out 1).trans rfl, (blk_cell BK364.out 2).trans rfl, (blk_cell BK364.out 3).trans rfl, (blk_cell BK364.out 4).trans rfl, (blk_cell BK350.out 0).trans rfl, (blk_cell BK350.out 1).trans rfl, (blk_cell BK350.out 2).trans rfl⟩ (fun hHeld => ?_)
              clear hK K
              refine norm_ (a' := ?_) ?_ ?_
              rotate_left
              ·show Act.put _ (some 92) _ = _
               simp only [Act.put, List.setIfInBounds_toArray, List.set_cons_zero, List.set_cons_succ, i64_w, i32_w]
               rfl
              refine pure_ (i := 9) (N := some 93) (v := ?_) (a' := ?_) Bo18_10 rfl rfl (any_of HT_.out (by kernel_rfl)) (fun _ _ _ h => h) (Or.inl ⟨by rfl, ?_⟩) ?_ ?_
              rotate_left
              ·intro w'
               go_simp
               with_reducible rfl
              rotate_left
              ·simp only [Act.put, List.setIfInBounds_toArray, List.set_cons_zero, List.set_cons_succ, i64_w, i32_w]
               rfl
              refine pure_ (i := 10) (N := some 94) (v := ?_) (a' := ?_) Bo18_11 rfl rfl (any_of HT_.out (by kernel_rfl)) (fun _ _ _ h => h) (Or.inl ⟨by rfl, ?_⟩) ?_ ?_
              rotate_left
              ·intro w'
               go_simp
               with_reducible rfl
              rotate_left
              ·simp only [Act.put, List.setIfInBounds_toArray, List.set_cons_zero, List.set_cons_succ, i64_w, i32_w]
               rfl
              refine pure_ (i := 11) (N := some 95) (v := ?_) (a' := ?_) Bo18_12 rfl rfl (any_of HT_.out (by kernel_rfl)) (fun _ _ _ h => h) (Or.inl ⟨by rfl, ?_⟩) ?_ ?_
              rotate_left
              ·intro w'
               go_simp
               with_reducible rfl
              rotate_left
              ·simp only [Act.put, List.setIfInBounds_toArray, List.set_cons_zero, List.set_cons_succ, i64_w, i32_w]
               rfl
              refine pure_ (i := 12) (N := some 96) (v := ?_) (a' := ?_) Bo18_13 rfl rfl (any_of HT_.out (by kernel_rfl)) (fun _ _ _ h => h) (Or.inl ⟨by rfl, ?_⟩) ?_ ?_
              rotate_left
              ·intro w'
               go_simp
               with_reducible rfl
              rotate_left
              ·simp only [Act.put, List.setIfInBounds_toArray, List.set_cons_zero, List.set_cons_succ, i64_w, i32_w]
               rfl
              refine pure_ (i := 14) (N := some 98) (v := ?_) (a' := ?_) Bo18_14 rfl rfl (any_of HT_.out (by kernel_rfl)) (fun _ _ _ h => h) (Or.inl ⟨by rfl, ?_⟩) ?_ ?_
              rotate_left
              ·intro w'
               go_simp
               with_reducible rfl
              rotate_left
              ·simp only [Act.put, List.setIfInBounds_toArray, List.set_cons_zero, List.set_cons_succ, i64_w, i32_w]
               rfl
              refine take_ (i := 15) (N := some 99) (v := ?_) (a' := ?_) Bo18_15 rfl rfl (take_ofW HT_.out HW_.out (by kernel_rfl)) (fun _ _ _ h => h) (Or.inl ⟨by rfl, ?_⟩) hHeld ?_ ?_
              rotate_left
              ·rintro w' ⟨s0, s1, s2, s3, s4, s5, s6, s7, s8, s9, s10, s11, s12⟩
               go_simp
               with_reducible rfl
              rotate_left
              ·simp only [Act.put, List.setIfInBounds_toArray, List.set_cons_zero, List.set_cons_succ, i64_w, i32_w]
               rfl
              refine one_ (i := 13) (N := some 97) Bo18_16 rfl rfl (one_of HT_.out (by kernel_rfl)) (by decide) (fun K hK => ?_)
              refine goes_ Try.func34 (by kernel_rfl) rfl #[.pointer (some ⟨g346, 0, none⟩)] (by rfl) rfl rfl (by (try simp only [List.map_toArray, List.map_cons, List.map_nil]); first | done | rfl | (simp only [List.length_drop, List.length_take]; rfl)) ?_
              with_reducible refine (wire_Reader_Err.calls g346 t385 t386 t387 t389 t390 t391 t392 w _ ?side1 ?side2 A104.out).mono ?_
              (case side1 => repeat (first | (with_reducible first | exact HI346.out | apply sA | apply sN | apply sD | apply s0 | apply s1 | apply s2 | refine sF ?_ NB346_350.out _ | refine sF ?_ NB346_352.out _ | refine sF ?_ NB346_363.out _ | refine sF ?_ NB346_364.out _) | exact HI346.out))
              (case side2 => repeat (first | (with_reducible first | exact HB.out | apply cA | apply cN | apply cD | refine cS ?_ (IsS73.ge HI346.out) | refine cS ?_ GE350.out | refine cS ?_ GE352.out | refine cS ?_ GE363.out | refine cS ?_ GE364.out) | exact HB.out))
              rintro e w114 ⟨rfl, hi, hb, hk⟩
              refine ⟨_, rfl, ?_⟩
              have n0_ := Aside0.mk (Kd.R_mono (Kd.R_keep (IsS73.apart (show IsS73 w _ g346 t385 t386 t387 from by repeat (first | (with_reducible first | exact HI346.out | apply sA | apply sN | apply sD | apply s0 | apply s1 | apply s2 | refine sF ?_ NB346_350.out _ | refine sF ?_ NB346_352.out _ | refine sF ?_ NB346_363.out _ | refine sF ?_ NB346_364.out _) | exact HI346.out)) (by (with_reducible repeat (first | apply Kd.R_alloc | apply Kd.R_drewN | apply Kd.R_drew)); exact HO_364004.out) (by decide)) hk (fun _ h => h.2)) (fun _ h => h.1))
              have n1_ := Aside0.mk (Kd.R_mono (Kd.R_keep (IsS73.apart (show IsS73 w _ g346 t385 t386 t387 from by repeat (first | (with_reducible first | exact HI346.out | apply sA | apply sN | apply sD | apply s0 | apply s1 | apply s2 | refine sF ?_ NB346_350.out _ | refine sF ?_ NB346_352.out _ | refine sF ?_ NB346_363.out _ | refine sF ?_ NB346_364.out _) | exact HI346.out)) (by (with_reducible repeat (first | apply Kd.R_alloc | apply Kd.R_drewN | apply Kd.R_drew)); exact HO_365004.out) (by decide)) hk (fun _ h => h.2)) (fun _ h => h.1))
              have n2_ := Aside0.mk (KeepBut.blk hk (g' := gb350) (o := .cells #[.string x351000_17, .int .i64 x351001_17, .int .i64 x351002_17] 42 (0, 0)) (Up.blk BK350.out) NB350_346.out (by simp))
              have n3_ := Aside0.mk (KeepBut.blk hk (g' := gb352) (o := .cells #[.int .u8 ((rd_T32 l1 x7_2).f0), .int .i64 ((rd_T32 l1 x7_2).f1), .int .i64 ((rd_T32 l1 x7_2).f2), .int .i64 ((rd_T32 l1 x7_2).f3)] 32 (0, 0)) (Up.blk BK352.out) NB352_346.out (by simp))
              have n4_ := Aside0.mk (KeepBut.blk hk (g' := gb363) (o := .cells #[.int .u8 t353, .int .u64 t354, .int .i64 t355, .string t356, .slice Ao29 t357.length co29] 45 (0, 0)) (Up.blk BK363.out) NB363_346.out (by simp))
              have n5_ := Aside0.mk (KeepBut.blk hk (g' := gb364) (o := .cells #[.int .u8 ((rd_T32 l1 x7_2).f0), .int .u64 x365001_17, .int .i64 x365002_17, .string x365003_17, .slice Ao110 x365004_17.length co110] 45 (0, 0)) (Up.blk BK364.out) NB364_346.out (by simp))
              have n6_ := Aside0.mk (hb)
              have n7_ := Aside0.mk (hi)
              clear HO_364004
              clear HO_365004
              clear BK350
              clear BK352
              clear BK363
              clear BK364
              clear HB
              clear HI346
              have HO_364004 := n0_
              have HO_365004 := n1_
              have BK350 := n2_
              have BK352 := n3_
              have BK363 := n4_
              have BK364 := n5_
              have HB := n6_
              have HI346 := n7_
              clear n0_ n1_ n2_ n3_ n4_ n5_ n6_ n7_
              (try clear hb)
              (try clear hb2)
              (try clear hk)
              (try clear hi)
              refine hK.out _ _ ⟨(blk_cell BK363.out 0).trans rfl, (blk_cell BK363.out 1).trans rfl, (blk_cell BK363.out 2).trans rfl, (blk_cell BK363.out 3).trans rfl, (blk_cell BK363.out 4).trans rfl, (blk_cell BK364.out 0).trans rfl, (blk_cell BK364.out 1).trans rfl, (blk_cell BK364.out 2).trans rfl, (blk_cell BK364.out 3).trans rfl, (blk_cell BK364.out 4).trans rfl, (blk_cell BK350.out 0).trans rfl, (blk_cell BK350.out 1).trans rfl, (blk_cell BK350.out 2).trans rfl⟩ (fun hHeld => ?_)
              clear hK K
              refine norm_ (a' := ?_) ?_ ?_
              rotate_left
              ·show Act.put _ (some 97) _ = _
               simp only [Act.put, List.setIfInBounds_toArray, List.set_cons_zero, List.set_cons_succ, i64_w, i32_w]
               rfl
              refine pure_ (i := 16) (N := some 100) (v := ?_) (a' := ?_) Bo18_17 rfl rfl (any_of HT_.out (by kernel_rfl)) (fun _ _ _ h => h) (Or.inl ⟨by rfl, ?_⟩) ?_ ?_
              rotate_left
              ·intro w'
               go_simp
               with_reducible rfl
              rotate_left
              ·simp only [Act.put, List.setIfInBounds_toArray, List.set_cons_zero, List.set_cons_succ, i64_w, i32_w]
               rfl
              refine pure_ (i := 17) (N := some 101) (v := ?_) (a' := ?_) Bo18_18 rfl rfl (any_of HT_.out (by kernel_rfl)) (fun _ _ _ h => h) (Or.inl ⟨by rfl, ?_⟩) ?_ ?_
              rotate_left
              ·intro w'
               go_simp
               with_reducible rfl
              rotate_left
              ·simp only [Act.put, List.setIfInBounds_toArray, List.set_cons_zero, List.set_cons_succ, i64_w, i32_w]
               rfl
              refine pure_ (i := 18) (N := some 102) (v := ?_) (a' := ?_) Bo18_19 rfl rfl (any_of HT_.out (by kernel_rfl)) (fun _ _ _ h => h) (Or.inl ⟨by rfl, ?_⟩) ?_ ?_
              rotate_left
              ·intro w'
               go_simp
               with_reducible rfl
              rotate_left
              ·simp only [Act.put, List.setIfInBounds_toArray, List.set_cons_zero, List.set_cons_succ, i64_w, i32_w]
               rfl
              refine pure_ (i := 19) (N := some 103) (v := ?_) (a' := ?_) Bo18_20 rfl rfl (any_of HT_.out (by kernel_rfl)) (fun _ _ _ h => h) (Or.inl ⟨by rfl, ?_⟩) ?_ ?_
              rotate_left
              ·intro w'
               go_simp
               with_reducible rfl
              rotate_left
              ·simp only [Act.put, List.setIfInBounds_toArray, List.set_cons_zero, List.set_cons_succ, i64_w, i32_w]
               rfl
              refine take_ (i := 21) (N := some 105) (v := ?_) (a' := ?_) Bo18_21 rfl rfl (take_ofW HT_.out HW_.out (by kernel_rfl)) (fun _ _ _ h => h) (Or.inl ⟨by rfl, ?_⟩) hHeld ?_ ?_
              rotate_left
              ·rintro w' ⟨s0, s1, s2, s3, s4, s5, s6, s7, s8, s9, s10, s11, s12⟩
               go_simp
               with_reducible rfl
              rotate_left
              ·simp only [Act.put, List.setIfInBounds_toArray, List.set_cons_zero, List.set_cons_succ, i64_w, i32_w]
               rfl
              refine one_ (i := 20) (N := some 104) Bo18_22 rfl rfl (one_of HT_.out (by kernel_rfl)) (by decide) (fun K hK => ?_)
              refine goes_ Try.func23 (by kernel_rfl) rfl #[.pointer (some ⟨g346, 0, none⟩)] (by rfl) rfl rfl (by (try simp only [List.map_toArray, List.map_cons, List.map_nil]); first | done | rfl | (simp only [List.length_drop, List.length_take]; rfl)) ?_
              with_reducible refine (wire_Reader_End.calls g346 t390 t391 t392 t393 t394 t395 t396 w _ ?side1 ?side2 A106.out).mono ?_
              (case side1 => repeat (first | (with_reducible first | exact HI346.out | apply sA | apply sN | apply sD | apply s0 | apply s1 | apply s2 | refine sF ?_ NB346_350.out _ | refine sF ?_ NB346_352.out _ | refine sF ?_ NB346_363.out _ | refine sF ?_ NB346_364.out _) | exact HI346.out))
              (case side2 => repeat (first | (with_reducible first | exact HB.out | apply cA | apply cN | apply cD | refine cS ?_ (IsS73.ge HI346.out) | refine cS ?_ GE350.out | refine cS ?_ GE352.out | refine cS ?_ GE363.out | refine cS ?_ GE364.out) | exact HB.out))
              rintro e w115 ⟨rfl, hi, hb, hk⟩
              refine ⟨_, rfl, ?_⟩
              have n0_ := Aside0.mk (Kd.R_mono (Kd.R_keep (IsS73.apart (show IsS73 w _ g346 t390 t391 t392 from by repeat (first | (with_reducible first | exact HI346.out | apply sA | apply sN | apply sD | apply s0 | apply s1 | apply s2 | refine sF ?_ NB346_350.out _ | refine sF ?_ NB346_352.out _ | refine sF ?_ NB346_363.out _ | refine sF ?_ NB346_364.out _) | exact HI346.out)) (by (with_reducible repeat (first | apply Kd.R_alloc | apply Kd.R_drewN | apply Kd.R_drew)); exact HO_364004.out) (by decide)) hk (fun _ h => h.2)) (fun _ h => h.1))
              have n1_ := Aside0.mk (Kd.R_mono (Kd.R_keep (IsS73.apart (show IsS73 w _ g346 t390 t391 t392 from by repeat (first | (with_reducible first | exact HI346.out | apply sA | apply sN | apply sD | apply s0 | apply s1 | apply s2 | refine sF ?_ NB346_350.out _ | refine sF ?_ NB346_352.out _ | refine sF ?_ NB346_363.out _ | refine sF ?_ NB346_364.out _) | exact HI346.out)) (by (with_reducible repeat (first | apply Kd.R_alloc | apply Kd.R_drewN | apply Kd.R_drew)); exact HO_365004.out) (by decide)) hk (fun _ h => h.2)) (fun _ h => h.1))
              have n2_ := Aside0.mk (KeepBut.blk hk (g' := gb350) (o := .cells #[.string x351000_17, .int .i64 x351001_17, .int .i64 x351002_17] 42 (0, 0)) (Up.blk BK350.out) NB350_346.out (by simp))
              have n3_ := Aside0.mk (KeepBut.blk hk (g' := gb352) (o := .cells #[.int .u8 ((rd_T32 l1 x7_2).f0), .int .i64 ((rd_T32 l1 x7_2).f1), .int .i64 ((rd_T32 l1 x7_2).f2), .int .i64 ((rd_T32 l1 x7_2).f3)] 32 (0, 0)) (Up.blk BK352.out) NB352_346.out (by simp))
              have n4_ := Aside0.mk (KeepBut.blk hk (g' := gb363) (o := .cells #[.int .u8 t353, .int .u64 t354, .int .i64 t355, .string t356, .slice Ao29 t357.length co29] 45 (0, 0)) (Up.blk BK363.out) NB363_346.out (by simp))
              have n5_ := Aside0.mk (KeepBut.blk hk (g' := gb364) (o := .cells #[.int .u8 ((rd_T32 l1 x7_2).f0), .int .u64 x365001_17, .int .i64 x365002_17, .string x365003_17, .slice Ao110 x365004_17.length co110] 45 (0, 0)) (Up.blk BK364.out) NB364_346.out (by simp))
              have n6_ := Aside0.mk (hb)
              have n7_ := Aside0.mk (hi)
              clear HO_364004
              clear HO_365004
              clear BK350
              clear BK352
              clear BK363
              clear BK364
              clear HB
              clear HI346
              have HO_364004 := n0_
              have HO_365004 := n1_
              have BK350 := n2_
              have BK352 := n3_
              have BK363 := n4_
              have BK364 := n5_
              have HB := n6_
              have HI346 := n7_
              clear n0_ n1_ n2_ n3_ n4_ n5_ n6_ n7_
              (try clear hb)
              (try clear hb2)
              (try clear hk)
              (try clear hi)
              refine hK.out _ _ ⟨(blk_cell BK363.out 0).trans rfl, (blk_cell BK363.out 1).trans rfl, (blk_cell BK363.out 2).trans rfl, (blk_cell BK363.out 3).trans rfl, (blk_cell BK363.out 4).trans rfl, (blk_cell BK364.out 0).trans rfl, (blk_cell BK364.out 1).trans rfl, (blk_cell BK364.out 2).trans rfl, (blk_cell BK364.out 3).trans rfl, (blk_cell BK364.out 4).trans rfl, (blk_cell BK350.out 0).trans rfl, (blk_cell BK350.out 1).trans rfl, (blk_cell BK350.out 2).trans rfl⟩ (fun hHeld => ?_)
              clear hK K
              refine norm_ (a' := ?_) ?_ ?_
              rotate_left
              ·show Act.put _ (some 104) _ = _
               simp only [Act.put, List.setIfInBounds_toArray, List.set_cons_zero, List.set_cons_succ, i64_w, i32_w]
               rfl
              refine one_ (i := 22) (N := some 106) Bo18_23 rfl rfl (one_of HT_.out (by kernel_rfl)) (by decide) (fun K hK => ?_)
              refine goes_ Try.func35 (by kernel_rfl) rfl #[.agg #[.string x351000_17, .int .i64 x351001_17, .int .i64 x351002_17]] (by rfl) rfl rfl (by (try simp only [List.map_toArray, List.map_cons, List.map_nil]); first | done | rfl | (simp only [List.length_drop, List.length_take]; rfl)) ?_
              with_reducible refine (sawmillref05_End.calls x351000_17 x351001_17 x351002_17 t397 _ A107.out).mono ?_
              rintro e w116 ⟨rfl, hb⟩
              refine ⟨_, rfl, ?_⟩
              have n0_ := Aside0.mk (Kd.R_below (by (with_reducible repeat (first | apply Kd.R_alloc | apply Kd.R_drewN | apply Kd.R_drew)); exact HO_364004.out) hb)
              have n1_ := Aside0.mk (Kd.R_below (by (with_reducible repeat (first | apply Kd.R_alloc | apply Kd.R_drewN | apply Kd.R_drew)); exact HO_365004.out) hb)
              have n2_ := Aside0.mk (blk_below (Up.blk BK350.out) hb)
              have n3_ := Aside0.mk (blk_below (Up.blk BK352.out) hb)
              have n4_ := Aside0.mk (blk_below (Up.blk BK363.out) hb)
              have n5_ := Aside0.mk (blk_below (Up.blk BK364.out) hb)
              have n6_ := Aside0.mk (IsS73.below (by repeat (first | (with_reducible first | exact HI346.out | apply sA | apply sN | apply sD | apply s0 | apply s1 | apply s2 | refine sF ?_ NB346_350.out _ | refine sF ?_ NB346_352.out _ | refine sF ?_ NB346_363.out _ | refine sF ?_ NB346_364.out _) | exact HI346.out)) hb)
              have n7_ := Aside0.mk (below_step (by repeat (first | (with_reducible first | exact HB.out | apply cA | apply cN | apply cD | refine cS ?_ (IsS73.ge HI346.out) | refine cS ?_ GE350.out | refine cS ?_ GE352.out | refine cS ?_ GE363.out | refine cS ?_ GE364.out) | exact HB.out)) hb)
              clear HO_364004
              clear HO_365004
              clear BK350
              clear BK352
              clear BK363
              clear BK364
              clear HI346
              clear HB
              have HO_364004 := n0_
              have HO_365004 := n1_
              have BK350 := n2_
              have BK352 := n3_
              have BK363 := n4_
              have BK364 := n5_
              have HI346 := n6_
              have HB := n7_
              clear n0_ n1_ n2_ n3_ n4_ n5_ n6_ n7_
              (try clear hb)
              (try clear hb2)
              (try clear hk)
              (try clear hi)
              refine hK.out _ _ ⟨(blk_cell BK363.out 0).trans rfl, (blk_cell BK363.out 1).trans rfl, (blk_cell BK363.out 2).trans rfl, (blk_cell BK363.out 3).trans rfl, (blk_cell BK363.out 4).trans rfl, (blk_cell BK364.out 0).trans rfl, (blk_cell BK364.out 1).trans rfl, (blk_cell BK364.out 2).trans rfl, (blk_cell BK364.out 3).trans rfl, (blk_cell BK364.out 4).trans rfl, (blk_cell BK350.out 0).trans rfl, (blk_cell BK350.out 1).trans rfl, (blk_cell BK350.out 2).trans rfl⟩ (fun hHeld => ?_)
              clear hK K
              refine norm_ (a' := ?_) ?_ ?_
              rotate_left
              ·show Act.put _ (some 106) _ = _
               simp only [Act.put, List.setIfInBounds_toArray, List.set_cons_zero, List.set_cons_succ, i64_w, i32_w]
               rfl
              refine pure_ (i := 23) (N := some 107) (v := ?_) (a' := ?_) Bo18_24 rfl rfl (any_of HT_.out (by kernel_rfl)) (fun _ _ _ h => h) (Or.inl ⟨by rfl, ?_⟩) ?_ ?_
              rotate_left
              ·intro w'
               go_simp
               with_reducible rfl
              rotate_left
              ·simp only [Act.put, List.setIfInBounds_toArray, List.set_cons_zero, List.set_cons_succ, i64_w, i32_w]
               rfl
              refine pure_ (i := 24) (N := some 108) (v := ?_) (a' := ?_) Bo18_25 rfl rfl (any_of HT_.out (by kernel_rfl)) (fun _ _ _ h => h) (Or.inl ⟨by rfl, ?_⟩) ?_ ?_
              rotate_left
              ·intro w'
               go_simp
               with_reducible rfl
              rotate_left
              ·simp only [Act.put, List.setIfInBounds_toArray, List.set_cons_zero, List.set_cons_succ, i64_w, i32_w]
               rfl
              refine done_ (done_of HT_.out (by kernel_rfl)) ?_
              try go_wp2
              go_roundg kj17
              case measure => have := HJ2.out; have := HK2.out; have := HJ17.out; omega
              case rel => exact ⟨(wrap64 (x7_2 + 1)), (t394), (t395), (t396), (x351000_17), (x351001_17), (x351002_17), (by first | rfl | (simp; done) | (simp [*]; done)), H', ⟨by have := HJ2.out; have := HK2.out; have := HJ17.out; omega⟩, ⟨by (with_reducible repeat (first | refine bN ?_ _ | refine bD ?_ | refine bA ?_ _)); exact BK350.out⟩, ⟨by repeat (first | (with_reducible first | exact HI346.out | apply sA | apply sN | apply sD | apply s0 | apply s1 | apply s2 | refine sF ?_ NB346_350.out _ | refine sF ?_ NB346_352.out _ | refine sF ?_ NB346_363.out _ | refine sF ?_ NB346_364.out _) | exact HI346.out)⟩, ⟨by repeat (first | (with_reducible first | exact HB.out | apply cA | apply cN | apply cD | refine cS ?_ (IsS73.ge HI346.out) | refine cS ?_ GE350.out | refine cS ?_ GE352.out | refine cS ?_ GE363.out | refine cS ?_ GE364.out) | exact HB.out)⟩⟩
             ·rw [if_neg c108] at H
              have c108b0 : (t393 == t397) = false := beq_eq_false_iff_ne.mpr c108
              have c108b1 : (t393 != t397) = true := bne_iff_ne.mpr c108
              obtain rfl := Option.some.inj H
              try go_wp2
              have n0_ := Aside0.mk (Kd.R_drew HO_364004.out)
              have n1_ := Aside0.mk (Kd.R_drew HO_365004.out)
              have n2_ := Aside0.mk (bD BK350.out)
              have n3_ := Aside0.mk (bD BK352.out)
              have n4_ := Aside0.mk (bD BK363.out)
              have n5_ := Aside0.mk (bD BK364.out)
              have n6_ := Aside0.mk (sD HI346.out)
              have n7_ := Aside0.mk (cD HB.out)
              clear HO_364004
              clear HO_365004
              clear BK350
              clear BK352
              clear BK363
              clear BK364
              clear HI346
              clear HB
              have HO_364004 := n0_
              have HO_365004 := n1_
              have BK350 := n2_
              have BK352 := n3_
              have BK363 := n4_
              have BK364 := n5_
              have HI346 := n6_
              have HB := n7_
              clear n0_ n1_ n2_ n3_ n4_ n5_ n6_ n7_
              obtain ⟨Ao118, co118, eo118⟩ := Kd.R_slice HO_365004.out
              (first | subst eo118 | (injection eo118 with f1_ f2_ f3_; have f4_ := f1_.symm; have f5_ := f3_.symm; clear f1_ f2_ f3_; subst f4_; subst f5_))
              refine start_ (n := 25) (S := fun w' => w'.cell? ⟨gb363, 0, none⟩ = some (.int .u8 t353) ∧ w'.cell? ⟨gb363, 1, none⟩ = some (.int .u64 t354) ∧ w'.cell? ⟨gb363, 2, none⟩ = some (.int .i64 t355) ∧ w'.cell? ⟨gb363, 3, none⟩ = some (.string t356) ∧ w'.cell? ⟨gb363, 4, none⟩ = some (.slice Ao29 t357.length co29) ∧ w'.cell? ⟨gb364, 0, none⟩ = some (.int .u8 ((rd_T32 l1 x7_2).f0)) ∧ w'.cell? ⟨gb364, 1, none⟩ = some (.int .u64 x365001_17) ∧ w'.cell? ⟨gb364, 2, none⟩ = some (.int .i64 x365002_17) ∧ w'.cell? ⟨gb364, 3, none⟩ = some (.string x365003_17) ∧ w'.cell? ⟨gb364, 4, none⟩ = some (.slice Ao118 x365004_17.length co118) ∧ w'.cell? ⟨gb350, 0, none⟩ = some (.string x351000_17) ∧ w'.cell? ⟨gb350, 1, none⟩ = some (.int .i64 x351001_17) ∧ w'.cell? ⟨gb350, 2, none⟩ = some (.int .i64 x351002_17)) (ds := []) Bo18_0 (by kernel_rfl) rfl rfl ⟨(blk_cell BK363.out 0).trans rfl, (blk_cell BK363.out 1).trans rfl, (blk_cell BK363.out 2).trans rfl, (blk_cell BK363.out 3).trans rfl, (blk_cell BK363.out 4).trans rfl, (blk_cell BK364.out 0).trans rfl, (blk_cell BK364.out 1).trans rfl, (blk_cell BK364.out 2).trans rfl, (blk_cell BK364.out 3).trans rfl, (blk_cell BK364.out 4).trans rfl, (blk_cell BK350.out 0).trans rfl, (blk_cell BK350.out 1).trans rfl, (blk_cell BK350.out 2).trans rfl⟩ (fun hHeld => ?_); refine with_tabW sawmilllaw05_WireReads.tab19 sawmilllaw05_WireReads.bits19 (fun HT_ HW_ => ?_)
              generalize wc.drew = w117 at HO_364004 HO_365004 BK350 BK352 BK363 BK364 HI346 HB hHeld ⊢
              refine take_ (i := 0) (N := some 84) (v := ?_) (a' := ?_) Bo18_1 rfl rfl (take_ofW HT_.out HW_.out (by kernel_rfl)) (fun _ _ _ h => h) (Or.inl ⟨by rfl, ?_⟩) hHeld ?_ ?_
              rotate_left
              ·rintro w' ⟨s0, s1, s2, s3, s4, s5, s6, s7, s8, s9, s10, s11, s12⟩
               go_simp
               with_reducible rfl
              rotate_left
              ·simp only [Act.put, List.setIfInBounds_toArray, List.set_cons_zero, List.set_cons_succ, i64_w, i32_w]
               rfl
              refine take_ (i := 1) (N := some 85) (v := ?_) (a' := ?_) Bo18_2 rfl rfl (take_ofW HT_.out HW_.out (by kernel_rfl)) (fun _ _ _ h => h) (Or.inl ⟨by rfl, ?_⟩) hHeld ?_ ?_
              rotate_left
              ·rintro w' ⟨s0, s1, s2, s3, s4, s5, s6, s7, s8, s9, s10, s11, s12⟩
               go_simp
               with_reducible rfl
              rotate_left
              ·simp only [Act.put, List.setIfInBounds_toArray, List.set_cons_zero, List.set_cons_succ, i64_w, i32_w]
               rfl
              refine one_ (i := 2) (N := some 86) Bo18_3 rfl rfl (one_of HT_.out (by kernel_rfl)) (by decide) (fun K hK => ?_)
              refine goes_ Try.func32 (by kernel_rfl) rfl #[.agg #[.int .u8 t353, .int .u64 t354, .int .i64 t355, .string t356, .slice Ao29 t357.length co29], .agg #[.int .u8 ((rd_T32 l1 x7_2).f0), .int .u64 x365001_17, .int .i64 x365002_17, .string x365003_17, .slice Ao118 x365004_17.length co118]] (by rfl) rfl rfl (by (try simp only [List.map_toArray, List.map_cons, List.map_nil]); first | done | rfl | (simp only [List.length_drop, List.length_take]; rfl)) ?_
              with_reducible refine (sawmilllaw05_same.calls kj17 t353 t354 t355 t356 _ _ t357 ((rd_T32 l1 x7_2).f0) x365001_17 x365002_17 x365003_17 _ _ x365004_17 true _ ?side1 ?side2 ?side3 ?side4 A99.out).mono ?_
              (case side1 => repeat (first | exact (Kd.R_reads' HO_364004.out).2.2 | (with_reducible refine Kd.C_alloc ?_ _) | (with_reducible refine Kd.C_drewN ?_ _) | (with_reducible refine Kd.C_drew ?_)))
              (case side2 => exact (Kd.R_reads' HO_364004.out).2.1)
              (case side3 => repeat (first | exact (Kd.R_reads' HO_365004.out).2.2 | (with_reducible refine Kd.C_alloc ?_ _) | (with_reducible refine Kd.C_drewN ?_ _) | (with_reducible refine Kd.C_drew ?_)))
              (case side4 => exact (Kd.R_reads' HO_365004.out).2.1)
              rintro e w119 ⟨rfl, hb⟩
              refine ⟨_, rfl, ?_⟩
              have n0_ := Aside0.mk (Kd.R_below (by (with_reducible repeat (first | apply Kd.R_alloc | apply Kd.R_drewN | apply Kd.R_drew)); exact HO_364004.out) hb)
              have n1_ := Aside0.mk (Kd.R_below (by (with_reducible repeat (first | apply Kd.R_alloc | apply Kd.R_drewN | apply Kd.R_drew)); exact HO_365004.out) hb)
              have n2_ := Aside0.mk (blk_below (Up.blk BK350.out) hb)
              have n3_ := Aside0.mk (blk_below (Up.blk BK352.out) hb)
              have n4_ := Aside0.mk (blk_below (Up.blk BK363.out) hb)
              have n5_ := Aside0.mk (blk_below (Up.blk BK364.out) hb)
              have n6_ := Aside0.mk (IsS73.below (by repeat (first | (with_reducible first | exact HI346.out | apply sA | apply sN | apply sD | apply s0 | apply s1 | apply s2 | refine sF ?_ NB346_350.out _ | refine sF ?_ NB346_352.out _ | refine sF ?_ NB346_363.out _ | refine sF ?_ NB346_364.out _) | exact HI346.out)) hb)
              have n7_ := Aside0.mk (below_step (by repeat (first | (with_reducible first | exact HB.out | apply cA | apply cN | apply cD | refine cS ?_ (IsS73.ge HI346.out) | refine cS ?_ GE350.out | refine cS ?_ GE352.out | refine cS ?_ GE363.out | refine cS ?_ GE364.out) | exact HB.out)) hb)
              clear HO_364004
              clear HO_365004
              clear BK350
              clear BK352
              clear BK363
              clear BK364
              clear HI346
              clear HB
              have HO_364004 := n0_
              have HO_365004 := n1_
              have BK350 := n2_
              have BK352 := n3_
              have BK363 := n4_
              have BK364 := n5_
              have HI346 := n6_
              have HB := n7_
              clear n0_ n1_ n2_ n3_ n4_ n5_ n6_ n7_
              (try clear hb)
              (try clear hb2)
              (try clear hk)
              (try clear hi)
              refine hK.out _ _ ⟨(blk_cell BK363.out 0).trans rfl, (blk_cell BK363.out 1).trans rfl, (blk_cell BK363.out 2).trans rfl, (blk_cell BK363.out 3).trans rfl, (blk_cell BK363.out 4).trans rfl, (blk_cell BK364.out 0).trans rfl, (blk_cell BK364.out 1).trans rfl, (blk_cell BK364.out 2).trans rfl, (blk_cell BK364.out 3).trans rfl, (blk_cell BK364.out 4).trans rfl, (blk_cell BK350.out 0).trans rfl, (blk_cell BK350.out 1).trans rfl, (blk_cell BK350.out 2).trans rfl⟩ (fun hHeld => ?_)
              clear hK K
              refine norm_ (a' := ?_) ?_ ?_
              rotate_left
              ·show Act.put _ (some 86) _ = _
               simp only [Act.put, List.setIfInBounds_toArray, List.set_cons_zero, List.set_cons_succ, i64_w, i32_w]
               rfl
              refine pure_ (i := 3) (N := some 87) (v := ?_) (a' := ?_) Bo18_4 rfl rfl (any_of HT_.out (by kernel_rfl)) (fun _ _ _ h => h) (Or.inl ⟨by rfl, ?_⟩) ?_ ?_
              rotate_left
              ·intro w'
               go_simp
               with_reducible rfl
              rotate_left
              ·simp only [Act.put, List.setIfInBounds_toArray, List.set_cons_zero, List.set_cons_succ, i64_w, i32_w]
               rfl
              refine pure_ (i := 4) (N := some 88) (v := ?_) (a' := ?_) Bo18_5 rfl rfl (any_of HT_.out (by kernel_rfl)) (fun _ _ _ h => h) (Or.inl ⟨by rfl, ?_⟩) ?_ ?_
              rotate_left
              ·intro w'
               go_simp
               with_reducible rfl
              rotate_left
              ·simp only [Act.put, List.setIfInBounds_toArray, List.set_cons_zero, List.set_cons_succ, i64_w, i32_w]
               rfl
              refine pure_ (i := 5) (N := some 89) (v := ?_) (a' := ?_) Bo18_6 rfl rfl (any_of HT_.out (by kernel_rfl)) (fun _ _ _ h => h) (Or.inl ⟨by rfl, ?_⟩) ?_ ?_
              rotate_left
              ·intro w'
               go_simp
               with_reducible rfl
              rotate_left
              ·simp only [Act.put, List.setIfInBounds_toArray, List.set_cons_zero, List.set_cons_succ, i64_w, i32_w]
               rfl
              refine take_ (i := 7) (N := some 91) (v := ?_) (a' := ?_) Bo18_7 rfl rfl (take_ofW HT_.out HW_.out (by kernel_rfl)) (fun _ _ _ h => h) (Or.inl ⟨by rfl, ?_⟩) hHeld ?_ ?_
              rotate_left
              ·rintro w' ⟨s0, s1, s2, s3, s4, s5, s6, s7, s8, s9, s10, s11, s12⟩
               go_simp
               with_reducible rfl
              rotate_left
              ·simp only [Act.put, List.setIfInBounds_toArray, List.set_cons_zero, List.set_cons_succ, i64_w, i32_w]
               rfl
              refine one_ (i := 6) (N := some 90) Bo18_8 rfl rfl (one_of HT_.out (by kernel_rfl)) (by decide) (fun K hK => ?_)
              refine goes_ Try.func24 (by kernel_rfl) rfl #[.pointer (some ⟨g346, 0, none⟩)] (by rfl) rfl rfl (by (try simp only [List.map_toArray, List.map_cons, List.map_nil]); first | done | rfl | (simp only [List.length_drop, List.length_take]; rfl)) ?_
              with_reducible refine (wire_Reader_Left.calls g346 t360 t361 t362 t384 t385 t386 t387 w _ ?side1 ?side2 A101.out).mono ?_
              (case side1 => repeat (first | (with_reducible first | exact HI346.out | apply sA | apply sN | apply sD | apply s0 | apply s1 | apply s2 | refine sF ?_ NB346_350.out _ | refine sF ?_ NB346_352.out _ | refine sF ?_ NB346_363.out _ | refine sF ?_ NB346_364.out _) | exact HI346.out))
              (case side2 => repeat (first | (with_reducible first | exact HB.out | apply cA | apply cN | apply cD | refine cS ?_ (IsS73.ge HI346.out) | refine cS ?_ GE350.out | refine cS ?_ GE352.out | refine cS ?_ GE363.out | refine cS ?_ GE364.out) | exact HB.out))
              rintro e w120 ⟨rfl, hi, hb, hk⟩
              refine ⟨_, rfl, ?_⟩
              have n0_ := Aside0.mk (Kd.R_mono (Kd.R_keep (IsS73.apart (show IsS73 w _ g346 t360 t361 t362 from by repeat (first | (with_reducible first | exact HI346.out | apply sA | apply sN | apply sD | apply s0 | apply s1 | apply s2 | refine sF ?_ NB346_350.out _ | refine sF ?_ NB346_352.out _ | refine sF ?_ NB346_363.out _ | refine sF ?_ NB346_364.out _) | exact HI346.out)) (by (with_reducible repeat (first | apply Kd.R_alloc | apply Kd.R_drewN | apply Kd.R_drew)); exact HO_364004.out) (by decide)) hk (fun _ h => h.2)) (fun _ h => h.1))
              have n1_ := Aside0.mk (Kd.R_mono (Kd.R_keep (IsS73.apart (show IsS73 w _ g346 t360 t361 t362 from by repeat (first | (with_reducible first | exact HI346.out | apply sA | apply sN | apply sD | apply s0 | apply s1 | apply s2 | refine sF ?_ NB346_350.out _ | refine sF ?_ NB346_352.out _ | refine sF ?_ NB346_363.out _ | refine sF ?_ NB346_364.out _) | exact HI346.out)) (by (with_reducible repeat (first | apply Kd.R_alloc | apply Kd.R_drewN | apply Kd.R_drew)); exact HO_365004.out) (by decide)) hk (fun _ h => h.2)) (fun _ h => h.1))
              have n2_ := Aside0.mk (KeepBut.blk hk (g' := gb350) (o := .cells #[.string x351000_17, .int .i64 x351001_17, .int .i64 x351002_17] 42 (0, 0)) (Up.blk BK350.out) NB350_346.out (by simp))
              have n3_ := Aside0.mk (KeepBut.blk hk (g' := gb352) (o := .cells #[.int .u8 ((rd_T32 l1 x7_2).f0), .int .i64 ((rd_T32 l1 x7_2).f1), .int .i64 ((rd_T32 l1 x7_2).f2), .int .i64 ((rd_T32 l1 x7_2).f3)] 32 (0, 0)) (Up.blk BK352.out) NB352_346.out (by simp))
              have n4_ := Aside0.mk (KeepBut.blk hk (g' := gb363) (o := .cells #[.int .u8 t353, .int .u64 t354, .int .i64 t355, .string t356, .slice Ao29 t357.length co29] 45 (0, 0)) (Up.blk BK363.out) NB363_346.out (by simp))
              have n5_ := Aside0.mk (KeepBut.blk hk (g' := gb364) (o := .cells #[.int .u8 ((rd_T32 l1 x7_2).f0), .int .u64 x365001_17, .int .i64 x365002_17, .string x365003_17, .slice Ao118 x365004_17.length co118] 45 (0, 0)) (Up.blk BK364.out) NB364_346.out (by simp))
              have n6_ := Aside0.mk (hb)
              have n7_ := Aside0.mk (hi)
              clear HO_364004
              clear HO_365004
              clear BK350
              clear BK352
              clear BK363
              clear BK364
              clear HB
              clear HI346
              have HO_364004 := n0_
              have HO_365004 := n1_
              have BK350 := n2_
              have BK352 := n3_
              have BK363 := n4_
              have BK364 := n5_
              have HB := n6_
              have HI346 := n7_
              clear n0_ n1_ n2_ n3_ n4_ n5_ n6_ n7_
              (try clear hb)
              (try clear hb2)
              (try clear hk)
              (try clear hi)
              refine hK.out _ _ ⟨(blk_cell BK363.out 0).trans rfl, (blk_cell BK363.out 1).trans rfl, (blk_cell BK363.out 2).trans rfl, (blk_cell BK363.out 3).trans rfl, (blk_cell BK363.out 4).trans rfl, (blk_cell BK364.out 0).trans rfl, (blk_cell BK364.out 1).trans rfl, (blk_cell BK364.out 2).trans rfl, (blk_cell BK364.out 3).trans rfl, (blk_cell BK364.out 4).trans rfl, (blk_cell BK350.out 0).trans rfl, (blk_cell BK350.out 1).trans rfl, (blk_cell BK350.out 2).trans rfl⟩ (fun hHeld => ?_)
              clear hK K
              refine norm_ (a' := ?_) ?_ ?_
              rotate_left
              ·show Act.put _ (some 90) _ = _
               simp only [Act.put, List.setIfInBounds_toArray, List.set_cons_zero, List.set_cons_succ, i64_w, i32_w]
               rfl
              refine one_ (i := 8) (N := some 92) Bo18_9 rfl rfl (one_of HT_.out (by kernel_rfl)) (by decide) (fun K hK => ?_)
              refine goes_ Try.func33 (by kernel_rfl) rfl #[.agg #[.string x351000_17, .int .i64 x351001_17, .int .i64 x351002_17]] (by rfl) rfl rfl (by (try simp only [List.map_toArray, List.map_cons, List.map_nil]); first | done | rfl | (simp only [List.length_drop, List.length_take]; rfl)) ?_
              with_reducible refine (sawmillref05_Left.calls x351000_17 x351001_17 x351002_17 t388 _ A102.out).mono ?_
              rintro e w121 ⟨rfl, hb⟩
              refine ⟨_, rfl, ?_⟩
              have n0_ := Aside0.mk (Kd.R_below (by (with_reducible repeat (first | apply Kd.R_alloc | apply Kd.R_drewN | apply Kd.R_drew)); exact HO_364004.out) hb)
              have n1_ := Aside0.mk (Kd.R_below (by (with_reducible repeat (first | apply Kd.R_alloc | apply Kd.R_drewN | apply Kd.R_drew)); exact HO_365004.out) hb)
              have n2_ := Aside0.mk (blk_below (Up.blk BK350.out) hb)
              have n3_ := Aside0.mk (blk_below (Up.blk BK352.out) hb)
              have n4_ := Aside0.mk (blk_below (Up.blk BK363.out) hb)
              have n5_ := Aside0.mk (blk_below (Up.blk BK364.out) hb)
              have n6_ := Aside0.mk (IsS73.below (by repeat (first | (with_reducible first | exact HI346.out | apply sA | apply sN | apply sD | apply s0 | apply s1 | apply s2 | refine sF ?_ NB346_350.out _ | refine sF ?_ NB346_352.out _ | refine sF ?_ NB346_363.out _ | refine sF ?_ NB346_364.out _) | exact HI346.out)) hb)
              have n7_ := Aside0.mk (below_step (by repeat (first | (with_reducible first | exact HB.out | apply cA | apply cN | apply cD | refine cS ?_ (IsS73.ge HI346.out) | refine cS ?_ GE350.out | refine cS ?_ GE352.out | refine cS ?_ GE363.out | refine cS ?_ GE364.out) | exact HB.out)) hb)
              clear HO_364004
              clear HO_365004
              clear BK350
              clear BK352
              clear BK363
              clear BK364
              clear HI346
              clear HB
              have HO_364004 := n0_
              have HO_365004 := n1_
              have BK350 := n2_
              have BK352 := n3_
              have BK363 := n4_
              have BK364 := n5_
              have HI346 := n6_
              have HB := n7_
              clear n0_ n1_ n2_ n3_ n4_ n5_ n6_ n7_
              (try clear hb)
              (try clear hb2)
              (try clear hk)
              (try clear hi)
              refine hK.out _ _ ⟨(blk_cell BK363.out 0).trans rfl, (blk_cell BK363.out 1).trans rfl, (blk_cell BK363.out 2).trans rfl, (blk_cell BK363.out 3).trans rfl, (blk_cell BK363.out 4).trans rfl, (blk_cell BK364.out 0).trans rfl, (blk_cell BK364.out 1).trans rfl, (blk_cell BK364.out 2).trans rfl, (blk_cell BK364.out 3).trans rfl, (blk_cell BK364.out 4).trans rfl, (blk_cell BK350.out 0).trans rfl, (blk_cell BK350.out 1).trans rfl, (blk_cell BK350.out 2).trans rfl⟩ (fun hHeld => ?_)
              clear hK K
              refine norm_ (a' := ?_) ?_ ?_
              rotate_left
              ·show Act.put _ (some 92) _ = _
               simp only [Act.put, List.setIfInBounds_toArray, List.set_cons_zero, List.set_cons_succ, i64_w, i32_w]
               rfl
              refine pure_ (i := 9) (N := some 93) (v := ?_) (a' := ?_) Bo18_10 rfl rfl (any_of HT_.out (by kernel_rfl)) (fun _ _ _ h => h) (Or.inl ⟨by rfl, ?_⟩) ?_ ?_
              rotate_left
              ·intro w'
               go_simp
               with_reducible rfl
              rotate_left
              ·simp only [Act.put, List.setIfInBounds_toArray, List.set_cons_zero, List.set_cons_succ, i64_w, i32_w]
               rfl
              refine pure_ (i := 10) (N := some 94) (v := ?_) (a' := ?_) Bo18_11 rfl rfl (any_of HT_.out (by kernel_rfl)) (fun _ _ _ h => h) (Or.inl ⟨by rfl, ?_⟩) ?_ ?_
              rotate_left
              ·intro w'
               go_simp
               with_reducible rfl
              rotate_left
              ·simp only [Act.put, List.setIfInBounds_toArray, List.set_cons_zero, List.set_cons_succ, i64_w, i32_w]
               rfl
              refine pure_ (i := 11) (N := some 95) (v := ?_) (a' := ?_) Bo18_12 rfl rfl (any_of HT_.out (by kernel_rfl)) (fun _ _ _ h => h) (Or.inl ⟨by rfl, ?_⟩) ?_ ?_
              rotate_left
              ·intro w'
               go_simp
               with_reducible rfl
              rotate_left
              ·simp only [Act.put, List.setIfInBounds_toArray, List.set_cons_zero, List.set_cons_succ, i64_w, i32_w]
               rfl
              refine pure_ (i := 12) (N := some 96) (v := ?_) (a' := ?_) Bo18_13 rfl rfl (any_of HT_.out (by kernel_rfl)) (fun _ _ _ h => h) (Or.inl ⟨by rfl, ?_⟩) ?_ ?_
              rotate_left
              ·intro w'
               go_simp
               with_reducible rfl
              rotate_left
              ·simp only [Act.put, List.setIfInBounds_toArray, List.set_cons_zero, List.set_cons_succ, i64_w, i32_w]
               rfl
              refine pure_ (i := 14) (N := some 98) (v := ?_) (a' := ?_) Bo18_14 rfl rfl (any_of HT_.out (by kernel_rfl)) (fun _ _ _ h => h) (Or.inl ⟨by rfl, ?_⟩) ?_ ?_
              rotate_left
              ·intro w'
               go_simp
               with_reducible rfl
              rotate_left
              ·simp only [Act.put, List.setIfInBounds_toArray, List.set_cons_zero, List.set_cons_succ, i64_w, i32_w]
               rfl
              refine take_ (i := 15) (N := some 99) (v := ?_) (a' := ?_) Bo18_15 rfl rfl (take_ofW HT_.out HW_.out (by kernel_rfl)) (fun _ _ _ h => h) (Or.inl ⟨by rfl, ?_⟩) hHeld ?_ ?_
              rotate_left
              ·rintro w' ⟨s0, s1, s2, s3, s4, s5, s6, s7, s8, s9, s10, s11, s12⟩
               go_simp
               with_reducible rfl
              rotate_left
              ·simp only [Act.put, List.setIfInBounds_toArray, List.set_cons_zero, List.set_cons_succ, i64_w, i32_w]
               rfl
              refine one_ (i := 13) (N := some 97) Bo18_16 rfl rfl (one_of HT_.out (by kernel_rfl)) (by decide) (fun K hK => ?_)
              refine goes_ Try.func34 (by kernel_rfl) rfl #[.pointer (some ⟨g346, 0, none⟩)] (by rfl) rfl rfl (by (try simp only [List.map_toArray, List.map_cons, List.map_nil]); first | done | rfl | (simp only [List.length_drop, List.length_take]; rfl)) ?_
              with_reducible refine (wire_Reader_Err.calls g346 t385 t386 t387 t389 t390 t391 t392 w _ ?side1 ?side2 A104.out).mono ?_
              (case side1 => repeat (first | (with_reducible first | exact HI346.out | apply sA | apply sN | apply sD | apply s0 | apply s1 | apply s2 | refine sF ?_ NB346_350.out _ | refine sF ?_ NB346_352.out _ | refine sF ?_ NB346_363.out _ | refine sF ?_ NB346_364.out _) | exact HI346.out))
              (case side2 => repeat (first | (with_reducible first | exact HB.out | apply cA | apply cN | apply cD | refine cS ?_ (IsS73.ge HI346.out) | refine cS ?_ GE350.out | refine cS ?_ GE352.out | refine cS ?_ GE363.out | refine cS ?_ GE364.out) | exact HB.out))
              rintro e w122 ⟨rfl, hi, hb, hk⟩
              refine ⟨_, rfl, ?_⟩
              have n0_ := Aside0.mk (Kd.R_mono (Kd.R_keep (IsS73.apart (show IsS73 w _ g346 t385 t386 t387 from by repeat (first | (with_reducible first | exact HI346.out | apply sA | apply sN | apply sD | apply s0 | apply s1 | apply s2 | refine sF ?_ NB346_350.out _ | refine sF ?_ NB346_352.out _ | refine sF ?_ NB346_363.out _ | refine sF ?_ NB346_364.out _) | exact HI346.out)) (by (with_reducible repeat (first | apply Kd.R_alloc | apply Kd.R_drewN | apply Kd.R_drew)); exact HO_364004.out) (by decide)) hk (fun _ h => h.2)) (fun _ h => h.1))
              have n1_ := Aside0.mk (Kd.R_mono (Kd.R_keep (IsS73.apart (show IsS73 w _ g346 t385 t386 t387 from by repeat (first | (with_reducible first | exact HI346.out | apply sA | apply sN | apply sD | apply s0 | apply s1 | apply s2 | refine sF ?_ NB346_350.out _ | refine sF ?_ NB346_352.out _ | refine sF ?_ NB346_363.out _ | refine sF ?_ NB346_364.out _) | exact HI346.out)) (by (with_reducible repeat (first | apply Kd.R_alloc | apply Kd.R_drewN | apply Kd.R_drew)); exact HO_365004.out) (by decide)) hk (fun _ h => h.2)) (fun _ h => h.1))
              have n2_ := Aside0.mk (KeepBut.blk hk (g' := gb350) (o := .cells #[.string x351000_17, .int .i64 x351001_17, .int .i64 x351002_17] 42 (0, 0)) (Up.blk BK350.out) NB350_346.out (by simp))
              have n3_ := Aside0.mk (KeepBut.blk hk (g' := gb352) (o := .cells #[.int .u8 ((rd_T32 l1 x7_2).f0), .int .i64 ((rd_T32 l1 x7_2).f1), .int .i64 ((rd_T32 l1 x7_2).f2), .int .i64 ((rd_T32 l1 x7_2).f3)] 32 (0, 0)) (Up.blk BK352.out) NB352_346.out (by simp))
              have n4_ := Aside0.mk (KeepBut.blk hk (g' := gb363) (o := .cells #[.int .u8 t353, .int .u64 t354, .int .i64 t355, .string t356, .slice Ao29 t357.length co29] 45 (0, 0)) (Up.blk BK363.out) NB363_346.out (by simp))
              have n5_ := Aside0.mk (KeepBut.blk hk (g' := gb364) (o := .cells #[.int .u8 ((rd_T32 l1 x7_2).f0), .int .u64 x365001_17, .int .i64 x365002_17, .string x365003_17, .slice Ao118 x365004_17.length co118] 45 (0, 0)) (Up.blk BK364.out) NB364_346.out (by simp))
              have n6_ := Aside0.mk (hb)
              have n7_ := Aside0.mk (hi)
              clear HO_364004
              clear HO_365004
              clear BK350
              clear BK352
              clear BK363
              clear BK364
              clear HB
              clear HI346
              have HO_364004 := n0_
              have HO_365004 := n1_
              have BK350 := n2_
              have BK352 := n3_
              have BK363 := n4_
              have BK364 := n5_
              have HB := n6_
              have HI346 := n7_
              clear n0_ n1_ n2_ n3_ n4_ n5_ n6_ n7_
              (try clear hb)
              (try clear hb2)
              (try clear hk)
              (try clear hi)
              refine hK.out _ _ ⟨(blk_cell BK363.out 0).trans rfl, (blk_cell BK363.out 1).trans rfl, (blk_cell BK363.out 2).trans rfl, (blk_cell BK363.out 3).trans rfl, (blk_cell BK363.out 4).trans rfl, (blk_cell BK364.out 0).trans rfl, (blk_cell BK364.out 1).trans rfl, (blk_cell BK364.out 2).trans rfl, (blk_cell BK364.out 3).trans rfl, (blk_cell BK364.out 4).trans rfl, (blk_cell BK350.out 0).trans rfl, (blk_cell BK350.out 1).trans rfl, (blk_cell BK350.out 2).trans rfl⟩ (fun hHeld => ?_)
              clear hK K
              refine norm_ (a' := ?_) ?_ ?_
              rotate_left
              ·show Act.put _ (some 97) _ = _
               simp only [Act.put, List.setIfInBounds_toArray, List.set_cons_zero, List.set_cons_succ, i64_w, i32_w]
               rfl
              refine pure_ (i := 16) (N := some 100) (v := ?_) (a' := ?_) Bo18_17 rfl rfl (any_of HT_.out (by kernel_rfl)) (fun _ _ _ h => h) (Or.inl ⟨by rfl, ?_⟩) ?_ ?_
              rotate_left
              ·intro w'
               go_simp
               with_reducible rfl
              rotate_left
              ·simp only [Act.put, List.setIfInBounds_toArray, List.set_cons_zero, List.set_cons_succ, i64_w, i32_w]
               rfl
              refine pure_ (i := 17) (N := some 101) (v := ?_) (a' := ?_) Bo18_18 rfl rfl (any_of HT_.out (by kernel_rfl)) (fun _ _ _ h => h) (Or.inl ⟨by rfl, ?_⟩) ?_ ?_
              rotate_left
              ·intro w'
               go_simp
               with_reducible rfl
              rotate_left
              ·simp only [Act.put, List.setIfInBounds_toArray, List.set_cons_zero, List.set_cons_succ, i64_w, i32_w]
               rfl
              refine pure_ (i := 18) (N := some 102) (v := ?_) (a' := ?_) Bo18_19 rfl rfl (any_of HT_.out (by kernel_rfl)) (fun _ _ _ h => h) (Or.inl ⟨by rfl, ?_⟩) ?_ ?_
              rotate_left
              ·intro w'
               go_simp
               with_reducible rfl
              rotate_left
              ·simp only [Act.put, List.setIfInBounds_toArray, List.set_cons_zero, List.set_cons_succ, i64_w, i32_w]
               rfl
              refine pure_ (i := 19) (N := some 103) (v := ?_) (a' := ?_) Bo18_20 rfl rfl (any_of HT_.out (by kernel_rfl)) (fun _ _ _ h => h) (Or.inl ⟨by rfl, ?_⟩) ?_ ?_
              rotate_left
              ·intro w'
               go_simp
               with_reducible rfl
              rotate_left
              ·simp only [Act.put, List.setIfInBounds_toArray, List.set_cons_zero, List.set_cons_succ, i64_w, i32_w]
               rfl
              refine take_ (i := 21) (N := some 105) (v := ?_) (a' := ?_) Bo18_21 rfl rfl (take_ofW HT_.out HW_.out (by kernel_rfl)) (fun _ _ _ h => h) (Or.inl ⟨by rfl, ?_⟩) hHeld ?_ ?_
              rotate_left
              ·rintro w' ⟨s0, s1, s2, s3, s4, s5, s6, s7, s8, s9, s10, s11, s12⟩
               go_simp
               with_reducible rfl
              rotate_left
              ·simp only [Act.put, List.setIfInBounds_toArray, List.set_cons_zero, List.set_cons_succ, i64_w, i32_w]
               rfl
              refine one_ (i := 20) (N := some 104) Bo18_22 rfl rfl (one_of HT_.out (by kernel_rfl)) (by decide) (fun K hK => ?_)
              refine goes_ Try.func23 (by kernel_rfl) rfl #[.pointer (some ⟨g346, 0, none⟩)] (by rfl) rfl rfl (by (try simp only [List.map_toArray, List.map_cons, List.map_nil]); first | done | rfl | (simp only [List.length_drop, List.length_take]; rfl)) ?_
              with_reducible refine (wire_Reader_End.calls g346 t390 t391 t392 t393 t394 t395 t396 w _ ?side1 ?side2 A106.out).mono ?_
              (case side1 => repeat (first | (with_reducible first | exact HI346.out | apply sA | apply sN | apply sD | apply s0 | apply s1 | apply s2 | refine sF ?_ NB346_350.out _ | refine sF ?_ NB346_352.out _ | refine sF ?_ NB346_363.out _ | refine sF ?_ NB346_364.out _) | exact HI346.out))
              (case side2 => repeat (first | (with_reducible first | exact HB.out | apply cA | apply cN | apply cD | refine cS ?_ (IsS73.ge HI346.out) | refine cS ?_ GE350.out | refine cS ?_ GE352.out | refine cS ?_ GE363.out | refine cS ?_ GE364.out) | exact HB.out))
              rintro e w123 ⟨rfl, hi, hb, hk⟩
              refine ⟨_, rfl, ?_⟩
              have n0_ := Aside0.mk (Kd.R_mono (Kd.R_keep (IsS73.apart (show IsS73 w _ g346 t390 t391 t392 from by repeat (first | (with_reducible first | exact HI346.out | apply sA | apply sN | apply sD | apply s0 | apply s1 | apply s2 | refine sF ?_ NB346_350.out _ | refine sF ?_ NB346_352.out _ | refine sF ?_ NB346_363.out _ | refine sF ?_ NB346_364.out _) | exact HI346.out)) (by (with_reducible repeat (first | apply Kd.R_alloc | apply Kd.R_drewN | apply Kd.R_drew)); exact HO_364004.out) (by decide)) hk (fun _ h => h.2)) (fun _ h => h.1))
              have n1_ := Aside0.mk (Kd.R_mono (Kd.R_keep (IsS73.apart (show IsS73 w _ g346 t390 t391 t392 from by repeat (first | (with_reducible first | exact HI346.out | apply sA | apply sN | apply sD | apply s0 | apply s1 | apply s2 | refine sF ?_ NB346_350.out _ | refine sF ?_ NB346_352.out _ | refine sF ?_ NB346_363.out _ | refine sF ?_ NB346_364.out _) | exact HI346.out)) (by (with_reducible repeat (first | apply Kd.R_alloc | apply Kd.R_drewN | apply Kd.R_drew)); exact HO_365004.out) (by decide)) hk (fun _ h => h.2)) (fun _ h => h.1))
              have n2_ := Aside0.mk (KeepBut.blk hk (g' := gb350) (o := .cells #[.string x351000_17, .int .i64 x351001_17, .int .i64 x351002_17] 42 (0, 0)) (Up.blk BK350.out) NB350_346.out (by simp))
              have n3_ := Aside0.mk (KeepBut.blk hk (g' := gb352) (o := .cells #[.int .u8 ((rd_T32 l1 x7_2).f0), .int .i64 ((rd_T32 l1 x7_2).f1), .int .i64 ((rd_T32 l1 x7_2).f2), .int .i64 ((rd_T32 l1 x7_2).f3)] 32 (0, 0)) (Up.blk BK352.out) NB352_346.out (by simp))
              have n4_ := Aside0.mk (KeepBut.blk hk (g' := gb363) (o := .cells #[.int .u8 t353, .int .u64 t354, .int .i64 t355, .string t356, .slice Ao29 t357.length co29] 45 (0, 0)) (Up.blk BK363.out) NB363_346.out (by simp))
              have n5_ := Aside0.mk (KeepBut.blk hk (g' := gb364) (o := .cells #[.int .u8 ((rd_T32 l1 x7_2).f0), .int .u64 x365001_17, .int .i64 x365002_17, .string x365003_17, .slice Ao118 x365004_17.length co118] 45 (0, 0)) (Up.blk BK364.out) NB364_346.out (by simp))
              have n6_ := Aside0.mk (hb)
              have n7_ := Aside0.mk (hi)
              clear HO_364004
              clear HO_365004
              clear BK350
              clear BK352
              clear BK363
              clear BK364
              clear HB
              clear HI346
              have HO_364004 := n0_
              have HO_365004 := n1_
              have BK350 := n2_
              have BK352 := n3_
              have BK363 := n4_
              have BK364 := n5_
              have HB := n6_
              have HI346 := n7_
              clear n0_ n1_ n2_ n3_ n4_ n5_ n6_ n7_
              (try clear hb)
              (try clear hb2)
              (try clear hk)
              (try clear hi)
              refine hK.out _ _ ⟨(blk_cell BK363.out 0).trans rfl, (blk_cell BK363.out 1).trans rfl, (blk_cell BK363.out 2).trans rfl, (blk_cell BK363.out 3).trans rfl, (blk_cell BK363.out 4).trans rfl, (blk_cell BK364.out 0).trans rfl, (blk_cell BK364.out 1).trans rfl, (blk_cell BK364.out 2).trans rfl, (blk_cell BK364.out 3).trans rfl, (blk_cell BK364.out 4).trans rfl, (blk_cell BK350.out 0).trans rfl, (blk_cell BK350.out 1).trans rfl, (blk_cell BK350.out 2).trans rfl⟩ (fun hHeld => ?_)
              clear hK K
              refine norm_ (a' := ?_) ?_ ?_
              rotate_left
              ·show Act.put _ (some 104) _ = _
               simp only [Act.put, List.setIfInBounds_toArray, List.set_cons_zero, List.set_cons_succ, i64_w, i32_w]
               rfl
              refine one_ (i := 22) (N := some 106) Bo18_23 rfl rfl (one_of HT_.out (by kernel_rfl)) (by decide) (fun K hK => ?_)
              refine goes_ Try.func35 (by kernel_rfl) rfl #[.agg #[.string x351000_17, .int .i64 x351001_17, .int .i64 x351002_17]] (by rfl) rfl rfl (by (try simp only [List.map_toArray, List.map_cons, List.map_nil]); first | done | rfl | (simp only [List.length_drop, List.length_take]; rfl)) ?_
              with_reducible refine (sawmillref05_End.calls x351000_17 x351001_17 x351002_17 t397 _ A107.out).mono ?_
              rintro e w124 ⟨rfl, hb⟩
              refine ⟨_, rfl, ?_⟩
              have n0_ := Aside0.mk (Kd.R_below (by (with_reducible repeat (first | apply Kd.R_alloc | apply Kd.R_drewN | apply Kd.R_drew)); exact HO_364004.out) hb)
              have n1_ := Aside0.mk (Kd.R_below (by (with_reducible repeat (first | apply Kd.R_alloc | apply Kd.R_drewN | apply Kd.R_drew)); exact HO_365004.out) hb)
              have n2_ := Aside0.mk (blk_below (Up.blk BK350.out) hb)
              have n3_ := Aside0.mk (blk_below (Up.blk BK352.out) hb)
              have n4_ := Aside0.mk (blk_below (Up.blk BK363.out) hb)
              have n5_ := Aside0.mk (blk_below (Up.blk BK364.out) hb)
              have n6_ := Aside0.mk (IsS73.below (by repeat (first | (with_reducible first | exact HI346.out | apply sA | apply sN | apply sD | apply s0 | apply s1 | apply s2 | refine sF ?_ NB346_350.out _ | refine sF ?_ NB346_352.out _ | refine sF ?_ NB346_363.out _ | refine sF ?_ NB346_364.out _) | exact HI346.out)) hb)
              have n7_ := Aside0.mk (below_step (by repeat (first | (with_reducible first | exact HB.out | apply cA | apply cN | apply cD | refine cS ?_ (IsS73.ge HI346.out) | refine cS ?_ GE350.out | refine cS ?_ GE352.out | refine cS ?_ GE363.out | refine cS ?_ GE364.out) | exact HB.out)) hb)
              clear HO_364004
              clear HO_365004
              clear BK350
              clear BK352
              clear BK363
              clear BK364
              clear HI346
              clear HB
              have HO_364004 := n0_
              have HO_365004 := n1_
              have BK350 := n2_
              have BK352 := n3_
              have BK363 := n4_
              have BK364 := n5_
              have HI346 := n6_
              have HB := n7_
              clear n0_ n1_ n2_ n3_ n4_ n5_ n6_ n7_
              (try clear hb)
              (try clear hb2)
              (try clear hk)
              (try clear hi)
              refine hK.out _ _ ⟨(blk_cell BK363.out 0).trans rfl, (blk_cell BK363.out 1).trans rfl, (blk_cell BK363.out 2).trans rfl, (blk_cell BK363.out 3).trans rfl, (blk_cell BK363.out 4).trans rfl, (blk_cell BK364.out 0).trans rfl, (blk_cell BK364.out 1).trans rfl, (blk_cell BK364.out 2).trans rfl, (blk_cell BK364.out 3).trans rfl, (blk_cell BK364.out 4).trans rfl, (blk_cell BK350.out 0).trans rfl, (blk_cell BK350.out 1).trans rfl, (blk_cell BK350.out 2).trans rfl⟩ (fun hHeld => ?_)
              clear hK K
              refine norm_ (a' := ?_) ?_ ?_
              rotate_left
              ·show Act.put _ (some 106) _ = _
               simp only [Act.put, List.setIfInBounds_toArray, List.set_cons_zero, List.set_cons_succ, i64_w, i32_w]
               rfl
              refine pure_ (i := 23) (N := some 107) (v := ?_) (a' := ?_) Bo18_24 rfl rfl (any_of HT_.out (by kernel_rfl)) (fun _ _ _ h => h) (Or.inl ⟨by rfl, ?_⟩) ?_ ?_
              rotate_left
              ·intro w'
               go_simp
               with_reducible rfl
              rotate_left
              ·simp only [Act.put, List.setIfInBounds_toArray, List.set_cons_zero, List.set_cons_succ, i64_w, i32_w]
               rfl
              refine pure_ (i := 24) (N := some 108) (v := ?_) (a' := ?_) Bo18_25 rfl rfl (any_of HT_.out (by kernel_rfl)) (fun _ _ _ h => h) (Or.inl ⟨by rfl, ?_⟩) ?_ ?_
              rotate_left
              ·intro w'
               go_simp
               with_reducible rfl
              rotate_left
              ·simp only [Act.put, List.setIfInBounds_toArray, List.set_cons_zero, List.set_cons_succ, i64_w, i32_w]
               rfl
              refine done_ (done_of HT_.out (by kernel_rfl)) ?_
              try go_wp2
              go_ret
              exact ⟨by first | rfl | (simp [errW_none, errW_some] <;> rfl) | (simp [*, errW_none, errW_some] <;> rfl), by repeat (first | (with_reducible first | exact HB.out | apply cA | apply cN | apply cD | refine cS ?_ (IsS73.ge HI346.out) | refine cS ?_ GE350.out | refine cS ?_ GE352.out | refine cS ?_ GE363.out | refine cS ?_ GE364.out) | exact HB.out)⟩
            ·rw [if_neg c105] at H
             have c105b0 : (t389 == x351002_17) = false := beq_eq_false_iff_ne.mpr c105
             have c105b1 : (t389 != x351002_17) = true := bne_iff_ne.mpr c105
             obtain rfl := Option.some.inj H
             try go_wp2
             have n0_ := Aside0.mk (Kd.R_drew HO_364004.out)
             have n1_ := Aside0.mk (Kd.R_drew HO_365004.out)
             have n2_ := Aside0.mk (bD BK350.out)
             have n3_ := Aside0.mk (bD BK352.out)
             have n4_ := Aside0.mk (bD BK363.out)
             have n5_ := Aside0.mk (bD BK364.out)
             have n6_ := Aside0.mk (sD HI346.out)
             have n7_ := Aside0.mk (cD HB.out)
             clear HO_364004
             clear HO_365004
             clear BK350
             clear BK352
             clear BK363
             clear BK364
             clear HI346
             clear HB
             have HO_364004 := n0_
             have HO_365004 := n1_
             have BK350 := n2_
             have BK352 := n3_
             have BK363 := n4_
             have BK364 := n5_
             have HI346 := n6_
             have HB := n7_
             clear n0_ n1_ n2_ n3_ n4_ n5_ n6_ n7_
             obtain ⟨Ao126, co126, eo126⟩ := Kd.R_slice HO_365004.out
             (first | subst eo126 | (injection eo126 with f1_ f2_ f3_; have f4_ := f1_.symm; have f5_ := f3_.symm; clear f1_ f2_ f3_; subst f4_; subst f5_))
             refine start_ (n := 25) (S := fun w' => w'.cell? ⟨gb363, 0, none⟩ = some (.int .u8 t353) ∧ w'.cell? ⟨gb363, 1, none⟩ = some (.int .u64 t354) ∧ w'.cell? ⟨gb363, 2, none⟩ = some (.int .i64 t355) ∧ w'.cell? ⟨gb363, 3, none⟩ = some (.string t356) ∧ w'.cell? ⟨gb363, 4, none⟩ = some (.slice Ao29 t357.length co29) ∧ w'.cell? ⟨gb364, 0, none⟩ = some (.int .u8 ((rd_T32 l1 x7_2).f0)) ∧ w'.cell? ⟨gb364, 1, none⟩ = some (.int .u64 x365001_17) ∧ w'.cell? ⟨gb364, 2, none⟩ = some (.int .i64 x365002_17) ∧ w'.cell? ⟨gb364, 3, none⟩ = some (.string x365003_17) ∧ w'.cell? ⟨gb364, 4, none⟩ = some (.slice Ao126 x365004_17.length co126) ∧ w'.cell? ⟨gb350, 0, none⟩ = some (.string x351000_17) ∧ w'.cell? ⟨gb350, 1, none⟩ = some (.int .i64 x351001_17) ∧ w'.cell? ⟨gb350, 2, none⟩ = some (.int .i64 x351002_17)) (ds := []) Bo18_0 (by kernel_rfl) rfl rfl ⟨(blk_cell BK363.out 0).trans rfl, (blk_cell BK363.out 1).trans rfl, (blk_cell BK363.out 2).trans rfl, (blk_cell BK363.out 3).trans rfl, (blk_cell BK363.out 4).trans rfl, (blk_cell BK364.out 0).trans rfl, (blk_cell BK364.out 1).trans rfl, (blk_cell BK364.out 2).trans rfl, (blk_cell BK364.out 3).trans rfl, (blk_cell BK364.out 4).trans rfl, (blk_cell BK350.out 0).trans rfl, (blk_cell BK350.out 1).trans rfl, (blk_cell BK350.out 2).trans rfl⟩ (fun hHeld => ?_); refine with_tabW sawmilllaw05_WireReads.tab19 sawmilllaw05_WireReads.bits19 (fun HT_ HW_ => ?_)
             generalize wc.drew = w125 at HO_364004 HO_365004 BK350 BK352 BK363 BK364 HI346 HB hHeld ⊢
             refine take_ (i := 0) (N := some 84) (v := ?_) (a' := ?_) Bo18_1 rfl rfl (take_ofW HT_.out HW_.out (by kernel_rfl)) (fun _ _ _ h => h) (Or.inl ⟨by rfl, ?_⟩) hHeld ?_ ?_
             rotate_left
             ·rintro w' ⟨s0, s1, s2, s3, s4, s5, s6, s7, s8, s9, s10, s11, s12⟩
              go_simp
              with_reducible rfl
             rotate_left
             ·simp only [Act.put, List.setIfInBounds_toArray, List.set_cons_zero, List.set_cons_succ, i64_w, i32_w]
              rfl
             refine take_ (i := 1) (N := some 85) (v := ?_) (a' := ?_) Bo18_2 rfl rfl (take_ofW HT_.out HW_.out (by kernel_rfl)) (fun _ _ _ h => h) (Or.inl ⟨by rfl, ?_⟩) hHeld ?_ ?_
             rotate_left
             ·rintro w' ⟨s0, s1, s2, s3, s4, s5, s6, s7, s8, s9, s10, s11, s12⟩
              go_simp
              with_reducible rfl
             rotate_left
             ·simp only [Act.put, List.setIfInBounds_toArray, List.set_cons_zero, List.set_cons_succ, i64_w, i32_w]
              rfl
             refine one_ (i := 2) (N := some 86) Bo18_3 rfl rfl (one_of HT_.out (by kernel_rfl)) (by decide) (fun K hK => ?_)
             refine goes_ Try.func32 (by kernel_rfl) rfl #[.agg #[.int .u8 t353, .int .u64 t354, .int .i64 t355, .string t356, .slice Ao29 t357.length co29], .agg #[.int .u8 ((rd_T32 l1 x7_2).f0), .int .u64 x365001_17, .int .i64 x365002_17, .string x365003_17, .slice Ao126 x365004_17.length co126]] (by rfl) rfl rfl (by (try simp only [List.map_toArray, List.map_cons, List.map_nil]); first | done | rfl | (simp only [List.length_drop, List.length_take]; rfl)) ?_
             with_reducible refine (sawmilllaw05_same.calls kj17 t353 t354 t355 t356 _ _ t357 ((rd_T32 l1 x7_2).f0) x365001_17 x365002_17 x365003_17 _ _ x365004_17 true _ ?side1 ?side2 ?side3 ?side4 A99.out).mono ?_
             (case side1 => repeat (first | exact (Kd.R_reads' HO_364004.out).2.2 | (with_reducible refine Kd.C_alloc ?_ _) | (with_reducible refine Kd.C_drewN ?_ _) | (with_reducible refine Kd.C_drew ?_)))
             (case side2 => exact (Kd.R_reads' HO_364004.out).2.1)
             (case side3 => repeat (first | exact (Kd.R_reads' HO_365004.out).2.2 | (with_reducible refine Kd.C_alloc ?_ _) | (with_reducible refine Kd.C_drewN ?_ _) | (with_reducible refine Kd.C_drew ?_)))
             (case side4 => exact (Kd.R_reads' HO_365004.out).2.1)
             rintro e w127 ⟨rfl, hb⟩
             refine ⟨_, rfl, ?_⟩
             have n0_ := Aside0.mk (Kd.R_below (by (with_reducible repeat (first | apply Kd.R_alloc | apply Kd.R_drewN | apply Kd.R_drew)); exact HO_364004.out) hb)
             have n1_ := Aside0.mk (Kd.R_below (by (with_reducible repeat (first | apply Kd.R_alloc | apply Kd.R_drewN | apply Kd.R_drew)); exact HO_365004.out) hb)
             have n2_ := Aside0.mk (blk_below (Up.blk BK350.out) hb)
             have n3_ := Aside0.mk (blk_below (Up.blk BK352.out) hb)
             have n4_ := Aside0.mk (blk_below (Up.blk BK363.out) hb)
             have n5_ := Aside0.mk (blk_below (Up.blk BK364.out) hb)
             have n6_ := Aside0.mk (IsS73.below (by repeat (first | (with_reducible first | exact HI346.out | apply sA | apply sN | apply sD | apply s0 | apply s1 | apply s2 | refine sF ?_ NB346_350.out _ | refine sF ?_ NB346_352.out _ | refine sF ?_ NB346_363.out _ | refine sF ?_ NB346_364.out _) | exact HI346.out)) hb)
             have n7_ := Aside0.mk (below_step (by repeat (first | (with_reducible first | exact HB.out | apply cA | apply cN | apply cD | refine cS ?_ (IsS73.ge HI346.out) | refine cS ?_ GE350.out | refine cS ?_ GE352.out | refine cS ?_ GE363.out | refine cS ?_ GE364.out) | exact HB.out)) hb)
             clear HO_364004
             clear HO_365004
             clear BK350
             clear BK352
             clear BK363
             clear BK364
             clear HI346
             clear HB
             have HO_364004 := n0_
             have HO_365004 := n1_
             have BK350 := n2_
             have BK352 := n3_
             have BK363 := n4_
             have BK364 := n5_
             have HI346 := n6_
             have HB := n7_
             clear n0_ n1_ n2_ n3_ n4_ n5_ n6_ n7_
             (try clear hb)
             (try clear hb2)
             (try clear hk)
             (try clear hi)
             refine hK.out _ _ ⟨(blk_cell BK363.out 0).trans rfl, (blk_cell BK363.out 1).trans rfl, (blk_cell BK363.out 2).trans rfl, (blk_cell BK363.out 3).trans rfl, (blk_cell BK363.out 4).trans rfl, (blk_cell BK364.out 0).trans rfl, (blk_cell BK364.out 1).trans rfl, (blk_cell BK364.out 2).trans rfl, (blk_cell BK364.out 3).trans rfl, (blk_cell BK364.out 4).trans rfl, (blk_cell BK350.out 0).trans rfl, (blk_cell BK350.out 1).trans rfl, (blk_cell BK350.out 2).trans rfl⟩ (fun hHeld => ?_)
             clear hK K
             refine norm_ (a' := ?_) ?_ ?_
             rotate_left
             ·show Act.put _ (some 86) _ = _
              simp only [Act.put, List.setIfInBounds_toArray, List.set_cons_zero, List.set_cons_succ, i64_w, i32_w]
              rfl
             refine pure_ (i := 3) (N := some 87) (v := ?_) (a' := ?_) Bo18_4 rfl rfl (any_of HT_.out (by kernel_rfl)) (fun _ _ _ h => h) (Or.inl ⟨by rfl, ?_⟩) ?_ ?_
             rotate_left
             ·intro w'
              go_simp
              with_reducible rfl
             rotate_left
             ·simp only [Act.put, List.setIfInBounds_toArray, List.set_cons_zero, List.set_cons_succ, i64_w, i32_w]
              rfl
             refine pure_ (i := 4) (N := some 88) (v := ?_) (a' := ?_) Bo18_5 rfl rfl (any_of HT_.out (by kernel_rfl)) (fun _ _ _ h => h) (Or.inl ⟨by rfl, ?_⟩) ?_ ?_
             rotate_left
             ·intro w'
              go_simp
              with_reducible rfl
             rotate_left
             ·simp only [Act.put, List.setIfInBounds_toArray, List.set_cons_zero, List.set_cons_succ, i64_w, i32_w]
              rfl
             refine pure_ (i := 5) (N := some 89) (v := ?_) (a' := ?_) Bo18_6 rfl rfl (any_of HT_.out (by kernel_rfl)) (fun _ _ _ h => h) (Or.inl ⟨by rfl, ?_⟩) ?_ ?_
             rotate_left
             ·intro w'
              go_simp
              with_reducible rfl
             rotate_left
             ·simp only [Act.put, List.setIfInBounds_toArray, List.set_cons_zero, List.set_cons_succ, i64_w, i32_w]
              rfl
             refine take_ (i := 7) (N := some 91) (v := ?_) (a' := ?_) Bo18_7 rfl rfl (take_ofW HT_.out HW_.out (by kernel_rfl)) (fun _ _ _ h => h) (Or.inl ⟨by rfl, ?_⟩) hHeld ?_ ?_
             rotate_left
             ·rintro w' ⟨s0, s1, s2, s3, s4, s5, s6, s7, s8, s9, s10, s11, s12⟩
              go_simp
              with_reducible rfl
             rotate_left
             ·simp only [Act.put, List.setIfInBounds_toArray, List.set_cons_zero, List.set_cons_succ, i64_w, i32_w]
              rfl
             refine one_ (i := 6) (N := some 90) Bo18_8 rfl rfl (one_of HT_.out (by kernel_rfl)) (by decide) (fun K hK => ?_)
             refine goes_ Try.func24 (by kernel_rfl) rfl #[.pointer (some ⟨g346, 0, none⟩)] (by rfl) rfl rfl (by (try simp only [List.map_toArray, List.map_cons, List.map_nil]); first | done | rfl | (simp only [List.length_drop, List.length_take]; rfl)) ?_
             with_reducible refine (wire_Reader_Left.calls g346 t360 t361 t362 t384 t385 t386 t387 w _ ?side1 ?side2 A101.out).mono ?_
             (case side1 => repeat (first | (with_reducible first | exact HI346.out | apply sA | apply sN | apply sD | apply s0 | apply s1 | apply s2 | refine sF ?_ NB346_350.out _ | refine sF ?_ NB346_352.out _ | refine sF ?_ NB346_363.out _ | refine sF ?_ NB346_364.out _) | exact HI346.out))
             (case side2 => repeat (first | (with_reducible first | exact HB.out | apply cA | apply cN | apply cD | refine cS ?_ (IsS73.ge HI346.out) | refine cS ?_ GE350.out | refine cS ?_ GE352.out | refine cS ?_ GE363.out | refine cS ?_ GE364.out) | exact HB.out))
             rintro e w128 ⟨rfl, hi, hb, hk⟩
             refine ⟨_, rfl, ?_⟩
             have n0_ := Aside0.mk (Kd.R_mono (Kd.R_keep (IsS73.apart (show IsS73 w _ g346 t360 t361 t362 from by repeat (first | (with_reducible first | exact HI346.out | apply sA | apply sN | apply sD | apply s0 | apply s1 | apply s2 | refine sF ?_ NB346_350.out _ | refine sF ?_ NB346_352.out _ | refine sF ?_ NB346_363.out _ | refine sF ?_ NB346_364.out _) | exact HI346.out)) (by (with_reducible repeat (first | apply Kd.R_alloc | apply Kd.R_drewN | apply Kd.R_drew)); exact HO_364004.out) (by decide)) hk (fun _ h => h.2)) (fun _ h => h.1))
             have n1_ := Aside0.mk (Kd.R_mono (Kd.R_keep (IsS73.apart (show IsS73 w _ g346 t360 t361 t362 from by repeat (first | (with_reducible first | exact HI346.out | apply sA | apply sN | apply sD | apply s0 | apply s1 | apply s2 | refine sF ?_ NB346_350.out _ | refine sF ?_ NB346_352.out _ | refine sF ?_ NB346_363.out _ | refine sF ?_ NB346_364.out _) | exact HI346.out)) (by (with_reducible repeat (first | apply Kd.R_alloc | apply Kd.R_drewN | apply Kd.R_drew)); exact HO_365004.out) (by decide)) hk (fun _ h => h.2)) (fun _ h => h.1))
             have n2_ := Aside0.mk (KeepBut.blk hk (g' := gb350) (o := .cells #[.string x351000_17, .int .i64 x351001_17, .int .i64 x351002_17] 42 (0, 0)) (Up.blk BK350.out) NB350_346.out (by simp))
             have n3_ := Aside0.mk (KeepBut.blk hk (g' := gb352) (o := .cells #[.int .u8 ((rd_T32 l1 x7_2).f0), .int .i64 ((rd_T32 l1 x7_2).f1), .int .i64 ((rd_T32 l1 x7_2).f2), .int .i64 ((rd_T32 l1 x7_2).f3)] 32 (0, 0)) (Up.blk BK352.out) NB352_346.out (by simp))
             have n4_ := Aside0.mk (KeepBut.blk hk (g' := gb363) (o := .cells #[.int .u8 t353, .int .u64 t354, .int .i64 t355, .string t356, .slice Ao29 t357.length co29] 45 (0, 0)) (Up.blk BK363.out) NB363_346.out (by simp))
             have n5_ := Aside0.mk (KeepBut.blk hk (g' := gb364) (o := .cells #[.int .u8 ((rd_T32 l1 x7_2).f0), .int .u64 x365001_17, .int .i64 x365002_17, .string x365003_17, .slice Ao126 x365004_17.length co126] 45 (0, 0)) (Up.blk BK364.out) NB364_346.out (by simp))
             have n6_ := Aside0.mk (hb)
             have n7_ := Aside0.mk (hi)
             clear HO_364004
             clear HO_365004
             clear BK350
             clear BK352
             clear BK363
             clear BK364
             clear HB
             clear HI346
             have HO_364004 := n0_
             have HO_365004 := n1_
             have BK350 := n2_
             have BK352 := n3_
             have BK363 := n4_
             have BK364 := n5_
             have HB := n6_
             have HI346 := n7_
             clear n0_ n1_ n2_ n3_ n4_ n5_ n6_ n7_
             (try clear hb)
             (try clear hb2)
             (try clear hk)
             (try clear hi)
             refine hK.out _ _ ⟨(blk_cell BK363.out 0).trans rfl, (blk_cell BK363.out 1).trans rfl, (blk_cell BK363.out 2).trans rfl, (blk_cell BK363.out 3).trans rfl, (blk_cell BK363.out 4).trans rfl, (blk_cell BK364.out 0).trans rfl, (blk_cell BK364.out 1).trans rfl, (blk_cell BK364.out 2).trans rfl, (blk_cell BK364.out 3).trans rfl, (blk_cell BK364.out 4).trans rfl, (blk_cell BK350.out 0).trans rfl, (blk_cell BK350.out 1).trans rfl, (blk_cell BK350.out 2).trans rfl⟩ (fun hHeld => ?_)
             clear hK K
             refine norm_ (a' := ?_) ?_ ?_
             rotate_left
             ·show Act.put _ (some 90) _ = _
              simp only [Act.put, List.setIfInBounds_toArray, List.set_cons_zero, List.set_cons_succ, i64_w, i32_w]
              rfl
             refine one_ (i := 8) (N := some 92) Bo18_9 rfl rfl (one_of HT_.out (by kernel_rfl)) (by decide) (fun K hK => ?_)
             refine goes_ Try.func33 (by kernel_rfl) rfl #[.agg #[.string x351000_17, .int .i64 x351001_17, .int .i64 x351002_17]] (by rfl) rfl rfl (by (try simp only [List.map_toArray, List.map_cons, List.map_nil]); first | done | rfl | (simp only [List.length_drop, List.length_take]; rfl)) ?_
             with_reducible refine (sawmillref05_Left.calls x351000_17 x351001_17 x351002_17 t388 _ A102.out).mono ?_
             rintro e w129 ⟨rfl, hb⟩
             refine ⟨_, rfl, ?_⟩
             have n0_ := Aside0.mk (Kd.R_below (by (with_reducible repeat (first | apply Kd.R_alloc | apply Kd.R_drewN | apply Kd.R_drew)); exact HO_364004.out) hb)
             have n1_ := Aside0.mk (Kd.R_below (by (with_reducible repeat (first | apply Kd.R_alloc | apply Kd.R_drewN | apply Kd.R_drew)); exact HO_365004.out) hb)
             have n2_ := Aside0.mk (blk_below (Up.blk BK350.out) hb)
             have n3_ := Aside0.mk (blk_below (Up.blk BK352.out) hb)
             have n4_ := Aside0.mk (blk_below (Up.blk BK363.out) hb)
             have n5_ := Aside0.mk (blk_below (Up.blk BK364.out) hb)
             have n6_ := Aside0.mk (IsS73.below (by repeat (first | (with_reducible first | exact HI346.out | apply sA | apply sN | apply sD | apply s0 | apply s1 | apply s2 | refine sF ?_ NB346_350.out _ | refine sF ?_ NB346_352.out _ | refine sF ?_ NB346_363.out _ | refine sF ?_ NB346_364.out _) | exact HI346.out)) hb)
             have n7_ := Aside0.mk (below_step (by repeat (first | (with_reducible first | exact HB.out | apply cA | apply cN | apply cD | refine cS ?_ (IsS73.ge HI346.out) | refine cS ?_ GE350.out | refine cS ?_ GE352.out | refine cS ?_ GE363.out | refine cS ?_ GE364.out) | exact HB.out)) hb)
             clear HO_364004
             clear HO_365004
             clear BK350
             clear BK352
             clear BK363
             clear BK364
             clear HI346
             clear HB
             have HO_364004 := n0_
             have HO_365004 := n1_
             have BK350 := n2_
             have BK352 := n3_
             have BK363 := n4_
             have BK364 := n5_
             have HI346 := n6_
             have HB := n7_
             clear n0_ n1_ n2_ n3_ n4_ n5_ n6_ n7_
             (try clear hb)
             (try clear hb2)
             (try clear hk)
             (try clear hi)
             refine hK.out _ _ ⟨(blk_cell BK363.out 0).trans rfl, (blk_cell BK363.out 1).trans rfl, (blk_cell BK363.out 2).trans rfl, (blk_cell BK363.out 3).trans rfl, (blk_cell BK363.out 4).trans rfl, (blk_cell BK364.out 0).trans rfl, (blk_cell BK364.out 1).trans rfl, (blk_cell BK364.out 2).trans rfl, (blk_cell BK364.out 3).trans rfl, (blk_cell BK364.out 4).trans rfl, (blk_cell BK350.out 0).trans rfl, (blk_cell BK350.out 1).trans rfl, (blk_cell BK350.out 2).trans rfl⟩ (fun hHeld => ?_)
             clear hK K
             refine norm_ (a' := ?_) ?_ ?_
             rotate_left
             ·show Act.put _ (some 92) _ = _
              simp only [Act.put, List.setIfInBounds_toArray, List.set_cons_zero, List.set_cons_succ, i64_w, i32_w]
              rfl
             refine pure_ (i := 9) (N := some 93) (v := ?_) (a' := ?_) Bo18_10 rfl rfl (any_of HT_.out (by kernel_rfl)) (fun _ _ _ h => h) (Or.inl ⟨by rfl, ?_⟩) ?_ ?_
             rotate_left
             ·intro w'
              go_simp
              with_reducible rfl
             rotate_left
             ·simp only [Act.put, List.setIfInBounds_toArray, List.set_cons_zero, List.set_cons_succ, i64_w, i32_w]
              rfl
             refine pure_ (i := 10) (N := some 94) (v := ?_) (a' := ?_) Bo18_11 rfl rfl (any_of HT_.out (by kernel_rfl)) (fun _ _ _ h => h) (Or.inl ⟨by rfl, ?_⟩) ?_ ?_
             rotate_left
             ·intro w'
              go_simp
              with_reducible rfl
             rotate_left
             ·simp only [Act.put, List.setIfInBounds_toArray, List.set_cons_zero, List.set_cons_succ, i64_w, i32_w]
              rfl
             refine pure_ (i := 11) (N := some 95) (v := ?_) (a' := ?_) Bo18_12 rfl rfl (any_of HT_.out (by kernel_rfl)) (fun _ _ _ h => h) (Or.inl ⟨by rfl, ?_⟩) ?_ ?_
             rotate_left
             ·intro w'
              go_simp
              with_reducible rfl
             rotate_left
             ·simp only [Act.put, List.setIfInBounds_toArray, List.set_cons_zero, List.set_cons_succ, i64_w, i32_w]
              rfl
             refine pure_ (i := 12) (N := some 96) (v := ?_) (a' := ?_) Bo18_13 rfl rfl (any_of HT_.out (by kernel_rfl)) (fun _ _ _ h => h) (Or.inl ⟨by rfl, ?_⟩) ?_ ?_
             rotate_left
             ·intro w'
              go_simp
              with_reducible rfl
             rotate_left
             ·simp only [Act.put, List.setIfInBounds_toArray, List.set_cons_zero, List.set_cons_succ, i64_w, i32_w]
              rfl
             refine pure_ (i := 14) (N := some 98) (v := ?_) (a' := ?_) Bo18_14 rfl rfl (any_of HT_.out (by kernel_rfl)) (fun _ _ _ h => h) (Or.inl ⟨by rfl, ?_⟩) ?_ ?_
             rotate_left
             ·intro w'
              go_simp
              with_reducible rfl
             rotate_left
             ·simp only [Act.put, List.setIfInBounds_toArray, List.set_cons_zero, List.set_cons_succ, i64_w, i32_w]
              rfl
             refine take_ (i := 15) (N := some 99) (v := ?_) (a' := ?_) Bo18_15 rfl rfl (take_ofW HT_.out HW_.out (by kernel_rfl)) (fun _ _ _ h => h) (Or.inl ⟨by rfl, ?_⟩) hHeld ?_ ?_
             rotate_left
             ·rintro w' ⟨s0, s1, s2, s3, s4, s5, s6, s7, s8, s9, s10, s11, s12⟩
              go_simp
              with_reducible rfl
             rotate_left
             ·simp only [Act.put, List.setIfInBounds_toArray, List.set_cons_zero, List.set_cons_succ, i64_w, i32_w]
              rfl
             refine one_ (i := 13) (N := some 97) Bo18_16 rfl rfl (one_of HT_.out (by kernel_rfl)) (by decide) (fun K hK => ?_)
             refine goes_ Try.func34 (by kernel_rfl) rfl #[.pointer (some ⟨g346, 0, none⟩)] (by rfl) rfl rfl (by (try simp only [List.map_toArray, List.map_cons, List.map_nil]); first | done | rfl | (simp only [List.length_drop, List.length_take]; rfl)) ?_
             with_reducible refine (wire_Reader_Err.calls g346 t385 t386 t387 t389 t390 t391 t392 w _ ?side1 ?side2 A104.out).mono ?_
             (case side1 => repeat (first | (with_reducible first | exact HI346.out | apply sA | apply sN | apply sD | apply s0 | apply s1 | apply s2 | refine sF ?_ NB346_350.out _ | refine sF ?_ NB346_352.out _ | refine sF ?_ NB346_363.out _ | refine sF ?_ NB346_364.out _) | exact HI346.out))
             (case side2 => repeat (first | (with_reducible first | exact HB.out | apply cA | apply cN | apply cD | refine cS ?_ (IsS73.ge HI346.out) | refine cS ?_ GE350.out | refine cS ?_ GE352.out | refine cS ?_ GE363.out | refine cS ?_ GE364.out) | exact HB.out))
             rintro e w130 ⟨rfl, hi, hb, hk⟩
             refine ⟨_, rfl, ?_⟩
             have n0_ := Aside0.mk (Kd.R_mono (Kd.R_keep (IsS73.apart (show IsS73 w _ g346 t385 t386 t387 from by repeat (first | (with_reducible first | exact HI346.out | apply sA | apply sN | apply sD | apply s0 | apply s1 | apply s2 | refine sF ?_ NB346_350.out _ | refine sF ?_ NB346_352.out _ | refine sF ?_ NB346_363.out _ | refine sF ?_ NB346_364.out _) | exact HI346.out)) (by (with_reducible repeat (first | apply Kd.R_alloc | apply Kd.R_drewN | apply Kd.R_drew)); exact HO_364004.out) (by decide)) hk (fun _ h => h.2)) (fun _ h => h.1))
             have n1_ := Aside0.mk (Kd.R_mono (Kd.R_keep (IsS73.apart (show IsS73 w _ g346 t385 t386 t387 from by repeat (first | (with_reducible first | exact HI346.out | apply sA | apply sN | apply sD | apply s0 | apply s1 | apply s2 | refine sF ?_ NB346_350.out _ | refine sF ?_ NB346_352.out _ | refine sF ?_ NB346_363.out _ | refine sF ?_ NB346_364.out _) | exact HI346.out)) (by (with_reducible repeat (first | apply Kd.R_alloc | apply Kd.R_drewN | apply Kd.R_drew)); exact HO_365004.out) (by decide)) hk (fun _ h => h.2)) (fun _ h => h.1))
             have n2_ := Aside0.mk (KeepBut.blk hk (g' := gb350) (o := .cells #[.string x351000_17, .int .i64 x351001_17, .int .i64 x351002_17] 42 (0, 0)) (Up.blk BK350.out) NB350_346.out (by simp))
             have n3_ := Aside0.mk (KeepBut.blk hk (g' := gb352) (o := .cells #[.int .u8 ((rd_T32 l1 x7_2).f0), .int .i64 ((rd_T32 l1 x7_2).f1), .int .i64 ((rd_T32 l1 x7_2).f2), .int .i64 ((rd_T32 l1 x7_2).f3)] 32 (0, 0)) (Up.blk BK352.out) NB352_346.out (by simp))
             have n4_ := Aside0.mk (KeepBut.blk hk (g' := gb363) (o := .cells #[.int .u8 t353, .int .u64 t354, .int .i64 t355, .string t356, .slice Ao29 t357.length co29] 45 (0, 0)) (Up.blk BK363.out) NB363_346.out (by simp))
             have n5_ := Aside0.mk (KeepBut.blk hk (g' := gb364) (o := .cells #[.int .u8 ((rd_T32 l1 x7_2).f0), .int .u64 x365001_17, .int .i64 x365002_17, .string x365003_17, .slice Ao126 x365004_17.length co126] 45 (0, 0)) (Up.blk BK364.out) NB364_346.out (by simp))
             have n6_ := Aside0.mk (hb)
             have n7_ := Aside0.mk (hi)
             clear HO_364004
             clear HO_365004
             clear BK350
             clear BK352
             clear BK363
             clear BK364
             clear HB
             clear HI346
             have HO_364004 := n0_
             have HO_365004 := n1_
             have BK350 := n2_
             have BK352 := n3_
             have BK363 := n4_
             have BK364 := n5_
             have HB := n6_
             have HI346 := n7_
             clear n0_ n1_ n2_ n3_ n4_ n5_ n6_ n7_
             (try clear hb)
             (try clear hb2)
             (try clear hk)
             (try clear hi)
             refine hK.out _ _ ⟨(blk_cell BK363.out 0).trans rfl, (blk_cell BK363.out 1).trans rfl, (blk_cell BK363.out 2).trans rfl, (blk_cell BK363.out 3).trans rfl, (blk_cell BK363.out 4).trans rfl, (blk_cell BK364.out 0).trans rfl, (blk_cell BK364.out 1).trans rfl, (blk_cell BK364.out 2).trans rfl, (blk_cell BK364.out 3).trans rfl, (blk_cell BK364.out 4).trans rfl, (blk_cell BK350.out 0).trans rfl, (blk_cell BK350.out 1).trans rfl, (blk_cell BK350.out 2).trans rfl⟩ (fun hHeld => ?_)
             clear hK K
             refine norm_ (a' := ?_) ?_ ?_
             rotate_left
             ·show Act.put _ (some 97) _ = _
              simp only [Act.put, List.setIfInBounds_toArray, List.set_cons_zero, List.set_cons_succ, i64_w, i32_w]
              rfl
             refine pure_ (i := 16) (N := some 100) (v := ?_) (a' := ?_) Bo18_17 rfl rfl (any_of HT_.out (by kernel_rfl)) (fun _ _ _ h => h) (Or.inl ⟨by rfl, ?_⟩) ?_ ?_
             rotate_left
             ·intro w'
              go_simp
              with_reducible rfl
             rotate_left
             ·simp only [Act.put, List.setIfInBounds_toArray, List.set_cons_zero, List.set_cons_succ, i64_w, i32_w]
              rfl
             refine pure_ (i := 17) (N := some 101) (v := ?_) (a' := ?_) Bo18_18 rfl rfl (any_of HT_.out (by kernel_rfl)) (fun _ _ _ h => h) (Or.inl ⟨by rfl, ?_⟩) ?_ ?_
             rotate_left
             ·intro w'
              go_simp
              with_reducible rfl
             rotate_left
             ·simp only [Act.put, List.setIfInBounds_toArray, List.set_cons_zero, List.set_cons_succ, i64_w, i32_w]
              rfl
             refine pure_ (i := 18) (N := some 102) (v := ?_) (a' := ?_) Bo18_19 rfl rfl (any_of HT_.out (by kernel_rfl)) (fun _ _ _ h => h) (Or.inl ⟨by rfl, ?_⟩) ?_ ?_
             rotate_left
             ·intro w'
              go_simp
              with_reducible rfl
             rotate_left
             ·simp only [Act.put, List.setIfInBounds_toArray, List.set_cons_zero, List.set_cons_succ, i64_w, i32_w]
              rfl
             refine pure_ (i := 19) (N := some 103) (v := undef) (a' := ?_) Bo18_20 rfl rfl (any_of HT_.out (by kernel_rfl)) (fun _ _ _ h => h) (Or.inr ⟨by rfl, rfl⟩) ?_ ?_
             rotate_left
             ·simp only [Act.put, List.setIfInBounds_toArray, List.set_cons_zero, List.set_cons_succ, i64_w, i32_w]
              rfl
             refine pure_ (i := 20) (N := some 104) (v := undef) (a' := ?_) Bo18_26 rfl rfl (any_of HT_.out (by kernel_rfl)) (fun _ _ _ h => h) (Or.inr ⟨by rfl, rfl⟩) ?_ ?_
             rotate_left
             ·simp only [Act.put, List.setIfInBounds_toArray, List.set_cons_zero, List.set_cons_succ, i64_w, i32_w]
              rfl
             refine pure_ (i := 21) (N := some 105) (v := undef) (a' := ?_) Bo18_22 rfl rfl (any_of HT_.out (by kernel_rfl)) (fun _ _ _ h => h) (Or.inr ⟨by rfl, rfl⟩) ?_ ?_
             rotate_left
             ·simp only [Act.put, List.setIfInBounds_toArray, List.set_cons_zero, List.set_cons_succ, i64_w, i32_w]
              rfl
             refine pure_ (i := 22) (N := some 106) (v := undef) (a' := ?_) Bo18_23 rfl rfl (any_of HT_.out (by kernel_rfl)) (fun _ _ _ h => h) (Or.inr ⟨by rfl, rfl⟩) ?_ ?_
             rotate_left
             ·simp only [Act.put, List.setIfInBounds_toArray, List.set_cons_zero, List.set_cons_succ, i64_w, i32_w]
              rfl
             refine pure_ (i := 23) (N := some 107) (v := undef) (a' := ?_) Bo18_24 rfl rfl (any_of HT_.out (by kernel_rfl)) (fun _ _ _ h => h) (Or.inr ⟨by rfl, rfl⟩) ?_ ?_
             rotate_left
             ·simp only [Act.put, List.setIfInBounds_toArray, List.set_cons_zero, List.set_cons_succ, i64_w, i32_w]
              rfl
             refine pure_ (i := 24) (N := some 108) (v := ?_) (a' := ?_) Bo18_25 rfl rfl (any_of HT_.out (by kernel_rfl)) (fun _ _ _ h => h) (Or.inl ⟨by rfl, ?_⟩) ?_ ?_
             rotate_left
             ·intro w'
              go_simp
              with_reducible rfl
             rotate_left
             ·simp only [Act.put, List.setIfInBounds_toArray, List.set_cons_zero, List.set_cons_succ, i64_w, i32_w]
              rfl
             refine done_ (done_of HT_.out (by kernel_rfl)) ?_
             try go_wp2
             go_ret
             exact ⟨by first | rfl | (simp [errW_none, errW_some] <;> rfl) | (simp [*, errW_none, errW_some] <;> rfl), by repeat (first | (with_reducible first | exact HB.out | apply cA | apply cN | apply cD | refine cS ?_ (IsS73.ge HI346.out) | refine cS ?_ GE350.out | refine cS ?_ GE352.out | refine cS ?_ GE363.out | refine cS ?_ GE364.out) | exact HB.out)⟩
           ·rw [if_neg c103] at H
            have c103b0 : (t384 == t388) = false := beq_eq_false_iff_ne.mpr c103
            have c103b1 : (t384 != t388) = true := bne_iff_ne.mpr c103
            obtain rfl := Option.some.inj H
            try go_wp2
            have n0_ := Aside0.mk (Kd.R_drew HO_364004.out)
            have n1_ := Aside0.mk (Kd.R_drew HO_365004.out)
            have n2_ := Aside0.mk (bD BK350.out)
            have n3_ := Aside0.mk (bD BK352.out)
            have n4_ := Aside0.mk (bD BK363.out)
            have n5_ := Aside0.mk (bD BK364.out)
            have n6_ := Aside0.mk (sD HI346.out)
            have n7_ := Aside0.mk (cD HB.out)
            clear HO_364004
            clear HO_365004
            clear BK350
            clear BK352
            clear BK363
            clear BK364
            clear HI346
            clear HB
            have HO_364004 := n0_
            have HO_365004 := n1_
            have BK350 := n2_
            have BK352 := n3_
            have BK363 := n4_
            have BK364 := n5_
            have HI346 := n6_
            have HB := n7_
            clear n0_ n1_ n2_ n3_ n4_ n5_ n6_ n7_
            obtain ⟨Ao132, co132, eo132⟩ := Kd.R_slice HO_365004.out
            (first | subst eo132 | (injection eo132 with f1_ f2_ f3_; have f4_ := f1_.symm; have f5_ := f3_.symm; clear f1_ f2_ f3_; subst f4_; subst f5_))
            refine start_ (n := 25) (S := fun w' => w'.cell? ⟨gb363, 0, none⟩ = some (.int .u8 t353) ∧ w'.cell? ⟨gb363, 1, none⟩ = some (.int .u64 t354) ∧ w'.cell? ⟨gb363, 2, none⟩ = some (.int .i64 t355) ∧ w'.cell? ⟨gb363, 3, none⟩ = some (.string t356) ∧ w'.cell? ⟨gb363, 4, none⟩ = some (.slice Ao29 t357.length co29) ∧ w'.cell? ⟨gb364, 0, none⟩ = some (.int .u8 ((rd_T32 l1 x7_2).f0)) ∧ w'.cell? ⟨gb364, 1, none⟩ = some (.int .u64 x365001_17) ∧ w'.cell? ⟨gb364, 2, none⟩ = some (.int .i64 x365002_17) ∧ w'.cell? ⟨gb364, 3, none⟩ = some (.string x365003_17) ∧ w'.cell? ⟨gb364, 4, none⟩ = some (.slice Ao132 x365004_17.length co132) ∧ w'.cell? ⟨gb350, 0, none⟩ = some (.string x351000_17) ∧ w'.cell? ⟨gb350, 1, none⟩ = some (.int .i64 x351001_17) ∧ w'.cell? ⟨gb350, 2, none⟩ = some (.int .i64 x351002_17)) (ds := []) Bo18_0 (by kernel_rfl) rfl rfl ⟨(blk_cell BK363.out 0).trans rfl, (blk_cell BK363.out 1).trans rfl, (blk_cell BK363.out 2).trans rfl, (blk_cell BK363.out 3).trans rfl, (blk_cell BK363.out 4).trans rfl, (blk_cell BK364.out 0).trans rfl, (blk_cell BK364.out 1).trans rfl, (blk_cell BK364.out 2).trans rfl, (blk_cell BK364.out 3).trans rfl, (blk_cell BK364.out 4).trans rfl, (blk_cell BK350.out 0).trans rfl, (blk_cell BK350.out 1).trans rfl, (blk_cell BK350.out 2).trans rfl⟩ (fun hHeld => ?_); refine with_tabW sawmilllaw05_WireReads.tab19 sawmilllaw05_WireReads.bits19 (fun HT_ HW_ => ?_)
            generalize wc.drew = w131 at HO_364004 HO_365004 BK350 BK352 BK363 BK364 HI346 HB hHeld ⊢
            refine take_ (i := 0) (N := some 84) (v := ?_) (a' := ?_) Bo18_1 rfl rfl (take_ofW HT_.out HW_.out (by kernel_rfl)) (fun _ _ _ h => h) (Or.inl ⟨by rfl, ?_⟩) hHeld ?_ ?_
            rotate_left
            ·rintro w' ⟨s0, s1, s2, s3, s4, s5, s6, s7, s8, s9, s10, s11, s12⟩
             go_simp
             with_reducible rfl
            rotate_left
            ·simp only [Act.put, List.setIfInBounds_toArray, List.set_cons_zero, List.set_cons_succ, i64_w, i32_w]
             rfl
            refine take_ (i := 1) (N := some 85) (v := ?_) (a' := ?_) Bo18_2 rfl rfl (take_ofW HT_.out HW_.out (by kernel_rfl)) (fun _ _ _ h => h) (Or.inl ⟨by rfl, ?_⟩) hHeld ?_ ?_
            rotate_left
            ·rintro w' ⟨s0, s1, s2, s3, s4, s5, s6, s7, s8, s9, s10, s11, s12⟩
             go_simp
             with_reducible rfl
            rotate_left
            ·simp only [Act.put, List.setIfInBounds_toArray, List.set_cons_zero, List.set_cons_succ, i64_w, i32_w]
             rfl
            refine one_ (i := 2) (N := some 86) Bo18_3 rfl rfl (one_of HT_.out (by kernel_rfl)) (by decide) (fun K hK => ?_)
            refine goes_ Try.func32 (by kernel_rfl) rfl #[.agg #[.int .u8 t353, .int .u64 t354, .int .i64 t355, .string t356, .slice Ao29 t357.length co29], .agg #[.int .u8 ((rd_T32 l1 x7_2).f0), .int .u64 x365001_17, .int .i64 x365002_17, .string x365003_17, .slice Ao132 x365004_17.length co132]] (by rfl) rfl rfl (by (try simp only [List.map_toArray, List.map_cons, List.map_nil]); first | done | rfl | (simp only [List.length_drop, List.length_take]; rfl)) ?_
            with_reducible refine (sawmilllaw05_same.calls kj17 t353 t354 t355 t356 _ _ t357 ((rd_T32 l1 x7_2).f0) x365001_17 x365002_17 x365003_17 _ _ x365004_17 true _ ?side1 ?side2 ?side3 ?side4 A99.out).mono ?_
            (case side1 => repeat (first | exact (Kd.R_reads' HO_364004.out).2.2 | (with_reducible refine Kd.C_alloc ?_ _) | (with_reducible refine Kd.C_drewN ?_ _) | (with_reducible refine Kd.C_drew ?_)))
            (case side2 => exact (Kd.R_reads' HO_364004.out).2.1)
            (case side3 => repeat (first | exact (Kd.R_reads' HO_365004.out).2.2 | (with_reducible refine Kd.C_alloc ?_ _) | (with_reducible refine Kd.C_drewN ?_ _) | (with_reducible refine Kd.C_drew ?_)))
            (case side4 => exact (Kd.R_reads' HO_365004.out).2.1)
            rintro e w133 ⟨rfl, hb⟩
            refine ⟨_, rfl, ?_⟩
            have n0_ := Aside0.mk (Kd.R_below (by (with_reducible repeat (first | apply Kd.R_alloc | apply Kd.R_drewN | apply Kd.R_drew)); exact HO_364004.out) hb)
            have n1_ := Aside0.mk (Kd.R_below (by (with_reducible repeat (first | apply Kd.R_alloc | apply Kd.R_drewN | apply Kd.R_drew)); exact HO_365004.out) hb)
            have n2_ := Aside0.mk (blk_below (Up.blk BK350.out) hb)
            have n3_ := Aside0.mk (blk_below (Up.blk BK352.out) hb)
            have n4_ := Aside0.mk (blk_below (Up.blk BK363.out) hb)
            have n5_ := Aside0.mk (blk_below (Up.blk BK364.out) hb)
            have n6_ := Aside0.mk (IsS73.below (by repeat (first | (with_reducible first | exact HI346.out | apply sA | apply sN | apply sD | apply s0 | apply s1 | apply s2 | refine sF ?_ NB346_350.out _ | refine sF ?_ NB346_352.out _ | refine sF ?_ NB346_363.out _ | refine sF ?_ NB346_364.out _) | exact HI346.out)) hb)
            have n7_ := Aside0.mk (below_step (by repeat (first | (with_reducible first | exact HB.out | apply cA | apply cN | apply cD | refine cS ?_ (IsS73.ge HI346.out) | refine cS ?_ GE350.out | refine cS ?_ GE352.out | refine cS ?_ GE363.out | refine cS ?_ GE364.out) | exact HB.out)) hb)
            clear HO_364004
            clear HO_365004
            clear BK350
            clear BK352
            clear BK363
            clear BK364
            clear HI346
            clear HB
            have HO_364004 := n0_
            have HO_365004 := n1_
            have BK350 := n2_
            have BK352 := n3_
            have BK363 := n4_
            have BK364 := n5_
            have HI346 := n6_
            have HB := n7_
            clear n0_ n1_ n2_ n3_ n4_ n5_ n6_ n7_
            (try clear hb)
            (try clear hb2)
            (try clear hk)
            (try clear hi)
            refine hK.out _ _ ⟨(blk_cell BK363.out 0).trans rfl, (blk_cell BK363.out 1).trans rfl, (blk_cell BK363.out 2).trans rfl, (blk_cell BK363.out 3).trans rfl, (blk_cell BK363.out 4).trans rfl, (blk_cell BK364.out 0).trans rfl, (blk_cell BK364.out 1).trans rfl, (blk_cell BK364.out 2).trans rfl, (blk_cell BK364.out 3).trans rfl, (blk_cell BK364.out 4).trans rfl, (blk_cell BK350.out 0).trans rfl, (blk_cell BK350.out 1).trans rfl, (blk_cell BK350.out 2).trans rfl⟩ (fun hHeld => ?_)
            clear hK K
            refine norm_ (a' := ?_) ?_ ?_
            rotate_left
            ·show Act.put _ (some 86) _ = _
             simp only [Act.put, List.setIfInBounds_toArray, List.set_cons_zero, List.set_cons_succ, i64_w, i32_w]
             rfl
            refine pure_ (i := 3) (N := some 87) (v := ?_) (a' := ?_) Bo18_4 rfl rfl (any_of HT_.out (by kernel_rfl)) (fun _ _ _ h => h) (Or.inl ⟨by rfl, ?_⟩) ?_ ?_
            rotate_left
            ·intro w'
             go_simp
             with_reducible rfl
            rotate_left
            ·simp only [Act.put, List.setIfInBounds_toArray, List.set_cons_zero, List.set_cons_succ, i64_w, i32_w]
             rfl
            refine pure_ (i := 4) (N := some 88) (v := ?_) (a' := ?_) Bo18_5 rfl rfl (any_of HT_.out (by kernel_rfl)) (fun _ _ _ h => h) (Or.inl ⟨by rfl, ?_⟩) ?_ ?_
            rotate_left
            ·intro w'
             go_simp
             with_reducible rfl
            rotate_left
            ·simp only [Act.put, List.setIfInBounds_toArray, List.set_cons_zero, List.set_cons_succ, i64_w, i32_w]
             rfl
            refine pure_ (i := 5) (N := some 89) (v := ?_) (a' := ?_) Bo18_6 rfl rfl (any_of HT_.out (by kernel_rfl)) (fun _ _ _ h => h) (Or.inl ⟨by rfl, ?_⟩) ?_ ?_
            rotate_left
            ·intro w'
             go_simp
             with_reducible rfl
            rotate_left
            ·simp only [Act.put, List.setIfInBounds_toArray, List.set_cons_zero, List.set_cons_succ, i64_w, i32_w]
             rfl
            refine take_ (i := 7) (N := some 91) (v := ?_) (a' := ?_) Bo18_7 rfl rfl (take_ofW HT_.out HW_.out (by kernel_rfl)) (fun _ _ _ h => h) (Or.inl ⟨by rfl, ?_⟩) hHeld ?_ ?_
            rotate_left
            ·rintro w' ⟨s0, s1, s2, s3, s4, s5, s6, s7, s8, s9, s10, s11, s12⟩
             go_simp
             with_reducible rfl
            rotate_left
            ·simp only [Act.put, List.setIfInBounds_toArray, List.set_cons_zero, List.set_cons_succ, i64_w, i32_w]
             rfl
            refine one_ (i := 6) (N := some 90) Bo18_8 rfl rfl (one_of HT_.out (by kernel_rfl)) (by decide) (fun K hK => ?_)
            refine goes_ Try.func24 (by kernel_rfl) rfl #[.pointer (some ⟨g346, 0, none⟩)] (by rfl) rfl rfl (by (try simp only [List.map_toArray, List.map_cons, List.map_nil]); first | done | rfl | (simp only [List.length_drop, List.length_take]; rfl)) ?_
            with_reducible refine (wire_Reader_Left.calls g346 t360 t361 t362 t384 t385 t386 t387 w _ ?side1 ?side2 A101.out).mono ?_
            (case side1 => repeat (first | (with_reducible first | exact HI346.out | apply sA | apply sN | apply sD | apply s0 | apply s1 | apply s2 | refine sF ?_ NB346_350.out _ | refine sF ?_ NB346_352.out _ | refine sF ?_ NB346_363.out _ | refine sF ?_ NB346_364.out _) | exact HI346.out))
            (case side2 => repeat (first | (with_reducible first | exact HB.out | apply cA | apply cN | apply cD | refine cS ?_ (IsS73.ge HI346.out) | refine cS ?_ GE350.out | refine cS ?_ GE352.out | refine cS ?_ GE363.out | refine cS ?_ GE364.out) | exact HB.out))
            rintro e w134 ⟨rfl, hi, hb, hk⟩
            refine ⟨_, rfl, ?_⟩
            have n0_ := Aside0.mk (Kd.R_mono (Kd.R_keep (IsS73.apart (show IsS73 w _ g346 t360 t361 t362 from by repeat (first | (with_reducible first | exact HI346.out | apply sA | apply sN | apply sD | apply s0 | apply s1 | apply s2 | refine sF ?_ NB346_350.out _ | refine sF ?_ NB346_352.out _ | refine sF ?_ NB346_363.out _ | refine sF ?_ NB346_364.out _) | exact HI346.out)) (by (with_reducible repeat (first | apply Kd.R_alloc | apply Kd.R_drewN | apply Kd.R_drew)); exact HO_364004.out) (by decide)) hk (fun _ h => h.2)) (fun _ h => h.1))
            have n1_ := Aside0.mk (Kd.R_mono (Kd.R_keep (IsS73.apart (show IsS73 w _ g346 t360 t361 t362 from by repeat (first | (with_reducible first | exact HI346.out | apply sA | apply sN | apply sD | apply s0 | apply s1 | apply s2 | refine sF ?_ NB346_350.out _ | refine sF ?_ NB346_352.out _ | refine sF ?_ NB346_363.out _ | refine sF ?_ NB346_364.out _) | exact HI346.out)) (by (with_reducible repeat (first | apply Kd.R_alloc | apply Kd.R_drewN | apply Kd.R_drew)); exact HO_365004.out) (by decide)) hk (fun _ h => h.2)) (fun _ h => h.1))
            have n2_ := Aside0.mk (KeepBut.blk hk (g' := gb350) (o := .cells #[.string x351000_17, .int .i64 x351001_17, .int .i64 x351002_17] 42 (0, 0)) (Up.blk BK350.out) NB350_346.out (by simp))
            have n3_ := Aside0.mk (KeepBut.blk hk (g' := gb352) (o := .cells #[.int .u8 ((rd_T32 l1 x7_2).f0), .int .i64 ((rd_T32 l1 x7_2).f1), .int .i64 ((rd_T32 l1 x7_2).f2), .int .i64 ((rd_T32 l1 x7_2).f3)] 32 (0, 0)) (Up.blk BK352.out) NB352_346.out (by simp))
            have n4_ := Aside0.mk (KeepBut.blk hk (g' := gb363) (o := .cells #[.int .u8 t353, .int .u64 t354, .int .i64 t355, .string t356, .slice Ao29 t357.length co29] 45 (0, 0)) (Up.blk BK363.out) NB363_346.out (by simp))
            have n5_ := Aside0.mk (KeepBut.blk hk (g' := gb364) (o := .cells #[.int .u8 ((rd_T32 l1 x7_2).f0), .int .u64 x365001_17, .int .i64 x365002_17, .string x365003_17, .slice Ao132 x365004_17.length co132] 45 (0, 0)) (Up.blk BK364.out) NB364_346.out (by simp))
            have n6_ := Aside0.mk (hb)
            have n7_ := Aside0.mk (hi)
            clear HO_364004
            clear HO_365004
            clear BK350
            clear BK352
            clear BK363
            clear BK364
            clear HB
            clear HI346
            have HO_364004 := n0_
            have HO_365004 := n1_
            have BK350 := n2_
            have BK352 := n3_
            have BK363 := n4_
            have BK364 := n5_
            have HB := n6_
            have HI346 := n7_
            clear n0_ n1_ n2_ n3_ n4_ n5_ n6_ n7_
            (try clear hb)
            (try clear hb2)
            (try clear hk)
            (try clear hi)
            refine hK.out _ _ ⟨(blk_cell BK363.out 0).trans rfl, (blk_cell BK363.out 1).trans rfl, (blk_cell BK363.out 2).trans rfl, (blk_cell BK363.out 3).trans rfl, (blk_cell BK363.out 4).trans rfl, (blk_cell BK364.out 0).trans rfl, (blk_cell BK364.out 1).trans rfl, (blk_cell BK364.out 2).trans rfl, (blk_cell BK364.out 3).trans rfl, (blk_cell BK364.out 4).trans rfl, (blk_cell BK350.out 0).trans rfl, (blk_cell BK350.out 1).trans rfl, (blk_cell BK350.out 2).trans rfl⟩ (fun hHeld => ?_)
            clear hK K
            refine norm_ (a' := ?_) ?_ ?_
            rotate_left
            ·show Act.put _ (some 90) _ = _
             simp only [Act.put, List.setIfInBounds_toArray, List.set_cons_zero, List.set_cons_succ, i64_w, i32_w]
             rfl
            refine one_ (i := 8) (N := some 92) Bo18_9 rfl rfl (one_of HT_.out (by kernel_rfl)) (by decide) (fun K hK => ?_)
            refine goes_ Try.func33 (by kernel_rfl) rfl #[.agg #[.string x351000_17, .int .i64 x351001_17, .int .i64 x351002_17]] (by rfl) rfl rfl (by (try simp only [List.map_toArray, List.map_cons, List.map_nil]); first | done | rfl | (simp only [List.length_drop, List.length_take]; rfl)) ?_
            with_reducible refine (sawmillref05_Left.calls x351000_17 x351001_17 x351002_17 t388 _ A102.out).mono ?_
            rintro e w135 ⟨rfl, hb⟩
            refine ⟨_, rfl, ?_⟩
            have n0_ := Aside0.mk (Kd.R_below (by (with_reducible repeat (first | apply Kd.R_alloc | apply Kd.R_drewN | apply Kd.R_drew)); exact HO_364004.out) hb)
            have n1_ := Aside0.mk (Kd.R_below (by (with_reducible repeat (first | apply Kd.R_alloc | apply Kd.R_drewN | apply Kd.R_drew)); exact HO_365004.out) hb)
            have n2_ := Aside0.mk (blk_below (Up.blk BK350.out) hb)
            have n3_ := Aside0.mk (blk_below (Up.blk BK352.out) hb)
            have n4_ := Aside0.mk (blk_below (Up.blk BK363.out) hb)
            have n5_ := Aside0.mk (blk_below (Up.blk BK364.out) hb)
            have n6_ := Aside0.mk (IsS73.below (by repeat (first | (with_reducible first | exact HI346.out | apply sA | apply sN | apply sD | apply s0 | apply s1 | apply s2 | refine sF ?_ NB346_350.out _ | refine sF ?_ NB346_352.out _ | refine sF ?_ NB346_363.out _ | refine sF ?_ NB346_364.out _) | exact HI346.out)) hb)
            have n7_ := Aside0.mk (below_step (by repeat (first | (with_reducible first | exact HB.out | apply cA | apply cN | apply cD | refine cS ?_ (IsS73.ge HI346.out) | refine cS ?_ GE350.out | refine cS ?_ GE352.out | refine cS ?_ GE363.out | refine cS ?_ GE364.out) | exact HB.out)) hb)
            clear HO_364004
            clear HO_365004
            clear BK350
            clear BK352
            clear BK363
            clear BK364
            clear HI346
            clear HB
            have HO_364004 := n0_
            have HO_365004 := n1_
            have BK350 := n2_
            have BK352 := n3_
            have BK363 := n4_
            have BK364 := n5_
            have HI346 := n6_
            have HB := n7_
            clear n0_ n1_ n2_ n3_ n4_ n5_ n6_ n7_
            (try clear hb)
            (try clear hb2)
            (try clear hk)
            (try clear hi)
            refine hK.out _ _ ⟨(blk_cell BK363.out 0).trans rfl, (blk_cell BK363.out 1).trans rfl, (blk_cell BK363.out 2).trans rfl, (blk_cell BK363.out 3).trans rfl, (blk_cell BK363.out 4).trans rfl, (blk_cell BK364.out 0).trans rfl, (blk_cell BK364.out 1).trans rfl, (blk_cell BK364.out 2).trans rfl, (blk_cell BK364.out 3).trans rfl, (blk_cell BK364.out 4).trans rfl, (blk_cell BK350.out 0).trans rfl, (blk_cell BK350.out 1).trans rfl, (blk_cell BK350.out 2).trans rfl⟩ (fun hHeld => ?_)
            clear hK K
            refine norm_ (a' := ?_) ?_ ?_
            rotate_left
            ·show Act.put _ (some 92) _ = _
             simp only [Act.put, List.setIfInBounds_toArray, List.set_cons_zero, List.set_cons_succ, i64_w, i32_w]
             rfl
            refine pure_ (i := 9) (N := some 93) (v := ?_) (a' := ?_) Bo18_10 rfl rfl (any_of HT_.out (by kernel_rfl)) (fun _ _ _ h => h) (Or.inl ⟨by rfl, ?_⟩) ?_ ?_
            rotate_left
            ·intro w'
             go_simp
             with_reducible rfl
            rotate_left
            ·simp only [Act.put, List.setIfInBounds_toArray, List.set_cons_zero, List.set_cons_succ, i64_w, i32_w]
             rfl
            refine pure_ (i := 10) (N := some 94) (v := ?_) (a' := ?_) Bo18_11 rfl rfl (any_of HT_.out (by kernel_rfl)) (fun _ _ _ h => h) (Or.inl ⟨by rfl, ?_⟩) ?_ ?_
            rotate_left
            ·intro w'
             go_simp
             with_reducible rfl
            rotate_left
            ·simp only [Act.put, List.setIfInBounds_toArray, List.set_cons_zero, List.set_cons_succ, i64_w, i32_w]
             rfl
            refine pure_ (i := 11) (N := some 95) (v := ?_) (a' := ?_) Bo18_12 rfl rfl (any_of HT_.out (by kernel_rfl)) (fun _ _ _ h => h) (Or.inl ⟨by rfl, ?_⟩) ?_ ?_
            rotate_left
            ·intro w'
             go_simp
             with_reducible rfl
            rotate_left
            ·simp only [Act.put, List.setIfInBounds_toArray, List.set_cons_zero, List.set_cons_succ, i64_w, i32_w]
             rfl
            refine pure_ (i := 12) (N := some 96) (v := undef) (a' := ?_) Bo18_13 rfl rfl (any_of HT_.out (by kernel_rfl)) (fun _ _ _ h => h) (Or.inr ⟨by rfl, rfl⟩) ?_ ?_
            rotate_left
            ·simp only [Act.put, List.setIfInBounds_toArray, List.set_cons_zero, List.set_cons_succ, i64_w, i32_w]
             rfl
            refine pure_ (i := 13) (N := some 97) (v := undef) (a' := ?_) Bo18_27 rfl rfl (any_of HT_.out (by kernel_rfl)) (fun _ _ _ h => h) (Or.inr ⟨by rfl, rfl⟩) ?_ ?_
            rotate_left
            ·simp only [Act.put, List.setIfInBounds_toArray, List.set_cons_zero, List.set_cons_succ, i64_w, i32_w]
             rfl
            refine pure_ (i := 14) (N := some 98) (v := undef) (a' := ?_) Bo18_28 rfl rfl (any_of HT_.out (by kernel_rfl)) (fun _ _ _ h => h) (Or.inr ⟨by rfl, rfl⟩) ?_ ?_
            rotate_left
            ·simp only [Act.put, List.setIfInBounds_toArray, List.set_cons_zero, List.set_cons_succ, i64_w, i32_w]
             rfl
            refine pure_ (i := 15) (N := some 99) (v := undef) (a' := ?_) Bo18_16 rfl rfl (any_of HT_.out (by kernel_rfl)) (fun _ _ _ h => h) (Or.inr ⟨by rfl, rfl⟩) ?_ ?_
            rotate_left
            ·simp only [Act.put, List.setIfInBounds_toArray, List.set_cons_zero, List.set_cons_succ, i64_w, i32_w]
             rfl
            refine pure_ (i := 16) (N := some 100) (v := undef) (a' := ?_) Bo18_17 rfl rfl (any_of HT_.out (by kernel_rfl)) (fun _ _ _ h => h) (Or.inr ⟨by rfl, rfl⟩) ?_ ?_
            rotate_left
            ·simp only [Act.put, List.setIfInBounds_toArray, List.set_cons_zero, List.set_cons_succ, i64_w, i32_w]
             rfl
            refine pure_ (i := 17) (N := some 101) (v := ?_) (a' := ?_) Bo18_18 rfl rfl (any_of HT_.out (by kernel_rfl)) (fun _ _ _ h => h) (Or.inl ⟨by rfl, ?_⟩) ?_ ?_
            rotate_left
            ·intro w'
             go_simp
             with_reducible rfl
            rotate_left
            ·simp only [Act.put, List.setIfInBounds_toArray, List.set_cons_zero, List.set_cons_succ, i64_w, i32_w]
             rfl
            refine pure_ (i := 18) (N := some 102) (v := ?_) (a' := ?_) Bo18_19 rfl rfl (any_of HT_.out (by kernel_rfl)) (fun _ _ _ h => h) (Or.inl ⟨by rfl, ?_⟩) ?_ ?_
            rotate_left
            ·intro w'
             go_simp
             with_reducible rfl
            rotate_left
            ·simp only [Act.put, List.setIfInBounds_toArray, List.set_cons_zero, List.set_cons_succ, i64_w, i32_w]
             rfl
            refine pure_ (i := 19) (N := some 103) (v := undef) (a' := ?_) Bo18_20 rfl rfl (any_of HT_.out (by kernel_rfl)) (fun _ _ _ h => h) (Or.inr ⟨by rfl, rfl⟩) ?_ ?_
            rotate_left
            ·simp only [Act.put, List.setIfInBounds_toArray, List.set_cons_zero, List.set_cons_succ, i64_w, i32_w]
             rfl
            refine pure_ (i := 20) (N := some 104) (v := undef) (a' := ?_) Bo18_26 rfl rfl (any_of HT_.out (by kernel_rfl)) (fun _ _ _ h => h) (Or.inr ⟨by rfl, rfl⟩) ?_ ?_
            rotate_left
            ·simp only [Act.put, List.setIfInBounds_toArray, List.set_cons_zero, List.set_cons_succ, i64_w, i32_w]
             rfl
            refine pure_ (i := 21) (N := some 105) (v := undef) (a' := ?_) Bo18_22 rfl rfl (any_of HT_.out (by kernel_rfl)) (fun _ _ _ h => h) (Or.inr ⟨by rfl, rfl⟩) ?_ ?_
            rotate_left
            ·simp only [Act.put, List.setIfInBounds_toArray, List.set_cons_zero, List.set_cons_succ, i64_w, i32_w]
             rfl
            refine pure_ (i := 22) (N := some 106) (v := undef) (a' := ?_) Bo18_23 rfl rfl (any_of HT_.out (by kernel_rfl)) (fun _ _ _ h => h) (Or.inr ⟨by rfl, rfl⟩) ?_ ?_
            rotate_left
            ·simp only [Act.put, List.setIfInBounds_toArray, List.set_cons_zero, List.set_cons_succ, i64_w, i32_w]
             rfl
            refine pure_ (i := 23) (N := some 107) (v := undef) (a' := ?_) Bo18_24 rfl rfl (any_of HT_.out (by kernel_rfl)) (fun _ _ _ h => h) (Or.inr ⟨by rfl, rfl⟩) ?_ ?_
            rotate_left
            ·simp only [Act.put, List.setIfInBounds_toArray, List.set_cons_zero, List.set_cons_succ, i64_w, i32_w]
             rfl
            refine pure_ (i := 24) (N := some 108) (v := ?_) (a' := ?_) Bo18_25 rfl rfl (any_of HT_.out (by kernel_rfl)) (fun _ _ _ h => h) (Or.inl ⟨by rfl, ?_⟩) ?_ ?_
            rotate_left
            ·intro w'
             go_simp
             with_reducible rfl
            rotate_left
            ·simp only [Act.put, List.setIfInBounds_toArray, List.set_cons_zero, List.set_cons_succ, i64_w, i32_w]
             rfl
            refine done_ (done_of HT_.out (by kernel_rfl)) ?_
            try go_wp2
            go_ret
            exact ⟨by first | rfl | (simp [errW_none, errW_some] <;> rfl) | (simp [*, errW_none, errW_some] <;> rfl), by repeat (first | (with_reducible first | exact HB.out | apply cA | apply cN | apply cD | refine cS ?_ (IsS73.ge HI346.out) | refine cS ?_ GE350.out | refine cS ?_ GE352.out | refine cS ?_ GE363.out | refine cS ?_ GE364.out) | exact HB.out)⟩
          ·replace c100 := Bool.eq_false_iff.mpr c100
           subst c100
           have H1 : (some false) = some r := by rw [if_neg (show ¬ (false = true) by decide)] at H; exact H
           clear H
           have H := H1
           clear H1
           obtain rfl := Option.some.inj H
           try go_wp2
           have n0_ := Aside0.mk (Kd.R_drew HO_364004.out)
           have n1_ := Aside0.mk (Kd.R_drew HO_365004.out)
           have n2_ := Aside0.mk (bD BK350.out)
           have n3_ := Aside0.mk (bD BK352.out)
           have n4_ := Aside0.mk (bD BK363.out)
           have n5_ := Aside0.mk (bD BK364.out)
           have n6_ := Aside0.mk (sD HI346.out)
           have n7_ := Aside0.mk (cD HB.out)
           clear HO_364004
           clear HO_365004
           clear BK350
           clear BK352
           clear BK363
           clear BK364
           clear HI346
           clear HB
           have HO_364004 := n0_
           have HO_365004 := n1_
           have BK350 := n2_
           have BK352 := n3_
           have BK363 := n4_
           have BK364 := n5_
           have HI346 := n6_
           have HB := n7_
           clear n0_ n1_ n2_ n3_ n4_ n5_ n6_ n7_
           obtain ⟨Ao137, co137, eo137⟩ := Kd.R_slice HO_365004.out
           (first | subst eo137 | (injection eo137 with f1_ f2_ f3_; have f4_ := f1_.symm; have f5_ := f3_.symm; clear f1_ f2_ f3_; subst f4_; subst f5_))
           refine start_ (n := 25) (S := fun w' => w'.cell? ⟨gb363, 0, none⟩ = some (.int .u8 t353) ∧ w'.cell? ⟨gb363, 1, none⟩ = some (.int .u64 t354) ∧ w'.cell? ⟨gb363, 2, none⟩ = some (.int .i64 t355) ∧ w'.cell? ⟨gb363, 3, none⟩ = some (.string t356) ∧ w'.cell? ⟨gb363, 4, none⟩ = some (.slice Ao29 t357.length co29) ∧ w'.cell? ⟨gb364, 0, none⟩ = some (.int .u8 ((rd_T32 l1 x7_2).f0)) ∧ w'.cell? ⟨gb364, 1, none⟩ = some (.int .u64 x365001_17) ∧ w'.cell? ⟨gb364, 2, none⟩ = some (.int .i64 x365002_17) ∧ w'.cell? ⟨gb364, 3, none⟩ = some (.string x365003_17) ∧ w'.cell? ⟨gb364, 4, none⟩ = some (.slice Ao137 x365004_17.length co137)) (ds := []) Bo18_0 (by kernel_rfl) rfl rfl ⟨(blk_cell BK363.out 0).trans rfl, (blk_cell BK363.out 1).trans rfl, (blk_cell BK363.out 2).trans rfl, (blk_cell BK363.out 3).trans rfl, (blk_cell BK363.out 4).trans rfl, (blk_cell BK364.out 0).trans rfl, (blk_cell BK364.out 1).trans rfl, (blk_cell BK364.out 2).trans rfl, (blk_cell BK364.out 3).trans rfl, (blk_cell BK364.out 4).trans rfl⟩ (fun hHeld => ?_); refine with_tabW sawmilllaw05_WireReads.tab19 sawmilllaw05_WireReads.bits19 (fun HT_ HW_ => ?_)
           generalize wc.drew = w136 at HO_364004 HO_365004 BK350 BK352 BK363 BK364 HI346 HB hHeld ⊢
           refine take_ (i := 0) (N := some 84) (v := ?_) (a' := ?_) Bo18_1 rfl rfl (take_ofW HT_.out HW_.out (by kernel_rfl)) (fun _ _ _ h => h) (Or.inl ⟨by rfl, ?_⟩) hHeld ?_ ?_
           rotate_left
           ·rintro w' ⟨s0, s1, s2, s3, s4, s5, s6, s7, s8, s9⟩
            go_simp
            with_reducible rfl
           rotate_left
           ·simp only [Act.put, List.setIfInBounds_toArray, List.set_cons_zero, List.set_cons_succ, i64_w, i32_w]
            rfl
           refine take_ (i := 1) (N := some 85) (v := ?_) (a' := ?_) Bo18_2 rfl rfl (take_ofW HT_.out HW_.out (by kernel_rfl)) (fun _ _ _ h => h) (Or.inl ⟨by rfl, ?_⟩) hHeld ?_ ?_
           rotate_left
           ·rintro w' ⟨s0, s1, s2, s3, s4, s5, s6, s7, s8, s9⟩
            go_simp
            with_reducible rfl
           rotate_left
           ·simp only [Act.put, List.setIfInBounds_toArray, List.set_cons_zero, List.set_cons_succ, i64_w, i32_w]
            rfl
           refine one_ (i := 2) (N := some 86) Bo18_3 rfl rfl (one_of HT_.out (by kernel_rfl)) (by decide) (fun K hK => ?_)
           refine goes_ Try.func32 (by kernel_rfl) rfl #[.agg #[.int .u8 t353, .int .u64 t354, .int .i64 t355, .string t356, .slice Ao29 t357.length co29], .agg #[.int .u8 ((rd_T32 l1 x7_2).f0), .int .u64 x365001_17, .int .i64 x365002_17, .string x365003_17, .slice Ao137 x365004_17.length co137]] (by rfl) rfl rfl (by (try simp only [List.map_toArray, List.map_cons, List.map_nil]); first | done | rfl | (simp only [List.length_drop, List.length_take]; rfl)) ?_
           with_reducible refine (sawmilllaw05_same.calls kj17 t353 t354 t355 t356 _ _ t357 ((rd_T32 l1 x7_2).f0) x365001_17 x365002_17 x365003_17 _ _ x365004_17 false _ ?side1 ?side2 ?side3 ?side4 A99.out).mono ?_
           (case side1 => repeat (first | exact (Kd.R_reads' HO_364004.out).2.2 | (with_reducible refine Kd.C_alloc ?_ _) | (with_reducible refine Kd.C_drewN ?_ _) | (with_reducible refine Kd.C_drew ?_)))
           (case side2 => exact (Kd.R_reads' HO_364004.out).2.1)
           (case side3 => repeat (first | exact (Kd.R_reads' HO_365004.out).2.2 | (with_reducible refine Kd.C_alloc ?_ _) | (with_reducible refine Kd.C_drewN ?_ _) | (with_reducible refine Kd.C_drew ?_)))
           (case side4 => exact (Kd.R_reads' HO_365004.out).2.1)
           rintro e w138 ⟨rfl, hb⟩
           refine ⟨_, rfl, ?_⟩
           have n0_ := Aside0.mk (Kd.R_below (by (with_reducible repeat (first | apply Kd.R_alloc | apply Kd.R_drewN | apply Kd.R_drew)); exact HO_364004.out) hb)
           have n1_ := Aside0.mk (Kd.R_below (by (with_reducible repeat (first | apply Kd.R_alloc | apply Kd.R_drewN | apply Kd.R_drew)); exact HO_365004.out) hb)
           have n2_ := Aside0.mk (blk_below (Up.blk BK350.out) hb)
           have n3_ := Aside0.mk (blk_below (Up.blk BK352.out) hb)
           have n4_ := Aside0.mk (blk_below (Up.blk BK363.out) hb)
           have n5_ := Aside0.mk (blk_below (Up.blk BK364.out) hb)
           have n6_ := Aside0.mk (IsS73.below (by repeat (first | (with_reducible first | exact HI346.out | apply sA | apply sN | apply sD | apply s0 | apply s1 | apply s2 | refine sF ?_ NB346_350.out _ | refine sF ?_ NB346_352.out _ | refine sF ?_ NB346_363.out _ | refine sF ?_ NB346_364.out _) | exact HI346.out)) hb)
           have n7_ := Aside0.mk (below_step (by repeat (first | (with_reducible first | exact HB.out | apply cA | apply cN | apply cD | refine cS ?_ (IsS73.ge HI346.out) | refine cS ?_ GE350.out | refine cS ?_ GE352.out | refine cS ?_ GE363.out | refine cS ?_ GE364.out) | exact HB.out)) hb)
           clear HO_364004
           clear HO_365004
           clear BK350
           clear BK352
           clear BK363
           clear BK364
           clear HI346
           clear HB
           have HO_364004 := n0_
           have HO_365004 := n1_
           have BK350 := n2_
           have BK352 := n3_
           have BK363 := n4_
           have BK364 := n5_
           have HI346 := n6_
           have HB := n7_
           clear n0_ n1_ n2_ n3_ n4_ n5_ n6_ n7_
           (try clear hb)
           (try clear hb2)
           (try clear hk)
           (try clear hi)
           refine hK.out _ _ ⟨(blk_cell BK363.out 0).trans rfl, (blk_cell BK363.out 1).trans rfl, (blk_cell BK363.out 2).trans rfl, (blk_cell BK363.out 3).trans rfl, (blk_cell BK363.out 4).trans rfl, (blk_cell BK364.out 0).trans rfl, (blk_cell BK364.out 1).trans rfl, (blk_cell BK364.out 2).trans rfl, (blk_cell BK364.out 3).trans rfl, (blk_cell BK364.out 4).trans rfl⟩ (fun hHeld => ?_)
           clear hK K
           refine norm_ (a' := ?_) ?_ ?_
           rotate_left
           ·show Act.put _ (some 86) _ = _
            simp only [Act.put, List.setIfInBounds_toArray, List.set_cons_zero, List.set_cons_succ, i64_w, i32_w]
            rfl
           refine pure_ (i := 3) (N := some 87) (v := ?_) (a' := ?_) Bo18_4 rfl rfl (any_of HT_.out (by kernel_rfl)) (fun _ _ _ h => h) (Or.inl ⟨by rfl, ?_⟩) ?_ ?_
           rotate_left
           ·intro w'
            go_simp
            with_reducible rfl
           rotate_left
           ·simp only [Act.put, List.setIfInBounds_toArray, List.set_cons_zero, List.set_cons_succ, i64_w, i32_w]
            rfl
           refine pure_ (i := 4) (N := some 88) (v := ?_) (a' := ?_) Bo18_5 rfl rfl (any_of HT_.out (by kernel_rfl)) (fun _ _ _ h => h) (Or.inl ⟨by rfl, ?_⟩) ?_ ?_
           rotate_left
           ·intro w'
            go_simp
            with_reducible rfl
           rotate_left
           ·simp only [Act.put, List.setIfInBounds_toArray, List.set_cons_zero, List.set_cons_succ, i64_w, i32_w]
            rfl
           refine pure_ (i := 5) (N := some 89) (v := undef) (a' := ?_) Bo18_6 rfl rfl (any_of HT_.out (by kernel_rfl)) (fun _ _ _ h => h) (Or.inr ⟨by rfl, rfl⟩) ?_ ?_
           rotate_left
           ·simp only [Act.put, List.setIfInBounds_toArray, List.set_cons_zero, List.set_cons_succ, i64_w, i32_w]
            rfl
           refine pure_ (i := 6) (N := some 90) (v := undef) (a' := ?_) Bo18_29 rfl rfl (any_of HT_.out (by kernel_rfl)) (fun _ _ _ h => h) (Or.inr ⟨by rfl, rfl⟩) ?_ ?_
           rotate_left
           ·simp only [Act.put, List.setIfInBounds_toArray, List.set_cons_zero, List.set_cons_succ, i64_w, i32_w]
            rfl
           refine pure_ (i := 7) (N := some 91) (v := undef) (a' := ?_) Bo18_8 rfl rfl (any_of HT_.out (by kernel_rfl)) (fun _ _ _ h => h) (Or.inr ⟨by rfl, rfl⟩) ?_ ?_
           rotate_left
           ·simp only [Act.put, List.setIfInBounds_toArray, List.set_cons_zero, List.set_cons_succ, i64_w, i32_w]
            rfl
           refine pure_ (i := 8) (N := some 92) (v := undef) (a' := ?_) Bo18_9 rfl rfl (any_of HT_.out (by kernel_rfl)) (fun _ _ _ h => h) (Or.inr ⟨by rfl, rfl⟩) ?_ ?_
           rotate_left
           ·simp only [Act.put, List.setIfInBounds_toArray, List.set_cons_zero, List.set_cons_succ, i64_w, i32_w]
            rfl
           refine pure_ (i := 9) (N := some 93) (v := undef) (a' := ?_) Bo18_10 rfl rfl (any_of HT_.out (by kernel_rfl)) (fun _ _ _ h => h) (Or.inr ⟨by rfl, rfl⟩) ?_ ?_
           rotate_left
           ·simp only [Act.put, List.setIfInBounds_toArray, List.set_cons_zero, List.set_cons_succ, i64_w, i32_w]
            rfl
           refine pure_ (i := 10) (N := some 94) (v := ?_) (a' := ?_) Bo18_11 rfl rfl (any_of HT_.out (by kernel_rfl)) (fun _ _ _ h => h) (Or.inl ⟨by rfl, ?_⟩) ?_ ?_
           rotate_left
           ·intro w'
            go_simp
            with_reducible rfl
           rotate_left
           ·simp only [Act.put, List.setIfInBounds_toArray, List.set_cons_zero, List.set_cons_succ, i64_w, i32_w]
            rfl
           refine pure_ (i := 11) (N := some 95) (v := ?_) (a' := ?_) Bo18_12 rfl rfl (any_of HT_.out (by kernel_rfl)) (fun _ _ _ h => h) (Or.inl ⟨by rfl, ?_⟩) ?_ ?_
           rotate_left
           ·intro w'
            go_simp
            with_reducible rfl
           rotate_left
           ·simp only [Act.put, List.setIfInBounds_toArray, List.set_cons_zero, List.set_cons_succ, i64_w, i32_w]
            rfl
           refine pure_ (i := 12) (N := some 96) (v := undef) (a' := ?_) Bo18_13 rfl rfl (any_of HT_.out (by kernel_rfl)) (fun _ _ _ h => h) (Or.inr ⟨by rfl, rfl⟩) ?_ ?_
           rotate_left
           ·simp only [Act.put, List.setIfInBounds_toArray, List.set_cons_zero, List.set_cons_succ, i64_w, i32_w]
            rfl
           refine pure_ (i := 13) (N := some 97) (v := undef) (a' := ?_) Bo18_27 rfl rfl (any_of HT_.out (by kernel_rfl)) (fun _ _ _ h => h) (Or.inr ⟨by rfl, rfl⟩) ?_ ?_
           rotate_left
           ·simp only [Act.put, List.setIfInBounds_toArray, List.set_cons_zero, List.set_cons_succ, i64_w, i32_w]
            rfl
           refine pure_ (i := 14) (N := some 98) (v := undef) (a' := ?_) Bo18_28 rfl rfl (any_of HT_.out (by kernel_rfl)) (fun _ _ _ h => h) (Or.inr ⟨by rfl, rfl⟩) ?_ ?_
           rotate_left
           ·simp only [Act.put, List.setIfInBounds_toArray, List.set_cons_zero, List.set_cons_succ, i64_w, i32_w]
            rfl
           refine pure_ (i := 15) (N := some 99) (v := undef) (a' := ?_) Bo18_16 rfl rfl (any_of HT_.out (by kernel_rfl)) (fun _ _ _ h => h) (Or.inr ⟨by rfl, rfl⟩) ?_ ?_
           rotate_left
           ·simp only [Act.put, List.setIfInBounds_toArray, List.set_cons_zero, List.set_cons_succ, i64_w, i32_w]
            rfl
           refine pure_ (i := 16) (N := some 100) (v := undef) (a' := ?_) Bo18_17 rfl rfl (any_of HT_.out (by kernel_rfl)) (fun _ _ _ h => h) (Or.inr ⟨by rfl, rfl⟩) ?_ ?_
           rotate_left
           ·simp only [Act.put, List.setIfInBounds_toArray, List.set_cons_zero, List.set_cons_succ, i64_w, i32_w]
            rfl
           refine pure_ (i := 17) (N := some 101) (v := ?_) (a' := ?_) Bo18_18 rfl rfl (any_of HT_.out (by kernel_rfl)) (fun _ _ _ h => h) (Or.inl ⟨by rfl, ?_⟩) ?_ ?_
           rotate_left
           ·intro w'
            go_simp
            with_reducible rfl
           rotate_left
           ·simp only [Act.put, List.setIfInBounds_toArray, List.set_cons_zero, List.set_cons_succ, i64_w, i32_w]
            rfl
           refine pure_ (i := 18) (N := some 102) (v := ?_) (a' := ?_) Bo18_19 rfl rfl (any_of HT_.out (by kernel_rfl)) (fun _ _ _ h => h) (Or.inl ⟨by rfl, ?_⟩) ?_ ?_
           rotate_left
           ·intro w'
            go_simp
            with_reducible rfl
           rotate_left
           ·simp only [Act.put, List.setIfInBounds_toArray, List.set_cons_zero, List.set_cons_succ, i64_w, i32_w]
            rfl
           refine pure_ (i := 19) (N := some 103) (v := undef) (a' := ?_) Bo18_20 rfl rfl (any_of HT_.out (by kernel_rfl)) (fun _ _ _ h => h) (Or.inr ⟨by rfl, rfl⟩) ?_ ?_
           rotate_left
           ·simp only [Act.put, List.setIfInBounds_toArray, List.set_cons_zero, List.set_cons_succ, i64_w, i32_w]
            rfl
           refine pure_ (i := 20) (N := some 104) (v := undef) (a' := ?_) Bo18_26 rfl rfl (any_of HT_.out (by kernel_rfl)) (fun _ _ _ h => h) (Or.inr ⟨by rfl, rfl⟩) ?_ ?_
           rotate_left
           ·simp only [Act.put, List.setIfInBounds_toArray, List.set_cons_zero, List.set_cons_succ, i64_w, i32_w]
            rfl
           refine pure_ (i := 21) (N := some 105) (v := undef) (a' := ?_) Bo18_22 rfl rfl (any_of HT_.out (by kernel_rfl)) (fun _ _ _ h => h) (Or.inr ⟨by rfl, rfl⟩) ?_ ?_
           rotate_left
           ·simp only [Act.put, List.setIfInBounds_toArray, List.set_cons_zero, List.set_cons_succ, i64_w, i32_w]
            rfl
           refine pure_ (i := 22) (N := some 106) (v := undef) (a' := ?_) Bo18_23 rfl rfl (any_of HT_.out (by kernel_rfl)) (fun _ _ _ h => h) (Or.inr ⟨by rfl, rfl⟩) ?_ ?_
           rotate_left
           ·simp only [Act.put, List.setIfInBounds_toArray, List.set_cons_zero, List.set_cons_succ, i64_w, i32_w]
            rfl
           refine pure_ (i := 23) (N := some 107) (v := undef) (a' := ?_) Bo18_24 rfl rfl (any_of HT_.out (by kernel_rfl)) (fun _ _ _ h => h) (Or.inr ⟨by rfl, rfl⟩) ?_ ?_
           rotate_left
           ·simp only [Act.put, List.setIfInBounds_toArray, List.set_cons_zero, List.set_cons_succ, i64_w, i32_w]
            rfl
           refine pure_ (i := 24) (N := some 108) (v := ?_) (a' := ?_) Bo18_25 rfl rfl (any_of HT_.out (by kernel_rfl)) (fun _ _ _ h => h) (Or.inl ⟨by rfl, ?_⟩) ?_ ?_
           rotate_left
           ·intro w'
            go_simp
            with_reducible rfl
           rotate_left
           ·simp only [Act.put, List.setIfInBounds_toArray, List.set_cons_zero, List.set_cons_succ, i64_w, i32_w]
            rfl
           refine done_ (done_of HT_.out (by kernel_rfl)) ?_
           try go_wp2
           go_ret
           exact ⟨by first | rfl | (simp [errW_none, errW_some] <;> rfl) | (simp [*, errW_none, errW_some] <;> rfl), by repeat (first | (with_reducible first | exact HB.out | apply cA | apply cN | apply cD | refine cS ?_ (IsS73.ge HI346.out) | refine cS ?_ GE350.out | refine cS ?_ GE352.out | refine cS ?_ GE363.out | refine cS ?_ GE364.out) | exact HB.out)⟩
       ·rw [if_neg c16] at H
        exact absurd H (by simp)
      ·rw [if_neg c15] at H
       have c15b0 : decide (x7_2 < (l1.length : Int)) = false := decide_eq_false c15
       clear c15
       replace H := Option.bind_eq_some_iff.mp H
       obtain ⟨⟨t398, t399, t400, t401⟩, A1390, H⟩ := H
       replace H : ((sawmillref05_Left.f x351000_2 x351001_2 x351002_2).bind fun t402 => (if t398 = t402 then ((wire_Reader_End.f t399 t400 t401).bind fun bt403 => ((sawmillref05_End.f x351000_2 x351001_2 x351002_2).bind fun t407 => (if bt403.1 = t407 then ((sawmilllaw05_awake.f).bind fun t408 => (some t408)) else (some false)))) else (some false))) = some r := H
       have A139 := Aside0.mk A1390
       clear A1390
       replace H := Option.bind_eq_some_iff.mp H
       obtain ⟨t402, A1400, H⟩ := H
       replace H : (if t398 = t402 then ((wire_Reader_End.f t399 t400 t401).bind fun bt403 => ((sawmillref05_End.f x351000_2 x351001_2 x351002_2).bind fun t407 => (if bt403.1 = t407 then ((sawmilllaw05_awake.f).bind fun t408 => (some t408)) else (some false)))) else (some false)) = some r := H
       have A140 := Aside0.mk A1400
       clear A1400
       by_cases c141 : t398 = t402
       ·rw [if_pos c141] at H
        have c141b0 : (t398 == t402) = true := beq_iff_eq.mpr c141
        have c141b1 : (t398 != t402) = false := bne_eq_false_iff_eq.mpr c141
        clear c141
        replace H := Option.bind_eq_some_iff.mp H
        obtain ⟨⟨t403, t404, t405, t406⟩, A1420, H⟩ := H
        replace H : ((sawmillref05_End.f x351000_2 x351001_2 x351002_2).bind fun t407 => (if t403 = t407 then ((sawmilllaw05_awake.f).bind fun t408 => (some t408)) else (some false))) = some r := H
        have A142 := Aside0.mk A1420
        clear A1420
        replace H := Option.bind_eq_some_iff.mp H
        obtain ⟨t407, A1430, H⟩ := H
        replace H : (if t403 = t407 then ((sawmilllaw05_awake.f).bind fun t408 => (some t408)) else (some false)) = some r := H
        have A143 := Aside0.mk A1430
        clear A1430
        by_cases c144 : t403 = t407
        ·rw [if_pos c144] at H
         have c144b0 : (t403 == t407) = true := beq_iff_eq.mpr c144
         have c144b1 : (t403 != t407) = false := bne_eq_false_iff_eq.mpr c144
         clear c144
         replace H := Option.bind_eq_some_iff.mp H
         obtain ⟨t408, A1450, H⟩ := H
         replace H : (some t408) = some r := H
         have A145 := Aside0.mk A1450
         clear A1450
         obtain rfl := Option.some.inj H
         try go_wp2
         have n0_ := Aside0.mk (bD BK350.out)
         have n1_ := Aside0.mk (sD HI346.out)
         have n2_ := Aside0.mk (cD HB.out)
         clear BK350
         clear HI346
         clear HB
         have BK350 := n0_
         have HI346 := n1_
         have HB := n2_
         clear n0_ n1_ n2_
         refine start_ (n := 16) (S := fun w' => w'.cell? ⟨gb350, 0, none⟩ = some (.string x351000_2) ∧ w'.cell? ⟨gb350, 1, none⟩ = some (.int .i64 x351001_2) ∧ w'.cell? ⟨gb350, 2, none⟩ = some (.int .i64 x351002_2)) (ds := []) Bo18_30 (by kernel_rfl) rfl rfl ⟨(blk_cell BK350.out 0).trans rfl, (blk_cell BK350.out 1).trans rfl, (blk_cell BK350.out 2).trans rfl⟩ (fun hHeld => ?_); refine with_tabW sawmilllaw05_WireReads.tab21 sawmilllaw05_WireReads.bits21 (fun HT_ HW_ => ?_)
         generalize wr.drew = w146 at BK350 HI346 HB hHeld ⊢
         refine pure_ (i := 0) (N := some 109) (v := ?_) (a' := ?_) Bo18_31 rfl rfl (any_of HT_.out (by kernel_rfl)) (fun _ _ _ h => h) (Or.inl ⟨by rfl, ?_⟩) ?_ ?_
         rotate_left
         ·intro w'
          go_simp
          with_reducible rfl
         rotate_left
         ·simp only [Act.put, List.setIfInBounds_toArray, List.set_cons_zero, List.set_cons_succ, i64_w, i32_w]
          rfl
         refine take_ (i := 2) (N := some 111) (v := ?_) (a' := ?_) Bo18_32 rfl rfl (take_ofW HT_.out HW_.out (by kernel_rfl)) (fun _ _ _ h => h) (Or.inl ⟨by rfl, ?_⟩) hHeld ?_ ?_
         rotate_left
         ·rintro w' ⟨s0, s1, s2⟩
          go_simp
          with_reducible rfl
         rotate_left
         ·simp only [Act.put, List.setIfInBounds_toArray, List.set_cons_zero, List.set_cons_succ, i64_w, i32_w]
          rfl
         refine one_ (i := 1) (N := some 110) Bo18_33 rfl rfl (one_of HT_.out (by kernel_rfl)) (by decide) (fun K hK => ?_)
         refine goes_ Try.func24 (by kernel_rfl) rfl #[.pointer (some ⟨g346, 0, none⟩)] (by rfl) rfl rfl (by (try simp only [List.map_toArray, List.map_cons, List.map_nil]); first | done | rfl | (simp only [List.length_drop, List.length_take]; rfl)) ?_
         with_reducible refine (wire_Reader_Left.calls g346 x347000_2 x347001_2 x347002_2 t398 t399 t400 t401 w _ ?side1 ?side2 A139.out).mono ?_
         (case side1 => repeat (first | (with_reducible first | exact HI346.out | apply sA | apply sN | apply sD | apply s0 | apply s1 | apply s2 | refine sF ?_ NB346_350.out _) | exact HI346.out))
         (case side2 => repeat (first | (with_reducible first | exact HB.out | apply cA | apply cN | apply cD | refine cS ?_ (IsS73.ge HI346.out) | refine cS ?_ GE350.out) | exact HB.out))
         rintro e w147 ⟨rfl, hi, hb, hk⟩
         refine ⟨_, rfl, ?_⟩
         have n0_ := Aside0.mk (KeepBut.blk hk (g' := gb350) (o := .cells #[.string x351000_2, .int .i64 x351001_2, .int .i64 x351002_2] 42 (0, 0)) (Up.blk BK350.out) NB350_346.out (by simp))
         have n1_ := Aside0.mk (hb)
         have n2_ := Aside0.mk (hi)
         clear BK350
         clear HB
         clear HI346
         have BK350 := n0_
         have HB := n1_
         have HI346 := n2_
         clear n0_ n1_ n2_
         (try clear hb)
         (try clear hb2)
         (try clear hk)
         (try clear hi)
         refine hK.out _ _ ⟨(blk_cell BK350.out 0).trans rfl, (blk_cell BK350.out 1).trans rfl, (blk_cell BK350.out 2).trans rfl⟩ (fun hHeld => ?_)
         clear hK K
         refine norm_ (a' := ?_) ?_ ?_
         rotate_left
         ·show Act.put _ (some 110) _ = _
          simp only [Act.put, List.setIfInBounds_toArray, List.set_cons_zero, List.set_cons_succ, i64_w, i32_w]
          rfl
         refine one_ (i := 3) (N := some 112) Bo18_34 rfl rfl (one_of HT_.out (by kernel_rfl)) (by decide) (fun K hK => ?_)
         refine goes_ Try.func33 (by kernel_rfl) rfl #[.agg #[.string x351000_2, .int .i64 x351001_2, .int .i64 x351002_2]] (by rfl) rfl rfl (by (try simp only [List.map_toArray, List.map_cons, List.map_nil]); first | done | rfl | (simp only [List.length_drop, List.length_take]; rfl)) ?_
         with_reducible refine (sawmillref05_Left.calls x351000_2 x351001_2 x351002_2 t402 _ A140.out).mono ?_
         rintro e w148 ⟨rfl, hb⟩
         refine ⟨_, rfl, ?_⟩
         have n0_ := Aside0.mk (blk_below (Up.blk BK350.out) hb)
         have n1_ := Aside0.mk (IsS73.below (by repeat (first | (with_reducible first | exact HI346.out | apply sA | apply sN | apply sD | apply s0 | apply s1 | apply s2 | refine sF ?_ NB346_350.out _) | exact HI346.out)) hb)
         have n2_ := Aside0.mk (below_step (by repeat (first | (with_reducible first | exact HB.out | apply cA | apply cN | apply cD | refine cS ?_ (IsS73.ge HI346.out) | refine cS ?_ GE350.out) | exact HB.out)) hb)
         clear BK350
         clear HI346
         clear HB
         have BK350 := n0_
         have HI346 := n1_
         have HB := n2_
         clear n0_ n1_ n2_
         (try clear hb)
         (try clear hb2)
         (try clear hk)
         (try clear hi)
         refine hK.out _ _ ⟨(blk_cell BK350.out 0).trans rfl, (blk_cell BK350.out 1).trans rfl, (blk_cell BK350.out 2).trans rfl⟩ (fun hHeld => ?_)
         clear hK K
         refine norm_ (a' := ?_) ?_ ?_
         rotate_left
         ·show Act.put _ (some 112) _ = _
          simp only [Act.put, List.setIfInBounds_toArray, List.set_cons_zero, List.set_cons_succ, i64_w, i32_w]
          rfl
         refine pure_ (i := 4) (N := some 113) (v := ?_) (a' := ?_) Bo18_35 rfl rfl (any_of HT_.out (by kernel_rfl)) (fun _ _ _ h => h) (Or.inl ⟨by rfl, ?_⟩) ?_ ?_
         rotate_left
         ·intro w'
          go_simp
          with_reducible rfl
         rotate_left
         ·simp only [Act.put, List.setIfInBounds_toArray, List.set_cons_zero, List.set_cons_succ, i64_w, i32_w]
          rfl
         refine pure_ (i := 5) (N := some 114) (v := ?_) (a' := ?_) Bo18_36 rfl rfl (any_of HT_.out (by kernel_rfl)) (fun _ _ _ h => h) (Or.inl ⟨by rfl, ?_⟩) ?_ ?_
         rotate_left
         ·intro w'
          go_simp
          with_reducible rfl
         rotate_left
         ·simp only [Act.put, List.setIfInBounds_toArray, List.set_cons_zero, List.set_cons_succ, i64_w, i32_w]
          rfl
         refine pure_ (i := 6) (N := some 115) (v := ?_) (a' := ?_) Bo18_37 rfl rfl (any_of HT_.out (by kernel_rfl)) (fun _ _ _ h => h) (Or.inl ⟨by rfl, ?_⟩) ?_ ?_
         rotate_left
         ·intro w'
          go_simp
          with_reducible rfl
         rotate_left
         ·simp only [Act.put, List.setIfInBounds_toArray, List.set_cons_zero, List.set_cons_succ, i64_w, i32_w]
          rfl
         refine take_ (i := 8) (N := some 117) (v := ?_) (a' := ?_) Bo18_38 rfl rfl (take_ofW HT_.out HW_.out (by kernel_rfl)) (fun _ _ _ h => h) (Or.inl ⟨by rfl, ?_⟩) hHeld ?_ ?_
         rotate_left
         ·rintro w' ⟨s0, s1, s2⟩
          go_simp
          with_reducible rfl
         rotate_left
         ·simp only [Act.put, List.setIfInBounds_toArray, List.set_cons_zero, List.set_cons_succ, i64_w, i32_w]
          rfl
         refine one_ (i := 7) (N := some 116) Bo18_39 rfl rfl (one_of HT_.out (by kernel_rfl)) (by decide) (fun K hK => ?_)
         refine goes_ Try.func23 (by kernel_rfl) rfl #[.pointer (some ⟨g346, 0, none⟩)] (by rfl) rfl rfl (by (try simp only [List.map_toArray, List.map_cons, List.map_nil]); first | done | rfl | (simp only [List.length_drop, List.length_take]; rfl)) ?_
         with_reducible refine (wire_Reader_End.calls g346 t399 t400 t401 t403 t404 t405 t406 w _ ?side1 ?side2 A142.out).mono ?_
         (case side1 => repeat (first | (with_reducible first | exact HI346.out | apply sA | apply sN | apply sD | apply s0 | apply s1 | apply s2 | refine sF ?_ NB346_350.out _) | exact HI346.out))
         (case side2 => repeat (first | (with_reducible first | exact HB.out | apply cA | apply cN | apply cD | refine cS ?_ (IsS73.ge HI346.out) | refine cS ?_ GE350.out) | exact HB.out))
         rintro e w149 ⟨rfl, hi, hb, hk⟩
         refine ⟨_, rfl, ?_⟩
         have n0_ := Aside0.mk (KeepBut.blk hk (g' := gb350) (o := .cells #[.string x351000_2, .int .i64 x351001_2, .int .i64 x351002_2] 42 (0, 0)) (Up.blk BK350.out) NB350_346.out (by simp))
         have n1_ := Aside0.mk (hb)
         have n2_ := Aside0.mk (hi)
         clear BK350
         clear HB
         clear HI346
         have BK350 := n0_
         have HB := n1_
         have HI346 := n2_
         clear n0_ n1_ n2_
         (try clear hb)
         (try clear hb2)
         (try clear hk)
         (try clear hi)
         refine hK.out _ _ ⟨(blk_cell BK350.out 0).trans rfl, (blk_cell BK350.out 1).trans rfl, (blk_cell BK350.out 2).trans rfl⟩ (fun hHeld => ?_)
         clear hK K
         refine norm_ (a' := ?_) ?_ ?_
         rotate_left
         ·show Act.put _ (some 116) _ = _
          simp only [Act.put, List.setIfInBounds_toArray, List.set_cons_zero, List.set_cons_succ, i64_w, i32_w]
          rfl
         refine one_ (i := 9) (N := some 118) Bo18_40 rfl rfl (one_of HT_.out (by kernel_rfl)) (by decide) (fun K hK => ?_)
         refine goes_ Try.func35 (by kernel_rfl) rfl #[.agg #[.string x351000_2, .int .i64 x351001_2, .int .i64 x351002_2]] (by rfl) rfl rfl (by (try simp only [List.map_toArray, List.map_cons, List.map_nil]); first | done | rfl | (simp only [List.length_drop, List.length_take]; rfl)) ?_
         with_reducible refine (sawmillref05_End.calls x351000_2 x351001_2 x351002_2 t407 _ A143.out).mono ?_
         rintro e w150 ⟨rfl, hb⟩
         refine ⟨_, rfl, ?_⟩
         have n0_ := Aside0.mk (blk_below (Up.blk BK350.out) hb)
         have n1_ := Aside0.mk (IsS73.below (by repeat (first | (with_reducible first | exact HI346.out | apply sA | apply sN | apply sD | apply s0 | apply s1 | apply s2 | refine sF ?_ NB346_350.out _) | exact HI346.out)) hb)
         have n2_ := Aside0.mk (below_step (by repeat (first | (with_reducible first | exact HB.out | apply cA | apply cN | apply cD | refine cS ?_ (IsS73.ge HI346.out) | refine cS ?_ GE350.out) | exact HB.out)) hb)
         clear BK350
         clear HI346
         clear HB
         have BK350 := n0_
         have HI346 := n1_
         have HB := n2_
         clear n0_ n1_ n2_
         (try clear hb)
         (try clear hb2)
         (try clear hk)
         (try clear hi)
         refine hK.out _ _ ⟨(blk_cell BK350.out 0).trans rfl, (blk_cell BK350.out 1).trans rfl, (blk_cell BK350.out 2).trans rfl⟩ (fun hHeld => ?_)
         clear hK K
         refine norm_ (a' := ?_) ?_ ?_
         rotate_left
         ·show Act.put _ (some 118) _ = _
          simp only [Act.put, List.setIfInBounds_toArray, List.set_cons_zero, List.set_cons_succ, i64_w, i32_w]
          rfl
         refine pure_ (i := 10) (N := some 119) (v := ?_) (a' := ?_) Bo18_41 rfl rfl (any_of HT_.out (by kernel_rfl)) (fun _ _ _ h => h) (Or.inl ⟨by rfl, ?_⟩) ?_ ?_
         rotate_left
         ·intro w'
          go_simp
          with_reducible rfl
         rotate_left
         ·simp only [Act.put, List.setIfInBounds_toArray, List.set_cons_zero, List.set_cons_succ, i64_w, i32_w]
          rfl
         refine pure_ (i := 11) (N := some 120) (v := ?_) (a' := ?_) Bo18_42 rfl rfl (any_of HT_.out (by kernel_rfl)) (fun _ _ _ h => h) (Or.inl ⟨by rfl, ?_⟩) ?_ ?_
         rotate_left
         ·intro w'
          go_simp
          with_reducible rfl
         rotate_left
         ·simp only [Act.put, List.setIfInBounds_toArray, List.set_cons_zero, List.set_cons_succ, i64_w, i32_w]
          rfl
         refine pure_ (i := 12) (N := some 121) (v := ?_) (a' := ?_) Bo18_43 rfl rfl (any_of HT_.out (by kernel_rfl)) (fun _ _ _ h => h) (Or.inl ⟨by rfl, ?_⟩) ?_ ?_
         rotate_left
         ·intro w'
          go_simp
          with_reducible rfl
         rotate_left
         ·simp only [Act.put, List.setIfInBounds_toArray, List.set_cons_zero, List.set_cons_succ, i64_w, i32_w]
          rfl
         refine one_ (i := 13) (N := some 122) Bo18_44 rfl rfl (one_of HT_.out (by kernel_rfl)) (by decide) (fun K hK => ?_)
         refine goes_ Try.func16 (by kernel_rfl) rfl #[] (by rfl) rfl rfl (by (try simp only [List.map_toArray, List.map_cons, List.map_nil]); first | done | rfl | (simp only [List.length_drop, List.length_take]; rfl)) ?_
         with_reducible refine (sawmilllaw05_awake.calls  t408 _ A145.out).mono ?_
         rintro e w151 ⟨rfl, hb⟩
         refine ⟨_, rfl, ?_⟩
         have n0_ := Aside0.mk (blk_below (Up.blk BK350.out) hb)
         have n1_ := Aside0.mk (IsS73.below (by repeat (first | (with_reducible first | exact HI346.out | apply sA | apply sN | apply sD | apply s0 | apply s1 | apply s2 | refine sF ?_ NB346_350.out _) | exact HI346.out)) hb)
         have n2_ := Aside0.mk (below_step (by repeat (first | (with_reducible first | exact HB.out | apply cA | apply cN | apply cD | refine cS ?_ (IsS73.ge HI346.out) | refine cS ?_ GE350.out) | exact HB.out)) hb)
         clear BK350
         clear HI346
         clear HB
         have BK350 := n0_
         have HI346 := n1_
         have HB := n2_
         clear n0_ n1_ n2_
         (try clear hb)
         (try clear hb2)
         (try clear hk)
         (try clear hi)
         refine hK.out _ _ ⟨(blk_cell BK350.out 0).trans rfl, (blk_cell BK350.out 1).trans rfl, (blk_cell BK350.out 2).trans rfl⟩ (fun hHeld => ?_)
         clear hK K
         refine norm_ (a' := ?_) ?_ ?_
         rotate_left
         ·show Act.put _ (some 122) _ = _
          simp only [Act.put, List.setIfInBounds_toArray, List.set_cons_zero, List.set_cons_succ, i64_w, i32_w]
          rfl
         refine pure_ (i := 14) (N := some 123) (v := ?_) (a' := ?_) Bo18_45 rfl rfl (any_of HT_.out (by kernel_rfl)) (fun _ _ _ h => h) (Or.inl ⟨by rfl, ?_⟩) ?_ ?_
         rotate_left
         ·intro w'
          go_simp
          with_reducible rfl
         rotate_left
         ·simp only [Act.put, List.setIfInBounds_toArray, List.set_cons_zero, List.set_cons_succ, i64_w, i32_w]
          rfl
         refine pure_ (i := 15) (N := some 4) (v := ?_) (a' := ?_) Bo18_46 rfl rfl (any_of HT_.out (by kernel_rfl)) (fun _ _ _ h => h) (Or.inl ⟨by rfl, ?_⟩) ?_ ?_
         rotate_left
         ·intro w'
          go_simp
          with_reducible rfl
         rotate_left
         ·simp only [Act.put, List.setIfInBounds_toArray, List.set_cons_zero, List.set_cons_succ, i64_w, i32_w]
          rfl
         refine done_ (done_of HT_.out (by kernel_rfl)) ?_
         try go_wp2
         go_ret
         exact ⟨by first | rfl | (simp [errW_none, errW_some] <;> rfl) | (simp [*, errW_none, errW_some] <;> rfl), by repeat (first | (with_reducible first | exact HB.out | apply cA | apply cN | apply cD | refine cS ?_ (IsS73.ge HI346.out) | refine cS ?_ GE350.out) | exact HB.out)⟩
        ·rw [if_neg c144] at H
         have c144b0 : (t403 == t407) = false := beq_eq_false_iff_ne.mpr c144
         have c144b1 : (t403 != t407) = true := bne_iff_ne.mpr c144
         obtain rfl := Option.some.inj H
         try go_wp2
         have n0_ := Aside0.mk (bD BK350.out)
         have n1_ := Aside0.mk (sD HI346.out)
         have n2_ := Aside0.mk (cD HB.out)
         clear BK350
         clear HI346
         clear HB
         have BK350 := n0_
         have HI346 := n1_
         have HB := n2_
         clear n0_ n1_ n2_
         refine start_ (n := 16) (S := fun w' => w'.cell? ⟨gb350, 0, none⟩ = some (.string x351000_2) ∧ w'.cell? ⟨gb350, 1, none⟩ = some (.int .i64 x351001_2) ∧ w'.cell? ⟨gb350, 2, none⟩ = some (.int .i64 x351002_2)) (ds := []) Bo18_30 (by kernel_rfl) rfl rfl ⟨(blk_cell BK350.out 0).trans rfl, (blk_cell BK350.out 1).trans rfl, (blk_cell BK350.out 2).trans rfl⟩ (fun hHeld => ?_); refine with_tabW sawmilllaw05_WireReads.tab21 sawmilllaw05_WireReads.bits21 (fun HT_ HW_ => ?_)
         generalize wr.drew = w152 at BK350 HI346 HB hHeld ⊢
         refine pure_ (i := 0) (N := some 109) (v := ?_) (a' := ?_) Bo18_31 rfl rfl (any_of HT_.out (by kernel_rfl)) (fun _ _ _ h => h) (Or.inl ⟨by rfl, ?_⟩) ?_ ?_
         rotate_left
         ·intro w'
          go_simp
          with_reducible rfl
         rotate_left
         ·simp only [Act.put, List.setIfInBounds_toArray, List.set_cons_zero, List.set_cons_succ, i64_w, i32_w]
          rfl
         refine take_ (i := 2) (N := some 111) (v := ?_) (a' := ?_) Bo18_32 rfl rfl (take_ofW HT_.out HW_.out (by kernel_rfl)) (fun _ _ _ h => h) (Or.inl ⟨by rfl, ?_⟩) hHeld ?_ ?_
         rotate_left
         ·rintro w' ⟨s0, s1, s2⟩
          go_simp
          with_reducible rfl
         rotate_left
         ·simp only [Act.put, List.setIfInBounds_toArray, List.set_cons_zero, List.set_cons_succ, i64_w, i32_w]
          rfl
         refine one_ (i := 1) (N := some 110) Bo18_33 rfl rfl (one_of HT_.out (by kernel_rfl)) (by decide) (fun K hK => ?_)
         refine goes_ Try.func24 (by kernel_rfl) rfl #[.pointer (some ⟨g346, 0, none⟩)] (by rfl) rfl rfl (by (try simp only [List.map_toArray, List.map_cons, List.map_nil]); first | done | rfl | (simp only [List.length_drop, List.length_take]; rfl)) ?_
         with_reducible refine (wire_Reader_Left.calls g346 x347000_2 x347001_2 x347002_2 t398 t399 t400 t401 w _ ?side1 ?side2 A139.out).mono ?_
         (case side1 => repeat (first | (with_reducible first | exact HI346.out | apply sA | apply sN | apply sD | apply s0 | apply s1 | apply s2 | refine sF ?_ NB346_350.out _) | exact HI346.out))
         (case side2 => repeat (first | (with_reducible first | exact HB.out | apply cA | apply cN | apply cD | refine cS ?_ (IsS73.ge HI346.out) | refine cS ?_ GE350.out) | exact HB.out))
         rintro e w153 ⟨rfl, hi, hb, hk⟩
         refine ⟨_, rfl, ?_⟩
         have n0_ := Aside0.mk (KeepBut.blk hk (g' := gb350) (o := .cells #[.string x351000_2, .int .i64 x351001_2, .int .i64 x351002_2] 42 (0, 0)) (Up.blk BK350.out) NB350_346.out (by simp))
         have n1_ := Aside0.mk (hb)
         have n2_ := Aside0.mk (hi)
         clear BK350
         clear HB
         clear HI346
         have BK350 := n0_
         have HB := n1_
         have HI346 := n2_
         clear n0_ n1_ n2_
         (try clear hb)
         (try clear hb2)
         (try clear hk)
         (try clear hi)
         refine hK.out _ _ ⟨(blk_cell BK350.out 0).trans rfl, (blk_cell BK350.out 1).trans rfl, (blk_cell BK350.out 2).trans rfl⟩ (fun hHeld => ?_)
         clear hK K
         refine norm_ (a' := ?_) ?_ ?_
         rotate_left
         ·show Act.put _ (some 110) _ = _
          simp only [Act.put, List.setIfInBounds_toArray, List.set_cons_zero, List.set_cons_succ, i64_w, i32_w]
          rfl
         refine one_ (i := 3) (N := some 112) Bo18_34 rfl rfl (one_of HT_.out (by kernel_rfl)) (by decide) (fun K hK => ?_)
         refine goes_ Try.func33 (by kernel_rfl) rfl #[.agg #[.string x351000_2, .int .i64 x351001_2, .int .i64 x351002_2]] (by rfl) rfl rfl (by (try simp only [List.map_toArray, List.map_cons, List.map_nil]); first | done | rfl | (simp only [List.length_drop, List.length_take]; rfl)) ?_
         with_reducible refine (sawmillref05_Left.calls x351000_2 x351001_2 x351002_2 t402 _ A140.out).mono ?_
         rintro e w154 ⟨rfl, hb⟩
         refine ⟨_, rfl, ?_⟩
         have n0_ := Aside0.mk (blk_below (Up.blk BK350.out) hb)
         have n1_ := Aside0.mk (IsS73.below (by repeat (first | (with_reducible first | exact HI346.out | apply sA | apply sN | apply sD | apply s0 | apply s1 | apply s2 | refine sF ?_ NB346_350.out _) | exact HI346.out)) hb)
         have n2_ := Aside0.mk (below_step (by repeat (first | (with_reducible first | exact HB.out | apply cA | apply cN | apply cD | refine cS ?_ (IsS73.ge HI346.out) | refine cS ?_ GE350.out) | exact HB.out)) hb)
         clear BK350
         clear HI346
         clear HB
         have BK350 := n0_
         have HI346 := n1_
         have HB := n2_
         clear n0_ n1_ n2_
         (try clear hb)
         (try clear hb2)
         (try clear hk)
         (try clear hi)
         refine hK.out _ _ ⟨(blk_cell BK350.out 0).trans rfl, (blk_cell BK350.out 1).trans rfl, (blk_cell BK350.out 2).trans rfl⟩ (fun hHeld => ?_)
         clear hK K
         refine norm_ (a' := ?_) ?_ ?_
         rotate_left
         ·show Act.put _ (some 112) _ = _
          simp only [Act.put, List.setIfInBounds_toArray, List.set_cons_zero, List.set_cons_succ, i64_w, i32_w]
          rfl
         refine pure_ (i := 4) (N := some 113) (v := ?_) (a' := ?_) Bo18_35 rfl rfl (any_of HT_.out (by kernel_rfl)) (fun _ _ _ h => h) (Or.inl ⟨by rfl, ?_⟩) ?_ ?_
         rotate_left
         ·intro w'
          go_simp
          with_reducible rfl
         rotate_left
         ·simp only [Act.put, List.setIfInBounds_toArray, List.set_cons_zero, List.set_cons_succ, i64_w, i32_w]
          rfl
         refine pure_ (i := 5) (N := some 114) (v := ?_) (a' := ?_) Bo18_36 rfl rfl (any_of HT_.out (by kernel_rfl)) (fun _ _ _ h => h) (Or.inl ⟨by rfl, ?_⟩) ?_ ?_
         rotate_left
         ·intro w'
          go_simp
          with_reducible rfl
         rotate_left
         ·simp only [Act.put, List.setIfInBounds_toArray, List.set_cons_zero, List.set_cons_succ, i64_w, i32_w]
          rfl
         refine pure_ (i := 6) (N := some 115) (v := ?_) (a' := ?_) Bo18_37 rfl rfl (any_of HT_.out (by kernel_rfl)) (fun _ _ _ h => h) (Or.inl ⟨by rfl, ?_⟩) ?_ ?_
         rotate_left
         ·intro w'
          go_simp
          with_reducible rfl
         rotate_left
         ·simp only [Act.put, List.setIfInBounds_toArray, List.set_cons_zero, List.set_cons_succ, i64_w, i32_w]
          rfl
         refine take_ (i := 8) (N := some 117) (v := ?_) (a' := ?_) Bo18_38 rfl rfl (take_ofW HT_.out HW_.out (by kernel_rfl)) (fun _ _ _ h => h) (Or.inl ⟨by rfl, ?_⟩) hHeld ?_ ?_
         rotate_left
         ·rintro w' ⟨s0, s1, s2⟩
          go_simp
          with_reducible rfl
         rotate_left
         ·simp only [Act.put, List.setIfInBounds_toArray, List.set_cons_zero, List.set_cons_succ, i64_w, i32_w]
          rfl
         refine one_ (i := 7) (N := some 116) Bo18_39 rfl rfl (one_of HT_.out (by kernel_rfl)) (by decide) (fun K hK => ?_)
         refine goes_ Try.func23 (by kernel_rfl) rfl #[.pointer (some ⟨g346, 0, none⟩)] (by rfl) rfl rfl (by (try simp only [List.map_toArray, List.map_cons, List.map_nil]); first | done | rfl | (simp only [List.length_drop, List.length_take]; rfl)) ?_
         with_reducible refine (wire_Reader_End.calls g346 t399 t400 t401 t403 t404 t405 t406 w _ ?side1 ?side2 A142.out).mono ?_
         (case side1 => repeat (first | (with_reducible first | exact HI346.out | apply sA | apply sN | apply sD | apply s0 | apply s1 | apply s2 | refine sF ?_ NB346_350.out _) | exact HI346.out))
         (case side2 => repeat (first | (with_reducible first | exact HB.out | apply cA | apply cN | apply cD | refine cS ?_ (IsS73.ge HI346.out) | refine cS ?_ GE350.out) | exact HB.out))
         rintro e w155 ⟨rfl, hi, hb, hk⟩
         refine ⟨_, rfl, ?_⟩
         have n0_ := Aside0.mk (KeepBut.blk hk (g' := gb350) (o := .cells #[.string x351000_2, .int .i64 x351001_2, .int .i64 x351002_2] 42 (0, 0)) (Up.blk BK350.out) NB350_346.out (by simp))
         have n1_ := Aside0.mk (hb)
         have n2_ := Aside0.mk (hi)
         clear BK350
         clear HB
         clear HI346
         have BK350 := n0_
         have HB := n1_
         have HI346 := n2_
         clear n0_ n1_ n2_
         (try clear hb)
         (try clear hb2)
         (try clear hk)
         (try clear hi)
         refine hK.out _ _ ⟨(blk_cell BK350.out 0).trans rfl, (blk_cell BK350.out 1).trans rfl, (blk_cell BK350.out 2).trans rfl⟩ (fun hHeld => ?_)
         clear hK K
         refine norm_ (a' := ?_) ?_ ?_
         rotate_left
         ·show Act.put _ (some 116) _ = _
          simp only [Act.put, List.setIfInBounds_toArray, List.set_cons_zero, List.set_cons_succ, i64_w, i32_w]
          rfl
         refine one_ (i := 9) (N := some 118) Bo18_40 rfl rfl (one_of HT_.out (by kernel_rfl)) (by decide) (fun K hK => ?_)
         refine goes_ Try.func35 (by kernel_rfl) rfl #[.agg #[.string x351000_2, .int .i64 x351001_2, .int .i64 x351002_2]] (by rfl) rfl rfl (by (try simp only [List.map_toArray, List.map_cons, List.map_nil]); first | done | rfl | (simp only [List.length_drop, List.length_take]; rfl)) ?_
         with_reducible refine (sawmillref05_End.calls x351000_2 x351001_2 x351002_2 t407 _ A143.out).mono ?_
         rintro e w156 ⟨rfl, hb⟩
         refine ⟨_, rfl, ?_⟩
         have n0_ := Aside0.mk (blk_below (Up.blk BK350.out) hb)
         have n1_ := Aside0.mk (IsS73.below (by repeat (first | (with_reducible first | exact HI346.out | apply sA | apply sN | apply sD | apply s0 | apply s1 | apply s2 | refine sF ?_ NB346_350.out _) | exact HI346.out)) hb)
         have n2_ := Aside0.mk (below_step (by repeat (first | (with_reducible first | exact HB.out | apply cA | apply cN | apply cD | refine cS ?_ (IsS73.ge HI346.out) | refine cS ?_ GE350.out) | exact HB.out)) hb)
         clear BK350
         clear HI346
         clear HB
         have BK350 := n0_
         have HI346 := n1_
         have HB := n2_
         clear n0_ n1_ n2_
         (try clear hb)
         (try clear hb2)
         (try clear hk)
         (try clear hi)
         refine hK.out _ _ ⟨(blk_cell BK350.out 0).trans rfl, (blk_cell BK350.out 1).trans rfl, (blk_cell BK350.out 2).trans rfl⟩ (fun hHeld => ?_)
         clear hK K
         refine norm_ (a' := ?_) ?_ ?_
         rotate_left
         ·show Act.put _ (some 118) _ = _
          simp only [Act.put, List.setIfInBounds_toArray, List.set_cons_zero, List.set_cons_succ, i64_w, i32_w]
          rfl
         refine pure_ (i := 10) (N := some 119) (v := ?_) (a' := ?_) Bo18_41 rfl rfl (any_of HT_.out (by kernel_rfl)) (fun _ _ _ h => h) (Or.inl ⟨by rfl, ?_⟩) ?_ ?_
         rotate_left
         ·intro w'
          go_simp
          with_reducible rfl
         rotate_left
         ·simp only [Act.put, List.setIfInBounds_toArray, List.set_cons_zero, List.set_cons_succ, i64_w, i32_w]
          rfl
         refine pure_ (i := 11) (N := some 120) (v := ?_) (a' := ?_) Bo18_42 rfl rfl (any_of HT_.out (by kernel_rfl)) (fun _ _ _ h => h) (Or.inl ⟨by rfl, ?_⟩) ?_ ?_
         rotate_left
         ·intro w'
          go_simp
          with_reducible rfl
         rotate_left
         ·simp only [Act.put, List.setIfInBounds_toArray, List.set_cons_zero, List.set_cons_succ, i64_w, i32_w]
          rfl
         refine pure_ (i := 12) (N := some 121) (v := ?_) (a' := ?_) Bo18_43 rfl rfl (any_of HT_.out (by kernel_rfl)) (fun _ _ _ h => h) (Or.inl ⟨by rfl, ?_⟩) ?_ ?_
         rotate_left
         ·intro w'
          go_simp
          with_reducible rfl
         rotate_left
         ·simp only [Act.put, List.setIfInBounds_toArray, List.set_cons_zero, List.set_cons_succ, i64_w, i32_w]
          rfl
         refine pure_ (i := 13) (N := some 122) (v := undef) (a' := ?_) Bo18_44 rfl rfl (any_of HT_.out (by kernel_rfl)) (fun _ _ _ h => h) (Or.inr ⟨by rfl, rfl⟩) ?_ ?_
         rotate_left
         ·simp only [Act.put, List.setIfInBounds_toArray, List.set_cons_zero, List.set_cons_succ, i64_w, i32_w]
          rfl
         refine pure_ (i := 14) (N := some 123) (v := ?_) (a' := ?_) Bo18_45 rfl rfl (any_of HT_.out (by kernel_rfl)) (fun _ _ _ h => h) (Or.inl ⟨by rfl, ?_⟩) ?_ ?_
         rotate_left
         ·intro w'
          go_simp
          with_reducible rfl
         rotate_left
         ·simp only [Act.put, List.setIfInBounds_toArray, List.set_cons_zero, List.set_cons_succ, i64_w, i32_w]
          rfl
         refine pure_ (i := 15) (N := some 4) (v := ?_) (a' := ?_) Bo18_46 rfl rfl (any_of HT_.out (by kernel_rfl)) (fun _ _ _ h => h) (Or.inl ⟨by rfl, ?_⟩) ?_ ?_
         rotate_left
         ·intro w'
          go_simp
          with_reducible rfl
         rotate_left
         ·simp only [Act.put, List.setIfInBounds_toArray, List.set_cons_zero, List.set_cons_succ, i64_w, i32_w]
          rfl
         refine done_ (done_of HT_.out (by kernel_rfl)) ?_
         try go_wp2
         go_ret
         exact ⟨by first | rfl | (simp [errW_none, errW_some] <;> rfl) | (simp [*, errW_none, errW_some] <;> rfl), by repeat (first | (with_reducible first | exact HB.out | apply cA | apply cN | apply cD | refine cS ?_ (IsS73.ge HI346.out) | refine cS ?_ GE350.out) | exact HB.out)⟩
       ·rw [if_neg c141] at H
        have c141b0 : (t398 == t402) = false := beq_eq_false_iff_ne.mpr c141
        have c141b1 : (t398 != t402) = true := bne_iff_ne.mpr c141
        obtain rfl := Option.some.inj H
        try go_wp2
        have n0_ := Aside0.mk (bD BK350.out)
        have n1_ := Aside0.mk (sD HI346.out)
        have n2_ := Aside0.mk (cD HB.out)
        clear BK350
        clear HI346
        clear HB
        have BK350 := n0_
        have HI346 := n1_
        have HB := n2_
        clear n0_ n1_ n2_
        refine start_ (n := 16) (S := fun w' => w'.cell? ⟨gb350, 0, none⟩ = some (.string x351000_2) ∧ w'.cell? ⟨gb350, 1, none⟩ = some (.int .i64 x351001_2) ∧ w'.cell? ⟨gb350, 2, none⟩ = some (.int .i64 x351002_2)) (ds := []) Bo18_30 (by kernel_rfl) rfl rfl ⟨(blk_cell BK350.out 0).trans rfl, (blk_cell BK350.out 1).trans rfl, (blk_cell BK350.out 2).trans rfl⟩ (fun hHeld => ?_); refine with_tabW sawmilllaw05_WireReads.tab21 sawmilllaw05_WireReads.bits21 (fun HT_ HW_ => ?_)
        generalize wr.drew = w157 at BK350 HI346 HB hHeld ⊢
        refine pure_ (i := 0) (N := some 109) (v := ?_) (a' := ?_) Bo18_31 rfl rfl (any_of HT_.out (by kernel_rfl)) (fun _ _ _ h => h) (Or.inl ⟨by rfl, ?_⟩) ?_ ?_
        rotate_left
        ·intro w'
         go_simp
         with_reducible rfl
        rotate_left
        ·simp only [Act.put, List.setIfInBounds_toArray, List.set_cons_zero, List.set_cons_succ, i64_w, i32_w]
         rfl
        refine take_ (i := 2) (N := some 111) (v := ?_) (a' := ?_) Bo18_32 rfl rfl (take_ofW HT_.out HW_.out (by kernel_rfl)) (fun _ _ _ h => h) (Or.inl ⟨by rfl, ?_⟩) hHeld ?_ ?_
        rotate_left
        ·rintro w' ⟨s0, s1, s2⟩
         go_simp
         with_reducible rfl
        rotate_left
        ·simp only [Act.put, List.setIfInBounds_toArray, List.set_cons_zero, List.set_cons_succ, i64_w, i32_w]
         rfl
        refine one_ (i := 1) (N := some 110) Bo18_33 rfl rfl (one_of HT_.out (by kernel_rfl)) (by decide) (fun K hK => ?_)
        refine goes_ Try.func24 (by kernel_rfl) rfl #[.pointer (some ⟨g346, 0, none⟩)] (by rfl) rfl rfl (by (try simp only [List.map_toArray, List.map_cons, List.map_nil]); first | done | rfl | (simp only [List.length_drop, List.length_take]; rfl)) ?_
        with_reducible refine (wire_Reader_Left.calls g346 x347000_2 x347001_2 x347002_2 t398 t399 t400 t401 w _ ?side1 ?side2 A139.out).mono ?_
        (case side1 => repeat (first | (with_reducible first | exact HI346.out | apply sA | apply sN | apply sD | apply s0 | apply s1 | apply s2 | refine sF ?_ NB346_350.out _) | exact HI346.out))
        (case side2 => repeat (first | (with_reducible first | exact HB.out | apply cA | apply cN | apply cD | refine cS ?_ (IsS73.ge HI346.out) | refine cS ?_ GE350.out) | exact HB.out))
        rintro e w158 ⟨rfl, hi, hb, hk⟩
        refine ⟨_, rfl, ?_⟩
        have n0_ := Aside0.mk (KeepBut.blk hk (g' := gb350) (o := .cells #[.string x351000_2, .int .i64 x351001_2, .int .i64 x351002_2] 42 (0, 0)) (Up.blk BK350.out) NB350_346.out (by simp))
        have n1_ := Aside0.mk (hb)
        have n2_ := Aside0.mk (hi)
        clear BK350
        clear HB
        clear HI346
        have BK350 := n0_
        have HB := n1_
        have HI346 := n2_
        clear n0_ n1_ n2_
        (try clear hb)
        (try clear hb2)
        (try clear hk)
        (try clear hi)
        refine hK.out _ _ ⟨(blk_cell BK350.out 0).trans rfl, (blk_cell BK350.out 1).trans rfl, (blk_cell BK350.out 2).trans rfl⟩ (fun hHeld => ?_)
        clear hK K
        refine norm_ (a' := ?_) ?_ ?_
        rotate_left
        ·show Act.put _ (some 110) _ = _
         simp only [Act.put, List.setIfInBounds_toArray, List.set_cons_zero, List.set_cons_succ, i64_w, i32_w]
         rfl
        refine one_ (i := 3) (N := some 112) Bo18_34 rfl rfl (one_of HT_.out (by kernel_rfl)) (by decide) (fun K hK => ?_)
        refine goes_ Try.func33 (by kernel_rfl) rfl #[.agg #[.string x351000_2, .int .i64 x351001_2, .int .i64 x351002_2]] (by rfl) rfl rfl (by (try simp only [List.map_toArray, List.map_cons, List.map_nil]); first | done | rfl | (simp only [List.length_drop, List.length_take]; rfl)) ?_
        with_reducible refine (sawmillref05_Left.calls x351000_2 x351001_2 x351002_2 t402 _ A140.out).mono ?_
        rintro e w159 ⟨rfl, hb⟩
        refine ⟨_, rfl, ?_⟩
        have n0_ := Aside0.mk (blk_below (Up.blk BK350.out) hb)
        have n1_ := Aside0.mk (IsS73.below (by repeat (first | (with_reducible first | exact HI346.out | apply sA | apply sN | apply sD | apply s0 | apply s1 | apply s2 | refine sF ?_ NB346_350.out _) | exact HI346.out)) hb)
        have n2_ := Aside0.mk (below_step (by repeat (first | (with_reducible first | exact HB.out | apply cA | apply cN | apply cD | refine cS ?_ (IsS73.ge HI346.out) | refine cS ?_ GE350.out) | exact HB.out)) hb)
        clear BK350
        clear HI346
        clear HB
        have BK350 := n0_
        have HI346 := n1_
        have HB := n2_
        clear n0_ n1_ n2_
        (try clear hb)
        (try clear hb2)
        (try clear hk)
        (try clear hi)
        refine hK.out _ _ ⟨(blk_cell BK350.out 0).trans rfl, (blk_cell BK350.out 1).trans rfl, (blk_cell BK350.out 2).trans rfl⟩ (fun hHeld => ?_)
        clear hK K
        refine norm_ (a' := ?_) ?_ ?_
        rotate_left
        ·show Act.put _ (some 112) _ = _
         simp only [Act.put, List.setIfInBounds_toArray, List.set_cons_zero, List.set_cons_succ, i64_w, i32_w]
         rfl
        refine pure_ (i := 4) (N := some 113) (v := ?_) (a' := ?_) Bo18_35 rfl rfl (any_of HT_.out (by kernel_rfl)) (fun _ _ _ h => h) (Or.inl ⟨by rfl, ?_⟩) ?_ ?_
        rotate_left
        ·intro w'
         go_simp
         with_reducible rfl
        rotate_left
        ·simp only [Act.put, List.setIfInBounds_toArray, List.set_cons_zero, List.set_cons_succ, i64_w, i32_w]
         rfl
        refine pure_ (i := 5) (N := some 114) (v := ?_) (a' := ?_) Bo18_36 rfl rfl (any_of HT_.out (by kernel_rfl)) (fun _ _ _ h => h) (Or.inl ⟨by rfl, ?_⟩) ?_ ?_
        rotate_left
        ·intro w'
         go_simp
         with_reducible rfl
        rotate_left
        ·simp only [Act.put, List.setIfInBounds_toArray, List.set_cons_zero, List.set_cons_succ, i64_w, i32_w]
         rfl
        refine pure_ (i := 6) (N := some 115) (v := undef) (a' := ?_) Bo18_37 rfl rfl (any_of HT_.out (by kernel_rfl)) (fun _ _ _ h => h) (Or.inr ⟨by rfl, rfl⟩) ?_ ?_
        rotate_left
        ·simp only [Act.put, List.setIfInBounds_toArray, List.set_cons_zero, List.set_cons_succ, i64_w, i32_w]
         rfl
        refine pure_ (i := 7) (N := some 116) (v := undef) (a' := ?_) Bo18_47 rfl rfl (any_of HT_.out (by kernel_rfl)) (fun _ _ _ h => h) (Or.inr ⟨by rfl, rfl⟩) ?_ ?_
        rotate_left
        ·simp only [Act.put, List.setIfInBounds_toArray, List.set_cons_zero, List.set_cons_succ, i64_w, i32_w]
         rfl
        refine pure_ (i := 8) (N := some 117) (v := undef) (a' := ?_) Bo18_39 rfl rfl (any_of HT_.out (by kernel_rfl)) (fun _ _ _ h => h) (Or.inr ⟨by rfl, rfl⟩) ?_ ?_
        rotate_left
        ·simp only [Act.put, List.setIfInBounds_toArray, List.set_cons_zero, List.set_cons_succ, i64_w, i32_w]
         rfl
        refine pure_ (i := 9) (N := some 118) (v := undef) (a' := ?_) Bo18_40 rfl rfl (any_of HT_.out (by kernel_rfl)) (fun _ _ _ h => h) (Or.inr ⟨by rfl, rfl⟩) ?_ ?_
        rotate_left
        ·simp only [Act.put, List.setIfInBounds_toArray, List.set_cons_zero, List.set_cons_succ, i64_w, i32_w]
         rfl
        refine pure_ (i := 10) (N := some 119) (v := undef) (a' := ?_) Bo18_41 rfl rfl (any_of HT_.out (by kernel_rfl)) (fun _ _ _ h => h) (Or.inr ⟨by rfl, rfl⟩) ?_ ?_
        rotate_left
        ·simp only [Act.put, List.setIfInBounds_toArray, List.set_cons_zero, List.set_cons_succ, i64_w, i32_w]
         rfl
        refine pure_ (i := 11) (N := some 120) (v := ?_) (a' := ?_) Bo18_42 rfl rfl (any_of HT_.out (by kernel_rfl)) (fun _ _ _ h => h) (Or.inl ⟨by rfl, ?_⟩) ?_ ?_
        rotate_left
        ·intro w'
         go_simp
         with_reducible rfl
        rotate_left
        ·simp only [Act.put, List.setIfInBounds_toArray, List.set_cons_zero, List.set_cons_succ, i64_w, i32_w]
         rfl
        refine pure_ (i := 12) (N := some 121) (v := ?_) (a' := ?_) Bo18_43 rfl rfl (any_of HT_.out (by kernel_rfl)) (fun _ _ _ h => h) (Or.inl ⟨by rfl, ?_⟩) ?_ ?_
        rotate_left
        ·intro w'
         go_simp
         with_reducible rfl
        rotate_left
        ·simp only [Act.put, List.setIfInBounds_toArray, List.set_cons_zero, List.set_cons_succ, i64_w, i32_w]
         rfl
        refine pure_ (i := 13) (N := some 122) (v := undef) (a' := ?_) Bo18_44 rfl rfl (any_of HT_.out (by kernel_rfl)) (fun _ _ _ h => h) (Or.inr ⟨by rfl, rfl⟩) ?_ ?_
        rotate_left
        ·simp only [Act.put, List.setIfInBounds_toArray, List.set_cons_zero, List.set_cons_succ, i64_w, i32_w]
         rfl
        refine pure_ (i := 14) (N := some 123) (v := ?_) (a' := ?_) Bo18_45 rfl rfl (any_of HT_.out (by kernel_rfl)) (fun _ _ _ h => h) (Or.inl ⟨by rfl, ?_⟩) ?_ ?_
        rotate_left
        ·intro w'
         go_simp
         with_reducible rfl
        rotate_left
        ·simp only [Act.put, List.setIfInBounds_toArray, List.set_cons_zero, List.set_cons_succ, i64_w, i32_w]
         rfl
        refine pure_ (i := 15) (N := some 4) (v := ?_) (a' := ?_) Bo18_46 rfl rfl (any_of HT_.out (by kernel_rfl)) (fun _ _ _ h => h) (Or.inl ⟨by rfl, ?_⟩) ?_ ?_
        rotate_left
        ·intro w'
         go_simp
         with_reducible rfl
        rotate_left
        ·simp only [Act.put, List.setIfInBounds_toArray, List.set_cons_zero, List.set_cons_succ, i64_w, i32_w]
         rfl
        refine done_ (done_of HT_.out (by kernel_rfl)) ?_
        try go_wp2
        go_ret
        exact ⟨by first | rfl | (simp [errW_none, errW_some] <;> rfl) | (simp [*, errW_none, errW_some] <;> rfl), by repeat (first | (with_reducible first | exact HB.out | apply cA | apply cN | apply cD | refine cS ?_ (IsS73.ge HI346.out) | refine cS ?_ GE350.out) | exact HB.out)⟩

end Go.Proofs.Ytpbekhkmeaaejaa.PAll
