-- Written by a changed copy of the kit's print program, run in this session (NOTES.md tells the change); crashed's contract was walked by hand. Not trusted: Lean checks it.
import Derived.Test.YtkgdppjlbjmjoaaPAllx0
import Derived.Test.YtkgdppjlbjmjoaaPAllx2
import Derived.Test.YtkgdppjlbjmjoaaDiskL
namespace Go.Proofs.Ytkgdppjlbjmjoaa.PAll
open Go.Proofs.Ytkgdppjlbjmjoaa Go.RowKit Go.Proofs.YtkgdppjlbjmjoaaW.PrintWords Go.Proofs.YtkgdppjlbjmjoaaW.PrintLast Go.Proofs.YtkgdppjlbjmjoaaW.PrintMore
attribute [local go_sem] max2_int min2_int max_two min_two max_three min_three max_four min_four   -- for this text's walks alone
set_option linter.unusedVariables false
set_option linter.unusedSimpArgs false

/-! ### sawmillref56_crashed: function 40 -/
def sawmillref56_crashed.f (k : Nat) (l0_0 : List ByteArray) (l0_1 : List (S67)) (a0_2 : Bool) (a0_3 : Bool) (a0_4 : Int) (a0_5 : Int) (a1 : Int) : Option (List ByteArray × (List (S67)) × Bool × Bool × Int × Int) := (sawmillref56_settled.f k l0_0 l0_1 a0_2 a0_3 a0_4 a0_5 a1).bind fun bt116 => (some (bt116.1, bt116.2.1, true, false, 0, 0))
theorem sawmillref56_crashed.mono : ∀ a0 a1 a2 a3 a4 a5 a6 k, LeO (sawmillref56_crashed.f k a0 a1 a2 a3 a4 a5 a6) (sawmillref56_crashed.f (k + 1) a0 a1 a2 a3 a4 a5 a6) := by
  intro a0 a1 a2 a3 a4 a5 a6 k
  unfold sawmillref56_crashed.f
  repeat' first
      | (with_reducible exact sawmillref56_settled.mono _ _ _ _ _ _ _ _)
      | (with_reducible exact LeO.refl _)
      | (with_reducible exact LeO.none _)
      | (with_reducible refine LeO.ite ?_ ?_)
      | (with_reducible refine LeO.bind ?_ (fun _ => ?_))
      | exact sawmillref56_settled.mono _ _ _ _ _ _ _ _
      | exact LeO.none _
      | refine LeO.ite ?_ ?_
      | refine LeO.bind ?_ (fun _ => ?_)
set_option maxHeartbeats 8000000 in
set_option maxRecDepth 100000 in
theorem sawmillref56_crashed.calls (k : Nat) (A0_0 : Option Addr) (c0_0 : Nat) (l0_0 : List ByteArray) (A0_1 : Option Addr) (c0_1 : Nat) (l0_1 : List (S67)) (a0_2 : Bool) (a0_3 : Bool) (a0_4 : Int) (a0_5 : Int) (a1 : Int) (r1 : List ByteArray) (r2 : List (S67)) (r3 : Bool) (r4 : Bool) (r5 : Int) (r6 : Int) (w : World) (hr0_0 : Kd.C Kd.string w A0_0 l0_0.length l0_0) (hc0_0 : l0_0.length ≤ c0_0) (hr0_1 : Kd.C k67 w A0_1 l0_1.length l0_1) (hc0_1 : l0_1.length ≤ c0_1) (h : sawmillref56_crashed.f k l0_0 l0_1 a0_2 a0_3 a0_4 a0_5 a1 = some (r1, r2, r3, r4, r5, r6)) :
    Calls Try.prog 40 #[.agg #[.slice A0_0 l0_0.length c0_0, .slice A0_1 l0_1.length c0_1, .bool a0_2, .bool a0_3, .int .i64 a0_4, .int .u64 a0_5], .int .u64 a1] w fun e w' => ∃ v0_ v1_ : Value, e = .returned (.agg #[v0_, v1_, .bool r3, .bool r4, .int .i64 r5, .int .u64 r6]) ∧ Kd.R Kd.string 9 w' w.heap.size (fun _ => True) v0_ r1 ∧ Kd.R k67 67 w' w.heap.size (fun _ => True) v1_ r2 ∧ Below w.heap.size w w' := by
  have hu30 := Try.underlying30
  have HR0_0 := Aside0.mk hr0_0
  have HC0_0 := Aside0.mk hc0_0
  clear hr0_0 hc0_0
  have HR0_1 := Aside0.mk hr0_1
  have HC0_1 := Aside0.mk hc0_1
  clear hr0_1 hc0_1
  have HB := Aside0.mk (Below.refl w.heap.size w)
  have H : ((sawmillref56_settled.f k l0_0 l0_1 a0_2 a0_3 a0_4 a0_5 a1).bind fun bt116 => (some (bt116.1, bt116.2.1, true, false, 0, 0))) = some (r1, r2, r3, r4, r5, r6) := h
  clear h
  replace H := Option.bind_eq_some_iff.mp H
  obtain ⟨⟨t116, t119, t122, t123, t124, t125⟩, A30, H⟩ := H
  replace H : (some (t116, t119, true, false, 0, 0)) = some (r1, r2, r3, r4, r5, r6) := H
  have A3 := Aside0.mk A30
  clear A30
  simp only [Option.some.injEq, Prod.mk.injEq] at H
  obtain ⟨rfl, rfl, rfl, rfl, rfl, rfl⟩ := H
  go_enter Try.func40, Try.ntmps40
  go_upto_region 2 with (first | ((with_reducible refine gate_dst (N := 2) rfl ?_); refine box_event ?hg (N := 2) ?hd (cs := #[.slice A0_0 l0_0.length c0_0, .slice A0_1 l0_1.length c0_1, .bool a0_2, .bool a0_3, .int .i64 a0_4, .int .u64 a0_5]) (t := 30) ?hr ?_; (case hd => rfl); (case hg => rfl); (case hr => first | (go_simp; done) | (go_simp; rfl)); intro gb114 hg w4 hbox hb; have n0_ := Aside0.mk (below_step (by repeat (first | (with_reducible first | exact HB.out | apply below_alloc | apply pw_below_drewN | apply below_drew1) | exact HB.out)) hb); have n1_ := Aside0.mk (hbox); have n2_ := Aside0.mk ((by rw [hg]; exact (below_size (by repeat (first | (with_reducible first | exact HB.out | apply below_alloc | apply pw_below_drewN | apply below_drew1) | exact HB.out))) : w.heap.size ≤ gb114)); have n3_ := Aside0.mk ((by rw [hg]; exact (below_size (by repeat (first | (with_reducible first | exact HB.out | apply below_alloc | apply pw_below_drewN | apply below_drew1) | exact HB.out))) : w.heap.size ≤ gb114)); clear HB; have HB := n0_; have BK114 := n1_; have GW114 := n2_; have GE114 := n3_; clear n0_ n1_ n2_ n3_; clear hb hbox hg) | ((with_reducible refine gate_dst (N := 4) rfl ?_); refine box_event ?hg (N := 4) ?hd (cs := #[.slice none 0 0, .slice none 0 0, .bool false, .bool false, .int .i64 0, .int .u64 0]) (t := 30) ?hr ?_; (case hd => rfl); (case hg => rfl); (case hr => first | (go_simp; done) | (go_simp; rfl)); intro gb115 hg w5 hbox hb; have n0_ := Aside0.mk (blk_below (g := gb114) (o := .cells #[.slice A0_0 l0_0.length c0_0, .slice A0_1 l0_1.length c0_1, .bool a0_2, .bool a0_3, .int .i64 a0_4, .int .u64 a0_5] 30 (0, 0)) (by (with_reducible repeat (first | refine blk_drewN ?_ _ | refine blk_drew ?_ | refine blk_alloc ?_ _)); exact BK114.out) hb); have n1_ := Aside0.mk (below_step (by repeat (first | (with_reducible first | exact HB.out | apply below_alloc | apply pw_below_drewN | apply below_drew1 | refine below_set ?_ GE114.out) | exact HB.out)) hb); have n2_ := Aside0.mk (hbox); have n3_ := Aside0.mk ((by rw [hg]; exact (below_size (by repeat (first | (with_reducible first | exact HB.out | apply below_alloc | apply pw_below_drewN | apply below_drew1 | refine below_set ?_ GE114.out) | exact HB.out))) : w.heap.size ≤ gb115)); have n4_ := Aside0.mk ((by rw [hg]; exact (below_size (by repeat (first | (with_reducible first | exact HB.out | apply below_alloc | apply pw_below_drewN | apply below_drew1 | refine below_set ?_ GE114.out) | exact HB.out))) : w.heap.size ≤ gb115)); have n5_ := Aside0.mk ((by rw [hg]; exact Nat.ne_of_lt (blk_lt (g := gb114) (o := .cells #[.slice A0_0 l0_0.length c0_0, .slice A0_1 l0_1.length c0_1, .bool a0_2, .bool a0_3, .int .i64 a0_4, .int .u64 a0_5] 30 (0, 0)) (by (with_reducible repeat (first | refine blk_drewN ?_ _ | refine blk_drew ?_ | refine blk_alloc ?_ _)); exact BK114.out)) : gb114 ≠ gb115)); have n6_ := Aside0.mk ((by rw [hg]; exact Nat.ne_of_gt (blk_lt (g := gb114) (o := .cells #[.slice A0_0 l0_0.length c0_0, .slice A0_1 l0_1.length c0_1, .bool a0_2, .bool a0_3, .int .i64 a0_4, .int .u64 a0_5] 30 (0, 0)) (by (with_reducible repeat (first | refine blk_drewN ?_ _ | refine blk_drew ?_ | refine blk_alloc ?_ _)); exact BK114.out)) : gb115 ≠ gb114)); clear BK114; clear HB; have BK114 := n0_; have HB := n1_; have BK115 := n2_; have GW115 := n3_; have GE115 := n4_; have NB114_115 := n5_; have NB115_114 := n6_; clear n0_ n1_ n2_ n3_ n4_ n5_ n6_; clear hb hbox hg; have hnb6 := NB114_115.out; have hnc6 := NB115_114.out; have hcz7_0 : w5.cell? ⟨gb114, 0, none⟩ = some (.slice A0_0 l0_0.length c0_0) := (blk_cell BK114.out 0).trans rfl; have hcz7_1 : w5.cell? ⟨gb114, 1, none⟩ = some (.slice A0_1 l0_1.length c0_1) := (blk_cell BK114.out 1).trans rfl; have hcz7_2 : w5.cell? ⟨gb114, 2, none⟩ = some (.bool a0_2) := (blk_cell BK114.out 2).trans rfl; have hcz7_3 : w5.cell? ⟨gb114, 3, none⟩ = some (.bool a0_3) := (blk_cell BK114.out 3).trans rfl; have hcz7_4 : w5.cell? ⟨gb114, 4, none⟩ = some (.int .i64 a0_4) := (blk_cell BK114.out 4).trans rfl; have hcz7_5 : w5.cell? ⟨gb114, 5, none⟩ = some (.int .u64 a0_5) := (blk_cell BK114.out 5).trans rfl; have hfz7_0 := blk_frozen BK114.out 0; have hfz7_1 := blk_frozen BK114.out 1; have hfz7_2 := blk_frozen BK114.out 2; have hfz7_3 := blk_frozen BK114.out 3; have hfz7_4 := blk_frozen BK114.out 4; have hfz7_5 := blk_frozen BK114.out 5) | ((with_reducible refine gate_callee (f := 39) rfl ?_); refine goesL_ (some 7) rfl rfl Try.func39 (by kernel_rfl) rfl #[.agg #[.slice A0_0 l0_0.length c0_0, .slice A0_1 l0_1.length c0_1, .bool a0_2, .bool a0_3, .int .i64 a0_4, .int .u64 a0_5], .int .u64 a1] rfl (by (try simp only [List.map_toArray, List.map_cons, List.map_nil]); first | done | rfl | (simp only [List.length_drop, List.length_take]; rfl)) ?_; (with_reducible refine (sawmillref56_settled.calls k _ _ l0_0 _ _ l0_1 a0_2 a0_3 a0_4 a0_5 a1 t116 t119 t122 t123 t124 t125 _ ?side1 ?side2 ?side3 ?side4 A3.out).mono ?_); (case side1 => repeat (first | exact (Kd.C_below HR0_0.out HB.out) | (with_reducible refine Kd.C_alloc ?_ _) | (with_reducible refine Kd.C_drewN ?_ _) | (with_reducible refine Kd.C_drew ?_))); (case side2 => exact HC0_0.out); (case side3 => repeat (first | exact (Kd.C_below HR0_1.out HB.out) | (with_reducible refine Kd.C_alloc ?_ _) | (with_reducible refine Kd.C_drewN ?_ _) | (with_reducible refine Kd.C_drew ?_))); (case side4 => exact HC0_1.out); rintro e w8 ⟨v117, v120, rfl, ho0, ho1, hb⟩; refine ⟨_, rfl, ?_⟩; have n0_ := Aside0.mk (Kd.R_lower ho0 (below_size (by repeat (first | (with_reducible first | exact HB.out | apply below_alloc | apply pw_below_drewN | apply below_drew1 | refine below_set ?_ GE114.out | refine below_set ?_ GE115.out) | exact HB.out)))); have n1_ := Aside0.mk (Kd.R_lower ho1 (below_size (by repeat (first | (with_reducible first | exact HB.out | apply below_alloc | apply pw_below_drewN | apply below_drew1 | refine below_set ?_ GE114.out | refine below_set ?_ GE115.out) | exact HB.out)))); have n2_ := Aside0.mk (blk_below (g := gb114) (o := .cells #[.slice A0_0 l0_0.length c0_0, .slice A0_1 l0_1.length c0_1, .bool a0_2, .bool a0_3, .int .i64 a0_4, .int .u64 a0_5] 30 (0, 0)) (by (with_reducible repeat (first | refine blk_drewN ?_ _ | refine blk_drew ?_ | refine blk_alloc ?_ _)); exact BK114.out) hb); have n3_ := Aside0.mk (blk_below (g := gb115) (o := .cells #[.slice none 0 0, .slice none 0 0, .bool false, .bool false, .int .i64 0, .int .u64 0] 30 (0, 0)) (by (with_reducible repeat (first | refine blk_drewN ?_ _ | refine blk_drew ?_ | refine blk_alloc ?_ _)); exact BK115.out) hb); have n4_ := Aside0.mk (below_step (by repeat (first | (with_reducible first | exact HB.out | apply below_alloc | apply pw_below_drewN | apply below_drew1 | refine below_set ?_ GE114.out | refine below_set ?_ GE115.out) | exact HB.out)) hb); clear BK114; clear BK115; clear HB; have HO118 := n0_; have HO121 := n1_; have BK114 := n2_; have BK115 := n3_; have HB := n4_; clear n0_ n1_ n2_ n3_ n4_; (try clear hb); (try clear hb2); (try clear hk); (try clear hi); (try clear ho0); (try clear ho1); obtain ⟨Ao9, co9, eo9⟩ := Kd.R_slice HO118.out; subst eo9; have hcz10_0 : w8.cell? ⟨gb114, 0, none⟩ = some (.slice A0_0 l0_0.length c0_0) := (blk_cell BK114.out 0).trans rfl; have hcz10_1 : w8.cell? ⟨gb114, 1, none⟩ = some (.slice A0_1 l0_1.length c0_1) := (blk_cell BK114.out 1).trans rfl; have hcz10_2 : w8.cell? ⟨gb114, 2, none⟩ = some (.bool a0_2) := (blk_cell BK114.out 2).trans rfl; have hcz10_3 : w8.cell? ⟨gb114, 3, none⟩ = some (.bool a0_3) := (blk_cell BK114.out 3).trans rfl; have hcz10_4 : w8.cell? ⟨gb114, 4, none⟩ = some (.int .i64 a0_4) := (blk_cell BK114.out 4).trans rfl; have hcz10_5 : w8.cell? ⟨gb114, 5, none⟩ = some (.int .u64 a0_5) := (blk_cell BK114.out 5).trans rfl; have hfz10_0 := blk_frozen BK114.out 0; have hfz10_1 := blk_frozen BK114.out 1; have hfz10_2 := blk_frozen BK114.out 2; have hfz10_3 := blk_frozen BK114.out 3; have hfz10_4 := blk_frozen BK114.out 4; have hfz10_5 := blk_frozen BK114.out 5; obtain ⟨Ao11, co11, eo11⟩ := Kd.R_slice HO121.out; subst eo11; have hcz12_0 : w8.cell? ⟨gb115, 0, none⟩ = some (.slice none 0 0) := (blk_cell BK115.out 0).trans rfl; have hcz12_1 : w8.cell? ⟨gb115, 1, none⟩ = some (.slice none 0 0) := (blk_cell BK115.out 1).trans rfl; have hcz12_2 : w8.cell? ⟨gb115, 2, none⟩ = some (.bool false) := (blk_cell BK115.out 2).trans rfl; have hcz12_3 : w8.cell? ⟨gb115, 3, none⟩ = some (.bool false) := (blk_cell BK115.out 3).trans rfl; have hcz12_4 : w8.cell? ⟨gb115, 4, none⟩ = some (.int .i64 0) := (blk_cell BK115.out 4).trans rfl; have hcz12_5 : w8.cell? ⟨gb115, 5, none⟩ = some (.int .u64 0) := (blk_cell BK115.out 5).trans rfl; have hfz12_0 := blk_frozen BK115.out 0; have hfz12_1 := blk_frozen BK115.out 1; have hfz12_2 := blk_frozen BK115.out 2; have hfz12_3 := blk_frozen BK115.out 3; have hfz12_4 := blk_frozen BK115.out 4; have hfz12_5 := blk_frozen BK115.out 5))
  generalize hW1 : World.setCell _ _ _ = W1
  have T1 : Dk.Turn (fun k => k = gb114) w8 W1 := by rw [← hW1]; exact Dk.Turn.set (S := fun k => k = gb114) (g := gb114) (Dk.Turn.set (S := fun k => k = gb114) (g := gb114) (Dk.Turn.set (S := fun k => k = gb114) (g := gb114) (Dk.Turn.set (S := fun k => k = gb114) (g := gb114) (Dk.Turn.set (S := fun k => k = gb114) (g := gb114) (Dk.Turn.set (S := fun k => k = gb114) (g := gb114) (Dk.Turn.refl (fun k => k = gb114) _) rfl _) rfl _) rfl _) rfl _) rfl _) rfl _
  have B1 : W1.heap[gb114]? = some (.cells #[.slice Ao9 t116.length co9, .slice Ao11 t119.length co11, .bool t122, .bool t123, .int .i64 t124, .int .u64 t125] 30 (0, 0)) := by rw [← hW1]; refine blk_put (cs := #[.slice Ao9 t116.length co9, .slice Ao11 t119.length co11, .bool t122, .bool t123, .int .i64 t124, .int .u64 a0_5]) ?_ 5 _ rfl; refine blk_put (cs := #[.slice Ao9 t116.length co9, .slice Ao11 t119.length co11, .bool t122, .bool t123, .int .i64 a0_4, .int .u64 a0_5]) ?_ 4 _ rfl; refine blk_put (cs := #[.slice Ao9 t116.length co9, .slice Ao11 t119.length co11, .bool t122, .bool a0_3, .int .i64 a0_4, .int .u64 a0_5]) ?_ 3 _ rfl; refine blk_put (cs := #[.slice Ao9 t116.length co9, .slice Ao11 t119.length co11, .bool a0_2, .bool a0_3, .int .i64 a0_4, .int .u64 a0_5]) ?_ 2 _ rfl; refine blk_put (cs := #[.slice Ao9 t116.length co9, .slice A0_1 l0_1.length c0_1, .bool a0_2, .bool a0_3, .int .i64 a0_4, .int .u64 a0_5]) ?_ 1 _ rfl; refine blk_put (cs := #[.slice A0_0 l0_0.length c0_0, .slice A0_1 l0_1.length c0_1, .bool a0_2, .bool a0_3, .int .i64 a0_4, .int .u64 a0_5]) ?_ 0 _ rfl; exact BK114.out
  have B2 := T1.blk BK115.out NB115_114.out
  clear hW1
  clear hcz10_0 hfz10_0 hcz12_0 hfz12_0
  clear hcz10_1 hfz10_1 hcz12_1 hfz12_1
  clear hcz10_2 hfz10_2 hcz12_2 hfz12_2
  clear hcz10_3 hfz10_3 hcz12_3 hfz12_3
  clear hcz10_4 hfz10_4 hcz12_4 hfz12_4
  clear hcz10_5 hfz10_5 hcz12_5 hfz12_5
  have hca_0 : W1.cell? ⟨gb114, 0, none⟩ = some (.slice Ao9 t116.length co9) := (blk_cell B1 0).trans rfl
  have hfa_0 := blk_frozen B1 0
  have hca_1 : W1.cell? ⟨gb114, 1, none⟩ = some (.slice Ao11 t119.length co11) := (blk_cell B1 1).trans rfl
  have hfa_1 := blk_frozen B1 1
  have hca_2 : W1.cell? ⟨gb114, 2, none⟩ = some (.bool t122) := (blk_cell B1 2).trans rfl
  have hfa_2 := blk_frozen B1 2
  have hca_3 : W1.cell? ⟨gb114, 3, none⟩ = some (.bool t123) := (blk_cell B1 3).trans rfl
  have hfa_3 := blk_frozen B1 3
  have hca_4 : W1.cell? ⟨gb114, 4, none⟩ = some (.int .i64 t124) := (blk_cell B1 4).trans rfl
  have hfa_4 := blk_frozen B1 4
  have hca_5 : W1.cell? ⟨gb114, 5, none⟩ = some (.int .u64 t125) := (blk_cell B1 5).trans rfl
  have hfa_5 := blk_frozen B1 5
  go_upto_region 6 with (fail)
  generalize hW2 : World.setCell _ _ _ = W2
  have T2 : Dk.Turn (fun k => k = gb114) W1 W2 := by rw [← hW2]; exact Dk.Turn.set (S := fun k => k = gb114) (g := gb114) (Dk.Turn.set (S := fun k => k = gb114) (g := gb114) (Dk.Turn.set (S := fun k => k = gb114) (g := gb114) (Dk.Turn.set (S := fun k => k = gb114) (g := gb114) (Dk.Turn.refl (fun k => k = gb114) _) rfl _) rfl _) rfl _) rfl _
  have B3 : W2.heap[gb114]? = some (.cells #[.slice Ao9 t116.length co9, .slice Ao11 t119.length co11, .bool true, .bool false, .int .i64 0, .int .u64 0] 30 (0, 0)) := by rw [← hW2]; refine blk_put (cs := #[.slice Ao9 t116.length co9, .slice Ao11 t119.length co11, .bool true, .bool false, .int .i64 0, .int .u64 t125]) ?_ 5 _ rfl; refine blk_put (cs := #[.slice Ao9 t116.length co9, .slice Ao11 t119.length co11, .bool true, .bool false, .int .i64 t124, .int .u64 t125]) ?_ 4 _ rfl; refine blk_put (cs := #[.slice Ao9 t116.length co9, .slice Ao11 t119.length co11, .bool true, .bool t123, .int .i64 t124, .int .u64 t125]) ?_ 3 _ rfl; refine blk_put (cs := #[.slice Ao9 t116.length co9, .slice Ao11 t119.length co11, .bool t122, .bool t123, .int .i64 t124, .int .u64 t125]) ?_ 2 _ rfl; exact B1
  have B4 := T2.blk B2 NB115_114.out
  clear hW2
  clear hca_0 hfa_0
  clear hca_1 hfa_1
  clear hca_2 hfa_2
  clear hca_3 hfa_3
  clear hca_4 hfa_4
  clear hca_5 hfa_5
  have hcb_0 : W2.cell? ⟨gb114, 0, none⟩ = some (.slice Ao9 t116.length co9) := (blk_cell B3 0).trans rfl
  have hfb_0 := blk_frozen B3 0
  have hcb_1 : W2.cell? ⟨gb114, 1, none⟩ = some (.slice Ao11 t119.length co11) := (blk_cell B3 1).trans rfl
  have hfb_1 := blk_frozen B3 1
  have hcb_2 : W2.cell? ⟨gb114, 2, none⟩ = some (.bool true) := (blk_cell B3 2).trans rfl
  have hfb_2 := blk_frozen B3 2
  have hcb_3 : W2.cell? ⟨gb114, 3, none⟩ = some (.bool false) := (blk_cell B3 3).trans rfl
  have hfb_3 := blk_frozen B3 3
  have hcb_4 : W2.cell? ⟨gb114, 4, none⟩ = some (.int .i64 0) := (blk_cell B3 4).trans rfl
  have hfb_4 := blk_frozen B3 4
  have hcb_5 : W2.cell? ⟨gb114, 5, none⟩ = some (.int .u64 0) := (blk_cell B3 5).trans rfl
  have hfb_5 := blk_frozen B3 5
  have hcd_0 : W2.cell? ⟨gb115, 0, none⟩ = some (.slice none 0 0) := (blk_cell B4 0).trans rfl
  have hfd_0 := blk_frozen B4 0
  have hcd_1 : W2.cell? ⟨gb115, 1, none⟩ = some (.slice none 0 0) := (blk_cell B4 1).trans rfl
  have hfd_1 := blk_frozen B4 1
  have hcd_2 : W2.cell? ⟨gb115, 2, none⟩ = some (.bool false) := (blk_cell B4 2).trans rfl
  have hfd_2 := blk_frozen B4 2
  have hcd_3 : W2.cell? ⟨gb115, 3, none⟩ = some (.bool false) := (blk_cell B4 3).trans rfl
  have hfd_3 := blk_frozen B4 3
  have hcd_4 : W2.cell? ⟨gb115, 4, none⟩ = some (.int .i64 0) := (blk_cell B4 4).trans rfl
  have hfd_4 := blk_frozen B4 4
  have hcd_5 : W2.cell? ⟨gb115, 5, none⟩ = some (.int .u64 0) := (blk_cell B4 5).trans rfl
  have hfd_5 := blk_frozen B4 5
  go_wp2
  generalize hW3 : World.setCell _ _ _ = W3
  have T3 : Dk.Turn (fun k => k = gb115) W2 W3 := by rw [← hW3]; exact Dk.Turn.set (S := fun k => k = gb115) (g := gb115) (Dk.Turn.set (S := fun k => k = gb115) (g := gb115) (Dk.Turn.set (S := fun k => k = gb115) (g := gb115) (Dk.Turn.set (S := fun k => k = gb115) (g := gb115) (Dk.Turn.set (S := fun k => k = gb115) (g := gb115) (Dk.Turn.set (S := fun k => k = gb115) (g := gb115) (Dk.Turn.refl (fun k => k = gb115) _) rfl _) rfl _) rfl _) rfl _) rfl _) rfl _
  have B5 : W3.heap[gb115]? = some (.cells #[.slice Ao9 t116.length co9, .slice Ao11 t119.length co11, .bool true, .bool false, .int .i64 0, .int .u64 0] 30 (0, 0)) := by rw [← hW3]; refine blk_put (cs := #[.slice Ao9 t116.length co9, .slice Ao11 t119.length co11, .bool true, .bool false, .int .i64 0, .int .u64 0]) ?_ 5 _ rfl; refine blk_put (cs := #[.slice Ao9 t116.length co9, .slice Ao11 t119.length co11, .bool true, .bool false, .int .i64 0, .int .u64 0]) ?_ 4 _ rfl; refine blk_put (cs := #[.slice Ao9 t116.length co9, .slice Ao11 t119.length co11, .bool true, .bool false, .int .i64 0, .int .u64 0]) ?_ 3 _ rfl; refine blk_put (cs := #[.slice Ao9 t116.length co9, .slice Ao11 t119.length co11, .bool false, .bool false, .int .i64 0, .int .u64 0]) ?_ 2 _ rfl; refine blk_put (cs := #[.slice Ao9 t116.length co9, .slice none 0 0, .bool false, .bool false, .int .i64 0, .int .u64 0]) ?_ 1 _ rfl; refine blk_put (cs := #[.slice none 0 0, .slice none 0 0, .bool false, .bool false, .int .i64 0, .int .u64 0]) ?_ 0 _ rfl; exact B4
  clear hW3
  have TT : Dk.Turn (fun k => k = gb114 ∨ k = gb115) w8 W3 := ((T1.trans T2).mono (fun _ _ h => Or.inl h)).trans (T3.mono (fun _ _ h => Or.inr h))
  refine bodyPost_ret (results_cell_row rfl _ _ gb115 30 #[.slice Ao9 t116.length co9, .slice Ao11 t119.length co11, .bool true, .bool false, .int .i64 0, .int .u64 0] (0, 0) _ rfl B5 Try.underlying30 rfl (by kernel_rfl)) rfl ?_
  refine ⟨_, _, rfl, ?_, ?_, TT.below HB.out (by rintro k (rfl | rfl); exact GE114.out; exact GE115.out)⟩
  · exact Kd.R_mono (TT.row (Kd.R_types (Kd.R_types HO118.out BK114.out (by decide)) BK115.out (by decide)) (fun k hk hs => by rcases hs with h | h; exact hk.1.2 h; exact hk.2 h)) (fun _ _ => trivial)
  · exact Kd.R_mono (TT.row (Kd.R_types (Kd.R_types HO121.out BK114.out (by decide)) BK115.out (by decide)) (fun k hk hs => by rcases hs with h | h; exact hk.1.2 h; exact hk.2 h)) (fun _ _ => trivial)

/-! ### sawmillref56_step: function 38 -/
def sawmillref56_step.j0 : Nat → Bool → List ByteArray → List (S67) → Bool → Bool → Int → Int → Option (List ByteArray × (List (S67)) × Bool × Bool × Int × Int × Bool)
  | 0, _, _, _, _, _, _, _ => none
  | k + 1, x10, x127000, x127001, x127002, x127003, x127004, x127005 => if x10 = true then ((sawmillref56_crashed.f k x127000 x127001 x127002 x127003 x127004 x127005 x127005).bind fun bt128 => (some (bt128.1, bt128.2.1, bt128.2.2.1, bt128.2.2.2.1, bt128.2.2.2.2.1, bt128.2.2.2.2.2, false))) else (if x127003 = true then (some (x127000, x127001, x127002, x127003, wrap64 (x127004 - 1), x127005, true)) else (some (x127000, x127001, x127002, x127003, x127004, x127005, true)))
def sawmillref56_step.f (k : Nat) (l0_0 : List ByteArray) (l0_1 : List (S67)) (a0_2 : Bool) (a0_3 : Bool) (a0_4 : Int) (a0_5 : Int) : Option (List ByteArray × (List (S67)) × Bool × Bool × Int × Int × Bool) := if a0_3 = true then (sawmillref56_step.j0 k (a0_4 == 0) l0_0 l0_1 a0_2 a0_3 a0_4 a0_5) else (sawmillref56_step.j0 k false l0_0 l0_1 a0_2 a0_3 a0_4 a0_5)
theorem sawmillref56_step.mono_l : ∀ k, (∀ y0 y1 y2 y3 y4 y5 y6, LeO (sawmillref56_step.j0 k y0 y1 y2 y3 y4 y5 y6) (sawmillref56_step.j0 (k + 1) y0 y1 y2 y3 y4 y5 y6))
  | 0 => fun _ _ _ _ _ _ _ r h => by simp [sawmillref56_step.j0] at h
  | k + 1 => by
    have ih0 := sawmillref56_step.mono_l k
    · intro y0 y1 y2 y3 y4 y5 y6
      unfold sawmillref56_step.j0
      repeat' first
      | (with_reducible exact ih0 _ _ _ _ _ _ _)
      | (with_reducible exact sawmillref56_crashed.mono _ _ _ _ _ _ _ _)
      | (with_reducible exact LeO.refl _)
      | (with_reducible exact LeO.none _)
      | (with_reducible refine LeO.ite ?_ ?_)
      | (with_reducible refine LeO.bind ?_ (fun _ => ?_))
      | exact ih0 _ _ _ _ _ _ _
      | exact sawmillref56_crashed.mono _ _ _ _ _ _ _ _
      | exact LeO.none _
      | refine LeO.ite ?_ ?_
      | refine LeO.bind ?_ (fun _ => ?_)
theorem sawmillref56_step.mono : ∀ a0 a1 a2 a3 a4 a5 k, LeO (sawmillref56_step.f k a0 a1 a2 a3 a4 a5) (sawmillref56_step.f (k + 1) a0 a1 a2 a3 a4 a5) := by
  intro a0 a1 a2 a3 a4 a5 k
  have ih0 := sawmillref56_step.mono_l k
  unfold sawmillref56_step.f
  repeat' first
      | (with_reducible exact ih0 _ _ _ _ _ _ _)
      | (with_reducible exact sawmillref56_crashed.mono _ _ _ _ _ _ _ _)
      | (with_reducible exact LeO.refl _)
      | (with_reducible exact LeO.none _)
      | (with_reducible refine LeO.ite ?_ ?_)
      | (with_reducible refine LeO.bind ?_ (fun _ => ?_))
      | exact ih0 _ _ _ _ _ _ _
      | exact sawmillref56_crashed.mono _ _ _ _ _ _ _ _
      | exact LeO.none _
      | refine LeO.ite ?_ ?_
      | refine LeO.bind ?_ (fun _ => ?_)
set_option maxHeartbeats 8000000 in
set_option maxRecDepth 100000 in
theorem sawmillref56_step.calls (k : Nat) (P0_0_ : Nat → Prop) (u9000_ : Value) (l0_0 : List ByteArray) (P0_1_ : Nat → Prop) (u9001_ : Value) (l0_1 : List (S67)) (a0_2 : Bool) (a0_3 : Bool) (a0_4 : Int) (a0_5 : Int) (r1 : List ByteArray) (r2 : List (S67)) (r3 : Bool) (r4 : Bool) (r5 : Int) (r6 : Int) (r7 : Bool) (w0 w : World) (hB : Below w0.heap.size w0 w) (ho0_0 : Kd.R Kd.string 9 w w0.heap.size P0_0_ u9000_ l0_0) (ho0_1 : Kd.R k67 67 w w0.heap.size P0_1_ u9001_ l0_1) (h : sawmillref56_step.f k l0_0 l0_1 a0_2 a0_3 a0_4 a0_5 = some (r1, r2, r3, r4, r5, r6, r7)) :
    Calls Try.prog 38 #[.agg #[u9000_, u9001_, .bool a0_2, .bool a0_3, .int .i64 a0_4, .int .u64 a0_5]] w fun e w' => ∃ v0_ v1_ : Value, e = .returned (.tuple #[.agg #[v0_, v1_, .bool r3, .bool r4, .int .i64 r5, .int .u64 r6], .bool r7]) ∧ Kd.R Kd.string 9 w' w0.heap.size (fun k_ => ((P0_0_ k_ ∨ P0_1_ k_) ∨ w.heap.size ≤ k_)) v0_ r1 ∧ Kd.R k67 67 w' w0.heap.size (fun k_ => ((P0_0_ k_ ∨ P0_1_ k_) ∨ w.heap.size ≤ k_)) v1_ r2 ∧ Below w0.heap.size w0 w' ∧ Kept w w' (fun k_ => P0_0_ k_ ∨ P0_1_ k_) := by
  have hu30 := Try.underlying30
  have HO0_0 := Aside0.mk (show Kd.R Kd.string 9 w w0.heap.size (fun k_ => ((P0_0_ k_ ∨ P0_1_ k_) ∨ w.heap.size ≤ k_)) u9000_ l0_0 from Kd.R_mono ho0_0 (fun k_ hk => (.inl (.inl hk))))
  have HO0_1 := Aside0.mk (show Kd.R k67 67 w w0.heap.size (fun k_ => ((P0_0_ k_ ∨ P0_1_ k_) ∨ w.heap.size ≤ k_)) u9001_ l0_1 from Kd.R_mono ho0_1 (fun k_ hk => (.inl (.inr hk))))
  have HK := Aside0.mk (Kept.refl w (fun k_ => P0_0_ k_ ∨ P0_1_ k_))
  have HW0 := Aside0.mk hB.size
  have HB := Aside0.mk hB
  clear hB
  have H : (if a0_3 = true then (sawmillref56_step.j0 k (a0_4 == 0) l0_0 l0_1 a0_2 a0_3 a0_4 a0_5) else (sawmillref56_step.j0 k false l0_0 l0_1 a0_2 a0_3 a0_4 a0_5)) = some (r1, r2, r3, r4, r5, r6, r7) := h
  clear h
  have HC2 := Aside0.mk H
  clear H
  obtain ⟨Ao3, co3, eo3⟩ := Kd.R_slice HO0_0.out
  subst eo3
  obtain ⟨Ao4, co4, eo4⟩ := Kd.R_slice HO0_1.out
  subst eo4
  go_enter Try.func38, Try.ntmps38
  go_upto_region 1 with (first | ((with_reducible refine gate_dst (N := 1) rfl ?_); refine box_event ?hg (N := 1) ?hd (cs := #[.slice Ao3 l0_0.length co3, .slice Ao4 l0_1.length co4, .bool a0_2, .bool a0_3, .int .i64 a0_4, .int .u64 a0_5]) (t := 30) ?hr ?_; (case hd => rfl); (case hg => rfl); (case hr => first | (go_simp; done) | (go_simp; rfl)); intro gb126 hg w5 hbox hb; have n0_ := Aside0.mk (Kd.R_below (by (with_reducible repeat (first | apply Kd.R_alloc | apply Kd.R_drewN | apply Kd.R_drew)); exact HO0_0.out) hb); have n1_ := Aside0.mk (Kd.R_below (by (with_reducible repeat (first | apply Kd.R_alloc | apply Kd.R_drewN | apply Kd.R_drew)); exact HO0_1.out) hb); have n2_ := Aside0.mk (Kept.below (S := (fun k_ => P0_0_ k_ ∨ P0_1_ k_)) (by repeat (first | (with_reducible first | exact HK.out | apply Kept.alloc | apply Kept.drewN | apply Kept.drew) | exact HK.out)) hb); have n3_ := Aside0.mk (below_step (by repeat (first | (with_reducible first | exact HB.out | apply below_alloc | apply pw_below_drewN | apply below_drew1) | exact HB.out)) hb); have n4_ := Aside0.mk (hbox); have n5_ := Aside0.mk ((by rw [hg]; exact (by first | exact HK.out.1 | exact (show Kept w _ (fun k_ => P0_0_ k_ ∨ P0_1_ k_) from by repeat (first | (with_reducible first | exact HK.out | apply Kept.alloc | apply Kept.drewN | apply Kept.drew) | exact HK.out)).1) : w.heap.size ≤ gb126)); have n6_ := Aside0.mk ((by rw [hg]; exact (below_size (by repeat (first | (with_reducible first | exact HB.out | apply below_alloc | apply pw_below_drewN | apply below_drew1) | exact HB.out))) : w0.heap.size ≤ gb126)); clear HO0_0; clear HO0_1; clear HK; clear HB; have HO0_0 := n0_; have HO0_1 := n1_; have HK := n2_; have HB := n3_; have BK126 := n4_; have GW126 := n5_; have GE126 := n6_; clear n0_ n1_ n2_ n3_ n4_ n5_ n6_; clear hb hbox hg) | ((with_reducible refine gate_dst (N := 2) rfl ?_); refine box_event ?hg (N := 2) ?hd (cs := #[.slice none 0 0, .slice none 0 0, .bool false, .bool false, .int .i64 0, .int .u64 0]) (t := 30) ?hr ?_; (case hd => rfl); (case hg => rfl); (case hr => first | (go_simp; done) | (go_simp; rfl)); intro gb127 hg w6 hbox hb; have n0_ := Aside0.mk (Kd.R_below (by (with_reducible repeat (first | apply Kd.R_alloc | apply Kd.R_drewN | apply Kd.R_drew)); exact HO0_0.out) hb); have n1_ := Aside0.mk (Kd.R_below (by (with_reducible repeat (first | apply Kd.R_alloc | apply Kd.R_drewN | apply Kd.R_drew)); exact HO0_1.out) hb); have n2_ := Aside0.mk (blk_below (g := gb126) (o := .cells #[.slice Ao3 l0_0.length co3, .slice Ao4 l0_1.length co4, .bool a0_2, .bool a0_3, .int .i64 a0_4, .int .u64 a0_5] 30 (0, 0)) (by (with_reducible repeat (first | refine blk_drewN ?_ _ | refine blk_drew ?_ | refine blk_alloc ?_ _)); exact BK126.out) hb); have n3_ := Aside0.mk (Kept.below (S := (fun k_ => P0_0_ k_ ∨ P0_1_ k_)) (by repeat (first | (with_reducible first | exact HK.out | apply Kept.alloc | apply Kept.drewN | apply Kept.drew | refine Kept.setCell ?_ (.inr GW126.out) _) | exact HK.out)) hb); have n4_ := Aside0.mk (below_step (by repeat (first | (with_reducible first | exact HB.out | apply below_alloc | apply pw_below_drewN | apply below_drew1 | refine below_set ?_ GE126.out) | exact HB.out)) hb); have n5_ := Aside0.mk (hbox); have n6_ := Aside0.mk ((by rw [hg]; exact (by first | exact HK.out.1 | exact (show Kept w _ (fun k_ => P0_0_ k_ ∨ P0_1_ k_) from by repeat (first | (with_reducible first | exact HK.out | apply Kept.alloc | apply Kept.drewN | apply Kept.drew | refine Kept.setCell ?_ (.inr GW126.out) _) | exact HK.out)).1) : w.heap.size ≤ gb127)); have n7_ := Aside0.mk ((by rw [hg]; exact (below_size (by repeat (first | (with_reducible first | exact HB.out | apply below_alloc | apply pw_below_drewN | apply below_drew1 | refine below_set ?_ GE126.out) | exact HB.out))) : w0.heap.size ≤ gb127)); have n8_ := Aside0.mk ((by rw [hg]; exact Nat.ne_of_lt (blk_lt (g := gb126) (o := .cells #[.slice Ao3 l0_0.length co3, .slice Ao4 l0_1.length co4, .bool a0_2, .bool a0_3, .int .i64 a0_4, .int .u64 a0_5] 30 (0, 0)) (by (with_reducible repeat (first | refine blk_drewN ?_ _ | refine blk_drew ?_ | refine blk_alloc ?_ _)); exact BK126.out)) : gb126 ≠ gb127)); have n9_ := Aside0.mk ((by rw [hg]; exact Nat.ne_of_gt (blk_lt (g := gb126) (o := .cells #[.slice Ao3 l0_0.length co3, .slice Ao4 l0_1.length co4, .bool a0_2, .bool a0_3, .int .i64 a0_4, .int .u64 a0_5] 30 (0, 0)) (by (with_reducible repeat (first | refine blk_drewN ?_ _ | refine blk_drew ?_ | refine blk_alloc ?_ _)); exact BK126.out)) : gb127 ≠ gb126)); clear HO0_0; clear HO0_1; clear BK126; clear HK; clear HB; have HO0_0 := n0_; have HO0_1 := n1_; have BK126 := n2_; have HK := n3_; have HB := n4_; have BK127 := n5_; have GW127 := n6_; have GE127 := n7_; have NB126_127 := n8_; have NB127_126 := n9_; clear n0_ n1_ n2_ n3_ n4_ n5_ n6_ n7_ n8_ n9_; clear hb hbox hg))
  (try simp only [Act.put, List.setIfInBounds_toArray, List.set_cons_zero, List.set_cons_succ])
  go_cut [10] (fun v10 wc => ∃ (kq : Nat) (x10_1 : Bool), v10 = .bool x10_1 ∧ Aside0 (sawmillref56_step.j0 kq x10_1 l0_0 l0_1 a0_2 a0_3 a0_4 a0_5 = some (r1, r2, r3, r4, r5, r6, r7)) ∧ Aside0 (kq ≤ k) ∧ Aside0 (Kd.R Kd.string 9 wc w0.heap.size (fun k_ => ((P0_0_ k_ ∨ P0_1_ k_) ∨ w.heap.size ≤ k_)) (.slice Ao3 l0_0.length co3) l0_0) ∧ Aside0 (Kd.R k67 67 wc w0.heap.size (fun k_ => ((P0_0_ k_ ∨ P0_1_ k_) ∨ w.heap.size ≤ k_)) (.slice Ao4 l0_1.length co4) l0_1) ∧ Aside0 (wc.heap[gb126]? = some (.cells #[(.slice Ao3 l0_0.length co3), (.slice Ao4 l0_1.length co4), .bool a0_2, .bool a0_3, .int .i64 a0_4, .int .u64 a0_5] 30 (0, 0))) ∧ Aside0 (wc.heap[gb127]? = some (.cells #[(.slice none 0 0), (.slice none 0 0), .bool false, .bool false, .int .i64 0, .int .u64 0] 30 (0, 0))) ∧ Aside0 (Kept w wc (fun k_ => P0_0_ k_ ∨ P0_1_ k_)) ∧ Aside0 (Below w0.heap.size w0 wc))
  case first =>
    have H := HC2.out
    clear HC2
    by_cases c7 : a0_3 = true
    · subst c7
      have H1 : (sawmillref56_step.j0 k (a0_4 == 0) l0_0 l0_1 a0_2 true a0_4 a0_5) = some (r1, r2, r3, r4, r5, r6, r7) := by rw [if_pos rfl] at H; exact H
      clear H
      have H := H1
      clear H1
      have H' := Aside0.mk H
      clear H
      have hnb8 := NB126_127.out
      have hnc8 := NB127_126.out
      have hcz9_0 : w6.cell? ⟨gb126, 0, none⟩ = some (.slice Ao3 l0_0.length co3) := (blk_cell BK126.out 0).trans rfl
      have hcz9_1 : w6.cell? ⟨gb126, 1, none⟩ = some (.slice Ao4 l0_1.length co4) := (blk_cell BK126.out 1).trans rfl
      have hcz9_2 : w6.cell? ⟨gb126, 2, none⟩ = some (.bool a0_2) := (blk_cell BK126.out 2).trans rfl
      have hcz9_3 : w6.cell? ⟨gb126, 3, none⟩ = some (.bool true) := (blk_cell BK126.out 3).trans rfl
      have hcz9_4 : w6.cell? ⟨gb126, 4, none⟩ = some (.int .i64 a0_4) := (blk_cell BK126.out 4).trans rfl
      have hcz9_5 : w6.cell? ⟨gb126, 5, none⟩ = some (.int .u64 a0_5) := (blk_cell BK126.out 5).trans rfl
      have hfz9_0 := blk_frozen BK126.out 0
      have hfz9_1 := blk_frozen BK126.out 1
      have hfz9_2 := blk_frozen BK126.out 2
      have hfz9_3 := blk_frozen BK126.out 3
      have hfz9_4 := blk_frozen BK126.out 4
      have hfz9_5 := blk_frozen BK126.out 5
      go_wp2
      go_meet
      case rel => exact ⟨_, ((a0_4 == 0)), (by first | rfl | (simp; done) | (simp [*]; done)), H', ⟨by first | omega | exact Nat.le_refl _⟩, ⟨by (with_reducible repeat (first | apply Kd.R_alloc | apply Kd.R_drewN | apply Kd.R_drew)); exact HO0_0.out⟩, ⟨by (with_reducible repeat (first | apply Kd.R_alloc | apply Kd.R_drewN | apply Kd.R_drew)); exact HO0_1.out⟩, ⟨by (with_reducible repeat (first | refine blk_drewN ?_ _ | refine blk_drew ?_ | refine blk_alloc ?_ _)); exact BK126.out⟩, ⟨by (with_reducible repeat (first | refine blk_drewN ?_ _ | refine blk_drew ?_ | refine blk_alloc ?_ _)); exact BK127.out⟩, ⟨by repeat (first | (with_reducible first | exact HK.out | apply Kept.alloc | apply Kept.drewN | apply Kept.drew | refine Kept.setCell ?_ (.inr GW126.out) _ | refine Kept.setCell ?_ (.inr GW127.out) _) | exact HK.out)⟩, ⟨by repeat (first | (with_reducible first | exact HB.out | apply below_alloc | apply pw_below_drewN | apply below_drew1 | refine below_set ?_ GE126.out | refine below_set ?_ GE127.out) | exact HB.out)⟩⟩
    · replace c7 := Bool.eq_false_iff.mpr c7
      subst c7
      have H1 : (sawmillref56_step.j0 k false l0_0 l0_1 a0_2 false a0_4 a0_5) = some (r1, r2, r3, r4, r5, r6, r7) := by rw [if_neg (show ¬ (false = true) by decide)] at H; exact H
      clear H
      have H := H1
      clear H1
      have H' := Aside0.mk H
      clear H
      have hnb10 := NB126_127.out
      have hnc10 := NB127_126.out
      have hcz11_0 : w6.cell? ⟨gb126, 0, none⟩ = some (.slice Ao3 l0_0.length co3) := (blk_cell BK126.out 0).trans rfl
      have hcz11_1 : w6.cell? ⟨gb126, 1, none⟩ = some (.slice Ao4 l0_1.length co4) := (blk_cell BK126.out 1).trans rfl
      have hcz11_2 : w6.cell? ⟨gb126, 2, none⟩ = some (.bool a0_2) := (blk_cell BK126.out 2).trans rfl
      have hcz11_3 : w6.cell? ⟨gb126, 3, none⟩ = some (.bool false) := (blk_cell BK126.out 3).trans rfl
      have hcz11_4 : w6.cell? ⟨gb126, 4, none⟩ = some (.int .i64 a0_4) := (blk_cell BK126.out 4).trans rfl
      have hcz11_5 : w6.cell? ⟨gb126, 5, none⟩ = some (.int .u64 a0_5) := (blk_cell BK126.out 5).trans rfl
      have hfz11_0 := blk_frozen BK126.out 0
      have hfz11_1 := blk_frozen BK126.out 1
      have hfz11_2 := blk_frozen BK126.out 2
      have hfz11_3 := blk_frozen BK126.out 3
      have hfz11_4 := blk_frozen BK126.out 4
      have hfz11_5 := blk_frozen BK126.out 5
      go_wp2
      go_meet
      case rel => exact ⟨_, (false), (by first | rfl | (simp; done) | (simp [*]; done)), H', ⟨by first | omega | exact Nat.le_refl _⟩, ⟨by (with_reducible repeat (first | apply Kd.R_alloc | apply Kd.R_drewN | apply Kd.R_drew)); exact HO0_0.out⟩, ⟨by (with_reducible repeat (first | apply Kd.R_alloc | apply Kd.R_drewN | apply Kd.R_drew)); exact HO0_1.out⟩, ⟨by (with_reducible repeat (first | refine blk_drewN ?_ _ | refine blk_drew ?_ | refine blk_alloc ?_ _)); exact BK126.out⟩, ⟨by (with_reducible repeat (first | refine blk_drewN ?_ _ | refine blk_drew ?_ | refine blk_alloc ?_ _)); exact BK127.out⟩, ⟨by repeat (first | (with_reducible first | exact HK.out | apply Kept.alloc | apply Kept.drewN | apply Kept.drew | refine Kept.setCell ?_ (.inr GW126.out) _ | refine Kept.setCell ?_ (.inr GW127.out) _) | exact HK.out)⟩, ⟨by repeat (first | (with_reducible first | exact HB.out | apply below_alloc | apply pw_below_drewN | apply below_drew1 | refine below_set ?_ GE126.out | refine below_set ?_ GE127.out) | exact HB.out)⟩⟩
  case rest =>
    clear HC2
    try clear c1
    try clear p2
    try clear c3
    try clear c7
    try clear c8
    try clear c10
    try clear hcz11_0
    try clear hcz11_1
    try clear hcz11_2
    try clear hcz11_3
    try clear hcz11_4
    try clear hcz11_5
    try clear hcz9_0
    try clear hcz9_1
    try clear hcz9_2
    try clear hcz9_3
    try clear hcz9_4
    try clear hcz9_5
    try clear hfz11_0
    try clear hfz11_1
    try clear hfz11_2
    try clear hfz11_3
    try clear hfz11_4
    try clear hfz11_5
    try clear hfz9_0
    try clear hfz9_1
    try clear hfz9_2
    try clear hfz9_3
    try clear hfz9_4
    try clear hfz9_5
    obtain ⟨kq, x10_1, rfl, HA, HJ1, HO_127000, HO_127001, BK126, BK127, HK, HB⟩ := hcut
    cases kq with
    | zero => exact absurd HA.out (by simp [sawmillref56_step.j0])
    | succ kj1 =>
      have H := HA.out
      clear HA
      simp only [sawmillref56_step.j0] at H
      by_cases c12 : x10_1 = true
      · subst c12
        have H1 : ((sawmillref56_crashed.f kj1 l0_0 l0_1 a0_2 a0_3 a0_4 a0_5 a0_5).bind fun bt128 => (some (bt128.1, bt128.2.1, bt128.2.2.1, bt128.2.2.2.1, bt128.2.2.2.2.1, bt128.2.2.2.2.2, false))) = some (r1, r2, r3, r4, r5, r6, r7) := by rw [if_pos rfl] at H; exact H
        clear H
        have H := H1
        clear H1
        replace H := Option.bind_eq_some_iff.mp H
        obtain ⟨⟨t128, t131, t134, t135, t136, t137⟩, A130, H⟩ := H
        replace H : (some (t128, t131, t134, t135, t136, t137, false)) = some (r1, r2, r3, r4, r5, r6, r7) := H
        have A13 := Aside0.mk A130
        clear A130
        simp only [Option.some.injEq, Prod.mk.injEq] at H
        obtain ⟨rfl, rfl, rfl, rfl, rfl, rfl, rfl⟩ := H
        have hnb14 := NB126_127.out
        have hnc14 := NB127_126.out
        have hcz15_0 : wc.cell? ⟨gb126, 0, none⟩ = some (.slice Ao3 l0_0.length co3) := (blk_cell BK126.out 0).trans rfl
        have hcz15_1 : wc.cell? ⟨gb126, 1, none⟩ = some (.slice Ao4 l0_1.length co4) := (blk_cell BK126.out 1).trans rfl
        have hcz15_2 : wc.cell? ⟨gb126, 2, none⟩ = some (.bool a0_2) := (blk_cell BK126.out 2).trans rfl
        have hcz15_3 : wc.cell? ⟨gb126, 3, none⟩ = some (.bool a0_3) := (blk_cell BK126.out 3).trans rfl
        have hcz15_4 : wc.cell? ⟨gb126, 4, none⟩ = some (.int .i64 a0_4) := (blk_cell BK126.out 4).trans rfl
        have hcz15_5 : wc.cell? ⟨gb126, 5, none⟩ = some (.int .u64 a0_5) := (blk_cell BK126.out 5).trans rfl
        have hfz15_0 := blk_frozen BK126.out 0
        have hfz15_1 := blk_frozen BK126.out 1
        have hfz15_2 := blk_frozen BK126.out 2
        have hfz15_3 := blk_frozen BK126.out 3
        have hfz15_4 := blk_frozen BK126.out 4
        have hfz15_5 := blk_frozen BK126.out 5
        go_wp2_with (first | ((with_reducible refine gate_callee (f := 40) rfl ?_); refine goesL_ (some 14) rfl rfl Try.func40 (by kernel_rfl) rfl #[.agg #[.slice Ao3 l0_0.length co3, .slice Ao4 l0_1.length co4, .bool a0_2, .bool a0_3, .int .i64 a0_4, .int .u64 a0_5], .int .u64 a0_5] rfl (by (try simp only [List.map_toArray, List.map_cons, List.map_nil]); first | done | rfl | (simp only [List.length_drop, List.length_take]; rfl)) ?_; (with_reducible refine (sawmillref56_crashed.calls kj1 _ _ l0_0 _ _ l0_1 a0_2 a0_3 a0_4 a0_5 a0_5 t128 t131 t134 t135 t136 t137 _ ?side1 ?side2 ?side3 ?side4 A13.out).mono ?_); (case side1 => repeat (first | exact (Kd.R_reads' HO_127000.out).2.2 | (with_reducible refine Kd.C_alloc ?_ _) | (with_reducible refine Kd.C_drewN ?_ _) | (with_reducible refine Kd.C_drew ?_))); (case side2 => exact (Kd.R_reads' HO_127000.out).2.1); (case side3 => repeat (first | exact (Kd.R_reads' HO_127001.out).2.2 | (with_reducible refine Kd.C_alloc ?_ _) | (with_reducible refine Kd.C_drewN ?_ _) | (with_reducible refine Kd.C_drew ?_))); (case side4 => exact (Kd.R_reads' HO_127001.out).2.1); rintro e w16 ⟨v129, v132, rfl, ho0, ho1, hb⟩; refine ⟨_, rfl, ?_⟩; have n0_ := Aside0.mk (Kd.R_elder' (by (with_reducible repeat (first | apply Kd.R_alloc | apply Kd.R_drewN | apply Kd.R_drew)); exact HO_127000.out) (Kd.R_base ho0) hb); have n1_ := Aside0.mk (Kd.R_elder' (by (with_reducible repeat (first | apply Kd.R_alloc | apply Kd.R_drewN | apply Kd.R_drew)); exact HO_127001.out) (Kd.R_base ho1) hb); have n2_ := Aside0.mk (Kd.R_lower (Kd.R_new' (Kd.R_newM (M := fun k_ => ((P0_0_ k_ ∨ P0_1_ k_) ∨ w.heap.size ≤ k_)) ho0 (by first | exact HK.out.1 | exact (show Kept w _ (fun k_ => P0_0_ k_ ∨ P0_1_ k_) from by repeat (first | (with_reducible first | exact HK.out | apply Kept.alloc | apply Kept.drewN | apply Kept.drew | refine Kept.setCell ?_ (.inr GW126.out) _ | refine Kept.setCell ?_ (.inr GW127.out) _) | exact HK.out)).1) (fun k_ h_ => .inr h_)) (Kd.R_lt (by (with_reducible repeat (first | apply Kd.R_alloc | apply Kd.R_drewN | apply Kd.R_drew)); exact HO_127000.out))) (below_size (by repeat (first | (with_reducible first | exact HB.out | apply below_alloc | apply pw_below_drewN | apply below_drew1 | refine below_set ?_ GE126.out | refine below_set ?_ GE127.out) | exact HB.out)))); have n3_ := Aside0.mk (Kd.R_lower (Kd.R_new' (Kd.R_newM (M := fun k_ => ((P0_0_ k_ ∨ P0_1_ k_) ∨ w.heap.size ≤ k_)) ho1 (by first | exact HK.out.1 | exact (show Kept w _ (fun k_ => P0_0_ k_ ∨ P0_1_ k_) from by repeat (first | (with_reducible first | exact HK.out | apply Kept.alloc | apply Kept.drewN | apply Kept.drew | refine Kept.setCell ?_ (.inr GW126.out) _ | refine Kept.setCell ?_ (.inr GW127.out) _) | exact HK.out)).1) (fun k_ h_ => .inr h_)) (Kd.R_lt (by (with_reducible repeat (first | apply Kd.R_alloc | apply Kd.R_drewN | apply Kd.R_drew)); exact HO_127001.out))) (below_size (by repeat (first | (with_reducible first | exact HB.out | apply below_alloc | apply pw_below_drewN | apply below_drew1 | refine below_set ?_ GE126.out | refine below_set ?_ GE127.out) | exact HB.out)))); have n4_ := Aside0.mk (blk_below (g := gb126) (o := .cells #[.slice Ao3 l0_0.length co3, .slice Ao4 l0_1.length co4, .bool a0_2, .bool a0_3, .int .i64 a0_4, .int .u64 a0_5] 30 (0, 0)) (by (with_reducible repeat (first | refine blk_drewN ?_ _ | refine blk_drew ?_ | refine blk_alloc ?_ _)); exact BK126.out) hb); have n5_ := Aside0.mk (blk_below (g := gb127) (o := .cells #[.slice none 0 0, .slice none 0 0, .bool false, .bool false, .int .i64 0, .int .u64 0] 30 (0, 0)) (by (with_reducible repeat (first | refine blk_drewN ?_ _ | refine blk_drew ?_ | refine blk_alloc ?_ _)); exact BK127.out) hb); have n6_ := Aside0.mk (Kept.below (S := (fun k_ => P0_0_ k_ ∨ P0_1_ k_)) (by repeat (first | (with_reducible first | exact HK.out | apply Kept.alloc | apply Kept.drewN | apply Kept.drew | refine Kept.setCell ?_ (.inr GW126.out) _ | refine Kept.setCell ?_ (.inr GW127.out) _) | exact HK.out)) hb); have n7_ := Aside0.mk (below_step (by repeat (first | (with_reducible first | exact HB.out | apply below_alloc | apply pw_below_drewN | apply below_drew1 | refine below_set ?_ GE126.out | refine below_set ?_ GE127.out) | exact HB.out)) hb); clear HO_127000; clear HO_127001; clear BK126; clear BK127; clear HK; clear HB; have HO_127000 := n0_; have HO_127001 := n1_; have HO130 := n2_; have HO133 := n3_; have BK126 := n4_; have BK127 := n5_; have HK := n6_; have HB := n7_; clear n0_ n1_ n2_ n3_ n4_ n5_ n6_ n7_; (try clear hb); (try clear hb2); (try clear hk); (try clear hi); (try clear ho0); (try clear ho1); obtain ⟨Ao17, co17, eo17⟩ := Kd.R_slice HO130.out; subst eo17; have hcz18_0 : w16.cell? ⟨gb127, 0, none⟩ = some (.slice none 0 0) := (blk_cell BK127.out 0).trans rfl; have hcz18_1 : w16.cell? ⟨gb127, 1, none⟩ = some (.slice none 0 0) := (blk_cell BK127.out 1).trans rfl; have hcz18_2 : w16.cell? ⟨gb127, 2, none⟩ = some (.bool false) := (blk_cell BK127.out 2).trans rfl; have hcz18_3 : w16.cell? ⟨gb127, 3, none⟩ = some (.bool false) := (blk_cell BK127.out 3).trans rfl; have hcz18_4 : w16.cell? ⟨gb127, 4, none⟩ = some (.int .i64 0) := (blk_cell BK127.out 4).trans rfl; have hcz18_5 : w16.cell? ⟨gb127, 5, none⟩ = some (.int .u64 0) := (blk_cell BK127.out 5).trans rfl; have hfz18_0 := blk_frozen BK127.out 0; have hfz18_1 := blk_frozen BK127.out 1; have hfz18_2 := blk_frozen BK127.out 2; have hfz18_3 := blk_frozen BK127.out 3; have hfz18_4 := blk_frozen BK127.out 4; have hfz18_5 := blk_frozen BK127.out 5; obtain ⟨Ao19, co19, eo19⟩ := Kd.R_slice HO133.out; subst eo19))
        refine bodyPost_ret (results_ct rfl _ _ gb127 30 #[.slice Ao17 t128.length co17, .slice Ao19 t131.length co19, .bool t134, .bool t135, .int .i64 t136, .int .u64 t137] (0, 0) _ rfl (by (with_reducible repeat (first | refine blk_drewN ?_ _ | refine blk_drew ?_ | refine blk_alloc ?_ _)); refine blk_put (cs := #[.slice Ao17 t128.length co17, .slice Ao19 t131.length co19, .bool t134, .bool t135, .int .i64 t136, .int .u64 0]) ?_ 5 _ rfl; (with_reducible repeat (first | refine blk_drewN ?_ _ | refine blk_drew ?_ | refine blk_alloc ?_ _)); refine blk_put (cs := #[.slice Ao17 t128.length co17, .slice Ao19 t131.length co19, .bool t134, .bool t135, .int .i64 0, .int .u64 0]) ?_ 4 _ rfl; (with_reducible repeat (first | refine blk_drewN ?_ _ | refine blk_drew ?_ | refine blk_alloc ?_ _)); refine blk_put (cs := #[.slice Ao17 t128.length co17, .slice Ao19 t131.length co19, .bool t134, .bool false, .int .i64 0, .int .u64 0]) ?_ 3 _ rfl; (with_reducible repeat (first | refine blk_drewN ?_ _ | refine blk_drew ?_ | refine blk_alloc ?_ _)); refine blk_put (cs := #[.slice Ao17 t128.length co17, .slice Ao19 t131.length co19, .bool false, .bool false, .int .i64 0, .int .u64 0]) ?_ 2 _ rfl; (with_reducible repeat (first | refine blk_drewN ?_ _ | refine blk_drew ?_ | refine blk_alloc ?_ _)); refine blk_put (cs := #[.slice Ao17 t128.length co17, .slice none 0 0, .bool false, .bool false, .int .i64 0, .int .u64 0]) ?_ 1 _ rfl; (with_reducible repeat (first | refine blk_drewN ?_ _ | refine blk_drew ?_ | refine blk_alloc ?_ _)); refine blk_put (cs := #[.slice none 0 0, .slice none 0 0, .bool false, .bool false, .int .i64 0, .int .u64 0]) ?_ 0 _ rfl; (with_reducible repeat (first | refine blk_drewN ?_ _ | refine blk_drew ?_ | refine blk_alloc ?_ _)); exact BK127.out) Try.underlying30 rfl (by kernel_rfl)) rfl ?_
        exact ⟨_, _, by first | rfl | (simp [errW_none, errW_some] <;> rfl) | (simp [*, errW_none, errW_some] <;> rfl), by (with_reducible repeat (first | apply Kd.R_alloc | apply Kd.R_drewN | apply Kd.R_drew)); exact Kd.R_mono (Kd.R_far (p := ⟨gb127, 5, none⟩) (Kd.R_far (p := ⟨gb127, 4, none⟩) (Kd.R_far (p := ⟨gb127, 3, none⟩) (Kd.R_far (p := ⟨gb127, 2, none⟩) (Kd.R_far (p := ⟨gb127, 1, none⟩) (Kd.R_far (p := ⟨gb127, 0, none⟩) (Kd.R_types HO130.out BK127.out (by decide)) (fun _ hk => hk.2) (.slice Ao17 t128.length co17)) (fun _ hk => hk.2) (.slice Ao19 t131.length co19)) (fun _ hk => hk.2) (.bool t134)) (fun _ hk => hk.2) (.bool t135)) (fun _ hk => hk.2) (.int .i64 t136)) (fun _ hk => hk.2) (.int .u64 t137)) (fun _ hk => hk.1.1.1), by (with_reducible repeat (first | apply Kd.R_alloc | apply Kd.R_drewN | apply Kd.R_drew)); exact Kd.R_mono (Kd.R_far (p := ⟨gb127, 5, none⟩) (Kd.R_far (p := ⟨gb127, 4, none⟩) (Kd.R_far (p := ⟨gb127, 3, none⟩) (Kd.R_far (p := ⟨gb127, 2, none⟩) (Kd.R_far (p := ⟨gb127, 1, none⟩) (Kd.R_far (p := ⟨gb127, 0, none⟩) (Kd.R_types HO133.out BK127.out (by decide)) (fun _ hk => hk.2) (.slice Ao17 t128.length co17)) (fun _ hk => hk.2) (.slice Ao19 t131.length co19)) (fun _ hk => hk.2) (.bool t134)) (fun _ hk => hk.2) (.bool t135)) (fun _ hk => hk.2) (.int .i64 t136)) (fun _ hk => hk.2) (.int .u64 t137)) (fun _ hk => hk.1.1.1), by repeat (first | (with_reducible first | exact HB.out | apply below_alloc | apply pw_below_drewN | apply below_drew1 | refine below_set ?_ GE126.out | refine below_set ?_ GE127.out) | exact HB.out), by repeat (first | (with_reducible first | exact HK.out | apply Kept.alloc | apply Kept.drewN | apply Kept.drew | refine Kept.setCell ?_ (.inr GW126.out) _ | refine Kept.setCell ?_ (.inr GW127.out) _) | exact HK.out)⟩
      · replace c12 := Bool.eq_false_iff.mpr c12
        subst c12
        have H1 : (if a0_3 = true then (some (l0_0, l0_1, a0_2, a0_3, wrap64 (a0_4 - 1), a0_5, true)) else (some (l0_0, l0_1, a0_2, a0_3, a0_4, a0_5, true))) = some (r1, r2, r3, r4, r5, r6, r7) := by rw [if_neg (show ¬ (false = true) by decide)] at H; exact H
        clear H
        have H := H1
        clear H1
        by_cases c20 : a0_3 = true
        · subst c20
          have H1 : (some (l0_0, l0_1, a0_2, true, wrap64 (a0_4 - 1), a0_5, true)) = some (r1, r2, r3, r4, r5, r6, r7) := by rw [if_pos rfl] at H; exact H
          clear H
          have H := H1
          clear H1
          simp only [Option.some.injEq, Prod.mk.injEq] at H
          obtain ⟨rfl, rfl, rfl, rfl, rfl, rfl, rfl⟩ := H
          have hnb21 := NB126_127.out
          have hnc21 := NB127_126.out
          have hcz22_0 : wc.cell? ⟨gb126, 0, none⟩ = some (.slice Ao3 l0_0.length co3) := (blk_cell BK126.out 0).trans rfl
          have hcz22_1 : wc.cell? ⟨gb126, 1, none⟩ = some (.slice Ao4 l0_1.length co4) := (blk_cell BK126.out 1).trans rfl
          have hcz22_2 : wc.cell? ⟨gb126, 2, none⟩ = some (.bool a0_2) := (blk_cell BK126.out 2).trans rfl
          have hcz22_3 : wc.cell? ⟨gb126, 3, none⟩ = some (.bool true) := (blk_cell BK126.out 3).trans rfl
          have hcz22_4 : wc.cell? ⟨gb126, 4, none⟩ = some (.int .i64 a0_4) := (blk_cell BK126.out 4).trans rfl
          have hcz22_5 : wc.cell? ⟨gb126, 5, none⟩ = some (.int .u64 a0_5) := (blk_cell BK126.out 5).trans rfl
          have hfz22_0 := blk_frozen BK126.out 0
          have hfz22_1 := blk_frozen BK126.out 1
          have hfz22_2 := blk_frozen BK126.out 2
          have hfz22_3 := blk_frozen BK126.out 3
          have hfz22_4 := blk_frozen BK126.out 4
          have hfz22_5 := blk_frozen BK126.out 5
          have hcz23_0 : wc.cell? ⟨gb127, 0, none⟩ = some (.slice none 0 0) := (blk_cell BK127.out 0).trans rfl
          have hcz23_1 : wc.cell? ⟨gb127, 1, none⟩ = some (.slice none 0 0) := (blk_cell BK127.out 1).trans rfl
          have hcz23_2 : wc.cell? ⟨gb127, 2, none⟩ = some (.bool false) := (blk_cell BK127.out 2).trans rfl
          have hcz23_3 : wc.cell? ⟨gb127, 3, none⟩ = some (.bool false) := (blk_cell BK127.out 3).trans rfl
          have hcz23_4 : wc.cell? ⟨gb127, 4, none⟩ = some (.int .i64 0) := (blk_cell BK127.out 4).trans rfl
          have hcz23_5 : wc.cell? ⟨gb127, 5, none⟩ = some (.int .u64 0) := (blk_cell BK127.out 5).trans rfl
          have hfz23_0 := blk_frozen BK127.out 0
          have hfz23_1 := blk_frozen BK127.out 1
          have hfz23_2 := blk_frozen BK127.out 2
          have hfz23_3 := blk_frozen BK127.out 3
          have hfz23_4 := blk_frozen BK127.out 4
          have hfz23_5 := blk_frozen BK127.out 5
          go_wp2
          refine bodyPost_ret (results_ct rfl _ _ gb127 30 #[.slice Ao3 l0_0.length co3, .slice Ao4 l0_1.length co4, .bool a0_2, .bool true, .int .i64 (wrap64 (a0_4 - 1)), .int .u64 a0_5] (0, 0) _ rfl (by (with_reducible repeat (first | refine blk_drewN ?_ _ | refine blk_drew ?_ | refine blk_alloc ?_ _)); refine blk_put (cs := #[.slice Ao3 l0_0.length co3, .slice Ao4 l0_1.length co4, .bool a0_2, .bool true, .int .i64 (wrap64 (a0_4 - 1)), .int .u64 0]) ?_ 5 _ rfl; (with_reducible repeat (first | refine blk_drewN ?_ _ | refine blk_drew ?_ | refine blk_alloc ?_ _)); refine blk_put (cs := #[.slice Ao3 l0_0.length co3, .slice Ao4 l0_1.length co4, .bool a0_2, .bool true, .int .i64 0, .int .u64 0]) ?_ 4 _ rfl; (with_reducible repeat (first | refine blk_drewN ?_ _ | refine blk_drew ?_ | refine blk_alloc ?_ _)); refine blk_put (cs := #[.slice Ao3 l0_0.length co3, .slice Ao4 l0_1.length co4, .bool a0_2, .bool false, .int .i64 0, .int .u64 0]) ?_ 3 _ rfl; (with_reducible repeat (first | refine blk_drewN ?_ _ | refine blk_drew ?_ | refine blk_alloc ?_ _)); refine blk_put (cs := #[.slice Ao3 l0_0.length co3, .slice Ao4 l0_1.length co4, .bool false, .bool false, .int .i64 0, .int .u64 0]) ?_ 2 _ rfl; (with_reducible repeat (first | refine blk_drewN ?_ _ | refine blk_drew ?_ | refine blk_alloc ?_ _)); refine blk_put (cs := #[.slice Ao3 l0_0.length co3, .slice none 0 0, .bool false, .bool false, .int .i64 0, .int .u64 0]) ?_ 1 _ rfl; (with_reducible repeat (first | refine blk_drewN ?_ _ | refine blk_drew ?_ | refine blk_alloc ?_ _)); refine blk_put (cs := #[.slice none 0 0, .slice none 0 0, .bool false, .bool false, .int .i64 0, .int .u64 0]) ?_ 0 _ rfl; (with_reducible repeat (first | refine blk_drewN ?_ _ | refine blk_drew ?_ | refine blk_alloc ?_ _)); refine blk_far ?_ NB127_126.out _; (with_reducible repeat (first | refine blk_drewN ?_ _ | refine blk_drew ?_ | refine blk_alloc ?_ _)); exact BK127.out) Try.underlying30 rfl (by kernel_rfl)) rfl ?_
          exact ⟨_, _, by first | rfl | (simp [errW_none, errW_some] <;> rfl) | (simp [*, errW_none, errW_some] <;> rfl), by (with_reducible repeat (first | apply Kd.R_alloc | apply Kd.R_drewN | apply Kd.R_drew)); exact Kd.R_mono (Kd.R_far (p := ⟨gb127, 5, none⟩) (Kd.R_far (p := ⟨gb127, 4, none⟩) (Kd.R_far (p := ⟨gb127, 3, none⟩) (Kd.R_far (p := ⟨gb127, 2, none⟩) (Kd.R_far (p := ⟨gb127, 1, none⟩) (Kd.R_far (p := ⟨gb127, 0, none⟩) (Kd.R_far (p := ⟨gb126, 4, none⟩) (Kd.R_types (Kd.R_types HO_127000.out BK126.out (by decide)) BK127.out (by decide)) (fun _ hk => hk.1.2) (.int .i64 (wrap64 (a0_4 - 1)))) (fun _ hk => hk.2) (.slice Ao3 l0_0.length co3)) (fun _ hk => hk.2) (.slice Ao4 l0_1.length co4)) (fun _ hk => hk.2) (.bool a0_2)) (fun _ hk => hk.2) (.bool true)) (fun _ hk => hk.2) (.int .i64 (wrap64 (a0_4 - 1)))) (fun _ hk => hk.2) (.int .u64 a0_5)) (fun _ hk => hk.1.1), by (with_reducible repeat (first | apply Kd.R_alloc | apply Kd.R_drewN | apply Kd.R_drew)); exact Kd.R_mono (Kd.R_far (p := ⟨gb127, 5, none⟩) (Kd.R_far (p := ⟨gb127, 4, none⟩) (Kd.R_far (p := ⟨gb127, 3, none⟩) (Kd.R_far (p := ⟨gb127, 2, none⟩) (Kd.R_far (p := ⟨gb127, 1, none⟩) (Kd.R_far (p := ⟨gb127, 0, none⟩) (Kd.R_far (p := ⟨gb126, 4, none⟩) (Kd.R_types (Kd.R_types HO_127001.out BK126.out (by decide)) BK127.out (by decide)) (fun _ hk => hk.1.2) (.int .i64 (wrap64 (a0_4 - 1)))) (fun _ hk => hk.2) (.slice Ao3 l0_0.length co3)) (fun _ hk => hk.2) (.slice Ao4 l0_1.length co4)) (fun _ hk => hk.2) (.bool a0_2)) (fun _ hk => hk.2) (.bool true)) (fun _ hk => hk.2) (.int .i64 (wrap64 (a0_4 - 1)))) (fun _ hk => hk.2) (.int .u64 a0_5)) (fun _ hk => hk.1.1), by repeat (first | (with_reducible first | exact HB.out | apply below_alloc | apply pw_below_drewN | apply below_drew1 | refine below_set ?_ GE126.out | refine below_set ?_ GE127.out) | exact HB.out), by repeat (first | (with_reducible first | exact HK.out | apply Kept.alloc | apply Kept.drewN | apply Kept.drew | refine Kept.setCell ?_ (.inr GW126.out) _ | refine Kept.setCell ?_ (.inr GW127.out) _) | exact HK.out)⟩
        · replace c20 := Bool.eq_false_iff.mpr c20
          subst c20
          have H1 : (some (l0_0, l0_1, a0_2, false, a0_4, a0_5, true)) = some (r1, r2, r3, r4, r5, r6, r7) := by rw [if_neg (show ¬ (false = true) by decide)] at H; exact H
          clear H
          have H := H1
          clear H1
          simp only [Option.some.injEq, Prod.mk.injEq] at H
          obtain ⟨rfl, rfl, rfl, rfl, rfl, rfl, rfl⟩ := H
          have hnb24 := NB126_127.out
          have hnc24 := NB127_126.out
          have hcz25_0 : wc.cell? ⟨gb126, 0, none⟩ = some (.slice Ao3 l0_0.length co3) := (blk_cell BK126.out 0).trans rfl
          have hcz25_1 : wc.cell? ⟨gb126, 1, none⟩ = some (.slice Ao4 l0_1.length co4) := (blk_cell BK126.out 1).trans rfl
          have hcz25_2 : wc.cell? ⟨gb126, 2, none⟩ = some (.bool a0_2) := (blk_cell BK126.out 2).trans rfl
          have hcz25_3 : wc.cell? ⟨gb126, 3, none⟩ = some (.bool false) := (blk_cell BK126.out 3).trans rfl
          have hcz25_4 : wc.cell? ⟨gb126, 4, none⟩ = some (.int .i64 a0_4) := (blk_cell BK126.out 4).trans rfl
          have hcz25_5 : wc.cell? ⟨gb126, 5, none⟩ = some (.int .u64 a0_5) := (blk_cell BK126.out 5).trans rfl
          have hfz25_0 := blk_frozen BK126.out 0
          have hfz25_1 := blk_frozen BK126.out 1
          have hfz25_2 := blk_frozen BK126.out 2
          have hfz25_3 := blk_frozen BK126.out 3
          have hfz25_4 := blk_frozen BK126.out 4
          have hfz25_5 := blk_frozen BK126.out 5
          have hcz26_0 : wc.cell? ⟨gb127, 0, none⟩ = some (.slice none 0 0) := (blk_cell BK127.out 0).trans rfl
          have hcz26_1 : wc.cell? ⟨gb127, 1, none⟩ = some (.slice none 0 0) := (blk_cell BK127.out 1).trans rfl
          have hcz26_2 : wc.cell? ⟨gb127, 2, none⟩ = some (.bool false) := (blk_cell BK127.out 2).trans rfl
          have hcz26_3 : wc.cell? ⟨gb127, 3, none⟩ = some (.bool false) := (blk_cell BK127.out 3).trans rfl
          have hcz26_4 : wc.cell? ⟨gb127, 4, none⟩ = some (.int .i64 0) := (blk_cell BK127.out 4).trans rfl
          have hcz26_5 : wc.cell? ⟨gb127, 5, none⟩ = some (.int .u64 0) := (blk_cell BK127.out 5).trans rfl
          have hfz26_0 := blk_frozen BK127.out 0
          have hfz26_1 := blk_frozen BK127.out 1
          have hfz26_2 := blk_frozen BK127.out 2
          have hfz26_3 := blk_frozen BK127.out 3
          have hfz26_4 := blk_frozen BK127.out 4
          have hfz26_5 := blk_frozen BK127.out 5
          go_wp2
          refine bodyPost_ret (results_ct rfl _ _ gb127 30 #[.slice Ao3 l0_0.length co3, .slice Ao4 l0_1.length co4, .bool a0_2, .bool false, .int .i64 a0_4, .int .u64 a0_5] (0, 0) _ rfl (by (with_reducible repeat (first | refine blk_drewN ?_ _ | refine blk_drew ?_ | refine blk_alloc ?_ _)); refine blk_put (cs := #[.slice Ao3 l0_0.length co3, .slice Ao4 l0_1.length co4, .bool a0_2, .bool false, .int .i64 a0_4, .int .u64 0]) ?_ 5 _ rfl; (with_reducible repeat (first | refine blk_drewN ?_ _ | refine blk_drew ?_ | refine blk_alloc ?_ _)); refine blk_put (cs := #[.slice Ao3 l0_0.length co3, .slice Ao4 l0_1.length co4, .bool a0_2, .bool false, .int .i64 0, .int .u64 0]) ?_ 4 _ rfl; (with_reducible repeat (first | refine blk_drewN ?_ _ | refine blk_drew ?_ | refine blk_alloc ?_ _)); refine blk_put (cs := #[.slice Ao3 l0_0.length co3, .slice Ao4 l0_1.length co4, .bool a0_2, .bool false, .int .i64 0, .int .u64 0]) ?_ 3 _ rfl; (with_reducible repeat (first | refine blk_drewN ?_ _ | refine blk_drew ?_ | refine blk_alloc ?_ _)); refine blk_put (cs := #[.slice Ao3 l0_0.length co3, .slice Ao4 l0_1.length co4, .bool false, .bool false, .int .i64 0, .int .u64 0]) ?_ 2 _ rfl; (with_reducible repeat (first | refine blk_drewN ?_ _ | refine blk_drew ?_ | refine blk_alloc ?_ _)); refine blk_put (cs := #[.slice Ao3 l0_0.length co3, .slice none 0 0, .bool false, .bool false, .int .i64 0, .int .u64 0]) ?_ 1 _ rfl; (with_reducible repeat (first | refine blk_drewN ?_ _ | refine blk_drew ?_ | refine blk_alloc ?_ _)); refine blk_put (cs := #[.slice none 0 0, .slice none 0 0, .bool false, .bool false, .int .i64 0, .int .u64 0]) ?_ 0 _ rfl; (with_reducible repeat (first | refine blk_drewN ?_ _ | refine blk_drew ?_ | refine blk_alloc ?_ _)); exact BK127.out) Try.underlying30 rfl (by kernel_rfl)) rfl ?_
          exact ⟨_, _, by first | rfl | (simp [errW_none, errW_some] <;> rfl) | (simp [*, errW_none, errW_some] <;> rfl), by (with_reducible repeat (first | apply Kd.R_alloc | apply Kd.R_drewN | apply Kd.R_drew)); exact Kd.R_mono (Kd.R_far (p := ⟨gb127, 5, none⟩) (Kd.R_far (p := ⟨gb127, 4, none⟩) (Kd.R_far (p := ⟨gb127, 3, none⟩) (Kd.R_far (p := ⟨gb127, 2, none⟩) (Kd.R_far (p := ⟨gb127, 1, none⟩) (Kd.R_far (p := ⟨gb127, 0, none⟩) (Kd.R_types HO_127000.out BK127.out (by decide)) (fun _ hk => hk.2) (.slice Ao3 l0_0.length co3)) (fun _ hk => hk.2) (.slice Ao4 l0_1.length co4)) (fun _ hk => hk.2) (.bool a0_2)) (fun _ hk => hk.2) (.bool false)) (fun _ hk => hk.2) (.int .i64 a0_4)) (fun _ hk => hk.2) (.int .u64 a0_5)) (fun _ hk => hk.1), by (with_reducible repeat (first | apply Kd.R_alloc | apply Kd.R_drewN | apply Kd.R_drew)); exact Kd.R_mono (Kd.R_far (p := ⟨gb127, 5, none⟩) (Kd.R_far (p := ⟨gb127, 4, none⟩) (Kd.R_far (p := ⟨gb127, 3, none⟩) (Kd.R_far (p := ⟨gb127, 2, none⟩) (Kd.R_far (p := ⟨gb127, 1, none⟩) (Kd.R_far (p := ⟨gb127, 0, none⟩) (Kd.R_types HO_127001.out BK127.out (by decide)) (fun _ hk => hk.2) (.slice Ao3 l0_0.length co3)) (fun _ hk => hk.2) (.slice Ao4 l0_1.length co4)) (fun _ hk => hk.2) (.bool a0_2)) (fun _ hk => hk.2) (.bool false)) (fun _ hk => hk.2) (.int .i64 a0_4)) (fun _ hk => hk.2) (.int .u64 a0_5)) (fun _ hk => hk.1), by repeat (first | (with_reducible first | exact HB.out | apply below_alloc | apply pw_below_drewN | apply below_drew1 | refine below_set ?_ GE126.out | refine below_set ?_ GE127.out) | exact HB.out), by repeat (first | (with_reducible first | exact HK.out | apply Kept.alloc | apply Kept.drewN | apply Kept.drew | refine Kept.setCell ?_ (.inr GW126.out) _ | refine Kept.setCell ?_ (.inr GW127.out) _) | exact HK.out)⟩

end Go.Proofs.Ytkgdppjlbjmjoaa.PAll
