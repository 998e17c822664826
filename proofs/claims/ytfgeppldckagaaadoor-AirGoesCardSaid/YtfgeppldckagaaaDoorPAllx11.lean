-- Written by a changed copy of the kit's print program, run in this session (NOTES.md tells the change). Not trusted: Lean checks it.
import Derived.Test.YtfgeppldckagaaaDoorPAllx0
import Derived.Test.YtfgeppldckagaaaDoorPAllx1
import Derived.Test.YtfgeppldckagaaaDoorPAllx2
import Derived.Test.YtfgeppldckagaaaDoorPAllx4
import Derived.Test.YtfgeppldckagaaaDoorPAllx9
import Derived.Test.YtfgeppldckagaaaDoorPAllx10
namespace Go.Proofs.YtfgeppldckagaaaDoor.PAll
open Go.RowKit Go.Proofs.YtfgeppldckagaaaDoorW.PrintWords Go.Proofs.YtfgeppldckagaaaDoorW.PrintLast Go.Proofs.YtfgeppldckagaaaDoorW.PrintMore
attribute [local go_sem] max2_int min2_int max_two min_two max_three min_three max_four min_four   -- for this text's walks alone
set_option linter.unusedVariables false
set_option linter.unusedSimpArgs false

attribute [local go_sem high] eqA30
/-! ### sawmilllaw35_at: function 19 -/
def sawmilllaw35_at.f (a0 : Int) (a1 : Int) : Option (Int × Int) := some (a0, a1)
set_option maxHeartbeats 8000000 in
set_option maxRecDepth 100000 in
theorem sawmilllaw35_at.calls (a0 : Int) (a1 : Int) (r1 : Int) (r2 : Int) (w : World) (h : sawmilllaw35_at.f a0 a1 = some (r1, r2)) :
    Calls Tryd.prog 19 #[.int .i64 a0, .int .i64 a1] w fun e w' => e = .returned (.agg #[.int .i64 r1, .int .i64 r2]) ∧ Below w.heap.size w w' := by
  have hu30 := Tryd.underlying30
  have HB := Aside0.mk (Below.refl w.heap.size w)
  have H : (some (a0, a1)) = some (r1, r2) := h
  clear h
  simp only [Option.some.injEq, Prod.mk.injEq] at H
  obtain ⟨rfl, rfl⟩ := H
  go_enter Tryd.func19, Tryd.ntmps19
  go_wp2_with (first | ((with_reducible refine gate_dst (N := 4) rfl ?_); refine box_event ?hg (N := 4) ?hd (cs := #[.int .i64 0, .int .i64 0]) (t := 30) ?hr ?_; (case hd => rfl); (case hg => rfl); (case hr => first | (go_simp; done) | (go_simp; rfl)); intro gb176 hg w3 hbox hb; have n0_ := Aside0.mk (below_step (by repeat (first | (with_reducible first | exact HB.out | apply below_alloc | apply pw_below_drewN | apply below_drew1) | exact HB.out)) hb); have n1_ := Aside0.mk (hbox); have n2_ := Aside0.mk ((by rw [hg]; exact (below_size (by repeat (first | (with_reducible first | exact HB.out | apply below_alloc | apply pw_below_drewN | apply below_drew1) | exact HB.out))) : w.heap.size ≤ gb176)); have n3_ := Aside0.mk ((by rw [hg]; exact (below_size (by repeat (first | (with_reducible first | exact HB.out | apply below_alloc | apply pw_below_drewN | apply below_drew1) | exact HB.out))) : w.heap.size ≤ gb176)); clear HB; have HB := n0_; have BK176 := n1_; have GW176 := n2_; have GE176 := n3_; clear n0_ n1_ n2_ n3_; clear hb hbox hg; have hcz4_0 : w3.cell? ⟨gb176, 0, none⟩ = some (.int .i64 0) := (blk_cell BK176.out 0).trans rfl; have hcz4_1 : w3.cell? ⟨gb176, 1, none⟩ = some (.int .i64 0) := (blk_cell BK176.out 1).trans rfl; have hfz4_0 := blk_frozen BK176.out 0; have hfz4_1 := blk_frozen BK176.out 1))
  refine bodyPost_ret (results_cell_row rfl _ _ gb176 30 #[.int .i64 a0, .int .i64 a1] (0, 0) _ rfl (by (with_reducible repeat (first | refine blk_drewN ?_ _ | refine blk_drew ?_ | refine blk_alloc ?_ _)); refine blk_put (cs := #[.int .i64 a0, .int .i64 0]) ?_ 1 _ rfl; (with_reducible repeat (first | refine blk_drewN ?_ _ | refine blk_drew ?_ | refine blk_alloc ?_ _)); refine blk_put (cs := #[.int .i64 0, .int .i64 0]) ?_ 0 _ rfl; (with_reducible repeat (first | refine blk_drewN ?_ _ | refine blk_drew ?_ | refine blk_alloc ?_ _)); exact BK176.out) Tryd.underlying30 rfl (by kernel_rfl)) rfl ?_
  exact ⟨by first | rfl | (simp [errW_none, errW_some] <;> rfl) | (simp [*, errW_none, errW_some] <;> rfl), by repeat (first | (with_reducible first | exact HB.out | apply below_alloc | apply pw_below_drewN | apply below_drew1 | refine below_set ?_ GE176.out) | exact HB.out)⟩

/-! ### air_Outside: function 20 -/
def air_Outside.f  : Option (Int × Int) := some (200, 100)
set_option maxHeartbeats 8000000 in
set_option maxRecDepth 100000 in
theorem air_Outside.calls  (r1 : Int) (r2 : Int) (w : World) (h : air_Outside.f  = some (r1, r2)) :
    Calls Tryd.prog 20 #[] w fun e w' => e = .returned (.agg #[.int .i64 r1, .int .i64 r2]) ∧ Below w.heap.size w w' := by
  have hu30 := Tryd.underlying30
  have HB := Aside0.mk (Below.refl w.heap.size w)
  have H : (some (200, 100)) = some (r1, r2) := h
  clear h
  simp only [Option.some.injEq, Prod.mk.injEq] at H
  obtain ⟨rfl, rfl⟩ := H
  go_enter Tryd.func20, Tryd.ntmps20
  go_wp2_with (first | ((with_reducible refine gate_dst (N := 0) rfl ?_); refine box_event ?hg (N := 0) ?hd (cs := #[.int .i64 0, .int .i64 0]) (t := 30) ?hr ?_; (case hd => rfl); (case hg => rfl); (case hr => first | (go_simp; done) | (go_simp; rfl)); intro gb177 hg w1 hbox hb; have n0_ := Aside0.mk (below_step (by repeat (first | (with_reducible first | exact HB.out | apply below_alloc | apply pw_below_drewN | apply below_drew1) | exact HB.out)) hb); have n1_ := Aside0.mk (hbox); have n2_ := Aside0.mk ((by rw [hg]; exact (below_size (by repeat (first | (with_reducible first | exact HB.out | apply below_alloc | apply pw_below_drewN | apply below_drew1) | exact HB.out))) : w.heap.size ≤ gb177)); have n3_ := Aside0.mk ((by rw [hg]; exact (below_size (by repeat (first | (with_reducible first | exact HB.out | apply below_alloc | apply pw_below_drewN | apply below_drew1) | exact HB.out))) : w.heap.size ≤ gb177)); clear HB; have HB := n0_; have BK177 := n1_; have GW177 := n2_; have GE177 := n3_; clear n0_ n1_ n2_ n3_; clear hb hbox hg; have hcz2_0 : w1.cell? ⟨gb177, 0, none⟩ = some (.int .i64 0) := (blk_cell BK177.out 0).trans rfl; have hcz2_1 : w1.cell? ⟨gb177, 1, none⟩ = some (.int .i64 0) := (blk_cell BK177.out 1).trans rfl; have hfz2_0 := blk_frozen BK177.out 0; have hfz2_1 := blk_frozen BK177.out 1))
  refine bodyPost_ret (results_cell_row rfl _ _ gb177 30 #[.int .i64 200, .int .i64 100] (0, 0) _ rfl (by (with_reducible repeat (first | refine blk_drewN ?_ _ | refine blk_drew ?_ | refine blk_alloc ?_ _)); refine blk_put (cs := #[.int .i64 200, .int .i64 0]) ?_ 1 _ rfl; (with_reducible repeat (first | refine blk_drewN ?_ _ | refine blk_drew ?_ | refine blk_alloc ?_ _)); refine blk_put (cs := #[.int .i64 0, .int .i64 0]) ?_ 0 _ rfl; (with_reducible repeat (first | refine blk_drewN ?_ _ | refine blk_drew ?_ | refine blk_alloc ?_ _)); exact BK177.out) Tryd.underlying30 rfl (by kernel_rfl)) rfl ?_
  exact ⟨by first | rfl | (simp [errW_none, errW_some] <;> rfl) | (simp [*, errW_none, errW_some] <;> rfl), by repeat (first | (with_reducible first | exact HB.out | apply below_alloc | apply pw_below_drewN | apply below_drew1 | refine below_set ?_ GE177.out) | exact HB.out)⟩

/-! ### sawmilllaw35_awake: function 12 -/
def sawmilllaw35_awake.f (k : Nat)  : Option (Bool) := (sawmilllaw35_at.f 1200 400).bind fun bt178 => ((air_Check.f bt178.1 bt178.2).bind fun t180 => (if t180 = 0 then ((sawmilllaw35_at.f 1201 0).bind fun bt181 => ((air_Check.f bt181.1 bt181.2).bind fun t183 => (if t183 = 9 then ((sawmilllaw35_at.f 300 100).bind fun bt184 => ((air_Emc.f k bt184.1 bt184.2).bind fun t186 => (if t186 = 1200 then ((sawmilllaw35_at.f 200 150).bind fun bt187 => ((air_Emc.f k bt187.1 bt187.2).bind fun t189 => (if t189 = 1000 then ((sawmilllaw35_at.f 300 150).bind fun bt190 => ((air_Emc.f k bt190.1 bt190.2).bind fun t192 => (if t192 = 957 then ((sawmilllaw35_at.f 5000 5000).bind fun bt193 => ((air_Emc.f k bt193.1 bt193.2).bind fun t195 => (if t195 = 220 then ((air_Outside.f).bind fun bt196 => ((sawmilllaw35_at.f 200 100).bind fun bt198 => (if (bt196.1 == bt198.1 && (bt196.2 == bt198.2)) = true then ((sawmilllaw35_at.f 200 100).bind fun bt200 => ((sawmilllaw35_at.f 600 40).bind fun bt202 => ((air_Next.f k bt200.1 bt200.2 bt202.1 bt202.2 50 ([] : List Int)).bind fun bt204 => ((sawmilllaw35_at.f 250 50).bind fun bt206 => (if (bt204.1 == bt206.1 && (bt204.2 == bt206.2)) = true then ((sawmilllaw35_at.f 200 100).bind fun bt208 => ((sawmilllaw35_at.f 600 40).bind fun bt210 => ((air_Next.f k bt208.1 bt208.2 bt210.1 bt210.2 50 (([3] : List Int))).bind fun bt215 => ((sawmilllaw35_at.f 250 100).bind fun bt217 => (some (bt215.1 == bt217.1 && (bt215.2 == bt217.2))))))) else (none)))))) else (none)))) else (none)))) else (none)))) else (none)))) else (none)))) else (none)))) else (none)))
theorem sawmilllaw35_awake.mono : ∀ k, LeO (sawmilllaw35_awake.f k ) (sawmilllaw35_awake.f (k + 1) ) := by
  intro  k
  unfold sawmilllaw35_awake.f
  repeat' first
      | (with_reducible exact air_Emc.mono _ _ _)
      | (with_reducible exact air_Next.mono _ _ _ _ _ _ _)
      | (with_reducible exact LeO.refl _)
      | (with_reducible exact LeO.none _)
      | (with_reducible refine LeO.ite ?_ ?_)
      | (with_reducible refine LeO.bind ?_ (fun _ => ?_))
      | exact air_Emc.mono _ _ _
      | exact air_Next.mono _ _ _ _ _ _ _
      | exact LeO.none _
      | refine LeO.ite ?_ ?_
      | refine LeO.bind ?_ (fun _ => ?_)
set_option maxHeartbeats 8000000 in
set_option maxRecDepth 100000 in
theorem sawmilllaw35_awake.calls (k : Nat)  (r : Bool) (w : World) (h : sawmilllaw35_awake.f k  = some r) (hG0 : Glob w) :
    Calls Tryd.prog 12 #[] w fun e w' => e = .returned (.bool r) ∧ Below w.heap.size w w' := by
  have hGl := Aside0.mk hG0
  clear hG0
  have HB := Aside0.mk (Below.refl w.heap.size w)
  have H : ((sawmilllaw35_at.f 1200 400).bind fun bt178 => ((air_Check.f bt178.1 bt178.2).bind fun t180 => (if t180 = 0 then ((sawmilllaw35_at.f 1201 0).bind fun bt181 => ((air_Check.f bt181.1 bt181.2).bind fun t183 => (if t183 = 9 then ((sawmilllaw35_at.f 300 100).bind fun bt184 => ((air_Emc.f k bt184.1 bt184.2).bind fun t186 => (if t186 = 1200 then ((sawmilllaw35_at.f 200 150).bind fun bt187 => ((air_Emc.f k bt187.1 bt187.2).bind fun t189 => (if t189 = 1000 then ((sawmilllaw35_at.f 300 150).bind fun bt190 => ((air_Emc.f k bt190.1 bt190.2).bind fun t192 => (if t192 = 957 then ((sawmilllaw35_at.f 5000 5000).bind fun bt193 => ((air_Emc.f k bt193.1 bt193.2).bind fun t195 => (if t195 = 220 then ((air_Outside.f).bind fun bt196 => ((sawmilllaw35_at.f 200 100).bind fun bt198 => (if (bt196.1 == bt198.1 && (bt196.2 == bt198.2)) = true then ((sawmilllaw35_at.f 200 100).bind fun bt200 => ((sawmilllaw35_at.f 600 40).bind fun bt202 => ((air_Next.f k bt200.1 bt200.2 bt202.1 bt202.2 50 ([] : List Int)).bind fun bt204 => ((sawmilllaw35_at.f 250 50).bind fun bt206 => (if (bt204.1 == bt206.1 && (bt204.2 == bt206.2)) = true then ((sawmilllaw35_at.f 200 100).bind fun bt208 => ((sawmilllaw35_at.f 600 40).bind fun bt210 => ((air_Next.f k bt208.1 bt208.2 bt210.1 bt210.2 50 (([3] : List Int))).bind fun bt215 => ((sawmilllaw35_at.f 250 100).bind fun bt217 => (some (bt215.1 == bt217.1 && (bt215.2 == bt217.2))))))) else (none)))))) else (none)))) else (none)))) else (none)))) else (none)))) else (none)))) else (none)))) else (none)))) = some r := h
  clear h
  replace H := Option.bind_eq_some_iff.mp H
  obtain ⟨⟨t178, t179⟩, A10, H⟩ := H
  replace H : ((air_Check.f t178 t179).bind fun t180 => (if t180 = 0 then ((sawmilllaw35_at.f 1201 0).bind fun bt181 => ((air_Check.f bt181.1 bt181.2).bind fun t183 => (if t183 = 9 then ((sawmilllaw35_at.f 300 100).bind fun bt184 => ((air_Emc.f k bt184.1 bt184.2).bind fun t186 => (if t186 = 1200 then ((sawmilllaw35_at.f 200 150).bind fun bt187 => ((air_Emc.f k bt187.1 bt187.2).bind fun t189 => (if t189 = 1000 then ((sawmilllaw35_at.f 300 150).bind fun bt190 => ((air_Emc.f k bt190.1 bt190.2).bind fun t192 => (if t192 = 957 then ((sawmilllaw35_at.f 5000 5000).bind fun bt193 => ((air_Emc.f k bt193.1 bt193.2).bind fun t195 => (if t195 = 220 then ((air_Outside.f).bind fun bt196 => ((sawmilllaw35_at.f 200 100).bind fun bt198 => (if (bt196.1 == bt198.1 && (bt196.2 == bt198.2)) = true then ((sawmilllaw35_at.f 200 100).bind fun bt200 => ((sawmilllaw35_at.f 600 40).bind fun bt202 => ((air_Next.f k bt200.1 bt200.2 bt202.1 bt202.2 50 ([] : List Int)).bind fun bt204 => ((sawmilllaw35_at.f 250 50).bind fun bt206 => (if (bt204.1 == bt206.1 && (bt204.2 == bt206.2)) = true then ((sawmilllaw35_at.f 200 100).bind fun bt208 => ((sawmilllaw35_at.f 600 40).bind fun bt210 => ((air_Next.f k bt208.1 bt208.2 bt210.1 bt210.2 50 (([3] : List Int))).bind fun bt215 => ((sawmilllaw35_at.f 250 100).bind fun bt217 => (some (bt215.1 == bt217.1 && (bt215.2 == bt217.2))))))) else (none)))))) else (none)))) else (none)))) else (none)))) else (none)))) else (none)))) else (none)))) else (none))) = some r := H
  have A1 := Aside0.mk A10
  clear A10
  replace H := Option.bind_eq_some_iff.mp H
  obtain ⟨t180, A20, H⟩ := H
  replace H : (if t180 = 0 then ((sawmilllaw35_at.f 1201 0).bind fun bt181 => ((air_Check.f bt181.1 bt181.2).bind fun t183 => (if t183 = 9 then ((sawmilllaw35_at.f 300 100).bind fun bt184 => ((air_Emc.f k bt184.1 bt184.2).bind fun t186 => (if t186 = 1200 then ((sawmilllaw35_at.f 200 150).bind fun bt187 => ((air_Emc.f k bt187.1 bt187.2).bind fun t189 => (if t189 = 1000 then ((sawmilllaw35_at.f 300 150).bind fun bt190 => ((air_Emc.f k bt190.1 bt190.2).bind fun t192 => (if t192 = 957 then ((sawmilllaw35_at.f 5000 5000).bind fun bt193 => ((air_Emc.f k bt193.1 bt193.2).bind fun t195 => (if t195 = 220 then ((air_Outside.f).bind fun bt196 => ((sawmilllaw35_at.f 200 100).bind fun bt198 => (if (bt196.1 == bt198.1 && (bt196.2 == bt198.2)) = true then ((sawmilllaw35_at.f 200 100).bind fun bt200 => ((sawmilllaw35_at.f 600 40).bind fun bt202 => ((air_Next.f k bt200.1 bt200.2 bt202.1 bt202.2 50 ([] : List Int)).bind fun bt204 => ((sawmilllaw35_at.f 250 50).bind fun bt206 => (if (bt204.1 == bt206.1 && (bt204.2 == bt206.2)) = true then ((sawmilllaw35_at.f 200 100).bind fun bt208 => ((sawmilllaw35_at.f 600 40).bind fun bt210 => ((air_Next.f k bt208.1 bt208.2 bt210.1 bt210.2 50 (([3] : List Int))).bind fun bt215 => ((sawmilllaw35_at.f 250 100).bind fun bt217 => (some (bt215.1 == bt217.1 && (bt215.2 == bt217.2))))))) else (none)))))) else (none)))) else (none)))) else (none)))) else (none)))) else (none)))) else (none)))) else (none)) = some r := H
  have A2 := Aside0.mk A20
  clear A20
  by_cases c3 : t180 = 0
  · rw [if_pos c3] at H
    have c3b0 : (t180 == 0) = true := beq_iff_eq.mpr c3
    have c3b1 : (t180 != 0) = false := bne_eq_false_iff_eq.mpr c3
    clear c3
    replace H := Option.bind_eq_some_iff.mp H
    obtain ⟨⟨t181, t182⟩, A40, H⟩ := H
    replace H : ((air_Check.f t181 t182).bind fun t183 => (if t183 = 9 then ((sawmilllaw35_at.f 300 100).bind fun bt184 => ((air_Emc.f k bt184.1 bt184.2).bind fun t186 => (if t186 = 1200 then ((sawmilllaw35_at.f 200 150).bind fun bt187 => ((air_Emc.f k bt187.1 bt187.2).bind fun t189 => (if t189 = 1000 then ((sawmilllaw35_at.f 300 150).bind fun bt190 => ((air_Emc.f k bt190.1 bt190.2).bind fun t192 => (if t192 = 957 then ((sawmilllaw35_at.f 5000 5000).bind fun bt193 => ((air_Emc.f k bt193.1 bt193.2).bind fun t195 => (if t195 = 220 then ((air_Outside.f).bind fun bt196 => ((sawmilllaw35_at.f 200 100).bind fun bt198 => (if (bt196.1 == bt198.1 && (bt196.2 == bt198.2)) = true then ((sawmilllaw35_at.f 200 100).bind fun bt200 => ((sawmilllaw35_at.f 600 40).bind fun bt202 => ((air_Next.f k bt200.1 bt200.2 bt202.1 bt202.2 50 ([] : List Int)).bind fun bt204 => ((sawmilllaw35_at.f 250 50).bind fun bt206 => (if (bt204.1 == bt206.1 && (bt204.2 == bt206.2)) = true then ((sawmilllaw35_at.f 200 100).bind fun bt208 => ((sawmilllaw35_at.f 600 40).bind fun bt210 => ((air_Next.f k bt208.1 bt208.2 bt210.1 bt210.2 50 (([3] : List Int))).bind fun bt215 => ((sawmilllaw35_at.f 250 100).bind fun bt217 => (some (bt215.1 == bt217.1 && (bt215.2 == bt217.2))))))) else (none)))))) else (none)))) else (none)))) else (none)))) else (none)))) else (none)))) else (none))) = some r := H
    have A4 := Aside0.mk A40
    clear A40
    replace H := Option.bind_eq_some_iff.mp H
    obtain ⟨t183, A50, H⟩ := H
    replace H : (if t183 = 9 then ((sawmilllaw35_at.f 300 100).bind fun bt184 => ((air_Emc.f k bt184.1 bt184.2).bind fun t186 => (if t186 = 1200 then ((sawmilllaw35_at.f 200 150).bind fun bt187 => ((air_Emc.f k bt187.1 bt187.2).bind fun t189 => (if t189 = 1000 then ((sawmilllaw35_at.f 300 150).bind fun bt190 => ((air_Emc.f k bt190.1 bt190.2).bind fun t192 => (if t192 = 957 then ((sawmilllaw35_at.f 5000 5000).bind fun bt193 => ((air_Emc.f k bt193.1 bt193.2).bind fun t195 => (if t195 = 220 then ((air_Outside.f).bind fun bt196 => ((sawmilllaw35_at.f 200 100).bind fun bt198 => (if (bt196.1 == bt198.1 && (bt196.2 == bt198.2)) = true then ((sawmilllaw35_at.f 200 100).bind fun bt200 => ((sawmilllaw35_at.f 600 40).bind fun bt202 => ((air_Next.f k bt200.1 bt200.2 bt202.1 bt202.2 50 ([] : List Int)).bind fun bt204 => ((sawmilllaw35_at.f 250 50).bind fun bt206 => (if (bt204.1 == bt206.1 && (bt204.2 == bt206.2)) = true then ((sawmilllaw35_at.f 200 100).bind fun bt208 => ((sawmilllaw35_at.f 600 40).bind fun bt210 => ((air_Next.f k bt208.1 bt208.2 bt210.1 bt210.2 50 (([3] : List Int))).bind fun bt215 => ((sawmilllaw35_at.f 250 100).bind fun bt217 => (some (bt215.1 == bt217.1 && (bt215.2 == bt217.2))))))) else (none)))))) else (none)))) else (none)))) else (none)))) else (none)))) else (none)))) else (none)) = some r := H
    have A5 := Aside0.mk A50
    clear A50
    by_cases c6 : t183 = 9
    · rw [if_pos c6] at H
      have c6b0 : (t183 == 9) = true := beq_iff_eq.mpr c6
      have c6b1 : (t183 != 9) = false := bne_eq_false_iff_eq.mpr c6
      clear c6
      replace H := Option.bind_eq_some_iff.mp H
      obtain ⟨⟨t184, t185⟩, A70, H⟩ := H
      replace H : ((air_Emc.f k t184 t185).bind fun t186 => (if t186 = 1200 then ((sawmilllaw35_at.f 200 150).bind fun bt187 => ((air_Emc.f k bt187.1 bt187.2).bind fun t189 => (if t189 = 1000 then ((sawmilllaw35_at.f 300 150).bind fun bt190 => ((air_Emc.f k bt190.1 bt190.2).bind fun t192 => (if t192 = 957 then ((sawmilllaw35_at.f 5000 5000).bind fun bt193 => ((air_Emc.f k bt193.1 bt193.2).bind fun t195 => (if t195 = 220 then ((air_Outside.f).bind fun bt196 => ((sawmilllaw35_at.f 200 100).bind fun bt198 => (if (bt196.1 == bt198.1 && (bt196.2 == bt198.2)) = true then ((sawmilllaw35_at.f 200 100).bind fun bt200 => ((sawmilllaw35_at.f 600 40).bind fun bt202 => ((air_Next.f k bt200.1 bt200.2 bt202.1 bt202.2 50 ([] : List Int)).bind fun bt204 => ((sawmilllaw35_at.f 250 50).bind fun bt206 => (if (bt204.1 == bt206.1 && (bt204.2 == bt206.2)) = true then ((sawmilllaw35_at.f 200 100).bind fun bt208 => ((sawmilllaw35_at.f 600 40).bind fun bt210 => ((air_Next.f k bt208.1 bt208.2 bt210.1 bt210.2 50 (([3] : List Int))).bind fun bt215 => ((sawmilllaw35_at.f 250 100).bind fun bt217 => (some (bt215.1 == bt217.1 && (bt215.2 == bt217.2))))))) else (none)))))) else (none)))) else (none)))) else (none)))) else (none)))) else (none))) = some r := H
      have A7 := Aside0.mk A70
      clear A70
      replace H := Option.bind_eq_some_iff.mp H
      obtain ⟨t186, A80, H⟩ := H
      replace H : (if t186 = 1200 then ((sawmilllaw35_at.f 200 150).bind fun bt187 => ((air_Emc.f k bt187.1 bt187.2).bind fun t189 => (if t189 = 1000 then ((sawmilllaw35_at.f 300 150).bind fun bt190 => ((air_Emc.f k bt190.1 bt190.2).bind fun t192 => (if t192 = 957 then ((sawmilllaw35_at.f 5000 5000).bind fun bt193 => ((air_Emc.f k bt193.1 bt193.2).bind fun t195 => (if t195 = 220 then ((air_Outside.f).bind fun bt196 => ((sawmilllaw35_at.f 200 100).bind fun bt198 => (if (bt196.1 == bt198.1 && (bt196.2 == bt198.2)) = true then ((sawmilllaw35_at.f 200 100).bind fun bt200 => ((sawmilllaw35_at.f 600 40).bind fun bt202 => ((air_Next.f k bt200.1 bt200.2 bt202.1 bt202.2 50 ([] : List Int)).bind fun bt204 => ((sawmilllaw35_at.f 250 50).bind fun bt206 => (if (bt204.1 == bt206.1 && (bt204.2 == bt206.2)) = true then ((sawmilllaw35_at.f 200 100).bind fun bt208 => ((sawmilllaw35_at.f 600 40).bind fun bt210 => ((air_Next.f k bt208.1 bt208.2 bt210.1 bt210.2 50 (([3] : List Int))).bind fun bt215 => ((sawmilllaw35_at.f 250 100).bind fun bt217 => (some (bt215.1 == bt217.1 && (bt215.2 == bt217.2))))))) else (none)))))) else (none)))) else (none)))) else (none)))) else (none)))) else (none)) = some r := H
      have A8 := Aside0.mk A80
      clear A80
      by_cases c9 : t186 = 1200
      · rw [if_pos c9] at H
        have c9b0 : (t186 == 1200) = true := beq_iff_eq.mpr c9
        have c9b1 : (t186 != 1200) = false := bne_eq_false_iff_eq.mpr c9
        clear c9
        replace H := Option.bind_eq_some_iff.mp H
        obtain ⟨⟨t187, t188⟩, A100, H⟩ := H
        replace H : ((air_Emc.f k t187 t188).bind fun t189 => (if t189 = 1000 then ((sawmilllaw35_at.f 300 150).bind fun bt190 => ((air_Emc.f k bt190.1 bt190.2).bind fun t192 => (if t192 = 957 then ((sawmilllaw35_at.f 5000 5000).bind fun bt193 => ((air_Emc.f k bt193.1 bt193.2).bind fun t195 => (if t195 = 220 then ((air_Outside.f).bind fun bt196 => ((sawmilllaw35_at.f 200 100).bind fun bt198 => (if (bt196.1 == bt198.1 && (bt196.2 == bt198.2)) = true then ((sawmilllaw35_at.f 200 100).bind fun bt200 => ((sawmilllaw35_at.f 600 40).bind fun bt202 => ((air_Next.f k bt200.1 bt200.2 bt202.1 bt202.2 50 ([] : List Int)).bind fun bt204 => ((sawmilllaw35_at.f 250 50).bind fun bt206 => (if (bt204.1 == bt206.1 && (bt204.2 == bt206.2)) = true then ((sawmilllaw35_at.f 200 100).bind fun bt208 => ((sawmilllaw35_at.f 600 40).bind fun bt210 => ((air_Next.f k bt208.1 bt208.2 bt210.1 bt210.2 50 (([3] : List Int))).bind fun bt215 => ((sawmilllaw35_at.f 250 100).bind fun bt217 => (some (bt215.1 == bt217.1 && (bt215.2 == bt217.2))))))) else (none)))))) else (none)))) else (none)))) else (none)))) else (none))) = some r := H
        have A10 := Aside0.mk A100
        clear A100
        replace H := Option.bind_eq_some_iff.mp H
        obtain ⟨t189, A110, H⟩ := H
        replace H : (if t189 = 1000 then ((sawmilllaw35_at.f 300 150).bind fun bt190 => ((air_Emc.f k bt190.1 bt190.2).bind fun t192 => (if t192 = 957 then ((sawmilllaw35_at.f 5000 5000).bind fun bt193 => ((air_Emc.f k bt193.1 bt193.2).bind fun t195 => (if t195 = 220 then ((air_Outside.f).bind fun bt196 => ((sawmilllaw35_at.f 200 100).bind fun bt198 => (if (bt196.1 == bt198.1 && (bt196.2 == bt198.2)) = true then ((sawmilllaw35_at.f 200 100).bind fun bt200 => ((sawmilllaw35_at.f 600 40).bind fun bt202 => ((air_Next.f k bt200.1 bt200.2 bt202.1 bt202.2 50 ([] : List Int)).bind fun bt204 => ((sawmilllaw35_at.f 250 50).bind fun bt206 => (if (bt204.1 == bt206.1 && (bt204.2 == bt206.2)) = true then ((sawmilllaw35_at.f 200 100).bind fun bt208 => ((sawmilllaw35_at.f 600 40).bind fun bt210 => ((air_Next.f k bt208.1 bt208.2 bt210.1 bt210.2 50 (([3] : List Int))).bind fun bt215 => ((sawmilllaw35_at.f 250 100).bind fun bt217 => (some (bt215.1 == bt217.1 && (bt215.2 == bt217.2))))))) else (none)))))) else (none)))) else (none)))) else (none)))) else (none)) = some r := H
        have A11 := Aside0.mk A110
        clear A110
        by_cases c12 : t189 = 1000
        · rw [if_pos c12] at H
          have c12b0 : (t189 == 1000) = true := beq_iff_eq.mpr c12
          have c12b1 : (t189 != 1000) = false := bne_eq_false_iff_eq.mpr c12
          clear c12
          replace H := Option.bind_eq_some_iff.mp H
          obtain ⟨⟨t190, t191⟩, A130, H⟩ := H
          replace H : ((air_Emc.f k t190 t191).bind fun t192 => (if t192 = 957 then ((sawmilllaw35_at.f 5000 5000).bind fun bt193 => ((air_Emc.f k bt193.1 bt193.2).bind fun t195 => (if t195 = 220 then ((air_Outside.f).bind fun bt196 => ((sawmilllaw35_at.f 200 100).bind fun bt198 => (if (bt196.1 == bt198.1 && (bt196.2 == bt198.2)) = true then ((sawmilllaw35_at.f 200 100).bind fun bt200 => ((sawmilllaw35_at.f 600 40).bind fun bt202 => ((air_Next.f k bt200.1 bt200.2 bt202.1 bt202.2 50 ([] : List Int)).bind fun bt204 => ((sawmilllaw35_at.f 250 50).bind fun bt206 => (if (bt204.1 == bt206.1 && (bt204.2 == bt206.2)) = true then ((sawmilllaw35_at.f 200 100).bind fun bt208 => ((sawmilllaw35_at.f 600 40).bind fun bt210 => ((air_Next.f k bt208.1 bt208.2 bt210.1 bt210.2 50 (([3] : List Int))).bind fun bt215 => ((sawmilllaw35_at.f 250 100).bind fun bt217 => (some (bt215.1 == bt217.1 && (bt215.2 == bt217.2))))))) else (none)))))) else (none)))) else (none)))) else (none))) = some r := H
          have A13 := Aside0.mk A130
          clear A130
          replace H := Option.bind_eq_some_iff.mp H
          obtain ⟨t192, A140, H⟩ := H
          replace H : (if t192 = 957 then ((sawmilllaw35_at.f 5000 5000).bind fun bt193 => ((air_Emc.f k bt193.1 bt193.2).bind fun t195 => (if t195 = 220 then ((air_Outside.f).bind fun bt196 => ((sawmilllaw35_at.f 200 100).bind fun bt198 => (if (bt196.1 == bt198.1 && (bt196.2 == bt198.2)) = true then ((sawmilllaw35_at.f 200 100).bind fun bt200 => ((sawmilllaw35_at.f 600 40).bind fun bt202 => ((air_Next.f k bt200.1 bt200.2 bt202.1 bt202.2 50 ([] : List Int)).bind fun bt204 => ((sawmilllaw35_at.f 250 50).bind fun bt206 => (if (bt204.1 == bt206.1 && (bt204.2 == bt206.2)) = true then ((sawmilllaw35_at.f 200 100).bind fun bt208 => ((sawmilllaw35_at.f 600 40).bind fun bt210 => ((air_Next.f k bt208.1 bt208.2 bt210.1 bt210.2 50 (([3] : List Int))).bind fun bt215 => ((sawmilllaw35_at.f 250 100).bind fun bt217 => (some (bt215.1 == bt217.1 && (bt215.2 == bt217.2))))))) else (none)))))) else (none)))) else (none)))) else (none)) = some r := H
          have A14 := Aside0.mk A140
          clear A140
          by_cases c15 : t192 = 957
          · rw [if_pos c15] at H
            have c15b0 : (t192 == 957) = true := beq_iff_eq.mpr c15
            have c15b1 : (t192 != 957) = false := bne_eq_false_iff_eq.mpr c15
            clear c15
            replace H := Option.bind_eq_some_iff.mp H
            obtain ⟨⟨t193, t194⟩, A160, H⟩ := H
            replace H : ((air_Emc.f k t193 t194).bind fun t195 => (if t195 = 220 then ((air_Outside.f).bind fun bt196 => ((sawmilllaw35_at.f 200 100).bind fun bt198 => (if (bt196.1 == bt198.1 && (bt196.2 == bt198.2)) = true then ((sawmilllaw35_at.f 200 100).bind fun bt200 => ((sawmilllaw35_at.f 600 40).bind fun bt202 => ((air_Next.f k bt200.1 bt200.2 bt202.1 bt202.2 50 ([] : List Int)).bind fun bt204 => ((sawmilllaw35_at.f 250 50).bind fun bt206 => (if (bt204.1 == bt206.1 && (bt204.2 == bt206.2)) = true then ((sawmilllaw35_at.f 200 100).bind fun bt208 => ((sawmilllaw35_at.f 600 40).bind fun bt210 => ((air_Next.f k bt208.1 bt208.2 bt210.1 bt210.2 50 (([3] : List Int))).bind fun bt215 => ((sawmilllaw35_at.f 250 100).bind fun bt217 => (some (bt215.1 == bt217.1 && (bt215.2 == bt217.2))))))) else (none)))))) else (none)))) else (none))) = some r := H
            have A16 := Aside0.mk A160
            clear A160
            replace H := Option.bind_eq_some_iff.mp H
            obtain ⟨t195, A170, H⟩ := H
            replace H : (if t195 = 220 then ((air_Outside.f).bind fun bt196 => ((sawmilllaw35_at.f 200 100).bind fun bt198 => (if (bt196.1 == bt198.1 && (bt196.2 == bt198.2)) = true then ((sawmilllaw35_at.f 200 100).bind fun bt200 => ((sawmilllaw35_at.f 600 40).bind fun bt202 => ((air_Next.f k bt200.1 bt200.2 bt202.1 bt202.2 50 ([] : List Int)).bind fun bt204 => ((sawmilllaw35_at.f 250 50).bind fun bt206 => (if (bt204.1 == bt206.1 && (bt204.2 == bt206.2)) = true then ((sawmilllaw35_at.f 200 100).bind fun bt208 => ((sawmilllaw35_at.f 600 40).bind fun bt210 => ((air_Next.f k bt208.1 bt208.2 bt210.1 bt210.2 50 (([3] : List Int))).bind fun bt215 => ((sawmilllaw35_at.f 250 100).bind fun bt217 => (some (bt215.1 == bt217.1 && (bt215.2 == bt217.2))))))) else (none)))))) else (none)))) else (none)) = some r := H
            have A17 := Aside0.mk A170
            clear A170
            by_cases c18 : t195 = 220
            · rw [if_pos c18] at H
              have c18b0 : (t195 == 220) = true := beq_iff_eq.mpr c18
              have c18b1 : (t195 != 220) = false := bne_eq_false_iff_eq.mpr c18
              clear c18
              replace H := Option.bind_eq_some_iff.mp H
              obtain ⟨⟨t196, t197⟩, A190, H⟩ := H
              replace H : ((sawmilllaw35_at.f 200 100).bind fun bt198 => (if (t196 == bt198.1 && (t197 == bt198.2)) = true then ((sawmilllaw35_at.f 200 100).bind fun bt200 => ((sawmilllaw35_at.f 600 40).bind fun bt202 => ((air_Next.f k bt200.1 bt200.2 bt202.1 bt202.2 50 ([] : List Int)).bind fun bt204 => ((sawmilllaw35_at.f 250 50).bind fun bt206 => (if (bt204.1 == bt206.1 && (bt204.2 == bt206.2)) = true then ((sawmilllaw35_at.f 200 100).bind fun bt208 => ((sawmilllaw35_at.f 600 40).bind fun bt210 => ((air_Next.f k bt208.1 bt208.2 bt210.1 bt210.2 50 (([3] : List Int))).bind fun bt215 => ((sawmilllaw35_at.f 250 100).bind fun bt217 => (some (bt215.1 == bt217.1 && (bt215.2 == bt217.2))))))) else (none)))))) else (none))) = some r := H
              have A19 := Aside0.mk A190
              clear A190
              replace H := Option.bind_eq_some_iff.mp H
              obtain ⟨⟨t198, t199⟩, A200, H⟩ := H
              replace H : (if (t196 == t198 && (t197 == t199)) = true then ((sawmilllaw35_at.f 200 100).bind fun bt200 => ((sawmilllaw35_at.f 600 40).bind fun bt202 => ((air_Next.f k bt200.1 bt200.2 bt202.1 bt202.2 50 ([] : List Int)).bind fun bt204 => ((sawmilllaw35_at.f 250 50).bind fun bt206 => (if (bt204.1 == bt206.1 && (bt204.2 == bt206.2)) = true then ((sawmilllaw35_at.f 200 100).bind fun bt208 => ((sawmilllaw35_at.f 600 40).bind fun bt210 => ((air_Next.f k bt208.1 bt208.2 bt210.1 bt210.2 50 (([3] : List Int))).bind fun bt215 => ((sawmilllaw35_at.f 250 100).bind fun bt217 => (some (bt215.1 == bt217.1 && (bt215.2 == bt217.2))))))) else (none)))))) else (none)) = some r := H
              have A20 := Aside0.mk A200
              clear A200
              by_cases c21 : (t196 == t198 && (t197 == t199)) = true
              · rw [if_pos c21] at H
                have c21b0 : (t196 == t198 && (t197 == t199)) = true := c21
                (try (have c21b1 : decide (t196 = t198 && (t197 == t199)) = true := by simpa using c21))
                (try (have c21b2 : (t196 == t198 && (t197 == t199)) = true := by simpa using c21))
                clear c21
                replace H := Option.bind_eq_some_iff.mp H
                obtain ⟨⟨t200, t201⟩, A220, H⟩ := H
                replace H : ((sawmilllaw35_at.f 600 40).bind fun bt202 => ((air_Next.f k t200 t201 bt202.1 bt202.2 50 ([] : List Int)).bind fun bt204 => ((sawmilllaw35_at.f 250 50).bind fun bt206 => (if (bt204.1 == bt206.1 && (bt204.2 == bt206.2)) = true then ((sawmilllaw35_at.f 200 100).bind fun bt208 => ((sawmilllaw35_at.f 600 40).bind fun bt210 => ((air_Next.f k bt208.1 bt208.2 bt210.1 bt210.2 50 (([3] : List Int))).bind fun bt215 => ((sawmilllaw35_at.f 250 100).bind fun bt217 => (some (bt215.1 == bt217.1 && (bt215.2 == bt217.2))))))) else (none))))) = some r := H
                have A22 := Aside0.mk A220
                clear A220
                have eA22 := Prod.mk.inj (Option.some.inj (A20.out.symm.trans A22.out))
                obtain ⟨eA22a, eA22b⟩ := eA22
                subst eA22a
                subst eA22b
                replace H := Option.bind_eq_some_iff.mp H
                obtain ⟨⟨t202, t203⟩, A230, H⟩ := H
                replace H : ((air_Next.f k t198 t199 t202 t203 50 ([] : List Int)).bind fun bt204 => ((sawmilllaw35_at.f 250 50).bind fun bt206 => (if (bt204.1 == bt206.1 && (bt204.2 == bt206.2)) = true then ((sawmilllaw35_at.f 200 100).bind fun bt208 => ((sawmilllaw35_at.f 600 40).bind fun bt210 => ((air_Next.f k bt208.1 bt208.2 bt210.1 bt210.2 50 (([3] : List Int))).bind fun bt215 => ((sawmilllaw35_at.f 250 100).bind fun bt217 => (some (bt215.1 == bt217.1 && (bt215.2 == bt217.2))))))) else (none)))) = some r := H
                have A23 := Aside0.mk A230
                clear A230
                replace H := Option.bind_eq_some_iff.mp H
                obtain ⟨⟨t204, t205⟩, A240, H⟩ := H
                replace H : ((sawmilllaw35_at.f 250 50).bind fun bt206 => (if (t204 == bt206.1 && (t205 == bt206.2)) = true then ((sawmilllaw35_at.f 200 100).bind fun bt208 => ((sawmilllaw35_at.f 600 40).bind fun bt210 => ((air_Next.f k bt208.1 bt208.2 bt210.1 bt210.2 50 (([3] : List Int))).bind fun bt215 => ((sawmilllaw35_at.f 250 100).bind fun bt217 => (some (bt215.1 == bt217.1 && (bt215.2 == bt217.2))))))) else (none))) = some r := H
                have A24 := Aside0.mk A240
                clear A240
                have N24_ := Aside0.mk (fun W : World => show Calls Tryd.prog 17 #[.agg #[.int .i64 t198, .int .i64 t199], .agg #[.int .i64 t202, .int .i64 t203], .int .i64 50, .slice none 0 0] W (fun e w' => e = .returned (.agg #[.int .i64 t204, .int .i64 t205]) ∧ Below W.heap.size W w') from air_Next.calls k t198 t199 t202 t203 50 none 0 ([] : List Int) t204 t205 W (Kd.C_nil _ _) (Nat.le_refl _) A24.out)
                replace H := Option.bind_eq_some_iff.mp H
                obtain ⟨⟨t206, t207⟩, A250, H⟩ := H
                replace H : (if (t204 == t206 && (t205 == t207)) = true then ((sawmilllaw35_at.f 200 100).bind fun bt208 => ((sawmilllaw35_at.f 600 40).bind fun bt210 => ((air_Next.f k bt208.1 bt208.2 bt210.1 bt210.2 50 (([3] : List Int))).bind fun bt215 => ((sawmilllaw35_at.f 250 100).bind fun bt217 => (some (bt215.1 == bt217.1 && (bt215.2 == bt217.2))))))) else (none)) = some r := H
                have A25 := Aside0.mk A250
                clear A250
                by_cases c26 : (t204 == t206 && (t205 == t207)) = true
                · rw [if_pos c26] at H
                  have c26b0 : (t204 == t206 && (t205 == t207)) = true := c26
                  (try (have c26b1 : decide (t204 = t206 && (t205 == t207)) = true := by simpa using c26))
                  (try (have c26b2 : (t204 == t206 && (t205 == t207)) = true := by simpa using c26))
                  clear c26
                  replace H := Option.bind_eq_some_iff.mp H
                  obtain ⟨⟨t208, t209⟩, A270, H⟩ := H
                  replace H : ((sawmilllaw35_at.f 600 40).bind fun bt210 => ((air_Next.f k t208 t209 bt210.1 bt210.2 50 (([3] : List Int))).bind fun bt215 => ((sawmilllaw35_at.f 250 100).bind fun bt217 => (some (bt215.1 == bt217.1 && (bt215.2 == bt217.2)))))) = some r := H
                  have A27 := Aside0.mk A270
                  clear A270
                  have eA27 := Prod.mk.inj (Option.some.inj (A20.out.symm.trans A27.out))
                  obtain ⟨eA27a, eA27b⟩ := eA27
                  subst eA27a
                  subst eA27b
                  replace H := Option.bind_eq_some_iff.mp H
                  obtain ⟨⟨t210, t211⟩, A280, H⟩ := H
                  replace H : ((air_Next.f k t198 t199 t210 t211 50 (([3] : List Int))).bind fun bt215 => ((sawmilllaw35_at.f 250 100).bind fun bt217 => (some (bt215.1 == bt217.1 && (bt215.2 == bt217.2))))) = some r := H
                  have A28 := Aside0.mk A280
                  clear A280
                  have eA28 := Prod.mk.inj (Option.some.inj (A23.out.symm.trans A28.out))
                  obtain ⟨eA28a, eA28b⟩ := eA28
                  subst eA28a
                  subst eA28b
                  obtain ⟨y212, hy212⟩ : ∃ y_ : List Int, y_ = (([3] : List Int)) := ⟨_, rfl⟩
                  replace H : ((air_Next.f k t198 t199 t202 t203 50 y212).bind fun bt215 => ((sawmilllaw35_at.f 250 100).bind fun bt217 => (some (bt215.1 == bt217.1 && (bt215.2 == bt217.2))))) = some r := by first | (rw [hy212]; with_reducible exact H) | (have H2_ := (Option.bind_some _ _).symm.trans H; rw [hy212]; with_reducible exact H2_) | (have H2_ := (Option.bind_some _ _).symm.trans H; with_reducible exact H2_) | with_reducible exact H | (rw [hy212]; exact H) | exact H
                  have Ny212 := Aside0.mk hy212
                  clear hy212
                  replace H := Option.bind_eq_some_iff.mp H
                  obtain ⟨⟨t215, t216⟩, A290, H⟩ := H
                  replace H : ((sawmilllaw35_at.f 250 100).bind fun bt217 => (some (t215 == bt217.1 && (t216 == bt217.2)))) = some r := H
                  have A29 := Aside0.mk A290
                  clear A290
                  replace H := Option.bind_eq_some_iff.mp H
                  obtain ⟨⟨t217, t218⟩, A300, H⟩ := H
                  replace H : (some (t215 == t217 && (t216 == t218))) = some r := H
                  have A30 := Aside0.mk A300
                  clear A300
                  obtain rfl := Option.some.inj H
                  go_enter Tryd.func12, Tryd.ntmps12
                  go_wp2_with (first | ((with_reducible refine gate_callee (f := 19) rfl ?_); refine goesL_ (some 1) rfl rfl Tryd.func19 (by kernel_rfl) rfl #[.int .i64 1200, .int .i64 400] rfl (by (try simp only [List.map_toArray, List.map_cons, List.map_nil]); first | done | rfl | (simp only [List.length_drop, List.length_take]; rfl)) ?_; (with_reducible refine (sawmilllaw35_at.calls 1200 400 t178 t179 _ A1.out).mono ?_); rintro e w31 ⟨rfl, hb⟩; refine ⟨_, rfl, ?_⟩; have n0_ := Aside0.mk (below_step (by repeat (first | (with_reducible first | exact HB.out | apply below_alloc | apply pw_below_drewN | apply below_drew1) | exact HB.out)) hb); clear HB; have HB := n0_; clear n0_; (try clear hb); (try clear hb2); (try clear hk); (try clear hi)) | ((with_reducible refine gate_callee (f := 13) rfl ?_); refine goesL_ (some 2) rfl rfl Tryd.func13 (by kernel_rfl) rfl #[.agg #[.int .i64 t178, .int .i64 t179]] rfl (by (try simp only [List.map_toArray, List.map_cons, List.map_nil]); first | done | rfl | (simp only [List.length_drop, List.length_take]; rfl)) ?_; (with_reducible refine (air_Check.calls t178 t179 t180 _ A2.out).mono ?_); rintro e w32 ⟨rfl, hb⟩; refine ⟨_, rfl, ?_⟩; have n0_ := Aside0.mk (below_step (by repeat (first | (with_reducible first | exact HB.out | apply below_alloc | apply pw_below_drewN | apply below_drew1) | exact HB.out)) hb); clear HB; have HB := n0_; clear n0_; (try clear hb); (try clear hb2); (try clear hk); (try clear hi)) | (go_at_call 19; (with_reducible refine (sawmilllaw35_at.calls 1201 0 t181 t182 _ A4.out).mono ?_); rintro e w33 ⟨rfl, hb⟩; have n0_ := Aside0.mk (below_step (by repeat (first | (with_reducible first | exact HB.out | apply below_alloc | apply pw_below_drewN | apply below_drew1) | exact HB.out)) hb); clear HB; have HB := n0_; clear n0_; (try clear hb); (try clear hb2); (try clear hk); (try clear hi)) | (go_at_call 13; (with_reducible refine (air_Check.calls t181 t182 t183 _ A5.out).mono ?_); rintro e w34 ⟨rfl, hb⟩; have n0_ := Aside0.mk (below_step (by repeat (first | (with_reducible first | exact HB.out | apply below_alloc | apply pw_below_drewN | apply below_drew1) | exact HB.out)) hb); clear HB; have HB := n0_; clear n0_; (try clear hb); (try clear hb2); (try clear hk); (try clear hi)) | (go_at_call 19; (with_reducible refine (sawmilllaw35_at.calls 300 100 t184 t185 _ A7.out).mono ?_); rintro e w35 ⟨rfl, hb⟩; have n0_ := Aside0.mk (below_step (by repeat (first | (with_reducible first | exact HB.out | apply below_alloc | apply pw_below_drewN | apply below_drew1) | exact HB.out)) hb); clear HB; have HB := n0_; clear n0_; (try clear hb); (try clear hb2); (try clear hk); (try clear hi)) | (go_at_call 15; (with_reducible refine (air_Emc.calls k t184 t185 t186 _ A8.out ?hgl).mono ?_); (case hgl => exact Glob.below hGl.out (by repeat (first | (with_reducible first | exact HB.out | apply below_alloc | apply pw_below_drewN | apply below_drew1) | exact HB.out))); rintro e w36 ⟨rfl, hb⟩; have n0_ := Aside0.mk (below_step (by repeat (first | (with_reducible first | exact HB.out | apply below_alloc | apply pw_below_drewN | apply below_drew1) | exact HB.out)) hb); clear HB; have HB := n0_; clear n0_; (try clear hb); (try clear hb2); (try clear hk); (try clear hi)) | (go_at_call 19; (with_reducible refine (sawmilllaw35_at.calls 200 150 t187 t188 _ A10.out).mono ?_); rintro e w37 ⟨rfl, hb⟩; have n0_ := Aside0.mk (below_step (by repeat (first | (with_reducible first | exact HB.out | apply below_alloc | apply pw_below_drewN | apply below_drew1) | exact HB.out)) hb); clear HB; have HB := n0_; clear n0_; (try clear hb); (try clear hb2); (try clear hk); (try clear hi)) | (go_at_call 15; (with_reducible refine (air_Emc.calls k t187 t188 t189 _ A11.out ?hgl).mono ?_); (case hgl => exact Glob.below hGl.out (by repeat (first | (with_reducible first | exact HB.out | apply below_alloc | apply pw_below_drewN | apply below_drew1) | exact HB.out))); rintro e w38 ⟨rfl, hb⟩; have n0_ := Aside0.mk (below_step (by repeat (first | (with_reducible first | exact HB.out | apply below_alloc | apply pw_below_drewN | apply below_drew1) | exact HB.out)) hb); clear HB; have HB := n0_; clear n0_; (try clear hb); (try clear hb2); (try clear hk); (try clear hi)) | (go_at_call 19; (with_reducible refine (sawmilllaw35_at.calls 300 150 t190 t191 _ A13.out).mono ?_); rintro e w39 ⟨rfl, hb⟩; have n0_ := Aside0.mk (below_step (by repeat (first | (with_reducible first | exact HB.out | apply below_alloc | apply pw_below_drewN | apply below_drew1) | exact HB.out)) hb); clear HB; have HB := n0_; clear n0_; (try clear hb); (try clear hb2); (try clear hk); (try clear hi)) | (go_at_call 15; (with_reducible refine (air_Emc.calls k t190 t191 t192 _ A14.out ?hgl).mono ?_); (case hgl => exact Glob.below hGl.out (by repeat (first | (with_reducible first | exact HB.out | apply below_alloc | apply pw_below_drewN | apply below_drew1) | exact HB.out))); rintro e w40 ⟨rfl, hb⟩; have n0_ := Aside0.mk (below_step (by repeat (first | (with_reducible first | exact HB.out | apply below_alloc | apply pw_below_drewN | apply below_drew1) | exact HB.out)) hb); clear HB; have HB := n0_; clear n0_; (try clear hb); (try clear hb2); (try clear hk); (try clear hi)) | (go_at_call 19; (with_reducible refine (sawmilllaw35_at.calls 5000 5000 t193 t194 _ A16.out).mono ?_); rintro e w41 ⟨rfl, hb⟩; have n0_ := Aside0.mk (below_step (by repeat (first | (with_reducible first | exact HB.out | apply below_alloc | apply pw_below_drewN | apply below_drew1) | exact HB.out)) hb); clear HB; have HB := n0_; clear n0_; (try clear hb); (try clear hb2); (try clear hk); (try clear hi)) | (go_at_call 15; (with_reducible refine (air_Emc.calls k t193 t194 t195 _ A17.out ?hgl).mono ?_); (case hgl => exact Glob.below hGl.out (by repeat (first | (with_reducible first | exact HB.out | apply below_alloc | apply pw_below_drewN | apply below_drew1) | exact HB.out))); rintro e w42 ⟨rfl, hb⟩; have n0_ := Aside0.mk (below_step (by repeat (first | (with_reducible first | exact HB.out | apply below_alloc | apply pw_below_drewN | apply below_drew1) | exact HB.out)) hb); clear HB; have HB := n0_; clear n0_; (try clear hb); (try clear hb2); (try clear hk); (try clear hi)) | (go_at_call 20; (with_reducible refine (air_Outside.calls  t196 t197 _ A19.out).mono ?_); rintro e w43 ⟨rfl, hb⟩; have n0_ := Aside0.mk (below_step (by repeat (first | (with_reducible first | exact HB.out | apply below_alloc | apply pw_below_drewN | apply below_drew1) | exact HB.out)) hb); clear HB; have HB := n0_; clear n0_; (try clear hb); (try clear hb2); (try clear hk); (try clear hi)) | (go_at_call 19; (with_reducible refine (sawmilllaw35_at.calls 200 100 t198 t199 _ A20.out).mono ?_); rintro e w44 ⟨rfl, hb⟩; have n0_ := Aside0.mk (below_step (by repeat (first | (with_reducible first | exact HB.out | apply below_alloc | apply pw_below_drewN | apply below_drew1) | exact HB.out)) hb); clear HB; have HB := n0_; clear n0_; (try clear hb); (try clear hb2); (try clear hk); (try clear hi)) | (go_at_call 19; (with_reducible refine (sawmilllaw35_at.calls 200 100 t198 t199 _ A22.out).mono ?_); rintro e w45 ⟨rfl, hb⟩; have n0_ := Aside0.mk (below_step (by repeat (first | (with_reducible first | exact HB.out | apply below_alloc | apply pw_below_drewN | apply below_drew1) | exact HB.out)) hb); clear HB; have HB := n0_; clear n0_; (try clear hb); (try clear hb2); (try clear hk); (try clear hi)) | (go_at_call 19; (with_reducible refine (sawmilllaw35_at.calls 600 40 t202 t203 _ A23.out).mono ?_); rintro e w46 ⟨rfl, hb⟩; have n0_ := Aside0.mk (below_step (by repeat (first | (with_reducible first | exact HB.out | apply below_alloc | apply pw_below_drewN | apply below_drew1) | exact HB.out)) hb); clear HB; have HB := n0_; clear n0_; (try clear hb); (try clear hb2); (try clear hk); (try clear hi)) | (go_at_call 17; (with_reducible refine (N24_.out _).mono ?_); rintro e w47 ⟨rfl, hb⟩; have n0_ := Aside0.mk (below_step (by repeat (first | (with_reducible first | exact HB.out | apply below_alloc | apply pw_below_drewN | apply below_drew1) | exact HB.out)) hb); clear HB; have HB := n0_; clear n0_; (try clear hb); (try clear hb2); (try clear hk); (try clear hi)) | (go_at_call 19; (with_reducible refine (sawmilllaw35_at.calls 250 50 t206 t207 _ A25.out).mono ?_); rintro e w48 ⟨rfl, hb⟩; have n0_ := Aside0.mk (below_step (by repeat (first | (with_reducible first | exact HB.out | apply below_alloc | apply pw_below_drewN | apply below_drew1) | exact HB.out)) hb); clear HB; have HB := n0_; clear n0_; (try clear hb); (try clear hb2); (try clear hk); (try clear hi)) | (go_at_call 19; (with_reducible refine (sawmilllaw35_at.calls 200 100 t198 t199 _ A27.out).mono ?_); rintro e w49 ⟨rfl, hb⟩; have n0_ := Aside0.mk (below_step (by repeat (first | (with_reducible first | exact HB.out | apply below_alloc | apply pw_below_drewN | apply below_drew1) | exact HB.out)) hb); clear HB; have HB := n0_; clear n0_; (try clear hb); (try clear hb2); (try clear hk); (try clear hi)) | (go_at_call 19; (with_reducible refine (sawmilllaw35_at.calls 600 40 t202 t203 _ A28.out).mono ?_); rintro e w50 ⟨rfl, hb⟩; have n0_ := Aside0.mk (below_step (by repeat (first | (with_reducible first | exact HB.out | apply below_alloc | apply pw_below_drewN | apply below_drew1) | exact HB.out)) hb); clear HB; have HB := n0_; clear n0_; (try clear hb); (try clear hb2); (try clear hk); (try clear hi)) | ((with_reducible refine gate_dst (N := 44) rfl ?_); (try (refine gate_guard (by rfl) ?_; dsimp only)); refine Kd.R_lit (Kd.int .i64) _ 3 ?hg (N := 44) ?hd (xs := ([3] : List Int)) (inner := [.int .i64 3]) (ok := fun _ => True) (okp := fun _ => True) ?hr ?hp (fun _ hk => hk) trivial (Below.refl _ _) (Nat.le_refl _) (by simp) ?_; (case hd => rfl); (case hg => rfl); (case hr => first | (go_simp; done) | (go_simp; rfl)); (case hp => exact (Reps.one (show Kd.M (Kd.int .i64) _ _ _ 3 [.int .i64 3] from rfl) (Reps.none _ _))); intro v213 w51 ho52 hb hg_ hnew_; clear hg_ hnew_; (first | rw [← Ny212.out] at ho52 | (simp only [Int.reduceToNat] at ho52; rw [← Ny212.out] at ho52)); have n0_ := Aside0.mk (Kd.R_lower ho52 (below_size (by repeat (first | (with_reducible first | exact HB.out | apply below_alloc | apply pw_below_drewN | apply below_drew1) | exact HB.out)))); have n1_ := Aside0.mk (below_step (by repeat (first | (with_reducible first | exact HB.out | apply below_alloc | apply pw_below_drewN | apply below_drew1) | exact HB.out)) hb); clear HB; have HO214 := n0_; have HB := n1_; clear n0_ n1_; clear hb ho52; obtain ⟨Ao53, co53, eo53⟩ := Kd.R_slice HO214.out; subst eo53) | (go_at_call 17; (with_reducible refine (air_Next.calls k t198 t199 t202 t203 50 _ _ y212 t215 t216 _ ?side1 ?side2 A29.out).mono ?_); (case side1 => repeat (first | exact (Kd.R_reads' HO214.out).2.2 | (with_reducible refine Kd.C_alloc ?_ _) | (with_reducible refine Kd.C_drewN ?_ _) | (with_reducible refine Kd.C_drew ?_))); (case side2 => exact (Kd.R_reads' HO214.out).2.1); rintro e w54 ⟨rfl, hb⟩; have n0_ := Aside0.mk (Kd.R_below (by (with_reducible repeat (first | apply Kd.R_alloc | apply Kd.R_drewN | apply Kd.R_drew)); exact HO214.out) hb); have n1_ := Aside0.mk (below_step (by repeat (first | (with_reducible first | exact HB.out | apply below_alloc | apply pw_below_drewN | apply below_drew1) | exact HB.out)) hb); clear HO214; clear HB; have HO214 := n0_; have HB := n1_; clear n0_ n1_; (try clear hb); (try clear hb2); (try clear hk); (try clear hi)) | (go_at_call 19; (with_reducible refine (sawmilllaw35_at.calls 250 100 t217 t218 _ A30.out).mono ?_); rintro e w55 ⟨rfl, hb⟩; have n0_ := Aside0.mk (Kd.R_below (by (with_reducible repeat (first | apply Kd.R_alloc | apply Kd.R_drewN | apply Kd.R_drew)); exact HO214.out) hb); have n1_ := Aside0.mk (below_step (by repeat (first | (with_reducible first | exact HB.out | apply below_alloc | apply pw_below_drewN | apply below_drew1) | exact HB.out)) hb); clear HO214; clear HB; have HO214 := n0_; have HB := n1_; clear n0_ n1_; (try clear hb); (try clear hb2); (try clear hk); (try clear hi)))
                  go_ret
                  exact ⟨by first | rfl | (simp [errW_none, errW_some] <;> rfl) | (simp [*, errW_none, errW_some] <;> rfl), by repeat (first | (with_reducible first | exact HB.out | apply below_alloc | apply pw_below_drewN | apply below_drew1) | exact HB.out)⟩
                · rw [if_neg c26] at H
                  have c26b0 : (t204 == t206 && (t205 == t207)) = false := by simpa using c26
                  (try (have c26b1 : decide (t204 = t206 && (t205 == t207)) = false := by simpa using c26))
                  (try (have c26b2 : (t204 == t206 && (t205 == t207)) = false := by simpa using c26))
                  (try (have c26b3 : ¬ (t204 = t206 && (t205 == t207)) := by simpa using c26))
                  clear c26
                  exact absurd H (by simp)
              · rw [if_neg c21] at H
                have c21b0 : (t196 == t198 && (t197 == t199)) = false := by simpa using c21
                (try (have c21b1 : decide (t196 = t198 && (t197 == t199)) = false := by simpa using c21))
                (try (have c21b2 : (t196 == t198 && (t197 == t199)) = false := by simpa using c21))
                (try (have c21b3 : ¬ (t196 = t198 && (t197 == t199)) := by simpa using c21))
                clear c21
                exact absurd H (by simp)
            · rw [if_neg c18] at H
              have c18b0 : (t195 == 220) = false := beq_eq_false_iff_ne.mpr c18
              have c18b1 : (t195 != 220) = true := bne_iff_ne.mpr c18
              exact absurd H (by simp)
          · rw [if_neg c15] at H
            have c15b0 : (t192 == 957) = false := beq_eq_false_iff_ne.mpr c15
            have c15b1 : (t192 != 957) = true := bne_iff_ne.mpr c15
            exact absurd H (by simp)
        · rw [if_neg c12] at H
          have c12b0 : (t189 == 1000) = false := beq_eq_false_iff_ne.mpr c12
          have c12b1 : (t189 != 1000) = true := bne_iff_ne.mpr c12
          exact absurd H (by simp)
      · rw [if_neg c9] at H
        have c9b0 : (t186 == 1200) = false := beq_eq_false_iff_ne.mpr c9
        have c9b1 : (t186 != 1200) = true := bne_iff_ne.mpr c9
        exact absurd H (by simp)
    · rw [if_neg c6] at H
      have c6b0 : (t183 == 9) = false := beq_eq_false_iff_ne.mpr c6
      have c6b1 : (t183 != 9) = true := bne_iff_ne.mpr c6
      exact absurd H (by simp)
  · rw [if_neg c3] at H
    have c3b0 : (t180 == 0) = false := beq_eq_false_iff_ne.mpr c3
    have c3b1 : (t180 != 0) = true := bne_iff_ne.mpr c3
    exact absurd H (by simp)

end Go.Proofs.YtfgeppldckagaaaDoor.PAll
