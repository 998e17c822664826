-- Written by a changed copy of the kit's print program, run in this session (NOTES.md tells the change). Not trusted: Lean checks it.
import Derived.Test.YtpbekhkmeaaejaaPAllx0
import Derived.Test.YtpbekhkmeaaejaaPAllx2
import Derived.Test.YtpbekhkmeaaejaaPAllx3
import Derived.Test.YtpbekhkmeaaejaaPAllx5
import Derived.Test.YtpbekhkmeaaejaaPAllx6
import Derived.Test.YtpbekhkmeaaejaaPAllx7
namespace Go.Proofs.Ytpbekhkmeaaejaa.PAll
open Go.RowKit Go.Proofs.YtpbekhkmeaaejaaW.PrintWords Go.Proofs.YtpbekhkmeaaejaaW.PrintLast Go.Proofs.YtpbekhkmeaaejaaW.PrintMore
attribute [local go_sem] max2_int min2_int max_two min_two max_three min_three max_four min_four   -- for this text's walks alone
set_option linter.unusedVariables false
set_option linter.unusedSimpArgs false

/-! ### sawmilllaw05_WireRanges: function 5 -/
mutual
def sawmilllaw05_WireRanges.j0 : Nat → Int → ByteArray → Int → Int → Bool → Int → Int → Int → Int → ByteArray → Int → Int → Option (Bool)
  | 0, _, _, _, _, _, _, _, _, _, _, _, _ => none
  | k + 1, x0, x1, x8, x9, x37, x203000, x203001, x203002, x203003, x209000, x209001, x209002 => if x37 = true then (if x8 = x0 then (if x9 = 0 then (sawmilllaw05_WireRanges.j1 k x1 x203000 x203001 x203002 x203003) else (some false)) else (some false)) else (if x8 = 0 then (if x9 = 9 then ((wire_Reader_Left.f x209000 x209001 x209002).bind fun bt217 => (if bt217.1 = 0 then (some false) else (sawmilllaw05_WireRanges.j1 k x1 x203000 x203001 x203002 x203003))) else (some false)) else (some false))
def sawmilllaw05_WireRanges.j1 : Nat → ByteArray → Int → Int → Int → Int → Option (Bool)
  | 0, _, _, _, _, _ => none
  | k + 1, x1, x203000, x203001, x203002, x203003 => (wire_Text.f k x1).bind fun t221 => ((wire_NewReader.f t221).bind fun bt222 => ((wire_Reader_Text.f k bt222.1 bt222.2.1 bt222.2.2 x203003).bind fun bt226 => ((wire_Reader_End.f bt226.2.1 bt226.2.2.1 bt226.2.2.2).bind fun bt230 => (if (x1.size : Int) ≤ x203003 then (if bt226.1.toList = x1.toList then (if bt230.1 = 0 then ((sawmilllaw05_awake.f).bind fun t234 => (some t234)) else (some false)) else (some false)) else (if bt226.1.toList = ([] : List UInt8) then (if bt230.1 = 4 then ((sawmilllaw05_awake.f).bind fun t235 => (some t235)) else (some false)) else (some false))))))
end
def sawmilllaw05_WireRanges.f (k : Nat) (a0 : Int) (a1 : ByteArray) (a2_0 : Int) (a2_1 : Int) (a2_2 : Int) (a2_3 : Int) : Option (Bool) := if (a1.size : Int) > 3000 then ((sawmilllaw05_awake.f).bind fun t203 => (some t203)) else ((wire_Int.f k a0).bind fun t204 => ((wire_NewReader.f t204).bind fun bt205 => ((wire_Reader_Int.f k bt205.1 bt205.2.1 bt205.2.2 a2_1 a2_2).bind fun bt209 => ((wire_Reader_End.f bt209.2.1 bt209.2.2.1 bt209.2.2.2).bind fun bt213 => (if a0 ≥ a2_1 then (sawmilllaw05_WireRanges.j0 k a0 a1 bt209.1 bt213.1 (decide (a0 ≤ a2_2)) a2_0 a2_1 a2_2 a2_3 bt213.2.1 bt213.2.2.1 bt213.2.2.2) else (sawmilllaw05_WireRanges.j0 k a0 a1 bt209.1 bt213.1 false a2_0 a2_1 a2_2 a2_3 bt213.2.1 bt213.2.2.1 bt213.2.2.2))))))
theorem sawmilllaw05_WireRanges.mono_l : ∀ k, (∀ y0 y1 y2 y3 y4 y5 y6 y7 y8 y9 y10 y11, LeO (sawmilllaw05_WireRanges.j0 k y0 y1 y2 y3 y4 y5 y6 y7 y8 y9 y10 y11) (sawmilllaw05_WireRanges.j0 (k + 1) y0 y1 y2 y3 y4 y5 y6 y7 y8 y9 y10 y11)) ∧ (∀ y0 y1 y2 y3 y4, LeO (sawmilllaw05_WireRanges.j1 k y0 y1 y2 y3 y4) (sawmilllaw05_WireRanges.j1 (k + 1) y0 y1 y2 y3 y4))
  | 0 => ⟨fun _ _ _ _ _ _ _ _ _ _ _ _ r h => by simp [sawmilllaw05_WireRanges.j0] at h, fun _ _ _ _ _ r h => by simp [sawmilllaw05_WireRanges.j1] at h⟩
  | k + 1 => by
    obtain ⟨ih0, ih1⟩ := sawmilllaw05_WireRanges.mono_l k
    refine ⟨?_, ?_⟩
    · intro y0 y1 y2 y3 y4 y5 y6 y7 y8 y9 y10 y11
      unfold sawmilllaw05_WireRanges.j0
      repeat' first
      | (with_reducible exact ih0 _ _ _ _ _ _ _ _ _ _ _ _)
      | (with_reducible exact ih1 _ _ _ _ _)
      | (with_reducible exact wire_Int.mono _ _)
      | (with_reducible exact wire_Reader_Int.mono _ _ _ _ _ _)
      | (with_reducible exact wire_Reader_Text.mono _ _ _ _ _)
      | (with_reducible exact wire_Text.mono _ _)
      | (with_reducible exact LeO.refl _)
      | (with_reducible exact LeO.none _)
      | (with_reducible refine LeO.ite ?_ ?_)
      | (with_reducible refine LeO.bind ?_ (fun _ => ?_))
      | exact ih0 _ _ _ _ _ _ _ _ _ _ _ _
      | exact ih1 _ _ _ _ _
      | exact wire_Int.mono _ _
      | exact wire_Reader_Int.mono _ _ _ _ _ _
      | exact wire_Reader_Text.mono _ _ _ _ _
      | exact wire_Text.mono _ _
      | exact LeO.none _
      | refine LeO.ite ?_ ?_
      | refine LeO.bind ?_ (fun _ => ?_)
    · intro y0 y1 y2 y3 y4
      unfold sawmilllaw05_WireRanges.j1
      repeat' first
      | (with_reducible exact ih0 _ _ _ _ _ _ _ _ _ _ _ _)
      | (with_reducible exact ih1 _ _ _ _ _)
      | (with_reducible exact wire_Int.mono _ _)
      | (with_reducible exact wire_Reader_Int.mono _ _ _ _ _ _)
      | (with_reducible exact wire_Reader_Text.mono _ _ _ _ _)
      | (with_reducible exact wire_Text.mono _ _)
      | (with_reducible exact LeO.refl _)
      | (with_reducible exact LeO.none _)
      | (with_reducible refine LeO.ite ?_ ?_)
      | (with_reducible refine LeO.bind ?_ (fun _ => ?_))
      | exact ih0 _ _ _ _ _ _ _ _ _ _ _ _
      | exact ih1 _ _ _ _ _
      | exact wire_Int.mono _ _
      | exact wire_Reader_Int.mono _ _ _ _ _ _
      | exact wire_Reader_Text.mono _ _ _ _ _
      | exact wire_Text.mono _ _
      | exact LeO.none _
      | refine LeO.ite ?_ ?_
      | refine LeO.bind ?_ (fun _ => ?_)
theorem sawmilllaw05_WireRanges.mono : ∀ a0 a1 a2 a3 a4 a5 k, LeO (sawmilllaw05_WireRanges.f k a0 a1 a2 a3 a4 a5) (sawmilllaw05_WireRanges.f (k + 1) a0 a1 a2 a3 a4 a5) := by
  intro a0 a1 a2 a3 a4 a5 k
  obtain ⟨ih0, ih1⟩ := sawmilllaw05_WireRanges.mono_l k
  unfold sawmilllaw05_WireRanges.f
  repeat' first
      | (with_reducible exact ih0 _ _ _ _ _ _ _ _ _ _ _ _)
      | (with_reducible exact ih1 _ _ _ _ _)
      | (with_reducible exact wire_Int.mono _ _)
      | (with_reducible exact wire_Reader_Int.mono _ _ _ _ _ _)
      | (with_reducible exact wire_Reader_Text.mono _ _ _ _ _)
      | (with_reducible exact wire_Text.mono _ _)
      | (with_reducible exact LeO.refl _)
      | (with_reducible exact LeO.none _)
      | (with_reducible refine LeO.ite ?_ ?_)
      | (with_reducible refine LeO.bind ?_ (fun _ => ?_))
      | exact ih0 _ _ _ _ _ _ _ _ _ _ _ _
      | exact ih1 _ _ _ _ _
      | exact wire_Int.mono _ _
      | exact wire_Reader_Int.mono _ _ _ _ _ _
      | exact wire_Reader_Text.mono _ _ _ _ _
      | exact wire_Text.mono _ _
      | exact LeO.none _
      | refine LeO.ite ?_ ?_
      | refine LeO.bind ?_ (fun _ => ?_)
set_option maxHeartbeats 8000000 in
set_option maxRecDepth 100000 in
theorem sawmilllaw05_WireRanges.calls (k : Nat) (a0 : Int) (a1 : ByteArray) (a2_0 : Int) (a2_1 : Int) (a2_2 : Int) (a2_3 : Int) (r : Bool) (w : World) (h : sawmilllaw05_WireRanges.f k a0 a1 a2_0 a2_1 a2_2 a2_3 = some r) :
    Calls Try.prog 5 #[.int .i64 a0, .string a1, .agg #[.int .u8 a2_0, .int .i64 a2_1, .int .i64 a2_2, .int .i64 a2_3]] w fun e w' => e = .returned (.bool r) ∧ Below w.heap.size w w' := by
  have hu32 := Try.underlying32
  have HB := Aside0.mk (Below.refl w.heap.size w)
  have H : (if (a1.size : Int) > 3000 then ((sawmilllaw05_awake.f).bind fun t203 => (some t203)) else ((wire_Int.f k a0).bind fun t204 => ((wire_NewReader.f t204).bind fun bt205 => ((wire_Reader_Int.f k bt205.1 bt205.2.1 bt205.2.2 a2_1 a2_2).bind fun bt209 => ((wire_Reader_End.f bt209.2.1 bt209.2.2.1 bt209.2.2.2).bind fun bt213 => (if a0 ≥ a2_1 then (sawmilllaw05_WireRanges.j0 k a0 a1 bt209.1 bt213.1 (decide (a0 ≤ a2_2)) a2_0 a2_1 a2_2 a2_3 bt213.2.1 bt213.2.2.1 bt213.2.2.2) else (sawmilllaw05_WireRanges.j0 k a0 a1 bt209.1 bt213.1 false a2_0 a2_1 a2_2 a2_3 bt213.2.1 bt213.2.2.1 bt213.2.2.2))))))) = some r := h
  clear h
  by_cases c4 : (a1.size : Int) > 3000
  · rw [if_pos c4] at H
    have c4b0 : decide (3000 < (a1.size : Int)) = true := decide_eq_true c4
    have c4b1 : decide (3000 < a1.size) = true := decide_eq_true (by omega)
    clear c4
    replace H := Option.bind_eq_some_iff.mp H
    obtain ⟨t203, A50, H⟩ := H
    replace H : (some t203) = some r := H
    have A5 := Aside0.mk A50
    clear A50
    obtain rfl := Option.some.inj H
    go_enter Try.func5, Try.ntmps5
    go_wp2_with (first | ((with_reducible refine gate_dst (N := 5) rfl ?_); refine box_event ?hg (N := 5) ?hd (cs := #[.int .u8 a2_0, .int .i64 a2_1, .int .i64 a2_2, .int .i64 a2_3]) (t := 32) ?hr ?_; (case hd => rfl); (case hg => rfl); (case hr => first | (go_simp; done) | (go_simp; rfl)); intro gb202 hg w6 hbox hb; have n0_ := Aside0.mk (below_step (by repeat (first | (with_reducible first | exact HB.out | apply below_alloc | apply pw_below_drewN | apply below_drew1) | exact HB.out)) hb); have n1_ := Aside0.mk (hbox); have n2_ := Aside0.mk ((by rw [hg]; exact (below_size (by repeat (first | (with_reducible first | exact HB.out | apply below_alloc | apply pw_below_drewN | apply below_drew1) | exact HB.out))) : w.heap.size ≤ gb202)); have n3_ := Aside0.mk ((by rw [hg]; exact (below_size (by repeat (first | (with_reducible first | exact HB.out | apply below_alloc | apply pw_below_drewN | apply below_drew1) | exact HB.out))) : w.heap.size ≤ gb202)); clear HB; have HB := n0_; have BK202 := n1_; have GW202 := n2_; have GE202 := n3_; clear n0_ n1_ n2_ n3_; clear hb hbox hg) | ((with_reducible refine gate_callee (f := 16) rfl ?_); refine goesL_ (some 16) rfl rfl Try.func16 (by kernel_rfl) rfl #[] rfl (by (try simp only [List.map_toArray, List.map_cons, List.map_nil]); first | done | rfl | (simp only [List.length_drop, List.length_take]; rfl)) ?_; (with_reducible refine (sawmilllaw05_awake.calls  t203 _ A5.out).mono ?_); rintro e w7 ⟨rfl, hb⟩; refine ⟨_, rfl, ?_⟩; have n0_ := Aside0.mk (blk_below (g := gb202) (o := .cells #[.int .u8 a2_0, .int .i64 a2_1, .int .i64 a2_2, .int .i64 a2_3] 32 (0, 0)) (by (with_reducible repeat (first | refine blk_drewN ?_ _ | refine blk_drew ?_ | refine blk_alloc ?_ _)); exact BK202.out) hb); have n1_ := Aside0.mk (below_step (by repeat (first | (with_reducible first | exact HB.out | apply below_alloc | apply pw_below_drewN | apply below_drew1 | refine below_set ?_ GE202.out) | exact HB.out)) hb); clear BK202; clear HB; have BK202 := n0_; have HB := n1_; clear n0_ n1_; (try clear hb); (try clear hb2); (try clear hk); (try clear hi)))
    go_ret
    exact ⟨by first | rfl | (simp [errW_none, errW_some] <;> rfl) | (simp [*, errW_none, errW_some] <;> rfl), by repeat (first | (with_reducible first | exact HB.out | apply below_alloc | apply pw_below_drewN | apply below_drew1 | refine below_set ?_ GE202.out) | exact HB.out)⟩
  · rw [if_neg c4] at H
    have c4b0 : decide (3000 < (a1.size : Int)) = false := decide_eq_false c4
    have c4b1 : decide (3000 < a1.size) = false := decide_eq_false (by omega)
    clear c4
    replace H := Option.bind_eq_some_iff.mp H
    obtain ⟨t204, A80, H⟩ := H
    replace H : ((wire_NewReader.f t204).bind fun bt205 => ((wire_Reader_Int.f k bt205.1 bt205.2.1 bt205.2.2 a2_1 a2_2).bind fun bt209 => ((wire_Reader_End.f bt209.2.1 bt209.2.2.1 bt209.2.2.2).bind fun bt213 => (if a0 ≥ a2_1 then (sawmilllaw05_WireRanges.j0 k a0 a1 bt209.1 bt213.1 (decide (a0 ≤ a2_2)) a2_0 a2_1 a2_2 a2_3 bt213.2.1 bt213.2.2.1 bt213.2.2.2) else (sawmilllaw05_WireRanges.j0 k a0 a1 bt209.1 bt213.1 false a2_0 a2_1 a2_2 a2_3 bt213.2.1 bt213.2.2.1 bt213.2.2.2))))) = some r := H
    have A8 := Aside0.mk A80
    clear A80
    replace H := Option.bind_eq_some_iff.mp H
    obtain ⟨⟨t205, t206, t207⟩, A90, H⟩ := H
    replace H : ((wire_Reader_Int.f k t205 t206 t207 a2_1 a2_2).bind fun bt209 => ((wire_Reader_End.f bt209.2.1 bt209.2.2.1 bt209.2.2.2).bind fun bt213 => (if a0 ≥ a2_1 then (sawmilllaw05_WireRanges.j0 k a0 a1 bt209.1 bt213.1 (decide (a0 ≤ a2_2)) a2_0 a2_1 a2_2 a2_3 bt213.2.1 bt213.2.2.1 bt213.2.2.2) else (sawmilllaw05_WireRanges.j0 k a0 a1 bt209.1 bt213.1 false a2_0 a2_1 a2_2 a2_3 bt213.2.1 bt213.2.2.1 bt213.2.2.2)))) = some r := H
    have A9 := Aside0.mk A90
    clear A90
    replace H := Option.bind_eq_some_iff.mp H
    obtain ⟨⟨t209, t210, t211, t212⟩, A100, H⟩ := H
    replace H : ((wire_Reader_End.f t210 t211 t212).bind fun bt213 => (if a0 ≥ a2_1 then (sawmilllaw05_WireRanges.j0 k a0 a1 t209 bt213.1 (decide (a0 ≤ a2_2)) a2_0 a2_1 a2_2 a2_3 bt213.2.1 bt213.2.2.1 bt213.2.2.2) else (sawmilllaw05_WireRanges.j0 k a0 a1 t209 bt213.1 false a2_0 a2_1 a2_2 a2_3 bt213.2.1 bt213.2.2.1 bt213.2.2.2))) = some r := H
    have A10 := Aside0.mk A100
    clear A100
    replace H := Option.bind_eq_some_iff.mp H
    obtain ⟨⟨t213, t214, t215, t216⟩, A110, H⟩ := H
    replace H : (if a0 ≥ a2_1 then (sawmilllaw05_WireRanges.j0 k a0 a1 t209 t213 (decide (a0 ≤ a2_2)) a2_0 a2_1 a2_2 a2_3 t214 t215 t216) else (sawmilllaw05_WireRanges.j0 k a0 a1 t209 t213 false a2_0 a2_1 a2_2 a2_3 t214 t215 t216)) = some r := H
    have A11 := Aside0.mk A110
    clear A110
    have HC12 := Aside0.mk H
    clear H
    go_enter Try.func5, Try.ntmps5
    go_upto_region 6 with (first | ((with_reducible refine gate_dst (N := 5) rfl ?_); refine box_event ?hg (N := 5) ?hd (cs := #[.int .u8 a2_0, .int .i64 a2_1, .int .i64 a2_2, .int .i64 a2_3]) (t := 32) ?hr ?_; (case hd => rfl); (case hg => rfl); (case hr => first | (go_simp; done) | (go_simp; rfl)); intro gb202 hg w13 hbox hb; have n0_ := Aside0.mk (below_step (by repeat (first | (with_reducible first | exact HB.out | apply below_alloc | apply pw_below_drewN | apply below_drew1) | exact HB.out)) hb); have n1_ := Aside0.mk (hbox); have n2_ := Aside0.mk ((by rw [hg]; exact (below_size (by repeat (first | (with_reducible first | exact HB.out | apply below_alloc | apply pw_below_drewN | apply below_drew1) | exact HB.out))) : w.heap.size ≤ gb202)); have n3_ := Aside0.mk ((by rw [hg]; exact (below_size (by repeat (first | (with_reducible first | exact HB.out | apply below_alloc | apply pw_below_drewN | apply below_drew1) | exact HB.out))) : w.heap.size ≤ gb202)); clear HB; have HB := n0_; have BK202 := n1_; have GW202 := n2_; have GE202 := n3_; clear n0_ n1_ n2_ n3_; clear hb hbox hg) | ((with_reducible refine gate_callee (f := 14) rfl ?_); refine goesL_ (some 18) rfl rfl Try.func14 (by kernel_rfl) rfl #[.int .i64 a0] rfl (by (try simp only [List.map_toArray, List.map_cons, List.map_nil]); first | done | rfl | (simp only [List.length_drop, List.length_take]; rfl)) ?_; (with_reducible refine (wire_Int.calls k a0 t204 _ A8.out).mono ?_); rintro e w14 ⟨rfl, hb⟩; refine ⟨_, rfl, ?_⟩; have n0_ := Aside0.mk (blk_below (g := gb202) (o := .cells #[.int .u8 a2_0, .int .i64 a2_1, .int .i64 a2_2, .int .i64 a2_3] 32 (0, 0)) (by (with_reducible repeat (first | refine blk_drewN ?_ _ | refine blk_drew ?_ | refine blk_alloc ?_ _)); exact BK202.out) hb); have n1_ := Aside0.mk (below_step (by repeat (first | (with_reducible first | exact HB.out | apply below_alloc | apply pw_below_drewN | apply below_drew1 | refine below_set ?_ GE202.out) | exact HB.out)) hb); clear BK202; clear HB; have BK202 := n0_; have HB := n1_; clear n0_ n1_; (try clear hb); (try clear hb2); (try clear hk); (try clear hi)) | ((with_reducible refine gate_callee (f := 21) rfl ?_); refine goesL_ (some 19) rfl rfl Try.func21 (by kernel_rfl) rfl #[.string t204] rfl (by (try simp only [List.map_toArray, List.map_cons, List.map_nil]); first | done | rfl | (simp only [List.length_drop, List.length_take]; rfl)) ?_; (with_reducible refine (wire_NewReader.calls t204 t205 t206 t207 w _ ?side1 A9.out).mono ?_); (case side1 => repeat (first | (with_reducible first | exact HB.out | apply below_alloc | apply pw_below_drewN | apply below_drew1 | refine below_set ?_ GE202.out) | exact HB.out)); rintro e w15 ⟨g208, rfl, hi, hb, hb2⟩; refine ⟨_, rfl, ?_⟩; have n0_ := Aside0.mk (blk_below (g := gb202) (o := .cells #[.int .u8 a2_0, .int .i64 a2_1, .int .i64 a2_2, .int .i64 a2_3] 32 (0, 0)) (by (with_reducible repeat (first | refine blk_drewN ?_ _ | refine blk_drew ?_ | refine blk_alloc ?_ _)); exact BK202.out) hb2); have n1_ := Aside0.mk (hb); have n2_ := Aside0.mk (hi); have n3_ := Aside0.mk (IsS73.ne_blk hi (blk_below (g := gb202) (o := .cells #[.int .u8 a2_0, .int .i64 a2_1, .int .i64 a2_2, .int .i64 a2_3] 32 (0, 0)) (by (with_reducible repeat (first | refine blk_drewN ?_ _ | refine blk_drew ?_ | refine blk_alloc ?_ _)); exact BK202.out) hb2) (by decide)); have n4_ := Aside0.mk (Ne.symm (IsS73.ne_blk hi (blk_below (g := gb202) (o := .cells #[.int .u8 a2_0, .int .i64 a2_1, .int .i64 a2_2, .int .i64 a2_3] 32 (0, 0)) (by (with_reducible repeat (first | refine blk_drewN ?_ _ | refine blk_drew ?_ | refine blk_alloc ?_ _)); exact BK202.out) hb2) (by decide))); clear BK202; clear HB; have BK202 := n0_; have HB := n1_; have HI208 := n2_; have NB208_202 := n3_; have NB202_208 := n4_; clear n0_ n1_ n2_ n3_ n4_; (try clear hb); (try clear hb2); (try clear hk); (try clear hi); have hnb16 := NB202_208.out; have hnc16 := NB208_202.out; have hcz17_0 : w15.cell? ⟨gb202, 0, none⟩ = some (.int .u8 a2_0) := (blk_cell BK202.out 0).trans rfl; have hcz17_1 : w15.cell? ⟨gb202, 1, none⟩ = some (.int .i64 a2_1) := (blk_cell BK202.out 1).trans rfl; have hcz17_2 : w15.cell? ⟨gb202, 2, none⟩ = some (.int .i64 a2_2) := (blk_cell BK202.out 2).trans rfl; have hcz17_3 : w15.cell? ⟨gb202, 3, none⟩ = some (.int .i64 a2_3) := (blk_cell BK202.out 3).trans rfl; have hfz17_0 := blk_frozen BK202.out 0; have hfz17_1 := blk_frozen BK202.out 1; have hfz17_2 := blk_frozen BK202.out 2; have hfz17_3 := blk_frozen BK202.out 3) | ((with_reducible refine gate_callee (f := 22) rfl ?_); refine goesL_ (some 25) rfl rfl Try.func22 (by kernel_rfl) rfl #[.pointer (some ⟨g208, 0, none⟩), .int .i64 a2_1, .int .i64 a2_2] rfl (by (try simp only [List.map_toArray, List.map_cons, List.map_nil]); first | done | rfl | (simp only [List.length_drop, List.length_take]; rfl)) ?_; (with_reducible refine (wire_Reader_Int.calls k g208 t205 t206 t207 a2_1 a2_2 t209 t210 t211 t212 w _ ?side1 ?side2 A10.out).mono ?_); (case side1 => repeat (first | (with_reducible first | exact HI208.out | apply IsS73.alloc | apply IsS73.drewN | apply IsS73.drew | apply IsS73.set_0 | apply IsS73.set_1 | apply IsS73.set_2 | refine IsS73.far ?_ NB208_202.out _) | exact HI208.out)); (case side2 => repeat (first | (with_reducible first | exact HB.out | apply below_alloc | apply pw_below_drewN | apply below_drew1 | refine below_set ?_ (IsS73.ge HI208.out) | refine below_set ?_ GE202.out) | exact HB.out)); rintro e w18 ⟨rfl, hi, hb, hk⟩; refine ⟨_, rfl, ?_⟩; have n0_ := Aside0.mk (KeepBut.blk hk (g' := gb202) (o := .cells #[.int .u8 a2_0, .int .i64 a2_1, .int .i64 a2_2, .int .i64 a2_3] 32 (0, 0)) (by (with_reducible repeat (first | refine blk_drewN ?_ _ | refine blk_drew ?_ | refine blk_alloc ?_ _)); exact BK202.out) NB202_208.out (by simp)); have n1_ := Aside0.mk (hb); have n2_ := Aside0.mk (hi); clear BK202; clear HB; clear HI208; have BK202 := n0_; have HB := n1_; have HI208 := n2_; clear n0_ n1_ n2_; (try clear hb); (try clear hb2); (try clear hk); (try clear hi)) | ((with_reducible refine gate_callee (f := 23) rfl ?_); refine goesL_ (some 27) rfl rfl Try.func23 (by kernel_rfl) rfl #[.pointer (some ⟨g208, 0, none⟩)] rfl (by (try simp only [List.map_toArray, List.map_cons, List.map_nil]); first | done | rfl | (simp only [List.length_drop, List.length_take]; rfl)) ?_; (with_reducible refine (wire_Reader_End.calls g208 t210 t211 t212 t213 t214 t215 t216 w _ ?side1 ?side2 A11.out).mono ?_); (case side1 => repeat (first | (with_reducible first | exact HI208.out | apply IsS73.alloc | apply IsS73.drewN | apply IsS73.drew | apply IsS73.set_0 | apply IsS73.set_1 | apply IsS73.set_2 | refine IsS73.far ?_ NB208_202.out _) | exact HI208.out)); (case side2 => repeat (first | (with_reducible first | exact HB.out | apply below_alloc | apply pw_below_drewN | apply below_drew1 | refine below_set ?_ (IsS73.ge HI208.out) | refine below_set ?_ GE202.out) | exact HB.out)); rintro e w19 ⟨rfl, hi, hb, hk⟩; refine ⟨_, rfl, ?_⟩; have n0_ := Aside0.mk (KeepBut.blk hk (g' := gb202) (o := .cells #[.int .u8 a2_0, .int .i64 a2_1, .int .i64 a2_2, .int .i64 a2_3] 32 (0, 0)) (by (with_reducible repeat (first | refine blk_drewN ?_ _ | refine blk_drew ?_ | refine blk_alloc ?_ _)); exact BK202.out) NB202_208.out (by simp)); have n1_ := Aside0.mk (hb); have n2_ := Aside0.mk (hi); clear BK202; clear HB; clear HI208; have BK202 := n0_; have HB := n1_; have HI208 := n2_; clear n0_ n1_ n2_; (try clear hb); (try clear hb2); (try clear hk); (try clear hi)))
    (try simp only [Act.put, List.setIfInBounds_toArray, List.set_cons_zero, List.set_cons_succ])
    go_cut [37] (fun v37 wc => ∃ (kq : Nat) (x37_11 : Bool), v37 = .bool x37_11 ∧ Aside0 (sawmilllaw05_WireRanges.j0 kq a0 a1 t209 t213 x37_11 a2_0 a2_1 a2_2 a2_3 t214 t215 t216 = some r) ∧ Aside0 (kq ≤ k) ∧ Aside0 (wc.heap[gb202]? = some (.cells #[.int .u8 a2_0, .int .i64 a2_1, .int .i64 a2_2, .int .i64 a2_3] 32 (0, 0))) ∧ Aside0 (IsS73 w wc g208 t214 t215 t216) ∧ Aside0 (Below w.heap.size w wc))
    case first =>
      have H := HC12.out
      clear HC12
      by_cases c20 : a0 ≥ a2_1
      · rw [if_pos c20] at H
        have c20b0 : decide (a2_1 ≤ a0) = true := decide_eq_true c20
        clear c20
        (first | rw [c20b0] | (simp only [i64_w, i32_w]; rw [c20b0]) | skip)
        have H' := Aside0.mk H
        clear H
        have hnb21 := NB202_208.out
        have hnc21 := NB208_202.out
        have hcz22_0 : w19.cell? ⟨gb202, 0, none⟩ = some (.int .u8 a2_0) := (blk_cell BK202.out 0).trans rfl
        have hcz22_1 : w19.cell? ⟨gb202, 1, none⟩ = some (.int .i64 a2_1) := (blk_cell BK202.out 1).trans rfl
        have hcz22_2 : w19.cell? ⟨gb202, 2, none⟩ = some (.int .i64 a2_2) := (blk_cell BK202.out 2).trans rfl
        have hcz22_3 : w19.cell? ⟨gb202, 3, none⟩ = some (.int .i64 a2_3) := (blk_cell BK202.out 3).trans rfl
        have hfz22_0 := blk_frozen BK202.out 0
        have hfz22_1 := blk_frozen BK202.out 1
        have hfz22_2 := blk_frozen BK202.out 2
        have hfz22_3 := blk_frozen BK202.out 3
        go_wp2
        go_meet
        case rel => exact ⟨_, (decide (a0 ≤ a2_2)), (by first | rfl | (simp; done) | (simp [*]; done)), H', ⟨by first | omega | exact Nat.le_refl _⟩, ⟨by (with_reducible repeat (first | refine blk_drewN ?_ _ | refine blk_drew ?_ | refine blk_alloc ?_ _)); exact BK202.out⟩, ⟨by repeat (first | (with_reducible first | exact HI208.out | apply IsS73.alloc | apply IsS73.drewN | apply IsS73.drew | apply IsS73.set_0 | apply IsS73.set_1 | apply IsS73.set_2 | refine IsS73.far ?_ NB208_202.out _) | exact HI208.out)⟩, ⟨by repeat (first | (with_reducible first | exact HB.out | apply below_alloc | apply pw_below_drewN | apply below_drew1 | refine below_set ?_ (IsS73.ge HI208.out) | refine below_set ?_ GE202.out) | exact HB.out)⟩⟩
      · rw [if_neg c20] at H
        have c20b0 : decide (a2_1 ≤ a0) = false := decide_eq_false c20
        clear c20
        (first | rw [c20b0] | (simp only [i64_w, i32_w]; rw [c20b0]) | skip)
        have H' := Aside0.mk H
        clear H
        have hnb23 := NB202_208.out
        have hnc23 := NB208_202.out
        have hcz24_0 : w19.cell? ⟨gb202, 0, none⟩ = some (.int .u8 a2_0) := (blk_cell BK202.out 0).trans rfl
        have hcz24_1 : w19.cell? ⟨gb202, 1, none⟩ = some (.int .i64 a2_1) := (blk_cell BK202.out 1).trans rfl
        have hcz24_2 : w19.cell? ⟨gb202, 2, none⟩ = some (.int .i64 a2_2) := (blk_cell BK202.out 2).trans rfl
        have hcz24_3 : w19.cell? ⟨gb202, 3, none⟩ = some (.int .i64 a2_3) := (blk_cell BK202.out 3).trans rfl
        have hfz24_0 := blk_frozen BK202.out 0
        have hfz24_1 := blk_frozen BK202.out 1
        have hfz24_2 := blk_frozen BK202.out 2
        have hfz24_3 := blk_frozen BK202.out 3
        go_wp2
        go_meet
        case rel => exact ⟨_, (false), (by first | rfl | (simp; done) | (simp [*]; done)), H', ⟨by first | omega | exact Nat.le_refl _⟩, ⟨by (with_reducible repeat (first | refine blk_drewN ?_ _ | refine blk_drew ?_ | refine blk_alloc ?_ _)); exact BK202.out⟩, ⟨by repeat (first | (with_reducible first | exact HI208.out | apply IsS73.alloc | apply IsS73.drewN | apply IsS73.drew | apply IsS73.set_0 | apply IsS73.set_1 | apply IsS73.set_2 | refine IsS73.far ?_ NB208_202.out _) | exact HI208.out)⟩, ⟨by repeat (first | (with_reducible first | exact HB.out | apply below_alloc | apply pw_below_drewN | apply below_drew1 | refine below_set ?_ (IsS73.ge HI208.out) | refine below_set ?_ GE202.out) | exact HB.out)⟩⟩
    case rest =>
      clear HC12
      try clear c1
      try clear c2
      try clear p2
      try clear c4
      try clear c4b0
      try clear c4b1
      try clear c5
      try clear c14
      try clear c16
      try clear c20
      try clear c20b0
      try clear c21
      try clear c22
      try clear c23
      try clear hcz17_0
      try clear hcz17_1
      try clear hcz17_2
      try clear hcz17_3
      try clear hcz22_0
      try clear hcz22_1
      try clear hcz22_2
      try clear hcz22_3
      try clear hcz24_0
      try clear hcz24_1
      try clear hcz24_2
      try clear hcz24_3
      try clear hfz17_0
      try clear hfz17_1
      try clear hfz17_2
      try clear hfz17_3
      try clear hfz22_0
      try clear hfz22_1
      try clear hfz22_2
      try clear hfz22_3
      try clear hfz24_0
      try clear hfz24_1
      try clear hfz24_2
      try clear hfz24_3
      obtain ⟨kq, x37_11, rfl, HA, HJ11, BK202, HI208, HB⟩ := hcut
      cases kq with
      | zero => exact absurd HA.out (by simp [sawmilllaw05_WireRanges.j0])
      | succ kj11 =>
        have H := HA.out
        clear HA
        simp only [sawmilllaw05_WireRanges.j0] at H
        have HC25 := Aside0.mk H
        clear H
        go_upto_if 37 with (fail)
        go_cut [] (fun wc => ∃ (kq : Nat), Aside0 (sawmilllaw05_WireRanges.j1 kq a1 a2_0 a2_1 a2_2 a2_3 = some r) ∧ Aside0 (kq ≤ kj11) ∧ Aside0 (wc.heap[gb202]? = some (.cells #[.int .u8 a2_0, .int .i64 a2_1, .int .i64 a2_2, .int .i64 a2_3] 32 (0, 0))) ∧ Aside0 (Below w.heap.size w wc))
        case first =>
          have H := HC25.out
          clear HC25
          by_cases c26 : x37_11 = true
          · subst c26
            have H1 : (if t209 = a0 then (if t213 = 0 then (sawmilllaw05_WireRanges.j1 kj11 a1 a2_0 a2_1 a2_2 a2_3) else (some false)) else (some false)) = some r := by rw [if_pos rfl] at H; exact H
            clear H
            have H := H1
            clear H1
            by_cases c27 : t209 = a0
            · rw [if_pos c27] at H
              have c27b0 : (t209 == a0) = true := beq_iff_eq.mpr c27
              have c27b1 : (t209 != a0) = false := bne_eq_false_iff_eq.mpr c27
              clear c27
              (first | rw [c27b0] | (simp only [i64_w, i32_w]; rw [c27b0]) | skip)
              by_cases c28 : t213 = 0
              · rw [if_pos c28] at H
                have c28b0 : (t213 == 0) = true := beq_iff_eq.mpr c28
                have c28b1 : (t213 != 0) = false := bne_eq_false_iff_eq.mpr c28
                clear c28
                have H' := Aside0.mk H
                clear H
                go_wp2
                go_meet
                case rel => exact ⟨_, H', ⟨by have := HJ11.out; first | omega | exact Nat.le_refl _⟩, ⟨by (with_reducible repeat (first | refine blk_drewN ?_ _ | refine blk_drew ?_ | refine blk_alloc ?_ _)); exact BK202.out⟩, ⟨by repeat (first | (with_reducible first | exact HB.out | apply below_alloc | apply pw_below_drewN | apply below_drew1 | refine below_set ?_ (IsS73.ge HI208.out) | refine below_set ?_ GE202.out) | exact HB.out)⟩⟩
              · rw [if_neg c28] at H
                have c28b0 : (t213 == 0) = false := beq_eq_false_iff_ne.mpr c28
                have c28b1 : (t213 != 0) = true := bne_iff_ne.mpr c28
                obtain rfl := Option.some.inj H
                go_wp2
                go_ret
                exact ⟨by first | rfl | (simp [errW_none, errW_some] <;> rfl) | (simp [*, errW_none, errW_some] <;> rfl), by repeat (first | (with_reducible first | exact HB.out | apply below_alloc | apply pw_below_drewN | apply below_drew1 | refine below_set ?_ (IsS73.ge HI208.out) | refine below_set ?_ GE202.out) | exact HB.out)⟩
            · rw [if_neg c27] at H
              have c27b0 : (t209 == a0) = false := beq_eq_false_iff_ne.mpr c27
              have c27b1 : (t209 != a0) = true := bne_iff_ne.mpr c27
              (first | rw [c27b0] | (simp only [i64_w, i32_w]; rw [c27b0]) | skip)
              obtain rfl := Option.some.inj H
              go_wp2
              go_ret
              exact ⟨by first | rfl | (simp [errW_none, errW_some] <;> rfl) | (simp [*, errW_none, errW_some] <;> rfl), by repeat (first | (with_reducible first | exact HB.out | apply below_alloc | apply pw_below_drewN | apply below_drew1 | refine below_set ?_ (IsS73.ge HI208.out) | refine below_set ?_ GE202.out) | exact HB.out)⟩
          · replace c26 := Bool.eq_false_iff.mpr c26
            subst c26
            have H1 : (if t209 = 0 then (if t213 = 9 then ((wire_Reader_Left.f t214 t215 t216).bind fun bt217 => (if bt217.1 = 0 then (some false) else (sawmilllaw05_WireRanges.j1 kj11 a1 a2_0 a2_1 a2_2 a2_3))) else (some false)) else (some false)) = some r := by rw [if_neg (show ¬ (false = true) by decide)] at H; exact H
            clear H
            have H := H1
            clear H1
            by_cases c29 : t209 = 0
            · rw [if_pos c29] at H
              have c29b0 : (t209 == 0) = true := beq_iff_eq.mpr c29
              have c29b1 : (t209 != 0) = false := bne_eq_false_iff_eq.mpr c29
              clear c29
              by_cases c30 : t213 = 9
              · rw [if_pos c30] at H
                have c30b0 : (t213 == 9) = true := beq_iff_eq.mpr c30
                have c30b1 : (t213 != 9) = false := bne_eq_false_iff_eq.mpr c30
                clear c30
                replace H := Option.bind_eq_some_iff.mp H
                obtain ⟨⟨t217, t218, t219, t220⟩, A310, H⟩ := H
                replace H : (if t217 = 0 then (some false) else (sawmilllaw05_WireRanges.j1 kj11 a1 a2_0 a2_1 a2_2 a2_3)) = some r := H
                have A31 := Aside0.mk A310
                clear A310
                by_cases c32 : t217 = 0
                · rw [if_pos c32] at H
                  have c32b0 : (t217 == 0) = true := beq_iff_eq.mpr c32
                  have c32b1 : (t217 != 0) = false := bne_eq_false_iff_eq.mpr c32
                  clear c32
                  obtain rfl := Option.some.inj H
                  go_wp2_with (first | (go_at_call 24; (with_reducible refine (wire_Reader_Left.calls g208 t214 t215 t216 t217 t218 t219 t220 w _ ?side1 ?side2 A31.out).mono ?_); (case side1 => repeat (first | (with_reducible first | exact HI208.out | apply IsS73.alloc | apply IsS73.drewN | apply IsS73.drew | apply IsS73.set_0 | apply IsS73.set_1 | apply IsS73.set_2 | refine IsS73.far ?_ NB208_202.out _) | exact HI208.out)); (case side2 => repeat (first | (with_reducible first | exact HB.out | apply below_alloc | apply pw_below_drewN | apply below_drew1 | refine below_set ?_ (IsS73.ge HI208.out) | refine below_set ?_ GE202.out) | exact HB.out)); rintro e w33 ⟨rfl, hi, hb, hk⟩; have n0_ := Aside0.mk (KeepBut.blk hk (g' := gb202) (o := .cells #[.int .u8 a2_0, .int .i64 a2_1, .int .i64 a2_2, .int .i64 a2_3] 32 (0, 0)) (by (with_reducible repeat (first | refine blk_drewN ?_ _ | refine blk_drew ?_ | refine blk_alloc ?_ _)); exact BK202.out) NB202_208.out (by simp)); have n1_ := Aside0.mk (hb); have n2_ := Aside0.mk (hi); clear BK202; clear HB; clear HI208; have BK202 := n0_; have HB := n1_; have HI208 := n2_; clear n0_ n1_ n2_; (try clear hb); (try clear hb2); (try clear hk); (try clear hi)))
                  go_ret
                  exact ⟨by first | rfl | (simp [errW_none, errW_some] <;> rfl) | (simp [*, errW_none, errW_some] <;> rfl), by repeat (first | (with_reducible first | exact HB.out | apply below_alloc | apply pw_below_drewN | apply below_drew1 | refine below_set ?_ (IsS73.ge HI208.out) | refine below_set ?_ GE202.out) | exact HB.out)⟩
                · rw [if_neg c32] at H
                  have c32b0 : (t217 == 0) = false := beq_eq_false_iff_ne.mpr c32
                  have c32b1 : (t217 != 0) = true := bne_iff_ne.mpr c32
                  have H' := Aside0.mk H
                  clear H
                  go_wp2_with (first | (go_at_call 24; (with_reducible refine (wire_Reader_Left.calls g208 t214 t215 t216 t217 t218 t219 t220 w _ ?side1 ?side2 A31.out).mono ?_); (case side1 => repeat (first | (with_reducible first | exact HI208.out | apply IsS73.alloc | apply IsS73.drewN | apply IsS73.drew | apply IsS73.set_0 | apply IsS73.set_1 | apply IsS73.set_2 | refine IsS73.far ?_ NB208_202.out _) | exact HI208.out)); (case side2 => repeat (first | (with_reducible first | exact HB.out | apply below_alloc | apply pw_below_drewN | apply below_drew1 | refine below_set ?_ (IsS73.ge HI208.out) | refine below_set ?_ GE202.out) | exact HB.out)); rintro e w34 ⟨rfl, hi, hb, hk⟩; have n0_ := Aside0.mk (KeepBut.blk hk (g' := gb202) (o := .cells #[.int .u8 a2_0, .int .i64 a2_1, .int .i64 a2_2, .int .i64 a2_3] 32 (0, 0)) (by (with_reducible repeat (first | refine blk_drewN ?_ _ | refine blk_drew ?_ | refine blk_alloc ?_ _)); exact BK202.out) NB202_208.out (by simp)); have n1_ := Aside0.mk (hb); have n2_ := Aside0.mk (hi); clear BK202; clear HB; clear HI208; have BK202 := n0_; have HB := n1_; have HI208 := n2_; clear n0_ n1_ n2_; (try clear hb); (try clear hb2); (try clear hk); (try clear hi)))
                  go_meet
                  case rel => exact ⟨_, H', ⟨by have := HJ11.out; first | omega | exact Nat.le_refl _⟩, ⟨by (with_reducible repeat (first | refine blk_drewN ?_ _ | refine blk_drew ?_ | refine blk_alloc ?_ _)); exact BK202.out⟩, ⟨by repeat (first | (with_reducible first | exact HB.out | apply below_alloc | apply pw_below_drewN | apply below_drew1 | refine below_set ?_ (IsS73.ge HI208.out) | refine below_set ?_ GE202.out) | exact HB.out)⟩⟩
              · rw [if_neg c30] at H
                have c30b0 : (t213 == 9) = false := beq_eq_false_iff_ne.mpr c30
                have c30b1 : (t213 != 9) = true := bne_iff_ne.mpr c30
                obtain rfl := Option.some.inj H
                go_wp2
                go_ret
                exact ⟨by first | rfl | (simp [errW_none, errW_some] <;> rfl) | (simp [*, errW_none, errW_some] <;> rfl), by repeat (first | (with_reducible first | exact HB.out | apply below_alloc | apply pw_below_drewN | apply below_drew1 | refine below_set ?_ (IsS73.ge HI208.out) | refine below_set ?_ GE202.out) | exact HB.out)⟩
            · rw [if_neg c29] at H
              have c29b0 : (t209 == 0) = false := beq_eq_false_iff_ne.mpr c29
              have c29b1 : (t209 != 0) = true := bne_iff_ne.mpr c29
              obtain rfl := Option.some.inj H
              go_wp2
              go_ret
              exact ⟨by first | rfl | (simp [errW_none, errW_some] <;> rfl) | (simp [*, errW_none, errW_some] <;> rfl), by repeat (first | (with_reducible first | exact HB.out | apply below_alloc | apply pw_below_drewN | apply below_drew1 | refine below_set ?_ (IsS73.ge HI208.out) | refine below_set ?_ GE202.out) | exact HB.out)⟩
        case rest =>
          clear HC25
          try clear c1
          try clear c2
          try clear p2
          try clear c3
          try clear c4
          try clear c4b0
          try clear c4b1
          try clear c5
          try clear c14
          try clear c16
          try clear c20
          try clear c20b0
          try clear c21
          try clear c22
          try clear c23
          try clear c26
          try clear c27
          try clear c27b0
          try clear c27b1
          try clear c28
          try clear c28b0
          try clear c28b1
          try clear c29
          try clear c29b0
          try clear c29b1
          try clear c30
          try clear c30b0
          try clear c30b1
          try clear c32
          try clear c32b0
          try clear c32b1
          try clear hcz17_0
          try clear hcz17_1
          try clear hcz17_2
          try clear hcz17_3
          try clear hcz22_0
          try clear hcz22_1
          try clear hcz22_2
          try clear hcz22_3
          try clear hcz24_0
          try clear hcz24_1
          try clear hcz24_2
          try clear hcz24_3
          try clear hfz17_0
          try clear hfz17_1
          try clear hfz17_2
          try clear hfz17_3
          try clear hfz22_0
          try clear hfz22_1
          try clear hfz22_2
          try clear hfz22_3
          try clear hfz24_0
          try clear hfz24_1
          try clear hfz24_2
          try clear hfz24_3
          try clear p2
          obtain ⟨kq, HA, HJ24, BK202, HB⟩ := hcut
          cases kq with
          | zero => exact absurd HA.out (by simp [sawmilllaw05_WireRanges.j1])
          | succ kj24 =>
            have H := HA.out
            clear HA
            simp only [sawmilllaw05_WireRanges.j1] at H
            replace H := Option.bind_eq_some_iff.mp H
            obtain ⟨t221, A350, H⟩ := H
            replace H : ((wire_NewReader.f t221).bind fun bt222 => ((wire_Reader_Text.f kj24 bt222.1 bt222.2.1 bt222.2.2 a2_3).bind fun bt226 => ((wire_Reader_End.f bt226.2.1 bt226.2.2.1 bt226.2.2.2).bind fun bt230 => (if (a1.size : Int) ≤ a2_3 then (if bt226.1.toList = a1.toList then (if bt230.1 = 0 then ((sawmilllaw05_awake.f).bind fun t234 => (some t234)) else (some false)) else (some false)) else (if bt226.1.toList = ([] : List UInt8) then (if bt230.1 = 4 then ((sawmilllaw05_awake.f).bind fun t235 => (some t235)) else (some false)) else (some false)))))) = some r := H
            have A35 := Aside0.mk A350
            clear A350
            replace H := Option.bind_eq_some_iff.mp H
            obtain ⟨⟨t222, t223, t224⟩, A360, H⟩ := H
            replace H : ((wire_Reader_Text.f kj24 t222 t223 t224 a2_3).bind fun bt226 => ((wire_Reader_End.f bt226.2.1 bt226.2.2.1 bt226.2.2.2).bind fun bt230 => (if (a1.size : Int) ≤ a2_3 then (if bt226.1.toList = a1.toList then (if bt230.1 = 0 then ((sawmilllaw05_awake.f).bind fun t234 => (some t234)) else (some false)) else (some false)) else (if bt226.1.toList = ([] : List UInt8) then (if bt230.1 = 4 then ((sawmilllaw05_awake.f).bind fun t235 => (some t235)) else (some false)) else (some false))))) = some r := H
            have A36 := Aside0.mk A360
            clear A360
            replace H := Option.bind_eq_some_iff.mp H
            obtain ⟨⟨t226, t227, t228, t229⟩, A370, H⟩ := H
            replace H : ((wire_Reader_End.f t227 t228 t229).bind fun bt230 => (if (a1.size : Int) ≤ a2_3 then (if t226.toList = a1.toList then (if bt230.1 = 0 then ((sawmilllaw05_awake.f).bind fun t234 => (some t234)) else (some false)) else (some false)) else (if t226.toList = ([] : List UInt8) then (if bt230.1 = 4 then ((sawmilllaw05_awake.f).bind fun t235 => (some t235)) else (some false)) else (some false)))) = some r := H
            have A37 := Aside0.mk A370
            clear A370
            replace H := Option.bind_eq_some_iff.mp H
            obtain ⟨⟨t230, t231, t232, t233⟩, A380, H⟩ := H
            replace H : (if (a1.size : Int) ≤ a2_3 then (if t226.toList = a1.toList then (if t230 = 0 then ((sawmilllaw05_awake.f).bind fun t234 => (some t234)) else (some false)) else (some false)) else (if t226.toList = ([] : List UInt8) then (if t230 = 4 then ((sawmilllaw05_awake.f).bind fun t235 => (some t235)) else (some false)) else (some false))) = some r := H
            have A38 := Aside0.mk A380
            clear A380
            by_cases c39 : (a1.size : Int) ≤ a2_3
            · rw [if_pos c39] at H
              have c39b0 : decide ((a1.size : Int) ≤ a2_3) = true := decide_eq_true c39
              clear c39
              by_cases c40 : t226.toList = a1.toList
              · rw [if_pos c40] at H
                have c40b0 : (t226.toList == a1.toList) = true := beq_iff_eq.mpr c40
                have c40b1 : (t226.toList != a1.toList) = false := bne_eq_false_iff_eq.mpr c40
                clear c40
                by_cases c41 : t230 = 0
                · rw [if_pos c41] at H
                  have c41b0 : (t230 == 0) = true := beq_iff_eq.mpr c41
                  have c41b1 : (t230 != 0) = false := bne_eq_false_iff_eq.mpr c41
                  clear c41
                  replace H := Option.bind_eq_some_iff.mp H
                  obtain ⟨t234, A420, H⟩ := H
                  replace H : (some t234) = some r := H
                  have A42 := Aside0.mk A420
                  clear A420
                  obtain rfl := Option.some.inj H
                  go_wp2_with (first | ((with_reducible refine gate_callee (f := 17) rfl ?_); refine goesL_ (some 57) rfl rfl Try.func17 (by kernel_rfl) rfl #[.string a1] rfl (by (try simp only [List.map_toArray, List.map_cons, List.map_nil]); first | done | rfl | (simp only [List.length_drop, List.length_take]; rfl)) ?_; (with_reducible refine (wire_Text.calls kj24 a1 t221 _ A35.out).mono ?_); rintro e w43 ⟨rfl, hb⟩; refine ⟨_, rfl, ?_⟩; have n0_ := Aside0.mk (blk_below (g := gb202) (o := .cells #[.int .u8 a2_0, .int .i64 a2_1, .int .i64 a2_2, .int .i64 a2_3] 32 (0, 0)) (by (with_reducible repeat (first | refine blk_drewN ?_ _ | refine blk_drew ?_ | refine blk_alloc ?_ _)); exact BK202.out) hb); have n1_ := Aside0.mk (below_step (by repeat (first | (with_reducible first | exact HB.out | apply below_alloc | apply pw_below_drewN | apply below_drew1 | refine below_set ?_ GE202.out) | exact HB.out)) hb); clear BK202; clear HB; have BK202 := n0_; have HB := n1_; clear n0_ n1_; (try clear hb); (try clear hb2); (try clear hk); (try clear hi)) | ((with_reducible refine gate_callee (f := 21) rfl ?_); refine goesL_ (some 58) rfl rfl Try.func21 (by kernel_rfl) rfl #[.string t221] rfl (by (try simp only [List.map_toArray, List.map_cons, List.map_nil]); first | done | rfl | (simp only [List.length_drop, List.length_take]; rfl)) ?_; (with_reducible refine (wire_NewReader.calls t221 t222 t223 t224 w _ ?side1 A36.out).mono ?_); (case side1 => repeat (first | (with_reducible first | exact HB.out | apply below_alloc | apply pw_below_drewN | apply below_drew1 | refine below_set ?_ GE202.out) | exact HB.out)); rintro e w44 ⟨g225, rfl, hi, hb, hb2⟩; refine ⟨_, rfl, ?_⟩; have n0_ := Aside0.mk (blk_below (g := gb202) (o := .cells #[.int .u8 a2_0, .int .i64 a2_1, .int .i64 a2_2, .int .i64 a2_3] 32 (0, 0)) (by (with_reducible repeat (first | refine blk_drewN ?_ _ | refine blk_drew ?_ | refine blk_alloc ?_ _)); exact BK202.out) hb2); have n1_ := Aside0.mk (hb); have n2_ := Aside0.mk (hi); have n3_ := Aside0.mk (IsS73.ne_blk hi (blk_below (g := gb202) (o := .cells #[.int .u8 a2_0, .int .i64 a2_1, .int .i64 a2_2, .int .i64 a2_3] 32 (0, 0)) (by (with_reducible repeat (first | refine blk_drewN ?_ _ | refine blk_drew ?_ | refine blk_alloc ?_ _)); exact BK202.out) hb2) (by decide)); have n4_ := Aside0.mk (Ne.symm (IsS73.ne_blk hi (blk_below (g := gb202) (o := .cells #[.int .u8 a2_0, .int .i64 a2_1, .int .i64 a2_2, .int .i64 a2_3] 32 (0, 0)) (by (with_reducible repeat (first | refine blk_drewN ?_ _ | refine blk_drew ?_ | refine blk_alloc ?_ _)); exact BK202.out) hb2) (by decide))); clear BK202; clear HB; have BK202 := n0_; have HB := n1_; have HI225 := n2_; have NB225_202 := n3_; have NB202_225 := n4_; clear n0_ n1_ n2_ n3_ n4_; (try clear hb); (try clear hb2); (try clear hk); (try clear hi); have hnb45 := NB202_225.out; have hnc45 := NB225_202.out; have hcz46_0 : w44.cell? ⟨gb202, 0, none⟩ = some (.int .u8 a2_0) := (blk_cell BK202.out 0).trans rfl; have hcz46_1 : w44.cell? ⟨gb202, 1, none⟩ = some (.int .i64 a2_1) := (blk_cell BK202.out 1).trans rfl; have hcz46_2 : w44.cell? ⟨gb202, 2, none⟩ = some (.int .i64 a2_2) := (blk_cell BK202.out 2).trans rfl; have hcz46_3 : w44.cell? ⟨gb202, 3, none⟩ = some (.int .i64 a2_3) := (blk_cell BK202.out 3).trans rfl; have hfz46_0 := blk_frozen BK202.out 0; have hfz46_1 := blk_frozen BK202.out 1; have hfz46_2 := blk_frozen BK202.out 2; have hfz46_3 := blk_frozen BK202.out 3) | ((with_reducible refine gate_callee (f := 25) rfl ?_); refine goesL_ (some 62) rfl rfl Try.func25 (by kernel_rfl) rfl #[.pointer (some ⟨g225, 0, none⟩), .int .i64 a2_3] rfl (by (try simp only [List.map_toArray, List.map_cons, List.map_nil]); first | done | rfl | (simp only [List.length_drop, List.length_take]; rfl)) ?_; (with_reducible refine (wire_Reader_Text.calls kj24 g225 t222 t223 t224 a2_3 t226 t227 t228 t229 w _ ?side1 ?side2 A37.out).mono ?_); (case side1 => repeat (first | (with_reducible first | exact HI225.out | apply IsS73.alloc | apply IsS73.drewN | apply IsS73.drew | apply IsS73.set_0 | apply IsS73.set_1 | apply IsS73.set_2 | refine IsS73.far ?_ NB225_202.out _) | exact HI225.out)); (case side2 => repeat (first | (with_reducible first | exact HB.out | apply below_alloc | apply pw_below_drewN | apply below_drew1 | refine below_set ?_ (IsS73.ge HI225.out) | refine below_set ?_ GE202.out) | exact HB.out)); rintro e w47 ⟨rfl, hi, hb, hk⟩; refine ⟨_, rfl, ?_⟩; have n0_ := Aside0.mk (KeepBut.blk hk (g' := gb202) (o := .cells #[.int .u8 a2_0, .int .i64 a2_1, .int .i64 a2_2, .int .i64 a2_3] 32 (0, 0)) (by (with_reducible repeat (first | refine blk_drewN ?_ _ | refine blk_drew ?_ | refine blk_alloc ?_ _)); exact BK202.out) NB202_225.out (by simp)); have n1_ := Aside0.mk (hb); have n2_ := Aside0.mk (hi); clear BK202; clear HB; clear HI225; have BK202 := n0_; have HB := n1_; have HI225 := n2_; clear n0_ n1_ n2_; (try clear hb); (try clear hb2); (try clear hk); (try clear hi)) | ((with_reducible refine gate_callee (f := 23) rfl ?_); refine goesL_ (some 64) rfl rfl Try.func23 (by kernel_rfl) rfl #[.pointer (some ⟨g225, 0, none⟩)] rfl (by (try simp only [List.map_toArray, List.map_cons, List.map_nil]); first | done | rfl | (simp only [List.length_drop, List.length_take]; rfl)) ?_; (with_reducible refine (wire_Reader_End.calls g225 t227 t228 t229 t230 t231 t232 t233 w _ ?side1 ?side2 A38.out).mono ?_); (case side1 => repeat (first | (with_reducible first | exact HI225.out | apply IsS73.alloc | apply IsS73.drewN | apply IsS73.drew | apply IsS73.set_0 | apply IsS73.set_1 | apply IsS73.set_2 | refine IsS73.far ?_ NB225_202.out _) | exact HI225.out)); (case side2 => repeat (first | (with_reducible first | exact HB.out | apply below_alloc | apply pw_below_drewN | apply below_drew1 | refine below_set ?_ (IsS73.ge HI225.out) | refine below_set ?_ GE202.out) | exact HB.out)); rintro e w48 ⟨rfl, hi, hb, hk⟩; refine ⟨_, rfl, ?_⟩; have n0_ := Aside0.mk (KeepBut.blk hk (g' := gb202) (o := .cells #[.int .u8 a2_0, .int .i64 a2_1, .int .i64 a2_2, .int .i64 a2_3] 32 (0, 0)) (by (with_reducible repeat (first | refine blk_drewN ?_ _ | refine blk_drew ?_ | refine blk_alloc ?_ _)); exact BK202.out) NB202_225.out (by simp)); have n1_ := Aside0.mk (hb); have n2_ := Aside0.mk (hi); clear BK202; clear HB; clear HI225; have BK202 := n0_; have HB := n1_; have HI225 := n2_; clear n0_ n1_ n2_; (try clear hb); (try clear hb2); (try clear hk); (try clear hi); have hcz49_0 : w48.cell? ⟨gb202, 0, none⟩ = some (.int .u8 a2_0) := (blk_cell BK202.out 0).trans rfl; have hcz49_1 : w48.cell? ⟨gb202, 1, none⟩ = some (.int .i64 a2_1) := (blk_cell BK202.out 1).trans rfl; have hcz49_2 : w48.cell? ⟨gb202, 2, none⟩ = some (.int .i64 a2_2) := (blk_cell BK202.out 2).trans rfl; have hcz49_3 : w48.cell? ⟨gb202, 3, none⟩ = some (.int .i64 a2_3) := (blk_cell BK202.out 3).trans rfl; have hfz49_0 := blk_frozen BK202.out 0; have hfz49_1 := blk_frozen BK202.out 1; have hfz49_2 := blk_frozen BK202.out 2; have hfz49_3 := blk_frozen BK202.out 3) | (go_at_call 16; (with_reducible refine (sawmilllaw05_awake.calls  t234 _ A42.out).mono ?_); rintro e w50 ⟨rfl, hb⟩; have n0_ := Aside0.mk (blk_below (g := gb202) (o := .cells #[.int .u8 a2_0, .int .i64 a2_1, .int .i64 a2_2, .int .i64 a2_3] 32 (0, 0)) (by (with_reducible repeat (first | refine blk_drewN ?_ _ | refine blk_drew ?_ | refine blk_alloc ?_ _)); exact BK202.out) hb); have n1_ := Aside0.mk (IsS73.below (by repeat (first | (with_reducible first | exact HI225.out | apply IsS73.alloc | apply IsS73.drewN | apply IsS73.drew | apply IsS73.set_0 | apply IsS73.set_1 | apply IsS73.set_2 | refine IsS73.far ?_ NB225_202.out _) | exact HI225.out)) hb); have n2_ := Aside0.mk (below_step (by repeat (first | (with_reducible first | exact HB.out | apply below_alloc | apply pw_below_drewN | apply below_drew1 | refine below_set ?_ (IsS73.ge HI225.out) | refine below_set ?_ GE202.out) | exact HB.out)) hb); clear BK202; clear HI225; clear HB; have BK202 := n0_; have HI225 := n1_; have HB := n2_; clear n0_ n1_ n2_; (try clear hb); (try clear hb2); (try clear hk); (try clear hi)))
                  go_ret
                  exact ⟨by first | rfl | (simp [errW_none, errW_some] <;> rfl) | (simp [*, errW_none, errW_some] <;> rfl), by repeat (first | (with_reducible first | exact HB.out | apply below_alloc | apply pw_below_drewN | apply below_drew1 | refine below_set ?_ (IsS73.ge HI225.out) | refine below_set ?_ GE202.out) | exact HB.out)⟩
                · rw [if_neg c41] at H
                  have c41b0 : (t230 == 0) = false := beq_eq_false_iff_ne.mpr c41
                  have c41b1 : (t230 != 0) = true := bne_iff_ne.mpr c41
                  obtain rfl := Option.some.inj H
                  go_wp2_with (first | ((with_reducible refine gate_callee (f := 17) rfl ?_); refine goesL_ (some 57) rfl rfl Try.func17 (by kernel_rfl) rfl #[.string a1] rfl (by (try simp only [List.map_toArray, List.map_cons, List.map_nil]); first | done | rfl | (simp only [List.length_drop, List.length_take]; rfl)) ?_; (with_reducible refine (wire_Text.calls kj24 a1 t221 _ A35.out).mono ?_); rintro e w51 ⟨rfl, hb⟩; refine ⟨_, rfl, ?_⟩; have n0_ := Aside0.mk (blk_below (g := gb202) (o := .cells #[.int .u8 a2_0, .int .i64 a2_1, .int .i64 a2_2, .int .i64 a2_3] 32 (0, 0)) (by (with_reducible repeat (first | refine blk_drewN ?_ _ | refine blk_drew ?_ | refine blk_alloc ?_ _)); exact BK202.out) hb); have n1_ := Aside0.mk (below_step (by repeat (first | (with_reducible first | exact HB.out | apply below_alloc | apply pw_below_drewN | apply below_drew1 | refine below_set ?_ GE202.out) | exact HB.out)) hb); clear BK202; clear HB; have BK202 := n0_; have HB := n1_; clear n0_ n1_; (try clear hb); (try clear hb2); (try clear hk); (try clear hi)) | ((with_reducible refine gate_callee (f := 21) rfl ?_); refine goesL_ (some 58) rfl rfl Try.func21 (by kernel_rfl) rfl #[.string t221] rfl (by (try simp only [List.map_toArray, List.map_cons, List.map_nil]); first | done | rfl | (simp only [List.length_drop, List.length_take]; rfl)) ?_; (with_reducible refine (wire_NewReader.calls t221 t222 t223 t224 w _ ?side1 A36.out).mono ?_); (case side1 => repeat (first | (with_reducible first | exact HB.out | apply below_alloc | apply pw_below_drewN | apply below_drew1 | refine below_set ?_ GE202.out) | exact HB.out)); rintro e w52 ⟨g225, rfl, hi, hb, hb2⟩; refine ⟨_, rfl, ?_⟩; have n0_ := Aside0.mk (blk_below (g := gb202) (o := .cells #[.int .u8 a2_0, .int .i64 a2_1, .int .i64 a2_2, .int .i64 a2_3] 32 (0, 0)) (by (with_reducible repeat (first | refine blk_drewN ?_ _ | refine blk_drew ?_ | refine blk_alloc ?_ _)); exact BK202.out) hb2); have n1_ := Aside0.mk (hb); have n2_ := Aside0.mk (hi); have n3_ := Aside0.mk (IsS73.ne_blk hi (blk_below (g := gb202) (o := .cells #[.int .u8 a2_0, .int .i64 a2_1, .int .i64 a2_2, .int .i64 a2_3] 32 (0, 0)) (by (with_reducible repeat (first | refine blk_drewN ?_ _ | refine blk_drew ?_ | refine blk_alloc ?_ _)); exact BK202.out) hb2) (by decide)); have n4_ := Aside0.mk (Ne.symm (IsS73.ne_blk hi (blk_below (g := gb202) (o := .cells #[.int .u8 a2_0, .int .i64 a2_1, .int .i64 a2_2, .int .i64 a2_3] 32 (0, 0)) (by (with_reducible repeat (first | refine blk_drewN ?_ _ | refine blk_drew ?_ | refine blk_alloc ?_ _)); exact BK202.out) hb2) (by decide))); clear BK202; clear HB; have BK202 := n0_; have HB := n1_; have HI225 := n2_; have NB225_202 := n3_; have NB202_225 := n4_; clear n0_ n1_ n2_ n3_ n4_; (try clear hb); (try clear hb2); (try clear hk); (try clear hi); have hnb53 := NB202_225.out; have hnc53 := NB225_202.out; have hcz54_0 : w52.cell? ⟨gb202, 0, none⟩ = some (.int .u8 a2_0) := (blk_cell BK202.out 0).trans rfl; have hcz54_1 : w52.cell? ⟨gb202, 1, none⟩ = some (.int .i64 a2_1) := (blk_cell BK202.out 1).trans rfl; have hcz54_2 : w52.cell? ⟨gb202, 2, none⟩ = some (.int .i64 a2_2) := (blk_cell BK202.out 2).trans rfl; have hcz54_3 : w52.cell? ⟨gb202, 3, none⟩ = some (.int .i64 a2_3) := (blk_cell BK202.out 3).trans rfl; have hfz54_0 := blk_frozen BK202.out 0; have hfz54_1 := blk_frozen BK202.out 1; have hfz54_2 := blk_frozen BK202.out 2; have hfz54_3 := blk_frozen BK202.out 3) | ((with_reducible refine gate_callee (f := 25) rfl ?_); refine goesL_ (some 62) rfl rfl Try.func25 (by kernel_rfl) rfl #[.pointer (some ⟨g225, 0, none⟩), .int .i64 a2_3] rfl (by (try simp only [List.map_toArray, List.map_cons, List.map_nil]); first | done | rfl | (simp only [List.length_drop, List.length_take]; rfl)) ?_; (with_reducible refine (wire_Reader_Text.calls kj24 g225 t222 t223 t224 a2_3 t226 t227 t228 t229 w _ ?side1 ?side2 A37.out).mono ?_); (case side1 => repeat (first | (with_reducible first | exact HI225.out | apply IsS73.alloc | apply IsS73.drewN | apply IsS73.drew | apply IsS73.set_0 | apply IsS73.set_1 | apply IsS73.set_2 | refine IsS73.far ?_ NB225_202.out _) | exact HI225.out)); (case side2 => repeat (first | (with_reducible first | exact HB.out | apply below_alloc | apply pw_below_drewN | apply below_drew1 | refine below_set ?_ (IsS73.ge HI225.out) | refine below_set ?_ GE202.out) | exact HB.out)); rintro e w55 ⟨rfl, hi, hb, hk⟩; refine ⟨_, rfl, ?_⟩; have n0_ := Aside0.mk (KeepBut.blk hk (g' := gb202) (o := .cells #[.int .u8 a2_0, .int .i64 a2_1, .int .i64 a2_2, .int .i64 a2_3] 32 (0, 0)) (by (with_reducible repeat (first | refine blk_drewN ?_ _ | refine blk_drew ?_ | refine blk_alloc ?_ _)); exact BK202.out) NB202_225.out (by simp)); have n1_ := Aside0.mk (hb); have n2_ := Aside0.mk (hi); clear BK202; clear HB; clear HI225; have BK202 := n0_; have HB := n1_; have HI225 := n2_; clear n0_ n1_ n2_; (try clear hb); (try clear hb2); (try clear hk); (try clear hi)) | ((with_reducible refine gate_callee (f := 23) rfl ?_); refine goesL_ (some 64) rfl rfl Try.func23 (by kernel_rfl) rfl #[.pointer (some ⟨g225, 0, none⟩)] rfl (by (try simp only [List.map_toArray, List.map_cons, List.map_nil]); first | done | rfl | (simp only [List.length_drop, List.length_take]; rfl)) ?_; (with_reducible refine (wire_Reader_End.calls g225 t227 t228 t229 t230 t231 t232 t233 w _ ?side1 ?side2 A38.out).mono ?_); (case side1 => repeat (first | (with_reducible first | exact HI225.out | apply IsS73.alloc | apply IsS73.drewN | apply IsS73.drew | apply IsS73.set_0 | apply IsS73.set_1 | apply IsS73.set_2 | refine IsS73.far ?_ NB225_202.out _) | exact HI225.out)); (case side2 => repeat (first | (with_reducible first | exact HB.out | apply below_alloc | apply pw_below_drewN | apply below_drew1 | refine below_set ?_ (IsS73.ge HI225.out) | refine below_set ?_ GE202.out) | exact HB.out)); rintro e w56 ⟨rfl, hi, hb, hk⟩; refine ⟨_, rfl, ?_⟩; have n0_ := Aside0.mk (KeepBut.blk hk (g' := gb202) (o := .cells #[.int .u8 a2_0, .int .i64 a2_1, .int .i64 a2_2, .int .i64 a2_3] 32 (0, 0)) (by (with_reducible repeat (first | refine blk_drewN ?_ _ | refine blk_drew ?_ | refine blk_alloc ?_ _)); exact BK202.out) NB202_225.out (by simp)); have n1_ := Aside0.mk (hb); have n2_ := Aside0.mk (hi); clear BK202; clear HB; clear HI225; have BK202 := n0_; have HB := n1_; have HI225 := n2_; clear n0_ n1_ n2_; (try clear hb); (try clear hb2); (try clear hk); (try clear hi); have hcz57_0 : w56.cell? ⟨gb202, 0, none⟩ = some (.int .u8 a2_0) := (blk_cell BK202.out 0).trans rfl; have hcz57_1 : w56.cell? ⟨gb202, 1, none⟩ = some (.int .i64 a2_1) := (blk_cell BK202.out 1).trans rfl; have hcz57_2 : w56.cell? ⟨gb202, 2, none⟩ = some (.int .i64 a2_2) := (blk_cell BK202.out 2).trans rfl; have hcz57_3 : w56.cell? ⟨gb202, 3, none⟩ = some (.int .i64 a2_3) := (blk_cell BK202.out 3).trans rfl; have hfz57_0 := blk_frozen BK202.out 0; have hfz57_1 := blk_frozen BK202.out 1; have hfz57_2 := blk_frozen BK202.out 2; have hfz57_3 := blk_frozen BK202.out 3))
                  go_ret
                  exact ⟨by first | rfl | (simp [errW_none, errW_some] <;> rfl) | (simp [*, errW_none, errW_some] <;> rfl), by repeat (first | (with_reducible first | exact HB.out | apply below_alloc | apply pw_below_drewN | apply below_drew1 | refine below_set ?_ (IsS73.ge HI225.out) | refine below_set ?_ GE202.out) | exact HB.out)⟩
              · rw [if_neg c40] at H
                have c40b0 : (t226.toList == a1.toList) = false := beq_eq_false_iff_ne.mpr c40
                have c40b1 : (t226.toList != a1.toList) = true := bne_iff_ne.mpr c40
                obtain rfl := Option.some.inj H
                go_wp2_with (first | ((with_reducible refine gate_callee (f := 17) rfl ?_); refine goesL_ (some 57) rfl rfl Try.func17 (by kernel_rfl) rfl #[.string a1] rfl (by (try simp only [List.map_toArray, List.map_cons, List.map_nil]); first | done | rfl | (simp only [List.length_drop, List.length_take]; rfl)) ?_; (with_reducible refine (wire_Text.calls kj24 a1 t221 _ A35.out).mono ?_); rintro e w58 ⟨rfl, hb⟩; refine ⟨_, rfl, ?_⟩; have n0_ := Aside0.mk (blk_below (g := gb202) (o := .cells #[.int .u8 a2_0, .int .i64 a2_1, .int .i64 a2_2, .int .i64 a2_3] 32 (0, 0)) (by (with_reducible repeat (first | refine blk_drewN ?_ _ | refine blk_drew ?_ | refine blk_alloc ?_ _)); exact BK202.out) hb); have n1_ := Aside0.mk (below_step (by repeat (first | (with_reducible first | exact HB.out | apply below_alloc | apply pw_below_drewN | apply below_drew1 | refine below_set ?_ GE202.out) | exact HB.out)) hb); clear BK202; clear HB; have BK202 := n0_; have HB := n1_; clear n0_ n1_; (try clear hb); (try clear hb2); (try clear hk); (try clear hi)) | ((with_reducible refine gate_callee (f := 21) rfl ?_); refine goesL_ (some 58) rfl rfl Try.func21 (by kernel_rfl) rfl #[.string t221] rfl (by (try simp only [List.map_toArray, List.map_cons, List.map_nil]); first | done | rfl | (simp only [List.length_drop, List.length_take]; rfl)) ?_; (with_reducible refine (wire_NewReader.calls t221 t222 t223 t224 w _ ?side1 A36.out).mono ?_); (case side1 => repeat (first | (with_reducible first | exact HB.out | apply below_alloc | apply pw_below_drewN | apply below_drew1 | refine below_set ?_ GE202.out) | exact HB.out)); rintro e w59 ⟨g225, rfl, hi, hb, hb2⟩; refine ⟨_, rfl, ?_⟩; have n0_ := Aside0.mk (blk_below (g := gb202) (o := .cells #[.int .u8 a2_0, .int .i64 a2_1, .int .i64 a2_2, .int .i64 a2_3] 32 (0, 0)) (by (with_reducible repeat (first | refine blk_drewN ?_ _ | refine blk_drew ?_ | refine blk_alloc ?_ _)); exact BK202.out) hb2); have n1_ := Aside0.mk (hb); have n2_ := Aside0.mk (hi); have n3_ := Aside0.mk (IsS73.ne_blk hi (blk_below (g := gb202) (o := .cells #[.int .u8 a2_0, .int .i64 a2_1, .int .i64 a2_2, .int .i64 a2_3] 32 (0, 0)) (by (with_reducible repeat (first | refine blk_drewN ?_ _ | refine blk_drew ?_ | refine blk_alloc ?_ _)); exact BK202.out) hb2) (by decide)); have n4_ := Aside0.mk (Ne.symm (IsS73.ne_blk hi (blk_below (g := gb202) (o := .cells #[.int .u8 a2_0, .int .i64 a2_1, .int .i64 a2_2, .int .i64 a2_3] 32 (0, 0)) (by (with_reducible repeat (first | refine blk_drewN ?_ _ | refine blk_drew ?_ | refine blk_alloc ?_ _)); exact BK202.out) hb2) (by decide))); clear BK202; clear HB; have BK202 := n0_; have HB := n1_; have HI225 := n2_; have NB225_202 := n3_; have NB202_225 := n4_; clear n0_ n1_ n2_ n3_ n4_; (try clear hb); (try clear hb2); (try clear hk); (try clear hi); have hnb60 := NB202_225.out; have hnc60 := NB225_202.out; have hcz61_0 : w59.cell? ⟨gb202, 0, none⟩ = some (.int .u8 a2_0) := (blk_cell BK202.out 0).trans rfl; have hcz61_1 : w59.cell? ⟨gb202, 1, none⟩ = some (.int .i64 a2_1) := (blk_cell BK202.out 1).trans rfl; have hcz61_2 : w59.cell? ⟨gb202, 2, none⟩ = some (.int .i64 a2_2) := (blk_cell BK202.out 2).trans rfl; have hcz61_3 : w59.cell? ⟨gb202, 3, none⟩ = some (.int .i64 a2_3) := (blk_cell BK202.out 3).trans rfl; have hfz61_0 := blk_frozen BK202.out 0; have hfz61_1 := blk_frozen BK202.out 1; have hfz61_2 := blk_frozen BK202.out 2; have hfz61_3 := blk_frozen BK202.out 3) | ((with_reducible refine gate_callee (f := 25) rfl ?_); refine goesL_ (some 62) rfl rfl Try.func25 (by kernel_rfl) rfl #[.pointer (some ⟨g225, 0, none⟩), .int .i64 a2_3] rfl (by (try simp only [List.map_toArray, List.map_cons, List.map_nil]); first | done | rfl | (simp only [List.length_drop, List.length_take]; rfl)) ?_; (with_reducible refine (wire_Reader_Text.calls kj24 g225 t222 t223 t224 a2_3 t226 t227 t228 t229 w _ ?side1 ?side2 A37.out).mono ?_); (case side1 => repeat (first | (with_reducible first | exact HI225.out | apply IsS73.alloc | apply IsS73.drewN | apply IsS73.drew | apply IsS73.set_0 | apply IsS73.set_1 | apply IsS73.set_2 | refine IsS73.far ?_ NB225_202.out _) | exact HI225.out)); (case side2 => repeat (first | (with_reducible first | exact HB.out | apply below_alloc | apply pw_below_drewN | apply below_drew1 | refine below_set ?_ (IsS73.ge HI225.out) | refine below_set ?_ GE202.out) | exact HB.out)); rintro e w62 ⟨rfl, hi, hb, hk⟩; refine ⟨_, rfl, ?_⟩; have n0_ := Aside0.mk (KeepBut.blk hk (g' := gb202) (o := .cells #[.int .u8 a2_0, .int .i64 a2_1, .int .i64 a2_2, .int .i64 a2_3] 32 (0, 0)) (by (with_reducible repeat (first | refine blk_drewN ?_ _ | refine blk_drew ?_ | refine blk_alloc ?_ _)); exact BK202.out) NB202_225.out (by simp)); have n1_ := Aside0.mk (hb); have n2_ := Aside0.mk (hi); clear BK202; clear HB; clear HI225; have BK202 := n0_; have HB := n1_; have HI225 := n2_; clear n0_ n1_ n2_; (try clear hb); (try clear hb2); (try clear hk); (try clear hi)) | ((with_reducible refine gate_callee (f := 23) rfl ?_); refine goesL_ (some 64) rfl rfl Try.func23 (by kernel_rfl) rfl #[.pointer (some ⟨g225, 0, none⟩)] rfl (by (try simp only [List.map_toArray, List.map_cons, List.map_nil]); first | done | rfl | (simp only [List.length_drop, List.length_take]; rfl)) ?_; (with_reducible refine (wire_Reader_End.calls g225 t227 t228 t229 t230 t231 t232 t233 w _ ?side1 ?side2 A38.out).mono ?_); (case side1 => repeat (first | (with_reducible first | exact HI225.out | apply IsS73.alloc | apply IsS73.drewN | apply IsS73.drew | apply IsS73.set_0 | apply IsS73.set_1 | apply IsS73.set_2 | refine IsS73.far ?_ NB225_202.out _) | exact HI225.out)); (case side2 => repeat (first | (with_reducible first | exact HB.out | apply below_alloc | apply pw_below_drewN | apply below_drew1 | refine below_set ?_ (IsS73.ge HI225.out) | refine below_set ?_ GE202.out) | exact HB.out)); rintro e w63 ⟨rfl, hi, hb, hk⟩; refine ⟨_, rfl, ?_⟩; have n0_ := Aside0.mk (KeepBut.blk hk (g' := gb202) (o := .cells #[.int .u8 a2_0, .int .i64 a2_1, .int .i64 a2_2, .int .i64 a2_3] 32 (0, 0)) (by (with_reducible repeat (first | refine blk_drewN ?_ _ | refine blk_drew ?_ | refine blk_alloc ?_ _)); exact BK202.out) NB202_225.out (by simp)); have n1_ := Aside0.mk (hb); have n2_ := Aside0.mk (hi); clear BK202; clear HB; clear HI225; have BK202 := n0_; have HB := n1_; have HI225 := n2_; clear n0_ n1_ n2_; (try clear hb); (try clear hb2); (try clear hk); (try clear hi); have hcz64_0 : w63.cell? ⟨gb202, 0, none⟩ = some (.int .u8 a2_0) := (blk_cell BK202.out 0).trans rfl; have hcz64_1 : w63.cell? ⟨gb202, 1, none⟩ = some (.int .i64 a2_1) := (blk_cell BK202.out 1).trans rfl; have hcz64_2 : w63.cell? ⟨gb202, 2, none⟩ = some (.int .i64 a2_2) := (blk_cell BK202.out 2).trans rfl; have hcz64_3 : w63.cell? ⟨gb202, 3, none⟩ = some (.int .i64 a2_3) := (blk_cell BK202.out 3).trans rfl; have hfz64_0 := blk_frozen BK202.out 0; have hfz64_1 := blk_frozen BK202.out 1; have hfz64_2 := blk_frozen BK202.out 2; have hfz64_3 := blk_frozen BK202.out 3))
                go_ret
                exact ⟨by first | rfl | (simp [errW_none, errW_some] <;> rfl) | (simp [*, errW_none, errW_some] <;> rfl), by repeat (first | (with_reducible first | exact HB.out | apply below_alloc | apply pw_below_drewN | apply below_drew1 | refine below_set ?_ (IsS73.ge HI225.out) | refine below_set ?_ GE202.out) | exact HB.out)⟩
            · rw [if_neg c39] at H
              have c39b0 : decide ((a1.size : Int) ≤ a2_3) = false := decide_eq_false c39
              clear c39
              by_cases c65 : t226.toList = ([] : List UInt8)
              · rw [if_pos c65] at H
                have c65b0 : (t226.toList == ([] : List UInt8)) = true := beq_iff_eq.mpr c65
                have c65b1 : (t226.toList != ([] : List UInt8)) = false := bne_eq_false_iff_eq.mpr c65
                clear c65
                by_cases c66 : t230 = 4
                · rw [if_pos c66] at H
                  have c66b0 : (t230 == 4) = true := beq_iff_eq.mpr c66
                  have c66b1 : (t230 != 4) = false := bne_eq_false_iff_eq.mpr c66
                  clear c66
                  replace H := Option.bind_eq_some_iff.mp H
                  obtain ⟨t235, A670, H⟩ := H
                  replace H : (some t235) = some r := H
                  have A67 := Aside0.mk A670
                  clear A670
                  obtain rfl := Option.some.inj H
                  go_wp2_with (first | ((with_reducible refine gate_callee (f := 17) rfl ?_); refine goesL_ (some 57) rfl rfl Try.func17 (by kernel_rfl) rfl #[.string a1] rfl (by (try simp only [List.map_toArray, List.map_cons, List.map_nil]); first | done | rfl | (simp only [List.length_drop, List.length_take]; rfl)) ?_; (with_reducible refine (wire_Text.calls kj24 a1 t221 _ A35.out).mono ?_); rintro e w68 ⟨rfl, hb⟩; refine ⟨_, rfl, ?_⟩; have n0_ := Aside0.mk (blk_below (g := gb202) (o := .cells #[.int .u8 a2_0, .int .i64 a2_1, .int .i64 a2_2, .int .i64 a2_3] 32 (0, 0)) (by (with_reducible repeat (first | refine blk_drewN ?_ _ | refine blk_drew ?_ | refine blk_alloc ?_ _)); exact BK202.out) hb); have n1_ := Aside0.mk (below_step (by repeat (first | (with_reducible first | exact HB.out | apply below_alloc | apply pw_below_drewN | apply below_drew1 | refine below_set ?_ GE202.out) | exact HB.out)) hb); clear BK202; clear HB; have BK202 := n0_; have HB := n1_; clear n0_ n1_; (try clear hb); (try clear hb2); (try clear hk); (try clear hi)) | ((with_reducible refine gate_callee (f := 21) rfl ?_); refine goesL_ (some 58) rfl rfl Try.func21 (by kernel_rfl) rfl #[.string t221] rfl (by (try simp only [List.map_toArray, List.map_cons, List.map_nil]); first | done | rfl | (simp only [List.length_drop, List.length_take]; rfl)) ?_; (with_reducible refine (wire_NewReader.calls t221 t222 t223 t224 w _ ?side1 A36.out).mono ?_); (case side1 => repeat (first | (with_reducible first | exact HB.out | apply below_alloc | apply pw_below_drewN | apply below_drew1 | refine below_set ?_ GE202.out) | exact HB.out)); rintro e w69 ⟨g225, rfl, hi, hb, hb2⟩; refine ⟨_, rfl, ?_⟩; have n0_ := Aside0.mk (blk_below (g := gb202) (o := .cells #[.int .u8 a2_0, .int .i64 a2_1, .int .i64 a2_2, .int .i64 a2_3] 32 (0, 0)) (by (with_reducible repeat (first | refine blk_drewN ?_ _ | refine blk_drew ?_ | refine blk_alloc ?_ _)); exact BK202.out) hb2); have n1_ := Aside0.mk (hb); have n2_ := Aside0.mk (hi); have n3_ := Aside0.mk (IsS73.ne_blk hi (blk_below (g := gb202) (o := .cells #[.int .u8 a2_0, .int .i64 a2_1, .int .i64 a2_2, .int .i64 a2_3] 32 (0, 0)) (by (with_reducible repeat (first | refine blk_drewN ?_ _ | refine blk_drew ?_ | refine blk_alloc ?_ _)); exact BK202.out) hb2) (by decide)); have n4_ := Aside0.mk (Ne.symm (IsS73.ne_blk hi (blk_below (g := gb202) (o := .cells #[.int .u8 a2_0, .int .i64 a2_1, .int .i64 a2_2, .int .i64 a2_3] 32 (0, 0)) (by (with_reducible repeat (first | refine blk_drewN ?_ _ | refine blk_drew ?_ | refine blk_alloc ?_ _)); exact BK202.out) hb2) (by decide))); clear BK202; clear HB; have BK202 := n0_; have HB := n1_; have HI225 := n2_; have NB225_202 := n3_; have NB202_225 := n4_; clear n0_ n1_ n2_ n3_ n4_; (try clear hb); (try clear hb2); (try clear hk); (try clear hi); have hnb70 := NB202_225.out; have hnc70 := NB225_202.out; have hcz71_0 : w69.cell? ⟨gb202, 0, none⟩ = some (.int .u8 a2_0) := (blk_cell BK202.out 0).trans rfl; have hcz71_1 : w69.cell? ⟨gb202, 1, none⟩ = some (.int .i64 a2_1) := (blk_cell BK202.out 1).trans rfl; have hcz71_2 : w69.cell? ⟨gb202, 2, none⟩ = some (.int .i64 a2_2) := (blk_cell BK202.out 2).trans rfl; have hcz71_3 : w69.cell? ⟨gb202, 3, none⟩ = some (.int .i64 a2_3) := (blk_cell BK202.out 3).trans rfl; have hfz71_0 := blk_frozen BK202.out 0; have hfz71_1 := blk_frozen BK202.out 1; have hfz71_2 := blk_frozen BK202.out 2; have hfz71_3 := blk_frozen BK202.out 3) | ((with_reducible refine gate_callee (f := 25) rfl ?_); refine goesL_ (some 62) rfl rfl Try.func25 (by kernel_rfl) rfl #[.pointer (some ⟨g225, 0, none⟩), .int .i64 a2_3] rfl (by (try simp only [List.map_toArray, List.map_cons, List.map_nil]); first | done | rfl | (simp only [List.length_drop, List.length_take]; rfl)) ?_; (with_reducible refine (wire_Reader_Text.calls kj24 g225 t222 t223 t224 a2_3 t226 t227 t228 t229 w _ ?side1 ?side2 A37.out).mono ?_); (case side1 => repeat (first | (with_reducible first | exact HI225.out | apply IsS73.alloc | apply IsS73.drewN | apply IsS73.drew | apply IsS73.set_0 | apply IsS73.set_1 | apply IsS73.set_2 | refine IsS73.far ?_ NB225_202.out _) | exact HI225.out)); (case side2 => repeat (first | (with_reducible first | exact HB.out | apply below_alloc | apply pw_below_drewN | apply below_drew1 | refine below_set ?_ (IsS73.ge HI225.out) | refine below_set ?_ GE202.out) | exact HB.out)); rintro e w72 ⟨rfl, hi, hb, hk⟩; refine ⟨_, rfl, ?_⟩; have n0_ := Aside0.mk (KeepBut.blk hk (g' := gb202) (o := .cells #[.int .u8 a2_0, .int .i64 a2_1, .int .i64 a2_2, .int .i64 a2_3] 32 (0, 0)) (by (with_reducible repeat (first | refine blk_drewN ?_ _ | refine blk_drew ?_ | refine blk_alloc ?_ _)); exact BK202.out) NB202_225.out (by simp)); have n1_ := Aside0.mk (hb); have n2_ := Aside0.mk (hi); clear BK202; clear HB; clear HI225; have BK202 := n0_; have HB := n1_; have HI225 := n2_; clear n0_ n1_ n2_; (try clear hb); (try clear hb2); (try clear hk); (try clear hi)) | ((with_reducible refine gate_callee (f := 23) rfl ?_); refine goesL_ (some 64) rfl rfl Try.func23 (by kernel_rfl) rfl #[.pointer (some ⟨g225, 0, none⟩)] rfl (by (try simp only [List.map_toArray, List.map_cons, List.map_nil]); first | done | rfl | (simp only [List.length_drop, List.length_take]; rfl)) ?_; (with_reducible refine (wire_Reader_End.calls g225 t227 t228 t229 t230 t231 t232 t233 w _ ?side1 ?side2 A38.out).mono ?_); (case side1 => repeat (first | (with_reducible first | exact HI225.out | apply IsS73.alloc | apply IsS73.drewN | apply IsS73.drew | apply IsS73.set_0 | apply IsS73.set_1 | apply IsS73.set_2 | refine IsS73.far ?_ NB225_202.out _) | exact HI225.out)); (case side2 => repeat (first | (with_reducible first | exact HB.out | apply below_alloc | apply pw_below_drewN | apply below_drew1 | refine below_set ?_ (IsS73.ge HI225.out) | refine below_set ?_ GE202.out) | exact HB.out)); rintro e w73 ⟨rfl, hi, hb, hk⟩; refine ⟨_, rfl, ?_⟩; have n0_ := Aside0.mk (KeepBut.blk hk (g' := gb202) (o := .cells #[.int .u8 a2_0, .int .i64 a2_1, .int .i64 a2_2, .int .i64 a2_3] 32 (0, 0)) (by (with_reducible repeat (first | refine blk_drewN ?_ _ | refine blk_drew ?_ | refine blk_alloc ?_ _)); exact BK202.out) NB202_225.out (by simp)); have n1_ := Aside0.mk (hb); have n2_ := Aside0.mk (hi); clear BK202; clear HB; clear HI225; have BK202 := n0_; have HB := n1_; have HI225 := n2_; clear n0_ n1_ n2_; (try clear hb); (try clear hb2); (try clear hk); (try clear hi); have hcz74_0 : w73.cell? ⟨gb202, 0, none⟩ = some (.int .u8 a2_0) := (blk_cell BK202.out 0).trans rfl; have hcz74_1 : w73.cell? ⟨gb202, 1, none⟩ = some (.int .i64 a2_1) := (blk_cell BK202.out 1).trans rfl; have hcz74_2 : w73.cell? ⟨gb202, 2, none⟩ = some (.int .i64 a2_2) := (blk_cell BK202.out 2).trans rfl; have hcz74_3 : w73.cell? ⟨gb202, 3, none⟩ = some (.int .i64 a2_3) := (blk_cell BK202.out 3).trans rfl; have hfz74_0 := blk_frozen BK202.out 0; have hfz74_1 := blk_frozen BK202.out 1; have hfz74_2 := blk_frozen BK202.out 2; have hfz74_3 := blk_frozen BK202.out 3) | (go_at_call 16; (with_reducible refine (sawmilllaw05_awake.calls  t235 _ A67.out).mono ?_); rintro e w75 ⟨rfl, hb⟩; have n0_ := Aside0.mk (blk_below (g := gb202) (o := .cells #[.int .u8 a2_0, .int .i64 a2_1, .int .i64 a2_2, .int .i64 a2_3] 32 (0, 0)) (by (with_reducible repeat (first | refine blk_drewN ?_ _ | refine blk_drew ?_ | refine blk_alloc ?_ _)); exact BK202.out) hb); have n1_ := Aside0.mk (IsS73.below (by repeat (first | (with_reducible first | exact HI225.out | apply IsS73.alloc | apply IsS73.drewN | apply IsS73.drew | apply IsS73.set_0 | apply IsS73.set_1 | apply IsS73.set_2 | refine IsS73.far ?_ NB225_202.out _) | exact HI225.out)) hb); have n2_ := Aside0.mk (below_step (by repeat (first | (with_reducible first | exact HB.out | apply below_alloc | apply pw_below_drewN | apply below_drew1 | refine below_set ?_ (IsS73.ge HI225.out) | refine below_set ?_ GE202.out) | exact HB.out)) hb); clear BK202; clear HI225; clear HB; have BK202 := n0_; have HI225 := n1_; have HB := n2_; clear n0_ n1_ n2_; (try clear hb); (try clear hb2); (try clear hk); (try clear hi)))
                  go_ret
                  exact ⟨by first | rfl | (simp [errW_none, errW_some] <;> rfl) | (simp [*, errW_none, errW_some] <;> rfl), by repeat (first | (with_reducible first | exact HB.out | apply below_alloc | apply pw_below_drewN | apply below_drew1 | refine below_set ?_ (IsS73.ge HI225.out) | refine below_set ?_ GE202.out) | exact HB.out)⟩
                · rw [if_neg c66] at H
                  have c66b0 : (t230 == 4) = false := beq_eq_false_iff_ne.mpr c66
                  have c66b1 : (t230 != 4) = true := bne_iff_ne.mpr c66
                  obtain rfl := Option.some.inj H
                  go_wp2_with (first | ((with_reducible refine gate_callee (f := 17) rfl ?_); refine goesL_ (some 57) rfl rfl Try.func17 (by kernel_rfl) rfl #[.string a1] rfl (by (try simp only [List.map_toArray, List.map_cons, List.map_nil]); first | done | rfl | (simp only [List.length_drop, List.length_take]; rfl)) ?_; (with_reducible refine (wire_Text.calls kj24 a1 t221 _ A35.out).mono ?_); rintro e w76 ⟨rfl, hb⟩; refine ⟨_, rfl, ?_⟩; have n0_ := Aside0.mk (blk_below (g := gb202) (o := .cells #[.int .u8 a2_0, .int .i64 a2_1, .int .i64 a2_2, .int .i64 a2_3] 32 (0, 0)) (by (with_reducible repeat (first | refine blk_drewN ?_ _ | refine blk_drew ?_ | refine blk_alloc ?_ _)); exact BK202.out) hb); have n1_ := Aside0.mk (below_step (by repeat (first | (with_reducible first | exact HB.out | apply below_alloc | apply pw_below_drewN | apply below_drew1 | refine below_set ?_ GE202.out) | exact HB.out)) hb); clear BK202; clear HB; have BK202 := n0_; have HB := n1_; clear n0_ n1_; (try clear hb); (try clear hb2); (try clear hk); (try clear hi)) | ((with_reducible refine gate_callee (f := 21) rfl ?_); refine goesL_ (some 58) rfl rfl Try.func21 (by kernel_rfl) rfl #[.string t221] rfl (by (try simp only [List.map_toArray, List.map_cons, List.map_nil]); first | done | rfl | (simp only [List.length_drop, List.length_take]; rfl)) ?_; (with_reducible refine (wire_NewReader.calls t221 t222 t223 t224 w _ ?side1 A36.out).mono ?_); (case side1 => repeat (first | (with_reducible first | exact HB.out | apply below_alloc | apply pw_below_drewN | apply below_drew1 | refine below_set ?_ GE202.out) | exact HB.out)); rintro e w77 ⟨g225, rfl, hi, hb, hb2⟩; refine ⟨_, rfl, ?_⟩; have n0_ := Aside0.mk (blk_below (g := gb202) (o := .cells #[.int .u8 a2_0, .int .i64 a2_1, .int .i64 a2_2, .int .i64 a2_3] 32 (0, 0)) (by (with_reducible repeat (first | refine blk_drewN ?_ _ | refine blk_drew ?_ | refine blk_alloc ?_ _)); exact BK202.out) hb2); have n1_ := Aside0.mk (hb); have n2_ := Aside0.mk (hi); have n3_ := Aside0.mk (IsS73.ne_blk hi (blk_below (g := gb202) (o := .cells #[.int .u8 a2_0, .int .i64 a2_1, .int .i64 a2_2, .int .i64 a2_3] 32 (0, 0)) (by (with_reducible repeat (first | refine blk_drewN ?_ _ | refine blk_drew ?_ | refine blk_alloc ?_ _)); exact BK202.out) hb2) (by decide)); have n4_ := Aside0.mk (Ne.symm (IsS73.ne_blk hi (blk_below (g := gb202) (o := .cells #[.int .u8 a2_0, .int .i64 a2_1, .int .i64 a2_2, .int .i64 a2_3] 32 (0, 0)) (by (with_reducible repeat (first | refine blk_drewN ?_ _ | refine blk_drew ?_ | refine blk_alloc ?_ _)); exact BK202.out) hb2) (by decide))); clear BK202; clear HB; have BK202 := n0_; have HB := n1_; have HI225 := n2_; have NB225_202 := n3_; have NB202_225 := n4_; clear n0_ n1_ n2_ n3_ n4_; (try clear hb); (try clear hb2); (try clear hk); (try clear hi); have hnb78 := NB202_225.out; have hnc78 := NB225_202.out; have hcz79_0 : w77.cell? ⟨gb202, 0, none⟩ = some (.int .u8 a2_0) := (blk_cell BK202.out 0).trans rfl; have hcz79_1 : w77.cell? ⟨gb202, 1, none⟩ = some (.int .i64 a2_1) := (blk_cell BK202.out 1).trans rfl; have hcz79_2 : w77.cell? ⟨gb202, 2, none⟩ = some (.int .i64 a2_2) := (blk_cell BK202.out 2).trans rfl; have hcz79_3 : w77.cell? ⟨gb202, 3, none⟩ = some (.int .i64 a2_3) := (blk_cell BK202.out 3).trans rfl; have hfz79_0 := blk_frozen BK202.out 0; have hfz79_1 := blk_frozen BK202.out 1; have hfz79_2 := blk_frozen BK202.out 2; have hfz79_3 := blk_frozen BK202.out 3) | ((with_reducible refine gate_callee (f := 25) rfl ?_); refine goesL_ (some 62) rfl rfl Try.func25 (by kernel_rfl) rfl #[.pointer (some ⟨g225, 0, none⟩), .int .i64 a2_3] rfl (by (try simp only [List.map_toArray, List.map_cons, List.map_nil]); first | done | rfl | (simp only [List.length_drop, List.length_take]; rfl)) ?_; (with_reducible refine (wire_Reader_Text.calls kj24 g225 t222 t223 t224 a2_3 t226 t227 t228 t229 w _ ?side1 ?side2 A37.out).mono ?_); (case side1 => repeat (first | (with_reducible first | exact HI225.out | apply IsS73.alloc | apply IsS73.drewN | apply IsS73.drew | apply IsS73.set_0 | apply IsS73.set_1 | apply IsS73.set_2 | refine IsS73.far ?_ NB225_202.out _) | exact HI225.out)); (case side2 => repeat (first | (with_reducible first | exact HB.out | apply below_alloc | apply pw_below_drewN | apply below_drew1 | refine below_set ?_ (IsS73.ge HI225.out) | refine below_set ?_ GE202.out) | exact HB.out)); rintro e w80 ⟨rfl, hi, hb, hk⟩; refine ⟨_, rfl, ?_⟩; have n0_ := Aside0.mk (KeepBut.blk hk (g' := gb202) (o := .cells #[.int .u8 a2_0, .int .i64 a2_1, .int .i64 a2_2, .int .i64 a2_3] 32 (0, 0)) (by (with_reducible repeat (first | refine blk_drewN ?_ _ | refine blk_drew ?_ | refine blk_alloc ?_ _)); exact BK202.out) NB202_225.out (by simp)); have n1_ := Aside0.mk (hb); have n2_ := Aside0.mk (hi); clear BK202; clear HB; clear HI225; have BK202 := n0_; have HB := n1_; have HI225 := n2_; clear n0_ n1_ n2_; (try clear hb); (try clear hb2); (try clear hk); (try clear hi)) | ((with_reducible refine gate_callee (f := 23) rfl ?_); refine goesL_ (some 64) rfl rfl Try.func23 (by kernel_rfl) rfl #[.pointer (some ⟨g225, 0, none⟩)] rfl (by (try simp only [List.map_toArray, List.map_cons, List.map_nil]); first | done | rfl | (simp only [List.length_drop, List.length_take]; rfl)) ?_; (with_reducible refine (wire_Reader_End.calls g225 t227 t228 t229 t230 t231 t232 t233 w _ ?side1 ?side2 A38.out).mono ?_); (case side1 => repeat (first | (with_reducible first | exact HI225.out | apply IsS73.alloc | apply IsS73.drewN | apply IsS73.drew | apply IsS73.set_0 | apply IsS73.set_1 | apply IsS73.set_2 | refine IsS73.far ?_ NB225_202.out _) | exact HI225.out)); (case side2 => repeat (first | (with_reducible first | exact HB.out | apply below_alloc | apply pw_below_drewN | apply below_drew1 | refine below_set ?_ (IsS73.ge HI225.out) | refine below_set ?_ GE202.out) | exact HB.out)); rintro e w81 ⟨rfl, hi, hb, hk⟩; refine ⟨_, rfl, ?_⟩; have n0_ := Aside0.mk (KeepBut.blk hk (g' := gb202) (o := .cells #[.int .u8 a2_0, .int .i64 a2_1, .int .i64 a2_2, .int .i64 a2_3] 32 (0, 0)) (by (with_reducible repeat (first | refine blk_drewN ?_ _ | refine blk_drew ?_ | refine blk_alloc ?_ _)); exact BK202.out) NB202_225.out (by simp)); have n1_ := Aside0.mk (hb); have n2_ := Aside0.mk (hi); clear BK202; clear HB; clear HI225; have BK202 := n0_; have HB := n1_; have HI225 := n2_; clear n0_ n1_ n2_; (try clear hb); (try clear hb2); (try clear hk); (try clear hi); have hcz82_0 : w81.cell? ⟨gb202, 0, none⟩ = some (.int .u8 a2_0) := (blk_cell BK202.out 0).trans rfl; have hcz82_1 : w81.cell? ⟨gb202, 1, none⟩ = some (.int .i64 a2_1) := (blk_cell BK202.out 1).trans rfl; have hcz82_2 : w81.cell? ⟨gb202, 2, none⟩ = some (.int .i64 a2_2) := (blk_cell BK202.out 2).trans rfl; have hcz82_3 : w81.cell? ⟨gb202, 3, none⟩ = some (.int .i64 a2_3) := (blk_cell BK202.out 3).trans rfl; have hfz82_0 := blk_frozen BK202.out 0; have hfz82_1 := blk_frozen BK202.out 1; have hfz82_2 := blk_frozen BK202.out 2; have hfz82_3 := blk_frozen BK202.out 3))
                  go_ret
                  exact ⟨by first | rfl | (simp [errW_none, errW_some] <;> rfl) | (simp [*, errW_none, errW_some] <;> rfl), by repeat (first | (with_reducible first | exact HB.out | apply below_alloc | apply pw_below_drewN | apply below_drew1 | refine below_set ?_ (IsS73.ge HI225.out) | refine below_set ?_ GE202.out) | exact HB.out)⟩
              · rw [if_neg c65] at H
                have c65b0 : (t226.toList == ([] : List UInt8)) = false := beq_eq_false_iff_ne.mpr c65
                have c65b1 : (t226.toList != ([] : List UInt8)) = true := bne_iff_ne.mpr c65
                obtain rfl := Option.some.inj H
                go_wp2_with (first | ((with_reducible refine gate_callee (f := 17) rfl ?_); refine goesL_ (some 57) rfl rfl Try.func17 (by kernel_rfl) rfl #[.string a1] rfl (by (try simp only [List.map_toArray, List.map_cons, List.map_nil]); first | done | rfl | (simp only [List.length_drop, List.length_take]; rfl)) ?_; (with_reducible refine (wire_Text.calls kj24 a1 t221 _ A35.out).mono ?_); rintro e w83 ⟨rfl, hb⟩; refine ⟨_, rfl, ?_⟩; have n0_ := Aside0.mk (blk_below (g := gb202) (o := .cells #[.int .u8 a2_0, .int .i64 a2_1, .int .i64 a2_2, .int .i64 a2_3] 32 (0, 0)) (by (with_reducible repeat (first | refine blk_drewN ?_ _ | refine blk_drew ?_ | refine blk_alloc ?_ _)); exact BK202.out) hb); have n1_ := Aside0.mk (below_step (by repeat (first | (with_reducible first | exact HB.out | apply below_alloc | apply pw_below_drewN | apply below_drew1 | refine below_set ?_ GE202.out) | exact HB.out)) hb); clear BK202; clear HB; have BK202 := n0_; have HB := n1_; clear n0_ n1_; (try clear hb); (try clear hb2); (try clear hk); (try clear hi)) | ((with_reducible refine gate_callee (f := 21) rfl ?_); refine goesL_ (some 58) rfl rfl Try.func21 (by kernel_rfl) rfl #[.string t221] rfl (by (try simp only [List.map_toArray, List.map_cons, List.map_nil]); first | done | rfl | (simp only [List.length_drop, List.length_take]; rfl)) ?_; (with_reducible refine (wire_NewReader.calls t221 t222 t223 t224 w _ ?side1 A36.out).mono ?_); (case side1 => repeat (first | (with_reducible first | exact HB.out | apply below_alloc | apply pw_below_drewN | apply below_drew1 | refine below_set ?_ GE202.out) | exact HB.out)); rintro e w84 ⟨g225, rfl, hi, hb, hb2⟩; refine ⟨_, rfl, ?_⟩; have n0_ := Aside0.mk (blk_below (g := gb202) (o := .cells #[.int .u8 a2_0, .int .i64 a2_1, .int .i64 a2_2, .int .i64 a2_3] 32 (0, 0)) (by (with_reducible repeat (first | refine blk_drewN ?_ _ | refine blk_drew ?_ | refine blk_alloc ?_ _)); exact BK202.out) hb2); have n1_ := Aside0.mk (hb); have n2_ := Aside0.mk (hi); have n3_ := Aside0.mk (IsS73.ne_blk hi (blk_below (g := gb202) (o := .cells #[.int .u8 a2_0, .int .i64 a2_1, .int .i64 a2_2, .int .i64 a2_3] 32 (0, 0)) (by (with_reducible repeat (first | refine blk_drewN ?_ _ | refine blk_drew ?_ | refine blk_alloc ?_ _)); exact BK202.out) hb2) (by decide)); have n4_ := Aside0.mk (Ne.symm (IsS73.ne_blk hi (blk_below (g := gb202) (o := .cells #[.int .u8 a2_0, .int .i64 a2_1, .int .i64 a2_2, .int .i64 a2_3] 32 (0, 0)) (by (with_reducible repeat (first | refine blk_drewN ?_ _ | refine blk_drew ?_ | refine blk_alloc ?_ _)); exact BK202.out) hb2) (by decide))); clear BK202; clear HB; have BK202 := n0_; have HB := n1_; have HI225 := n2_; have NB225_202 := n3_; have NB202_225 := n4_; clear n0_ n1_ n2_ n3_ n4_; (try clear hb); (try clear hb2); (try clear hk); (try clear hi); have hnb85 := NB202_225.out; have hnc85 := NB225_202.out; have hcz86_0 : w84.cell? ⟨gb202, 0, none⟩ = some (.int .u8 a2_0) := (blk_cell BK202.out 0).trans rfl; have hcz86_1 : w84.cell? ⟨gb202, 1, none⟩ = some (.int .i64 a2_1) := (blk_cell BK202.out 1).trans rfl; have hcz86_2 : w84.cell? ⟨gb202, 2, none⟩ = some (.int .i64 a2_2) := (blk_cell BK202.out 2).trans rfl; have hcz86_3 : w84.cell? ⟨gb202, 3, none⟩ = some (.int .i64 a2_3) := (blk_cell BK202.out 3).trans rfl; have hfz86_0 := blk_frozen BK202.out 0; have hfz86_1 := blk_frozen BK202.out 1; have hfz86_2 := blk_frozen BK202.out 2; have hfz86_3 := blk_frozen BK202.out 3) | ((with_reducible refine gate_callee (f := 25) rfl ?_); refine goesL_ (some 62) rfl rfl Try.func25 (by kernel_rfl) rfl #[.pointer (some ⟨g225, 0, none⟩), .int .i64 a2_3] rfl (by (try simp only [List.map_toArray, List.map_cons, List.map_nil]); first | done | rfl | (simp only [List.length_drop, List.length_take]; rfl)) ?_; (with_reducible refine (wire_Reader_Text.calls kj24 g225 t222 t223 t224 a2_3 t226 t227 t228 t229 w _ ?side1 ?side2 A37.out).mono ?_); (case side1 => repeat (first | (with_reducible first | exact HI225.out | apply IsS73.alloc | apply IsS73.drewN | apply IsS73.drew | apply IsS73.set_0 | apply IsS73.set_1 | apply IsS73.set_2 | refine IsS73.far ?_ NB225_202.out _) | exact HI225.out)); (case side2 => repeat (first | (with_reducible first | exact HB.out | apply below_alloc | apply pw_below_drewN | apply below_drew1 | refine below_set ?_ (IsS73.ge HI225.out) | refine below_set ?_ GE202.out) | exact HB.out)); rintro e w87 ⟨rfl, hi, hb, hk⟩; refine ⟨_, rfl, ?_⟩; have n0_ := Aside0.mk (KeepBut.blk hk (g' := gb202) (o := .cells #[.int .u8 a2_0, .int .i64 a2_1, .int .i64 a2_2, .int .i64 a2_3] 32 (0, 0)) (by (with_reducible repeat (first | refine blk_drewN ?_ _ | refine blk_drew ?_ | refine blk_alloc ?_ _)); exact BK202.out) NB202_225.out (by simp)); have n1_ := Aside0.mk (hb); have n2_ := Aside0.mk (hi); clear BK202; clear HB; clear HI225; have BK202 := n0_; have HB := n1_; have HI225 := n2_; clear n0_ n1_ n2_; (try clear hb); (try clear hb2); (try clear hk); (try clear hi)) | ((with_reducible refine gate_callee (f := 23) rfl ?_); refine goesL_ (some 64) rfl rfl Try.func23 (by kernel_rfl) rfl #[.pointer (some ⟨g225, 0, none⟩)] rfl (by (try simp only [List.map_toArray, List.map_cons, List.map_nil]); first | done | rfl | (simp only [List.length_drop, List.length_take]; rfl)) ?_; (with_reducible refine (wire_Reader_End.calls g225 t227 t228 t229 t230 t231 t232 t233 w _ ?side1 ?side2 A38.out).mono ?_); (case side1 => repeat (first | (with_reducible first | exact HI225.out | apply IsS73.alloc | apply IsS73.drewN | apply IsS73.drew | apply IsS73.set_0 | apply IsS73.set_1 | apply IsS73.set_2 | refine IsS73.far ?_ NB225_202.out _) | exact HI225.out)); (case side2 => repeat (first | (with_reducible first | exact HB.out | apply below_alloc | apply pw_below_drewN | apply below_drew1 | refine below_set ?_ (IsS73.ge HI225.out) | refine below_set ?_ GE202.out) | exact HB.out)); rintro e w88 ⟨rfl, hi, hb, hk⟩; refine ⟨_, rfl, ?_⟩; have n0_ := Aside0.mk (KeepBut.blk hk (g' := gb202) (o := .cells #[.int .u8 a2_0, .int .i64 a2_1, .int .i64 a2_2, .int .i64 a2_3] 32 (0, 0)) (by (with_reducible repeat (first | refine blk_drewN ?_ _ | refine blk_drew ?_ | refine blk_alloc ?_ _)); exact BK202.out) NB202_225.out (by simp)); have n1_ := Aside0.mk (hb); have n2_ := Aside0.mk (hi); clear BK202; clear HB; clear HI225; have BK202 := n0_; have HB := n1_; have HI225 := n2_; clear n0_ n1_ n2_; (try clear hb); (try clear hb2); (try clear hk); (try clear hi); have hcz89_0 : w88.cell? ⟨gb202, 0, none⟩ = some (.int .u8 a2_0) := (blk_cell BK202.out 0).trans rfl; have hcz89_1 : w88.cell? ⟨gb202, 1, none⟩ = some (.int .i64 a2_1) := (blk_cell BK202.out 1).trans rfl; have hcz89_2 : w88.cell? ⟨gb202, 2, none⟩ = some (.int .i64 a2_2) := (blk_cell BK202.out 2).trans rfl; have hcz89_3 : w88.cell? ⟨gb202, 3, none⟩ = some (.int .i64 a2_3) := (blk_cell BK202.out 3).trans rfl; have hfz89_0 := blk_frozen BK202.out 0; have hfz89_1 := blk_frozen BK202.out 1; have hfz89_2 := blk_frozen BK202.out 2; have hfz89_3 := blk_frozen BK202.out 3))
                go_ret
                exact ⟨by first | rfl | (simp [errW_none, errW_some] <;> rfl) | (simp [*, errW_none, errW_some] <;> rfl), by repeat (first | (with_reducible first | exact HB.out | apply below_alloc | apply pw_below_drewN | apply below_drew1 | refine below_set ?_ (IsS73.ge HI225.out) | refine below_set ?_ GE202.out) | exact HB.out)⟩

end Go.Proofs.Ytpbekhkmeaaejaa.PAll
