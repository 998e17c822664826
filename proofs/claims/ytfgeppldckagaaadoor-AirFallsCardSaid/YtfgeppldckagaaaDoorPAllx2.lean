-- Written by a changed copy of the kit's print program, run in this session (NOTES.md tells the change). Not trusted: Lean checks it.
import Derived.Test.YtfgeppldckagaaaDoorPAllx0
namespace Go.Proofs.YtfgeppldckagaaaDoor.PAll
open Go.RowKit Go.Proofs.YtfgeppldckagaaaDoorW.PrintWords Go.Proofs.YtfgeppldckagaaaDoorW.PrintLast Go.Proofs.YtfgeppldckagaaaDoorW.PrintMore
attribute [local go_sem] max2_int min2_int max_two min_two max_three min_three max_four min_four   -- for this text's walks alone
set_option linter.unusedVariables false
set_option linter.unusedSimpArgs false

/-! ### given air_Table: function 9 -/
def Temps : List Int := ([200, 400, 600, 800, 1000, 1200] : List Int)
def Deps : List Int := ([0, 20, 50, 100, 200, 300, 400] : List Int)
def Conts : List (List Int) := [([2800, 2200, 1750, 1250, 750, 480, 390] : List Int), ([2700, 2100, 1650, 1150, 680, 440, 350] : List Int), ([2600, 2000, 1550, 1060, 610, 400, 310] : List Int), ([2500, 1900, 1450, 980, 550, 360, 280] : List Int), ([2400, 1800, 1360, 900, 500, 330, 250] : List Int), ([2300, 1700, 1270, 830, 450, 300, 220] : List Int)]
structure Glob (w : World) : Prop where
  sz : 3 ≤ w.heap.size
  t : ∀ j, j < 6 → w.cell? ⟨0, j, none⟩ = some (.int .i64 (Temps.getD j 0))
  d : ∀ j, j < 7 → w.cell? ⟨1, j, none⟩ = some (.int .i64 (Deps.getD j 0))
  c : ∀ i j, i < 6 → j < 7 → w.cell? ⟨2, i * 7 + j, none⟩ = some (.int .i64 ((Conts.getD i []).getD j 0))
theorem Glob.below {w w1 : World} (h : Glob w) (hb : Below w.heap.size w w1) : Glob w1 := by
  have hs := h.sz
  have hs2 := hb.size
  exact ⟨by omega, fun j hj => (hb.cell (p := ⟨0, j, none⟩) (by show 0 < _; omega)).trans (h.t j hj), fun j hj => (hb.cell (p := ⟨1, j, none⟩) (by show 1 < _; omega)).trans (h.d j hj), fun i j hi hj => (hb.cell (p := ⟨2, _, none⟩) (by show 2 < _; omega)).trans (h.c i j hi hj)⟩
theorem idxT (m : Nat) (hm : m < 6) (w : World) : (Instr.index 44 (.agg #[.int .i64 200, .int .i64 400, .int .i64 600, .int .i64 800, .int .i64 1000, .int .i64 1200]) (.int .i64 (m : Int))).run Tryd.prog w = .ok (.int .i64 (Temps.getD m 0)) w := by
  rcases (show m = 0 ∨ m = 1 ∨ m = 2 ∨ m = 3 ∨ m = 4 ∨ m = 5 by omega) with rfl | rfl | rfl | rfl | rfl | rfl <;> kernel_rfl
theorem idxD (m : Nat) (hm : m < 7) (w : World) : (Instr.index 45 (.agg #[.int .i64 0, .int .i64 20, .int .i64 50, .int .i64 100, .int .i64 200, .int .i64 300, .int .i64 400]) (.int .i64 (m : Int))).run Tryd.prog w = .ok (.int .i64 (Deps.getD m 0)) w := by
  rcases (show m = 0 ∨ m = 1 ∨ m = 2 ∨ m = 3 ∨ m = 4 ∨ m = 5 ∨ m = 6 by omega) with rfl | rfl | rfl | rfl | rfl | rfl | rfl <;> kernel_rfl
def RowC (m : Nat) : Array Value := ((Conts.getD m []).map (Value.int .i64)).toArray
def AllC : List Value := (Conts.map (fun r => r.map (Value.int .i64))).flatten
theorem allC_get : ∀ j v, AllC[j]? = some v → ∃ a b, a < 6 ∧ b < 7 ∧ j = a * 7 + b ∧ v = .int .i64 ((Conts.getD a []).getD b 0) := by
  intro j v h
  have hj : j < 42 := (List.getElem?_eq_some_iff.1 h).1
  have key : ∀ a b, a < 6 → b < 7 → AllC[a * 7 + b]? = some (.int .i64 ((Conts.getD a []).getD b 0)) := by
    intro a b ha hb
    rcases (show a = 0 ∨ a = 1 ∨ a = 2 ∨ a = 3 ∨ a = 4 ∨ a = 5 by omega) with rfl | rfl | rfl | rfl | rfl | rfl <;> rcases (show b = 0 ∨ b = 1 ∨ b = 2 ∨ b = 3 ∨ b = 4 ∨ b = 5 ∨ b = 6 by omega) with rfl | rfl | rfl | rfl | rfl | rfl | rfl <;> rfl
  refine ⟨j / 7, j % 7, by omega, by omega, by omega, ?_⟩
  have h2 := key (j / 7) (j % 7) (by omega) (by omega)
  rw [show j / 7 * 7 + j % 7 = j from by omega, h] at h2
  exact Option.some.inj h2
theorem loadC (w : World) (h : Glob w) : (Instr.loadAt 46 (.pointer (some ⟨2, 0, none⟩))).run Tryd.prog w = .ok (.agg AllC.toArray) w := by
  refine run_loadAt_mid w 2 0 46 AllC _ (fun j v hj => ?_) Tryd.underlying46 (by kernel_rfl) (by kernel_rfl)
  obtain ⟨a, b, ha, hb, rfl, rfl⟩ := allC_get j v hj
  rw [Nat.zero_add]
  exact h.c a b ha hb
theorem idxC (m : Nat) (hm : m < 6) (w : World) : (Instr.index 46 (.agg AllC.toArray) (.int .i64 (m : Int))).run Tryd.prog w = .ok (.agg (RowC m)) w := by
  rcases (show m = 0 ∨ m = 1 ∨ m = 2 ∨ m = 3 ∨ m = 4 ∨ m = 5 by omega) with rfl | rfl | rfl | rfl | rfl | rfl <;> kernel_rfl
theorem idxR (m : Nat) (hm : m < 6) (q : Nat) (hq : q < 7) (w : World) : (Instr.index 45 (.agg (RowC m)) (.int .i64 (q : Int))).run Tryd.prog w = .ok (.int .i64 ((Conts.getD m []).getD q 0)) w := by
  rcases (show m = 0 ∨ m = 1 ∨ m = 2 ∨ m = 3 ∨ m = 4 ∨ m = 5 by omega) with rfl | rfl | rfl | rfl | rfl | rfl <;> rcases (show q = 0 ∨ q = 1 ∨ q = 2 ∨ q = 3 ∨ q = 4 ∨ q = 5 ∨ q = 6 by omega) with rfl | rfl | rfl | rfl | rfl | rfl | rfl <;> kernel_rfl
def Mark (_ : Int) : Prop := True
def at7 (x0 x1 x2 x3 x4 x5 x6 : Int) (q : Nat) : Int := [x0, x1, x2, x3, x4, x5, x6].getD q 0
theorem idx7 (x0 x1 x2 x3 x4 x5 x6 : Int) (_ : Mark x0) (q : Nat) (hq : q < 7) (w : World) : (Instr.index 45 (.agg #[.int .i64 x0, .int .i64 x1, .int .i64 x2, .int .i64 x3, .int .i64 x4, .int .i64 x5, .int .i64 x6]) (.int .i64 (q : Int))).run Tryd.prog w = .ok (.int .i64 (at7 x0 x1 x2 x3 x4 x5 x6 q)) w := by
  rcases (show q = 0 ∨ q = 1 ∨ q = 2 ∨ q = 3 ∨ q = 4 ∨ q = 5 ∨ q = 6 by omega) with rfl | rfl | rfl | rfl | rfl | rfl | rfl <;> kernel_rfl
theorem rowC (i : Nat) (hi : i < 6) : ∃ x0 x1 x2 x3 x4 x5 x6 : Int, Conts.getD i [] = [x0, x1, x2, x3, x4, x5, x6] ∧ RowC i = #[.int .i64 x0, .int .i64 x1, .int .i64 x2, .int .i64 x3, .int .i64 x4, .int .i64 x5, .int .i64 x6] ∧ Mark x0 := by
  rcases (show i = 0 ∨ i = 1 ∨ i = 2 ∨ i = 3 ∨ i = 4 ∨ i = 5 by omega) with rfl | rfl | rfl | rfl | rfl | rfl <;> exact ⟨_, _, _, _, _, _, _, rfl, rfl, trivial⟩
attribute [local go_sem ↓] idxT idxD idxC idx7
def air_Table.f  : Option (List Int × List Int × (List (List Int))) := some ((([200, 400, 600, 800, 1000, 1200] : List Int)), (([0, 20, 50, 100, 200, 300, 400] : List Int)), (([(([2800, 2200, 1750, 1250, 750, 480, 390] : List Int)), (([2700, 2100, 1650, 1150, 680, 440, 350] : List Int)), (([2600, 2000, 1550, 1060, 610, 400, 310] : List Int)), (([2500, 1900, 1450, 980, 550, 360, 280] : List Int)), (([2400, 1800, 1360, 900, 500, 330, 250] : List Int)), (([2300, 1700, 1270, 830, 450, 300, 220] : List Int))] : List (List Int))))
set_option maxHeartbeats 4000000 in
set_option maxRecDepth 100000 in
theorem air_Table.calls  (r1 : List Int) (r2 : List Int) (r3 : List (List Int)) (w : World) (h : air_Table.f  = some (r1, r2, r3)) (hG : Glob w) :
    Calls Tryd.prog 9 #[] w fun e w' => ∃ v0_ v1_ v2_ : Value, e = .returned (.agg #[v0_, v1_, v2_]) ∧ Kd.R (Kd.int .i64) 3 w' w.heap.size (fun k_ => (w.heap.size ≤ k_) ∧ some k_ ≠ (v1_ : Value).ownBlock) v0_ r1 ∧ Kd.R (Kd.int .i64) 3 w' w.heap.size (fun k_ => (w.heap.size ≤ k_) ∧ some k_ ≠ (v0_ : Value).ownBlock) v1_ r2 ∧ Kd.N (Kd.slice 3 (Kd.int .i64)) 22 w' w.heap.size (fun k_ => (w.heap.size ≤ k_) ∧ some k_ ≠ (v0_ : Value).ownBlock ∧ some k_ ≠ (v1_ : Value).ownBlock) v2_ r3 ∧ Below w.heap.size w w' := by
  have H : some (Temps, Deps, Conts) = some (r1, r2, r3) := h
  clear h
  simp only [Option.some.injEq, Prod.mk.injEq] at H
  obtain ⟨rfl, rfl, rfl⟩ := H
  have h0 := hG.sz
  have HG := Aside0.mk hG
  have g00 : w.cell? ⟨0, 0, none⟩ = some (.int .i64 200) := hG.t 0 (by omega)
  have g01 : w.cell? ⟨0, 1, none⟩ = some (.int .i64 400) := hG.t 1 (by omega)
  have g02 : w.cell? ⟨0, 2, none⟩ = some (.int .i64 600) := hG.t 2 (by omega)
  have g03 : w.cell? ⟨0, 3, none⟩ = some (.int .i64 800) := hG.t 3 (by omega)
  have g04 : w.cell? ⟨0, 4, none⟩ = some (.int .i64 1000) := hG.t 4 (by omega)
  have g05 : w.cell? ⟨0, 5, none⟩ = some (.int .i64 1200) := hG.t 5 (by omega)
  clear hG
  have z0 : 0 < w.heap.size := by omega
  go_enter Tryd.func9, Tryd.ntmps9
  go_wp2
  have hB0 := below_alloc (below_alloc (Below.refl w.heap.size w) (.cells #[.slice none 0 0, .slice none 0 0, .slice none 0 0] 25)) (.cells #[.slice none 0 0, .slice none 0 0, .slice none 0 0] 25)
  have hb0 : ((w.alloc (.cells #[.slice none 0 0, .slice none 0 0, .slice none 0 0] 25)).alloc (.cells #[.slice none 0 0, .slice none 0 0, .slice none 0 0] 25)).heap[w.heap.size]? = some (.cells #[.slice none 0 0, .slice none 0 0, .slice none 0 0] 25 (0, 0)) := blk_alloc (blk_new w _) _
  have hb1 : ((w.alloc (.cells #[.slice none 0 0, .slice none 0 0, .slice none 0 0] 25)).alloc (.cells #[.slice none 0 0, .slice none 0 0, .slice none 0 0] 25)).heap[w.heap.size + 1]? = some (.cells #[.slice none 0 0, .slice none 0 0, .slice none 0 0] 25 (0, 0)) := by
    have := blk_new (w.alloc (.cells #[.slice none 0 0, .slice none 0 0, .slice none 0 0] 25)) (.cells #[.slice none 0 0, .slice none 0 0, .slice none 0 0] 25)
    simpa using this
  generalize ((w.alloc (.cells #[.slice none 0 0, .slice none 0 0, .slice none 0 0] 25)).alloc (.cells #[.slice none 0 0, .slice none 0 0, .slice none 0 0] 25)) = w2 at *
  go_loopw [12] (fun a wr => ∃ m : Nat, m ≤ 6 ∧ a = .int .i64 m ∧ ∃ v0 : Value, Hid (Kd.R (Kd.int .i64) 3 wr w.heap.size (fun _ => True) v0 (Temps.take m)) ∧ Hid (wr.heap[w.heap.size]? = some (.cells #[.slice none 0 0, .slice none 0 0, .slice none 0 0] 25 (0, 0))) ∧ Hid (wr.heap[w.heap.size + 1]? = some (.cells #[v0, .slice none 0 0, .slice none 0 0] 25 (0, 0))) ∧ Hid (Below w.heap.size w wr)) (fun a _ => 6 - (intOf a).toNat)
  case atStart => exact ⟨0, Nat.zero_le _, rfl, _, Lib.hid (Kd.R_nil _ _ _ _ _), Lib.hid hb0, Lib.hid hb1, Lib.hid hB0⟩
  case round =>
    obtain ⟨m, hm, rfl, v0, HR, H0, H1, HB⟩ := hrel
    by_cases hlt : m < 6
    · have hc0 := blk_cell H1.out 0
      have hf0 := blk_frozen H1.out 0
      have hlen : (Temps.take m).length = m := by rw [List.length_take]; show min m 6 = m; omega
      go_wp2_with (first | ((with_reducible refine gate_builtin (b := .append) (xs := #[.tmp 16, .tmp 18]) rfl ?_); at_builtin; refine Kd.R_append (Kd.int .i64) (w0 := w) w.heap.size rfl (.tmp 16) (.tmp 18) 22 3 (.int .i64 0) 8 rfl Tryd.underlying22 info3 rfl (by decide) (by omega) v0 (Temps.take m) (Temps[m]?.getD 0) [.int .i64 (Temps[m]?.getD 0)] (fun _ => True) (fun _ => False) rfl rfl ?aP (fun _ hk => hk.elim) (fun _ _ => trivial) ?aO ?aB ?aS ?aL ?_; (case aP => exact rfl); (case aO => exact HR.out); (case aB => exact HB.out); (case aS => exact HB.out.size); (case aL => rw [hlen]; omega); intro v1 w3 ho hb hg hat; obtain ⟨A1, c1, e1⟩ := Kd.R_slice ho; subst e1; have H13 := Lib.hid (blk_grown H1.out hg (Kd.R_ne HR.out H1.out (by decide))); have H03 := Lib.hid (blk_grown H0.out hg (Kd.R_ne HR.out H0.out (by decide))); have HO := Lib.hid ho; have HB3 := Lib.hid hb; have hc3 := blk_cell H13.out 0; have hf3 := blk_frozen H13.out 0; clear ho hb hg hat))
      have ht : Temps.take m ++ [Temps[m]?.getD 0] = Temps.take (m + 1) := by
        rcases (show m = 0 ∨ m = 1 ∨ m = 2 ∨ m = 3 ∨ m = 4 ∨ m = 5 by omega) with rfl | rfl | rfl | rfl | rfl | rfl <;> rfl
      go_roundw
      case rel =>
        have hl2 : (Temps.take m ++ [Temps[m]?.getD 0]).length = m + 1 := by rw [List.length_append, hlen]; rfl
        have HO2 := HO.out
        rw [hl2, ht] at HO2
        exact ⟨m + 1, by omega, by go_num, .slice A1 (m + 1) c1, Lib.hid (Kd.R_set HO2 H13.out (by decide) 0 _), Lib.hid ((Below.heap_setCell _ _ _ _ (by show w.heap.size ≠ w.heap.size + 1; omega)).trans H03.out), Lib.hid (blk_put H13.out 0 _ rfl), Lib.hid (below_set HB3.out (by omega))⟩
      case measure => simp [intOf]; omega
    · have h6 : m = 6 := by omega
      have hGr := HG.out.below (w1 := wr) HB.out
      have g10 : wr.cell? ⟨1, 0, none⟩ = some (.int .i64 0) := hGr.d 0 (by omega)
      have g11 : wr.cell? ⟨1, 1, none⟩ = some (.int .i64 20) := hGr.d 1 (by omega)
      have g12 : wr.cell? ⟨1, 2, none⟩ = some (.int .i64 50) := hGr.d 2 (by omega)
      have g13 : wr.cell? ⟨1, 3, none⟩ = some (.int .i64 100) := hGr.d 3 (by omega)
      have g14 : wr.cell? ⟨1, 4, none⟩ = some (.int .i64 200) := hGr.d 4 (by omega)
      have g15 : wr.cell? ⟨1, 5, none⟩ = some (.int .i64 300) := hGr.d 5 (by omega)
      have g16 : wr.cell? ⟨1, 6, none⟩ = some (.int .i64 400) := hGr.d 6 (by omega)
      clear hGr
      have hT6 : Temps.take m = Temps := by rw [h6]; rfl
      clear h6
      rw [hT6] at HR
      have HR2 := Lib.hid (Kd.R_mono (ok' := fun k => some k ≠ (Value.slice none 0 0).ownBlock) HR.out (fun k _ => by simp [Value.ownBlock]))
      clear HR
      go_wp2_with fail
      go_loopw [23] (fun a wq => ∃ q : Nat, q ≤ 7 ∧ a = .int .i64 q ∧ ∃ v1 : Value, Hid (Kd.R (Kd.int .i64) 3 wq w.heap.size (fun k => some k ≠ v1.ownBlock) v0 Temps) ∧ Hid (Kd.R (Kd.int .i64) 3 wq w.heap.size (fun k => some k ≠ v0.ownBlock) v1 (Deps.take q)) ∧ Hid (wq.heap[w.heap.size]? = some (.cells #[.slice none 0 0, .slice none 0 0, .slice none 0 0] 25 (0, 0))) ∧ Hid (wq.heap[w.heap.size + 1]? = some (.cells #[v0, v1, .slice none 0 0] 25 (0, 0))) ∧ Hid (Below w.heap.size w wq)) (fun a _ => 7 - (intOf a).toNat)
      case atStart => exact ⟨0, Nat.zero_le _, rfl, _, HR2, Lib.hid (Kd.R_nil _ _ _ _ _), H0, H1, HB⟩
      case round =>
        clear H0 H1 HB HR2
        obtain ⟨q, hq, rfl, v1, F0, F1, H0, H1, HB⟩ := hrel
        by_cases hlt2 : q < 7
        · have hc0 := blk_cell H1.out 1
          have hf0 := blk_frozen H1.out 1
          have hlen : (Deps.take q).length = q := by rw [List.length_take]; show min q 7 = q; omega
          go_wp2_with (first | ((with_reducible refine gate_builtin (b := .append) (xs := #[.tmp 27, .tmp 29]) rfl ?_); at_builtin; refine Kd.R_append (Kd.int .i64) (w0 := w) w.heap.size rfl (.tmp 27) (.tmp 29) 22 3 (.int .i64 0) 8 rfl Tryd.underlying22 info3 rfl (by decide) (by omega) v1 (Deps.take q) (Deps[q]?.getD 0) [.int .i64 (Deps[q]?.getD 0)] (fun k => some k ≠ v0.ownBlock) (fun _ => False) rfl rfl ?aP (fun _ hk => hk.elim) (fun k hk => Kd.fresh' (Kd.R_lt F0.out) k hk) ?aO ?aB ?aS ?aL ?_; (case aP => exact rfl); (case aO => exact F1.out); (case aB => exact HB.out); (case aS => exact HB.out.size); (case aL => rw [hlen]; omega); intro v2 w3 ho hb hg hat; have F02 := Lib.hid (Kd.R_mono (ok' := fun k => some k ≠ v2.ownBlock) (Kd.R_after (ok := fun _ => True) (Kd.R_mono F0.out (fun _ hk => ⟨trivial, hk⟩)) hg hat) (fun _ hk => hk.2)); have H13 := Lib.hid (blk_grown H1.out hg (Kd.R_ne F1.out H1.out (by decide))); have H03 := Lib.hid (blk_grown H0.out hg (Kd.R_ne F1.out H0.out (by decide))); obtain ⟨A1, c1, e1⟩ := Kd.R_slice ho; subst e1; have HO := Lib.hid ho; have HB3 := Lib.hid hb; have hc3 := blk_cell H13.out 1; have hf3 := blk_frozen H13.out 1; clear ho hb hg hat))
          have ht : Deps.take q ++ [Deps[q]?.getD 0] = Deps.take (q + 1) := by
            rcases (show q = 0 ∨ q = 1 ∨ q = 2 ∨ q = 3 ∨ q = 4 ∨ q = 5 ∨ q = 6 by omega) with rfl | rfl | rfl | rfl | rfl | rfl | rfl <;> rfl
          go_roundw
          case rel =>
            have hl2 : (Deps.take q ++ [Deps[q]?.getD 0]).length = q + 1 := by rw [List.length_append, hlen]; rfl
            have HO2 := HO.out
            have F03 := F02.out
            rw [hl2] at HO2 F03
            rw [ht] at HO2
            exact ⟨q + 1, by omega, by go_num, .slice A1 (q + 1) c1, Lib.hid (Kd.R_set F03 H13.out (by decide) 1 _), Lib.hid (Kd.R_set HO2 H13.out (by decide) 1 _), Lib.hid ((Below.heap_setCell _ _ _ _ (by show w.heap.size ≠ w.heap.size + 1; omega)).trans H03.out), Lib.hid (blk_put H13.out 1 _ rfl), Lib.hid (below_set HB3.out (by omega))⟩
          case measure => simp [intOf]; omega
        · have h7 : q = 7 := by omega
          have hT7 : Deps.take q = Deps := by rw [h7]; rfl
          clear h7
          rw [hT7] at F1
          have hGr := HG.out.below (w1 := wr) HB.out
          have hRC : wr.rangeAt 2 0 AllC := fun j v hj => by
            obtain ⟨a, b, ha, hb, rfl, rfl⟩ := allC_get j v hj
            rw [Nat.zero_add]
            exact hGr.c a b ha hb
          clear hGr
          go_wp2_with (first | (refine wpList_load_mid rfl 46 (.global 2) rfl 2 0 rfl AllC _ hRC Tryd.underlying46 (by kernel_rfl) (by kernel_rfl) ?_))
          have F2 := Lib.hid (Kd.R_nil (Kd.slice 3 (Kd.int .i64)) 22 wr w.heap.size (fun k => some k ≠ v0.ownBlock ∧ some k ≠ v1.ownBlock))
          go_loopw [34] (fun a wq => ∃ i : Nat, i ≤ 6 ∧ a = .int .i64 i ∧ ∃ v2 : Value, Hid (Kd.R (Kd.int .i64) 3 wq w.heap.size (fun k => some k ≠ v1.ownBlock) v0 Temps) ∧ Hid (Kd.R (Kd.int .i64) 3 wq w.heap.size (fun k => some k ≠ v0.ownBlock) v1 Deps) ∧ Hid (Kd.R (Kd.slice 3 (Kd.int .i64)) 22 wq w.heap.size (fun k => some k ≠ v0.ownBlock ∧ some k ≠ v1.ownBlock) v2 (Conts.take i)) ∧ Hid (wq.heap[w.heap.size]? = some (.cells #[.slice none 0 0, .slice none 0 0, .slice none 0 0] 25 (0, 0))) ∧ Hid (wq.heap[w.heap.size + 1]? = some (.cells #[v0, v1, v2] 25 (0, 0))) ∧ Hid (Below w.heap.size w wq)) (fun a _ => 6 - (intOf a).toNat)
          case atStart => exact ⟨0, Nat.zero_le _, rfl, _, F0, F1, F2, H0, H1, HB⟩
          case round =>
            clear F0 F1 F2 H0 H1 HB hRC
            obtain ⟨i, hi, rfl, v2, F0, F1, F2, H0, H1, HB⟩ := hrel
            by_cases hlt3 : i < 6
            · obtain ⟨x0, x1, x2, x3, x4, x5, x6, hrow, hRow, hMk⟩ := rowC i hlt3
              go_wp2_with fail
              obtain ⟨wo, hwo⟩ : ∃ wo, wo = wr := ⟨_, rfl⟩
              subst hwo
              have hb5 := below_alloc (Below.refl wo.heap.size wo) (.cells #[.int .i64 x0, .int .i64 x1, .int .i64 x2, .int .i64 x3, .int .i64 x4, .int .i64 x5, .int .i64 x6] 45)
              have G0 := Lib.hid (Kd.R_old F0.out hb5)
              have G1 := Lib.hid (Kd.R_old F1.out hb5)
              have G2 := Lib.hid (Kd.R_old F2.out hb5)
              have H05 := Lib.hid (blk_below H0.out hb5)
              have H15 := Lib.hid (blk_below H1.out hb5)
              have HB5 := Lib.hid (below_step HB.out hb5)
              have hN : w.heap.size + 1 < wo.heap.size := blk_lt H1.out
              have HS5 := Lib.hid hb5.size
              generalize wo.alloc (.cells #[.int .i64 x0, .int .i64 x1, .int .i64 x2, .int .i64 x3, .int .i64 x4, .int .i64 x5, .int .i64 x6] 45) = w5 at *
              generalize Value.bool (decide ((i : Int) < 6)) = vb35
              go_loopw [8, 38] (fun vl a wq => ∃ p : Nat, p ≤ 7 ∧ a = .int .i64 p ∧ Hid (Kd.R (Kd.int .i64) 3 wq w.heap.size (fun k => some k ≠ v1.ownBlock ∧ k < wo.heap.size) v0 Temps) ∧ Hid (Kd.R (Kd.int .i64) 3 wq w.heap.size (fun k => some k ≠ v0.ownBlock ∧ k < wo.heap.size) v1 Deps) ∧ Hid (Kd.R (Kd.slice 3 (Kd.int .i64)) 22 wq w.heap.size (fun k => (some k ≠ v0.ownBlock ∧ some k ≠ v1.ownBlock) ∧ k < wo.heap.size) v2 (Conts.take i)) ∧ Hid (Kd.R (Kd.int .i64) 3 wq w.heap.size (fun k => wo.heap.size ≤ k) vl ([x0, x1, x2, x3, x4, x5, x6].take p)) ∧ Hid (wq.heap[w.heap.size]? = some (.cells #[.slice none 0 0, .slice none 0 0, .slice none 0 0] 25 (0, 0))) ∧ Hid (wq.heap[w.heap.size + 1]? = some (.cells #[v0, v1, v2] 25 (0, 0))) ∧ Hid (Below w.heap.size w wq) ∧ Hid (wo.heap.size ≤ wq.heap.size)) (fun _ a _ => 7 - (intOf a).toNat)
              case atStart => exact ⟨0, Nat.zero_le _, rfl, G0, G1, G2, Lib.hid (Kd.R_nil _ _ _ _ _), H05, H15, HB5, HS5⟩
              case round =>
                clear G0 G1 G2 H05 H15 HB5 HS5
                obtain ⟨p, hp, rfl, G0, G1, G2, GL, H05, H15, HB5, HS5⟩ := hrel
                by_cases hlt4 : p < 7
                · have hlen : ([x0, x1, x2, x3, x4, x5, x6].take p).length = p := by rw [List.length_take]; show min p 7 = p; omega
                  go_wp2_with (first | ((with_reducible refine gate_builtin (b := .append) (xs := #[.tmp 41, .tmp 43]) rfl ?_); at_builtin; refine Kd.R_append (Kd.int .i64) (w0 := w) w.heap.size rfl (.tmp 41) (.tmp 43) 22 3 (.int .i64 0) 8 rfl Tryd.underlying22 info3 rfl (by decide) (by omega) u8 ([x0, x1, x2, x3, x4, x5, x6].take p) (at7 x0 x1 x2 x3 x4 x5 x6 p) [.int .i64 (at7 x0 x1 x2 x3 x4 x5 x6 p)] (fun k => wo.heap.size ≤ k) (fun _ => False) rfl rfl ?aP (fun _ hk => hk.elim) (fun k hk => Nat.le_trans HS5.out hk) ?aO ?aB ?aS ?aL ?_; (case aP => exact rfl); (case aO => exact GL.out); (case aB => exact HB5.out); (case aS => exact HB5.out.size); (case aL => rw [hlen]; omega); intro vn w6 ho hb hg hat; have K0 := Lib.hid (Kd.R_grown G0.out hg (fun k hk e => absurd (GL.out.1 k e.symm) (Nat.not_le.2 hk.2))); have K1 := Lib.hid (Kd.R_grown G1.out hg (fun k hk e => absurd (GL.out.1 k e.symm) (Nat.not_le.2 hk.2))); have K2 := Lib.hid (Kd.R_grown G2.out hg (fun k hk e => absurd (GL.out.1 k e.symm) (Nat.not_le.2 hk.2))); have J1 := Lib.hid (blk_grown H15.out hg (Kd.R_ne GL.out H15.out (by decide))); have J0 := Lib.hid (blk_grown H05.out hg (Kd.R_ne GL.out H05.out (by decide))); have HO := Lib.hid ho; have HB6 := Lib.hid hb; have HS6 := Lib.hid (Nat.le_trans HS5.out hg.size); clear ho hb hg hat))
                  have ht : [x0, x1, x2, x3, x4, x5, x6].take p ++ [at7 x0 x1 x2 x3 x4 x5 x6 p] = [x0, x1, x2, x3, x4, x5, x6].take (p + 1) := by
                    rcases (show p = 0 ∨ p = 1 ∨ p = 2 ∨ p = 3 ∨ p = 4 ∨ p = 5 ∨ p = 6 by omega) with rfl | rfl | rfl | rfl | rfl | rfl | rfl <;> rfl
                  go_roundw
                  case rel => exact ⟨p + 1, by omega, by go_num, K0, K1, K2, Lib.hid (by rw [← ht]; exact HO.out), J0, J1, HB6, HS6⟩
                  case measure => simp [intOf]; omega
                · have h7 : p = 7 := by omega
                  have hT : [x0, x1, x2, x3, x4, x5, x6].take p = [x0, x1, x2, x3, x4, x5, x6] := by rw [h7]; rfl
                  clear h7
                  rw [hT] at GL
                  have hN0 : ∀ k, wo.heap.size ≤ k → some k ≠ v0.ownBlock := fun k hk e => absurd (G0.out.1 k e.symm).2 (Nat.not_lt.2 hk)
                  have hN1 : ∀ k, wo.heap.size ≤ k → some k ≠ v1.ownBlock := fun k hk e => absurd (G1.out.1 k e.symm).2 (Nat.not_lt.2 hk)
                  have hN2 : ∀ k, wo.heap.size ≤ k → some k ≠ v2.ownBlock := fun k hk e => absurd (G2.out.1 k e.symm).2 (Nat.not_lt.2 hk)
                  have M0 := Lib.hid (Kd.R_mono G0.out (ok' := fun k => some k ≠ v1.ownBlock) (fun _ hk => hk.1))
                  have M1 := Lib.hid (Kd.R_mono G1.out (ok' := fun k => some k ≠ v0.ownBlock) (fun _ hk => hk.1))
                  have M2 := Lib.hid (Kd.R_mono G2.out (ok' := fun k => some k ≠ v0.ownBlock ∧ some k ≠ v1.ownBlock) (fun _ hk => hk.1))
                  have HN := Lib.hid (And.intro hN0 (And.intro hN1 hN2))
                  clear hN0 hN1 hN2 G0 G1 G2
                  have hlc : (Conts.take i).length = i := by rw [List.length_take]; show min i 6 = i; omega
                  have hc0 := blk_cell H15.out 2
                  have hf0 := blk_frozen H15.out 2
                  have HLC := Lib.hid hlc
                  obtain ⟨A8, c8, e8⟩ := Kd.R_slice GL.out
                  have e8' : u8 = .slice A8 7 c8 := e8
                  clear e8
                  subst e8'
                  clear hlc
                  go_wp2_with (first | ((with_reducible refine gate_builtin (b := .append) (xs := #[.tmp 47, .tmp 49]) rfl ?_); at_builtin; refine Kd.R_append (Kd.slice 3 (Kd.int .i64)) (w0 := w) w.heap.size rfl (.tmp 47) (.tmp 49) 23 22 (.slice none 0 0) 24 rfl Tryd.underlying23 info22 rfl (by decide) (by omega) v2 (Conts.take i) [x0, x1, x2, x3, x4, x5, x6] [.slice A8 7 c8] (fun k => some k ≠ v0.ownBlock ∧ some k ≠ v1.ownBlock) (fun k => wo.heap.size ≤ k) rfl rfl ?aP (fun k hk => ⟨⟨HN.out.1 k hk, HN.out.2.1 k hk⟩, HN.out.2.2 k hk⟩) (fun k hk => ⟨Kd.fresh' (Kd.R_lt M0.out) k hk, Kd.fresh' (Kd.R_lt M1.out) k hk⟩) ?aO ?aB ?aS ?aL ?_; (case aP => exact Kd.M_row GL.out); (case aO => exact M2.out); (case aB => exact HB5.out); (case aS => exact HB5.out.size); (case aL => rw [HLC.out]; omega); intro vn w6 ho hb hg hat; have K0 := Lib.hid (Kd.R_over' M0.out (Kd.R_typed M2.out) (by decide) hg); have K1 := Lib.hid (Kd.R_over' M1.out (Kd.R_typed M2.out) (by decide) hg); have J1 := Lib.hid (blk_grown H15.out hg (Kd.R_ne M2.out H15.out (by decide))); have J0 := Lib.hid (blk_grown H05.out hg (Kd.R_ne M2.out H05.out (by decide))); obtain ⟨A1, c1, e1⟩ := Kd.R_slice ho; subst e1; have HO := Lib.hid ho; have HB6 := Lib.hid hb; have hc3 := blk_cell J1.out 2; have hf3 := blk_frozen J1.out 2; clear ho hb hg hat))
                  have ht : Conts.take i ++ [[x0, x1, x2, x3, x4, x5, x6]] = Conts.take (i + 1) := by
                    rw [← hrow]
                    rcases (show i = 0 ∨ i = 1 ∨ i = 2 ∨ i = 3 ∨ i = 4 ∨ i = 5 by omega) with rfl | rfl | rfl | rfl | rfl | rfl <;> rfl
                  go_roundw
                  case rel =>
                    have hl2 : (Conts.take i ++ [[x0, x1, x2, x3, x4, x5, x6]]).length = min i Conts.length + 1 := by rw [List.length_append, List.length_take]; rfl
                    have HO2 := HO.out
                    rw [hl2, ht] at HO2
                    exact ⟨i + 1, by omega, by go_num, .slice A1 (min i Conts.length + 1) c1, Lib.hid (Kd.R_set K0.out J1.out (by decide) 2 _), Lib.hid (Kd.R_set K1.out J1.out (by decide) 2 _), Lib.hid (Kd.R_set HO2 J1.out (by decide) 2 _), Lib.hid ((Below.heap_setCell _ _ _ _ (by show w.heap.size ≠ w.heap.size + 1; omega)).trans J0.out), Lib.hid (blk_put J1.out 2 _ rfl), Lib.hid (below_set HB6.out (by omega))⟩
                  case measure => simp [intOf]; omega
            · have h6 : i = 6 := by omega
              have hT6 : Conts.take i = Conts := by rw [h6]; rfl
              clear h6
              rw [hT6] at F2
              have F00 := Kd.R_bound F0.out
              have F11 := Kd.R_bound F1.out
              have F22 := Kd.R_bound F2.out
              have P0 := Lib.hid (Kd.R_mono F00 (ok' := fun k => w.heap.size ≤ k ∧ some k ≠ v1.ownBlock) (fun _ hk => ⟨hk.2.1, hk.1⟩))
              have P1 := Lib.hid (Kd.R_mono F11 (ok' := fun k => w.heap.size ≤ k ∧ some k ≠ v0.ownBlock) (fun _ hk => ⟨hk.2.1, hk.1⟩))
              have P2 := Lib.hid (Kd.R_mono F22 (ok' := fun k => w.heap.size ≤ k ∧ some k ≠ v0.ownBlock ∧ some k ≠ v1.ownBlock) (fun _ hk => ⟨hk.2.1, hk.1⟩))
              clear F0 F1 F2 F00 F11 F22
              obtain ⟨B0, d0, e0⟩ := Kd.R_slice P0.out
              obtain ⟨B1, d1, e1⟩ := Kd.R_slice P1.out
              obtain ⟨B2, d2, e2⟩ := Kd.R_slice P2.out
              have e0' : v0 = .slice B0 6 d0 := e0
              have e1' : v1 = .slice B1 7 d1 := e1
              have e2' : v2 = .slice B2 6 d2 := e2
              clear e0 e1 e2
              subst e0' e1' e2'
              have hk0 := blk_cell H0.out 0
              have hk1 := blk_cell H0.out 1
              have hk2 := blk_cell H0.out 2
              have hk3 := blk_frozen H0.out 0
              have hk4 := blk_frozen H0.out 1
              have hk5 := blk_frozen H0.out 2
              have hc0 := blk_cell H1.out 0
              have hc1 := blk_cell H1.out 1
              have hc2 := blk_cell H1.out 2
              have hf0 := blk_frozen H1.out 0
              go_wp2_with fail
              refine bodyPost_ret (results_cell_row rfl _ _ w.heap.size 25 #[.slice B0 6 d0, .slice B1 7 d1, .slice B2 6 d2] (0, 0) _ rfl (blk_put (cs := #[.slice B0 6 d0, .slice B1 7 d1, .slice none 0 0]) (blk_put (cs := #[.slice B0 6 d0, .slice none 0 0, .slice none 0 0]) (blk_put (cs := #[.slice none 0 0, .slice none 0 0, .slice none 0 0]) H0.out 0 _ rfl) 1 _ rfl) 2 _ rfl) Tryd.underlying25 rfl (by kernel_rfl)) rfl ?_
              have Q1 := blk_put H0.out 0 (.slice B0 6 d0) rfl
              have Q2 := blk_put Q1 1 (.slice B1 7 d1) rfl
              exact ⟨_, _, _, rfl, Kd.R_set (Kd.R_set (Kd.R_set P0.out H0.out (by decide) 0 _) Q1 (by decide) 1 _) Q2 (by decide) 2 _, Kd.R_set (Kd.R_set (Kd.R_set P1.out H0.out (by decide) 0 _) Q1 (by decide) 1 _) Q2 (by decide) 2 _, Kd.R_N (Kd.R_set (Kd.R_set (Kd.R_set P2.out H0.out (by decide) 0 _) Q1 (by decide) 1 _) Q2 (by decide) 2 _), below_set (below_set (below_set HB.out (Nat.le_refl _)) (Nat.le_refl _)) (Nat.le_refl _)⟩

end Go.Proofs.YtfgeppldckagaaaDoor.PAll
