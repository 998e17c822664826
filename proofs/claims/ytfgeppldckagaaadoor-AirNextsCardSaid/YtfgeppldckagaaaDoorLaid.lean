/- What the condition on the three listed variables says of the cells of the blocks 0, 1 and 2. No condition beyond it. -/
import Derived.Test.YtfgeppldckagaaaDoorRows
import Derived.Test.YtfgeppldckagaaaDoorPAllx2
import Derived.ProofKit
import Derived.LaidMore
import Derived.OpenShut
import Derived.Stop.Joined
import Derived.LaidLaws
namespace Go.Proofs.YtfgeppldckagaaaDoor.Laid
open Go.ChangeShapes Go.WideShapes Go.ChangeAt Go.RowKit Go.Proofs.YtfgeppldckagaaaDoor.PAll

def laid3 : List (String × DataW Unit) := [("sawmill/air.temps", Rows.laid_sawmill_air_temps), ("sawmill/air.depresses", Rows.laid_sawmill_air_depresses), ("sawmill/air.contents", Rows.laid_sawmill_air_contents)]
theorem gT : Tryd.prog.globalNamed "sawmill/air.temps" = some 0 := by kernel_rfl
theorem gD : Tryd.prog.globalNamed "sawmill/air.depresses" = some 1 := by kernel_rfl
theorem gC : Tryd.prog.globalNamed "sawmill/air.contents" = some 2 := by kernel_rfl
theorem tT : (Tryd.prog.globals[0]?).map (·.type) = some 44 := by kernel_rfl
theorem tD : (Tryd.prog.globals[1]?).map (·.type) = some 45 := by kernel_rfl
theorem tC : (Tryd.prog.globals[2]?).map (·.type) = some 46 := by kernel_rfl
theorem c3 : Tryd.prog.cellsOf 3 = 1 := by kernel_rfl
theorem c45 : Tryd.prog.cellsOf 45 = 7 := by kernel_rfl
theorem door_met (os : Os) (args : Array Value) : laidMetH Tryd.prog laid3 ((World.doorLaid Tryd.prog 400 os).forCall (fun _ _ => 0) ⟨#[], args, []⟩).memory :=
  laidMetH_of_parts3 (fuel := 8) (laidMet_of_run' 8 (by kernel_rfl) (by kernel_rfl)) (by kernel_rfl) (by kernel_rfl)

/-- An array of whole numbers that reads as L. -/
theorem ints {t n fuel : Nat} {W : World} {sp : Nat → Bool} {cs : List Value} {L : List Int} {p : List MemPlace} (hu : Tryd.prog.underlying t = some (.array n 3))
    (hd : DataW.trod (fun _ => ()) Tryd.prog W 0 sp false fuel t cs = some (.agg (L.map fun z => .lit (.int .i64 z)), p)) : ∀ j, j < n → cs[j]? = some (.int .i64 (L.getD j 0)) := by
  obtain ⟨xs, m, rfl, hx, _, hn, hel⟩ := DataW.trod_array hu hd
  intro j hj
  have h := hel j hj
  rw [c3, Nat.mul_one] at h
  have hj' : j < xs.length := by omega
  rw [List.getElem?_eq_getElem hj'] at h
  obtain ⟨z, e1, e2, _⟩ := DataW.trod_int Tryd.underlying3 h
  simp only [Prod.mk.injEq, DataW.agg.injEq] at hx
  have hL : j < L.length := by have := congrArg List.length hx.1; simp at this; omega
  have h2 : (xs.map (·.1))[j]? = (L.map fun z => (DataW.lit (.int .i64 z) : DataW Unit))[j]? := by rw [← hx.1]
  rw [List.getElem?_map, List.getElem?_map, List.getElem?_eq_getElem hj', List.getElem?_eq_getElem hL, e2] at h2
  have hz : z = L[j] := by simpa using h2
  have h3 : (cs.drop j).take 1 = [.int .i64 z] := e1
  have h4 : cs[j]? = some (.int .i64 z) := by
    have := congrArg (fun l => l[0]?) h3
    simpa [List.getElem?_take, List.getElem?_drop] using this
  rw [h4, hz, List.getD_eq_getElem?_getD, List.getElem?_eq_getElem hL]
  rfl

theorem of_laid {W : World} (h : laidMetH Tryd.prog laid3 W) : Glob W := by
  rw [MakeChecks.laidMetH_plain _ _ _ (by kernel_rfl)] at h
  obtain ⟨ps, ⟨g0, t0, cs0, f0, p0, q0, hg0, ht0, hv0, hd0, ⟨g1, t1, cs1, f1, p1, q1, hg1, ht1, hv1, hd1, ⟨g2, t2, cs2, f2, p2, q2, hg2, ht2, hv2, hd2, _, _⟩, _⟩, _⟩, _, _⟩ := h
  obtain rfl := Option.some.inj (gT.symm.trans hg0)
  obtain rfl := Option.some.inj (gD.symm.trans hg1)
  obtain rfl := Option.some.inj (gC.symm.trans hg2)
  obtain rfl := Option.some.inj (tT.symm.trans ht0)
  obtain rfl := Option.some.inj (tD.symm.trans ht1)
  obtain rfl := Option.some.inj (tC.symm.trans ht2)
  have hT : ∀ j, j < 6 → W.cell? ⟨0, j, none⟩ = some (.int .i64 (Temps.getD j 0)) := fun j hj => by
    rw [World.var?_cell hg0 hv0 j, ← Array.getElem?_toList]
    exact ints (L := Temps) Tryd.underlying44 hd0 j hj
  have hD : ∀ j, j < 7 → W.cell? ⟨1, j, none⟩ = some (.int .i64 (Deps.getD j 0)) := fun j hj => by
    rw [World.var?_cell hg1 hv1 j, ← Array.getElem?_toList]
    exact ints (L := Deps) Tryd.underlying45 hd1 j hj
  have hC : ∀ i j, i < 6 → j < 7 → W.cell? ⟨2, i * 7 + j, none⟩ = some (.int .i64 ((Conts.getD i []).getD j 0)) := fun i j hi hj => by
    rw [World.var?_cell hg2 hv2, ← Array.getElem?_toList]
    obtain ⟨xs, m, rfl, hx, _, hn, hel⟩ := DataW.trod_array Tryd.underlying46 hd2
    have h := hel i hi
    rw [c45] at h
    have hi' : i < xs.length := by omega
    rw [List.getElem?_eq_getElem hi'] at h
    simp only [Prod.mk.injEq] at hx
    have hx1 : (DataW.agg (Conts.map fun r => (DataW.agg (r.map fun z => .lit (.int .i64 z)) : DataW Unit))) = .agg (xs.map (·.1)) := hx.1
    simp only [DataW.agg.injEq] at hx1
    have hL : i < Conts.length := hi
    have h2 : (xs.map (·.1))[i]? = (Conts.map fun r => (DataW.agg (r.map fun z => .lit (.int .i64 z)) : DataW Unit))[i]? := by rw [← hx1]
    rw [List.getElem?_map, List.getElem?_map, List.getElem?_eq_getElem hi', List.getElem?_eq_getElem hL] at h2
    have h3 : xs[i].1 = (DataW.agg ((Conts.getD i []).map fun z => .lit (.int .i64 z)) : DataW Unit) := by
      rw [List.getD_eq_getElem?_getD, List.getElem?_eq_getElem hL]
      simpa using h2
    have h4 : xs[i] = ((DataW.agg ((Conts.getD i []).map fun z => .lit (.int .i64 z)) : DataW Unit), xs[i].2) := Prod.ext h3 rfl
    rw [h4] at h
    have h5 := ints Tryd.underlying45 h j hj
    rw [List.getElem?_take, if_pos hj, List.getElem?_drop] at h5
    exact h5
  refine ⟨?_, hT, hD, hC⟩
  have h := hC 0 0 (by omega) (by omega)
  unfold World.cell? at h
  cases e : W.heap[(2 : Nat)]? with
  | none => simp [e] at h
  | some o => exact (Array.getElem?_eq_some_iff.1 e).1

end Go.Proofs.YtfgeppldckagaaaDoor.Laid
