/- Table returns the grid of the reference. -/
import Derived.Test.YtfgeppldckagaaaDoorPAllx0
import Derived.Test.YtfgeppldckagaaaDoorPAllx2
import Derived.Test.YtfgeppldckagaaaDoorPAllx3
import Derived.Test.YtfgeppldckagaaaDoorPAllx7
import Derived.Test.YtfgeppldckagaaaDoorPAllx12
import Derived.Test.YtfgeppldckagaaaDoorAwake
namespace Go.Proofs.YtfgeppldckagaaaDoor.Pure
open Go.RowKit Go.Proofs.YtfgeppldckagaaaDoor.PAll Go.Proofs.YtfgeppldckagaaaDoorW.PrintWords Go.Proofs.YtfgeppldckagaaaDoorW.PrintLast Go.Proofs.YtfgeppldckagaaaDoorW.PrintMore
theorem same_ev (l : List Int) (hl : l.length ≤ 1000) : ∀ d i : Nat, i + d = l.length → Ev (fun k => sawmilllaw35_sameInts.l0 k l l (i : Int)) true
  | 0, i, hd => by
    refine Ev.step (f := fun _ => _) (fun k => ?_) (Ev.now _)
    simp only [sawmilllaw35_sameInts.l0]
    rw [if_neg (by omega)]
  | d + 1, i, hd => by
    have ew : wrap64 ((i : Int) + 1) = ((i + 1 : Nat) : Int) := by rw [c64 (by omega) (by omega)]; rfl
    have q1 : (i : Int) < (l.length : Int) := by omega
    have q2 : (0 : Int) ≤ (i : Int) := by omega
    refine Ev.step (fun k => ?_) (same_ev l hl d (i + 1) (by omega))
    simp only [sawmilllaw35_sameInts.l0, if_pos q1, if_pos q2, if_true, ew]
theorem sames (l : List Int) (hl : l.length ≤ 1000) : Ev (fun k => sawmilllaw35_sameInts.f k l l) true := by
  unfold sawmilllaw35_sameInts.f
  simp only [if_true]
  exact same_ev l hl l.length 0 (by omega)
theorem rows_short : ∀ i : Fin 6, (rd_L1 Conts (i.val : Int)).length ≤ 1000 := by decide +kernel
theorem rows_ev : ∀ d i : Nat, i + d = 6 → Ev (fun k => sawmilllaw35_AirTable.l0 k (i : Int) Temps Deps Conts Temps Deps Conts) true
  | 0, i, hd => by
    refine Ev.step (fun k => ?_) aw_ev
    have q1 : ¬ (i : Int) < (Conts.length : Int) := by show ¬ (i : Int) < 6; omega
    simp only [sawmilllaw35_AirTable.l0, if_neg q1]
  | d + 1, i, hd => by
    have ew : wrap64 ((i : Int) + 1) = ((i + 1 : Nat) : Int) := by rw [c64 (by omega) (by omega)]; rfl
    have q1 : (i : Int) < (Conts.length : Int) := by show (i : Int) < 6; omega
    have q2 : (0 : Int) ≤ (i : Int) := by omega
    refine Ev.step (f := fun k => (sawmilllaw35_sameInts.f k (rd_L1 Conts (i : Int)) (rd_L1 Conts (i : Int))).bind fun t243 => (if t243 = true then (sawmilllaw35_AirTable.l0 k ((i + 1 : Nat) : Int) Temps Deps Conts Temps Deps Conts) else (some false))) (fun k => ?_) (Ev.bind (sames _ (rows_short ⟨i, by omega⟩)) ?_)
    · simp only [sawmilllaw35_AirTable.l0, if_pos q1, if_pos q2, ew]
    · simp only [if_true]
      exact rows_ev d (i + 1) (by omega)
theorem AirTable : ∃ k, sawmilllaw35_AirTable.f k = some true := by
  refine Ev.rounds (r := true) ?_
  unfold sawmilllaw35_AirTable.f
  refine Ev.bind (a := (Temps, Deps, Conts)) (Ev.now _) (Ev.bind (a := (Temps, Deps, Conts)) (Ev.now _) ?_)
  refine Ev.bind (sames Temps (by decide)) ?_
  simp only [if_true]
  refine Ev.bind (sames Deps (by decide)) ?_
  simp only [if_true]
  refine Ev.step (f := fun k => sawmilllaw35_AirTable.l0 k 0 Temps Deps Conts Temps Deps Conts) (fun k => ?_) (rows_ev 6 0 rfl)
  simp only [sawmilllaw35_AirTable.j0, bne_self_eq_false, Bool.false_eq_true, if_false]
end Go.Proofs.YtfgeppldckagaaaDoor.Pure
