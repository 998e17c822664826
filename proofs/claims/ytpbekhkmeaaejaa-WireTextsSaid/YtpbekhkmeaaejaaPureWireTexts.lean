/- Text and Ints return the specified bytes: the plain statement. -/
import Derived.Test.YtpbekhkmeaaejaaPAllx3
import Derived.Test.YtpbekhkmeaaejaaPAllx9
import Derived.Test.YtpbekhkmeaaejaaPAllx10
import Derived.Test.YtpbekhkmeaaejaaWf
namespace Go.Proofs.Ytpbekhkmeaaejaa.Pure
open Go.RowKit Go.Proofs.Ytpbekhkmeaaejaa.PAll Go.Proofs.YtpbekhkmeaaejaaW.PrintWords Go.Proofs.YtpbekhkmeaaejaaW.PrintLast Go.Proofs.Ytpbekhkmeaaejaa.Model

theorem WireTexts : ∀ (a0 : ByteArray) (l1 : List Int), a0.size ≤ 140737488351232 → (l1.length * 8 ≤ 140737488351232 ∧ ∀ y ∈ l1, (Lit.int .i64 y).wf = true) → ∃ k, sawmilllaw05_WireTexts.f k a0 l1 = some true := by
  intro a0 l1 h0 h1
  obtain ⟨s, rfl⟩ : ∃ s, a0 = str s := ⟨_, (str_data a0).symm⟩
  refine Ev.rounds (r := true) ?_
  unfold sawmilllaw05_WireTexts.f
  have hend : Ev (fun k => sawmilllaw05_WireTexts.j0 k (str s) l1 true) true := by
    refine Ev.step (f := fun k => some true) (fun k => ?_) (Ev.now _)
    simp only [sawmilllaw05_WireTexts.j0, if_true, awake_ev, Option.bind_some]
  by_cases c : ((str s).size : Int) > 3000
  · simp only [if_pos c]; exact hend
  · simp only [if_neg c]
    rw [str_size] at c
    by_cases c2 : (l1.length : Int) > 300
    · simp only [c2, decide_true]; exact hend
    · simp only [c2, decide_false]
      have hl : ∀ x ∈ l1, I64 x := fun x hx => wf_i64 (h1.2 x hx)
      refine Ev.step (f := fun k => (wire_Text.f k (str s)).bind fun t197 => ((sawmillref05_Text.f k (str s)).bind fun t198 => (if t197.toList = t198.toList then ((wire_Ints.f k l1).bind fun t199 => ((sawmillref05_Ints.f k l1).bind fun t200 => (if t199.toList = t200.toList then some true else (some false)))) else (some false)))) (fun k => ?_) ?_
      · simp only [sawmilllaw05_WireTexts.j0, Bool.false_eq_true, if_false, awake_ev, Option.bind_some]
      · refine Ev.bind (text_ev s (by omega)) (Ev.bind (ref_text_ev s (by omega)) ?_)
        simp only [if_true]
        refine Ev.bind (ints_ev l1 (by omega) hl) (Ev.bind (ref_ints_ev l1 (by omega) hl) ?_)
        simp only [if_true]
        exact Ev.now _

end Go.Proofs.Ytpbekhkmeaaejaa.Pure
