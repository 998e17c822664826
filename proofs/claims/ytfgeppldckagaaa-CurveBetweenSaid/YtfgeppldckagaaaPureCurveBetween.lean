/- A curve has its points' values, between two points a value between theirs, outside that of the nearer end; if it is rising it never falls. -/
import Derived.Test.YtfgeppldckagaaaPAllx0
import Derived.Test.YtfgeppldckagaaaPAllx4
import Derived.Test.YtfgeppldckagaaaPAllx6
import Derived.Test.YtfgeppldckagaaaPAllx11
import Derived.Test.YtfgeppldckagaaaPAllx13
import Derived.Test.YtfgeppldckagaaaPAllx15
import Derived.Test.YtfgeppldckagaaaPAllx25d
import Derived.Test.YtfgeppldckagaaaAwake
import Derived.Test.YtfgeppldckagaaaAtv
namespace Go.Proofs.Ytfgeppldckagaaa.Pure
open Go.RowKit Go.Proofs.Ytfgeppldckagaaa.PAll Go.Proofs.YtfgeppldckagaaaW.PrintWords Go.Proofs.YtfgeppldckagaaaW.PrintLast
theorem aw_ev : Ev (fun k => (sawmilllaw08_awake.f k).bind fun t => some t) true := Ev.bind awake_ev (Ev.now _)
theorem mn_le (a b : Int) : mn a b ≤ a ∧ mn a b ≤ b ∧ (mn a b = a ∨ mn a b = b) := by unfold mn; split <;> omega
theorem mx_ge (a b : Int) : a ≤ mx a b ∧ b ≤ mx a b ∧ (mx a b = a ∨ mx a b = b) := by unfold mx; split <;> omega
theorem between_end {l : List S36} (ho : PtsOk l) (e1 : Ev (fun k => curve_Check.f k l) 0) (x z : Int) : Ev (fun k => sawmilllaw08_CurveBetween.j2 k l x z false) true := by
  have hat : ∀ x, Ev (fun k => curve_At.f k l x) (atv l x) := fun x => at_ev l x e1
  refine Ev.step (fun k => rfl) ?_
  simp only [sawmilllaw08_CurveBetween.j2, Bool.false_eq_true, if_false]
  refine Ev.bind (rising_ev l e1) ?_
  simp only [decide_true, Bool.true_and]
  by_cases hr : risesY l = true
  · simp only [if_pos hr]
    refine Ev.bind (hat _) (Ev.bind (hat _) ?_)
    have h1 := mn_le x z
    have h2 := mx_ge x z
    have := atv_mono ho hr (mn x z) (mx x z) (by omega)
    simp only [if_neg (show ¬ atv l (mn x z) > atv l (mx x z) by omega)]
    exact aw_ev
  · simp only [if_neg hr]; exact aw_ev
theorem between_loop {l : List S36} (ho : PtsOk l) (e1 : Ev (fun k => curve_Check.f k l) 0) (x z : Int) : ∀ d i : Nat, i + d = l.length → Ev (fun k => sawmilllaw08_CurveBetween.l0 k l x z (atv l x) (i : Int)) true
  | 0, i, hd => by
    have hpos := ho.pos
    have h16 := ho.len
    have hend := between_end ho e1 x z
    have q1 : ¬ (i : Int) < (l.length : Int) := by omega
    have q3 : (0 : Int) < (l.length : Int) := by omega
    have ew2 : wrap64 ((l.length : Int) - 1) = ((l.length - 1 : Nat) : Int) := by rw [c64 (by omega) (by omega)]; omega
    have q4 : (0 : Int) ≤ ((l.length - 1 : Nat) : Int) := by omega
    have q5 : ((l.length - 1 : Nat) : Int) < (l.length : Int) := by omega
    have hp0 : rd_T36 l 0 = Pt l 0 := rfl
    have hpl : rd_T36 l ((l.length - 1 : Nat) : Int) = Pt l (l.length - 1) := rfl
    refine Ev.step (fun k => rfl) ?_
    simp only [sawmilllaw08_CurveBetween.l0, if_neg q1, ew2, if_pos q4, if_pos q5, if_pos q3, hp0, hpl]
    have hlast : Ev (fun k => if x ≥ (Pt l (l.length - 1)).f0 then sawmilllaw08_CurveBetween.j2 k l x z (atv l x != (Pt l (l.length - 1)).f1) else sawmilllaw08_CurveBetween.j2 k l x z false) true := by
      by_cases d1 : x ≥ (Pt l (l.length - 1)).f0
      · simp only [if_pos d1, atv_high ho x d1, bne_self_eq_false]; exact hend
      · simp only [if_neg d1]; exact hend
    by_cases d0 : x ≤ (Pt l 0).f0
    · simp only [if_pos d0, if_pos (atv_low ho x d0)]; exact hlast
    · simp only [if_neg d0]; exact hlast
  | d + 1, i, hd => by
    have hpos := ho.pos
    have h16 := ho.len
    have hat : ∀ x, Ev (fun k => curve_At.f k l x) (atv l x) := fun x => at_ev l x e1
    have ew2 : 0 < i → wrap64 ((i : Int) - 1) = ((i - 1 : Nat) : Int) := fun h => by rw [c64 (by omega) (by omega)]; omega
    have ew : wrap64 ((i : Int) + 1) = ((i + 1 : Nat) : Int) := by rw [c64 (by omega) (by omega)]; rfl
    have hp : rd_T36 l (i : Int) = Pt l i := rfl
    have hp2 : rd_T36 l ((i - 1 : Nat) : Int) = Pt l (i - 1) := rfl
    have q1 : (i : Int) < (l.length : Int) := by omega
    have q2 : (0 : Int) ≤ (i : Int) := by omega
    have q4 : (0 : Int) ≤ ((i - 1 : Nat) : Int) := by omega
    have q5 : ((i - 1 : Nat) : Int) < (l.length : Int) := by omega
    have ih := between_loop ho e1 x z d (i + 1) (by omega)
    refine Ev.step (fun k => rfl) ?_
    simp only [sawmilllaw08_CurveBetween.l0, if_pos q1, if_pos q2, hp]
    refine Ev.bind (hat _) ?_
    simp only [if_pos (atv_pt ho i (by omega)), ew]
    by_cases h0 : 0 < i
    · simp only [if_pos (show (i : Int) > 0 by omega), ew2 h0, if_pos q4, if_pos q5, hp2]
      by_cases d0 : x ≥ (Pt l (i - 1)).f0
      · by_cases d1 : x ≤ (Pt l i).f0
        · have hb := atv_between ho (i - 1) (by omega) x d0 (by rw [show i - 1 + 1 = i from by omega]; exact d1)
          rw [show i - 1 + 1 = i from by omega] at hb
          have h1 := mn_le (Pt l (i - 1)).f1 (Pt l i).f1
          have h2 := mx_ge (Pt l (i - 1)).f1 (Pt l i).f1
          have hb2 : mn (Pt l (i - 1)).f1 (Pt l i).f1 ≤ atv l x ∧ atv l x ≤ mx (Pt l (i - 1)).f1 (Pt l i).f1 := by
            by_cases g : (Pt l (i - 1)).f1 ≤ (Pt l i).f1
            · have := hb.1 g; omega
            · have := hb.2 (by omega); omega
          simp only [if_pos d0, if_pos d1, if_neg (show ¬ atv l x < mn (Pt l (i - 1)).f1 (Pt l i).f1 by omega), if_neg (show ¬ atv l x > mx (Pt l (i - 1)).f1 (Pt l i).f1 by omega)]
          exact ih
        · simp only [if_pos d0, if_neg d1]; exact ih
      · simp only [if_neg d0]; exact ih
    · simp only [if_neg (show ¬ (i : Int) > 0 by omega)]; exact ih
theorem CurveBetween : ∀ (l0 : List (S36)) (a1 : Int) (a2 : Int), (l0.length * 16 ≤ 140737488351232 ∧ ∀ y ∈ l0, ((Lit.int .i64 y.f0).wf = true ∧ (Lit.int .i64 y.f1).wf = true)) → (Lit.int .i64 a1).wf = true → (Lit.int .i64 a2).wf = true → ∃ k, sawmilllaw08_CurveBetween.f k l0 a1 a2 = some true := by
  intro l x z _ _ _
  refine Ev.rounds (r := true) ?_
  unfold sawmilllaw08_CurveBetween.f sawmilllaw08_small.f
  simp only [Option.bind_some]
  have hend : Ev (fun k => sawmilllaw08_CurveBetween.j0 k l x z true) true := Ev.step (fun k => rfl) (by simp only [sawmilllaw08_CurveBetween.j0, if_true]; exact aw_ev)
  by_cases c : (l.length : Int) ≤ 100
  · simp only [decide_eq_true_eq, if_pos c]
    obtain ⟨v, e1, e2, e3⟩ := chk_ev l
    refine Ev.bind e2 ?_
    by_cases h0 : v = 0
    · have ho := e3.1 h0
      subst h0
      refine Ev.step (f := fun k => (curve_At.f k l x).bind fun t => sawmilllaw08_CurveBetween.l0 k l x z t 0) (fun k => rfl) ?_
      refine Ev.bind (at_ev l x e1) ?_
      simp only [if_true]
      exact between_loop ho e1 x z l.length 0 (by omega)
    · rw [show (v != 0) = true from bne_iff_ne.mpr h0]; exact hend
  · simp only [decide_eq_true_eq, if_neg c]
    exact hend
end Go.Proofs.Ytfgeppldckagaaa.Pure
