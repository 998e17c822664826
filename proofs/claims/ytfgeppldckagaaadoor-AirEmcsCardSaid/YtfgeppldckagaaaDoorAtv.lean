/- What the value of a curve is like: at its points, between them, outside of them; and where it first is high enough. -/
import Derived.Test.YtfgeppldckagaaaDoorPAllx0
import Derived.Test.YtfgeppldckagaaaDoorPAllx7
import Derived.Test.YtfgeppldckagaaaDoorFuns
namespace Go.Proofs.YtfgeppldckagaaaDoor.Pure
open Go.RowKit Go.Proofs.YtfgeppldckagaaaDoor.PAll Go.Proofs.YtfgeppldckagaaaDoorW.PrintWords Go.Proofs.YtfgeppldckagaaaDoorW.PrintLast
theorem tw_spec {α : Type} (q : α → Bool) : ∀ l : List α, (l.takeWhile q).length ≤ l.length ∧ (∀ i (h : i < l.length), i < (l.takeWhile q).length → q l[i] = true) ∧ (∀ (h : (l.takeWhile q).length < l.length), q l[(l.takeWhile q).length] = false)
  | [] => by simp
  | a :: l => by
    obtain ⟨h1, h2, h3⟩ := tw_spec q l
    cases ha : q a with
    | true =>
      simp only [List.takeWhile_cons, ha, if_true, List.length_cons]
      refine ⟨by omega, fun i hi hlt => ?_, fun h => ?_⟩
      · cases i with
        | zero => exact ha
        | succ i => exact h2 i (by omega) (by omega)
      · exact h3 (by omega)
    | false =>
      simp only [List.takeWhile_cons, ha, Bool.false_eq_true, if_false, List.length_nil]
      exact ⟨Nat.zero_le _, fun i _ h => absurd h (Nat.not_lt_zero _), fun _ => ha⟩
/-- The place of a number among the points. -/
theorem place (l : List S53) (x : Int) : ∃ k, k ≤ l.length ∧ (l.takeWhile fun p => decide (p.f0 < x)).length = k ∧ (∀ i, i < k → (Pt l i).f0 < x) ∧ (k < l.length → x ≤ (Pt l k).f0) := by
  obtain ⟨h1, h2, h3⟩ := tw_spec (fun p : S53 => decide (p.f0 < x)) l
  refine ⟨_, h1, rfl, fun i hi => ?_, fun h => ?_⟩
  · rw [Pt_get l i (by omega)]; exact of_decide_eq_true (h2 i (by omega) hi)
  · rw [Pt_get l _ h]; have := of_decide_eq_false (h3 h); omega
/-- The three cases of a value. -/
theorem atv_cases {l : List S53} (ho : PtsOk l) (x : Int) :
    (x ≤ (Pt l 0).f0 ∧ atv l x = (Pt l 0).f1) ∨ ((Pt l (l.length - 1)).f0 < x ∧ atv l x = (Pt l (l.length - 1)).f1) ∨
    ∃ m, m + 1 < l.length ∧ (Pt l m).f0 < x ∧ x ≤ (Pt l (m + 1)).f0 ∧ atv l x = (Pt l m).f1 + ((Pt l (m + 1)).f1 - (Pt l m).f1) * (x - (Pt l m).f0) / ((Pt l (m + 1)).f0 - (Pt l m).f0) := by
  obtain ⟨k, hk, hl, h1, h2⟩ := place l x
  have hpos := ho.pos
  by_cases k0 : k = 0
  · refine .inl ⟨by have := h2 (by omega); rwa [k0] at this, ?_⟩
    unfold atv; simp only [hl]; rw [if_pos k0, getD_Pt]
  · by_cases kl : k = l.length
    · refine .inr (.inl ⟨h1 _ (by omega), ?_⟩)
      unfold atv; simp only [hl]; rw [if_neg k0, if_pos kl, getD_Pt, kl]
    · obtain ⟨m, rfl⟩ : ∃ m, k = m + 1 := ⟨k - 1, by omega⟩
      exact .inr (.inr ⟨m, by omega, h1 m (by omega), h2 (by omega), atv_seg ho m (by omega) x (by have := h1 m (by omega); omega) (h2 (by omega))⟩)
theorem seg_bd {a b d n : Int} (h0 : 0 ≤ n) (h1 : n ≤ d) (hd : 0 < d) : (a ≤ b → a ≤ a + (b - a) * n / d ∧ a + (b - a) * n / d ≤ b) ∧ (b ≤ a → b ≤ a + (b - a) * n / d ∧ a + (b - a) * n / d ≤ a) := by
  obtain ⟨j1, j2⟩ := between_bd (d := b - a) (n := n) (b := d) h0 h1 hd
  constructor <;> intro h <;> omega
/-- A value is within what its points are within. -/
theorem atv_bd {l : List S53} (ho : PtsOk l) (x lo hi : Int) (h : ∀ i, i < l.length → lo ≤ (Pt l i).f1 ∧ (Pt l i).f1 ≤ hi) : lo ≤ atv l x ∧ atv l x ≤ hi := by
  have hpos := ho.pos
  rcases atv_cases ho x with ⟨_, e⟩ | ⟨_, e⟩ | ⟨m, hm, h1, h2, e⟩
  · rw [e]; exact h 0 hpos
  · rw [e]; exact h _ (by omega)
  · rw [e]
    obtain ⟨j1, j2⟩ := seg_bd (a := (Pt l m).f1) (b := (Pt l (m + 1)).f1) (d := (Pt l (m + 1)).f0 - (Pt l m).f0) (n := x - (Pt l m).f0) (by omega) (by omega) (by omega)
    have a1 := h m (by omega)
    have a2 := h (m + 1) hm
    by_cases c : (Pt l m).f1 ≤ (Pt l (m + 1)).f1
    · have := j1 c; omega
    · have := j2 (by omega); omega
/-- The same, of the points up to the place alone. -/
theorem atv_bd_pre {l : List S53} (ho : PtsOk l) (x hi : Int) (k : Nat) (hk : k < l.length) (hx : x ≤ (Pt l k).f0) (h : ∀ i, i ≤ k → (Pt l i).f1 ≤ hi) : atv l x ≤ hi := by
  rcases atv_cases ho x with ⟨_, e⟩ | ⟨h1, e⟩ | ⟨m, hm, h1, h2, e⟩
  · rw [e]; exact h 0 (Nat.zero_le _)
  · exfalso
    by_cases c : k = l.length - 1
    · rw [← c] at h1; omega
    · have := PtsOk.mono ho (l.length - 1 - k) k (by omega) (by omega)
      rw [show k + (l.length - 1 - k) = l.length - 1 from by omega] at this
      omega
  · have hmk : m + 1 ≤ k := by
      by_cases c : m + 1 ≤ k
      · exact c
      · exfalso
        by_cases c2 : m = k
        · rw [c2] at h1; omega
        · have := PtsOk.mono ho (m - k) k (by omega) (by omega)
          rw [show k + (m - k) = m from by omega] at this
          omega
    rw [e]
    obtain ⟨j1, j2⟩ := seg_bd (a := (Pt l m).f1) (b := (Pt l (m + 1)).f1) (d := (Pt l (m + 1)).f0 - (Pt l m).f0) (n := x - (Pt l m).f0) (by omega) (by omega) (by omega)
    have a1 := h m (by omega)
    have a2 := h (m + 1) hmk
    by_cases c : (Pt l m).f1 ≤ (Pt l (m + 1)).f1
    · have := j1 c; omega
    · have := j2 (by omega); omega
/-- At a point. -/
theorem atv_pt {l : List S53} (ho : PtsOk l) (i : Nat) (hi : i < l.length) : atv l (Pt l i).f0 = (Pt l i).f1 := by
  by_cases c : i + 1 < l.length
  · have := ho.asc i c
    rw [atv_seg ho i c _ (by omega) (by omega), Int.sub_self, Int.mul_zero, Int.zero_ediv, Int.add_zero]
  · by_cases c0 : i = 0
    · subst c0
      have hl := atv_len ho (Pt l 0).f0 0 (Nat.zero_le _) (fun _ => Int.le_refl _) (fun h => absurd h (Nat.lt_irrefl _))
      unfold atv; simp only [hl, if_true]; rw [getD_Pt]
    · have := ho.asc (i - 1) (by omega)
      rw [show i - 1 + 1 = i from by omega] at this
      rw [atv_seg ho (i - 1) (by omega) _ (by omega) (by rw [show i - 1 + 1 = i from by omega]; omega), show i - 1 + 1 = i from by omega, Int.mul_ediv_cancel _ (by omega)]
      omega
theorem atv_low {l : List S53} (ho : PtsOk l) (x : Int) (h : x ≤ (Pt l 0).f0) : atv l x = (Pt l 0).f1 := by
  have hl := atv_len ho x 0 (Nat.zero_le _) (fun _ => h) (fun h => absurd h (Nat.lt_irrefl _))
  unfold atv; simp only [hl, if_true]; rw [getD_Pt]
theorem atv_high {l : List S53} (ho : PtsOk l) (x : Int) (h : (Pt l (l.length - 1)).f0 ≤ x) : atv l x = (Pt l (l.length - 1)).f1 := by
  have hpos := ho.pos
  by_cases c : x = (Pt l (l.length - 1)).f0
  · rw [c]; exact atv_pt ho _ (by omega)
  · have hl := atv_len ho x l.length (Nat.le_refl _) (fun h => absurd h (Nat.lt_irrefl _)) (fun _ => by omega)
    unfold atv; simp only [hl]; rw [if_neg (by omega), if_pos trivial, getD_Pt]
theorem atv_between {l : List S53} (ho : PtsOk l) (m : Nat) (hm : m + 1 < l.length) (x : Int) (h1 : (Pt l m).f0 ≤ x) (h2 : x ≤ (Pt l (m + 1)).f0) :
    ((Pt l m).f1 ≤ (Pt l (m + 1)).f1 → (Pt l m).f1 ≤ atv l x ∧ atv l x ≤ (Pt l (m + 1)).f1) ∧ ((Pt l (m + 1)).f1 ≤ (Pt l m).f1 → (Pt l (m + 1)).f1 ≤ atv l x ∧ atv l x ≤ (Pt l m).f1) := by
  have := ho.asc m hm
  rw [atv_seg ho m hm x h1 h2]
  exact seg_bd (by omega) (by omega) (by omega)
end Go.Proofs.YtfgeppldckagaaaDoor.Pure
