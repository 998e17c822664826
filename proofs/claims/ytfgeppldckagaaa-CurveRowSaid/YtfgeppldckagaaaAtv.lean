/- What the value of a curve is like: at its points, between them, outside of them; and where it first is high enough. -/
import Derived.Test.YtfgeppldckagaaaPAllx0
import Derived.Test.YtfgeppldckagaaaPAllx6
import Derived.Test.YtfgeppldckagaaaPAllx11
import Derived.Test.YtfgeppldckagaaaPAllx12
import Derived.Test.YtfgeppldckagaaaFuns
namespace Go.Proofs.Ytfgeppldckagaaa.Pure
open Go.RowKit Go.Proofs.Ytfgeppldckagaaa.PAll Go.Proofs.YtfgeppldckagaaaW.PrintWords Go.Proofs.YtfgeppldckagaaaW.PrintLast
theorem tw_spec {α : Type} (q : α → Bool) : ∀ l : List α, (l.takeWhile q).length ≤ l.length ∧ (∀ i (h : i < l.length), i < (l.takeWhile q).length → q l[i] = true) ∧ (∀ (h : (l.takeWhile q).length < l.length), q l[(l.takeWhile q).length] = false)
  | [] => by simp
  | a :: l => by
    obtain ⟨h1, h2, h3⟩ := tw_spec q l
    cases ha : q a with
    | true =>
      simp only [List.takeWhile_cons, ha, if_true, List.length_cons]
      refine ⟨by omega, fun i hi hlt => ?_, fun h => ?_⟩
      · cases i with
        | zero => exact ha
        | succ i => exact h2 i (by omega) (by omega)
      · exact h3 (by omega)
    | false =>
      simp only [List.takeWhile_cons, ha, Bool.false_eq_true, if_false, List.length_nil]
      exact ⟨Nat.zero_le _, fun i _ h => absurd h (Nat.not_lt_zero _), fun _ => ha⟩
/-- The place of a number among the points. -/
theorem place (l : List S36) (x : Int) : ∃ k, k ≤ l.length ∧ (l.takeWhile fun p => decide (p.f0 < x)).length = k ∧ (∀ i, i < k → (Pt l i).f0 < x) ∧ (k < l.length → x ≤ (Pt l k).f0) := by
  obtain ⟨h1, h2, h3⟩ := tw_spec (fun p : S36 => decide (p.f0 < x)) l
  refine ⟨_, h1, rfl, fun i hi => ?_, fun h => ?_⟩
  · rw [Pt_get l i (by omega)]; exact of_decide_eq_true (h2 i (by omega) hi)
  · rw [Pt_get l _ h]; have := of_decide_eq_false (h3 h); omega
theorem placeY (l : List S36) (y : Int) : ∃ k, k ≤ l.length ∧ (l.takeWhile fun p => decide (p.f1 < y)).length = k ∧ (∀ i, i < k → (Pt l i).f1 < y) ∧ (k < l.length → y ≤ (Pt l k).f1) := by
  obtain ⟨h1, h2, h3⟩ := tw_spec (fun p : S36 => decide (p.f1 < y)) l
  refine ⟨_, h1, rfl, fun i hi => ?_, fun h => ?_⟩
  · rw [Pt_get l i (by omega)]; exact of_decide_eq_true (h2 i (by omega) hi)
  · rw [Pt_get l _ h]; have := of_decide_eq_false (h3 h); omega
/-- The three cases of a value. -/
theorem atv_cases {l : List S36} (ho : PtsOk l) (x : Int) :
    (x ≤ (Pt l 0).f0 ∧ atv l x = (Pt l 0).f1) ∨ ((Pt l (l.length - 1)).f0 < x ∧ atv l x = (Pt l (l.length - 1)).f1) ∨
    ∃ m, m + 1 < l.length ∧ (Pt l m).f0 < x ∧ x ≤ (Pt l (m + 1)).f0 ∧ atv l x = (Pt l m).f1 + ((Pt l (m + 1)).f1 - (Pt l m).f1) * (x - (Pt l m).f0) / ((Pt l (m + 1)).f0 - (Pt l m).f0) := by
  obtain ⟨k, hk, hl, h1, h2⟩ := place l x
  have hpos := ho.pos
  by_cases k0 : k = 0
  · refine .inl ⟨by have := h2 (by omega); rwa [k0] at this, ?_⟩
    unfold atv; simp only [hl]; rw [if_pos k0, getD_Pt]
  · by_cases kl : k = l.length
    · refine .inr (.inl ⟨h1 _ (by omega), ?_⟩)
      unfold atv; simp only [hl]; rw [if_neg k0, if_pos kl, getD_Pt, kl]
    · obtain ⟨m, rfl⟩ : ∃ m, k = m + 1 := ⟨k - 1, by omega⟩
      exact .inr (.inr ⟨m, by omega, h1 m (by omega), h2 (by omega), atv_seg ho m (by omega) x (by have := h1 m (by omega); omega) (h2 (by omega))⟩)
theorem seg_bd {a b d n : Int} (h0 : 0 ≤ n) (h1 : n ≤ d) (hd : 0 < d) : (a ≤ b → a ≤ a + (b - a) * n / d ∧ a + (b - a) * n / d ≤ b) ∧ (b ≤ a → b ≤ a + (b - a) * n / d ∧ a + (b - a) * n / d ≤ a) := by
  obtain ⟨j1, j2⟩ := between_bd (d := b - a) (n := n) (b := d) h0 h1 hd
  constructor <;> intro h <;> omega
/-- A value is within what its points are within. -/
theorem atv_bd {l : List S36} (ho : PtsOk l) (x lo hi : Int) (h : ∀ i, i < l.length → lo ≤ (Pt l i).f1 ∧ (Pt l i).f1 ≤ hi) : lo ≤ atv l x ∧ atv l x ≤ hi := by
  have hpos := ho.pos
  rcases atv_cases ho x with ⟨_, e⟩ | ⟨_, e⟩ | ⟨m, hm, h1, h2, e⟩
  · rw [e]; exact h 0 hpos
  · rw [e]; exact h _ (by omega)
  · rw [e]
    obtain ⟨j1, j2⟩ := seg_bd (a := (Pt l m).f1) (b := (Pt l (m + 1)).f1) (d := (Pt l (m + 1)).f0 - (Pt l m).f0) (n := x - (Pt l m).f0) (by omega) (by omega) (by omega)
    have a1 := h m (by omega)
    have a2 := h (m + 1) hm
    by_cases c : (Pt l m).f1 ≤ (Pt l (m + 1)).f1
    · have := j1 c; omega
    · have := j2 (by omega); omega
/-- The same, of the points up to the place alone. -/
theorem atv_bd_pre {l : List S36} (ho : PtsOk l) (x hi : Int) (k : Nat) (hk : k < l.length) (hx : x ≤ (Pt l k).f0) (h : ∀ i, i ≤ k → (Pt l i).f1 ≤ hi) : atv l x ≤ hi := by
  rcases atv_cases ho x with ⟨_, e⟩ | ⟨h1, e⟩ | ⟨m, hm, h1, h2, e⟩
  · rw [e]; exact h 0 (Nat.zero_le _)
  · exfalso
    by_cases c : k = l.length - 1
    · rw [← c] at h1; omega
    · have := PtsOk.mono ho (l.length - 1 - k) k (by omega) (by omega)
      rw [show k + (l.length - 1 - k) = l.length - 1 from by omega] at this
      omega
  · have hmk : m + 1 ≤ k := by
      by_cases c : m + 1 ≤ k
      · exact c
      · exfalso
        by_cases c2 : m = k
        · rw [c2] at h1; omega
        · have := PtsOk.mono ho (m - k) k (by omega) (by omega)
          rw [show k + (m - k) = m from by omega] at this
          omega
    rw [e]
    obtain ⟨j1, j2⟩ := seg_bd (a := (Pt l m).f1) (b := (Pt l (m + 1)).f1) (d := (Pt l (m + 1)).f0 - (Pt l m).f0) (n := x - (Pt l m).f0) (by omega) (by omega) (by omega)
    have a1 := h m (by omega)
    have a2 := h (m + 1) hmk
    by_cases c : (Pt l m).f1 ≤ (Pt l (m + 1)).f1
    · have := j1 c; omega
    · have := j2 (by omega); omega
/-- At a point. -/
theorem atv_pt {l : List S36} (ho : PtsOk l) (i : Nat) (hi : i < l.length) : atv l (Pt l i).f0 = (Pt l i).f1 := by
  by_cases c : i + 1 < l.length
  · have := ho.asc i c
    rw [atv_seg ho i c _ (by omega) (by omega), Int.sub_self, Int.mul_zero, Int.zero_ediv, Int.add_zero]
  · by_cases c0 : i = 0
    · subst c0
      have hl := atv_len ho (Pt l 0).f0 0 (Nat.zero_le _) (fun _ => Int.le_refl _) (fun h => absurd h (Nat.lt_irrefl _))
      unfold atv; simp only [hl, if_true]; rw [getD_Pt]
    · have := ho.asc (i - 1) (by omega)
      rw [show i - 1 + 1 = i from by omega] at this
      rw [atv_seg ho (i - 1) (by omega) _ (by omega) (by rw [show i - 1 + 1 = i from by omega]; omega), show i - 1 + 1 = i from by omega, Int.mul_ediv_cancel _ (by omega)]
      omega
theorem atv_low {l : List S36} (ho : PtsOk l) (x : Int) (h : x ≤ (Pt l 0).f0) : atv l x = (Pt l 0).f1 := by
  have hl := atv_len ho x 0 (Nat.zero_le _) (fun _ => h) (fun h => absurd h (Nat.lt_irrefl _))
  unfold atv; simp only [hl, if_true]; rw [getD_Pt]
theorem atv_high {l : List S36} (ho : PtsOk l) (x : Int) (h : (Pt l (l.length - 1)).f0 ≤ x) : atv l x = (Pt l (l.length - 1)).f1 := by
  have hpos := ho.pos
  by_cases c : x = (Pt l (l.length - 1)).f0
  · rw [c]; exact atv_pt ho _ (by omega)
  · have hl := atv_len ho x l.length (Nat.le_refl _) (fun h => absurd h (Nat.lt_irrefl _)) (fun _ => by omega)
    unfold atv; simp only [hl]; rw [if_neg (by omega), if_pos trivial, getD_Pt]
theorem atv_between {l : List S36} (ho : PtsOk l) (m : Nat) (hm : m + 1 < l.length) (x : Int) (h1 : (Pt l m).f0 ≤ x) (h2 : x ≤ (Pt l (m + 1)).f0) :
    ((Pt l m).f1 ≤ (Pt l (m + 1)).f1 → (Pt l m).f1 ≤ atv l x ∧ atv l x ≤ (Pt l (m + 1)).f1) ∧ ((Pt l (m + 1)).f1 ≤ (Pt l m).f1 → (Pt l (m + 1)).f1 ≤ atv l x ∧ atv l x ≤ (Pt l m).f1) := by
  have := ho.asc m hm
  rw [atv_seg ho m hm x h1 h2]
  exact seg_bd (by omega) (by omega) (by omega)
theorem rise_mono {l : List S36} (hr : risesY l = true) : ∀ d i : Nat, i + d < l.length → (Pt l i).f1 ≤ (Pt l (i + d)).f1
  | 0, _, _ => Int.le_refl _
  | d + 1, i, h => Int.le_trans (rise_mono hr d i (by omega)) ((risesY_iff l).1 hr (i + d) (by omega))
theorem atv_mono {l : List S36} (ho : PtsOk l) (hr : risesY l = true) (x z : Int) (hxz : x ≤ z) : atv l x ≤ atv l z := by
  have hpos := ho.pos
  have key : ∀ i j : Nat, i ≤ j → j < l.length → (Pt l i).f1 ≤ (Pt l j).f1 := fun i j hij hj => by
    have := rise_mono hr (j - i) i (by omega)
    rwa [show i + (j - i) = j from by omega] at this
  have keyx : ∀ i j : Nat, i ≤ j → j < l.length → (Pt l i).f0 ≤ (Pt l j).f0 := fun i j hij hj => by
    by_cases e : i = j
    · rw [e]; exact Int.le_refl _
    · have := PtsOk.mono ho (j - i) i (by omega) (by omega)
      rw [show i + (j - i) = j from by omega] at this
      omega
  rcases atv_cases ho x with ⟨_, e⟩ | ⟨h1, e⟩ | ⟨m, hm, h1, h2, e⟩
  · rw [e]
    exact (atv_bd ho z (Pt l 0).f1 (Pt l (l.length - 1)).f1 (fun i hi => ⟨key 0 i (by omega) hi, key i _ (by omega) (by omega)⟩)).1
  · rw [e, atv_high ho z (by omega)]; exact Int.le_refl _
  · have b1 := (atv_between ho m hm x (by omega) h2).1 (key m (m + 1) (by omega) hm)
    rcases atv_cases ho z with ⟨g1, g⟩ | ⟨g1, g⟩ | ⟨n, hn, g1, g2, g⟩
    · have := keyx 0 m (by omega) (by omega); omega
    · rw [g]; have := key (m + 1) (l.length - 1) (by omega) (by omega); omega
    · have b2 := (atv_between ho n hn z (by omega) g2).1 (key n (n + 1) (by omega) hn)
      by_cases c : m + 1 ≤ n
      · have := key (m + 1) n c (by omega); omega
      · by_cases c2 : n = m
        · subst c2
          rw [e, g]
          have h4 := key n (n + 1) (by omega) hn
          have h5 := ho.asc n hn
          have : ((Pt l (n + 1)).f1 - (Pt l n).f1) * (x - (Pt l n).f0) ≤ ((Pt l (n + 1)).f1 - (Pt l n).f1) * (z - (Pt l n).f0) := Int.mul_le_mul_of_nonneg_left (by omega) (by omega)
          have := Int.ediv_le_ediv (c := (Pt l (n + 1)).f0 - (Pt l n).f0) (by omega) this
          omega
        · have := keyx (n + 1) m (by omega) (by omega); omega
/-! ### where it first is high enough -/
structure Firsts (l : List S36) (y : Int) (first : Int) : Prop where
  ge : (Pt l 0).f0 ≤ first
  le : first ≤ (Pt l (l.length - 1)).f0
  high : y ≤ atv l first
  low : ∀ x, (Pt l 0).f0 ≤ x → x < first → atv l x < y
theorem reach_spec {l : List S36} (ho : PtsOk l) (y : Int) : (reachv l y = (0, false) ∧ (∀ i, i < l.length → (Pt l i).f1 < y) ∧ ∀ x, atv l x < y) ∨ (∃ first, reachv l y = (first, true) ∧ (∃ i, i < l.length ∧ y ≤ (Pt l i).f1) ∧ Firsts l y first) := by
  have hpos := ho.pos
  obtain ⟨k, hk, hl, h1, h2⟩ := placeY l y
  have keyx : ∀ i j : Nat, i ≤ j → j < l.length → (Pt l i).f0 ≤ (Pt l j).f0 := fun i j hij hj => by
    by_cases e : i = j
    · rw [e]; exact Int.le_refl _
    · have := PtsOk.mono ho (j - i) i (by omega) (by omega)
      rw [show i + (j - i) = j from by omega] at this
      omega
  by_cases kl : k = l.length
  · refine .inl ⟨by unfold reachv; simp only [hl]; rw [if_pos kl], fun i hi => h1 i (by omega), fun x => ?_⟩
    obtain ⟨mn, hmn⟩ : ∃ mn : Int, ∀ i, i < l.length → mn ≤ (Pt l i).f1 := ⟨-1000000, fun i hi => (ho.rng i hi).2.1⟩
    have := (atv_bd ho x mn (y - 1) (fun i hi => ⟨hmn i hi, by have := h1 i (by omega); omega⟩)).2
    omega
  · have h3 := h2 (by omega)
    refine .inr ?_
    by_cases k0 : k = 0
    · subst k0
      refine ⟨(Pt l 0).f0, by unfold reachv; simp only [hl]; rw [if_neg kl, if_pos trivial, getD_Pt], ⟨0, hpos, h3⟩, Int.le_refl _, keyx 0 _ (by omega) (by omega), by rw [atv_pt ho 0 hpos]; exact h3, fun x a b => absurd a (by omega)⟩
    · obtain ⟨m, rfl⟩ : ∃ m, k = m + 1 := ⟨k - 1, by omega⟩
      have hm : m + 1 < l.length := by omega
      have hasc := ho.asc m hm
      have hy1 := h1 m (by omega)
      have hval : reachv l y = ((Pt l m).f0 - (-((y - (Pt l m).f1) * ((Pt l (m + 1)).f0 - (Pt l m).f0))) / ((Pt l (m + 1)).f1 - (Pt l m).f1), true) := by
        unfold reachv; simp only [hl]; rw [if_neg kl, if_neg k0, getD_Pt, getD_Pt, Nat.add_sub_cancel]
      have e1 : ∀ i : Int, 0 ≤ i → i ≤ (Pt l (m + 1)).f0 - (Pt l m).f0 → (y ≤ atv l ((Pt l m).f0 + i) ↔ (y - (Pt l m).f1) * ((Pt l (m + 1)).f0 - (Pt l m).f0) ≤ ((Pt l (m + 1)).f1 - (Pt l m).f1) * i) := by
        intro i hi0 hi1
        rw [atv_seg ho m hm _ (by omega) (by omega), ← div_ge (by omega), show (Pt l m).f0 + i - (Pt l m).f0 = i from by omega]
        omega
      have k1 := keyx 0 m (by omega) (by omega)
      have k2 := keyx (m + 1) (l.length - 1) (by omega) (by omega)
      have hpre : ∀ x, x ≤ (Pt l m).f0 → atv l x < y := fun x hx => by
        have := atv_bd_pre ho x (y - 1) m (by omega) hx (fun i hi => by have := h1 i (by omega); omega)
        omega
      generalize hN : (Pt l (m + 1)).f0 - (Pt l m).f0 = N at *
      generalize hD : (Pt l (m + 1)).f1 - (Pt l m).f1 = D at *
      generalize hY : y - (Pt l m).f1 = Y at *
      have hD0 : 0 < D := by omega
      have hYD : Y ≤ D := by omega
      have hY0 : 0 < Y := by omega
      have hN0 : 0 < N := by omega
      have p1 : 0 < Y * N := Int.mul_pos hY0 hN0
      have p2 : Y * N ≤ D * N := Int.mul_le_mul_of_nonneg_right hYD (by omega)
      generalize hP : Y * N = P at *
      have e4 := Int.mul_ediv_add_emod (-P) D
      have e5 := Int.emod_nonneg (-P) (show D ≠ 0 by omega)
      have e6 := Int.emod_lt_of_pos (-P) hD0
      generalize hq : (-P) / D = q at *
      generalize (-P) % D = s at *
      -- r = -q
      have m1 : D * (-q) = P + s := by rw [Int.mul_neg]; omega
      have r0 : 0 < -q := by
        have : D * 0 < D * (-q) := by omega
        exact Int.lt_of_mul_lt_mul_left this (by omega)
      have r1 : -q ≤ N := by
        have : D * (-q) < D * (N + 1) := by rw [Int.mul_add, Int.mul_one]; omega
        have := Int.lt_of_mul_lt_mul_left this (by omega)
        omega
      refine ⟨(Pt l m).f0 - q, hval, ⟨m + 1, hm, h3⟩, by omega, by omega, ?_, fun x a b => ?_⟩
      · have := (e1 (-q) (by omega) r1).2 (by omega)
        rwa [show (Pt l m).f0 + -q = (Pt l m).f0 - q from by omega] at this
      · by_cases c : x ≤ (Pt l m).f0
        · exact hpre x c
        · have hi := e1 (x - (Pt l m).f0) (by omega) (by omega)
          rw [show (Pt l m).f0 + (x - (Pt l m).f0) = x from by omega] at hi
          by_cases c2 : y ≤ atv l x
          · exfalso
            have h7 := hi.1 c2
            have h8 : D * (x - (Pt l m).f0) ≤ D * (-q - 1) := Int.mul_le_mul_of_nonneg_left (by omega) (by omega)
            rw [Int.mul_sub D (-q) 1, Int.mul_one] at h8
            omega
          · omega
end Go.Proofs.Ytfgeppldckagaaa.Pure
