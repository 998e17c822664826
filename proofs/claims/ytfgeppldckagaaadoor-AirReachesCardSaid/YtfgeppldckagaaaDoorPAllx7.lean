-- Written by a changed copy of the kit's print program, run in this session (NOTES.md tells the change). Not trusted: Lean checks it.
import Derived.Test.YtfgeppldckagaaaDoorPAllx0
import Derived.Test.YtfgeppldckagaaaDoorPAllx4
import Derived.Test.YtfgeppldckagaaaDoorPAllx6
namespace Go.Proofs.YtfgeppldckagaaaDoor.PAll
open Go.RowKit Go.Proofs.YtfgeppldckagaaaDoorW.PrintWords Go.Proofs.YtfgeppldckagaaaDoorW.PrintLast Go.Proofs.YtfgeppldckagaaaDoorW.PrintMore
attribute [local go_sem] max2_int min2_int max_two min_two max_three min_three max_four min_four   -- for this text's walks alone
set_option linter.unusedVariables false
set_option linter.unusedSimpArgs false

/-! ### given curve_At: function 31 -/
def atv (l : List S53) (x : Int) : Int :=
  let k := (l.takeWhile fun p => decide (p.f0 < x)).length
  if k = 0 then (l.getD 0 z53).f1
  else if k = l.length then (l.getD (k - 1) z53).f1
  else (l.getD (k - 1) z53).f1 + ((l.getD k z53).f1 - (l.getD (k - 1) z53).f1) * (x - (l.getD (k - 1) z53).f0) / ((l.getD k z53).f0 - (l.getD (k - 1) z53).f0)
def curve_At.f (k : Nat) (l0 : List (S53)) (a1 : Int) : Option (Int) := (curve_Check.f k l0).bind fun e => some (if e = 0 then atv l0 a1 else 0)
theorem curve_At.mono : ∀ a0 a1 k, LeO (curve_At.f k a0 a1) (curve_At.f (k + 1) a0 a1) := by
  intro a0 a1 k
  unfold curve_At.f
  exact LeO.bind (curve_Check.mono _ _) (fun _ => LeO.refl _)
/-! #### what Check = OK says -/
def Pt (l : List S53) (i : Nat) : S53 := rd_T53 l (i : Int)
theorem Pt_get (l : List S53) (i : Nat) (h : i < l.length) : Pt l i = l[i] := by
  unfold Pt rd_T53
  rw [Int.toNat_natCast, List.getD_eq_getElem?_getD, List.getElem?_eq_getElem h]
  rfl
structure PtsOk (l : List S53) : Prop where
  pos : 0 < l.length
  len : l.length ≤ 16
  rng : ∀ i, i < l.length → (-1000000 ≤ (Pt l i).f0 ∧ (Pt l i).f0 ≤ 1000000) ∧ (-1000000 ≤ (Pt l i).f1 ∧ (Pt l i).f1 ≤ 1000000)
  asc : ∀ i, i + 1 < l.length → (Pt l i).f0 < (Pt l (i + 1)).f0
theorem c64 {x : Int} (h0 : -9223372036854775808 ≤ x) (h1 : x ≤ 9223372036854775807) : wrap64 x = x := by unfold wrap64; omega
theorem inRange_f (a : Int) : curve_inRange.f a = some (decide (-1000000 ≤ a ∧ a ≤ 1000000)) := by
  unfold curve_inRange.f
  by_cases h : -1000000 ≤ a
  · rw [if_pos h]; simp [h]
  · rw [if_neg h]; simp [h]
theorem check_l0 (l : List S53) (hl : l.length ≤ 16) : ∀ (k i : Nat), i ≤ l.length → curve_Check.l0 k l l (l.length : Int) (i : Int) = some 0 →
    ∀ j, i ≤ j → j < l.length → ((-1000000 ≤ (Pt l j).f0 ∧ (Pt l j).f0 ≤ 1000000) ∧ (-1000000 ≤ (Pt l j).f1 ∧ (Pt l j).f1 ≤ 1000000)) ∧ (0 < j → (Pt l (j - 1)).f0 < (Pt l j).f0) := by
  intro k
  induction k using Nat.strongRecOn with
  | _ k ih =>
    intro i hi h j hij hj
    match k, ih, h with
    | 0, _, h => simp [curve_Check.l0] at h
    | k + 1, ih, h =>
      have hlt : i < l.length := by omega
      simp only [curve_Check.l0] at h
      rw [if_pos (by omega), if_pos (by omega), if_pos (by omega), inRange_f] at h
      simp only [Option.bind_some, decide_eq_true_eq, inRange_f] at h
      match k, ih, h with
      | 0, _, h => split at h <;> simp [curve_Check.j1] at h
      | k + 1, ih, h =>
        by_cases hx : -1000000 ≤ (Pt l i).f0 ∧ (Pt l i).f0 ≤ 1000000
        · have hx' : -1000000 ≤ (rd_T53 l (i : Int)).f0 ∧ (rd_T53 l (i : Int)).f0 ≤ 1000000 := hx
          rw [if_pos hx'] at h
          by_cases hy : -1000000 ≤ (Pt l i).f1 ∧ (Pt l i).f1 ≤ 1000000
          · have hy' : -1000000 ≤ (rd_T53 l (i : Int)).f1 ∧ (rd_T53 l (i : Int)).f1 ≤ 1000000 := hy
            simp only [hy', and_self, decide_true, Bool.not_true, curve_Check.j1, Bool.false_eq_true, if_false] at h
            have hw : wrap64 ((i : Int) + 1) = ((i + 1 : Nat) : Int) := by rw [c64 (by omega) (by omega)]; rfl
            by_cases h0 : 0 < i
            · have hw2 : wrap64 ((i : Int) - 1) = ((i - 1 : Nat) : Int) := by rw [c64 (by omega) (by omega)]; omega
              rw [if_pos (by omega), hw2, if_pos (by omega), if_pos (by omega), hw] at h
              by_cases ha : (rd_T53 l (i : Int)).f0 ≤ (rd_T53 l ((i - 1 : Nat) : Int)).f0
              · rw [if_pos ha] at h; simp at h
              · rw [if_neg ha] at h
                by_cases hji : j = i
                · subst hji; exact ⟨⟨hx, hy⟩, fun _ => by unfold Pt; omega⟩
                · exact ih k (by omega) (i + 1) (by omega) h j (by omega) hj
            · rw [if_neg (by omega), hw] at h
              by_cases hji : j = i
              · subst hji; exact ⟨⟨hx, hy⟩, fun h => absurd h h0⟩
              · exact ih k (by omega) (i + 1) (by omega) h j (by omega) hj
          · have hy' : ¬ (-1000000 ≤ (rd_T53 l (i : Int)).f1 ∧ (rd_T53 l (i : Int)).f1 ≤ 1000000) := hy
            simp only [hy', decide_false, Bool.not_false, curve_Check.j1, if_true] at h
            simp at h
        · have hx' : ¬ (-1000000 ≤ (rd_T53 l (i : Int)).f0 ∧ (rd_T53 l (i : Int)).f0 ≤ 1000000) := hx
          rw [if_neg hx'] at h
          simp only [curve_Check.j1, if_true] at h
          simp at h
theorem check_ok (k : Nat) (l : List S53) (h : curve_Check.f k l = some 0) : PtsOk l := by
  unfold curve_Check.f at h
  by_cases h1 : (l.length : Int) < 1
  · rw [if_pos h1] at h; simp at h
  · rw [if_neg h1] at h
    by_cases h2 : (l.length : Int) > 16
    · rw [if_pos h2] at h; simp at h
    · rw [if_neg h2] at h
      have := check_l0 l (by omega) k 0 (by omega) h
      exact ⟨by omega, by omega, fun i hi => (this i (Nat.zero_le _) hi).1, fun i hi => by simpa using (this (i + 1) (Nat.zero_le _) hi).2 (by omega)⟩
theorem PtsOk.mono {l : List S53} (h : PtsOk l) : ∀ (d i : Nat), i + d < l.length → 0 < d → (Pt l i).f0 < (Pt l (i + d)).f0
  | 0, _, _, h0 => absurd h0 (Nat.lt_irrefl _)
  | 1, i, hd, _ => h.asc i hd
  | d + 2, i, hd, _ => Int.lt_trans (PtsOk.mono h (d + 1) i (by omega) (by omega)) (h.asc (i + (d + 1)) (by omega))
theorem tw_len {α : Type} (q : α → Bool) : ∀ (l : List α) (r : Nat), r ≤ l.length → (∀ i (h : i < l.length), i < r → q l[i] = true) → (∀ (h : r < l.length), q l[r] = false) → (l.takeWhile q).length = r
  | [], r, hr, _, _ => by simp at hr; subst hr; rfl
  | a :: l, 0, _, _, h2 => by
    have := h2 (by simp)
    simp only [List.getElem_cons_zero] at this
    simp [List.takeWhile_cons, this]
  | a :: l, r + 1, hr, h1, h2 => by
    have ha := h1 0 (by simp) (by omega)
    simp only [List.getElem_cons_zero] at ha
    simp only [List.takeWhile_cons, ha, if_true, List.length_cons]
    congr 1
    exact tw_len q l r (by simpa using hr) (fun i h hi => by have h3 := h1 (i + 1) (by simpa using h) (by omega); rwa [List.getElem_cons_succ] at h3) (fun h => by have h3 := h2 (by simpa using h); rwa [List.getElem_cons_succ] at h3)
/-- What a search for x comes to. -/
theorem at_search {l : List S53} (ho : PtsOk l) (x : Int) (r : Nat) (hr : r ≤ l.length) (h1 : r < l.length → decide ((rd_T53 l (r : Int)).f0 ≥ x) = true) (h2 : 0 < r → decide ((rd_T53 l ((r - 1 : Nat) : Int)).f0 ≥ x) = false) :
    (l.takeWhile fun p => decide (p.f0 < x)).length = r := by
  refine tw_len _ l r hr (fun i hi hir => ?_) (fun hi => ?_)
  · have h3 := h2 (by omega)
    simp only [decide_eq_false_iff_not] at h3
    have h4 : (Pt l i).f0 ≤ (Pt l (r - 1)).f0 := by
      by_cases e : i = r - 1
      · rw [e]; exact Int.le_refl _
      · have := PtsOk.mono ho (r - 1 - i) i (by omega) (by omega)
        rw [show i + (r - 1 - i) = r - 1 from by omega] at this
        omega
    rw [← Pt_get l i hi]
    simp only [decide_eq_true_eq]
    have h5 : (Pt l (r - 1)).f0 < x := by unfold Pt; omega
    omega
  · have h3 := h1 hi
    simp only [decide_eq_true_eq] at h3
    rw [← Pt_get l r hi]
    simp only [decide_eq_false_iff_not]
    unfold Pt
    omega
theorem getD_Pt (l : List S53) (i : Nat) : l.getD i z53 = Pt l i := by unfold Pt rd_T53; rw [Int.toNat_natCast]
theorem mul_bd {a n : Int} (ha0 : -2000000 ≤ a) (ha1 : a ≤ 2000000) (hn0 : 0 ≤ n) (hn1 : n ≤ 2000000) : -4000000000000 ≤ a * n ∧ a * n ≤ 4000000000000 := by
  have h1 : a * n ≤ 2000000 * n := Int.mul_le_mul_of_nonneg_right ha1 hn0
  have h2 : -2000000 * n ≤ a * n := Int.mul_le_mul_of_nonneg_right ha0 hn0
  omega
theorem rise_eq (a n b : Int) (ha0 : -2000000 ≤ a) (ha1 : a ≤ 2000000) (hn0 : 0 ≤ n) (hn1 : n ≤ 2000000) (hb0 : 0 < b) (hb1 : b ≤ 2000000) : curve_rise.f a n b = some (a * n / b) := by
  obtain ⟨h1, h2⟩ := mul_bd ha0 ha1 hn0 hn1
  unfold curve_rise.f
  generalize a * n = p at h1 h2
  rw [c64 (x := p) (by omega) (by omega)]
  have hb : ¬ b = 0 := by omega
  by_cases hp : p < 0
  · rw [if_pos hp, if_neg hb, c64 (x := -p) (by omega) (by omega), c64 (x := -p + b) (by omega) (by omega), c64 (x := -p + b - 1) (by omega) (by omega), Int.tdiv_eq_ediv_of_nonneg (by omega)]
    have hq0 : 0 ≤ (-p + b - 1) / b := Int.ediv_nonneg (by omega) (by omega)
    have hq1 : (-p + b - 1) / b ≤ -p + b - 1 := Int.ediv_le_self _ (by omega)
    rw [c64 (x := (-p + b - 1) / b) (by omega) (by omega), c64 (by omega) (by omega)]
    congr 1
    -- -((-p + b - 1) / b) = p / b
    have e1 := Int.mul_ediv_add_emod (-p + b - 1) b
    have e2 := Int.emod_nonneg (-p + b - 1) (show b ≠ 0 by omega)
    have e3 := Int.emod_lt_of_pos (-p + b - 1) hb0
    have e4 := Int.mul_ediv_add_emod p b
    have e5 := Int.emod_nonneg p (show b ≠ 0 by omega)
    have e6 := Int.emod_lt_of_pos p hb0
    generalize (-p + b - 1) / b = q at *
    generalize p / b = t at *
    have h7 : b * (q + t) = -p + b - 1 - (-p + b - 1) % b + (p - p % b) := by rw [Int.mul_add]; omega
    have h8 : b * (q + t) < b * 1 := by omega
    have h9 : b * (-1) < b * (q + t) := by omega
    have h10 := Int.lt_of_mul_lt_mul_left h8 (by omega)
    have h11 := Int.lt_of_mul_lt_mul_left h9 (by omega)
    omega
  · rw [if_neg hp, if_neg hb, Int.tdiv_eq_ediv_of_nonneg (by omega)]
    have hq0 : 0 ≤ p / b := Int.ediv_nonneg (by omega) (by omega)
    have hq1 : p / b ≤ p := Int.ediv_le_self _ (by omega)
    rw [c64 (by omega) (by omega)]
/-- A value between two others. -/
theorem between_bd {d n b : Int} (hn0 : 0 ≤ n) (hn1 : n ≤ b) (hb : 0 < b) : (0 ≤ d → 0 ≤ d * n / b ∧ d * n / b ≤ d) ∧ (d ≤ 0 → d ≤ d * n / b ∧ d * n / b ≤ 0) := by
  constructor
  · intro hd
    have h1 : 0 ≤ d * n := Int.mul_nonneg hd hn0
    have h2 : d * n ≤ d * b := Int.mul_le_mul_of_nonneg_left hn1 hd
    exact ⟨Int.ediv_nonneg h1 (by omega), by
      have := Int.ediv_le_ediv hb h2
      rwa [Int.mul_ediv_cancel d (by omega)] at this⟩
  · intro hd
    have h1 : d * n ≤ 0 := Int.mul_nonpos_of_nonpos_of_nonneg hd hn0
    have h2 : d * b ≤ d * n := Int.mul_le_mul_of_nonpos_left hd hn1
    refine ⟨?_, ?_⟩
    · have := Int.ediv_le_ediv hb h2
      rwa [Int.mul_ediv_cancel d (by omega)] at this
    · have := Int.ediv_le_ediv hb h1
      rwa [Int.zero_ediv] at this
def SearchPost (n : Nat) (p : Nat → Bool) (w : World) (e : Ending) (w' : World) : Prop := ∃ r : Nat, e = .returned (.int .i64 r) ∧ r ≤ n ∧ (r < n → p r = true) ∧ (0 < r → p (r - 1) = false) ∧ Below w.heap.size w w'
set_option maxHeartbeats 2000000 in
set_option maxRecDepth 100000 in
/-- sort.Search with the test 39: between 0 and n, a place at which the test says yes (or n), and just before which it says no (or 0). -/
theorem Search39 (n : Nat) (hn : n ≤ 4000000000000) (q1 q2 : Addr) (p : Nat → Bool) (w : World)
    (hp : ∀ (i : Nat) (W : World), i < n → Below w.heap.size w W → Calls Tryd.prog 39 #[.int .i64 i, .pointer (some q1), .pointer (some q2)] W fun e W' => e = .returned (.bool (p i)) ∧ Below W.heap.size W W') :
    Calls Tryd.prog 38 #[.int .i64 n, .func (.func 39) #[] #[.pointer (some q1), .pointer (some q2)]] w (SearchPost n p w) := by
  have HP := Lib.hid hp
  clear hp
  go_enter Tryd.func38, Tryd.ntmps38
  go_wp2
  go_loopw [5, 6] (fun a b wr => ∃ i j : Nat, i ≤ j ∧ j ≤ n ∧ a = .int .i64 i ∧ b = .int .i64 j ∧ Hid (j < n → p j = true) ∧ Hid (0 < i → p (i - 1) = false) ∧ Hid (Below w.heap.size w wr)) (fun a b _ => (intOf b).toNat - (intOf a).toNat)
  case atStart => exact ⟨0, n, Nat.zero_le _, Nat.le_refl _, rfl, rfl, Lib.hid fun h => absurd h (Nat.lt_irrefl _), Lib.hid fun h => absurd h (Nat.lt_irrefl _), Lib.hid (Below.refl _ _)⟩
  case round =>
    obtain ⟨i, j, hij, hj, rfl, rfl, H1, H2, HB⟩ := hrel
    by_cases hlt : i < j
    · go_wp2_with fail
      rw [show ((i : Int) + (j : Int)) / 2 = (((i + j) / 2 : Nat) : Int) from by omega]
      refine (HP.out ((i + j) / 2) _ (by omega) HB.out).mono ?_
      rintro e w1 ⟨rfl, hb1⟩
      have HB1 := Lib.hid (below_step HB.out hb1)
      clear hb1
      generalize hpm : p ((i + j) / 2) = b
      have HPM := Lib.hid hpm
      clear hpm
      cases b with
      | true =>
        go_wp2
        go_roundw
        case rel => exact ⟨i, (i + j) / 2, by omega, by omega, rfl, rfl, Lib.hid fun _ => HPM.out, H2, HB1⟩
        case measure => simp [intOf]; omega
      | false =>
        go_wp2
        go_roundw
        case rel => exact ⟨(i + j) / 2 + 1, j, by omega, hj, by go_num, rfl, H1, Lib.hid fun _ => by simpa using HPM.out, HB1⟩
        case measure => simp [intOf]; omega
    · have hij2 : j ≤ i := by omega
      go_wp2
      go_ret
      exact ⟨i, rfl, by omega, fun h => by have e : i = j := by omega
                                           rw [e]; exact H1.out (by omega), H2.out, HB.out⟩
theorem bcell {W W1 : World} (hb : Below W.heap.size W W1) (b o : Nat) (v : Value) (hlt : b < W.heap.size) (h : W.cell? ⟨b, o, none⟩ = some v) : W1.cell? ⟨b, o, none⟩ = some v := (hb.cell (p := ⟨b, o, none⟩) hlt).trans h
theorem s3keep {W0 W W' : World} {p1 p2 p3 : Addr} {v1 v2 v3 : Value} (h : W.cell? p1 = some v1 ∧ W.cell? p2 = some v2 ∧ W.cell? p3 = some v3 ∧ Aside0 (Below W0.heap.size W0 W)) (hb : Below W.heap.size W W') :
    W'.cell? p1 = some v1 ∧ W'.cell? p2 = some v2 ∧ W'.cell? p3 = some v3 ∧ Aside0 (Below W0.heap.size W0 W') := by
  obtain ⟨h1, h2, h3, h4⟩ := h
  exact ⟨(hb.cell (World.block_lt_of_cell? _ _ h1)).trans h1, (hb.cell (World.block_lt_of_cell? _ _ h2)).trans h2, (hb.cell (World.block_lt_of_cell? _ _ h3)).trans h3, Aside0.mk (below_step h4.out hb)⟩
set_option maxHeartbeats 2000000 in
set_option maxRecDepth 100000 in
theorem At1_calls (A : Option Addr) (c : Nat) (l : List S53) (x i : Int) (bc bx : Nat) (W : World) (hC : Kd.C k53 W A l.length l) (hc : W.cell? ⟨bc, 0, none⟩ = some (.slice A l.length c)) (hx : W.cell? ⟨bx, 0, none⟩ = some (.int .i64 x)) (hlc : l.length ≤ c) (h0 : 0 ≤ i) (h1 : i < l.length) :
    Calls Tryd.prog 39 #[.int .i64 i, .pointer (some ⟨bc, 0, none⟩), .pointer (some ⟨bx, 0, none⟩)] W fun e W' => e = .returned (.bool (decide ((rd_T53 l i).f0 ≥ x))) ∧ Drawn0 W W' := by
  obtain ⟨ad, rfl, hc0, hc1⟩ := at_T53 hC i h0 h1
  clear hC
  go_enter Tryd.func39, Tryd.ntmps39
  go_wp2
  go_quiet (fail)
  go_wp2
  go_ret
  exact ⟨rfl, by repeat (first | exact Drawn0.refl _ | apply Drawn0.step)⟩
set_option maxHeartbeats 4000000 in
set_option maxRecDepth 100000 in
theorem curve_At.calls (k : Nat) (A0 : Option Addr) (c0 : Nat) (l0 : List (S53)) (a1 : Int) (r : Int) (w : World) (hr0 : Kd.C k53 w A0 l0.length l0) (hc0 : l0.length ≤ c0) (h : curve_At.f k l0 a1 = some r) :
    Calls Tryd.prog 31 #[.slice A0 l0.length c0, .int .i64 a1] w fun e w' => e = .returned (.int .i64 r) ∧ Below w.heap.size w w' := by
  obtain ⟨e0, hck, hr⟩ := Option.bind_eq_some_iff.mp h
  clear h
  replace hr := Option.some.inj hr
  have HR := Aside0.mk hr0
  have HCK := Aside0.mk hck
  have HV := Aside0.mk hr
  clear hr0 hck hr
  go_enter Tryd.func31, Tryd.ntmps31
  go_wp2_with fail
  refine (curve_Check.calls k A0 c0 l0 e0 _ (Kd.C_alloc (Kd.C_alloc HR.out _) _) hc0 HCK.out).mono ?_
  rintro e w1 ⟨rfl, hb1⟩
  have hz : w.heap.size + 1 < w1.heap.size := by have := hb1.size; simp at this; omega
  have hcc : w1.cell? ⟨w.heap.size, 0, none⟩ = some (.slice A0 l0.length c0) := bcell hb1 _ _ _ (by simp; omega) (by simp)
  have hcx : w1.cell? ⟨w.heap.size + 1, 0, none⟩ = some (.int .i64 a1) := bcell hb1 _ _ _ (by simp) (by simp)
  have HB1 := Aside0.mk (below_step (below_alloc (below_alloc (Below.refl _ _) _) _) hb1)
  have HR1 := Aside0.mk (Kd.C_below HR.out HB1.out)
  clear hb1
  by_cases hE : e0 = 0
  · have hEb : (e0 != 0) = false := by simp [hE]
    have hok := Aside0.mk (check_ok k l0 (by rw [← hE]; exact HCK.out))
    have hv2 := Aside0.mk (show atv l0 a1 = r by have := HV.out; rwa [if_pos hE] at this)
    clear HCK HV hE
    go_wp2_with fail
    have hlen16 := hok.out.len
    refine (Search39 l0.length (by omega) ⟨w.heap.size, 0, none⟩ ⟨w.heap.size + 1, 0, none⟩ (fun i => decide ((rd_T53 l0 (i : Int)).f0 ≥ a1)) w1 ?hp).mono ?_
    case hp =>
      intro i W hi hW
      refine (At1_calls A0 c0 l0 a1 i w.heap.size (w.heap.size + 1) W (Kd.C_below HR1.out hW) (bcell hW _ _ _ (by omega) hcc) (bcell hW _ _ _ (by omega) hcx) hc0 (by omega) (by omega)).mono ?_
      rintro e W' ⟨rfl, hd⟩
      exact ⟨rfl, hd.below⟩
    rintro e w2 ⟨n, rfl, hn, h1, h2, hb2⟩
    have H12 := Aside0.mk (at_search hok.out a1 n hn h1 h2)
    have hn1 : n < l0.length → a1 ≤ (Pt l0 n).f0 := fun h => of_decide_eq_true (h1 h)
    have hn2 : 0 < n → (Pt l0 (n - 1)).f0 < a1 := fun h => by have := of_decide_eq_false (h2 h); unfold Pt; omega
    have HN1 := Aside0.mk hn1
    have HN2 := Aside0.mk hn2
    clear h1 h2 hn1 hn2
    have hz2 : w.heap.size + 1 < w2.heap.size := by have := hb2.size; omega
    have hcc2 : w2.cell? ⟨w.heap.size, 0, none⟩ = some (.slice A0 l0.length c0) := bcell hb2 _ _ _ (by omega) hcc
    have hcx2 : w2.cell? ⟨w.heap.size + 1, 0, none⟩ = some (.int .i64 a1) := bcell hb2 _ _ _ (by omega) hcx
    have HB2 := Aside0.mk (below_step HB1.out hb2)
    have HR2 := Aside0.mk (Kd.C_below HR1.out hb2)
    clear hb2 hcc hcx HB1 HR1 hz HR
    by_cases hn0 : n = 0
    · subst hn0
      obtain ⟨ad, hA, hq0, hq1⟩ := at_T53 HR2.out 0 (by omega) (by have := hok.out.pos; omega)
      subst hA
      rw [show ((0 : Int)).toNat = 0 from rfl, show 0 * 2 = 0 from rfl, Addr.add_zero'] at hq0 hq1
      have hpos : (0 < l0.length) = True := eq_true hok.out.pos
      have hfin : (rd_T53 l0 0).f1 = r := by
        rw [← hv2.out]; unfold atv; simp only [H12.out, if_true]; rfl
      rw [hfin] at hq1
      clear hfin HN1 HN2 H12 hv2 hok HR2 hn
      go_wp2
      go_ret
      exact ⟨rfl, HB2.out⟩
    · obtain ⟨m, rfl⟩ : ∃ m, n = m + 1 := ⟨n - 1, by omega⟩
      obtain ⟨ad, hA, hq0, hq1⟩ := at_T53 HR2.out (m : Int) (by omega) (by omega)
      subst hA
      rw [Int.toNat_natCast] at hq0 hq1
      have hnb : (((m + 1 : Nat) : Int) == 0) = false := by simp; omega
      by_cases hnl : m + 1 = l0.length
      · have hfin : (rd_T53 l0 (m : Int)).f1 = r := by
          rw [← hv2.out]; unfold atv
          simp only [H12.out]
          rw [if_neg hn0, if_pos hnl, getD_Pt]; rfl
        rw [hfin] at hq1
        have hlb : (((m + 1 : Nat) : Int) == (l0.length : Int)) = true := by simp; omega
        have hlb2 : ((m + 1) == l0.length) = true := by simp; omega
        have hm1 : m < l0.length := by omega
        clear hfin HN1 HN2 H12 hv2 hok HR2 hn hn0 hnl
        go_wp2
        go_ret
        exact ⟨rfl, HB2.out⟩
      · obtain ⟨ad2, hA2, hp0, hp1⟩ := at_T53 HR2.out ((m + 1 : Nat) : Int) (by omega) (by omega)
        obtain rfl : ad = ad2 := by injection hA2
        rw [Int.toNat_natCast] at hp0 hp1
        have hlb : (((m + 1 : Nat) : Int) == (l0.length : Int)) = false := by simp; omega
        have hlb2 : ((m + 1) == l0.length) = false := by simp; omega
        have hm1 : m < l0.length := by omega
        have hm2 : m + 1 < l0.length := by omega
        have g0 := (hok.out.rng m (by omega)).1
        have g1 := (hok.out.rng m (by omega)).2
        have g2 := (hok.out.rng (m + 1) (by omega)).1
        have g3 := (hok.out.rng (m + 1) (by omega)).2
        have g4 := HN2.out (by omega)
        have g5 := HN1.out (by omega)
        rw [Nat.add_sub_cancel] at g4
        have hfin : (rd_T53 l0 (m : Int)).f1 + ((rd_T53 l0 ((m + 1 : Nat) : Int)).f1 - (rd_T53 l0 (m : Int)).f1) * (a1 - (rd_T53 l0 (m : Int)).f0) / ((rd_T53 l0 ((m + 1 : Nat) : Int)).f0 - (rd_T53 l0 (m : Int)).f0) = r := by
          rw [← hv2.out]; unfold atv
          simp only [H12.out]
          rw [if_neg hn0, if_neg hnl, getD_Pt, getD_Pt]; rfl
        unfold Pt at g0 g1 g2 g3 g4 g5
        generalize (rd_T53 l0 (m : Int)).f0 = ax at *
        generalize (rd_T53 l0 (m : Int)).f1 = ay at *
        generalize (rd_T53 l0 ((m + 1 : Nat) : Int)).f0 = bx at *
        generalize (rd_T53 l0 ((m + 1 : Nat) : Int)).f1 = bw at *
        have hrise := Aside0.mk (rise_eq (bw - ay) (a1 - ax) (bx - ax) (by omega) (by omega) (by omega) (by omega) (by omega) (by omega))
        obtain ⟨j1, j2⟩ := between_bd (d := bw - ay) (n := a1 - ax) (b := bx - ax) (by omega) (by omega) (by omega)
        have hq1' : -2000000 ≤ (bw - ay) * (a1 - ax) / (bx - ax) := by omega
        have hq2' : (bw - ay) * (a1 - ax) / (bx - ax) ≤ 2000000 := by omega
        generalize (bw - ay) * (a1 - ax) / (bx - ax) = v at *
        subst hfin
        obtain ⟨g00, g01⟩ := g0
        obtain ⟨g10, g11⟩ := g1
        obtain ⟨g20, g21⟩ := g2
        obtain ⟨g30, g31⟩ := g3
        clear HN1 HN2 H12 hv2 hok HR2 hn hn0 hnl j1 j2 hA2
        have hbl1 : ad.block < w2.heap.size := by
          have := World.block_lt_of_cell? _ _ hq1
          have e : (ad.add (m * 2)).block = ad.block := by unfold Addr.add; split <;> rfl
          rw [← e]; exact this
        have hadb : (ad.add (m * 2)).block = ad.block := by unfold Addr.add; split <;> rfl
        have hadb2 : (ad.add ((m + 1) * 2)).block = ad.block := by unfold Addr.add; split <;> rfl
        rw [hadb] at hq1
        rw [hadb2] at hp1
        have hk1 : IntKind.i64.wrap (m : Int) = (m : Int) := IntWalk.i64_in _ (by omega)
        have hk2 : IntKind.i64.wrap ((m : Int) + 1) = (m : Int) + 1 := IntWalk.i64_in _ (by omega)
        have ht2 : ((m : Int) + 1).toNat = m + 1 := by omega
        have hi1 : (m : Int) + 1 < (l0.length : Int) := by omega
        have hi0 : 0 ≤ (m : Int) + 1 := by omega
        have hbl2 : w.heap.size < w2.heap.size := by omega
        have hbl3 : (w.heap.size = w2.heap.size) = False := eq_false (by omega)
        have hbl4 : (w.heap.size = w2.heap.size + 1) = False := eq_false (by omega)
        have hbl5 : (ad.block = w2.heap.size) = False := eq_false (by omega)
        have hbl6 : (ad.block = w2.heap.size + 1) = False := eq_false (by omega)
        go_wp2
        go_region
        all_goals go_wp2
        all_goals go_quiet ((go_at_call 40; (with_reducible refine (curve_rise.calls (bw - ay) (a1 - ax) (bx - ax) v _ hrise.out).mono ?_); rintro e w' ⟨rfl, ⟨nd, rfl⟩⟩; (try first | exact ⟨rfl, _, World.drewN_drewN _ _ _⟩ | exact ⟨rfl, _, Eq.trans (World.drewN_drewN _ _ _) (congrArg (World.drewN _) (Nat.add_assoc _ _ _))⟩)))
        all_goals go_wp2
        all_goals go_ret
        all_goals exact ⟨rfl, by repeat (first | (with_reducible first | exact HB2.out | apply below_alloc | apply pw_below_drewN | apply below_drew1) | exact HB2.out | refine below_set ?_ (by omega))⟩
  · have hEb : (e0 != 0) = true := by simpa using hE
    have hv2 : 0 = r := by have := HV.out; rwa [if_neg hE] at this
    subst hv2
    clear hE HV HCK
    go_wp2
    go_ret
    exact ⟨rfl, HB1.out⟩

end Go.Proofs.YtfgeppldckagaaaDoor.PAll
