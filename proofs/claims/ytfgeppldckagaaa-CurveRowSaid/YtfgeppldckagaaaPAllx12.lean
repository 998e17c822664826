-- Written by a changed copy of the kit's print program, run in this session (NOTES.md tells the change). Not trusted: Lean checks it.
import Derived.Test.YtfgeppldckagaaaPAllx0
import Derived.Test.YtfgeppldckagaaaPAllx4
import Derived.Test.YtfgeppldckagaaaPAllx6
namespace Go.Proofs.Ytfgeppldckagaaa.PAll
open Go.RowKit Go.Proofs.YtfgeppldckagaaaW.PrintWords Go.Proofs.YtfgeppldckagaaaW.PrintLast Go.Proofs.YtfgeppldckagaaaW.PrintMore
attribute [local go_sem] max2_int min2_int max_two min_two max_three min_three max_four min_four   -- for this text's walks alone
set_option linter.unusedVariables false
set_option linter.unusedSimpArgs false

/-! ### given curve_Reach: function 23 -/
def reachv (l : List S36) (y : Int) : Int × Bool :=
  let k := (l.takeWhile fun p => decide (p.f1 < y)).length
  if k = l.length then (0, false)
  else if k = 0 then ((l.getD 0 z36).f0, true)
  else ((l.getD (k - 1) z36).f0 - (-((y - (l.getD (k - 1) z36).f1) * ((l.getD k z36).f0 - (l.getD (k - 1) z36).f0))) / ((l.getD k z36).f1 - (l.getD (k - 1) z36).f1), true)
def curve_Reach.f (k : Nat) (l0 : List (S36)) (a1 : Int) : Option (Int × Bool) := (curve_Check.f k l0).bind fun e => some (if e = 0 then reachv l0 a1 else (0, false))
theorem curve_Reach.mono : ∀ a0 a1 k, LeO (curve_Reach.f k a0 a1) (curve_Reach.f (k + 1) a0 a1) := by
  intro a0 a1 k
  unfold curve_Reach.f
  exact LeO.bind (curve_Check.mono _ _) (fun _ => LeO.refl _)
theorem atv_len {l : List S36} (ho : PtsOk l) (x : Int) (r : Nat) (hr : r ≤ l.length) (h1 : r < l.length → x ≤ (Pt l r).f0) (h2 : 0 < r → (Pt l (r - 1)).f0 < x) :
    (l.takeWhile fun p => decide (p.f0 < x)).length = r :=
  at_search ho x r hr (fun h => by have := h1 h; unfold Pt at this; simpa using this) (fun h => by have := h2 h; unfold Pt at this; simp; omega)
/-- On a segment, its ends included. -/
theorem atv_seg {l : List S36} (ho : PtsOk l) (m : Nat) (hm : m + 1 < l.length) (x : Int) (h1 : (Pt l m).f0 ≤ x) (h2 : x ≤ (Pt l (m + 1)).f0) :
    atv l x = (Pt l m).f1 + ((Pt l (m + 1)).f1 - (Pt l m).f1) * (x - (Pt l m).f0) / ((Pt l (m + 1)).f0 - (Pt l m).f0) := by
  have hasc := ho.asc m hm
  by_cases hx : (Pt l m).f0 < x
  · have hl := atv_len ho x (m + 1) (by omega) (fun _ => h2) (fun _ => by rw [Nat.add_sub_cancel]; exact hx)
    unfold atv
    simp only [hl]
    rw [if_neg (by omega), if_neg (by omega), getD_Pt, getD_Pt, Nat.add_sub_cancel]
  · have hxe : x = (Pt l m).f0 := by omega
    have hl := atv_len ho x m (by omega) (fun _ => by omega) (fun h => by
      have := ho.asc (m - 1) (by omega)
      rw [show m - 1 + 1 = m from by omega] at this
      omega)
    rw [hxe, Int.sub_self, Int.mul_zero, Int.zero_ediv, Int.add_zero]
    rw [hxe] at hl
    unfold atv
    simp only [hl]
    by_cases h0 : m = 0
    · rw [if_pos h0, getD_Pt, h0]
    · rw [if_neg h0, if_neg (by omega), getD_Pt, getD_Pt]
      have := ho.asc (m - 1) (by omega)
      rw [show m - 1 + 1 = m from by omega] at this
      rw [Int.mul_ediv_cancel _ (by omega)]
      omega
theorem div_ge {d n b c : Int} (hb : 0 < b) : c ≤ d * n / b ↔ c * b ≤ d * n := by rw [Int.le_ediv_iff_mul_le hb]
/-- What a search on a rising segment comes to. -/
theorem reach_search {l : List S36} (ho : PtsOk l) (m : Nat) (hm : m + 1 < l.length) (y : Int) (hy1 : (Pt l m).f1 < y) (hy2 : y ≤ (Pt l (m + 1)).f1) (r : Nat) (hr : (r : Int) ≤ (Pt l (m + 1)).f0 - (Pt l m).f0)
    (h1 : (r : Int) < (Pt l (m + 1)).f0 - (Pt l m).f0 → y ≤ atv l ((Pt l m).f0 + (r : Int))) (h2 : 0 < r → atv l ((Pt l m).f0 + ((r - 1 : Nat) : Int)) < y) :
    (r : Int) = -((-((y - (Pt l m).f1) * ((Pt l (m + 1)).f0 - (Pt l m).f0))) / ((Pt l (m + 1)).f1 - (Pt l m).f1)) := by
  have hasc := ho.asc m hm
  have e1 : ∀ i : Int, 0 ≤ i → i ≤ (Pt l (m + 1)).f0 - (Pt l m).f0 → (y ≤ atv l ((Pt l m).f0 + i) ↔ (y - (Pt l m).f1) * ((Pt l (m + 1)).f0 - (Pt l m).f0) ≤ ((Pt l (m + 1)).f1 - (Pt l m).f1) * i) := by
    intro i hi0 hi1
    rw [atv_seg ho m hm _ (by omega) (by omega), ← div_ge (by omega)]
    rw [show (Pt l m).f0 + i - (Pt l m).f0 = i from by omega]
    omega
  generalize hN : (Pt l (m + 1)).f0 - (Pt l m).f0 = N at *
  generalize hD : (Pt l (m + 1)).f1 - (Pt l m).f1 = D at *
  generalize hY : y - (Pt l m).f1 = Y at *
  have hD0 : 0 < D := by omega
  have hYD : Y ≤ D := by omega
  have hY0 : 0 < Y := by omega
  have hN0 : 0 < N := by omega
  -- r is the least with Y * N ≤ D * r
  have g1 : Y * N ≤ D * (r : Int) := by
    by_cases h : (r : Int) < N
    · exact (e1 r (by omega) (by omega)).1 (h1 h)
    · have : (r : Int) = N := by omega
      rw [this]
      exact Int.mul_le_mul_of_nonneg_right hYD (by omega)
  have g2 : D * ((r : Int) - 1) < Y * N := by
    by_cases h : 0 < r
    · have h3 := h2 h
      have e2 : ((r - 1 : Nat) : Int) = (r : Int) - 1 := by omega
      have h4 := (e1 ((r : Int) - 1) (by omega) (by omega))
      rw [e2] at h3
      exact Int.not_le.1 (fun h5 => absurd (h4.2 h5) (by omega))
    · have : (r : Int) = 0 := by omega
      rw [this]
      have p1 : 0 < Y * N := Int.mul_pos hY0 hN0
      have p2 : D * ((0 : Int) - 1) = -D := by omega
      omega
  generalize Y * N = P at *
  have e4 := Int.mul_ediv_add_emod (-P) D
  have e5 := Int.emod_nonneg (-P) (show D ≠ 0 by omega)
  have e6 := Int.emod_lt_of_pos (-P) hD0
  generalize (-P) / D = q at *
  have h7 : D * (q + (r : Int)) = D * q + D * (r : Int) := Int.mul_add _ _ _
  have h8 : D * ((r : Int) - 1) = D * (r : Int) - D := by rw [Int.mul_sub, Int.mul_one]
  have h9 : D * (-1) < D * (q + (r : Int)) := by omega
  have h10 : D * (q + (r : Int)) < D * 1 := by omega
  have h11 := Int.lt_of_mul_lt_mul_left h9 (by omega)
  have h12 := Int.lt_of_mul_lt_mul_left h10 (by omega)
  omega
theorem reach_len {l : List S36} (y : Int) (r : Nat) (hr : r ≤ l.length) (h1 : ∀ i, i < r → (Pt l i).f1 < y) (h2 : r < l.length → y ≤ (Pt l r).f1) : (l.takeWhile fun p => decide (p.f1 < y)).length = r :=
  tw_len _ l r hr (fun i hi hir => by rw [← Pt_get l i hi]; simpa using h1 i hir) (fun hi => by rw [← Pt_get l r hi]; have := h2 hi; simp; omega)
theorem at_f_ok (k : Nat) (l : List S36) (x : Int) (h : curve_Check.f k l = some 0) : curve_At.f k l x = some (atv l x) := by
  unfold curve_At.f; rw [h]; rfl
set_option maxHeartbeats 4000000 in
set_option maxRecDepth 100000 in
theorem Reach1_calls (k : Nat) (A : Option Addr) (c : Nat) (l : List S36) (i fr y : Int) (bc bf bw : Nat) (W : World) (hC : Kd.C k36 W A l.length l) (hck : curve_Check.f k l = some 0) (hc : W.cell? ⟨bc, 0, none⟩ = some (.slice A l.length c)) (hf : W.cell? ⟨bf, 0, none⟩ = some (.int .i64 fr)) (hy : W.cell? ⟨bw, 0, none⟩ = some (.int .i64 y)) (hlc : l.length ≤ c)
    (h0 : -4000000 ≤ fr) (h1 : fr ≤ 4000000) (h2 : 0 ≤ i) (h3 : i ≤ 4000000) :
    Calls Try.prog 36 #[.int .i64 i, .pointer (some ⟨bc, 0, none⟩), .pointer (some ⟨bf, 0, none⟩), .pointer (some ⟨bw, 0, none⟩)] W fun e W' => e = .returned (.bool (decide (atv l (fr + i) ≥ y))) ∧ Below W.heap.size W W' := by
  have HR := Aside0.mk hC
  have HCK := Aside0.mk (at_f_ok k l (fr + i) hck)
  clear hC hck
  have hk1 : IntKind.i64.wrap (fr + i) = fr + i := IntWalk.i64_in _ (by omega)
  have hS0 := s3keep ⟨hc, hf, hy, Aside0.mk (Below.refl _ _)⟩ (below_drew1 (Below.refl W.heap.size W))
  clear hc hf hy
  go_enter Try.func36, Try.ntmps36
  go_wp2
  go_region_held3 (fun w' => w'.cell? ⟨bc, 0, none⟩ = some (.slice A l.length c) ∧ w'.cell? ⟨bf, 0, none⟩ = some (.int .i64 fr) ∧ w'.cell? ⟨bw, 0, none⟩ = some (.int .i64 y) ∧ Aside0 (Below W.heap.size W w'))
    ((first | exact hS0 | exact hS1))
    ((go_at_call 17; refine (curve_At.calls k A c l (fr + i) _ _ (Kd.C_below HR.out hS0.2.2.2.out) hlc HCK.out).mono ?_; rintro e w1 ⟨rfl, hb1⟩; have hS1 := s3keep hS0 hb1; clear hb1))
  go_wp2
  go_ret
  exact ⟨rfl, hS1.2.2.2.out⟩
set_option maxHeartbeats 2000000 in
set_option maxRecDepth 100000 in
/-- sort.Search with the test 36: between 0 and n, a place at which the test says yes (or n), and just before which it says no (or 0). -/
theorem Search36 (n : Nat) (hn : n ≤ 4000000000000) (q1 q2 q3 : Addr) (p : Nat → Bool) (w : World)
    (hp : ∀ (i : Nat) (W : World), i < n → Below w.heap.size w W → Calls Try.prog 36 #[.int .i64 i, .pointer (some q1), .pointer (some q2), .pointer (some q3)] W fun e W' => e = .returned (.bool (p i)) ∧ Below W.heap.size W W') :
    Calls Try.prog 29 #[.int .i64 n, .func (.func 36) #[] #[.pointer (some q1), .pointer (some q2), .pointer (some q3)]] w (SearchPost n p w) := by
  have HP := Lib.hid hp
  clear hp
  go_enter Try.func29, Try.ntmps29
  go_wp2
  go_loopw [5, 6] (fun a b wr => ∃ i j : Nat, i ≤ j ∧ j ≤ n ∧ a = .int .i64 i ∧ b = .int .i64 j ∧ Hid (j < n → p j = true) ∧ Hid (0 < i → p (i - 1) = false) ∧ Hid (Below w.heap.size w wr)) (fun a b _ => (intOf b).toNat - (intOf a).toNat)
  case atStart => exact ⟨0, n, Nat.zero_le _, Nat.le_refl _, rfl, rfl, Lib.hid fun h => absurd h (Nat.lt_irrefl _), Lib.hid fun h => absurd h (Nat.lt_irrefl _), Lib.hid (Below.refl _ _)⟩
  case round =>
    obtain ⟨i, j, hij, hj, rfl, rfl, H1, H2, HB⟩ := hrel
    by_cases hlt : i < j
    · go_wp2_with fail
      rw [show ((i : Int) + (j : Int)) / 2 = (((i + j) / 2 : Nat) : Int) from by omega]
      refine (HP.out ((i + j) / 2) _ (by omega) HB.out).mono ?_
      rintro e w1 ⟨rfl, hb1⟩
      have HB1 := Lib.hid (below_step HB.out hb1)
      clear hb1
      generalize hpm : p ((i + j) / 2) = b
      have HPM := Lib.hid hpm
      clear hpm
      cases b with
      | true =>
        go_wp2
        go_roundw
        case rel => exact ⟨i, (i + j) / 2, by omega, by omega, rfl, rfl, Lib.hid fun _ => HPM.out, H2, HB1⟩
        case measure => simp [intOf]; omega
      | false =>
        go_wp2
        go_roundw
        case rel => exact ⟨(i + j) / 2 + 1, j, by omega, hj, by go_num, rfl, H1, Lib.hid fun _ => by simpa using HPM.out, HB1⟩
        case measure => simp [intOf]; omega
    · have hij2 : j ≤ i := by omega
      go_wp2
      go_ret
      exact ⟨i, rfl, by omega, fun h => by have e : i = j := by omega
                                           rw [e]; exact H1.out (by omega), H2.out, HB.out⟩
set_option maxHeartbeats 4000000 in
set_option maxRecDepth 100000 in
theorem curve_Reach.calls (k : Nat) (A0 : Option Addr) (c0 : Nat) (l0 : List (S36)) (a1 : Int) (r1 : Int) (r2 : Bool) (w : World) (hr0 : Kd.C k36 w A0 l0.length l0) (hc0 : l0.length ≤ c0) (h : curve_Reach.f k l0 a1 = some (r1, r2)) :
    Calls Try.prog 23 #[.slice A0 l0.length c0, .int .i64 a1] w fun e w' => e = .returned (.tuple #[.int .i64 r1, .bool r2]) ∧ Below w.heap.size w w' := by
  obtain ⟨e0, hck, hr⟩ := Option.bind_eq_some_iff.mp h
  clear h
  replace hr := Option.some.inj hr
  have HR := Aside0.mk hr0
  have HCK := Aside0.mk hck
  have HV := Aside0.mk hr
  clear hr0 hck hr
  go_enter Try.func23, Try.ntmps23
  go_wp2_with fail
  refine (curve_Check.calls k A0 c0 l0 e0 _ (Kd.C_alloc (Kd.C_alloc HR.out _) _) hc0 HCK.out).mono ?_
  rintro e w1 ⟨rfl, hb1⟩
  have hz : w.heap.size + 1 < w1.heap.size := by have := hb1.size; simp at this; omega
  have hcc : w1.cell? ⟨w.heap.size, 0, none⟩ = some (.slice A0 l0.length c0) := bcell hb1 _ _ _ (by simp; omega) (by simp)
  have hcy : w1.cell? ⟨w.heap.size + 1, 0, none⟩ = some (.int .i64 a1) := bcell hb1 _ _ _ (by simp) (by simp)
  have HB1 := Aside0.mk (below_step (below_alloc (below_alloc (Below.refl _ _) _) _) hb1)
  have HR1 := Aside0.mk (Kd.C_below HR.out HB1.out)
  clear hb1
  by_cases hE : e0 = 0
  · have hEb : (e0 != 0) = false := by simp [hE]
    have hok := Aside0.mk (check_ok k l0 (by rw [← hE]; exact HCK.out))
    have hck0 := Aside0.mk (show curve_Check.f k l0 = some 0 by rw [← hE]; exact HCK.out)
    have hv2 := Aside0.mk (show reachv l0 a1 = (r1, r2) by have := HV.out; rwa [if_pos hE] at this)
    clear HCK HV hE
    go_wp2_with fail
    have hlen16 := hok.out.len
    go_loopw [14] (fun a wr => ∃ m : Nat, m ≤ l0.length ∧ a = .int .i64 m ∧ Hid (∀ j : Nat, j < m → (Pt l0 j).f1 < a1) ∧ Hid (Below w1.heap.size w1 wr)) (fun a _ => l0.length - (intOf a).toNat)
    case atStart => exact ⟨0, Nat.zero_le _, rfl, Lib.hid fun j h => absurd h (Nat.not_lt_zero _), Lib.hid (Below.refl _ _)⟩
    case round =>
      obtain ⟨m, hm, rfl, H1, HB⟩ := hrel
      have HR2 := Aside0.mk (Kd.C_below HR1.out HB.out)
      have hcc2 := bcell HB.out _ _ _ (by omega) hcc
      have hcy2 := bcell HB.out _ _ _ (by omega) hcy
      have hzr := HB.out.size
      have hz1 : w.heap.size < wr.heap.size := by omega
      have hz2 : w.heap.size + 1 < wr.heap.size := by omega
      by_cases hlt : m < l0.length
      · obtain ⟨ad, hA, hq0, hq1⟩ := at_T36 HR2.out (m : Int) (by omega) (by omega)
        subst hA
        rw [Int.toNat_natCast] at hq0 hq1
        have hP : rd_T36 l0 (m : Int) = Pt l0 m := rfl
        rw [hP] at hq0 hq1
        by_cases hy : (Pt l0 m).f1 < a1
        · have hyb : decide ((Pt l0 m).f1 < a1) = true := decide_eq_true hy
          clear hcc hcy HR HR1 HR2 hok hck0 hv2 hcc2
          have HH := Lib.hid (show ∀ j : Nat, j < m + 1 → (Pt l0 j).f1 < a1 from fun j hj => by
            by_cases e : j = m
            · rw [e]; exact hy
            · exact H1.out j (by omega))
          go_wp2
          go_roundw
          case rel => exact ⟨m + 1, by omega, by go_num, HH, Lib.hid (below_step HB.out (below_alloc (Below.refl _ _) _))⟩
          case measure => simp [intOf]; omega
        · have hyb : decide ((Pt l0 m).f1 < a1) = false := decide_eq_false hy
          by_cases h0 : m = 0
          · subst h0
            have hfin : reachv l0 a1 = ((Pt l0 0).f0, true) := by
              unfold reachv
              simp only [reach_len (l := l0) a1 0 (Nat.zero_le _) (fun i h => absurd h (Nat.not_lt_zero _)) (fun _ => Int.not_lt.1 hy)]
              rw [if_neg (by omega), if_pos trivial, getD_Pt]
            obtain ⟨e1, e2⟩ := Prod.mk.inj (hfin.symm.trans hv2.out)
            subst e2
            rw [e1, Nat.zero_mul, Addr.add_zero'] at hq0
            rw [Nat.zero_mul, Addr.add_zero'] at hq1
            clear hcc hcy HR HR1 HR2 hok hck0 hv2 hcc2 H1 hfin
            go_wp2
            go_ret2
            exact ⟨rfl, below_step HB1.out (below_step HB.out (below_alloc (Below.refl _ _) _))⟩
          · obtain ⟨n, rfl⟩ : ∃ n, m = n + 1 := ⟨m - 1, by omega⟩
            have hmb : (((n + 1 : Nat) : Int) == 0) = false := by simp; omega
            obtain ⟨ad2, hA2, hp0, hp1⟩ := at_T36 HR2.out (n : Int) (by omega) (by omega)
            obtain rfl : ad = ad2 := by injection hA2
            rw [Int.toNat_natCast] at hp0
            have hP2 : rd_T36 l0 (n : Int) = Pt l0 n := rfl
            rw [hP2] at hp0
            clear hp1 hA2
            have hadb : (ad.add (n * 2)).block = ad.block := by unfold Addr.add; split <;> rfl
            have hadl : ad.block < wr.heap.size := by rw [← hadb]; exact World.block_lt_of_cell? _ _ hp0
            have hi1 : (n : Int) < (l0.length : Int) := by omega
            have hi2 : n < l0.length := by omega
            go_wp2_with fail
            have hbW := below_alloc (below_alloc (Below.refl wr.heap.size wr) (.cells #[.int .i64 (Pt l0 (n + 1)).f0, .int .i64 (Pt l0 (n + 1)).f1] 36)) (.cells #[.int .i64 (Pt l0 n).f0] 3)
            have hcp : ((wr.alloc (.cells #[.int .i64 (Pt l0 (n + 1)).f0, .int .i64 (Pt l0 (n + 1)).f1] 36)).alloc (.cells #[.int .i64 (Pt l0 n).f0] 3)).cell? ⟨wr.heap.size, 0, none⟩ = some (.int .i64 (Pt l0 (n + 1)).f0) := by simp
            have hcf : ((wr.alloc (.cells #[.int .i64 (Pt l0 (n + 1)).f0, .int .i64 (Pt l0 (n + 1)).f1] 36)).alloc (.cells #[.int .i64 (Pt l0 n).f0] 3)).cell? ⟨wr.heap.size + 1, 0, none⟩ = some (.int .i64 (Pt l0 n).f0) := by simp
            generalize ((wr.alloc (.cells #[.int .i64 (Pt l0 (n + 1)).f0, .int .i64 (Pt l0 (n + 1)).f1] 36)).alloc (.cells #[.int .i64 (Pt l0 n).f0] 3)) = W2 at *
            have hcc3 := bcell hbW _ _ _ (by omega) hcc2
            have hcy3 := bcell hbW _ _ _ (by omega) hcy2
            have HR3 := Aside0.mk (Kd.C_below HR2.out hbW)
            have g0 := (hok.out.rng n (by omega)).1
            have g2 := (hok.out.rng (n + 1) hlt).1
            have g4 := H1.out n (by omega)
            have g5 := hok.out.asc n hlt
            obtain ⟨N, hN⟩ : ∃ N : Nat, (Pt l0 (n + 1)).f0 - (Pt l0 n).f0 = (N : Int) := ⟨((Pt l0 (n + 1)).f0 - (Pt l0 n).f0).toNat, by omega⟩
            have hk1 : IntKind.i64.wrap ((Pt l0 (n + 1)).f0 - (Pt l0 n).f0) = (N : Int) := by rw [← hN]; exact IntWalk.i64_in _ (by omega)
            have hk2 : IntKind.i64.wrap (N : Int) = (N : Int) := IntWalk.i64_in _ (by omega)
            have hS0 := s3keep ⟨hcp, hcf, hcy3, Aside0.mk (Below.refl W2.heap.size W2)⟩ (below_drew1 (Below.refl W2.heap.size W2))
            have HBW := Aside0.mk (below_step HB1.out (below_step HB.out hbW))
            have hlen : (l0.takeWhile fun p => decide (p.f1 < a1)).length = n + 1 := reach_len (l := l0) a1 (n + 1) hm H1.out (fun _ => hy)
            have HV3 := Aside0.mk (show ∀ r : Nat, r ≤ N → (r < N → decide (atv l0 ((Pt l0 n).f0 + (r : Int)) ≥ a1) = true) → (0 < r → decide (atv l0 ((Pt l0 n).f0 + ((r - 1 : Nat) : Int)) ≥ a1) = false) → IntKind.i64.wrap ((Pt l0 n).f0 + (r : Int)) = r1 ∧ r2 = true from by
              intro r hr q1 q2
              have q3 := reach_search hok.out n hlt a1 g4 hy r (by omega) (fun h => of_decide_eq_true (q1 (by omega))) (fun h => by have := of_decide_eq_false (q2 h); omega)
              have q4 := hv2.out
              unfold reachv at q4
              simp only [hlen] at q4
              rw [if_neg (by omega), if_neg (by omega), getD_Pt, getD_Pt, Nat.add_sub_cancel] at q4
              obtain ⟨q5, q6⟩ := Prod.mk.inj q4
              refine ⟨?_, q6.symm⟩
              rw [IntWalk.i64_in _ (by omega), ← q5]
              omega)
            have HS := Aside0.mk (Search36 N (by omega) ⟨w.heap.size, 0, none⟩ ⟨wr.heap.size + 1, 0, none⟩ ⟨w.heap.size + 1, 0, none⟩ (fun i => decide (atv l0 ((Pt l0 n).f0 + (i : Int)) ≥ a1)) W2.drew (by
              intro i W hi hW
              have hW2 := below_step (below_drew1 (Below.refl W2.heap.size W2)) hW
              exact Reach1_calls k (some ad) c0 l0 i (Pt l0 n).f0 a1 w.heap.size (wr.heap.size + 1) (w.heap.size + 1) W (Kd.C_below HR3.out hW2) hck0.out (bcell hW2 _ _ _ (World.block_lt_of_cell? _ _ hcc3) hcc3) (bcell hW2 _ _ _ (World.block_lt_of_cell? _ _ hcf) hcf) (bcell hW2 _ _ _ (World.block_lt_of_cell? _ _ hcy3) hcy3) hc0 (by omega) (by omega) (by omega) (by omega)))
            clear hv2 hlen hcp hcf hcy3 hbW hp0 hq0 hq1 hcc2 hcy2 hcc3 hcc hcy g4 g5 HR HR1 HR2 HR3 hck0
            go_region_held3 (fun w' => w'.cell? ⟨wr.heap.size, 0, none⟩ = some (.int .i64 (Pt l0 (n + 1)).f0) ∧ w'.cell? ⟨wr.heap.size + 1, 0, none⟩ = some (.int .i64 (Pt l0 n).f0) ∧ w'.cell? ⟨w.heap.size + 1, 0, none⟩ = some (.int .i64 a1) ∧ Aside0 (Below W2.heap.size W2 w'))
              ((first | exact hS0 | exact hS1))
              ((go_at_call 29; refine HS.out.mono ?_; rintro e w2 ⟨r, rfl, hr0, hr1, hr2, hb1⟩; have hS1 := s3keep hS0 hb1; obtain ⟨hk3, rfl⟩ := HV3.out r hr0 hr1 hr2; clear hr0 hr1 hr2 hb1))
            go_wp2
            go_ret2
            exact ⟨rfl, below_step HBW.out hS1.2.2.2.out⟩
      · obtain rfl : m = l0.length := by omega
        have hfin : reachv l0 a1 = (0, false) := by
          unfold reachv
          simp only [reach_len (l := l0) a1 l0.length (Nat.le_refl _) H1.out (fun h => absurd h (Nat.lt_irrefl _)), if_true]
        obtain ⟨rfl, rfl⟩ := Prod.mk.inj (hfin.symm.trans hv2.out)
        clear hcc hcy HR HR1 HR2 hok hck0 hv2 hcc2 hcy2 H1 hfin
        go_wp2
        go_ret2
        exact ⟨rfl, below_step HB1.out HB.out⟩
  · have hEb : (e0 != 0) = true := by simpa using hE
    have hv2 : (0, false) = (r1, r2) := by have := HV.out; rwa [if_neg hE] at this
    obtain ⟨rfl, rfl⟩ := Prod.mk.inj hv2
    clear hE HV HCK
    go_wp2
    go_ret2
    exact ⟨rfl, HB1.out⟩

end Go.Proofs.Ytfgeppldckagaaa.PAll
