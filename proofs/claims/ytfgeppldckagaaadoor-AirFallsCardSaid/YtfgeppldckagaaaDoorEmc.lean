/- The equilibrium moisture content is one function of two numbers; it falls in both of them, and lies within the table's values. -/
import Derived.Test.YtfgeppldckagaaaDoorPAllx0
import Derived.Test.YtfgeppldckagaaaDoorPAllx2
import Derived.Test.YtfgeppldckagaaaDoorPAllx5
import Derived.Test.YtfgeppldckagaaaDoorPAllx7
import Derived.Test.YtfgeppldckagaaaDoorPAllx8
import Derived.Test.YtfgeppldckagaaaDoorPAllx9
import Derived.Test.YtfgeppldckagaaaDoorGval
namespace Go.Proofs.YtfgeppldckagaaaDoor.Pure
open Go.RowKit Go.Proofs.YtfgeppldckagaaaDoor.PAll Go.Proofs.YtfgeppldckagaaaDoorW.PrintWords Go.Proofs.YtfgeppldckagaaaDoorW.PrintLast
theorem ev_one {α : Type} {g : Nat → Option α} {r s : α} (h : Ev g r) (h' : Ev g s) : r = s := by
  obtain ⟨a, ha⟩ := h
  obtain ⟨b, hb⟩ := h'
  have h1 := ha (max a b) (by omega)
  have h2 := hb (max a b) (by omega)
  rw [h1] at h2
  exact Option.some.inj h2
theorem grid_fine : GridFine Temps Deps Conts := by
  obtain ⟨v, e1, _, e3⟩ := grid_ev Temps Deps Conts
  have h : Ev (fun k => curve_CheckGrid.f k Temps Deps Conts) 0 := Ev.of (fun k => curve_CheckGrid.mono _ _ _ k) (k := 60) (by decide +kernel)
  exact e3.1 (ev_one e1 h)
def emc (t d : Int) : Int := atv (rowsP Deps d Temps Conts) t
theorem value_table (t d : Int) : Ev (fun k => curve_Value.f k Temps Deps Conts t d) (emc t d) := by
  obtain ⟨v, e1, _, e3⟩ := grid_ev Temps Deps Conts
  have h := value_ev t d e1 e3
  rw [if_pos (e3.2 grid_fine)] at h
  exact h
theorem emc_ev (t d : Int) : Ev (fun k => air_Emc.f k t d) (emc t d) := Ev.bind (a := (Temps, Deps, Conts)) (Ev.now _) (Ev.bind (value_table t d) (Ev.now _))
/-! ### it falls -/
theorem seg_le {a b a' b' D n : Int} (h0 : 0 ≤ n) (h1 : n ≤ D) (hD : 0 < D) (ha : a ≤ a') (hb : b ≤ b') : a + (b - a) * n / D ≤ a' + (b' - a') * n / D := by
  have e : ∀ p q : Int, p + (q - p) * n / D = (p * (D - n) + q * n) / D := fun p q => by
    rw [show p * (D - n) + q * n = (q - p) * n + p * D from by rw [Int.mul_sub, Int.sub_mul]; omega, Int.add_mul_ediv_right _ _ (by omega)]
    omega
  rw [e, e]
  refine Int.ediv_le_ediv hD ?_
  have := Int.mul_le_mul_of_nonneg_right ha (show 0 ≤ D - n by omega)
  have := Int.mul_le_mul_of_nonneg_right hb h0
  omega
theorem atv_le {l l' : List S53} (ho : PtsOk l) (ho' : PtsOk l') (hl : l.length = l'.length) (hx : ∀ i, i < l.length → (Pt l i).f0 = (Pt l' i).f0) (hy : ∀ i, i < l.length → (Pt l i).f1 ≤ (Pt l' i).f1) (x : Int) : atv l x ≤ atv l' x := by
  have hpos := ho.pos
  rcases atv_cases ho x with ⟨h1, e⟩ | ⟨h1, e⟩ | ⟨m, hm, h1, h2, e⟩
  · rw [e, atv_low ho' x (by rw [← hx 0 hpos]; exact h1)]
    exact hy 0 hpos
  · rw [e, atv_high ho' x (by rw [← hl, ← hx _ (by omega)]; omega), ← hl]
    exact hy _ (by omega)
  · have h5 := ho.asc m hm
    rw [e, atv_seg ho' m (by omega) x (by rw [← hx m (by omega)]; omega) (by rw [← hx (m + 1) hm]; exact h2), ← hx m (by omega), ← hx (m + 1) hm]
    exact seg_le (by omega) (by omega) (by omega) (hy m (by omega)) (hy (m + 1) hm)
theorem fall_mono {l : List S53} (hr : ∀ i, i + 1 < l.length → (Pt l (i + 1)).f1 ≤ (Pt l i).f1) : ∀ d i : Nat, i + d < l.length → (Pt l (i + d)).f1 ≤ (Pt l i).f1
  | 0, _, _ => Int.le_refl _
  | d + 1, i, h => Int.le_trans (hr (i + d) (by omega)) (fall_mono hr d i (by omega))
theorem atv_anti {l : List S53} (ho : PtsOk l) (hr : ∀ i, i + 1 < l.length → (Pt l (i + 1)).f1 ≤ (Pt l i).f1) (x z : Int) (hxz : x ≤ z) : atv l z ≤ atv l x := by
  have hpos := ho.pos
  have key : ∀ i j : Nat, i ≤ j → j < l.length → (Pt l j).f1 ≤ (Pt l i).f1 := fun i j hij hj => by
    have := fall_mono hr (j - i) i (by omega)
    rwa [show i + (j - i) = j from by omega] at this
  have keyx : ∀ i j : Nat, i ≤ j → j < l.length → (Pt l i).f0 ≤ (Pt l j).f0 := fun i j hij hj => by
    by_cases e : i = j
    · rw [e]; exact Int.le_refl _
    · have := PtsOk.mono ho (j - i) i (by omega) (by omega)
      rw [show i + (j - i) = j from by omega] at this
      omega
  rcases atv_cases ho x with ⟨_, e⟩ | ⟨h1, e⟩ | ⟨m, hm, h1, h2, e⟩
  · rw [e]
    exact (atv_bd ho z (Pt l (l.length - 1)).f1 (Pt l 0).f1 (fun i hi => ⟨key i _ (by omega) (by omega), key 0 i (by omega) hi⟩)).2
  · rw [e, atv_high ho z (by omega)]; exact Int.le_refl _
  · have b1 := (atv_between ho m hm x (by omega) h2).2 (key m (m + 1) (by omega) hm)
    rcases atv_cases ho z with ⟨g1, g⟩ | ⟨g1, g⟩ | ⟨n, hn, g1, g2, g⟩
    · have := keyx 0 m (by omega) (by omega); omega
    · rw [g]; have := key (m + 1) (l.length - 1) (by omega) (by omega); omega
    · have b2 := (atv_between ho n hn z (by omega) g2).2 (key n (n + 1) (by omega) hn)
      by_cases c : m + 1 ≤ n
      · have := key (m + 1) n c (by omega); omega
      · by_cases c2 : n = m
        · subst c2
          rw [e, g]
          have h4 := key n (n + 1) (by omega) hn
          have h5 := ho.asc n hn
          have : ((Pt l (n + 1)).f1 - (Pt l n).f1) * (z - (Pt l n).f0) ≤ ((Pt l (n + 1)).f1 - (Pt l n).f1) * (x - (Pt l n).f0) := Int.mul_le_mul_of_nonpos_left (by omega) (by omega)
          have := Int.ediv_le_ediv (c := (Pt l (n + 1)).f0 - (Pt l n).f0) (by omega) this
          omega
        · have := keyx (n + 1) m (by omega) (by omega); omega
/-! ### the table's own numbers -/
theorem tab_bd : ∀ i : Fin 6, ∀ j : Fin 7, 220 ≤ Ax (rd_L1 Conts (i.val : Int)) j.val ∧ Ax (rd_L1 Conts (i.val : Int)) j.val ≤ 2800 := by decide +kernel
theorem tab_fall : ∀ i : Fin 6, ∀ j : Fin 6, Ax (rd_L1 Conts (i.val : Int)) (j.val + 1) ≤ Ax (rd_L1 Conts (i.val : Int)) j.val := by decide +kernel
theorem tab_down : ∀ i : Fin 5, ∀ j : Fin 7, Ax (rd_L1 Conts ((i.val + 1 : Nat) : Int)) j.val ≤ Ax (rd_L1 Conts (i.val : Int)) j.val := by decide +kernel
theorem tab_len : ∀ i : Fin 6, Deps.length = (rd_L1 Conts (i.val : Int)).length := by decide +kernel
theorem row_fine (i : Nat) (hi : i < 6) : PtsOk (mkpts Deps (rd_L1 Conts (i : Int))) := row_ok grid_fine i hi
theorem row_Pt (i j : Nat) (hi : i < 6) (hj : j < 7) : Pt (mkpts Deps (rd_L1 Conts (i : Int))) j = ⟨Ax Deps j, Ax (rd_L1 Conts (i : Int)) j⟩ := mkpts_Pt _ _ j (tab_len ⟨i, hi⟩) hj
theorem mk_len : ∀ i : Fin 6, (mkpts Deps (rd_L1 Conts (i.val : Int))).length = 7 := by decide +kernel
theorem row_len (i : Nat) (hi : i < 6) : (mkpts Deps (rd_L1 Conts (i : Int))).length = 7 := mk_len ⟨i, hi⟩
theorem rows_len (d : Int) : (rowsP Deps d Temps Conts).length = 6 := rowsP_len Deps d Temps Conts rfl
theorem rows_Pt (d : Int) (i : Nat) (hi : i < 6) : Pt (rowsP Deps d Temps Conts) i = ⟨Ax Temps i, atv (mkpts Deps (rd_L1 Conts (i : Int))) d⟩ := rowsP_Pt Deps d Temps Conts i rfl hi
theorem row_bd (i : Nat) (hi : i < 6) (d : Int) : 220 ≤ atv (mkpts Deps (rd_L1 Conts (i : Int))) d ∧ atv (mkpts Deps (rd_L1 Conts (i : Int))) d ≤ 2800 :=
  atv_bd (row_fine i hi) d 220 2800 fun j hj => by
    rw [row_len i hi] at hj
    rw [row_Pt i j hi hj]
    exact tab_bd ⟨i, hi⟩ ⟨j, hj⟩
theorem emc_bd (t d : Int) : 220 ≤ emc t d ∧ emc t d ≤ 2800 :=
  atv_bd (rowsP_ok grid_fine d) t 220 2800 fun i hi => by
    rw [rows_len] at hi
    rw [rows_Pt d i hi]
    exact row_bd i hi d
theorem emc_falls_d (t d e : Int) (h : d ≤ e) : emc t e ≤ emc t d := by
  refine atv_le (rowsP_ok grid_fine e) (rowsP_ok grid_fine d) ((rows_len e).trans (rows_len d).symm) (fun i hi => ?_) (fun i hi => ?_) t
  · rw [rows_len] at hi
    rw [rows_Pt e i hi, rows_Pt d i hi]
  · rw [rows_len] at hi
    rw [rows_Pt e i hi, rows_Pt d i hi]
    refine atv_anti (row_fine i hi) (fun j hj => ?_) d e h
    rw [row_len i hi] at hj
    rw [row_Pt i j hi (by omega), row_Pt i (j + 1) hi hj]
    exact tab_fall ⟨i, hi⟩ ⟨j, by omega⟩
theorem emc_falls_t (t u d : Int) (h : t ≤ u) : emc u d ≤ emc t d := by
  refine atv_anti (rowsP_ok grid_fine d) (fun i hi => ?_) t u h
  rw [rows_len] at hi
  rw [rows_Pt d i (by omega), rows_Pt d (i + 1) hi]
  refine atv_le (row_fine (i + 1) hi) (row_fine i (by omega)) ((row_len (i + 1) hi).trans (row_len i (by omega)).symm) (fun j hj => ?_) (fun j hj => ?_) d
  · rw [row_len (i + 1) hi] at hj
    rw [row_Pt i j (by omega) hj, row_Pt (i + 1) j hi hj]
  · rw [row_len (i + 1) hi] at hj
    rw [row_Pt i j (by omega) hj, row_Pt (i + 1) j hi hj]
    exact tab_down ⟨i, by omega⟩ ⟨j, hj⟩
end Go.Proofs.YtfgeppldckagaaaDoor.Pure
