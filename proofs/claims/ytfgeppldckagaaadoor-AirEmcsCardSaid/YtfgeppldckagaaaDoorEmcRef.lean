/- The reference's equilibrium is the same function. -/
import Derived.Test.YtfgeppldckagaaaDoorPAllx0
import Derived.Test.YtfgeppldckagaaaDoorPAllx2
import Derived.Test.YtfgeppldckagaaaDoorPAllx7
import Derived.Test.YtfgeppldckagaaaDoorPAllx8
import Derived.Test.YtfgeppldckagaaaDoorPAllx14
import Derived.Test.YtfgeppldckagaaaDoorPAllx15
import Derived.Test.YtfgeppldckagaaaDoorPAllx16
import Derived.Test.YtfgeppldckagaaaDoorPAllx17
import Derived.Test.YtfgeppldckagaaaDoorPAllx18
import Derived.Test.YtfgeppldckagaaaDoorPAllx19
import Derived.Test.YtfgeppldckagaaaDoorEmc
import Derived.Test.YtfgeppldckagaaaDoorGval
import Derived.Test.YtfgeppldckagaaaDoorFuns
namespace Go.Proofs.YtfgeppldckagaaaDoor.Pure
open Go.RowKit Go.Proofs.YtfgeppldckagaaaDoor.PAll Go.Proofs.YtfgeppldckagaaaDoorW.PrintWords Go.Proofs.YtfgeppldckagaaaDoorW.PrintLast
theorem floor_f (a b : Int) (hb0 : 0 < b) (hb1 : b ≤ 4000000) (ha0 : -40000000000000 ≤ a) (ha1 : a ≤ 40000000000000) : sawmillref08_floor.f a b = some (a / b) := by
  unfold sawmillref08_floor.f
  rw [if_neg (by omega)]
  have hn := Int.natAbs_tdiv a b
  have e0 := Int.mul_tdiv_add_tmod a b
  have hq : (Int.tdiv a b).natAbs ≤ a.natAbs := by rw [hn]; exact Nat.div_le_self _ _
  generalize hqq : Int.tdiv a b = q at *
  have hq0 : -40000000000000 ≤ q := by omega
  have hq1 : q ≤ 40000000000000 := by omega
  rw [c64 (x := q) (by omega) (by omega)]
  have hr1 : (Int.tmod a b).natAbs < b.natAbs := by rw [Int.natAbs_tmod]; exact Nat.mod_lt _ (by omega)
  have hc : q * b = b * q := Int.mul_comm _ _
  rw [hc]
  have hbq : b * q = a - Int.tmod a b := by omega
  have hb2 : -80000000000000 ≤ b * q ∧ b * q ≤ 80000000000000 := by omega
  rw [c64 (x := b * q) (by omega) (by omega), c64 (x := q - 1) (by omega) (by omega)]
  by_cases h : b * q > a
  · rw [if_pos h]
    congr 1
    have : a / b = q - 1 := by
      have e1 : a = (b + (a - b * q)) + b * (q - 1) := by rw [Int.mul_sub, Int.mul_one]; omega
      rw [e1, Int.add_mul_ediv_left _ _ (by omega), Int.ediv_eq_zero_of_lt (by omega) (by omega)]; omega
    omega
  · rw [if_neg h]
    congr 1
    have e1 : a = (a - b * q) + b * q := by omega
    have : a / b = q := by
      rw [e1, Int.add_mul_ediv_left _ _ (by omega), Int.ediv_eq_zero_of_lt (by omega) (by omega)]; omega
    omega
theorem between_f (s a t b n : Int) (hs : InR s) (ha : InR a) (ht : InR t) (hb : InR b) (h1 : s < t) (h2 : s ≤ n) (h3 : n ≤ t) : sawmillref08_Between.f s a t b n = some (a + (b - a) * (n - s) / (t - s)) := by
  unfold InR at *
  unfold sawmillref08_Between.f
  rw [c64 (x := b - a) (by omega) (by omega), c64 (x := n - s) (by omega) (by omega), c64 (x := t - s) (by omega) (by omega)]
  obtain ⟨m1, m2⟩ := mul_bd (a := b - a) (n := n - s) (by omega) (by omega) (by omega) (by omega)
  rw [c64 (x := (b - a) * (n - s)) (by omega) (by omega), floor_f _ _ (by omega) (by omega) (by omega) (by omega), Option.bind_some]
  obtain ⟨j1, j2⟩ := between_bd (d := b - a) (n := n - s) (b := t - s) (by omega) (by omega) (by omega)
  rw [c64 (by omega) (by omega)]
theorem refat_loop {l : List S53} (ho : PtsOk l) (x : Int) : ∀ d i : Nat, i + d = l.length → 0 < i → (Pt l (i - 1)).f0 < x → Ev (fun k => sawmillref08_At.l0 k l x (i : Int)) (atv l x)
  | 0, i, hd, hi, hx => by
    have hl := ho.len
    refine Ev.step (f := fun _ => some (atv l x)) (fun k => ?_) (Ev.now _)
    have ew2 : wrap64 ((l.length : Int) - 1) = ((l.length - 1 : Nat) : Int) := by rw [c64 (by omega) (by omega)]; omega
    simp only [sawmillref08_At.l0]
    rw [if_neg (by omega), ew2, if_pos (by omega), if_pos (by omega)]
    have := atv_len ho x l.length (Nat.le_refl _) (fun h => absurd h (Nat.lt_irrefl _)) (fun _ => by rwa [show l.length = i from by omega])
    unfold atv
    simp only [this]
    rw [if_neg (by omega), if_pos trivial, getD_Pt]; rfl
  | d + 1, i, hd, hi, hx => by
    have hl := ho.len
    have ew2 : wrap64 ((i : Int) - 1) = ((i - 1 : Nat) : Int) := by rw [c64 (by omega) (by omega)]; omega
    have ew : wrap64 ((i : Int) + 1) = ((i + 1 : Nat) : Int) := by rw [c64 (by omega) (by omega)]; rfl
    have hp : rd_T53 l (i : Int) = Pt l i := rfl
    have hp2 : rd_T53 l ((i - 1 : Nat) : Int) = Pt l (i - 1) := rfl
    have q1 : (i : Int) < (l.length : Int) := by omega
    have q2 : (0 : Int) ≤ (i : Int) := by omega
    have q4 : (0 : Int) ≤ ((i - 1 : Nat) : Int) := by omega
    have q5 : ((i - 1 : Nat) : Int) < (l.length : Int) := by omega
    have hasc := ho.asc (i - 1) (by omega)
    rw [show i - 1 + 1 = i from by omega] at hasc
    by_cases c : x ≤ (Pt l i).f0
    · refine Ev.step (f := fun _ => some (atv l x)) (fun k => ?_) (Ev.now _)
      have h1 := Pt_inR ho (i - 1) (by omega)
      have h2 := Pt_inR ho i (by omega)
      simp only [sawmillref08_At.l0, if_pos q1, if_pos q2, hp, if_pos c, ew2, if_pos q4, if_pos q5, hp2, between_f _ _ _ _ x h1.1 h1.2 h2.1 h2.2 hasc (by omega) c, Option.bind_some]
      rw [atv_seg ho (i - 1) (by omega) x (by omega) (by rw [show i - 1 + 1 = i from by omega]; exact c), show i - 1 + 1 = i from by omega]
    · refine Ev.step (fun k => ?_) (refat_loop ho x d (i + 1) (by omega) (by omega) (by rw [Nat.add_sub_cancel]; omega))
      simp only [sawmillref08_At.l0, if_pos q1, if_pos q2, hp, if_neg c, ew]
theorem refat_ev (l : List S53) (x : Int) {v : Int} (h : Ev (fun k => sawmillref08_Check.f k l) v) (hv : v = 0 ↔ PtsOk l) : Ev (fun k => sawmillref08_At.f k l x) (if v = 0 then atv l x else 0) := by
  unfold sawmillref08_At.f
  refine Ev.bind h ?_
  by_cases h0 : v = 0
  · have ho := hv.1 h0
    have hp : rd_T53 l 0 = Pt l 0 := rfl
    simp only [if_pos h0, if_pos (show (0 : Int) < (l.length : Int) by have := ho.pos; omega), hp]
    by_cases c : x ≤ (Pt l 0).f0
    · simp only [if_pos c]
      have := atv_len ho x 0 (Nat.zero_le _) (fun _ => c) (fun h => absurd h (Nat.lt_irrefl _))
      have e : atv l x = (Pt l 0).f1 := by unfold atv; simp only [this, if_true]; rw [getD_Pt]
      rw [e]; exact Ev.now _
    · simp only [if_neg c]
      exact refat_loop ho x (l.length - 1) 1 (by have := ho.pos; omega) (by omega) (by simpa using c)
  · simp only [if_neg h0]
    exact Ev.now _
theorem refat_ok {l : List S53} (ho : PtsOk l) (x : Int) : Ev (fun k => sawmillref08_At.f k l x) (atv l x) := by
  obtain ⟨v, _, e2, e3⟩ := chk_ev l
  have := refat_ev l x e2 e3
  rwa [if_pos (e3.2 ho)] at this
theorem refrow_loop {X Y : List Int} {V : List (List Int)} (hg : GridFine X Y V) (i : Nat) (hi : i < V.length) : ∀ d q : Nat, q + d = Y.length → Ev (fun k => sawmillref08_Row.l0 k (i : Int) ((mkpts Y (rd_L1 V (i : Int))).take q) (q : Int) X Y V) (mkpts Y (rd_L1 V (i : Int)))
  | 0, q, hd => by
    obtain ⟨hr, hc⟩ := hg.r i hi
    have hl := mkpts_len Y _ hr.symm
    refine Ev.step (f := fun _ => some (mkpts Y (rd_L1 V (i : Int)))) (fun k => ?_) (Ev.now _)
    simp only [sawmillref08_Row.l0]
    rw [if_neg (by omega), List.take_of_length_le (by omega)]
  | d + 1, q, hd => by
    obtain ⟨hr, hc⟩ := hg.r i hi
    have hl := mkpts_len Y _ hr.symm
    have hy := hg.y1
    have ih := refrow_loop hg i hi d (q + 1) (by omega)
    refine Ev.step (fun k => ?_) ih
    simp only [sawmillref08_Row.l0]
    have hlt : ((mkpts Y (rd_L1 V (i : Int))).take q).length < 8796093022208 := by rw [List.length_take]; omega
    rw [if_pos (by omega), if_pos (by omega), if_pos (by omega), if_pos (by omega), if_pos (by omega), if_pos hlt, c64 (x := (q : Int) + 1) (by omega) (by omega), take_snoc _ q (by omega), mkpts_Pt Y _ q hr.symm (by omega)]
    rfl
theorem refvalue_loop {X Y : List Int} {V : List (List Int)} (hg : GridFine X Y V) (x y : Int) : ∀ d i : Nat, i + d = X.length → Ev (fun k => sawmillref08_Value.l0 k x y ((rowsP Y y X V).take i) (i : Int) X Y V) (atv (rowsP Y y X V) x)
  | 0, i, hd => by
    have hl := rowsP_len Y y X V hg.v.symm
    refine Ev.step (f := fun k => (sawmillref08_At.f k (rowsP Y y X V) x).bind fun t => some t) (fun k => ?_) (Ev.bind (refat_ok (rowsP_ok hg y) x) (Ev.now _))
    simp only [sawmillref08_Value.l0]
    rw [if_neg (by omega), List.take_of_length_le (by omega)]
  | d + 1, i, hd => by
    have hl := rowsP_len Y y X V hg.v.symm
    have hx := hg.x1
    have hv := hg.v
    have ih := refvalue_loop hg x y d (i + 1) (by omega)
    have ew : wrap64 ((i : Int) + 1) = ((i + 1 : Nat) : Int) := by rw [c64 (by omega) (by omega)]; rfl
    refine Ev.step (fun k => rfl) ?_
    have hlt : ((rowsP Y y X V).take i).length < 8796093022208 := by rw [List.length_take]; omega
    simp only [sawmillref08_Value.l0, if_pos (show (i : Int) < (X.length : Int) by omega), if_pos (show (0 : Int) ≤ (i : Int) by omega), if_pos hlt, ew]
    have hrow : Ev (fun k => sawmillref08_Row.f k X Y V (i : Int)) (mkpts Y (rd_L1 V (i : Int))) := refrow_loop hg i (by omega) Y.length 0 (by omega)
    refine Ev.bind hrow (Ev.bind (refat_ok (row_ok hg i (by omega)) y) ?_)
    rw [take_snoc _ i (by omega), rowsP_Pt Y y X V i hg.v.symm (by omega)] at ih
    exact ih
theorem refvalue_ev {X Y : List Int} {V : List (List Int)} (x y : Int) {v : Int} (e : Ev (fun k => sawmillref08_CheckGrid.f k X Y V) v) (hv : v = 0 ↔ GridFine X Y V) : Ev (fun k => sawmillref08_Value.f k X Y V x y) (if v = 0 then atv (rowsP Y y X V) x else 0) := by
  unfold sawmillref08_Value.f
  refine Ev.bind e ?_
  by_cases h0 : v = 0
  · simp only [if_pos h0]
    exact refvalue_loop (hv.1 h0) x y X.length 0 (by omega)
  · simp only [if_neg h0]; exact Ev.now _
theorem refvalue_table (t d : Int) : Ev (fun k => sawmillref08_Value.f k Temps Deps Conts t d) (emc t d) := by
  obtain ⟨v, _, e2, e3⟩ := grid_ev Temps Deps Conts
  have h := refvalue_ev t d e2 e3
  rw [if_pos (e3.2 grid_fine)] at h
  exact h
theorem refemc_ev (t d : Int) : Ev (fun k => sawmillref35_Emc.f k t d) (emc t d) := Ev.bind (a := (Temps, Deps, Conts)) (Ev.now _) (Ev.bind (refvalue_table t d) (Ev.now _))
end Go.Proofs.YtfgeppldckagaaaDoor.Pure
