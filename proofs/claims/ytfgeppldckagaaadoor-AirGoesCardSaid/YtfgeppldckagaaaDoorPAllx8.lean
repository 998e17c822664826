-- Written by a changed copy of the kit's print program, run in this session (NOTES.md tells the change). Not trusted: Lean checks it.
import Derived.Test.YtfgeppldckagaaaDoorPAllx0
import Derived.Test.YtfgeppldckagaaaDoorPAllx5
import Derived.Test.YtfgeppldckagaaaDoorPAllx7
namespace Go.Proofs.YtfgeppldckagaaaDoor.PAll
open Go.RowKit Go.Proofs.YtfgeppldckagaaaDoorW.PrintWords Go.Proofs.YtfgeppldckagaaaDoorW.PrintLast Go.Proofs.YtfgeppldckagaaaDoorW.PrintMore
attribute [local go_sem] max2_int min2_int max_two min_two max_three min_three max_four min_four   -- for this text's walks alone
set_option linter.unusedVariables false
set_option linter.unusedSimpArgs false

/-! ### given curve_Value: function 23 -/
def mkpts : List Int → List Int → List S53
  | x :: xs, y :: ys => ⟨x, y⟩ :: mkpts xs ys
  | _, _ => []
def rowsv (k : Nat) (Y : List Int) (y : Int) : List Int → List (List Int) → Option (List S53)
  | x :: xs, row :: rows => (curve_At.f k (mkpts Y row) y).bind fun v => (rowsv k Y y xs rows).bind fun l => some (⟨x, v⟩ :: l)
  | _, _ => some []
def curve_Value.f (k : Nat) (l0_0 : List Int) (l0_1 : List Int) (l0_2 : List (List Int)) (a1 : Int) (a2 : Int) : Option (Int) := (curve_CheckGrid.f k l0_0 l0_1 l0_2).bind fun e => if e = 0 then ((rowsv k l0_1 a2 l0_0 l0_2).bind fun l => curve_At.f k l a1) else some 0
theorem rowsv_mono (k : Nat) (Y : List Int) (y : Int) : ∀ xs rows, LeO (rowsv k Y y xs rows) (rowsv (k + 1) Y y xs rows)
  | x :: xs, row :: rows => LeO.bind (curve_At.mono _ _ _) (fun _ => LeO.bind (rowsv_mono k Y y xs rows) (fun _ => LeO.refl _))
  | [], _ => LeO.refl _
  | _ :: _, [] => LeO.refl _
theorem curve_Value.mono : ∀ a0 a1 a2 a3 a4 k, LeO (curve_Value.f k a0 a1 a2 a3 a4) (curve_Value.f (k + 1) a0 a1 a2 a3 a4) := by
  intro a0 a1 a2 a3 a4 k
  unfold curve_Value.f
  exact LeO.bind (curve_CheckGrid.mono _ _ _ _) (fun _ => LeO.ite (LeO.bind (rowsv_mono _ _ _ _ _) (fun _ => curve_At.mono _ _ _)) (LeO.refl _))
/-! #### an array of 16 points in a block of its own -/
structure AtPts (w : World) (b : Nat) (L : List S53) : Prop where
  len : L.length = 16
  cell : ∀ i, i < 16 → w.cell? ⟨b, i * 2, none⟩ = some (.int .i64 (L.getD i z53).f0) ∧ w.cell? ⟨b, i * 2 + 1, none⟩ = some (.int .i64 (L.getD i z53).f1)
  fr : ∀ o, w.frozen? ⟨b, o, none⟩ = false
theorem AtPts.lt {w : World} {b : Nat} {L : List S53} (h : AtPts w b L) : b < w.heap.size := World.block_lt_of_cell? _ _ (h.cell 0 (by omega)).1
theorem AtPts.below {w w' : World} {b : Nat} {L : List S53} (h : AtPts w b L) (hb : Below w.heap.size w w') : AtPts w' b L :=
  ⟨h.len, fun i hi => ⟨(hb.cell (p := ⟨b, _, none⟩) h.lt).trans (h.cell i hi).1, (hb.cell (p := ⟨b, _, none⟩) h.lt).trans (h.cell i hi).2⟩, fun o => (hb.frozen (p := ⟨b, _, none⟩) h.lt).trans (h.fr o)⟩
theorem AtPts.set {w : World} {b : Nat} {L : List S53} (h : AtPts w b L) (i : Nat) (hi : i < 16) (x y : Int) :
    AtPts ((w.setCell ⟨b, i * 2, none⟩ (.int .i64 x)).setCell ⟨b, i * 2 + 1, none⟩ (.int .i64 y)) b (L.set i ⟨x, y⟩) := by
  refine ⟨by rw [List.length_set]; exact h.len, fun j hj => ?_, fun o => by have := h.fr o; simpa using this⟩
  have hl := h.len
  have e1 : (w.setCell ⟨b, i * 2, none⟩ (.int .i64 x)).cell? ⟨b, i * 2 + 1, none⟩ = some (.int .i64 (L.getD i z53).f1) := by
    rw [World.cell?_setCell_other _ _ _ _ (by intro h; simp only [Addr.mk.injEq] at h; omega)]; exact (h.cell i hi).2
  by_cases e : j = i
  · subst e
    rw [List.getD_eq_getElem?_getD, List.getElem?_set_self (by omega)]
    refine ⟨?_, ?_⟩
    · rw [World.cell?_setCell_other _ _ _ _ (by intro h; simp only [Addr.mk.injEq] at h; omega), World.cell?_setCell_same _ _ _ (h.cell j hi).1]; rfl
    · rw [World.cell?_setCell_same _ _ _ e1]; rfl
  · rw [List.getD_eq_getElem?_getD, List.getElem?_set_ne (by omega), ← List.getD_eq_getElem?_getD]
    refine ⟨?_, ?_⟩
    · rw [World.cell?_setCell_other _ _ _ _ (by intro h; simp only [Addr.mk.injEq] at h; omega), World.cell?_setCell_other _ _ _ _ (by intro h; simp only [Addr.mk.injEq] at h; omega)]; exact (h.cell j hj).1
    · rw [World.cell?_setCell_other _ _ _ _ (by intro h; simp only [Addr.mk.injEq] at h; omega), World.cell?_setCell_other _ _ _ _ (by intro h; simp only [Addr.mk.injEq] at h; omega)]; exact (h.cell j hj).2
theorem AtPts.get_set {L : List S53} (hl : L.length = 16) (i : Nat) (hi : i < 16) (p : S53) (j : Nat) : (L.set i p).getD j z53 = if j = i then p else L.getD j z53 := by
  by_cases e : j = i
  · subst e
    rw [List.getD_eq_getElem?_getD, List.getElem?_set_self (by omega), if_pos rfl]; rfl
  · rw [List.getD_eq_getElem?_getD, List.getElem?_set_ne (by omega), ← List.getD_eq_getElem?_getD, if_neg e]
theorem add_p (b m : Nat) : (⟨b, 0, none⟩ : Addr).add m = ⟨b, m, none⟩ := by
  unfold Addr.add
  split
  · rename_i h; rw [h]
  · simp
theorem AtPts.row {w : World} {b : Nat} {L : List S53} (h : AtPts w b L) (n : Nat) (hn : n ≤ 16) : Kd.C k53 w (some ⟨b, 0, none⟩) n (L.take n) := by
  refine ⟨by rw [List.length_take, h.len]; omega, by omega, fun _ => ⟨_, rfl, fun j p hp => ?_⟩⟩
  have hj : j < n := by
    have := (List.getElem?_eq_some_iff.1 hp).1
    rw [List.length_take] at this; omega
  rw [List.getElem?_take_of_lt hj] at hp
  have hg : L.getD j z53 = p := by rw [List.getD_eq_getElem?_getD, hp]; rfl
  refine ⟨_, rfl, k53_mk w p, fun i u hu => ?_⟩
  obtain ⟨q1, q2⟩ := h.cell j (by omega)
  rw [hg] at q1 q2
  match i, hu with
  | 0, hu => simp at hu; subst hu; rw [add_p]; exact q1
  | 1, hu => simp at hu; subst hu; rw [add_p]; exact q2
  | i + 2, hu => simp at hu
theorem AtPts.new (w : World) (cs : Array Value) (t : TypeId) (hcs : cs = #[.int .i64 0, .int .i64 0, .int .i64 0, .int .i64 0, .int .i64 0, .int .i64 0, .int .i64 0, .int .i64 0, .int .i64 0, .int .i64 0, .int .i64 0, .int .i64 0, .int .i64 0, .int .i64 0, .int .i64 0, .int .i64 0, .int .i64 0, .int .i64 0, .int .i64 0, .int .i64 0, .int .i64 0, .int .i64 0, .int .i64 0, .int .i64 0, .int .i64 0, .int .i64 0, .int .i64 0, .int .i64 0, .int .i64 0, .int .i64 0, .int .i64 0, .int .i64 0]) : AtPts (w.alloc (.cells cs t)) w.heap.size (List.replicate 16 z53) := by
  subst hcs
  refine ⟨rfl, fun i hi => ?_, fun o => by simp⟩
  have hz : (List.replicate 16 z53).getD i z53 = z53 := by
    rw [List.getD_eq_getElem?_getD, List.getElem?_replicate]; split <;> rfl
  rw [hz]
  match i, hi with
  | 0, _ | 1, _ | 2, _ | 3, _ | 4, _ | 5, _ | 6, _ | 7, _ | 8, _ | 9, _ | 10, _ | 11, _ | 12, _ | 13, _ | 14, _ | 15, _ => exact ⟨by simp; rfl, by simp; rfl⟩
  | i + 16, hi => exact absurd hi (by omega)
theorem s3set {W0 W : World} {p1 p2 p3 : Addr} {v1 v2 v3 u u2 : Value} {b o o2 : Nat} (h : W.cell? p1 = some v1 ∧ W.cell? p2 = some v2 ∧ W.cell? p3 = some v3 ∧ Aside0 (Below W0.heap.size W0 W)) (n1 : p1.block < W0.heap.size) (n2 : p2.block < W0.heap.size) (n3 : p3.block < W0.heap.size) (hb : W0.heap.size ≤ b) :
    ((W.setCell ⟨b, o, none⟩ u).setCell ⟨b, o2, none⟩ u2).cell? p1 = some v1 ∧ ((W.setCell ⟨b, o, none⟩ u).setCell ⟨b, o2, none⟩ u2).cell? p2 = some v2 ∧ ((W.setCell ⟨b, o, none⟩ u).setCell ⟨b, o2, none⟩ u2).cell? p3 = some v3 ∧ Aside0 (Below W0.heap.size W0 ((W.setCell ⟨b, o, none⟩ u).setCell ⟨b, o2, none⟩ u2)) := by
  obtain ⟨h1, h2, h3, h4⟩ := h
  have q : ∀ (p : Addr) (x : Nat), p.block < W0.heap.size → (⟨b, x, none⟩ : Addr) ≠ p := fun p x hp e => by subst e; exact absurd hp (Nat.not_lt.2 hb)
  refine ⟨?_, ?_, ?_, Aside0.mk (below_set (below_set h4.out hb) hb)⟩
  · rw [World.cell?_setCell_other _ _ _ _ (q _ _ n1), World.cell?_setCell_other _ _ _ _ (q _ _ n1)]; exact h1
  · rw [World.cell?_setCell_other _ _ _ _ (q _ _ n2), World.cell?_setCell_other _ _ _ _ (q _ _ n2)]; exact h2
  · rw [World.cell?_setCell_other _ _ _ _ (q _ _ n3), World.cell?_setCell_other _ _ _ _ (q _ _ n3)]; exact h3
theorem grid_rows (X Y : List Int) (V V2 : List (List Int)) (hV : V.length ≤ 16) : ∀ k,
    (∀ i : Nat, i ≤ V.length → curve_CheckGrid.l0 k V (V.length : Int) (i : Int) X Y V2 = some 0 → ∀ j, i ≤ j → j < V.length → (rd_L1 V (j : Int)).length = Y.length) ∧
    (∀ (i : Nat) (row : List Int) (m c : Int), i < V.length → curve_CheckGrid.l1 k V (V.length : Int) (i : Int) row m c X Y V2 = some 0 → ∀ j, i + 1 ≤ j → j < V.length → (rd_L1 V (j : Int)).length = Y.length)
  | 0 => ⟨fun _ _ h => by simp [curve_CheckGrid.l0] at h, fun _ _ _ _ _ h => by simp [curve_CheckGrid.l1] at h⟩
  | k + 1 => by
    obtain ⟨ih0, ih1⟩ := grid_rows X Y V V2 hV k
    refine ⟨fun i hi h j hij hj => ?_, fun i row m c hi h j hij hj => ?_⟩
    · simp only [curve_CheckGrid.l0] at h
      rw [if_pos (by omega), if_pos (by omega), if_pos (by omega)] at h
      split at h
      · rename_i hl
        by_cases e : j = i
        · rw [e]; omega
        · exact ih1 i _ _ _ (by omega) h j (by omega) hj
      · simp at h
    · simp only [curve_CheckGrid.l1] at h
      split at h
      · split at h
        · split at h
          · obtain ⟨t, _, h⟩ := Option.bind_eq_some_iff.mp h
            split at h
            · exact ih1 i _ _ _ hi h j hij hj
            · simp at h
          · simp at h
        · simp at h
      · have e : wrap64 ((i : Int) + 1) = ((i + 1 : Nat) : Int) := by rw [c64 (by omega) (by omega)]; rfl
        rw [e] at h
        exact ih0 (i + 1) (by omega) h j hij hj
structure GridOk (X Y : List Int) (V : List (List Int)) : Prop where
  x0 : 0 < X.length
  x1 : X.length ≤ 16
  y0 : 0 < Y.length
  y1 : Y.length ≤ 16
  v : V.length = X.length
  r : ∀ j, j < V.length → (rd_L1 V (j : Int)).length = Y.length
theorem grid_ok (k : Nat) (X Y : List Int) (V : List (List Int)) (h : curve_CheckGrid.f k X Y V = some 0) : GridOk X Y V := by
  unfold curve_CheckGrid.f at h
  have hj : ∀ b k, curve_CheckGrid.j0 k b X Y V = some 0 → b = false ∧ (X.length ≤ 16 ∧ Y.length ≤ 16 ∧ V.length = X.length ∧ ∃ k, curve_CheckGrid.l0 k V (V.length : Int) 0 X Y V = some 0) := by
    intro b k h
    have hj1 : ∀ b k, curve_CheckGrid.j1 k b X Y V = some 0 → b = false ∧ V.length = X.length ∧ ∃ k, curve_CheckGrid.l0 k V (V.length : Int) 0 X Y V = some 0 := by
      intro b k h
      match k, h with
      | 0, h => simp [curve_CheckGrid.j1] at h
      | k + 1, h =>
        simp only [curve_CheckGrid.j1] at h
        split at h
        · simp at h
        · rename_i hb
          obtain ⟨t, _, h⟩ := Option.bind_eq_some_iff.mp h
          split at h
          · obtain ⟨t, _, h⟩ := Option.bind_eq_some_iff.mp h
            split at h
            · split at h
              · rename_i hl
                exact ⟨by simpa using hb, by omega, k, h⟩
              · simp at h
            · rename_i ht; simp at h; exact absurd h ht
          · rename_i ht; simp at h; exact absurd h ht
    match k, h with
    | 0, h => simp [curve_CheckGrid.j0] at h
    | k + 1, h =>
      simp only [curve_CheckGrid.j0] at h
      split at h
      · simp at h
      · rename_i hb
        split at h
        · exact absurd (hj1 _ _ h).1 (by simp)
        · obtain ⟨q1, q2, q3⟩ := hj1 _ _ h
          have := of_decide_eq_false q1
          exact ⟨by simpa using hb, by omega, by omega, q2, q3⟩
  split at h
  · exact absurd (hj _ _ h).1 (by simp)
  · rename_i hx
    obtain ⟨q1, q2, q3, q4, k2, q5⟩ := hj _ _ h
    have hy : ¬ (Y.length : Int) = 0 := by simpa using q1
    exact ⟨by omega, q2, by omega, q3, q4, fun j hj => (grid_rows X Y V V (by omega) k2).1 0 (Nat.zero_le _) q5 j (Nat.zero_le _) hj⟩
theorem mkpts_len : ∀ (Y R : List Int), Y.length = R.length → (mkpts Y R).length = Y.length
  | [], [], _ => rfl
  | _ :: Y, _ :: R, h => by simp only [mkpts, List.length_cons]; rw [mkpts_len Y R (by simpa using h)]
theorem mkpts_get : ∀ (Y R : List Int) (i : Nat), Y.length = R.length → i < Y.length → (mkpts Y R).getD i z53 = ⟨Y.getD i 0, R.getD i 0⟩
  | [], [], _, _, h => absurd h (Nat.not_lt_zero _)
  | _ :: Y, _ :: R, 0, _, _ => rfl
  | _ :: Y, _ :: R, i + 1, h, hi => mkpts_get Y R i (by simpa using h) (by simpa using hi)
theorem rowsv_get (k : Nat) (Y : List Int) (y : Int) : ∀ (X : List Int) (V : List (List Int)) (P : List S53), X.length = V.length → rowsv k Y y X V = some P →
    P.length = X.length ∧ ∀ i, i < X.length → (P.getD i z53).f0 = X.getD i 0 ∧ curve_At.f k (mkpts Y (V.getD i [])) y = some (P.getD i z53).f1
  | [], [], P, _, h => by simp only [rowsv, Option.some.injEq] at h; subst h; exact ⟨rfl, fun i hi => absurd hi (Nat.not_lt_zero _)⟩
  | x :: X, r :: V, P, hl, h => by
    simp only [rowsv] at h
    obtain ⟨v, hv, h⟩ := Option.bind_eq_some_iff.mp h
    obtain ⟨Q, hQ, h⟩ := Option.bind_eq_some_iff.mp h
    obtain rfl := Option.some.inj h
    obtain ⟨q1, q2⟩ := rowsv_get k Y y X V Q (by simpa using hl) hQ
    refine ⟨by simp [q1], fun i hi => ?_⟩
    match i, hi with
    | 0, _ => exact ⟨rfl, hv⟩
    | i + 1, hi => exact q2 i (by simpa using hi)
theorem take_ext {L P : List S53} (n : Nat) (h1 : P.length = n) (h2 : n ≤ L.length) (h : ∀ j, j < n → L.getD j z53 = P.getD j z53) : L.take n = P := by
  apply List.ext_getElem
  · rw [List.length_take]; omega
  · intro j ha hb
    rw [List.getElem_take]
    have := h j (by omega)
    rw [List.getD_eq_getElem?_getD, List.getD_eq_getElem?_getD, List.getElem?_eq_getElem (by omega), List.getElem?_eq_getElem (by omega)] at this
    exact this
set_option maxHeartbeats 4000000 in
set_option maxRecDepth 100000 in
theorem curve_Value.calls (k : Nat) (A0_0 : Option Addr) (c0_0 : Nat) (l0_0 : List Int) (A0_1 : Option Addr) (c0_1 : Nat) (l0_1 : List Int) (A0_2 : Option Addr) (c0_2 : Nat) (l0_2 : List (List Int)) (a1 : Int) (a2 : Int) (r : Int) (w : World) (hr0_0 : Kd.C (Kd.int .i64) w A0_0 l0_0.length l0_0) (hc0_0 : l0_0.length ≤ c0_0) (hr0_1 : Kd.C (Kd.int .i64) w A0_1 l0_1.length l0_1) (hc0_1 : l0_1.length ≤ c0_1) (hr0_2 : Kd.C (Kd.slice 3 (Kd.int .i64)) w A0_2 l0_2.length l0_2) (hc0_2 : l0_2.length ≤ c0_2) (h : curve_Value.f k l0_0 l0_1 l0_2 a1 a2 = some r) :
    Calls Tryd.prog 23 #[.agg #[.slice A0_0 l0_0.length c0_0, .slice A0_1 l0_1.length c0_1, .slice A0_2 l0_2.length c0_2], .int .i64 a1, .int .i64 a2] w fun e w' => e = .returned (.int .i64 r) ∧ Below w.heap.size w w' := by
  obtain ⟨e0, hck, hr⟩ := Option.bind_eq_some_iff.mp h
  clear h
  have HA := Aside0.mk hr0_0
  have HB := Aside0.mk hr0_1
  have HC := Aside0.mk hr0_2
  have HCK := Aside0.mk hck
  have HV := Aside0.mk hr
  clear hr0_0 hr0_1 hr0_2 hck hr
  go_enter Tryd.func23, Tryd.ntmps23
  go_wp2_with fail
  refine (curve_CheckGrid.calls k A0_0 c0_0 l0_0 A0_1 c0_1 l0_1 A0_2 c0_2 l0_2 e0 _ (Kd.C_alloc HA.out _) hc0_0 (Kd.C_alloc HB.out _) hc0_1 (Kd.C_alloc HC.out _) hc0_2 HCK.out).mono ?_
  rintro e w1 ⟨rfl, hb1⟩
  have hz : w.heap.size < w1.heap.size := by have := hb1.size; simp at this; omega
  have hg0 : w1.cell? ⟨w.heap.size, 0, none⟩ = some (.slice A0_0 l0_0.length c0_0) := bcell hb1 _ _ _ (by simp) (by simp)
  have hg1 : w1.cell? ⟨w.heap.size, 1, none⟩ = some (.slice A0_1 l0_1.length c0_1) := bcell hb1 _ _ _ (by simp) (by simp)
  have hg2 : w1.cell? ⟨w.heap.size, 2, none⟩ = some (.slice A0_2 l0_2.length c0_2) := bcell hb1 _ _ _ (by simp) (by simp)
  have HBW := Aside0.mk (below_step (below_alloc (Below.refl _ _) _) hb1)
  have HA1 := Aside0.mk (Kd.C_below HA.out HBW.out)
  have HB1 := Aside0.mk (Kd.C_below HB.out HBW.out)
  have HC1 := Aside0.mk (Kd.C_below HC.out HBW.out)
  clear hb1 HA HB HC
  by_cases hE : e0 = 0
  · have hEb : (e0 != 0) = false := by simp [hE]
    have hok := Aside0.mk (grid_ok k l0_0 l0_1 l0_2 (by rw [← hE]; exact HCK.out))
    have hv2 := HV.out
    rw [if_pos hE] at hv2
    obtain ⟨P, hP, hv3⟩ := Option.bind_eq_some_iff.mp hv2
    have HG := Aside0.mk (rowsv_get k l0_1 a2 l0_0 l0_2 P hok.out.v.symm hP)
    have HAT := Aside0.mk hv3
    clear HCK HV hE hv2 hv3 hP
    go_wp2_with fail
    have hx1 := hok.out.x1
    have hx0 := hok.out.x0
    have hy1 := hok.out.y1
    have hy0 := hok.out.y0
    have hA0 := AtPts.new w1 #[.int .i64 0, .int .i64 0, .int .i64 0, .int .i64 0, .int .i64 0, .int .i64 0, .int .i64 0, .int .i64 0, .int .i64 0, .int .i64 0, .int .i64 0, .int .i64 0, .int .i64 0, .int .i64 0, .int .i64 0, .int .i64 0, .int .i64 0, .int .i64 0, .int .i64 0, .int .i64 0, .int .i64 0, .int .i64 0, .int .i64 0, .int .i64 0, .int .i64 0, .int .i64 0, .int .i64 0, .int .i64 0, .int .i64 0, .int .i64 0, .int .i64 0, .int .i64 0] 54 rfl
    have hb2 := below_alloc (Below.refl w1.heap.size w1) (.cells #[.int .i64 0, .int .i64 0, .int .i64 0, .int .i64 0, .int .i64 0, .int .i64 0, .int .i64 0, .int .i64 0, .int .i64 0, .int .i64 0, .int .i64 0, .int .i64 0, .int .i64 0, .int .i64 0, .int .i64 0, .int .i64 0, .int .i64 0, .int .i64 0, .int .i64 0, .int .i64 0, .int .i64 0, .int .i64 0, .int .i64 0, .int .i64 0, .int .i64 0, .int .i64 0, .int .i64 0, .int .i64 0, .int .i64 0, .int .i64 0, .int .i64 0, .int .i64 0] 54)
    generalize w1.alloc (.cells #[.int .i64 0, .int .i64 0, .int .i64 0, .int .i64 0, .int .i64 0, .int .i64 0, .int .i64 0, .int .i64 0, .int .i64 0, .int .i64 0, .int .i64 0, .int .i64 0, .int .i64 0, .int .i64 0, .int .i64 0, .int .i64 0, .int .i64 0, .int .i64 0, .int .i64 0, .int .i64 0, .int .i64 0, .int .i64 0, .int .i64 0, .int .i64 0, .int .i64 0, .int .i64 0, .int .i64 0, .int .i64 0, .int .i64 0, .int .i64 0, .int .i64 0, .int .i64 0] 54) = w2 at *
    go_loopw [19] (fun a wr => ∃ m : Nat, m ≤ l0_2.length ∧ a = .int .i64 m ∧ Hid (∃ L, AtPts wr w1.heap.size L ∧ ∀ j, j < m → L.getD j z53 = P.getD j z53) ∧ Hid (Below w1.heap.size w1 wr)) (fun a _ => l0_2.length - (intOf a).toNat)
    case atStart => exact ⟨0, Nat.zero_le _, rfl, Lib.hid ⟨_, hA0, fun j h => absurd h (Nat.not_lt_zero _)⟩, Lib.hid hb2⟩
    case round =>
      obtain ⟨m, hm, rfl, HL, HB2⟩ := hrel
      obtain ⟨L, hL, hLj⟩ := HL.out
      clear HL
      have hgr0 := bcell HB2.out _ _ _ hz hg0
      have hgr1 := bcell HB2.out _ _ _ hz hg1
      have hgr2 := bcell HB2.out _ _ _ hz hg2
      have hzr := HB2.out.size
      by_cases hlt : m < l0_2.length
      · obtain ⟨ad, Ar, cr, hAe, hrow, hrl, hrc⟩ := at_L1 (Kd.C_below HC1.out HB2.out) (m : Int) (by omega) (by omega)
        subst hAe
        rw [Int.toNat_natCast] at hrow
        have hrlen := hok.out.r m hlt
        generalize hrr : rd_L1 l0_2 (m : Int) = row at hrow hrl hrc hrlen
        have HRC := Aside0.mk hrc
        clear hrc
        obtain ⟨wo, hwo⟩ : ∃ wo, wo = wr := ⟨_, rfl⟩
        subst hwo
        go_wp2_with fail
        have hA3 := AtPts.new wo #[.int .i64 0, .int .i64 0, .int .i64 0, .int .i64 0, .int .i64 0, .int .i64 0, .int .i64 0, .int .i64 0, .int .i64 0, .int .i64 0, .int .i64 0, .int .i64 0, .int .i64 0, .int .i64 0, .int .i64 0, .int .i64 0, .int .i64 0, .int .i64 0, .int .i64 0, .int .i64 0, .int .i64 0, .int .i64 0, .int .i64 0, .int .i64 0, .int .i64 0, .int .i64 0, .int .i64 0, .int .i64 0, .int .i64 0, .int .i64 0, .int .i64 0, .int .i64 0] 54 rfl
        have hb3 := below_alloc (Below.refl wo.heap.size wo) (.cells #[.int .i64 0, .int .i64 0, .int .i64 0, .int .i64 0, .int .i64 0, .int .i64 0, .int .i64 0, .int .i64 0, .int .i64 0, .int .i64 0, .int .i64 0, .int .i64 0, .int .i64 0, .int .i64 0, .int .i64 0, .int .i64 0, .int .i64 0, .int .i64 0, .int .i64 0, .int .i64 0, .int .i64 0, .int .i64 0, .int .i64 0, .int .i64 0, .int .i64 0, .int .i64 0, .int .i64 0, .int .i64 0, .int .i64 0, .int .i64 0, .int .i64 0, .int .i64 0] 54)
        generalize wo.alloc (.cells #[.int .i64 0, .int .i64 0, .int .i64 0, .int .i64 0, .int .i64 0, .int .i64 0, .int .i64 0, .int .i64 0, .int .i64 0, .int .i64 0, .int .i64 0, .int .i64 0, .int .i64 0, .int .i64 0, .int .i64 0, .int .i64 0, .int .i64 0, .int .i64 0, .int .i64 0, .int .i64 0, .int .i64 0, .int .i64 0, .int .i64 0, .int .i64 0, .int .i64 0, .int .i64 0, .int .i64 0, .int .i64 0, .int .i64 0, .int .i64 0, .int .i64 0, .int .i64 0] 54) = w3 at *
        go_loopw [26] (fun a wq => ∃ q : Nat, q ≤ row.length ∧ a = .int .i64 q ∧ Hid (∃ M, AtPts wq wo.heap.size M ∧ ∀ j, j < q → M.getD j z53 = ⟨l0_1.getD j 0, row.getD j 0⟩) ∧ Hid (Below wo.heap.size wo wq)) (fun a _ => row.length - (intOf a).toNat)
        case atStart => exact ⟨0, Nat.zero_le _, rfl, Lib.hid ⟨_, hA3, fun j h => absurd h (Nat.not_lt_zero _)⟩, Lib.hid hb3⟩
        case round =>
          obtain ⟨q, hq, rfl, HM, HB3⟩ := hrel
          obtain ⟨M, hM, hMj⟩ := HM.out
          clear HM
          have hzq := HB3.out.size
          have hMl := hM.lt
          have hgq1 := bcell HB3.out _ _ _ (by omega) hgr1
          by_cases hql : q < row.length
          · have hqY : q < l0_1.length := by omega
            obtain ⟨ae, hAe2, hen⟩ := Kd.at_int (Kd.C_below HRC.out HB3.out) (q : Int) (by omega) (by omega)
            subst hAe2
            obtain ⟨ay, hAy, hyn⟩ := Kd.at_int (Kd.C_below HB1.out (below_step HB2.out HB3.out)) (q : Int) (by omega) (by omega)
            subst hAy
            rw [Int.toNat_natCast] at hen hyn
            have h16 : q < 16 := by omega
            obtain ⟨hm0, hm1⟩ := hM.cell q h16
            have hset := hM.set q h16 (rd l0_1 (q : Int)) (rd row (q : Int))
            have hf0 := hM.fr (q * 2)
            have hf1 := hM.fr (q * 2 + 1)
            go_wp2
            go_roundw
            case rel =>
              refine ⟨q + 1, by omega, by go_num, Lib.hid ⟨_, hset, fun j hj => ?_⟩, Lib.hid (below_set (below_set HB3.out (Nat.le_refl _)) (Nat.le_refl _))⟩
              rw [AtPts.get_set hM.len q h16]
              by_cases e : j = q
              · rw [if_pos e, e]; rfl
              · rw [if_neg e]; exact hMj j (by omega)
            case measure => simp [intOf]; omega
          · obtain rfl : q = row.length := by omega
            have hgq0 := bcell HB3.out _ _ _ (by omega) hgr0
            have hBq := below_step HB2.out HB3.out
            have hLq : AtPts wr w1.heap.size L := ⟨hL.len, fun i hi => ⟨(HB3.out.cell (p := ⟨w1.heap.size, _, none⟩) hL.lt).trans (hL.cell i hi).1, (HB3.out.cell (p := ⟨w1.heap.size, _, none⟩) hL.lt).trans (hL.cell i hi).2⟩, fun o => (HB3.out.frozen (p := ⟨w1.heap.size, _, none⟩) hL.lt).trans (hL.fr o)⟩
            have hmX : m < l0_0.length := by have := hok.out.v; omega
            have h16 : m < 16 := by omega
            obtain ⟨ax, hAx, hxn⟩ := Kd.at_int (Kd.C_below HA1.out hBq) (m : Int) (by omega) (by omega)
            subst hAx
            rw [Int.toNat_natCast] at hxn
            have hrow2 : l0_2.getD m [] = row := by rw [← hrr]; unfold rd_L1; rw [Int.toNat_natCast]
            have hpts : M.take row.length = mkpts l0_1 row := take_ext _ (by rw [mkpts_len _ _ hrlen.symm]; omega) (by rw [hM.len]; omega) (fun j hj => by rw [hMj j hj, mkpts_get _ _ _ hrlen.symm (by omega)])
            have hatv := (HG.out.2 m hmX).2
            rw [hrow2] at hatv
            have hPX := (HG.out.2 m hmX).1
            obtain ⟨px, py, hPm⟩ : ∃ px py, P.getD m z53 = ⟨px, py⟩ := ⟨_, _, rfl⟩
            rw [hPm] at hatv hPX
            replace hPX : px = l0_0.getD m 0 := hPX
            replace hatv : curve_At.f k (mkpts l0_1 row) a2 = some py := hatv
            have hptl := mkpts_len l0_1 row hrlen.symm
            have HMR0 := hM.row row.length (by omega)
            rw [hpts, hrlen] at HMR0
            have HMR := Aside0.mk HMR0
            have HATM := Aside0.mk hatv
            clear hpts hatv hrow2 HMR0
            generalize mkpts l0_1 row = pts at *
            have hCALL : ∀ W, Kd.C k53 W (some ⟨wo.heap.size, 0, none⟩) l0_1.length pts → Calls Tryd.prog 31 #[.slice (some ⟨wo.heap.size, 0, none⟩) l0_1.length 16, .int .i64 a2] W fun e w' => e = .returned (.int .i64 py) ∧ Below W.heap.size W w' := by
              intro W hC
              have := curve_At.calls k (some ⟨wo.heap.size, 0, none⟩) 16 pts a2 _ W (by rw [hptl]; exact hC) (by omega) HATM.out
              rwa [hptl] at this
            have HCALL := Aside0.mk hCALL
            clear hCALL HATM
            have hxb : (ax.add m).block < w1.heap.size := by
              obtain ⟨ax2, hAx2, hxn2⟩ := Kd.at_int HA1.out (m : Int) (by omega) (by omega)
              obtain rfl : ax = ax2 := by injection hAx2
              rw [Int.toNat_natCast] at hxn2
              exact World.block_lt_of_cell? _ _ hxn2
            have hx2 : rd l0_0 (m : Int) = px := by rw [hPX]; unfold rd; rw [Int.toNat_natCast]
            rw [hx2] at hxn
            have HP2 := Aside0.mk hPm
            clear hPm hPX hx2
            have hS0 := s3keep ⟨hgq0, hxn, hgq0, Aside0.mk hBq⟩ (below_drew1 (Below.refl wr.heap.size wr))
            have hbd := below_drew1 (Below.refl wr.heap.size wr)
            have hyi0 : (0 : Int) ≤ (l0_1.length : Int) := by omega
            have hyi1 : (l0_1.length : Int) ≤ 16 := by omega
            have hmi0 : (0 : Int) ≤ (m : Int) := by omega
            have hmi1 : (m : Int) < 16 := by omega
            have hmi2 : (m : Int) < (l0_0.length : Int) := by omega
            go_wp2_with fail
            go_region_held3 (fun w' => w'.cell? ⟨w.heap.size, 0, none⟩ = some (.slice (some ax) l0_0.length c0_0) ∧ w'.cell? (ax.add m) = some (.int .i64 px) ∧ w'.cell? ⟨w.heap.size, 0, none⟩ = some (.slice (some ax) l0_0.length c0_0) ∧ Aside0 (Below w1.heap.size w1 w'))
              ((first | exact hS0 | exact hS1 | exact hS2 | (trace_state; fail)))
              ((go_at_call 31; refine (HCALL.out _ (Kd.C_below HMR.out hbd)).mono ?_; rintro e w4 ⟨rfl, hb4⟩; have hS1 := s3keep hS0 hb4; have hL4 := hLq.below (below_step hbd hb4); obtain ⟨hl0, hl1⟩ := hL4.cell m h16; have hf0 := hL4.fr (m * 2); have hf1 := hL4.fr (m * 2 + 1); have hset := hL4.set m h16 px py; have hS2 := s3set (b := w1.heap.size) (o := m * 2) (o2 := m * 2 + 1) (u := .int .i64 px) (u2 := .int .i64 py) hS1 hz hxb hz (Nat.le_refl _)))
            go_wp2
            go_roundw
            case rel =>
              refine ⟨m + 1, by omega, by go_num, Lib.hid ⟨_, hset, fun j hj => ?_⟩, Lib.hid hS2.2.2.2.out⟩
              rw [AtPts.get_set hL.len m h16]
              by_cases e : j = m
              · rw [if_pos e, e]; exact HP2.out.symm
              · rw [if_neg e]; exact hLj j (by omega)
            case measure => simp [intOf]; omega
      · obtain rfl : m = l0_2.length := by omega
        have hPe : L.take l0_0.length = P := take_ext _ HG.out.1 (by rw [hL.len]; exact hx1) (fun j hj => hLj j (by have := hok.out.v; omega))
        have hrow := hL.row l0_0.length hx1
        rw [hPe] at hrow
        have hxi0 : (0 : Int) ≤ (l0_0.length : Int) := by omega
        have hxi1 : (l0_0.length : Int) ≤ 16 := by omega
        have hPl := HG.out.1
        have hCALL := curve_At.calls k (some ⟨w1.heap.size, 0, none⟩) 16 P a1 r wr (by rw [hPl]; exact hrow) (by omega) HAT.out
        rw [hPl] at hCALL
        have HCALL := Aside0.mk hCALL
        clear hCALL hPl hPe hrow hL hLj
        go_wp2_with fail
        refine HCALL.out.mono ?_
        rintro e w4 ⟨rfl, hb4⟩
        go_wp2
        go_ret
        exact ⟨rfl, below_step HBW.out (below_step HB2.out hb4)⟩
  · have hEb : (e0 != 0) = true := by simpa using hE
    have hv2 : 0 = r := by have := HV.out; rw [if_neg hE] at this; exact Option.some.inj this
    subst hv2
    clear hE HV HCK
    go_wp2
    go_ret
    exact ⟨rfl, HBW.out⟩

end Go.Proofs.YtfgeppldckagaaaDoor.PAll
