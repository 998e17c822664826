/- Disk: DiskCalls -/
import Derived.Test.YtkgdppjlbjmjoaaDiskU
namespace Go.Proofs.Ytkgdppjlbjmjoaa.Dk
open Go.RowKit Go.Proofs.Ytkgdppjlbjmjoaa.PAll Go.Proofs.YtkgdppjlbjmjoaaW.PrintWords Go.Proofs.YtkgdppjlbjmjoaaW.PrintLast Go.Proofs.YtkgdppjlbjmjoaaW.PrintMore
set_option linter.unusedVariables false
set_option linter.unusedSimpArgs false
theorem refNew_f (b : Nat) (h1 : 1 ≤ b) (h2 : b ≤ 8) : sawmillref56_New.f (b : Int) = some (List.replicate b noText, [], false, false, 0, 0, 0) := by
  unfold sawmillref56_New.f
  rw [if_neg (by omega), if_neg (by omega), if_pos (by omega), if_pos (by omega), Int.toNat_natCast]
  rfl
theorem refNew (b : Nat) (h1 : 1 ≤ b) (h2 : b ≤ 8) (w : World) : Calls Try.prog 10 #[.int .i64 (b : Int)] w fun e w' => ∃ A c A' c', e = .returned (.tuple #[.agg #[.slice A b c, .slice A' 0 c', .bool false, .bool false, .int .i64 0, .int .u64 0], .int .i64 0]) ∧ Kd.R Kd.string 9 w' w.heap.size (fun _ => True) (.slice A b c) (List.replicate b noText) ∧ Kd.R k67 67 w' w.heap.size (fun _ => True) (.slice A' 0 c') [] ∧ Below w.heap.size w w' :=
  (sawmillref56_New.calls (b : Int) _ _ _ _ _ _ _ w (refNew_f b h1 h2)).mono fun e w' ⟨v0, v1, he, h3, h4, hb⟩ => by
    obtain ⟨A, c, rfl⟩ := Kd.R_slice h3
    obtain ⟨A', c', rfl⟩ := Kd.R_slice h4
    rw [List.length_replicate] at he h3
    exact ⟨A, c, A', c', he, h3, h4, hb⟩
theorem row_fresh {α : Type} {dd : Kd α} {e : Nat} {w wr w1 : World} {S : Nat → Prop} (hS : ∀ k, S k → k < wr.heap.size ∨ w1.heap.size ≤ k) {u : Value} {L : List α} {ok : Nat → Prop} (hw : w.heap.size ≤ wr.heap.size) (hu : dd.R e w1 wr.heap.size ok u L) : dd.R e w1 w.heap.size (fun k => ¬ S k) u L :=
  Kd.R_lower (Kd.R_mono (Kd.R_bound hu) (fun k hk hs => by have := hS k hs; have := hk.2.1; have := hk.2.2.1; omega)) hw
set_option maxHeartbeats 4000000 in
set_option maxRecDepth 100000 in
theorem DiskCalls_main (b : Nat) (h1 : 1 ≤ b) (h2 : b ≤ 8) (A : Option Addr) (c : Nat) (l : List S42) (w : World) (hr : Kd.C k42 w A l.length l) (hc : l.length ≤ c) (hl : l.length ≤ 80) (hm : ∀ o ∈ l, 0 ≤ o.f3 ∧ o.f3 ≤ 18446744073709551615)
    (hsh : Calls Try.prog 16 #[.slice A l.length c] w fun e w' => e = .returned (.bool true) ∧ Drawn0 w w') : Calls Try.prog 4 #[.int .i64 (b : Int), .slice A l.length c] w fun e w' => e = .returned (.bool true) ∧ Below w.heap.size w w' := by
  have hb1 : ¬ ((b : Int) < 1) := by omega
  have hb8 : ¬ ((b : Int) > 8) := by omega
  have HSH := Lib.hid hsh
  have HR := Lib.hid hr
  have HC := Lib.hid hc
  have HM := Lib.hid hm
  clear hsh hr hc hm
  go_enter Try.func4, Try.ntmps4
  go_upto_region 5 with (first | (go_at_call 16; (with_reducible refine HSH.out.mono ?_); rintro e w1 ⟨rfl, ⟨nd, rfl⟩⟩) | (go_at_call 9; (with_reducible refine (New_ex b h1 (by omega) _).mono ?_); rintro e w2 ⟨g, gd, gm, rfl, hA, hS, _, hb⟩; have HA := Lib.hid hA; have HB : Hid (Below w.heap.size w w2) := Lib.hid (below_step (pw_below_drewN (Below.refl _ _) _) hb); have HS : Hid (∀ k, (k = g ∨ k = gd ∨ k = gm) → w.heap.size ≤ k) := Lib.hid hS; clear hA hS hb) | (go_at_call 10; (with_reducible refine (refNew b h1 h2 _).mono ?_); rintro e w3 ⟨A1, c1, A2, c2, rfl, ho, hp, hb⟩; have HO := Lib.hid ho; have HP := Lib.hid hp; have HB3 := Lib.hid hb; clear ho hp hb) | ((with_reducible refine gate_dst (N := 7) rfl ?_); refine box_event ?hg (N := 7) ?hd (cs := #[.slice none 0 0, .slice none 0 0, .bool false, .bool false, .int .i64 0, .int .u64 0]) (t := 30) ?hr ?_; (case hd => rfl); (case hg => rfl); (case hr => first | (go_simp; done) | (go_simp; rfl)); intro rg hrg w4 hbox hb; have HX := Lib.hid hbox; have HB4 := Lib.hid hb; have HRG := Lib.hid hrg; have hcz_0 : w4.cell? ⟨rg, 0, none⟩ = some (.slice none 0 0) := (blk_cell hbox 0).trans rfl; have hfz_0 := blk_frozen hbox 0; have hcz_1 : w4.cell? ⟨rg, 1, none⟩ = some (.slice none 0 0) := (blk_cell hbox 1).trans rfl; have hfz_1 := blk_frozen hbox 1; have hcz_2 : w4.cell? ⟨rg, 2, none⟩ = some (.bool false) := (blk_cell hbox 2).trans rfl; have hfz_2 := blk_frozen hbox 2; have hcz_3 : w4.cell? ⟨rg, 3, none⟩ = some (.bool false) := (blk_cell hbox 3).trans rfl; have hfz_3 := blk_frozen hbox 3; have hcz_4 : w4.cell? ⟨rg, 4, none⟩ = some (.int .i64 0) := (blk_cell hbox 4).trans rfl; have hfz_4 := blk_frozen hbox 4; have hcz_5 : w4.cell? ⟨rg, 5, none⟩ = some (.int .u64 0) := (blk_cell hbox 5).trans rfl; have hfz_5 := blk_frozen hbox 5; clear hrg hbox hb))
  generalize hW : World.setCell _ _ _ = w5
  have T5 : Turn (fun k => k = rg) w4 w5 := by rw [← hW]; exact Turn.set (S := fun k => k = rg) (g := rg) (Turn.set (S := fun k => k = rg) (g := rg) (Turn.set (S := fun k => k = rg) (g := rg) (Turn.set (S := fun k => k = rg) (g := rg) (Turn.set (S := fun k => k = rg) (g := rg) (Turn.set (S := fun k => k = rg) (g := rg) (Turn.refl (fun k => k = rg) _) rfl _) rfl _) rfl _) rfl _) rfl _) rfl _
  have B5 : w5.heap[rg]? = some (.cells #[.slice A1 b c1, .slice A2 0 c2, .bool false, .bool false, .int .i64 0, .int .u64 0] 30 (0, 0)) := by rw [← hW]; refine blk_put (cs := #[.slice A1 b c1, .slice A2 0 c2, .bool false, .bool false, .int .i64 0, .int .u64 0]) ?_ 5 _ rfl; refine blk_put (cs := #[.slice A1 b c1, .slice A2 0 c2, .bool false, .bool false, .int .i64 0, .int .u64 0]) ?_ 4 _ rfl; refine blk_put (cs := #[.slice A1 b c1, .slice A2 0 c2, .bool false, .bool false, .int .i64 0, .int .u64 0]) ?_ 3 _ rfl; refine blk_put (cs := #[.slice A1 b c1, .slice A2 0 c2, .bool false, .bool false, .int .i64 0, .int .u64 0]) ?_ 2 _ rfl; refine blk_put (cs := #[.slice A1 b c1, .slice none 0 0, .bool false, .bool false, .int .i64 0, .int .u64 0]) ?_ 1 _ rfl; refine blk_put (cs := #[.slice none 0 0, .slice none 0 0, .bool false, .bool false, .int .i64 0, .int .u64 0]) ?_ 0 _ rfl; exact HX.out
  clear hW
  clear hcz_0 hfz_0 hcz_1 hfz_1 hcz_2 hfz_2 hcz_3 hfz_3 hcz_4 hfz_4 hcz_5 hfz_5
  have hS4 : ∀ k, (k = g ∨ k = gd ∨ k = gm) → k < w2.heap.size := HA.out.lt
  have hs3 : w2.heap.size ≤ w3.heap.size := HB3.out.size
  have hs4 : w3.heap.size ≤ w4.heap.size := HB4.out.size
  have hrg := HRG.out
  have hns : ¬ (rg = g ∨ rg = gd ∨ rg = gm) := fun h => by have := hS4 rg h; omega
  have hb4 : Below w3.heap.size w3 w5 := T5.below HB4.out (fun k hk => by omega)
  have hb3 : Below w2.heap.size w2 w5 := below_step HB3.out hb4
  have HCS : Hid (CSt w w5 g gd gm rg (newD b) [] 0 0 (.slice A1 b c1) (.slice A2 0 c2)) := Lib.hid ⟨HA.out.below hb3, B5,
    Kd.R_below (row_fresh (S := fun k => k = g ∨ k = gd ∨ k = gm ∨ k = rg) (wr := w2) (fun k hk => by rcases hk with hk | hk | hk | hk; exact Or.inl (hS4 k (Or.inl hk)); exact Or.inl (hS4 k (Or.inr (Or.inl hk))); exact Or.inl (hS4 k (Or.inr (Or.inr hk))); exact Or.inr (by omega)) HB.out.size HO.out) hb4,
    Kd.R_below (row_fresh (S := fun k => k = g ∨ k = gd ∨ k = gm ∨ k = rg) (wr := w2) (fun k hk => by rcases hk with hk | hk | hk | hk; exact Or.inl (hS4 k (Or.inl hk)); exact Or.inl (hS4 k (Or.inr (Or.inl hk))); exact Or.inl (hS4 k (Or.inr (Or.inr hk))); exact Or.inr (by omega)) HB.out.size HP.out) hb4,
    ⟨rfl, fun h => by cases h⟩, below_step HB.out hb3, (fun k hk => by have := HB.out.size; rcases hk with hk | hk | hk | hk; exact HS.out k (Or.inl hk); exact HS.out k (Or.inr (Or.inl hk)); exact HS.out k (Or.inr (Or.inr hk)); omega), hns⟩
  clear hS4 hs3 hs4 hrg hns hb4 hb3 T5 B5 HA HB HS HO HP HB3 HX HB4 HRG
  go_wp2
  go_loopw [9] (fun a wr => ∃ (i : Nat) (d : DS) (P : List S67) (st mk : Int) (vB vP : Value), i ≤ l.length ∧ a = .int .i64 (i : Int) ∧ Hid (CSt w wr g gd gm rg d P st mk vB vP) ∧ Hid (d.dur.length = b ∧ d.pend.length ≤ i ∧ d.mask ≤ 18446744073709551615)) (fun a _ => l.length - (intOf a).toNat)
  case atStart => exact ⟨0, newD b, [], 0, 0, _, _, Nat.zero_le _, rfl, HCS, Lib.hid ⟨List.length_replicate, Nat.zero_le _, (by show (0 : Int) ≤ 18446744073709551615; decide)⟩⟩
  case round =>
    clear HCS
    obtain ⟨i, d, P, st, mk, vB, vP, hi, rfl, HM0, HL⟩ := hrel
    by_cases hlt : i < l.length
    · have hi9 : i < 100 := by omega
      have q1 : (i : Int) < (l.length : Int) := by omega
      have p1 : (0 : Int) ≤ (i : Int) := by omega
      obtain ⟨A3, c3, z3⟩ := Kd.R_slice HM0.out.o
      subst z3
      obtain ⟨A4, c4, z4⟩ := Kd.R_slice HM0.out.p
      subst z4
      obtain ⟨ad, e1, hx0, hx1, hx2, hx3⟩ := at_T42 (Kd.C_below HR.out HM0.out.b) (i : Int) p1 q1
      cases e1
      have hcell4 : ∀ W' : World, Below w.heap.size w W' → (W'.cell? (ad.add (i * 4)) = some (.int .i64 (rd_T42 l (i : Int)).f0) ∧ W'.cell? ⟨(ad.add (i * 4)).block, (ad.add (i * 4)).off + 1, none⟩ = some (.int .i64 (rd_T42 l (i : Int)).f1) ∧ W'.cell? ⟨(ad.add (i * 4)).block, (ad.add (i * 4)).off + 2, none⟩ = some (.string (rd_T42 l (i : Int)).f2) ∧ W'.cell? ⟨(ad.add (i * 4)).block, (ad.add (i * 4)).off + 3, none⟩ = some (.int .u64 (rd_T42 l (i : Int)).f3)) := fun W' hb => by
        obtain ⟨ad', e', y0, y1, y2, y3⟩ := at_T42 (Kd.C_below HR.out hb) (i : Int) p1 q1
        injection e' with e'
        subst e'
        simp only [Int.toNat_natCast] at y0 y1 y2 y3
        exact ⟨y0, y1, y2, y3⟩
      have hcells : ∀ W' : World, Below w.heap.size w W' → W'.heap[rg]? = some (.cells #[.slice A3 d.dur.length c3, .slice A4 P.length c4, .bool d.down, .bool d.armed, .int .i64 st, .int .u64 mk] 30 (0, 0)) → (W'.cell? (ad.add (i * 4)) = some (.int .i64 (rd_T42 l (i : Int)).f0) ∧ W'.cell? ⟨(ad.add (i * 4)).block, (ad.add (i * 4)).off + 1, none⟩ = some (.int .i64 (rd_T42 l (i : Int)).f1) ∧ W'.cell? ⟨(ad.add (i * 4)).block, (ad.add (i * 4)).off + 2, none⟩ = some (.string (rd_T42 l (i : Int)).f2) ∧ W'.cell? ⟨(ad.add (i * 4)).block, (ad.add (i * 4)).off + 3, none⟩ = some (.int .u64 (rd_T42 l (i : Int)).f3) ∧ W'.cell? ⟨rg, 0, none⟩ = some (.slice A3 d.dur.length c3) ∧ W'.cell? ⟨rg, 1, none⟩ = some (.slice A4 P.length c4) ∧ W'.cell? ⟨rg, 2, none⟩ = some (.bool d.down) ∧ W'.cell? ⟨rg, 3, none⟩ = some (.bool d.armed) ∧ W'.cell? ⟨rg, 4, none⟩ = some (.int .i64 st) ∧ W'.cell? ⟨rg, 5, none⟩ = some (.int .u64 mk)) := fun W' hb hg => ⟨(hcell4 W' hb).1, (hcell4 W' hb).2.1, (hcell4 W' hb).2.2.1, (hcell4 W' hb).2.2.2, (blk_cell hg 0).trans rfl, (blk_cell hg 1).trans rfl, (blk_cell hg 2).trans rfl, (blk_cell hg 3).trans rfl, (blk_cell hg 4).trans rfl, (blk_cell hg 5).trans rfl⟩
      simp only [Int.toNat_natCast] at hx0 hx1 hx2 hx3
      have hmo := HM.out _ (rd_mem l i hlt)
      generalize rd_T42 l (i : Int) = o at *
      have HMd := Lib.hid HM0.out.drew
      have HMa := Lib.hid (HM0.out.alloc (.cells #[.slice none 0 0, .slice none 0 0, .bool false, .bool false, .int .i64 0, .int .u64 0] 30)).drew
      have HGE : Hid (w.heap.size ≤ wr.heap.size) := Lib.hid HM0.out.b.size
      have HNE : Hid (rg ≠ wr.heap.size) := Lib.hid (Nat.ne_of_lt (HM0.out.lt rg (Or.inr (Or.inr (Or.inr rfl)))))
      have HA1 := Lib.hid (HMd.out.also HL.out.2.2 o.f0 o.f1 o.f2 o.f3 hmo.1 hmo.2)
      have HA2 := Lib.hid (HMa.out.also HL.out.2.2 o.f0 o.f1 o.f2 o.f3 hmo.1 hmo.2)
      have HDO := Lib.hid (fun (W : World) (h : At W g gd gm d) => do_at o.f0 o.f1 o.f2 o.f3 (by have := HL.out.2.1; omega) hmo.1 h)
      have HL2 := Lib.hid (show (doD d o.f0 o.f1 o.f2 o.f3).2.dur.length = b ∧ (doD d o.f0 o.f1 o.f2 o.f3).2.pend.length ≤ i + 1 ∧ (doD d o.f0 o.f1 o.f2 o.f3).2.mask ≤ 18446744073709551615 from ⟨(do_len ..).trans HL.out.1, Nat.le_trans (do_pend ..) (Nat.add_le_add_right HL.out.2.1 1), do_mask _ _ _ _ _ HL.out.2.2 hmo.2⟩)
      clear hmo
      generalize doD d o.f0 o.f1 o.f2 o.f3 = x at *
      obtain ⟨r, d'⟩ := x
      simp only at HA1 HA2 HDO HL2
      go_upto_region 10 with (fail)
      go_cut [10, 11] (fun v10 v11 wc => ∃ (xg : Nat) (A6 : Option Addr) (c6 : Nat) (A7 : Option Addr) (c7 : Nat) (P' : List S67) (st' mk' : Int), v10 = .pointer (some ⟨xg, 0, none⟩) ∧ v11 = .int .i64 r ∧ Hid (XSt w wc g gd gm rg d d' P' st' mk' (.slice A6 d'.dur.length c6) (.slice A7 P'.length c7)) ∧ Hid (wc.heap[xg]? = some (.cells #[.slice A6 d'.dur.length c6, .slice A7 P'.length c7, .bool d'.down, .bool d'.armed, .int .i64 st', .int .u64 mk'] 30 (0, 0))) ∧ Hid (¬ (xg = g ∨ xg = gd ∨ xg = gm ∨ xg = rg) ∧ w.heap.size ≤ xg))
      case first =>
        go_region_held3 (fun W' => (W'.cell? (ad.add (i * 4)) = some (.int .i64 o.f0) ∧ W'.cell? ⟨(ad.add (i * 4)).block, (ad.add (i * 4)).off + 1, none⟩ = some (.int .i64 o.f1) ∧ W'.cell? ⟨(ad.add (i * 4)).block, (ad.add (i * 4)).off + 2, none⟩ = some (.string o.f2) ∧ W'.cell? ⟨(ad.add (i * 4)).block, (ad.add (i * 4)).off + 3, none⟩ = some (.int .u64 o.f3) ∧ W'.cell? ⟨rg, 0, none⟩ = some (.slice A3 d.dur.length c3) ∧ W'.cell? ⟨rg, 1, none⟩ = some (.slice A4 P.length c4) ∧ W'.cell? ⟨rg, 2, none⟩ = some (.bool d.down) ∧ W'.cell? ⟨rg, 3, none⟩ = some (.bool d.armed) ∧ W'.cell? ⟨rg, 4, none⟩ = some (.int .i64 st) ∧ W'.cell? ⟨rg, 5, none⟩ = some (.int .u64 mk))) (exact hcells _ (by repeat (with_reducible first | exact HX1.out.b | exact HM0.out.b | apply below_alloc | apply pw_below_drewN | apply below_drew1 | refine below_set ?_ HGE.out)) (by repeat (first | (with_reducible first | exact HR1.out | exact HM0.out.rb | refine blk_drewN ?_ _ | refine blk_drew ?_ | refine blk_alloc ?_ _) | refine blk_far ?_ HNE.out _))) (first | (go_at_call 17; (with_reducible refine HA1.out.mono ?_); rintro e w6 ⟨A6, c6, A7, c7, P', st', mk', rfl, hX, hk⟩; have HX1 := Lib.hid hX; have HR1 := Lib.hid (hk rg _ HMd.out.rb); have hza_0 : (w6.alloc (.cells #[.slice none 0 0, .slice none 0 0, .bool false, .bool false, .int .i64 0, .int .u64 0] 30)).cell? ⟨w6.heap.size, 0, none⟩ = some (.slice none 0 0) := (blk_cell (blk_new w6 _) 0).trans rfl; have hzf_0 := blk_frozen (blk_new w6 (.cells #[.slice none 0 0, .slice none 0 0, .bool false, .bool false, .int .i64 0, .int .u64 0] 30)) 0; have hza_1 : (w6.alloc (.cells #[.slice none 0 0, .slice none 0 0, .bool false, .bool false, .int .i64 0, .int .u64 0] 30)).cell? ⟨w6.heap.size, 1, none⟩ = some (.slice none 0 0) := (blk_cell (blk_new w6 _) 1).trans rfl; have hzf_1 := blk_frozen (blk_new w6 (.cells #[.slice none 0 0, .slice none 0 0, .bool false, .bool false, .int .i64 0, .int .u64 0] 30)) 1; have hza_2 : (w6.alloc (.cells #[.slice none 0 0, .slice none 0 0, .bool false, .bool false, .int .i64 0, .int .u64 0] 30)).cell? ⟨w6.heap.size, 2, none⟩ = some (.bool false) := (blk_cell (blk_new w6 _) 2).trans rfl; have hzf_2 := blk_frozen (blk_new w6 (.cells #[.slice none 0 0, .slice none 0 0, .bool false, .bool false, .int .i64 0, .int .u64 0] 30)) 2; have hza_3 : (w6.alloc (.cells #[.slice none 0 0, .slice none 0 0, .bool false, .bool false, .int .i64 0, .int .u64 0] 30)).cell? ⟨w6.heap.size, 3, none⟩ = some (.bool false) := (blk_cell (blk_new w6 _) 3).trans rfl; have hzf_3 := blk_frozen (blk_new w6 (.cells #[.slice none 0 0, .slice none 0 0, .bool false, .bool false, .int .i64 0, .int .u64 0] 30)) 3; have hza_4 : (w6.alloc (.cells #[.slice none 0 0, .slice none 0 0, .bool false, .bool false, .int .i64 0, .int .u64 0] 30)).cell? ⟨w6.heap.size, 4, none⟩ = some (.int .i64 0) := (blk_cell (blk_new w6 _) 4).trans rfl; have hzf_4 := blk_frozen (blk_new w6 (.cells #[.slice none 0 0, .slice none 0 0, .bool false, .bool false, .int .i64 0, .int .u64 0] 30)) 4; have hza_5 : (w6.alloc (.cells #[.slice none 0 0, .slice none 0 0, .bool false, .bool false, .int .i64 0, .int .u64 0] 30)).cell? ⟨w6.heap.size, 5, none⟩ = some (.int .u64 0) := (blk_cell (blk_new w6 _) 5).trans rfl; have hzf_5 := blk_frozen (blk_new w6 (.cells #[.slice none 0 0, .slice none 0 0, .bool false, .bool false, .int .i64 0, .int .u64 0] 30)) 5; clear hX hk) | (go_at_call 17; (with_reducible refine HA2.out.mono ?_); rintro e w6 ⟨A6, c6, A7, c7, P', st', mk', rfl, hX, hk⟩; have HX1 := Lib.hid hX; have HR1 := Lib.hid (hk rg _ HMa.out.rb); have HZ := hk wr.heap.size _ (blk_new wr (.cells #[.slice none 0 0, .slice none 0 0, .bool false, .bool false, .int .i64 0, .int .u64 0] 30)); have HZB := Lib.hid HZ; have hza_0 : w6.cell? ⟨wr.heap.size, 0, none⟩ = some (.slice none 0 0) := (blk_cell HZ 0).trans rfl; have hzf_0 := blk_frozen HZ 0; have hza_1 : w6.cell? ⟨wr.heap.size, 1, none⟩ = some (.slice none 0 0) := (blk_cell HZ 1).trans rfl; have hzf_1 := blk_frozen HZ 1; have hza_2 : w6.cell? ⟨wr.heap.size, 2, none⟩ = some (.bool false) := (blk_cell HZ 2).trans rfl; have hzf_2 := blk_frozen HZ 2; have hza_3 : w6.cell? ⟨wr.heap.size, 3, none⟩ = some (.bool false) := (blk_cell HZ 3).trans rfl; have hzf_3 := blk_frozen HZ 3; have hza_4 : w6.cell? ⟨wr.heap.size, 4, none⟩ = some (.int .i64 0) := (blk_cell HZ 4).trans rfl; have hzf_4 := blk_frozen HZ 4; have hza_5 : w6.cell? ⟨wr.heap.size, 5, none⟩ = some (.int .u64 0) := (blk_cell HZ 5).trans rfl; have hzf_5 := blk_frozen HZ 5; clear hX hk HZ))
        · go_wp2_with (fail)
          go_meet
          case rel => exact ⟨w6.heap.size, A6, c6, A7, c7, P', st', mk', rfl, rfl, Lib.hid (HX1.out.below (below_alloc (Below.refl _ _) _)), Lib.hid (blk_new w6 _), Lib.hid ⟨fun h => Nat.lt_irrefl _ (HX1.out.lt _ h), HX1.out.b.size⟩⟩
        · generalize hW : World.setCell _ _ _ = w7
          have T7 : Turn (fun k => k = wr.heap.size) w6 w7 := by rw [← hW]; exact Turn.set (S := fun k => k = wr.heap.size) (g := wr.heap.size) (Turn.set (S := fun k => k = wr.heap.size) (g := wr.heap.size) (Turn.set (S := fun k => k = wr.heap.size) (g := wr.heap.size) (Turn.set (S := fun k => k = wr.heap.size) (g := wr.heap.size) (Turn.set (S := fun k => k = wr.heap.size) (g := wr.heap.size) (Turn.set (S := fun k => k = wr.heap.size) (g := wr.heap.size) (Turn.refl (fun k => k = wr.heap.size) _) rfl _) rfl _) rfl _) rfl _) rfl _) rfl _
          have B7 : w7.heap[wr.heap.size]? = some (.cells #[.slice A6 d'.dur.length c6, .slice A7 P'.length c7, .bool d'.down, .bool d'.armed, .int .i64 st', .int .u64 mk'] 30 (0, 0)) := by rw [← hW]; refine blk_put (cs := #[.slice A6 d'.dur.length c6, .slice A7 P'.length c7, .bool d'.down, .bool d'.armed, .int .i64 st', .int .u64 0]) ?_ 5 _ rfl; refine blk_put (cs := #[.slice A6 d'.dur.length c6, .slice A7 P'.length c7, .bool d'.down, .bool d'.armed, .int .i64 0, .int .u64 0]) ?_ 4 _ rfl; refine blk_put (cs := #[.slice A6 d'.dur.length c6, .slice A7 P'.length c7, .bool d'.down, .bool false, .int .i64 0, .int .u64 0]) ?_ 3 _ rfl; refine blk_put (cs := #[.slice A6 d'.dur.length c6, .slice A7 P'.length c7, .bool false, .bool false, .int .i64 0, .int .u64 0]) ?_ 2 _ rfl; refine blk_put (cs := #[.slice A6 d'.dur.length c6, .slice none 0 0, .bool false, .bool false, .int .i64 0, .int .u64 0]) ?_ 1 _ rfl; refine blk_put (cs := #[.slice none 0 0, .slice none 0 0, .bool false, .bool false, .int .i64 0, .int .u64 0]) ?_ 0 _ rfl; exact HZB.out
          clear hW
          go_wp2_with (fail)
          go_meet
          case rel => exact ⟨wr.heap.size, A6, c6, A7, c7, P', st', mk', rfl, rfl, Lib.hid (HX1.out.put T7 (fun k hk => by subst hk; exact ⟨HGE.out, fun h => Nat.lt_irrefl _ (HM0.out.lt _ h), _, HZB.out⟩)), Lib.hid B7, Lib.hid ⟨fun h => Nat.lt_irrefl _ (HM0.out.lt _ h), HGE.out⟩⟩
      case rest =>
        obtain ⟨xg, A6, c6, A7, c7, P', st', mk', rfl, rfl, HX, HB, HN⟩ := hcut
        clear HA1 HA2 HMd HMa HGE HNE
        obtain ⟨xx0, xx1, xx2, xx3⟩ := hcell4 wc HX.out.b
        go_upto_region 14 with (first | (go_at_call 18; (with_reducible refine (HDO.out _ HX.out.a).mono ?_); rintro e w7 ⟨rfl, hA, hT⟩; have HX2 := Lib.hid (HX.out.turn hA hT); have HB2 := Lib.hid (hT.blk HB.out (fun hk => HN.out.1 (by rcases hk with hk | hk | hk; exact Or.inl hk; exact Or.inr (Or.inl hk); exact Or.inr (Or.inr (Or.inl hk))))); obtain ⟨cs, hcs, hrb⟩ := HX2.out.rb; obtain ⟨y0, y1, y2, y3, y4, y5, rfl⟩ := arr6 hcs; have HRB := Lib.hid hrb; have hcx_0 : w7.cell? ⟨xg, 0, none⟩ = some (.slice A6 d'.dur.length c6) := (blk_cell HB2.out 0).trans rfl; have hfx_0 := blk_frozen HB2.out 0; have hcx_1 : w7.cell? ⟨xg, 1, none⟩ = some (.slice A7 P'.length c7) := (blk_cell HB2.out 1).trans rfl; have hfx_1 := blk_frozen HB2.out 1; have hcx_2 : w7.cell? ⟨xg, 2, none⟩ = some (.bool d'.down) := (blk_cell HB2.out 2).trans rfl; have hfx_2 := blk_frozen HB2.out 2; have hcx_3 : w7.cell? ⟨xg, 3, none⟩ = some (.bool d'.armed) := (blk_cell HB2.out 3).trans rfl; have hfx_3 := blk_frozen HB2.out 3; have hcx_4 : w7.cell? ⟨xg, 4, none⟩ = some (.int .i64 st') := (blk_cell HB2.out 4).trans rfl; have hfx_4 := blk_frozen HB2.out 4; have hcx_5 : w7.cell? ⟨xg, 5, none⟩ = some (.int .u64 mk') := (blk_cell HB2.out 5).trans rfl; have hfx_5 := blk_frozen HB2.out 5; have hcy_0 : w7.cell? ⟨rg, 0, none⟩ = some (y0) := (blk_cell hrb 0).trans rfl; have hfy_0 := blk_frozen hrb 0; have hcy_1 : w7.cell? ⟨rg, 1, none⟩ = some (y1) := (blk_cell hrb 1).trans rfl; have hfy_1 := blk_frozen hrb 1; have hcy_2 : w7.cell? ⟨rg, 2, none⟩ = some (y2) := (blk_cell hrb 2).trans rfl; have hfy_2 := blk_frozen hrb 2; have hcy_3 : w7.cell? ⟨rg, 3, none⟩ = some (y3) := (blk_cell hrb 3).trans rfl; have hfy_3 := blk_frozen hrb 3; have hcy_4 : w7.cell? ⟨rg, 4, none⟩ = some (y4) := (blk_cell hrb 4).trans rfl; have hfy_4 := blk_frozen hrb 4; have hcy_5 : w7.cell? ⟨rg, 5, none⟩ = some (y5) := (blk_cell hrb 5).trans rfl; have hfy_5 := blk_frozen hrb 5; clear hA hT hcs hrb))
        generalize hW : World.setCell _ _ _ = w8
        have T8 : Turn (fun k => k = rg) w7 w8 := by rw [← hW]; exact Turn.set (S := fun k => k = rg) (g := rg) (Turn.set (S := fun k => k = rg) (g := rg) (Turn.set (S := fun k => k = rg) (g := rg) (Turn.set (S := fun k => k = rg) (g := rg) (Turn.set (S := fun k => k = rg) (g := rg) (Turn.set (S := fun k => k = rg) (g := rg) (Turn.refl (fun k => k = rg) _) rfl _) rfl _) rfl _) rfl _) rfl _) rfl _
        have B8 : w8.heap[rg]? = some (.cells #[.slice A6 d'.dur.length c6, .slice A7 P'.length c7, .bool d'.down, .bool d'.armed, .int .i64 st', .int .u64 mk'] 30 (0, 0)) := by rw [← hW]; refine blk_put (cs := #[.slice A6 d'.dur.length c6, .slice A7 P'.length c7, .bool d'.down, .bool d'.armed, .int .i64 st', y5]) ?_ 5 _ rfl; refine blk_put (cs := #[.slice A6 d'.dur.length c6, .slice A7 P'.length c7, .bool d'.down, .bool d'.armed, y4, y5]) ?_ 4 _ rfl; refine blk_put (cs := #[.slice A6 d'.dur.length c6, .slice A7 P'.length c7, .bool d'.down, y3, y4, y5]) ?_ 3 _ rfl; refine blk_put (cs := #[.slice A6 d'.dur.length c6, .slice A7 P'.length c7, y2, y3, y4, y5]) ?_ 2 _ rfl; refine blk_put (cs := #[.slice A6 d'.dur.length c6, y1, y2, y3, y4, y5]) ?_ 1 _ rfl; refine blk_put (cs := #[y0, y1, y2, y3, y4, y5]) ?_ 0 _ rfl; exact HRB.out
        clear hW
        have HM1 := Lib.hid (HX2.out.take T8 B8)
        clear hcx_0 hfx_0 hcy_0 hfy_0 hcx_1 hfx_1 hcy_1 hfy_1 hcx_2 hfx_2 hcy_2 hfy_2 hcx_3 hfx_3 hcy_3 hfy_3 hcx_4 hfx_4 hcy_4 hfy_4 hcx_5 hfx_5 hcy_5 hfy_5
        clear T8 B8 HX2 HB2 HRB HX HB HN HDO hcell4 hcells xx0 xx1 xx2 xx3 hx0 hx1 hx2 hx3
        go_wp2
        go_loopw [12] (fun a wi => ∃ n : Nat, n ≤ b + 2 ∧ a = .int .i64 ((n : Int) - 1) ∧ Hid (CSt w wi g gd gm rg d' P' st' mk' (.slice A6 d'.dur.length c6) (.slice A7 P'.length c7))) (fun a _ => (b + 1 - intOf a).toNat)
        case atStart => exact ⟨0, by omega, rfl, HM1⟩
        case round =>
          clear HM1
          obtain ⟨n, hn, rfl, HMi⟩ := hrel
          have hbl := HMi.out.rb
          have hcr_0 : wr.cell? ⟨rg, 0, none⟩ = some (.slice A6 d'.dur.length c6) := (blk_cell hbl 0).trans rfl
          have hfr_0 := blk_frozen hbl 0
          have hcr_1 : wr.cell? ⟨rg, 1, none⟩ = some (.slice A7 P'.length c7) := (blk_cell hbl 1).trans rfl
          have hfr_1 := blk_frozen hbl 1
          have hcr_2 : wr.cell? ⟨rg, 2, none⟩ = some (.bool d'.down) := (blk_cell hbl 2).trans rfl
          have hfr_2 := blk_frozen hbl 2
          have hcr_3 : wr.cell? ⟨rg, 3, none⟩ = some (.bool d'.armed) := (blk_cell hbl 3).trans rfl
          have hfr_3 := blk_frozen hbl 3
          have hcr_4 : wr.cell? ⟨rg, 4, none⟩ = some (.int .i64 st') := (blk_cell hbl 4).trans rfl
          have hfr_4 := blk_frozen hbl 4
          have hcr_5 : wr.cell? ⟨rg, 5, none⟩ = some (.int .u64 mk') := (blk_cell hbl 5).trans rfl
          have hfr_5 := blk_frozen hbl 5
          clear hbl
          by_cases hnb : n < b + 2
          · have q2 : (n : Int) - 1 ≤ (b : Int) := by omega
            have HRD := Lib.hid (HMi.out.read ((n : Int) - 1))
            have HRR := Lib.hid (HMi.out.refRead ((n : Int) - 1))
            generalize readD d' ((n : Int) - 1) = rd at *
            obtain ⟨s, f⟩ := rd
            simp only at HRD HRR
            go_wp2_with (first | (go_at_call 12; (with_reducible refine HRD.out.mono ?_); rintro e wz ⟨rfl, hw⟩; subst hw) | (go_at_call 19; (with_reducible refine HRR.out.mono ?_); rintro e w9 ⟨rfl, hM⟩; have HM2 := Lib.hid hM; clear hM))
            go_roundw
            case rel => exact ⟨n + 1, by omega, by rw [show ((n + 1 : Nat) : Int) - 1 = (n : Int) by omega]; try go_num, HM2⟩
            case measure => simp [intOf]; omega
          · have q2 : ¬ (n : Int) - 1 ≤ (b : Int) := by omega
            have HDN := Lib.hid (fun k => (HMi.out.drewN k).downAt)
            have HPN := Lib.hid (fun k => (HMi.out.drewN k).pendAt)
            have HBN := Lib.hid (fun k => (HMi.out.drewN k).blocksAt b HL2.out.1)
            go_wp2
            go_quiet (first | (go_at_call 15; exact Calls.quiet_of_same (HDN.out _)) | (go_at_call 14; exact Calls.quiet_of_same (HPN.out _)) | (go_at_call 13; exact Calls.quiet_of_same (HBN.out _)))
            go_wp2
            go_roundw
            case rel => exact ⟨i + 1, d', P', st', mk', _, _, by omega, by go_num, Lib.hid (HMi.out.drewN _), HL2⟩
            case measure => simp [intOf]; omega
    · go_wp2_with (first | (go_at_call 11; (with_reducible refine (awake_calls _).mono ?_); rintro e wz ⟨rfl, hbz⟩))
      go_ret
      exact ⟨rfl, below_step HM0.out.b hbz⟩
end Go.Proofs.Ytkgdppjlbjmjoaa.Dk
