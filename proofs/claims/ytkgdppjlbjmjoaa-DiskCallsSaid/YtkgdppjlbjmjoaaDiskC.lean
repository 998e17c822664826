/- The disk's methods: DiskC. -/
import Derived.Test.YtkgdppjlbjmjoaaDiskB
namespace Go.Proofs.Ytkgdppjlbjmjoaa.Dk
open Go.RowKit Go.Proofs.Ytkgdppjlbjmjoaa.PAll Go.Proofs.YtkgdppjlbjmjoaaW.PrintWords Go.Proofs.YtkgdppjlbjmjoaaW.PrintLast Go.Proofs.YtkgdppjlbjmjoaaW.PrintMore
set_option linter.unusedVariables false
set_option linter.unusedSimpArgs false
def settleK (keep : Nat → Bool) (pend : List Wr) : Nat → List ByteArray → List ByteArray
  | 0, d => d
  | k + 1, d => if keep k = true then (settleK keep pend k d).set (pend.getD k ⟨0, noText⟩).block.toNat (pend.getD k ⟨0, noText⟩).text else settleK keep pend k d
theorem settleK_len (keep : Nat → Bool) (pend : List Wr) (d : List ByteArray) : ∀ k, (settleK keep pend k d).length = d.length
  | 0 => rfl
  | k + 1 => by
    unfold settleK
    split
    · rw [List.length_set, settleK_len keep pend d k]
    · exact settleK_len keep pend d k
section
variable {g gd gm : Nat} {dur : List ByteArray} {pend : List Wr} {down armed : Bool} {steps mask : Int} {w : World}
theorem DK.drew {k : Nat} (h : DK w g gd gm k dur pend down armed steps mask) : DK w.drew g gd gm k dur pend down armed steps mask := ⟨h.c, h.d, h.m.kept rfl⟩
theorem Turn.drew {S : Nat → Prop} {a w : World} (h : Turn S a w) : Turn S a w.drew := ⟨h.os, h.tape, h.output, h.size, h.block⟩
theorem DK.del {k : Nat} (h : DK w g gd gm k dur pend down armed steps mask) (hk : k < pend.length) (hp : pend.length ≤ 1000000) (ty : TypeId) :
    ∃ w', (Builtin.delete_ #[57, 3] ty #[.map (some gm), .int .i64 (k : Int)]).run Try.prog w = .ok (.tuple #[]) w' ∧ DK w' g gd gm (k + 1) dur pend down armed steps mask ∧ Turn (fun b => b = gm) w w' := by
  obtain ⟨w', hrun, hm, ht⟩ := h.m.del hk hp ty
  have hT : Turn (fun b => b = gm) w w' := Turn.of_map ht rfl
  exact ⟨w', hrun, ⟨hT.blk h.c h.ne2, hT.blk h.d h.ne3, hm⟩, hT⟩
theorem settle_all (keep : Nat → Bool) (hp : pend.length ≤ 1000000) (hin : ∀ x ∈ pend, 0 ≤ x.block ∧ x.block < dur.length) (h : DK w g gd gm 0 dur pend down armed steps mask)
    (hk : ∀ (i : Nat) (W : World), i < pend.length → Turn (fun k => k = g ∨ k = gd ∨ k = gm) w W → Calls Try.prog 36 #[.int .i64 (i : Int)] W fun e W' => e = .returned (.bool (keep i)) ∧ W' = W) :
    Calls Try.prog 35 #[.pointer (some ⟨g, 0, none⟩), .func (.func 36) #[] #[]] w fun e w' => e = .returned (.tuple #[]) ∧ DK w' g gd gm 0 (settleK keep pend pend.length dur) [] down armed steps mask ∧ Turn (fun k => k = g ∨ k = gd ∨ k = gm) w w' := by
  have H := Lib.hid h
  have HK := Lib.hid hk
  have HP := Lib.hid hp
  have HIN := Lib.hid hin
  have hc1 : w.cell? ⟨g, 1, none⟩ = some (.map (some gm)) := (blk_cell h.c 1).trans rfl
  have hl := fun ty => h.m.len ty
  clear h hk hp hin
  go_enter Try.func35, Try.ntmps35
  go_wp2
  go_loopw [11] (fun a wr => ∃ k : Nat, k ≤ pend.length ∧ a = .int .i64 (k : Int) ∧ Hid (DK wr g gd gm k (settleK keep pend k dur) pend down armed steps mask) ∧ Hid (Turn (fun k => k = g ∨ k = gd ∨ k = gm) w wr)) (fun a _ => pend.length - (intOf a).toNat)
  case atStart => exact ⟨0, Nat.zero_le _, rfl, H, Lib.hid (Turn.refl _ _)⟩
  case round =>
    clear hc1 hl H
    obtain ⟨k, hkl, rfl, H, HT⟩ := hrel
    by_cases hlt : k < pend.length
    · have hk6 : k < 1000000 := by have := HP.out; omega
      have hlk := H.out.m.look k (pend.getD k ⟨0, noText⟩) (Nat.le_refl _) (by rw [List.getD_eq_getElem?_getD, List.getElem?_eq_getElem hlt]; rfl) HP.out
      have hx : settleK keep pend (k + 1) dur = if keep k = true then (settleK keep pend k dur).set (pend.getD k ⟨0, noText⟩).block.toNat (pend.getD k ⟨0, noText⟩).text else settleK keep pend k dur := rfl
      have hb := HIN.out (pend.getD k ⟨0, noText⟩) (by rw [List.getD_eq_getElem?_getD, List.getElem?_eq_getElem hlt]; exact List.getElem_mem hlt)
      have hc0 : wr.cell? ⟨g, 0, none⟩ = some (.slice (some ⟨gd, 0, none⟩) (settleK keep pend k dur).length (settleK keep pend k dur).length) := (blk_cell H.out.c 0).trans rfl
      have hc1 : wr.cell? ⟨g, 1, none⟩ = some (.map (some gm)) := (blk_cell H.out.c 1).trans rfl
      rw [settleK_len] at hc0
      generalize pend.getD k ⟨0, noText⟩ = x at hlk hx hb
      obtain ⟨xb0, xt⟩ := x
      obtain ⟨xb, hxb⟩ : ∃ m : Nat, xb0 = (m : Int) := ⟨xb0.toNat, by have := hb.1; simp only at this; omega⟩
      subst hxb
      have hbm : xb < dur.length := by have := hb.2; simp only at this; omega
      have hbi : (xb : Int) < (dur.length : Int) := by omega
      have hbz : (0 : Int) ≤ (xb : Int) := by omega
      clear hb
      have hlk2 : (Instr.lookup 57 (.map (some gm)) (.int .i64 (k : Int)) false).run Try.prog wr = .ok (.agg #[.int .i64 (xb : Int), .string xt]) wr := hlk
      clear hlk
      have HX := Lib.hid hx
      clear hx
      have hb5 := below_alloc (Below.refl wr.heap.size wr) (.cells #[.int .i64 (xb : Int), .string xt] 61)
      have HT5 : Hid (Turn (fun k => k = g ∨ k = gd ∨ k = gm) w (wr.alloc (.cells #[.int .i64 (xb : Int), .string xt] 61))) := Lib.hid (HT.out.trans (Turn.of_below hb5))
      have H5 := Lib.hid (H.out.kept (Turn.of_below (S := fun _ => False) hb5) (fun h => h) (fun h => h) (fun h => h))
      have hn5 := blk_new wr (.cells #[.int .i64 (xb : Int), .string xt] 61)
      have hcall := HK.out k _ hlt HT5.out
      have hgl := blk_lt H.out.c
      have hdl := blk_lt H.out.d
      cases hkk : keep k with
      | true =>
        have HX2 : Hid (settleK keep pend (k + 1) dur = (settleK keep pend k dur).set xb xt) := Lib.hid (by rw [HX.out, if_pos hkk]; rfl)
        rw [hkk] at hcall
        have HCALL := Lib.hid hcall
        have HN5 := Lib.hid hn5
        have HKK := Lib.hid hkk
        clear hcall HX hn5 hkk
        go_wp2_with (first | (go_at_call 36; refine HCALL.out.mono ?_; rintro e w1 ⟨rfl, hw1⟩; subst hw1))
        clear HCALL hc0 hc1 hlk2
        generalize wr.alloc (.cells #[.int .i64 (xb : Int), .string xt] 61) = w5 at *
        have hn5 := HN5.out
        have e0 : w5.cell? ⟨g, 0, none⟩ = some (.slice (some ⟨gd, 0, none⟩) dur.length dur.length) := by
          have := (blk_cell H5.out.c 0).trans rfl
          rwa [settleK_len] at this
        have e1 : w5.cell? ⟨wr.heap.size, 0, none⟩ = some (.int .i64 (xb : Int)) := (blk_cell hn5 0).trans rfl
        have e2 : w5.cell? ⟨wr.heap.size, 1, none⟩ = some (.string xt) := (blk_cell hn5 1).trans rfl
        have e3 : w5.cell? ⟨gd, xb, none⟩ = some (.string ((settleK keep pend k dur).getD xb noText)) := by
          rw [blk_cell H5.out.d xb]
          have : xb < (settleK keep pend k dur).length := by rw [settleK_len]; exact hbm
          simp [List.getElem?_eq_getElem this]
        have e4 := blk_frozen H5.out.d xb
        have hq1 : g ≠ gd := H5.out.ne1
        have hq2 : wr.heap.size ≠ gd := by omega
        go_region_held3 (fun w' => w'.cell? ⟨g, 0, none⟩ = some (.slice (some ⟨gd, 0, none⟩) dur.length dur.length) ∧ w'.cell? ⟨wr.heap.size, 0, none⟩ = some (.int .i64 (xb : Int)) ∧ w'.cell? ⟨wr.heap.size, 1, none⟩ = some (.string xt)) (first | exact ⟨e0, e1, e2⟩ | exact ⟨(cell_far (p := ⟨gd, _, none⟩) hq1 _).trans e0, (cell_far (p := ⟨gd, _, none⟩) hq2 _).trans e1, (cell_far (p := ⟨gd, _, none⟩) hq2 _).trans e2⟩) (fail)
        have h7 : DK (w5.setCell ⟨gd, xb, none⟩ (.string xt)).drew g gd gm k ((settleK keep pend k dur).set xb xt) pend down armed steps mask := (H5.out.setDur xb xt).drew
        have ht7 : Turn (fun k => k = g ∨ k = gd ∨ k = gm) w (w5.setCell ⟨gd, xb, none⟩ (.string xt)).drew := (Turn.set HT5.out (Or.inr (Or.inl rfl)) _).drew
        have H7 := Lib.hid h7
        have HT7 := Lib.hid ht7
        clear h7 ht7 e0 e1 e2 e3 e4 hn5 HN5 H5 HT5
        generalize (w5.setCell ⟨gd, xb, none⟩ (.string xt)).drew = w7 at *
        obtain ⟨w6, hrun, h6, ht6⟩ := H7.out.del hlt HP.out 0
        have H6 := Lib.hid h6
        have HT6 := Lib.hid (HT7.out.trans (ht6.mono (fun b _ e => Or.inr (Or.inr e))))
        have hc1 : w7.cell? ⟨g, 1, none⟩ = some (.map (some gm)) := (blk_cell H7.out.c 1).trans rfl
        clear h6 ht6
        go_wp2
        go_roundw
        case rel => exact ⟨k + 1, by omega, by go_num, Lib.hid (by rw [HX2.out]; exact H6.out), HT6⟩
        case measure => simp [intOf]; omega
      | false =>
        have HX2 : Hid (settleK keep pend (k + 1) dur = settleK keep pend k dur) := Lib.hid (by rw [HX.out, if_neg (by rw [hkk]; decide)])
        rw [hkk] at hcall
        have HCALL := Lib.hid hcall
        have HKK := Lib.hid hkk
        clear hcall HX hkk
        obtain ⟨w6, hrun, h6, ht6⟩ := H5.out.del hlt HP.out 0
        have H6 := Lib.hid h6
        have HT6 := Lib.hid (HT5.out.trans (ht6.mono (fun b _ e => Or.inr (Or.inr e))))
        clear h6 ht6
        go_wp2_with (first | (go_at_call 36; refine HCALL.out.mono ?_; rintro e w1 ⟨rfl, hw1⟩; subst hw1))
        go_roundw
        case rel => exact ⟨k + 1, by omega, by go_num, Lib.hid (by rw [HX2.out]; exact H6.out), HT6⟩
        case measure => simp [intOf]; omega
    · have hkl2 : k = pend.length := by omega
      have HF := H.out
      rw [hkl2] at HF
      have HF2 := Lib.hid (DK.mk HF.c HF.d HF.m.clear)
      clear HF hkl2
      go_wp2
      go_end0
      exact ⟨rfl, HF2.out, HT.out⟩
theorem settle_mask (mb : Nat) (keep : Nat → Bool) (hp : pend.length ≤ 1000000) (hin : ∀ x ∈ pend, 0 ≤ x.block ∧ x.block < dur.length) (h : DK w g gd gm 0 dur pend down armed steps mask)
    (hk : ∀ (i : Nat) (W : World), i < pend.length → Turn (fun k => k = g ∨ k = gd ∨ k = gm) w W → Calls Try.prog 41 #[.int .i64 (i : Int), .pointer (some ⟨mb, 0, none⟩)] W fun e W' => e = .returned (.bool (keep i)) ∧ W' = W) :
    Calls Try.prog 35 #[.pointer (some ⟨g, 0, none⟩), .func (.func 41) #[] #[.pointer (some ⟨mb, 0, none⟩)]] w fun e w' => e = .returned (.tuple #[]) ∧ DK w' g gd gm 0 (settleK keep pend pend.length dur) [] down armed steps mask ∧ Turn (fun k => k = g ∨ k = gd ∨ k = gm) w w' := by
  have H := Lib.hid h
  have HK := Lib.hid hk
  have HP := Lib.hid hp
  have HIN := Lib.hid hin
  have hc1 : w.cell? ⟨g, 1, none⟩ = some (.map (some gm)) := (blk_cell h.c 1).trans rfl
  have hl := fun ty => h.m.len ty
  clear h hk hp hin
  go_enter Try.func35, Try.ntmps35
  go_wp2
  go_loopw [11] (fun a wr => ∃ k : Nat, k ≤ pend.length ∧ a = .int .i64 (k : Int) ∧ Hid (DK wr g gd gm k (settleK keep pend k dur) pend down armed steps mask) ∧ Hid (Turn (fun k => k = g ∨ k = gd ∨ k = gm) w wr)) (fun a _ => pend.length - (intOf a).toNat)
  case atStart => exact ⟨0, Nat.zero_le _, rfl, H, Lib.hid (Turn.refl _ _)⟩
  case round =>
    clear hc1 hl H
    obtain ⟨k, hkl, rfl, H, HT⟩ := hrel
    by_cases hlt : k < pend.length
    · have hk6 : k < 1000000 := by have := HP.out; omega
      have hlk := H.out.m.look k (pend.getD k ⟨0, noText⟩) (Nat.le_refl _) (by rw [List.getD_eq_getElem?_getD, List.getElem?_eq_getElem hlt]; rfl) HP.out
      have hx : settleK keep pend (k + 1) dur = if keep k = true then (settleK keep pend k dur).set (pend.getD k ⟨0, noText⟩).block.toNat (pend.getD k ⟨0, noText⟩).text else settleK keep pend k dur := rfl
      have hb := HIN.out (pend.getD k ⟨0, noText⟩) (by rw [List.getD_eq_getElem?_getD, List.getElem?_eq_getElem hlt]; exact List.getElem_mem hlt)
      have hc0 : wr.cell? ⟨g, 0, none⟩ = some (.slice (some ⟨gd, 0, none⟩) (settleK keep pend k dur).length (settleK keep pend k dur).length) := (blk_cell H.out.c 0).trans rfl
      have hc1 : wr.cell? ⟨g, 1, none⟩ = some (.map (some gm)) := (blk_cell H.out.c 1).trans rfl
      rw [settleK_len] at hc0
      generalize pend.getD k ⟨0, noText⟩ = x at hlk hx hb
      obtain ⟨xb0, xt⟩ := x
      obtain ⟨xb, hxb⟩ : ∃ m : Nat, xb0 = (m : Int) := ⟨xb0.toNat, by have := hb.1; simp only at this; omega⟩
      subst hxb
      have hbm : xb < dur.length := by have := hb.2; simp only at this; omega
      have hbi : (xb : Int) < (dur.length : Int) := by omega
      have hbz : (0 : Int) ≤ (xb : Int) := by omega
      clear hb
      have hlk2 : (Instr.lookup 57 (.map (some gm)) (.int .i64 (k : Int)) false).run Try.prog wr = .ok (.agg #[.int .i64 (xb : Int), .string xt]) wr := hlk
      clear hlk
      have HX := Lib.hid hx
      clear hx
      have hb5 := below_alloc (Below.refl wr.heap.size wr) (.cells #[.int .i64 (xb : Int), .string xt] 61)
      have HT5 : Hid (Turn (fun k => k = g ∨ k = gd ∨ k = gm) w (wr.alloc (.cells #[.int .i64 (xb : Int), .string xt] 61))) := Lib.hid (HT.out.trans (Turn.of_below hb5))
      have H5 := Lib.hid (H.out.kept (Turn.of_below (S := fun _ => False) hb5) (fun h => h) (fun h => h) (fun h => h))
      have hn5 := blk_new wr (.cells #[.int .i64 (xb : Int), .string xt] 61)
      have hcall := HK.out k _ hlt HT5.out
      have hgl := blk_lt H.out.c
      have hdl := blk_lt H.out.d
      cases hkk : keep k with
      | true =>
        have HX2 : Hid (settleK keep pend (k + 1) dur = (settleK keep pend k dur).set xb xt) := Lib.hid (by rw [HX.out, if_pos hkk]; rfl)
        rw [hkk] at hcall
        have HCALL := Lib.hid hcall
        have HN5 := Lib.hid hn5
        have HKK := Lib.hid hkk
        clear hcall HX hn5 hkk
        go_wp2_with (first | (go_at_call 41; refine HCALL.out.mono ?_; rintro e w1 ⟨rfl, hw1⟩; subst hw1))
        clear HCALL hc0 hc1 hlk2
        generalize wr.alloc (.cells #[.int .i64 (xb : Int), .string xt] 61) = w5 at *
        have hn5 := HN5.out
        have e0 : w5.cell? ⟨g, 0, none⟩ = some (.slice (some ⟨gd, 0, none⟩) dur.length dur.length) := by
          have := (blk_cell H5.out.c 0).trans rfl
          rwa [settleK_len] at this
        have e1 : w5.cell? ⟨wr.heap.size, 0, none⟩ = some (.int .i64 (xb : Int)) := (blk_cell hn5 0).trans rfl
        have e2 : w5.cell? ⟨wr.heap.size, 1, none⟩ = some (.string xt) := (blk_cell hn5 1).trans rfl
        have e3 : w5.cell? ⟨gd, xb, none⟩ = some (.string ((settleK keep pend k dur).getD xb noText)) := by
          rw [blk_cell H5.out.d xb]
          have : xb < (settleK keep pend k dur).length := by rw [settleK_len]; exact hbm
          simp [List.getElem?_eq_getElem this]
        have e4 := blk_frozen H5.out.d xb
        have hq1 : g ≠ gd := H5.out.ne1
        have hq2 : wr.heap.size ≠ gd := by omega
        go_region_held3 (fun w' => w'.cell? ⟨g, 0, none⟩ = some (.slice (some ⟨gd, 0, none⟩) dur.length dur.length) ∧ w'.cell? ⟨wr.heap.size, 0, none⟩ = some (.int .i64 (xb : Int)) ∧ w'.cell? ⟨wr.heap.size, 1, none⟩ = some (.string xt)) (first | exact ⟨e0, e1, e2⟩ | exact ⟨(cell_far (p := ⟨gd, _, none⟩) hq1 _).trans e0, (cell_far (p := ⟨gd, _, none⟩) hq2 _).trans e1, (cell_far (p := ⟨gd, _, none⟩) hq2 _).trans e2⟩) (fail)
        have h7 : DK (w5.setCell ⟨gd, xb, none⟩ (.string xt)).drew g gd gm k ((settleK keep pend k dur).set xb xt) pend down armed steps mask := (H5.out.setDur xb xt).drew
        have ht7 : Turn (fun k => k = g ∨ k = gd ∨ k = gm) w (w5.setCell ⟨gd, xb, none⟩ (.string xt)).drew := (Turn.set HT5.out (Or.inr (Or.inl rfl)) _).drew
        have H7 := Lib.hid h7
        have HT7 := Lib.hid ht7
        clear h7 ht7 e0 e1 e2 e3 e4 hn5 HN5 H5 HT5
        generalize (w5.setCell ⟨gd, xb, none⟩ (.string xt)).drew = w7 at *
        obtain ⟨w6, hrun, h6, ht6⟩ := H7.out.del hlt HP.out 0
        have H6 := Lib.hid h6
        have HT6 := Lib.hid (HT7.out.trans (ht6.mono (fun b _ e => Or.inr (Or.inr e))))
        have hc1 : w7.cell? ⟨g, 1, none⟩ = some (.map (some gm)) := (blk_cell H7.out.c 1).trans rfl
        clear h6 ht6
        go_wp2
        go_roundw
        case rel => exact ⟨k + 1, by omega, by go_num, Lib.hid (by rw [HX2.out]; exact H6.out), HT6⟩
        case measure => simp [intOf]; omega
      | false =>
        have HX2 : Hid (settleK keep pend (k + 1) dur = settleK keep pend k dur) := Lib.hid (by rw [HX.out, if_neg (by rw [hkk]; decide)])
        rw [hkk] at hcall
        have HCALL := Lib.hid hcall
        have HKK := Lib.hid hkk
        clear hcall HX hkk
        obtain ⟨w6, hrun, h6, ht6⟩ := H5.out.del hlt HP.out 0
        have H6 := Lib.hid h6
        have HT6 := Lib.hid (HT5.out.trans (ht6.mono (fun b _ e => Or.inr (Or.inr e))))
        clear h6 ht6
        go_wp2_with (first | (go_at_call 41; refine HCALL.out.mono ?_; rintro e w1 ⟨rfl, hw1⟩; subst hw1))
        go_roundw
        case rel => exact ⟨k + 1, by omega, by go_num, Lib.hid (by rw [HX2.out]; exact H6.out), HT6⟩
        case measure => simp [intOf]; omega
    · have hkl2 : k = pend.length := by omega
      have HF := H.out
      rw [hkl2] at HF
      have HF2 := Lib.hid (DK.mk HF.c HF.d HF.m.clear)
      clear HF hkl2
      go_wp2
      go_end0
      exact ⟨rfl, HF2.out, HT.out⟩
end
end Go.Proofs.Ytkgdppjlbjmjoaa.Dk
