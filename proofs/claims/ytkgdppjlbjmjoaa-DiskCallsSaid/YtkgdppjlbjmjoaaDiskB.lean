/- The disk's methods: DiskB. -/
import Derived.Test.YtkgdppjlbjmjoaaDiskA
namespace Go.Proofs.Ytkgdppjlbjmjoaa.Dk
open Go.RowKit Go.Proofs.Ytkgdppjlbjmjoaa.PAll Go.Proofs.YtkgdppjlbjmjoaaW.PrintWords Go.Proofs.YtkgdppjlbjmjoaaW.PrintLast Go.Proofs.YtkgdppjlbjmjoaaW.PrintMore
set_option linter.unusedVariables false
set_option linter.unusedSimpArgs false
theorem fld61_0 (a b : Value) (w : World) : (Instr.field 61 (.agg #[a, b]) 0).run Try.prog w = .ok a w := by kernel_rfl
theorem fld61_1 (a b : Value) (w : World) : (Instr.field 61 (.agg #[a, b]) 1).run Try.prog w = .ok b w := by kernel_rfl
attribute [local go_sem ↓] fld61_0 fld61_1
def noText : ByteArray := ⟨#[]⟩
/-- The last one of the first m writes that is to the block n. -/
def seek (pend : List Wr) (n : Int) : Nat → Option ByteArray
  | 0 => none
  | m + 1 => if (pend.getD m ⟨0, noText⟩).block = n then some (pend.getD m ⟨0, noText⟩).text else seek pend n m
def readT (dur : List ByteArray) (pend : List Wr) (n : Int) : ByteArray := (seek pend n pend.length).getD (dur.getD n.toNat noText)
section
variable {g gd gm : Nat} {dur : List ByteArray} {pend : List Wr} {down armed : Bool} {steps mask : Int} {w : World}
theorem Read_nil (n : Int) (w : World) : Calls Try.prog 12 #[.pointer none, .int .i64 n] w fun e w' => e = .returned (.tuple #[.string noText, .int .i64 1]) ∧ w' = w := by
  go_enter Try.func12, Try.ntmps12
  go_wp2_with (first | (go_at_call 28; refine (state_nil _).mono ?_; rintro e w1 ⟨rfl, rfl⟩))
  go_ret2
  exact ⟨rfl, rfl⟩
theorem Read_down (n : Int) (h : DK w g gd gm 0 dur pend true armed steps mask) : Calls Try.prog 12 #[.pointer (some ⟨g, 0, none⟩), .int .i64 n] w fun e w' => e = .returned (.tuple #[.string noText, .int .i64 17]) ∧ w' = w := by
  have H := Lib.hid h
  clear h
  go_enter Try.func12, Try.ntmps12
  go_wp2_with (first | (go_at_call 28; refine (state_calls H.out).mono ?_; rintro e w1 ⟨rfl, rfl⟩))
  go_ret2
  exact ⟨rfl, rfl⟩
theorem Read_out (n : Int) (hn : n < 0 ∨ n ≥ (dur.length : Int)) (h : DK w g gd gm 0 dur pend false armed steps mask) : Calls Try.prog 12 #[.pointer (some ⟨g, 0, none⟩), .int .i64 n] w fun e w' => e = .returned (.tuple #[.string noText, .int .i64 9]) ∧ w' = w := by
  have H := Lib.hid h
  have hc : w.cell? ⟨g, 0, none⟩ = some (.slice (some ⟨gd, 0, none⟩) dur.length dur.length) := (blk_cell h.c 0).trans rfl
  clear h
  rcases hn with hn | hn
  · go_enter Try.func12, Try.ntmps12
    go_wp2_with (first | (go_at_call 28; refine (state_calls H.out).mono ?_; rintro e w1 ⟨rfl, rfl⟩))
    go_ret2
    exact ⟨rfl, rfl⟩
  · have hn2 : ¬ n < 0 := by omega
    go_enter Try.func12, Try.ntmps12
    go_wp2_with (first | (go_at_call 28; refine (state_calls H.out).mono ?_; rintro e w1 ⟨rfl, rfl⟩))
    go_ret2
    exact ⟨rfl, rfl⟩
theorem Read_calls (n : Nat) (rt : ByteArray) (hrt : rt = readT dur pend n) (hn : n < dur.length) (hp : pend.length ≤ 1000000) (h : DK w g gd gm 0 dur pend false armed steps mask) : Calls Try.prog 12 #[.pointer (some ⟨g, 0, none⟩), .int .i64 (n : Int)] w fun e w' => e = .returned (.tuple #[.string rt, .int .i64 0]) ∧ w' = w := by
  have H := Lib.hid h
  have hc : w.cell? ⟨g, 0, none⟩ = some (.slice (some ⟨gd, 0, none⟩) dur.length dur.length) := (blk_cell h.c 0).trans rfl
  have hc1 : w.cell? ⟨g, 1, none⟩ = some (.map (some gm)) := (blk_cell h.c 1).trans rfl
  have hl := fun ty => h.m.len ty
  obtain ⟨tx, htx⟩ : ∃ t, t = dur.getD n noText := ⟨_, rfl⟩
  have hcd : w.cell? ⟨gd, n, none⟩ = some (.string tx) := by
    rw [htx, blk_cell h.d n]
    simp [List.getElem?_eq_getElem hn]
  have HTX := Lib.hid htx
  have HRT := Lib.hid hrt
  clear h htx hrt
  go_enter Try.func12, Try.ntmps12
  go_wp2_with (first | (go_at_call 28; refine (state_calls H.out).mono ?_; rintro e w1 ⟨rfl, rfl⟩))
  go_loopw [7] (fun a wr => ∃ j : Nat, j ≤ pend.length ∧ a = .int .i64 ((j : Int) - 1) ∧ wr = w1 ∧ Hid (seek pend n pend.length = seek pend n j)) (fun a _ => (intOf a + 1).toNat)
  case atStart => exact ⟨pend.length, Nat.le_refl _, by first | rfl | (simp; done) | (simp; omega), rfl, Lib.hid rfl⟩
  case round =>
    obtain ⟨j, hj, rfl, rfl, HS⟩ := hrel
    by_cases h0 : j = 0
    · subst h0
      have hs0 : seek pend n pend.length = none := HS.out
      have HR : rt = tx := by rw [HRT.out, HTX.out]; unfold readT; rw [hs0]; simp
      clear hs0
      subst HR
      go_wp2
      go_ret2
      exact ⟨rfl, rfl⟩
    · obtain ⟨i, rfl⟩ : ∃ i, j = i + 1 := ⟨j - 1, by omega⟩
      have e1 : ((i + 1 : Nat) : Int) - 1 = (i : Int) := by omega
      rw [e1]
      have hlk := H.out.m.look i (pend.getD i ⟨0, noText⟩) (Nat.zero_le _) (by rw [List.getD_eq_getElem?_getD, List.getElem?_eq_getElem (by omega)]; rfl) hp
      have hx : seek pend n (i + 1) = if (pend.getD i ⟨0, noText⟩).block = n then some (pend.getD i ⟨0, noText⟩).text else seek pend n i := rfl
      generalize pend.getD i ⟨0, noText⟩ = x at hlk hx
      obtain ⟨xb, xt⟩ := x
      have hlk2 : (Instr.lookup 57 (.map (some gm)) (.int .i64 (i : Int)) false).run Try.prog wr = .ok (.agg #[.int .i64 xb, .string xt]) wr := hlk
      clear hlk
      have HX := Lib.hid hx
      clear hx
      by_cases hb : xb = (n : Int)
      · have HR : rt = xt := by rw [HRT.out]; unfold readT; rw [HS.out, HX.out, if_pos hb]; rfl
        subst HR
        subst hb
        go_wp2
        go_ret2
        exact ⟨rfl, rfl⟩
      · go_wp2
        go_roundw
        case rel => exact ⟨i, by omega, rfl, trivial, Lib.hid (by rw [HS.out, HX.out, if_neg hb])⟩
        case measure => simp [intOf]
end
end Go.Proofs.Ytkgdppjlbjmjoaa.Dk
