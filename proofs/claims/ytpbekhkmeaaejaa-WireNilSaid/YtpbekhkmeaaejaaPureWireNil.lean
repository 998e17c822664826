/- A nil reader returns zero values, and ErrNil as its error: the plain statement. -/
import Derived.Test.YtpbekhkmeaaejaaPNilx4
namespace Go.Proofs.Ytpbekhkmeaaejaa.Pure
open Go.RowKit Go.Proofs.Ytpbekhkmeaaejaa.PNil Go.Proofs.YtpbekhkmeaaejaaW.PrintWords Go.Proofs.YtpbekhkmeaaejaaW.PrintLast

theorem nil_read (k : Nat) (kind lo hi most : Int) : sawmilllaw05_read.f k kind lo hi most = some (kind, 0, 0, ⟨#[]⟩, []) := by
  unfold sawmilllaw05_read.f wire_Reader_Uint.f wire_Reader_Int.f wire_Reader_Text.f wire_Reader_Ints.f wire_Reader_ready.f
  simp only [Option.bind_some, Bool.false_eq_true, if_false]
  by_cases k0 : kind = 0
  · rw [if_pos k0]
  · rw [if_neg k0]
    by_cases k1 : kind = 1
    · rw [if_pos k1]
    · rw [if_neg k1]
      by_cases k2 : kind = 2
      · rw [if_pos k2]
      · rw [if_neg k2]
theorem nil_zero (kind : Int) : sawmilllaw05_zero.f kind 0 0 ⟨#[]⟩ [] = some true := by
  unfold sawmilllaw05_zero.f
  have : (⟨#[]⟩ : ByteArray).toList = [] := by decide +kernel
  simp [this]
theorem nil_end : wire_Reader_End.f = some 1 := by
  unfold wire_Reader_End.f wire_Reader_Err.f
  rfl
theorem WireNil : ∀ (x0 : S32), ((Lit.int .u8 x0.f0).wf = true ∧ (Lit.int .i64 x0.f1).wf = true ∧ (Lit.int .i64 x0.f2).wf = true ∧ (Lit.int .i64 x0.f3).wf = true) → ∃ k, sawmilllaw05_WireNil.f k x0.f0 x0.f1 x0.f2 x0.f3 = some true := by
  intro x0 _
  refine ⟨0, ?_⟩
  unfold sawmilllaw05_WireNil.f
  simp only [nil_read, nil_zero, nil_end, wire_Reader_Left.f, wire_Reader_Err.f, sawmilllaw05_awake.f, Option.bind_some, if_true]
end Go.Proofs.Ytpbekhkmeaaejaa.Pure
