/- Ranges out of what a row knows of its numbers. -/
import Derived.Test.YtpbekhkmeaaejaaPAllx0
import Derived.Test.YtpbekhkmeaaejaaPAllx5
import Derived.Test.YtpbekhkmeaaejaaPAllx7
import Derived.Test.YtpbekhkmeaaejaaFunsC
namespace Go.Proofs.Ytpbekhkmeaaejaa.Model
open Go.RowKit Go.Proofs.Ytpbekhkmeaaejaa.PAll Go.Proofs.YtpbekhkmeaaejaaW.PrintWords Go.Proofs.YtpbekhkmeaaejaaW.PrintLast
theorem wf_i64 {n : Int} (h : (Lit.int .i64 n).wf = true) : I64 n := by
  simp [Lit.wf, IntKind.min, IntKind.max, IntKind.signed, IntKind.bits] at h
  unfold I64
  omega
theorem wf_u64 {n : Int} (h : (Lit.int .u64 n).wf = true) : ∃ m : Nat, n = m ∧ m < 2 ^ 64 := by
  simp [Lit.wf, IntKind.min, IntKind.max, IntKind.signed, IntKind.bits] at h
  exact ⟨n.toNat, by omega, by rw [two64]; omega⟩
theorem wf_u8 {n : Int} (h : (Lit.int .u8 n).wf = true) : 0 ≤ n ∧ n ≤ 255 := by
  simp [Lit.wf, IntKind.min, IntKind.max, IntKind.signed, IntKind.bits] at h
  omega
theorem awake_ev : sawmilllaw05_awake.f = some true := rfl

theorem encIs_ge : ∀ (l : List Int), l.length ≤ (encIs l).length
  | [] => by simp
  | x :: l => by
    have h1 := encN_pos (zz x)
    have h2 := encIs_ge l
    show l.length + 1 ≤ (encI x ++ encIs l).length
    simp only [List.length_append, encI]
    omega
theorem mRead_len {r : List UInt8} {kind lo hi most : Int} {v : Val} {sz : Nat} (h : mRead r kind lo hi most = .ok v sz) : v.l.length ≤ r.length := by
  unfold mRead at h
  by_cases k0 : kind = 0
  · rw [if_pos k0] at h
    cases hu : mU r with
    | err e => rw [hu] at h; cases h
    | ok n s => rw [hu] at h; injection h with h1 _; subst h1; simp
  · rw [if_neg k0] at h
    by_cases k1 : kind = 1
    · rw [if_pos k1] at h
      cases hu : mI r lo hi with
      | err e => rw [hu] at h; cases h
      | ok n s => rw [hu] at h; injection h with h1 _; subst h1; simp
    · rw [if_neg k1] at h
      by_cases k2 : kind = 2
      · rw [if_pos k2] at h
        cases hu : mT r most with
        | err e => rw [hu] at h; cases h
        | ok n s => rw [hu] at h; injection h with h1 _; subst h1; simp
      · rw [if_neg k2] at h
        cases hu : mL r most lo hi with
        | err e => rw [hu] at h; cases h
        | ok n s =>
          rw [hu] at h
          injection h with h1 h2
          subst h1
          obtain ⟨a, b, c, d⟩ := mL_ok hu
          have e1 := encIs_ge n
          have e2 : (r.take s).length = (encL n).length := by rw [c]
          simp only [List.length_take, encL, List.length_append] at e2
          simp only
          omega
theorem left_f (s : List UInt8) (hs : s.length ≤ 8796093022208) (a : Nat) (ha : a ≤ s.length) (e : Int) : wire_Reader_Left.f (str s) (a : Int) e = some (((s.length - a : Nat) : Int), str s, (a : Int), e) := by
  unfold wire_Reader_Left.f
  rw [str_size, w64 (by omega) (by omega)]
  congr 2
  omega
theorem rd32 (l : List S32) (i : Nat) (hi : i < l.length) : rd_T32 l (i : Int) ∈ l := by
  unfold rd_T32
  rw [Int.toNat_natCast, List.getD_eq_getElem?_getD, List.getElem?_eq_getElem hi]
  exact List.getElem_mem hi
theorem rd45 (l : List S45) (i : Nat) (hi : i < l.length) : rd_T45 l (i : Int) = l[i] := by
  unfold rd_T45
  rw [Int.toNat_natCast, List.getD_eq_getElem?_getD, List.getElem?_eq_getElem hi]
  rfl
/-- 'End' of a reader. -/
theorem end_f (s : List UInt8) (hs : s.length ≤ 8796093022208) (a : Nat) (ha : a ≤ s.length) (e : Int) : wire_Reader_End.f (str s) (a : Int) e = some (if e = 0 then (if a < s.length then 4 else 0) else e, str s, (a : Int), e) := by
  unfold wire_Reader_End.f wire_Reader_Err.f
  simp only [Option.bind_some, left_f s hs a ha e]
  by_cases h : e = 0
  · simp only [if_pos h]
    by_cases h2 : a < s.length
    · rw [if_neg (by omega), if_pos h2]
    · rw [if_pos (by omega), if_neg h2, h]
  · simp only [if_neg h]
/-- What is known of a value that was read. -/
theorem mRead_fits {r : List UInt8} {kind lo hi most : Int} {v : Val} {sz : Nat} (h : mRead r kind lo hi most = .ok v sz) : (0 ≤ v.n ∧ v.n.toNat < 2 ^ 64) ∧ I64 v.i ∧ v.t.length ≤ r.length ∧ v.l.length ≤ r.length ∧ ∀ x ∈ v.l, I64 x := by
  have hlen := mRead_len h
  have hz : I64 0 := ⟨by decide, by decide⟩
  unfold mRead at h
  by_cases k0 : kind = 0
  · rw [if_pos k0] at h
    cases hu : mU r with
    | err e => rw [hu] at h; cases h
    | ok n s =>
      rw [hu] at h; injection h with h1 _; subst h1
      exact ⟨⟨by simp, by simpa using (mU_sz hu).2.2.2⟩, hz, by simp, by simp, by simp⟩
  · rw [if_neg k0] at h
    by_cases k1 : kind = 1
    · rw [if_pos k1] at h
      cases hu : mI r lo hi with
      | err e => rw [hu] at h; cases h
      | ok n s =>
        rw [hu] at h; injection h with h1 _; subst h1
        exact ⟨⟨by simp, by simp⟩, (mI_ok hu).2.2.2.1, by simp, by simp, by simp⟩
    · rw [if_neg k1] at h
      by_cases k2 : kind = 2
      · rw [if_pos k2] at h
        cases hu : mT r most with
        | err e => rw [hu] at h; cases h
        | ok n s =>
          rw [hu] at h; injection h with h1 _; subst h1
          obtain ⟨a, b, c, d⟩ := mT_ok hu
          have e2 : (r.take s).length = (encT n).length := by rw [c]
          simp only [List.length_take, encT, List.length_append] at e2
          exact ⟨⟨by simp, by simp⟩, hz, by simp only; omega, by simp, by simp⟩
      · rw [if_neg k2] at h
        cases hu : mL r most lo hi with
        | err e => rw [hu] at h; cases h
        | ok n s =>
          rw [hu] at h; injection h with h1 _; subst h1
          exact ⟨⟨by simp, by simp⟩, hz, by simp, hlen, fun x hx => ((mL_ok hu).2.2.2.2 x hx).1⟩
theorem mRead_err {r : List UInt8} {kind lo hi most e : Int} (h : mRead r kind lo hi most = .err e) : ¬ e = 0 := by
  unfold mRead at h
  by_cases k0 : kind = 0
  · rw [if_pos k0] at h
    cases hu : mU r with
    | err e' => rw [hu] at h; injection h with h; subst h; rcases mU_err hu with h | h <;> omega
    | ok n s => rw [hu] at h; cases h
  · rw [if_neg k0] at h
    by_cases k1 : kind = 1
    · rw [if_pos k1] at h
      cases hu : mI r lo hi with
      | err e' => rw [hu] at h; injection h with h; subst h; rcases mI_err hu with h | h | h <;> omega
      | ok n s => rw [hu] at h; cases h
    · rw [if_neg k1] at h
      by_cases k2 : kind = 2
      · rw [if_pos k2] at h
        unfold mT at h
        cases hu : mU r with
        | err e' => rw [hu] at h; injection h with h; subst h; rcases mU_err hu with h | h <;> omega
        | ok n s =>
          rw [hu] at h
          simp only at h
          by_cases c1 : most < 0 ∨ most < (n : Int)
          · rw [if_pos c1] at h; injection h with h; omega
          · rw [if_neg c1] at h
            by_cases c2 : r.length - s < n
            · rw [if_pos c2] at h; injection h with h; omega
            · rw [if_neg c2] at h; cases h
      · rw [if_neg k2] at h
        unfold mL at h
        cases hu : mU r with
        | err e' => rw [hu] at h; injection h with h; subst h; rcases mU_err hu with h | h <;> omega
        | ok n s =>
          rw [hu] at h
          simp only at h
          by_cases c1 : most < 0 ∨ most < (n : Int)
          · rw [if_pos c1] at h; injection h with h; omega
          · rw [if_neg c1] at h
            cases hv : mLs lo hi n (r.drop s) with
            | err e' => rw [hv] at h; injection h with h; subst h; rcases mLs_err lo hi n _ _ hv with h | h | h <;> omega
            | ok l' s' => rw [hv] at h; cases h
end Go.Proofs.Ytpbekhkmeaaejaa.Model
