/- What each function of the reference comes to: the plain reads of YtpbekhkmeaaejaaModel. -/
import Derived.Test.YtpbekhkmeaaejaaPAllx13
import Derived.Test.YtpbekhkmeaaejaaPAllx14
import Derived.Test.YtpbekhkmeaaejaaPAllx15
import Derived.Test.YtpbekhkmeaaejaaPAllx16
import Derived.Test.YtpbekhkmeaaejaaPAllx17
import Derived.Test.YtpbekhkmeaaejaaWf
namespace Go.Proofs.Ytpbekhkmeaaejaa.Model
open Go.RowKit Go.Proofs.Ytpbekhkmeaaejaa.PAll Go.Proofs.YtpbekhkmeaaejaaW.PrintWords Go.Proofs.YtpbekhkmeaaejaaW.PrintLast Go.Proofs.YtpbekhkmeaaejaaW.PrintMore

def outR (a : Nat) : Res Nat → Int × Int × Int
  | .err e => (0, a, e)
  | .ok n sz => (n, (a + sz : Nat), 0)

theorem number_loop (s : List UInt8) (hs : s.length ≤ 8796093022208) (a : Nat) (ha : a ≤ s.length) : ∀ (l : List UInt8) (i acc : Nat), i ≤ 9 → a + i ≤ s.length → s.drop (a + i) = l → acc < 128 ^ i →
    Ev (fun k => sawmillref05_number.l0 k (str s) (a : Int) (acc : Int) ((128 ^ i : Nat) : Int) (i : Int)) (outR a (D l i acc))
  | [], i, acc, hi, hai, hl, hacc => by
    have hlen : s.length ≤ a + i := by
      have := congrArg List.length hl
      simp at this; omega
    refine Ev.step (f := fun k => some (0, (a : Int), 3)) (fun k => ?_) (Ev.now _)
    simp only [sawmillref05_number.l0]
    rw [if_pos (by omega), w64 (by omega) (by omega), if_pos (by rw [str_size]; omega)]
  | b :: l, i, acc, hi, hai, hl, hacc => by
    have hlen : a + i + 1 + l.length = s.length := by
      have := congrArg List.length hl
      simp at this; omega
    have hb256 : b.toNat < 256 := b.toNat_lt
    have hbt : bt (str s) ((a : Int) + (i : Int)) = (b.toNat : Int) := by
      have := bt_drop s (a + i) 0 b (by rw [hl]; rfl)
      simpa using this
    have hdrop : s.drop (a + (i + 1)) = l := by
      have : s.drop (a + (i + 1)) = (s.drop (a + i)).drop 1 := by rw [List.drop_drop]; congr 1
      rw [this, hl]; rfl
    have hbw : IntKind.u64.wrap (b.toNat : Int) = (b.toNat : Int) := by rw [u64w]; omega
    refine Ev.step (f := fun k => sawmillref05_number.j1 k (str s) (a : Int) (acc : Int) ((128 ^ i : Nat) : Int) (i : Int) (b.toNat : Int) (decide (i = 9 ∧ 1 < b.toNat))) (fun k => ?_) ?_
    · simp only [sawmillref05_number.l0]
      rw [if_pos (by omega), w64 (x := (a : Int) + (i : Int)) (by omega) (by omega), if_neg (by rw [str_size]; omega), if_pos (by omega), if_pos (by rw [str_size]; omega), hbt, hbw]
      by_cases h9 : i = 9
      · subst h9
        rw [if_pos (by decide)]
        congr 1
        simp
        omega
      · rw [if_neg (by omega)]
        congr 1
        simp [h9]
    by_cases h9 : i = 9 ∧ 1 < b.toNat
    · have hD : D (b :: l) i acc = .err 5 := by simp only [D]; rw [if_pos h9]
      rw [hD]
      refine Ev.step (f := fun k => some (0, (a : Int), 5)) (fun k => ?_) (Ev.now _)
      simp only [sawmillref05_number.j1]
      rw [if_pos (by simpa using h9)]
    · have hcp : b.toNat % 128 * 128 ^ i < 2 ^ 64 := by
        by_cases hi9 : i = 9
        · subst hi9
          have h1 : b.toNat % 128 ≤ 1 := by have : ¬ 1 < b.toNat := fun h => h9 ⟨rfl, h⟩; omega
          exact Nat.lt_of_le_of_lt (Nat.mul_le_mul_right _ h1) (by decide)
        · have h1 : b.toNat % 128 * 128 ^ i ≤ 127 * 128 ^ 8 := Nat.mul_le_mul (by omega) (Nat.pow_le_pow_right (by decide) (by omega))
          exact Nat.lt_of_le_of_lt h1 (by decide)
      have hsum : acc + b.toNat % 128 * 128 ^ i < 2 ^ 64 := by
        by_cases hi9 : i = 9
        · subst hi9
          have h1 : b.toNat % 128 ≤ 1 := by have : ¬ 1 < b.toNat := fun h => h9 ⟨rfl, h⟩; omega
          have h2 := Nat.mul_le_mul_right (128 ^ 9) h1
          have h3 : (1 * 128 ^ 9 + 128 ^ 9 : Nat) = 2 ^ 64 := by decide
          rw [← h3]
          exact Nat.add_comm _ _ ▸ Nat.add_lt_add_of_le_of_lt h2 hacc
        · have h1 : b.toNat % 128 * 128 ^ i ≤ 127 * 128 ^ i := Nat.mul_le_mul_right _ (by omega)
          have h2 : acc + b.toNat % 128 * 128 ^ i < 128 ^ (i + 1) := by rw [pow_step]; omega
          exact Nat.lt_of_lt_of_le h2 (Nat.le_trans (Nat.pow_le_pow_right (by decide) (by omega : i + 1 ≤ 9)) (by decide))
      have hv : IntKind.u64.wrap ((acc : Int) + (IntKind.u64.wrap ((Int.tmod (b.toNat : Int) 128) * ((128 ^ i : Nat) : Int)))) = ((acc + b.toNat % 128 * 128 ^ i : Nat) : Int) := by
        have e1 : (Int.tmod (b.toNat : Int) 128) * ((128 ^ i : Nat) : Int) = ((b.toNat % 128 * 128 ^ i : Nat) : Int) := by
          rw [Int.tmod_eq_emod_of_nonneg (by omega), Int.natCast_mul]; rfl
        rw [e1, wraps_u64 ((b.toNat % 128 * 128 ^ i : Nat) : Int) (by omega) (by exact_mod_cast hcp)]
        have e2 : (acc : Int) + ((b.toNat % 128 * 128 ^ i : Nat) : Int) = ((acc + b.toNat % 128 * 128 ^ i : Nat) : Int) := by omega
        rw [e2]
        exact wraps_u64 _ (by omega) (by exact_mod_cast hsum)
      by_cases hl1 : b.toNat < 128
      · have hmod : b.toNat % 128 = b.toNat := Nat.mod_eq_of_lt hl1
        by_cases h0 : b.toNat = 0 ∧ 0 < i
        · have hD : D (b :: l) i acc = .err 5 := by simp only [D]; rw [if_neg h9, if_pos hl1, if_pos h0]
          rw [hD]
          refine Ev.step (f := fun k => some (0, (a : Int), 5)) (fun k => ?_) (Ev.now _)
          simp only [sawmillref05_number.j1]
          rw [if_neg (by simpa using h9), if_pos (by omega), if_pos (by omega), if_pos (by omega)]
        · have hD : D (b :: l) i acc = .ok (acc + b.toNat * 128 ^ i) (i + 1) := by simp only [D]; rw [if_neg h9, if_pos hl1, if_neg h0]
          rw [hD]
          refine Ev.step (f := fun k => some (((acc + b.toNat * 128 ^ i : Nat) : Int), ((a + (i + 1) : Nat) : Int), 0)) (fun k => ?_) (Ev.now _)
          simp only [sawmillref05_number.j1]
          rw [if_neg (by simpa using h9), if_pos (by omega), hv, hmod, w64 (x := (a : Int) + (i : Int)) (by omega) (by omega), w64 (by omega) (by omega)]
          by_cases hz : b.toNat = 0
          · rw [if_pos (by omega), if_neg (by omega)]; rfl
          · rw [if_neg (by omega)]; rfl
      · have hD : D (b :: l) i acc = D l (i + 1) (acc + b.toNat % 128 * 128 ^ i) := by simp only [D]; rw [if_neg h9, if_neg hl1]
        rw [hD]
        have hi9 : i ≠ 9 := by rintro rfl; exact h9 ⟨rfl, by omega⟩
        have hacc' : acc + b.toNat % 128 * 128 ^ i < 128 ^ (i + 1) := by
          rw [pow_step]
          have : b.toNat % 128 * 128 ^ i ≤ 127 * 128 ^ i := Nat.mul_le_mul_right _ (by omega)
          omega
        have hu : IntKind.u64.wrap (((128 ^ i : Nat) : Int) * 128) = ((128 ^ (i + 1) : Nat) : Int) := by
          have e1 : ((128 ^ i : Nat) : Int) * 128 = ((128 ^ (i + 1) : Nat) : Int) := by rw [pow_step]; omega
          rw [e1]
          have h2 := pow9 (i := i + 1) (by omega)
          exact wraps_u64 _ (by omega) (by
            have : (2 ^ 64 : Int) = 18446744073709551616 := by decide
            omega)
        refine Ev.step (f := fun k => sawmillref05_number.l0 k (str s) (a : Int) ((acc + b.toNat % 128 * 128 ^ i : Nat) : Int) ((128 ^ (i + 1) : Nat) : Int) ((i + 1 : Nat) : Int)) (fun k => ?_) (number_loop s hs a ha l (i + 1) _ (by omega) (by omega) hdrop hacc')
        simp only [sawmillref05_number.j1]
        rw [if_neg (by simpa using h9), if_neg (by omega), hv, hu, w64 (by omega) (by omega)]
        congr 1

theorem number_ev (s : List UInt8) (hs : s.length ≤ 8796093022208) (a : Nat) (ha : a ≤ s.length) :
    Ev (fun k => sawmillref05_number.f k (str s) (a : Int)) (outR a (mU (s.drop a))) :=
  number_loop s hs a ha (s.drop a) 0 0 (by decide) (by omega) rfl (by decide)

def outJ (a : Nat) : Res Int → Int × Int × Int
  | .err e => (0, a, e)
  | .ok n sz => (n, (a + sz : Nat), 0)
theorem ref_signed_ev (s : List UInt8) (hs : s.length ≤ 8796093022208) (a : Nat) (ha : a ≤ s.length) (lo hi : Int) :
    Ev (fun k => sawmillref05_signed.f k (str s) (a : Int) lo hi) (outJ a (mI (s.drop a) lo hi)) := by
  unfold sawmillref05_signed.f
  refine Ev.bind (number_ev s hs a ha) ?_
  unfold mI
  cases hu : mU (s.drop a) with
  | err e =>
    have he : ¬ e = 0 := by rcases mU_err hu with h | h <;> omega
    simp only [outR, outJ, eq_false he, if_false]
    exact Ev.now _
  | ok u sz =>
    have hlt := (mU_sz hu).2.2.2
    rw [two64] at hlt
    have hm : Int.tmod (u : Int) 2 = ((u % 2 : Nat) : Int) := by rw [Int.tmod_eq_emod_of_nonneg (by omega)]; omega
    have hd : wrap64 (IntKind.u64.wrap (Int.tdiv (u : Int) 2)) = ((u / 2 : Nat) : Int) := by
      rw [Int.tdiv_eq_ediv_of_nonneg (by omega), u64w]; unfold wrap64; omega
    have hn : wrap64 (wrap64 (-((u / 2 : Nat) : Int)) - 1) = -((u / 2 : Nat) : Int) - 1 := by unfold wrap64; omega
    simp only [outR, if_true, hm, hd, hn]
    by_cases hp : u % 2 = 0
    · have hz : unzz u = ((u / 2 : Nat) : Int) := by unfold unzz; rw [if_pos hp]
      simp only [if_neg (show ¬ ((u % 2 : Nat) : Int) = 1 by omega), hz]
      by_cases h1 : ((u / 2 : Nat) : Int) < lo
      · simp only [if_pos h1, if_pos (Or.inl h1 : ((u / 2 : Nat) : Int) < lo ∨ hi < ((u / 2 : Nat) : Int)), outJ]
        exact Ev.now _
      · by_cases h2 : ((u / 2 : Nat) : Int) > hi
        · simp only [if_neg h1, if_pos h2, if_pos (Or.inr h2 : ((u / 2 : Nat) : Int) < lo ∨ hi < ((u / 2 : Nat) : Int)), outJ]
          exact Ev.now _
        · simp only [if_neg h1, if_neg h2, if_neg (show ¬ (((u / 2 : Nat) : Int) < lo ∨ hi < ((u / 2 : Nat) : Int)) by omega), outJ]
          exact Ev.now _
    · have hz : unzz u = -((u / 2 : Nat) : Int) - 1 := by unfold unzz; rw [if_neg hp]
      simp only [if_pos (show ((u % 2 : Nat) : Int) = 1 by omega), hz]
      by_cases h1 : -((u / 2 : Nat) : Int) - 1 < lo
      · simp only [if_pos h1, if_pos (Or.inl h1 : -((u / 2 : Nat) : Int) - 1 < lo ∨ hi < -((u / 2 : Nat) : Int) - 1), outJ]
        exact Ev.now _
      · by_cases h2 : -((u / 2 : Nat) : Int) - 1 > hi
        · simp only [if_neg h1, if_pos h2, if_pos (Or.inr h2 : -((u / 2 : Nat) : Int) - 1 < lo ∨ hi < -((u / 2 : Nat) : Int) - 1), outJ]
          exact Ev.now _
        · simp only [if_neg h1, if_neg h2, if_neg (show ¬ (-((u / 2 : Nat) : Int) - 1 < lo ∨ hi < -((u / 2 : Nat) : Int) - 1) by omega), outJ]
          exact Ev.now _

/-! ### the reference -/
def tellR {α β : Type} (z : β) (g : α → β) (s : List UInt8) (a : Nat) : Res α → ByteArray × Int × Int × β
  | .err e => (str s, a, e, z)
  | .ok x sz => (str s, (a + sz : Nat), 0, g x)

theorem ref_Uint_ev (s : List UInt8) (hs : s.length ≤ 8796093022208) (a : Nat) (ha : a ≤ s.length) :
    Ev (fun k => sawmillref05_ReadUint.f k (str s) (a : Int) 0) (tellR 0 (fun n : Nat => (n : Int)) s a (mU (s.drop a))) := by
  unfold sawmillref05_ReadUint.f sawmillref05_fail.f
  simp only [Option.bind_some, if_true]
  refine Ev.bind (number_ev s hs a ha) ?_
  cases hu : mU (s.drop a) with
  | err e =>
    have he : ¬ e = 0 := by rcases mU_err hu with h | h <;> omega
    simp only [outR, eq_false he, if_false, tellR]
    exact Ev.now _
  | ok n sz =>
    simp only [outR, if_true, tellR]
    exact Ev.now _
theorem ref_Int_ev (s : List UInt8) (hs : s.length ≤ 8796093022208) (a : Nat) (ha : a ≤ s.length) (lo hi : Int) :
    Ev (fun k => sawmillref05_ReadInt.f k (str s) (a : Int) 0 lo hi) (tellR 0 (fun n : Int => n) s a (mI (s.drop a) lo hi)) := by
  unfold sawmillref05_ReadInt.f sawmillref05_fail.f
  simp only [Option.bind_some, if_true]
  refine Ev.bind (ref_signed_ev s hs a ha lo hi) ?_
  cases hu : mI (s.drop a) lo hi with
  | err e =>
    have he : ¬ e = 0 := by rcases mI_err hu with h | h | h <;> omega
    simp only [outJ, eq_false he, if_false, tellR]
    exact Ev.now _
  | ok n sz =>
    simp only [outJ, if_true, tellR]
    exact Ev.now _
theorem ref_Text_ev (s : List UInt8) (hs : s.length ≤ 8796093022208) (a : Nat) (ha : a ≤ s.length) (most : Int) (hm : I64 most) :
    Ev (fun k => sawmillref05_ReadText.f k (str s) (a : Int) 0 most) (tellR (str []) str s a (mT (s.drop a) most)) := by
  unfold sawmillref05_ReadText.f sawmillref05_fail.f
  simp only [Option.bind_some, if_true]
  refine Ev.bind (number_ev s hs a ha) ?_
  obtain ⟨hm0, hm1⟩ := hm
  unfold mT
  cases hu : mU (s.drop a) with
  | err e =>
    have he : ¬ e = 0 := by rcases mU_err hu with h | h <;> omega
    simp only [outR, eq_false he, if_false, tellR]
    exact Ev.now _
  | ok n sz =>
    have h := mU_sz hu
    have hdl : (s.drop a).length = s.length - a := by simp
    have hl : sz + a ≤ s.length := by have := h.2.1; omega
    simp only [outR, if_true]
    by_cases h1 : most < 0
    · simp only [if_pos h1, if_pos (Or.inl h1 : most < 0 ∨ most < (n : Int)), tellR]
      refine Ev.step (f := fun k => some (str s, (a : Int), 4, str [])) (fun k => ?_) (Ev.now _)
      simp only [sawmillref05_ReadText.j0, sawmillref05_fail.f, if_true, Option.bind_some]
      rfl
    · have hw : IntKind.u64.wrap most = most := by rw [u64w]; omega
      simp only [if_neg h1, hw]
      by_cases h2 : (n : Int) > most
      · simp only [if_pos (Or.inr h2 : most < 0 ∨ most < (n : Int)), tellR]
        refine Ev.step (f := fun k => some (str s, (a : Int), 4, str [])) (fun k => ?_) (Ev.now _)
        simp only [sawmillref05_ReadText.j0, sawmillref05_fail.f, Option.bind_some]
        rw [if_pos (by simpa using h2)]
        rfl
      · simp only [if_neg (show ¬ (most < 0 ∨ most < (n : Int)) by omega)]
        have hn : wrap64 (n : Int) = (n : Int) := w64 (by omega) (by omega)
        have hw2 : IntKind.u64.wrap (wrap64 (((str s).size : Int) - ((a + sz : Nat) : Int))) = ((s.length - (a + sz) : Nat) : Int) := by
          rw [str_size, w64 (by omega) (by omega), u64w]; omega
        by_cases hs2 : (s.drop a).length - sz < n
        · simp only [if_pos hs2, tellR]
          refine Ev.step (f := fun k => some (str s, (a : Int), 3, str [])) (fun k => ?_) (Ev.now _)
          simp only [sawmillref05_ReadText.j0, sawmillref05_fail.f, Option.bind_some]
          rw [if_neg (by simpa using h2), hw2, if_pos (by omega)]
          rfl
        · simp only [if_neg hs2, tellR]
          refine Ev.step (f := fun k => some (str s, ((a + (sz + n) : Nat) : Int), 0, str ((((s.drop a).drop sz)).take n))) (fun k => ?_) (Ev.now _)
          simp only [sawmillref05_ReadText.j0, sawmillref05_fail.f, Option.bind_some]
          rw [if_neg (by simpa using h2), hw2, if_neg (by omega), if_pos (by omega), hn, w64 (by omega) (by omega), if_pos (by omega), if_pos (by rw [str_size]; omega), str_extract]
          have e1 : (((a + sz : Nat) : Int) + (n : Int)).toNat - ((a + sz : Nat) : Int).toNat = n := by omega
          have e2 : ((a + sz : Nat) : Int).toNat = a + sz := by omega
          rw [e1, e2, List.drop_drop]
          have e3 : ((a + sz : Nat) : Int) + (n : Int) = ((a + (sz + n) : Nat) : Int) := by omega
          rw [e3]
theorem ref_Ints_loop (s : List UInt8) (hs : s.length ≤ 8796093022208) (a : Nat) (lo hi : Int) : ∀ (m b : Nat) (xs : List Int), b ≤ s.length → xs.length ≤ b → xs.length + m ≤ 9223372036854775807 →
    Ev (fun k => sawmillref05_ReadInts.l0 k lo hi ((xs.length + m : Nat) : Int) (b : Int) xs (str s) (a : Int) 0) (match mLs lo hi m (s.drop b) with
      | .err e => (str s, (a : Int), e, [])
      | .ok l sz => (str s, ((b + sz : Nat) : Int), 0, xs ++ l))
  | 0, b, xs, hb, hx, hN => by
    refine Ev.step (f := fun k => some (str s, ((b + 0 : Nat) : Int), 0, xs ++ [])) (fun k => ?_) (Ev.now _)
    simp only [sawmillref05_ReadInts.l0]
    rw [if_neg (by rw [u64w]; omega)]
    simp
  | m + 1, b, xs, hb, hx, hN => by
    refine Ev.step (f := fun k => (sawmillref05_signed.f k (str s) (b : Int) lo hi).bind fun t => if t.2.2 = 0 then sawmillref05_ReadInts.l0 k lo hi ((xs.length + (m + 1) : Nat) : Int) t.2.1 (xs ++ [t.1]) (str s) (a : Int) 0 else some (str s, (a : Int), t.2.2, [])) (fun k => ?_) ?_
    · simp only [sawmillref05_ReadInts.l0, sawmillref05_fail.f, Option.bind_some]
      rw [if_pos (by rw [u64w]; omega)]
      simp only [if_pos (show xs.length < 17592186044416 by omega)]
    · refine Ev.bind (ref_signed_ev s hs b hb lo hi) ?_
      unfold mLs
      cases hu : mI (s.drop b) lo hi with
      | err e =>
        have he : ¬ e = 0 := by rcases mI_err hu with h | h | h <;> omega
        simp only [outJ, eq_false he, if_false]
        exact Ev.now _
      | ok x sz =>
        have h := mI_ok hu
        have hl : b + sz ≤ s.length := by have := h.2.1; simp at this; omega
        simp only [outJ, if_true]
        have e2 : xs.length + (m + 1) = (xs ++ [x]).length + m := by simp; omega
        have := ref_Ints_loop s hs a lo hi m (b + sz) (xs ++ [x]) hl (by simp; omega) (by simp; omega)
        rw [e2, List.drop_drop]
        cases hr : mLs lo hi m (s.drop (b + sz)) with
        | err e => rw [hr] at this; exact this
        | ok l sz' =>
          rw [hr] at this
          simp only at this ⊢
          rw [List.append_assoc] at this
          rw [← Nat.add_assoc]
          exact this
theorem ref_Ints_ev (s : List UInt8) (hs : s.length ≤ 8796093022208) (a : Nat) (ha : a ≤ s.length) (most lo hi : Int) (hm : I64 most) :
    Ev (fun k => sawmillref05_ReadInts.f k (str s) (a : Int) 0 most lo hi) (tellR [] (fun l : List Int => l) s a (mL (s.drop a) most lo hi)) := by
  unfold sawmillref05_ReadInts.f sawmillref05_fail.f
  simp only [Option.bind_some, if_true]
  refine Ev.bind (number_ev s hs a ha) ?_
  obtain ⟨hm0, hm1⟩ := hm
  unfold mL
  cases hu : mU (s.drop a) with
  | err e =>
    have he : ¬ e = 0 := by rcases mU_err hu with h | h <;> omega
    simp only [outR, eq_false he, if_false, tellR]
    exact Ev.now _
  | ok n sz =>
    have h := mU_sz hu
    have hdl : (s.drop a).length = s.length - a := by simp
    have hl : sz + a ≤ s.length := by have := h.2.1; omega
    simp only [outR, if_true]
    by_cases h1 : most < 0
    · simp only [if_pos h1, if_pos (Or.inl h1 : most < 0 ∨ most < (n : Int)), tellR]
      refine Ev.step (f := fun k => some (str s, (a : Int), 4, [])) (fun k => ?_) (Ev.now _)
      simp only [sawmillref05_ReadInts.j0, sawmillref05_fail.f, if_true, Option.bind_some]
    · have hw : IntKind.u64.wrap most = most := by rw [u64w]; omega
      simp only [if_neg h1, hw]
      by_cases h2 : (n : Int) > most
      · simp only [if_pos (Or.inr h2 : most < 0 ∨ most < (n : Int)), tellR]
        refine Ev.step (f := fun k => some (str s, (a : Int), 4, [])) (fun k => ?_) (Ev.now _)
        simp only [sawmillref05_ReadInts.j0, sawmillref05_fail.f, Option.bind_some]
        rw [if_pos (by simpa using h2)]
      · simp only [if_neg (show ¬ (most < 0 ∨ most < (n : Int)) by omega)]
        refine Ev.step (f := fun k => sawmillref05_ReadInts.l0 k lo hi (n : Int) ((a + sz : Nat) : Int) [] (str s) (a : Int) 0) (fun k => ?_) ?_
        · simp only [sawmillref05_ReadInts.j0]
          rw [if_neg (by simpa using h2)]
        · have := ref_Ints_loop s hs a lo hi n (a + sz) [] (by omega) (by simp) (by simp; omega)
          rw [List.drop_drop]
          simp only [List.length_nil, Nat.zero_add, List.nil_append] at this
          cases hr : mLs lo hi n (s.drop (a + sz)) with
          | err e => rw [hr] at this; exact this
          | ok l sz' =>
            rw [hr] at this
            simp only [tellR] at this ⊢
            rw [← Nat.add_assoc]
            exact this

theorem sameV_refl (kind : Int) (v : Val) (hl : v.l.length ≤ 8796093022208) : Ev (fun k => sawmilllaw05_same.f k kind v.n v.i (str v.t) v.l kind v.n v.i (str v.t) v.l) true := by
  unfold sawmilllaw05_same.f
  simp only [if_true]
  exact Ev.bind (same_refl v.l hl) (Ev.now _)
theorem ref_left_f (s : List UInt8) (hs : s.length ≤ 8796093022208) (a : Nat) (ha : a ≤ s.length) (e : Int) : sawmillref05_Left.f (str s) (a : Int) e = some ((s.length - a : Nat) : Int) := by
  unfold sawmillref05_Left.f
  rw [str_size, w64 (by omega) (by omega)]
  congr 1
  omega
theorem ref_end_f (s : List UInt8) (hs : s.length ≤ 8796093022208) (a : Nat) (ha : a ≤ s.length) (e : Int) : sawmillref05_End.f (str s) (a : Int) e = some (if e = 0 then (if a < s.length then 4 else 0) else e) := by
  unfold sawmillref05_End.f
  simp only [Option.bind_some, ref_left_f s hs a ha e]
  by_cases h : e = 0
  · simp only [if_pos h]
    by_cases h2 : a < s.length
    · rw [if_pos (by omega), if_pos h2]
    · rw [if_neg (by omega), if_neg h2, h]
  · simp only [if_neg h]
end Go.Proofs.Ytpbekhkmeaaejaa.Model
