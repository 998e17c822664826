/- The bytes of package wire as plain lists: the encoding of a number, what a read makes of the bytes that are left, and that the two fit. No program in it. -/
import Derived.Laws.BitsLemmas
import Derived.Lib.Bytes
import Derived.Test.YtpbekhkmeaaejaaWWords
import Derived.Test.YtpbekhkmeaaejaaWMore
namespace Go.Proofs.Ytpbekhkmeaaejaa.Model
open Go.RowKit Go.Proofs.YtpbekhkmeaaejaaW.PrintWords Go.Proofs.YtpbekhkmeaaejaaW.PrintMore

/-! ### strings -/
def str (l : List UInt8) : ByteArray := ⟨l.toArray⟩
theorem str_size (l : List UInt8) : (str l).size = l.length := by simp [str, ByteArray.size]
theorem str_append (a b : List UInt8) : str a ++ str b = str (a ++ b) := by
  apply ByteArray.ext
  simp [str]
theorem str_toList (l : List UInt8) : (str l).toList = l := by rw [Lib.toList_data]; simp [str]
theorem str_extract (l : List UInt8) (i j : Nat) : (str l).extract i j = str ((l.drop i).take (j - i)) := by
  apply ByteArray.ext
  simp only [str, ByteArray.data_extract]
  apply Array.ext'
  simp [List.extract]
theorem str_data (s : ByteArray) : str s.data.toList = s := by
  apply ByteArray.ext
  simp [str]
theorem str_inj {a b : List UInt8} (h : str a = str b) : a = b := by rw [← str_toList a, ← str_toList b, h]
theorem str_nil : (⟨#[]⟩ : ByteArray) = str [] := rfl
theorem bt_str (l : List UInt8) (i : Nat) (b : UInt8) (h : l[i]? = some b) : bt (str l) (i : Int) = (b.toNat : Int) := by
  have hi : i < l.length := (List.getElem?_eq_some_iff.1 h).1
  unfold bt
  rw [dif_pos (by rw [str_size]; simpa using hi)]
  have : (str l)[((i : Int).toNat)]'(by rw [str_size]; simpa using hi) = b := by
    have h2 := (List.getElem?_eq_some_iff.1 h).2
    simp only [str, ByteArray.getElem_eq_getElem_data, List.getElem_toArray, Int.toNat_natCast]
    exact h2
  rw [this]

def ints (l : List UInt8) : List Int := l.map fun b => (b.toNat : Int)
theorem ints_append (a b : List UInt8) : ints (a ++ b) = ints a ++ ints b := by simp [ints]
theorem strOfNums_ints (l : List UInt8) : strOfNums (ints l) = str l := by
  unfold strOfNums ints str
  congr 2
  rw [List.map_map]
  conv => rhs; rw [← List.map_id l]
  apply List.map_congr_left
  intro b _
  simp
theorem bytesOf_str (l : List UInt8) : bytesOf (str l) = ints l := by simp [bytesOf, ints, str]

/-! ### the encoding -/
def encN (n : Nat) : List UInt8 := if h : n < 128 then [UInt8.ofNat n] else UInt8.ofNat (n % 128 + 128) :: encN (n / 128)
theorem encN_lt {n : Nat} (h : n < 128) : encN n = [UInt8.ofNat n] := by rw [encN, dif_pos h]
theorem encN_ge {n : Nat} (h : ¬ n < 128) : encN n = UInt8.ofNat (n % 128 + 128) :: encN (n / 128) := by rw [encN, dif_neg h]
theorem encN_pos (n : Nat) : 0 < (encN n).length := by
  by_cases h : n < 128
  · rw [encN_lt h]; simp
  · rw [encN_ge h]; simp
theorem pow_step (i : Nat) : 128 ^ (i + 1) = 128 * 128 ^ i := by rw [Nat.pow_succ, Nat.mul_comm]
theorem encN_len : ∀ (j n : Nat), n < 128 ^ (j + 1) → (encN n).length ≤ j + 1
  | 0, n, h => by rw [encN_lt (by simpa using h)]; simp
  | j + 1, n, h => by
    by_cases hn : n < 128
    · rw [encN_lt hn]; simp
    · rw [encN_ge hn]
      have : n / 128 < 128 ^ (j + 1) := by rw [Nat.div_lt_iff_lt_mul (by decide), Nat.mul_comm]; rw [pow_step] at h; exact h
      have := encN_len j _ this
      simp; omega
theorem encN_len10 {n : Nat} (h : n < 2 ^ 64) : (encN n).length ≤ 10 := encN_len 9 n (Nat.lt_of_lt_of_le h (by decide))

/-- What a read makes of bytes. -/
inductive Res (α : Type) where
  | err (e : Int)
  | ok (x : α) (sz : Nat)

def D : List UInt8 → Nat → Nat → Res Nat
  | [], _, _ => .err 3
  | b :: l, i, acc =>
    if i = 9 ∧ 1 < b.toNat then .err 5
    else if b.toNat < 128 then (if b.toNat = 0 ∧ 0 < i then .err 5 else .ok (acc + b.toNat * 128 ^ i) (i + 1))
    else D l (i + 1) (acc + b.toNat % 128 * 128 ^ i)

theorem pow9 {i : Nat} (h : i ≤ 9) : 128 ^ i ≤ 9223372036854775808 := Nat.le_trans (Nat.pow_le_pow_right (by decide) h) (by decide)
theorem pow_pos' (i : Nat) : 0 < 128 ^ i := Nat.pow_pos (by decide)

theorem D_enc (m : Nat) : ∀ (i acc : Nat) (rest : List UInt8), i ≤ 9 → m * 128 ^ i < 2 ^ 64 → (0 < i → m ≠ 0) → D (encN m ++ rest) i acc = .ok (acc + m * 128 ^ i) (i + (encN m).length) := by
  induction m using Nat.strongRecOn with
  | _ m ih =>
    intro i acc rest hi hm h0
    by_cases hl : m < 128
    · rw [encN_lt hl]
      have hb : (UInt8.ofNat m).toNat = m := by simp; omega
      simp only [List.singleton_append, D, hb]
      rw [if_neg, if_pos hl, if_neg]
      · rfl
      · rintro ⟨a, b⟩; exact h0 b a
      · rintro ⟨rfl, hgt⟩
        have : 2 * 128 ^ 9 ≤ m * 128 ^ 9 := Nat.mul_le_mul_right _ hgt
        have : (2 * 128 ^ 9 : Nat) = 2 ^ 64 := by decide
        omega
    · rw [encN_ge hl]
      have hb : (UInt8.ofNat (m % 128 + 128)).toNat = m % 128 + 128 := by simp; omega
      simp only [List.cons_append, D, hb]
      have hi9 : i ≠ 9 := by
        rintro rfl
        have : 128 * 128 ^ 9 ≤ m * 128 ^ 9 := Nat.mul_le_mul_right _ (by omega)
        have : (2 ^ 64 : Nat) < 128 * 128 ^ 9 := by decide
        omega
      rw [if_neg (by rintro ⟨a, _⟩; exact hi9 a), if_neg (by omega)]
      have hval : m % 128 * 128 ^ i + m / 128 * 128 ^ (i + 1) = m * 128 ^ i := by
        rw [pow_step, ← Nat.mul_assoc, ← Nat.add_mul]
        congr 1
        omega
      rw [ih (m / 128) (by omega) (i + 1) _ rest (by omega) (by have := pow_pos' i; omega) (by intro _; omega)]
      have hb2 : (m % 128 + 128) % 128 = m % 128 := by omega
      rw [hb2]
      congr 1
      · omega
      · simp; omega

theorem D_cut (m : Nat) : ∀ (i acc j : Nat), i ≤ 9 → m * 128 ^ i < 2 ^ 64 → j < (encN m).length → D ((encN m).take j) i acc = .err 3 := by
  induction m using Nat.strongRecOn with
  | _ m ih =>
    intro i acc j hi hm hj
    by_cases hl : m < 128
    · rw [encN_lt hl] at hj ⊢
      have : j = 0 := by simpa using hj
      subst this
      rfl
    · rw [encN_ge hl] at hj ⊢
      cases j with
      | zero => rfl
      | succ j =>
        have hb : (UInt8.ofNat (m % 128 + 128)).toNat = m % 128 + 128 := by simp; omega
        simp only [List.take_succ_cons, D, hb]
        have hi9 : i ≠ 9 := by
          rintro rfl
          have : 128 * 128 ^ 9 ≤ m * 128 ^ 9 := Nat.mul_le_mul_right _ (by omega)
          have : (2 ^ 64 : Nat) < 128 * 128 ^ 9 := by decide
          omega
        rw [if_neg (by rintro ⟨a, _⟩; exact hi9 a), if_neg (by omega)]
        have hval : m / 128 * 128 ^ (i + 1) ≤ m * 128 ^ i := by
          rw [pow_step, ← Nat.mul_assoc]
          exact Nat.mul_le_mul_right _ (by omega)
        exact ih (m / 128) (by omega) (i + 1) _ j (by omega) (by omega) (by simpa using hj)

theorem mul_pow_lt {m i : Nat} (hi : i + 1 ≤ 9) (h : m * 128 ^ (i + 1) < 2 ^ 64) (r : Nat) (hr : r < 128) : (m * 128 + r) * 128 ^ i < 2 ^ 64 := by
  have hd : 128 ^ (9 - i) * 128 ^ i = 128 ^ 9 := by rw [← Nat.pow_add]; congr 1; omega
  have e1 : m * 128 ^ (i + 1) = (m * 128) * 128 ^ i := by rw [pow_step, ← Nat.mul_assoc]
  have e2 : (2 ^ 64 : Nat) = 2 * 128 ^ 9 := by decide
  rw [e1, e2, ← hd, ← Nat.mul_assoc] at h
  have h1 : m * 128 < 2 * 128 ^ (9 - i) := Nat.lt_of_mul_lt_mul_right h
  have h2 : 9 - i = (8 - i) + 1 := by omega
  rw [h2, pow_step] at h1
  have h3 : m * 128 + r < 2 * 128 ^ (9 - i) := by rw [h2, pow_step]; omega
  rw [e2, ← hd, ← Nat.mul_assoc]
  exact Nat.mul_lt_mul_of_pos_right h3 (pow_pos' i)

theorem D_ok : ∀ (l : List UInt8) (i acc n sz : Nat), i ≤ 9 → D l i acc = .ok n sz →
    ∃ m rest, n = acc + m * 128 ^ i ∧ sz = i + (encN m).length ∧ l = encN m ++ rest ∧ (0 < i → m ≠ 0) ∧ m * 128 ^ i < 2 ^ 64
  | [], i, acc, n, sz, _, h => by simp [D] at h
  | b :: l, i, acc, n, sz, hi, h => by
    have hb256 : b.toNat < 256 := b.toNat_lt
    simp only [D] at h
    by_cases h9 : i = 9 ∧ 1 < b.toNat
    · rw [if_pos h9] at h; cases h
    · rw [if_neg h9] at h
      by_cases hl : b.toNat < 128
      · rw [if_pos hl] at h
        by_cases h0 : b.toNat = 0 ∧ 0 < i
        · rw [if_pos h0] at h; cases h
        · rw [if_neg h0] at h
          injection h with h1 h2
          refine ⟨b.toNat, l, h1.symm, by rw [encN_lt hl, ← h2]; rfl, by rw [encN_lt hl]; simp, by intro hp he; exact h0 ⟨he, hp⟩, ?_⟩
          by_cases hi9 : i = 9
          · subst hi9
            have : b.toNat * 128 ^ 9 ≤ 1 * 128 ^ 9 := Nat.mul_le_mul_right _ (by omega)
            exact Nat.lt_of_le_of_lt this (by decide)
          · have h8 : 128 ^ i ≤ 128 ^ 8 := Nat.pow_le_pow_right (by decide) (by omega)
            have : b.toNat * 128 ^ i ≤ 127 * 128 ^ 8 := Nat.mul_le_mul (by omega) h8
            exact Nat.lt_of_le_of_lt this (by decide)
      · rw [if_neg hl] at h
        have hi9 : i ≠ 9 := by rintro rfl; exact h9 ⟨rfl, by omega⟩
        obtain ⟨m, rest, h1, h2, h3, h4, h5⟩ := D_ok l (i + 1) _ n sz (by omega) h
        have hm0 : m ≠ 0 := h4 (by omega)
        have hlt := mul_pow_lt (by omega) h5 (b.toNat % 128) (by omega)
        have hge : ¬ (m * 128 + b.toNat % 128) < 128 := by omega
        have hmod : (m * 128 + b.toNat % 128) % 128 = b.toNat % 128 := by omega
        have hdiv : (m * 128 + b.toNat % 128) / 128 = m := by omega
        refine ⟨m * 128 + b.toNat % 128, rest, ?_, ?_, ?_, fun _ => by omega, hlt⟩
        · rw [h1, pow_step, Nat.add_mul, ← Nat.mul_assoc]; omega
        · rw [encN_ge hge, hmod, hdiv, h2]; simp; omega
        · rw [encN_ge hge, hmod, hdiv, h3]
          have : UInt8.ofNat (b.toNat % 128 + 128) = b := by
            have e : b.toNat % 128 + 128 = b.toNat := by omega
            rw [e]; simp
          rw [this]; rfl

theorem D_err : ∀ (l : List UInt8) (i acc : Nat) (e : Int), D l i acc = .err e → e = 3 ∨ e = 5
  | [], i, acc, e, h => by simp [D] at h; exact .inl h.symm
  | b :: l, i, acc, e, h => by
    simp only [D] at h
    split at h
    · injection h with h; exact .inr h.symm
    · split at h
      · split at h
        · injection h with h; exact .inr h.symm
        · cases h
      · exact D_err l _ _ e h

/-! ### signed numbers -/
def zz (n : Int) : Nat := if 0 ≤ n then (2 * n).toNat else (-2 * n - 1).toNat
def unzz (u : Nat) : Int := if u % 2 = 0 then ((u / 2 : Nat) : Int) else -((u / 2 : Nat) : Int) - 1
theorem unzz_zz (n : Int) : unzz (zz n) = n := by
  unfold unzz zz
  by_cases h : 0 ≤ n
  · rw [if_pos h, if_pos (by omega)]; omega
  · rw [if_neg h, if_neg (by omega)]; omega
theorem zz_unzz (u : Nat) : zz (unzz u) = u := by
  unfold unzz zz
  by_cases h : u % 2 = 0
  · rw [if_pos h, if_pos (by omega)]; omega
  · rw [if_neg h, if_neg (by omega)]; omega
theorem zz_lt {n : Int} (h0 : -9223372036854775808 ≤ n) (h1 : n ≤ 9223372036854775807) : zz n < 2 ^ 64 := by
  unfold zz
  have : (2 ^ 64 : Nat) = 18446744073709551616 := by decide
  rw [this]
  split <;> omega
theorem unzz_range {u : Nat} (h : u < 2 ^ 64) : -9223372036854775808 ≤ unzz u ∧ unzz u ≤ 9223372036854775807 := by
  have : (2 ^ 64 : Nat) = 18446744073709551616 := by decide
  rw [this] at h
  unfold unzz
  split <;> omega

/-! ### reads -/
def mU (r : List UInt8) : Res Nat := D r 0 0
def mI (r : List UInt8) (lo hi : Int) : Res Int :=
  match mU r with
  | .err e => .err e
  | .ok u sz => if unzz u < lo ∨ hi < unzz u then .err 9 else .ok (unzz u) sz
def mT (r : List UInt8) (most : Int) : Res (List UInt8) :=
  match mU r with
  | .err e => .err e
  | .ok n sz => if most < 0 ∨ most < n then .err 4 else if r.length - sz < n then .err 3 else .ok ((r.drop sz).take n) (sz + n)
def mLs (lo hi : Int) : Nat → List UInt8 → Res (List Int)
  | 0, _ => .ok [] 0
  | n + 1, r => match mI r lo hi with
    | .err e => .err e
    | .ok x sz => match mLs lo hi n (r.drop sz) with
      | .err e => .err e
      | .ok l sz' => .ok (x :: l) (sz + sz')
def mL (r : List UInt8) (most lo hi : Int) : Res (List Int) :=
  match mU r with
  | .err e => .err e
  | .ok n sz => if most < 0 ∨ most < n then .err 4 else match mLs lo hi n (r.drop sz) with
    | .err e => .err e
    | .ok l sz' => .ok l (sz + sz')

def encI (n : Int) : List UInt8 := encN (zz n)
def encT (t : List UInt8) : List UInt8 := encN t.length ++ t
def encIs (l : List Int) : List UInt8 := l.flatMap encI
def encL (l : List Int) : List UInt8 := encN l.length ++ encIs l

/-- The numbers of 64 bits with a sign. -/
def I64 (n : Int) : Prop := -9223372036854775808 ≤ n ∧ n ≤ 9223372036854775807

theorem mU_enc (n : Nat) (h : n < 2 ^ 64) (rest : List UInt8) : mU (encN n ++ rest) = .ok n (encN n).length := by
  unfold mU
  rw [D_enc n 0 0 rest (by decide) (by simpa using h) (by intro h; omega)]
  simp
theorem mU_cut (n : Nat) (h : n < 2 ^ 64) (j : Nat) (hj : j < (encN n).length) : mU ((encN n).take j) = .err 3 :=
  D_cut n 0 0 j (by decide) (by simpa using h) hj
theorem mU_ok {r : List UInt8} {n sz : Nat} (h : mU r = .ok n sz) : sz = (encN n).length ∧ (∃ rest, r = encN n ++ rest) ∧ n < 2 ^ 64 := by
  obtain ⟨m, rest, h1, h2, h3, _, h5⟩ := D_ok r 0 0 n sz (by decide) h
  have : n = m := by simpa using h1
  subst this
  exact ⟨by simpa using h2, ⟨rest, h3⟩, by simpa using h5⟩
theorem mU_err {r : List UInt8} {e : Int} (h : mU r = .err e) : e = 3 ∨ e = 5 := D_err r 0 0 e h
theorem mU_sz {r : List UInt8} {n sz : Nat} (h : mU r = .ok n sz) : 0 < sz ∧ sz ≤ r.length ∧ r.take sz = encN n ∧ n < 2 ^ 64 := by
  obtain ⟨h1, ⟨rest, h2⟩, h3⟩ := mU_ok h
  have := encN_pos n
  refine ⟨by omega, ?_, ?_, h3⟩
  · rw [h2, h1]; simp
  · rw [h2, h1]; simp

theorem mI_enc (n lo hi : Int) (h : I64 n) (h1 : lo ≤ n) (h2 : n ≤ hi) (rest : List UInt8) : mI (encI n ++ rest) lo hi = .ok n (encI n).length := by
  unfold mI encI
  rw [mU_enc _ (zz_lt h.1 h.2)]
  simp only [unzz_zz]
  rw [if_neg (by omega)]
theorem mI_cut (n lo hi : Int) (h : I64 n) (j : Nat) (hj : j < (encI n).length) : mI ((encI n).take j) lo hi = .err 3 := by
  unfold mI
  rw [show mU ((encI n).take j) = .err 3 from mU_cut _ (zz_lt h.1 h.2) j hj]
theorem mI_ok {r : List UInt8} {lo hi x : Int} {sz : Nat} (h : mI r lo hi = .ok x sz) : 0 < sz ∧ sz ≤ r.length ∧ r.take sz = encI x ∧ I64 x ∧ lo ≤ x ∧ x ≤ hi := by
  unfold mI at h
  cases hu : mU r with
  | err e => rw [hu] at h; cases h
  | ok u sz0 =>
    rw [hu] at h
    simp only at h
    by_cases hc : unzz u < lo ∨ hi < unzz u
    · rw [if_pos hc] at h; cases h
    · rw [if_neg hc] at h
      injection h with h1 h2
      subst h1; subst h2
      obtain ⟨a, b, c, d⟩ := mU_sz hu
      exact ⟨a, b, by rw [c, encI, zz_unzz], unzz_range d, by omega, by omega⟩
theorem mI_err {r : List UInt8} {lo hi e : Int} (h : mI r lo hi = .err e) : e = 3 ∨ e = 5 ∨ e = 9 := by
  unfold mI at h
  cases hu : mU r with
  | err e' =>
    rw [hu] at h
    injection h with h
    subst h
    rcases mU_err hu with h | h
    · exact .inl h
    · exact .inr (.inl h)
  | ok u sz0 =>
    rw [hu] at h
    simp only at h
    by_cases hc : unzz u < lo ∨ hi < unzz u
    · rw [if_pos hc] at h
      injection h with h
      exact .inr (.inr h.symm)
    · rw [if_neg hc] at h; cases h

theorem mT_enc (t : List UInt8) (most : Int) (ht : t.length < 2 ^ 64) (h : (t.length : Int) ≤ most) (rest : List UInt8) : mT (encT t ++ rest) most = .ok t (encT t).length := by
  unfold mT encT
  rw [List.append_assoc, mU_enc _ ht]
  simp only
  rw [if_neg (by omega), if_neg (by simp)]
  simp
theorem mT_cut (t : List UInt8) (most : Int) (ht : t.length < 2 ^ 64) (h : (t.length : Int) ≤ most) (j : Nat) (hj : j < (encT t).length) : mT ((encT t).take j) most = .err 3 := by
  unfold mT encT at *
  by_cases h1 : j < (encN t.length).length
  · rw [List.take_append_of_le_length (by omega), mU_cut _ ht j h1]
  · have e : (encN t.length ++ t).take j = encN t.length ++ t.take (j - (encN t.length).length) := by
      rw [List.take_append, List.take_of_length_le (by omega)]
    rw [e, mU_enc _ ht]
    simp only
    rw [if_neg (by omega), if_pos]
    simp at hj ⊢
    omega
theorem mT_ok {r : List UInt8} {most : Int} {t : List UInt8} {sz : Nat} (h : mT r most = .ok t sz) : 0 < sz ∧ sz ≤ r.length ∧ r.take sz = encT t ∧ (t.length : Int) ≤ most ∧ t.length < 2 ^ 64 := by
  unfold mT at h
  cases hu : mU r with
  | err e => rw [hu] at h; cases h
  | ok n sz0 =>
    rw [hu] at h
    simp only at h
    by_cases hc : most < 0 ∨ most < n
    · rw [if_pos hc] at h; cases h
    · rw [if_neg hc] at h
      by_cases hs : r.length - sz0 < n
      · rw [if_pos hs] at h; cases h
      · rw [if_neg hs] at h
        injection h with h1 h2
        subst h1; subst h2
        obtain ⟨a, b, c, d⟩ := mU_sz hu
        have hl : ((r.drop sz0).take n).length = n := by simp; omega
        refine ⟨by omega, by omega, ?_, by rw [hl]; omega, by rw [hl]; exact d⟩
        unfold encT
        rw [hl, ← c]
        rw [List.take_add]

theorem mLs_enc (lo hi : Int) : ∀ (l : List Int) (rest : List UInt8), (∀ x ∈ l, I64 x ∧ lo ≤ x ∧ x ≤ hi) → mLs lo hi l.length (encIs l ++ rest) = .ok l (encIs l).length
  | [], rest, _ => rfl
  | x :: l, rest, h => by
    obtain ⟨h1, h2, h3⟩ := h x (by simp)
    show mLs lo hi (l.length + 1) (encI x ++ encIs l ++ rest) = .ok (x :: l) (encI x ++ encIs l).length
    rw [List.append_assoc]
    unfold mLs
    rw [mI_enc x lo hi h1 h2 h3]
    simp only [List.drop_left]
    rw [mLs_enc lo hi l rest (fun y hy => h y (by simp [hy]))]
    simp
theorem mLs_cut (lo hi : Int) : ∀ (l : List Int) (j : Nat), (∀ x ∈ l, I64 x ∧ lo ≤ x ∧ x ≤ hi) → j < (encIs l).length → mLs lo hi l.length ((encIs l).take j) = .err 3
  | [], j, _, hj => by simp [encIs] at hj
  | x :: l, j, h, hj => by
    obtain ⟨h1, h2, h3⟩ := h x (by simp)
    show mLs lo hi (l.length + 1) ((encI x ++ encIs l).take j) = .err 3
    have hj' : j < (encI x ++ encIs l).length := hj
    unfold mLs
    by_cases hc : j < (encI x).length
    · rw [List.take_append_of_le_length (by omega), mI_cut x lo hi h1 j hc]
    · have e : (encI x ++ encIs l).take j = encI x ++ (encIs l).take (j - (encI x).length) := by
        rw [List.take_append, List.take_of_length_le (by omega)]
      rw [e, mI_enc x lo hi h1 h2 h3]
      simp only [List.drop_left]
      rw [mLs_cut lo hi l _ (fun y hy => h y (by simp [hy])) (by simp at hj'; omega)]
theorem mLs_ok (lo hi : Int) : ∀ (n : Nat) (r : List UInt8) (l : List Int) (sz : Nat), mLs lo hi n r = .ok l sz → l.length = n ∧ sz ≤ r.length ∧ r.take sz = encIs l ∧ ∀ x ∈ l, I64 x ∧ lo ≤ x ∧ x ≤ hi
  | 0, r, l, sz, h => by
    unfold mLs at h
    injection h with h1 h2
    subst h1; subst h2
    exact ⟨rfl, by omega, by simp [encIs], fun x hx => by simp at hx⟩
  | n + 1, r, l, sz, h => by
    unfold mLs at h
    cases hi' : mI r lo hi with
    | err e => rw [hi'] at h; cases h
    | ok x sz0 =>
      rw [hi'] at h
      simp only at h
      cases hr : mLs lo hi n (r.drop sz0) with
      | err e => rw [hr] at h; cases h
      | ok l' sz' =>
        rw [hr] at h
        simp only at h
        injection h with h1 h2
        subst h1; subst h2
        obtain ⟨a, b, c, d, e1, e2⟩ := mI_ok hi'
        obtain ⟨a', b', c', d'⟩ := mLs_ok lo hi n _ _ _ hr
        refine ⟨by simp [a'], by simp at b'; omega, ?_, ?_⟩
        · rw [List.take_add, c, c']; rfl
        · intro y hy
          rcases List.mem_cons.1 hy with rfl | hy
          · exact ⟨d, e1, e2⟩
          · exact d' y hy
theorem mLs_err (lo hi : Int) : ∀ (n : Nat) (r : List UInt8) (e : Int), mLs lo hi n r = .err e → e = 3 ∨ e = 5 ∨ e = 9
  | 0, r, e, h => by unfold mLs at h; cases h
  | n + 1, r, e, h => by
    unfold mLs at h
    cases hi' : mI r lo hi with
    | err e' =>
      rw [hi'] at h
      injection h with h
      subst h
      exact mI_err hi'
    | ok x sz0 =>
      rw [hi'] at h
      simp only at h
      cases hr : mLs lo hi n (r.drop sz0) with
      | err e' =>
        rw [hr] at h
        injection h with h
        subst h
        exact mLs_err lo hi n _ _ hr
      | ok l' sz' => rw [hr] at h; cases h

theorem mL_enc (l : List Int) (most lo hi : Int) (hl : l.length < 2 ^ 64) (hm : (l.length : Int) ≤ most) (h : ∀ x ∈ l, I64 x ∧ lo ≤ x ∧ x ≤ hi) (rest : List UInt8) : mL (encL l ++ rest) most lo hi = .ok l (encL l).length := by
  unfold mL encL
  rw [List.append_assoc, mU_enc _ hl]
  simp only
  rw [if_neg (by omega), List.drop_left, mLs_enc lo hi l rest h]
  simp
theorem mL_cut (l : List Int) (most lo hi : Int) (hl : l.length < 2 ^ 64) (hm : (l.length : Int) ≤ most) (h : ∀ x ∈ l, I64 x ∧ lo ≤ x ∧ x ≤ hi) (j : Nat) (hj : j < (encL l).length) : mL ((encL l).take j) most lo hi = .err 3 := by
  unfold mL encL at *
  by_cases h1 : j < (encN l.length).length
  · rw [List.take_append_of_le_length (by omega), mU_cut _ hl j h1]
  · have e : (encN l.length ++ encIs l).take j = encN l.length ++ (encIs l).take (j - (encN l.length).length) := by
      rw [List.take_append, List.take_of_length_le (by omega)]
    rw [e, mU_enc _ hl]
    simp only
    rw [if_neg (by omega), List.drop_left, mLs_cut lo hi l _ h (by simp at hj; omega)]
theorem mL_ok {r : List UInt8} {most lo hi : Int} {l : List Int} {sz : Nat} (h : mL r most lo hi = .ok l sz) : 0 < sz ∧ sz ≤ r.length ∧ r.take sz = encL l ∧ (l.length : Int) ≤ most ∧ ∀ x ∈ l, I64 x ∧ lo ≤ x ∧ x ≤ hi := by
  unfold mL at h
  cases hu : mU r with
  | err e => rw [hu] at h; cases h
  | ok n sz0 =>
    rw [hu] at h
    simp only at h
    by_cases hc : most < 0 ∨ most < n
    · rw [if_pos hc] at h; cases h
    · rw [if_neg hc] at h
      cases hr : mLs lo hi n (r.drop sz0) with
      | err e => rw [hr] at h; cases h
      | ok l' sz' =>
        rw [hr] at h
        simp only at h
        injection h with h1 h2
        subst h1; subst h2
        obtain ⟨a, b, c, d⟩ := mU_sz hu
        obtain ⟨a', b', c', d'⟩ := mLs_ok lo hi n _ _ _ hr
        subst a'
        refine ⟨by omega, by simp at b'; omega, ?_, by omega, d'⟩
        rw [List.take_add, c, c']; rfl

/-! ### a read of any kind -/
structure Val where
  n : Int
  i : Int
  t : List UInt8
  l : List Int
def v0 : Val := ⟨0, 0, [], []⟩
def mRead (r : List UInt8) (kind lo hi most : Int) : Res Val :=
  if kind = 0 then (match mU r with | .err e => .err e | .ok n sz => .ok ⟨n, 0, [], []⟩ sz)
  else if kind = 1 then (match mI r lo hi with | .err e => .err e | .ok n sz => .ok ⟨0, n, [], []⟩ sz)
  else if kind = 2 then (match mT r most with | .err e => .err e | .ok t sz => .ok ⟨0, 0, t, []⟩ sz)
  else (match mL r most lo hi with | .err e => .err e | .ok l sz => .ok ⟨0, 0, [], l⟩ sz)
def wr (kind : Int) (v : Val) : List UInt8 :=
  if kind = 0 then encN v.n.toNat else if kind = 1 then encI v.i else if kind = 2 then encT v.t else encL v.l

theorem mRead_ok {r : List UInt8} {kind lo hi most : Int} {v : Val} {sz : Nat} (h : mRead r kind lo hi most = .ok v sz) : 0 < sz ∧ sz ≤ r.length ∧ r.take sz = wr kind v := by
  unfold mRead at h
  unfold wr
  by_cases k0 : kind = 0
  · rw [if_pos k0] at h ⊢
    cases hu : mU r with
    | err e => rw [hu] at h; cases h
    | ok n s =>
      rw [hu] at h
      injection h with h1 h2
      subst h1; subst h2
      obtain ⟨a, b, c, d⟩ := mU_sz hu
      exact ⟨a, b, by simpa using c⟩
  · rw [if_neg k0] at h ⊢
    by_cases k1 : kind = 1
    · rw [if_pos k1] at h ⊢
      cases hu : mI r lo hi with
      | err e => rw [hu] at h; cases h
      | ok n s =>
        rw [hu] at h
        injection h with h1 h2
        subst h1; subst h2
        obtain ⟨a, b, c, d⟩ := mI_ok hu
        exact ⟨a, b, c⟩
    · rw [if_neg k1] at h ⊢
      by_cases k2 : kind = 2
      · rw [if_pos k2] at h ⊢
        cases hu : mT r most with
        | err e => rw [hu] at h; cases h
        | ok n s =>
          rw [hu] at h
          injection h with h1 h2
          subst h1; subst h2
          obtain ⟨a, b, c, d⟩ := mT_ok hu
          exact ⟨a, b, c⟩
      · rw [if_neg k2] at h ⊢
        cases hu : mL r most lo hi with
        | err e => rw [hu] at h; cases h
        | ok n s =>
          rw [hu] at h
          injection h with h1 h2
          subst h1; subst h2
          obtain ⟨a, b, c, d⟩ := mL_ok hu
          exact ⟨a, b, c⟩
end Go.Proofs.Ytpbekhkmeaaejaa.Model
