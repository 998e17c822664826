/- What each function of package wire, and of its reference, comes to: the plain lists of YtpbekhkmeaaejaaModel. -/
import Derived.Test.YtpbekhkmeaaejaaModel
import Derived.Laws.Bits64
import Derived.Laws.Bits64b
import Derived.Test.YtpbekhkmeaaejaaPAllx1
import Derived.Test.YtpbekhkmeaaejaaPAllx2
import Derived.Test.YtpbekhkmeaaejaaPAllx3
import Derived.Test.YtpbekhkmeaaejaaPAllx9
namespace Go.Proofs.Ytpbekhkmeaaejaa.Model
open Go.RowKit Go.Proofs.Ytpbekhkmeaaejaa.PAll Go.Proofs.YtpbekhkmeaaejaaW.PrintWords Go.Proofs.YtpbekhkmeaaejaaW.PrintLast Go.Proofs.YtpbekhkmeaaejaaW.PrintMore

theorem w64 {x : Int} (h0 : -9223372036854775808 ≤ x) (h1 : x ≤ 9223372036854775807) : wrap64 x = x := by unfold wrap64; omega
theorem u64w (x : Int) : IntKind.u64.wrap x = x % 18446744073709551616 := by simp [IntKind.wrap, IntKind.bits, IntKind.signed]
theorem wraps_u64 (n : Int) (h₀ : 0 ≤ n) (h₁ : n < 2 ^ 64) : IntKind.u64.wrap n = n := by
  rw [u64w]; have : (2 ^ 64 : Int) = 18446744073709551616 := by decide
  omega
theorem two64 : (2 ^ 64 : Nat) = 18446744073709551616 := by decide

/-! ### the encoders -/
theorem or128 (n : Nat) : Go.bits .or .u8 ((n : Int) % 256) 128 = ((n % 128 + 128 : Nat) : Int) := by
  have e : ((n : Int) % 256) = ((n % 256 : Nat) : Int) := by omega
  rw [e, show (128 : Int) = ((128 : Nat) : Int) from rfl, (bits_nat .u8 8 (by decide) wraps_u8 (n % 256) 128 (Nat.mod_lt _ (by decide)) (by decide)).2]
  congr 1
  have h2 : n % 256 = 128 * (n / 128 % 2) + n % 128 := by omega
  have h3 : n / 128 % 2 = 0 ∨ n / 128 % 2 = 1 := by omega
  have hlt : n % 128 < 2 ^ 7 := Nat.mod_lt _ (by decide)
  rcases h3 with h3 | h3
  · rw [h3] at h2
    have h4 : n % 256 = n % 128 := by omega
    rw [h4, Nat.or_comm]
    have := Nat.two_pow_add_eq_or_of_lt hlt 1
    simp only [Nat.mul_one] at this
    rw [show (128 : Nat) = 2 ^ 7 from rfl, ← this]
    omega
  · rw [h3] at h2
    have h4 : n % 256 = 2 ^ 7 * 1 + n % 128 := by omega
    have h5 := Nat.two_pow_add_eq_or_of_lt hlt 1
    rw [h4, h5]
    have h6 : (2 ^ 7 * 1 ||| n % 128) ||| 128 = 2 ^ 7 * 1 ||| n % 128 := by
      rw [Nat.or_assoc, Nat.or_comm (n % 128) 128, ← Nat.or_assoc]
      simp
    rw [h6, ← h5]
    omega

theorem put_ev (n : Nat) : ∀ (xs : List Int), xs.length + (encN n).length ≤ 140737488355328 → Ev (fun k => wire_put.l0 k xs (n : Int)) (xs ++ ints (encN n)) := by
  induction n using Nat.strongRecOn with
  | _ n ih =>
    intro xs hx
    by_cases h : n < 128
    · rw [encN_lt h] at hx ⊢
      refine Ev.step (f := fun k => some (xs ++ ints [UInt8.ofNat n])) (fun k => ?_) (Ev.now _)
      simp only [wire_put.l0]
      rw [if_neg (by omega), if_pos (by simp at hx; omega)]
      simp [ints]
    · rw [encN_ge h] at hx ⊢
      simp only [List.length_cons] at hx
      refine Ev.step (f := fun k => wire_put.l0 k (xs ++ [((n % 128 + 128 : Nat) : Int)]) ((n / 128 : Nat) : Int)) (fun k => ?_) ?_
      · simp only [wire_put.l0]
        rw [if_pos (by omega), if_pos (by omega), or128]
        congr 1
      · have := ih (n / 128) (by omega) (xs ++ [((n % 128 + 128 : Nat) : Int)]) (by simp; omega)
        have e : xs ++ [((n % 128 + 128 : Nat) : Int)] ++ ints (encN (n / 128)) = xs ++ ints (UInt8.ofNat (n % 128 + 128) :: encN (n / 128)) := by
          have hb : (UInt8.ofNat (n % 128 + 128)).toNat = n % 128 + 128 := by simp; omega
          simp only [ints, List.map_cons, hb, List.append_assoc, List.singleton_append]
        rw [e] at this
        exact this

theorem uint_ev (n : Nat) (h : n < 2 ^ 64) : Ev (fun k => wire_Uint.f k (n : Int)) (str (encN n)) := by
  have hl := encN_len10 h
  unfold wire_Uint.f wire_put.f
  refine Ev.bind (put_ev n [] (by simp; omega)) ?_
  simp only [List.nil_append, strOfNums_ints]
  exact Ev.now _

theorem ref_uint_ev (n : Nat) : n < 2 ^ 64 → Ev (fun k => sawmillref05_Uint.f k (n : Int)) (str (encN n)) := by
  induction n using Nat.strongRecOn with
  | _ n ih =>
    intro hn
    rw [two64] at hn
    by_cases h : n < 128
    · rw [encN_lt h]
      refine Ev.step (f := fun k => some (str [UInt8.ofNat n])) (fun k => ?_) (Ev.now _)
      simp only [sawmillref05_Uint.f]
      rw [if_pos (by omega), ← strOfNums_ints]
      simp [ints]
    · rw [encN_ge h]
      have ih' := ih (n / 128) (by omega) (by rw [two64]; omega)
      have hl := encN_len10 (n := n / 128) (by rw [two64]; omega)
      have hb : (UInt8.ofNat (n % 128 + 128)).toNat = n % 128 + 128 := by simp; omega
      have e1 : (IntKind.u64.wrap (128 + (Int.tmod (n : Int) 128))) % 256 = ((n % 128 + 128 : Nat) : Int) := by
        rw [Int.tmod_eq_emod_of_nonneg (by omega), u64w]; omega
      have e2 : IntKind.u64.wrap (Int.tdiv (n : Int) 128) = ((n / 128 : Nat) : Int) := by
        rw [Int.tdiv_eq_ediv_of_nonneg (by omega), u64w]; omega
      have e3 : strOfNums [((n % 128 + 128 : Nat) : Int)] = str [UInt8.ofNat (n % 128 + 128)] := by rw [← strOfNums_ints]; simp only [ints, List.map_cons, List.map_nil, hb]
      refine Ev.step (f := fun k => (sawmillref05_Uint.f k ((n / 128 : Nat) : Int)).bind fun t => if (str [UInt8.ofNat (n % 128 + 128)]).size + t.size ≤ 9223372036854775807 then some (str [UInt8.ofNat (n % 128 + 128)] ++ t) else none) (fun k => ?_) ?_
      · simp only [sawmillref05_Uint.f]
        rw [if_neg (by omega), e1, e2]
        simp only [Option.bind_some, e3]
      · refine Ev.bind ih' ?_
        simp only [str_size, str_append]
        rw [if_pos (by simp; omega)]
        exact Ev.now _

theorem xor_ones (x : Nat) (hx : x < 18446744073709551616) : x ^^^ 18446744073709551615 = 18446744073709551615 - x := by
  have h := BitVec.not_def (x := BitVec.ofNat 64 x)
  have h1 : (~~~(BitVec.ofNat 64 x)).toNat = 2 ^ 64 - 1 - x := by
    rw [BitVec.toNat_not, BitVec.toNat_ofNat, Nat.mod_eq_of_lt (by omega)]
  rw [h, BitVec.toNat_xor, BitVec.toNat_allOnes, BitVec.toNat_ofNat, Nat.mod_eq_of_lt (by omega), Nat.xor_comm] at h1
  exact h1

theorem zigzag_f (a : Int) (h : I64 a) : wire_zigzag.f a = some ((zz a : Nat) : Int) := by
  unfold wire_zigzag.f
  congr 1
  obtain ⟨h0, h1⟩ := h
  unfold zz
  by_cases hp : 0 ≤ a
  · rw [if_pos hp]
    obtain ⟨n, rfl⟩ := Int.eq_ofNat_of_zero_le hp
    have e1 : IntKind.u64.wrap (IntKind.u64.wrap (n : Int) * 2) = ((2 * n : Nat) : Int) := by rw [u64w, u64w]; omega
    have e2 : IntKind.u64.wrap ((n : Int) / 9223372036854775808) = ((0 : Nat) : Int) := by rw [u64w]; omega
    rw [e1, e2, bits_xor_u64_nat _ _ (by omega) (by omega)]
    simp
    omega
  · rw [if_neg hp]
    have e1 : IntKind.u64.wrap (IntKind.u64.wrap a * 2) = (((2 * a + 18446744073709551616).toNat : Nat) : Int) := by rw [u64w, u64w]; omega
    have e2 : IntKind.u64.wrap (a / 9223372036854775808) = ((18446744073709551615 : Nat) : Int) := by rw [u64w]; omega
    rw [e1, e2, bits_xor_u64_nat _ _ (by omega) (by omega), xor_ones _ (by omega)]
    omega

theorem ref_zigzag_f (a : Int) (h : I64 a) : sawmillref05_Zigzag.f a = some ((zz a : Nat) : Int) := by
  unfold sawmillref05_Zigzag.f
  obtain ⟨h0, h1⟩ := h
  unfold zz
  by_cases hp : 0 ≤ a
  · rw [if_pos hp, if_pos hp]
    congr 1
    rw [u64w, u64w]; omega
  · rw [if_neg hp, if_neg hp]
    congr 1
    unfold wrap64
    rw [u64w, u64w, u64w]; omega

theorem int_ev (a : Int) (h : I64 a) : Ev (fun k => wire_Int.f k a) (str (encI a)) := by
  have hz := zz_lt h.1 h.2
  have hl := encN_len10 hz
  unfold wire_Int.f wire_put.f
  simp only [zigzag_f a h, Option.bind_some]
  refine Ev.bind (put_ev (zz a) [] (by simp; omega)) ?_
  simp only [List.nil_append, strOfNums_ints]
  exact Ev.now _
theorem ref_int_ev (a : Int) (h : I64 a) : Ev (fun k => sawmillref05_Int.f k a) (str (encI a)) := by
  unfold sawmillref05_Int.f
  simp only [ref_zigzag_f a h, Option.bind_some]
  refine Ev.bind (ref_uint_ev (zz a) (zz_lt h.1 h.2)) ?_
  exact Ev.now _

theorem text_ev (t : List UInt8) (h : t.length ≤ 8796093022208) : Ev (fun k => wire_Text.f k (str t)) (str (encT t)) := by
  have hn : t.length < 2 ^ 64 := by rw [two64]; omega
  have hl := encN_len10 hn
  unfold wire_Text.f wire_put.f
  have e : IntKind.u64.wrap (((str t).size : Nat) : Int) = ((t.length : Nat) : Int) := by rw [str_size, u64w]; omega
  rw [e]
  refine Ev.bind (put_ev t.length [] (by simp; omega)) ?_
  simp only [List.nil_append, str_size, bytesOf_str]
  rw [if_pos (by simp [ints]; omega), ← ints_append, strOfNums_ints]
  exact Ev.now _
theorem ref_text_ev (t : List UInt8) (h : t.length ≤ 8796093022208) : Ev (fun k => sawmillref05_Text.f k (str t)) (str (encT t)) := by
  have hn : t.length < 2 ^ 64 := by rw [two64]; omega
  have hl := encN_len10 hn
  unfold sawmillref05_Text.f
  have e : IntKind.u64.wrap (((str t).size : Nat) : Int) = ((t.length : Nat) : Int) := by rw [str_size, u64w]; omega
  rw [e]
  refine Ev.bind (ref_uint_ev t.length hn) ?_
  simp only [str_size, str_append]
  rw [if_pos (by omega)]
  exact Ev.now _

theorem encIs_len : ∀ (l : List Int), (∀ x ∈ l, I64 x) → (encIs l).length ≤ 10 * l.length
  | [], _ => by simp [encIs]
  | x :: l, h => by
    have h1 := encN_len10 (zz_lt (h x (by simp)).1 (h x (by simp)).2)
    have h2 := encIs_len l (fun y hy => h y (by simp [hy]))
    show (encI x ++ encIs l).length ≤ _
    simp only [List.length_append, List.length_cons, encI]
    omega
theorem rd_get (l : List Int) (i : Nat) (x : Int) (h : l[i]? = some x) : rd l (i : Int) = x := by
  unfold rd
  simp [List.getD, h]

theorem ints_loop (l : List Int) (hl : l.length ≤ 8796093022208) (h : ∀ x ∈ l, I64 x) : ∀ (d i : Nat) (xs : List UInt8), i + d = l.length → xs.length ≤ 100 + 10 * i →
    Ev (fun k => wire_Ints.l0 k (ints xs) l (l.length : Int) (i : Int)) (str (xs ++ encIs (l.drop i)))
  | 0, i, xs, hd, _ => by
    refine Ev.step (f := fun k => some (str (xs ++ encIs (l.drop i)))) (fun k => ?_) (Ev.now _)
    simp only [wire_Ints.l0]
    rw [if_neg (by omega), strOfNums_ints, List.drop_of_length_le (by omega)]
    simp [encIs]
  | d + 1, i, xs, hd, hx => by
    have hi : i < l.length := by omega
    have hg : l[i]? = some l[i] := List.getElem?_eq_getElem hi
    have hI := h l[i] (List.getElem_mem hi)
    have hz := zz_lt hI.1 hI.2
    have hlen := encN_len10 hz
    refine Ev.step (f := fun k => (wire_put.l0 k (ints xs) ((zz l[i] : Nat) : Int)).bind fun t => wire_Ints.l0 k t l (l.length : Int) ((i + 1 : Nat) : Int)) (fun k => ?_) ?_
    · simp only [wire_Ints.l0]
      rw [if_pos (by omega), if_pos (by omega), if_pos (by omega), rd_get l i _ hg, zigzag_f _ hI]
      simp only [Option.bind_some, wire_put.f]
      rw [w64 (by omega) (by omega)]
      rfl
    · refine Ev.bind (put_ev (zz l[i]) (ints xs) (by simp [ints]; omega)) ?_
      rw [← ints_append]
      have := ints_loop l hl h d (i + 1) (xs ++ encN (zz l[i])) (by omega) (by simp; omega)
      rw [List.drop_eq_getElem_cons hi]
      rw [List.append_assoc] at this
      exact this
theorem ints_ev (l : List Int) (hl : l.length ≤ 8796093022208) (h : ∀ x ∈ l, I64 x) : Ev (fun k => wire_Ints.f k l) (str (encL l)) := by
  have hn : l.length < 2 ^ 64 := by rw [two64]; omega
  have hlen := encN_len10 hn
  unfold wire_Ints.f wire_put.f
  have e : IntKind.u64.wrap ((l.length : Nat) : Int) = ((l.length : Nat) : Int) := by rw [u64w]; omega
  rw [e]
  refine Ev.bind (put_ev l.length [] (by simp; omega)) ?_
  rw [List.nil_append]
  exact ints_loop l hl h l.length 0 (encN l.length) (by omega) (by omega)

theorem ref_ints_loop (l : List Int) (hl : l.length ≤ 8796093022208) (h : ∀ x ∈ l, I64 x) : ∀ (d i : Nat) (xs : List UInt8), i + d = l.length → xs.length ≤ 100 + 10 * i →
    Ev (fun k => sawmillref05_Ints.l0 k l (str xs) (i : Int)) (str (xs ++ encIs (l.drop i)))
  | 0, i, xs, hd, _ => by
    refine Ev.step (f := fun k => some (str (xs ++ encIs (l.drop i)))) (fun k => ?_) (Ev.now _)
    simp only [sawmillref05_Ints.l0]
    rw [if_neg (by omega), List.drop_of_length_le (by omega)]
    simp [encIs]
  | d + 1, i, xs, hd, hx => by
    have hi : i < l.length := by omega
    have hg : l[i]? = some l[i] := List.getElem?_eq_getElem hi
    have hI := h l[i] (List.getElem_mem hi)
    have hz := zz_lt hI.1 hI.2
    have hlen := encN_len10 hz
    refine Ev.step (f := fun k => (sawmillref05_Int.f k l[i]).bind fun t => if (str xs).size + t.size ≤ 9223372036854775807 then sawmillref05_Ints.l0 k l (str xs ++ t) ((i + 1 : Nat) : Int) else none) (fun k => ?_) ?_
    · simp only [sawmillref05_Ints.l0]
      rw [if_pos (by omega), if_pos (by omega), rd_get l i _ hg]
      rw [w64 (by omega) (by omega)]
      rfl
    · refine Ev.bind (ref_int_ev l[i] hI) ?_
      simp only [str_size, str_append]
      have hc : xs.length + (encI l[i]).length ≤ 9223372036854775807 := by unfold encI; omega
      simp only [if_pos hc]
      have := ref_ints_loop l hl h d (i + 1) (xs ++ encI l[i]) (by omega) (by simp [encI]; omega)
      rw [List.drop_eq_getElem_cons hi]
      rw [List.append_assoc] at this
      exact this
theorem ref_ints_ev (l : List Int) (hl : l.length ≤ 8796093022208) (h : ∀ x ∈ l, I64 x) : Ev (fun k => sawmillref05_Ints.f k l) (str (encL l)) := by
  have hn : l.length < 2 ^ 64 := by rw [two64]; omega
  have hlen := encN_len10 hn
  unfold sawmillref05_Ints.f
  have e : IntKind.u64.wrap ((l.length : Nat) : Int) = ((l.length : Nat) : Int) := by rw [u64w]; omega
  rw [e]
  refine Ev.bind (ref_uint_ev l.length hn) ?_
  exact ref_ints_loop l hl h l.length 0 (encN l.length) (by omega) (by omega)
end Go.Proofs.Ytpbekhkmeaaejaa.Model
