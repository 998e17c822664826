/- What each reading function of package wire, and of its reference, comes to: the plain reads of YtpbekhkmeaaejaaModel. -/
import Derived.Test.YtpbekhkmeaaejaaPAllx3
import Derived.Test.YtpbekhkmeaaejaaPAllx4
import Derived.Test.YtpbekhkmeaaejaaPAllx5
import Derived.Test.YtpbekhkmeaaejaaPAllx6
import Derived.Test.YtpbekhkmeaaejaaFuns
namespace Go.Proofs.Ytpbekhkmeaaejaa.Model
open Go.RowKit Go.Proofs.Ytpbekhkmeaaejaa.PAll Go.Proofs.YtpbekhkmeaaejaaW.PrintWords Go.Proofs.YtpbekhkmeaaejaaW.PrintLast Go.Proofs.YtpbekhkmeaaejaaW.PrintMore

theorem and127 (c : Nat) (h : c < 256) : Go.bits .and .u8 (c : Int) 127 = ((c % 128 : Nat) : Int) := by
  have := bits_mask .u8 8 (by decide) wraps_u8 7 (by decide) (c : Int) (by omega) (by omega)
  rw [show (127 : Int) = 2 ^ 7 - 1 from by decide, this]
  omega
theorem and1 (u : Nat) (h : u < 2 ^ 64) : Go.bits .and .u64 (u : Int) 1 = ((u % 2 : Nat) : Int) := by
  have := bits_mask .u64 64 (by decide) wraps_u64 1 (by decide) (u : Int) (by omega) (by exact_mod_cast h)
  rw [show (1 : Int) = 2 ^ 1 - 1 from by decide, this]
  omega
theorem or_shl (acc c i : Nat) (hi : i ≤ 9) (ha : acc < 128 ^ i) (hc : c * 128 ^ i < 2 ^ 64) :
    Go.bits .or .u64 (acc : Int) (shl .u64 (c : Int) ((7 * i : Nat) : Int)) = ((acc + c * 128 ^ i : Nat) : Int) := by
  have hp : (2 : Nat) ^ (7 * i) = 128 ^ i := by rw [Nat.pow_mul]
  have hm : min ((7 * i : Nat) : Int).toNat IntKind.u64.bits = 7 * i := by
    have : IntKind.u64.bits = 64 := rfl
    rw [this]; omega
  have e : shl .u64 (c : Int) ((7 * i : Nat) : Int) = ((c * 128 ^ i : Nat) : Int) := by
    unfold shl
    rw [hm]
    have : (c : Int) * 2 ^ (7 * i) = ((c * 128 ^ i : Nat) : Int) := by rw [← hp]; simp
    rw [this]
    exact wraps_u64 _ (by omega) (by exact_mod_cast hc)
  rw [e]
  have hp9 : 128 ^ i ≤ 128 ^ 9 := Nat.pow_le_pow_right (by decide) hi
  have hlt : acc < 2 ^ 64 := Nat.lt_of_lt_of_le ha (Nat.le_trans hp9 (by decide))
  rw [(bits_nat .u64 64 (by decide) wraps_u64 acc (c * 128 ^ i) hlt hc).2]
  congr 1
  rw [Nat.or_comm, Nat.mul_comm c, ← hp, ← Nat.two_pow_add_eq_or_of_lt (by rw [hp]; exact ha)]
  omega

theorem bt_drop (s : List UInt8) (a i : Nat) (b : UInt8) (h : (s.drop a)[i]? = some b) : bt (str s) ((a + i : Nat) : Int) = (b.toNat : Int) := by
  refine bt_str s (a + i) b ?_
  rw [List.getElem?_drop] at h
  exact h

/-- How a number's read is told by the code. -/
def outN : Res Nat → Int × Int × Int
  | .err e => (0, 0, e)
  | .ok n sz => (n, sz, 0)
theorem next_loop (s : List UInt8) (hs : s.length ≤ 8796093022208) (a : Nat) (ha : a ≤ s.length) (y1 y2 : Int) : ∀ (l : List UInt8) (i acc : Nat), i ≤ 9 → a + i ≤ s.length → s.drop (a + i) = l → acc < 128 ^ i →
    Ev (fun k => wire_Reader_next.l0 k (a : Int) (acc : Int) (i : Int) ((7 * i : Nat) : Int) (str s) y1 y2) ((outN (D l i acc)).1, (outN (D l i acc)).2.1, (outN (D l i acc)).2.2, str s, y1, y2)
  | [], i, acc, hi, hai, hl, hacc => by
    have hlen : s.length ≤ a + i := by
      have := congrArg List.length hl
      simp at this; omega
    refine Ev.step (f := fun k => some (0, 0, 3, str s, y1, y2)) (fun k => ?_) (Ev.now _)
    simp only [wire_Reader_next.l0]
    rw [w64 (by omega) (by omega), if_pos (by rw [str_size]; omega)]
  | b :: l, i, acc, hi, hai, hl, hacc => by
    have hlen : a + i + 1 + l.length = s.length := by
      have := congrArg List.length hl
      simp at this; omega
    have hb256 : b.toNat < 256 := b.toNat_lt
    have hbt : bt (str s) ((a : Int) + (i : Int)) = (b.toNat : Int) := by
      have := bt_drop s (a + i) 0 b (by rw [hl]; rfl)
      simpa using this
    have hdrop : s.drop (a + (i + 1)) = l := by
      have : s.drop (a + (i + 1)) = (s.drop (a + i)).drop 1 := by rw [List.drop_drop]; congr 1
      rw [this, hl]; rfl
    -- the first half of the round
    refine Ev.step (f := fun k => wire_Reader_next.j1 k (a : Int) (acc : Int) ((i + 1 : Nat) : Int) ((7 * i : Nat) : Int) (b.toNat : Int) (decide (i = 9 ∧ 1 < b.toNat)) (str s) y1 y2) (fun k => ?_) ?_
    · simp only [wire_Reader_next.l0]
      rw [w64 (x := (a : Int) + (i : Int)) (by omega) (by omega), if_neg (by rw [str_size]; omega), if_pos (by omega), if_pos (by rw [str_size]; omega), hbt, w64 (x := (i : Int) + 1) (by omega) (by omega)]
      by_cases h9 : i = 9
      · subst h9
        rw [if_pos (by decide)]
        congr 1
        simp
        omega
      · rw [if_neg (by omega)]
        congr 1
        simp [h9]
    by_cases h9 : i = 9 ∧ 1 < b.toNat
    · have hD : D (b :: l) i acc = .err 5 := by simp only [D]; rw [if_pos h9]
      rw [hD]
      refine Ev.step (f := fun k => some (0, 0, 5, str s, y1, y2)) (fun k => ?_) (Ev.now _)
      simp only [wire_Reader_next.j1]
      rw [if_pos (by simpa using h9)]
    · have hcp : b.toNat % 128 * 128 ^ i < 2 ^ 64 := by
        by_cases hi9 : i = 9
        · subst hi9
          have h1 : b.toNat % 128 ≤ 1 := by have : ¬ 1 < b.toNat := fun h => h9 ⟨rfl, h⟩; omega
          exact Nat.lt_of_le_of_lt (Nat.mul_le_mul_right _ h1) (by decide)
        · have h1 : b.toNat % 128 * 128 ^ i ≤ 127 * 128 ^ 8 := Nat.mul_le_mul (by omega) (Nat.pow_le_pow_right (by decide) (by omega))
          exact Nat.lt_of_le_of_lt h1 (by decide)
      have hw : IntKind.u64.wrap (Go.bits .and .u8 (b.toNat : Int) 127) = ((b.toNat % 128 : Nat) : Int) := by
        rw [and127 _ hb256, u64w]; omega
      have hor := or_shl acc (b.toNat % 128) i hi hacc hcp
      by_cases hl1 : b.toNat < 128
      · have hmod : b.toNat % 128 = b.toNat := Nat.mod_eq_of_lt hl1
        by_cases h0 : b.toNat = 0 ∧ 0 < i
        · have hD : D (b :: l) i acc = .err 5 := by simp only [D]; rw [if_neg h9, if_pos hl1, if_pos h0]
          rw [hD]
          refine Ev.step (f := fun k => some (0, 0, 5, str s, y1, y2)) (fun k => ?_) (Ev.now _)
          simp only [wire_Reader_next.j1]
          rw [if_neg (by simpa using h9), if_pos (by omega), if_pos (by omega), if_pos (by omega), if_pos (by omega)]
        · have hD : D (b :: l) i acc = .ok (acc + b.toNat * 128 ^ i) (i + 1) := by simp only [D]; rw [if_neg h9, if_pos hl1, if_neg h0]
          rw [hD]
          refine Ev.step (f := fun k => some (((acc + b.toNat * 128 ^ i : Nat) : Int), ((i + 1 : Nat) : Int), 0, str s, y1, y2)) (fun k => ?_) (Ev.now _)
          simp only [wire_Reader_next.j1]
          rw [if_neg (by simpa using h9), if_pos (by omega), if_pos (by omega), hw, hor, hmod]
          by_cases hz : b.toNat = 0
          · rw [if_pos (by omega), if_neg (by omega)]
          · rw [if_neg (by omega)]
      · have hD : D (b :: l) i acc = D l (i + 1) (acc + b.toNat % 128 * 128 ^ i) := by simp only [D]; rw [if_neg h9, if_neg hl1]
        rw [hD]
        have hi9 : i ≠ 9 := by rintro rfl; exact h9 ⟨rfl, by omega⟩
        have hacc' : acc + b.toNat % 128 * 128 ^ i < 128 ^ (i + 1) := by
          rw [pow_step]
          have : b.toNat % 128 * 128 ^ i ≤ 127 * 128 ^ i := Nat.mul_le_mul_right _ (by omega)
          omega
        refine Ev.step (f := fun k => wire_Reader_next.l0 k (a : Int) ((acc + b.toNat % 128 * 128 ^ i : Nat) : Int) ((i + 1 : Nat) : Int) ((7 * (i + 1) : Nat) : Int) (str s) y1 y2) (fun k => ?_) (next_loop s hs a ha y1 y2 l (i + 1) _ (by omega) (by omega) hdrop hacc')
        simp only [wire_Reader_next.j1]
        rw [if_neg (by simpa using h9), if_pos (by omega), if_neg (by omega), hw, hor, w64 (by omega) (by omega)]
        congr 1

theorem next_ev (s : List UInt8) (hs : s.length ≤ 8796093022208) (a : Nat) (ha : a ≤ s.length) (y1 y2 : Int) :
    Ev (fun k => wire_Reader_next.f k (str s) y1 y2 (a : Int)) ((outN (mU (s.drop a))).1, (outN (mU (s.drop a))).2.1, (outN (mU (s.drop a))).2.2, str s, y1, y2) :=
  next_loop s hs a ha y1 y2 (s.drop a) 0 0 (by decide) (by omega) rfl (by decide)

/-! ### signed numbers -/
theorem xor_neg1 (x : Nat) (h : x < 9223372036854775808) : Go.bits .xor .i64 (x : Int) (-1) = -(x : Int) - 1 := by
  have h1 : (BitVec.ofInt 64 (x : Int)).toNat = x := by
    rw [BitVec.ofInt_natCast, BitVec.toNat_ofNat]; exact Nat.mod_eq_of_lt (by omega)
  have h2 : (BitVec.ofInt 64 (-1)).toNat = 18446744073709551615 := by decide
  show IntKind.i64.wrap ((BitVec.ofInt 64 (x : Int) ^^^ BitVec.ofInt 64 (-1)).toNat : Int) = _
  rw [BitVec.toNat_xor, h1, h2, xor_ones x (by omega), IntKind.wrap_i64]
  omega
theorem xor_zero (x : Nat) (h : x < 9223372036854775808) : Go.bits .xor .i64 (x : Int) 0 = (x : Int) := by
  have h1 : (BitVec.ofInt 64 (x : Int)).toNat = x := by
    rw [BitVec.ofInt_natCast, BitVec.toNat_ofNat]; exact Nat.mod_eq_of_lt (by omega)
  have h2 : (BitVec.ofInt 64 0).toNat = 0 := by decide
  show IntKind.i64.wrap ((BitVec.ofInt 64 (x : Int) ^^^ BitVec.ofInt 64 0).toNat : Int) = _
  rw [BitVec.toNat_xor, h1, h2, Nat.xor_zero, IntKind.wrap_i64]
  omega
theorem unzz_code (u : Nat) (h : u < 2 ^ 64) : Go.bits .xor .i64 (wrap64 ((u : Int) / 2)) (wrap64 (-(wrap64 (Go.bits .and .u64 (u : Int) 1)))) = unzz u := by
  rw [and1 u h]
  rw [two64] at h
  have e1 : wrap64 ((u : Int) / 2) = ((u / 2 : Nat) : Int) := by unfold wrap64; omega
  rw [e1]
  unfold unzz
  by_cases hm : u % 2 = 0
  · rw [if_pos hm]
    have e2 : wrap64 (-(wrap64 ((u % 2 : Nat) : Int))) = 0 := by unfold wrap64; omega
    rw [e2]
    exact xor_zero _ (by omega)
  · rw [if_neg hm]
    have e2 : wrap64 (-(wrap64 ((u % 2 : Nat) : Int))) = -1 := by unfold wrap64; omega
    rw [e2]
    exact xor_neg1 _ (by omega)
def outI : Res Int → Int × Int × Int
  | .err e => (0, 0, e)
  | .ok n sz => (n, sz, 0)
theorem signed_ev (s : List UInt8) (hs : s.length ≤ 8796093022208) (a : Nat) (ha : a ≤ s.length) (y1 y2 lo hi : Int) :
    Ev (fun k => wire_Reader_signed.f k (str s) y1 y2 (a : Int) lo hi) ((outI (mI (s.drop a) lo hi)).1, (outI (mI (s.drop a) lo hi)).2.1, (outI (mI (s.drop a) lo hi)).2.2, str s, y1, y2) := by
  unfold wire_Reader_signed.f
  refine Ev.bind (next_ev s hs a ha y1 y2) ?_
  unfold mI
  cases hu : mU (s.drop a) with
  | err e =>
    have he : ¬ e = 0 := by rcases mU_err hu with h | h <;> omega
    simp only [outN, outI, eq_false he, if_false]
    exact Ev.now _
  | ok u sz =>
    have hc := unzz_code u (mU_sz hu).2.2.2
    simp only [outN, if_true, hc]
    by_cases h1 : unzz u < lo
    · simp only [if_pos h1, if_pos (Or.inl h1 : unzz u < lo ∨ hi < unzz u), outI]
      exact Ev.now _
    · by_cases h2 : unzz u > hi
      · simp only [if_neg h1, if_pos h2, if_pos (Or.inr h2 : unzz u < lo ∨ hi < unzz u), outI]
        exact Ev.now _
      · simp only [if_neg h1, if_neg h2, if_neg (show ¬ (unzz u < lo ∨ hi < unzz u) by omega), outI]
        exact Ev.now _
/-! ### the reads: value, string, position, error -/
def tell {α β : Type} (z : β) (g : α → β) (s : List UInt8) (a : Nat) : Res α → β × ByteArray × Int × Int
  | .err e => (z, str s, a, e)
  | .ok x sz => (g x, str s, (a + sz : Nat), 0)

theorem Uint_ev (s : List UInt8) (hs : s.length ≤ 8796093022208) (a : Nat) (ha : a ≤ s.length) :
    Ev (fun k => wire_Reader_Uint.f k (str s) (a : Int) 0) (tell 0 (fun n : Nat => (n : Int)) s a (mU (s.drop a))) := by
  unfold wire_Reader_Uint.f wire_Reader_ready.f
  simp only [Option.bind_some, beq_self_eq_true, if_true]
  refine Ev.bind (next_ev s hs a ha (a : Int) 0) ?_
  cases hu : mU (s.drop a) with
  | err e =>
    have he : ¬ e = 0 := by rcases mU_err hu with h | h <;> omega
    simp only [outN, eq_false he, if_false, tell]
    exact Ev.now _
  | ok n sz =>
    have h := mU_sz hu
    have hl : sz + a ≤ s.length := by have := h.2.1; simp at this; omega
    simp only [outN, if_true, tell]
    rw [w64 (by omega) (by omega)]
    exact Ev.now _
theorem Int_ev (s : List UInt8) (hs : s.length ≤ 8796093022208) (a : Nat) (ha : a ≤ s.length) (lo hi : Int) :
    Ev (fun k => wire_Reader_Int.f k (str s) (a : Int) 0 lo hi) (tell 0 (fun n : Int => n) s a (mI (s.drop a) lo hi)) := by
  unfold wire_Reader_Int.f wire_Reader_ready.f
  simp only [Option.bind_some, beq_self_eq_true, if_true]
  refine Ev.bind (signed_ev s hs a ha (a : Int) 0 lo hi) ?_
  cases hu : mI (s.drop a) lo hi with
  | err e =>
    have he : ¬ e = 0 := by rcases mI_err hu with h | h | h <;> omega
    simp only [outI, eq_false he, if_false, tell]
    exact Ev.now _
  | ok n sz =>
    have h := mI_ok hu
    have hl : sz + a ≤ s.length := by have := h.2.1; simp at this; omega
    simp only [outI, if_true, tell]
    rw [w64 (by omega) (by omega)]
    exact Ev.now _

/-- What 'count' tells. -/
theorem count_ev (s : List UInt8) (hs : s.length ≤ 8796093022208) (a : Nat) (ha : a ≤ s.length) (most : Int) (hm : I64 most) :
    Ev (fun k => wire_Reader_count.f k (str s) (a : Int) 0 most) (match mU (s.drop a) with
      | .err e => (0, (a : Int), str s, (a : Int), e)
      | .ok n sz => (wrap64 n, ((a + sz : Nat) : Int), str s, (a : Int), if most < 0 ∨ most < n then 4 else 0)) := by
  unfold wire_Reader_count.f
  refine Ev.bind (next_ev s hs a ha (a : Int) 0) ?_
  obtain ⟨hm0, hm1⟩ := hm
  cases hu : mU (s.drop a) with
  | err e =>
    have he : ¬ e = 0 := by rcases mU_err hu with h | h <;> omega
    simp only [outN, eq_false he, if_false]
    rw [w64 (by omega) (by omega), w64 (by omega) (by omega)]
    simp only [Int.add_zero]
    exact Ev.now _
  | ok n sz =>
    have h := mU_sz hu
    have hl : sz + a ≤ s.length := by have := h.2.1; simp at this; omega
    simp only [outN, if_true]
    rw [w64 (x := (a : Int) + (sz : Int)) (by omega) (by omega)]
    by_cases h1 : most < 0
    · simp only [if_pos h1, if_pos (Or.inl h1 : most < 0 ∨ most < (n : Int))]
      exact Ev.now _
    · have hw : IntKind.u64.wrap most = most := by rw [u64w]; omega
      simp only [if_neg h1, hw]
      by_cases h2 : (n : Int) > most
      · simp only [if_pos h2, if_pos (Or.inr h2 : most < 0 ∨ most < (n : Int))]
        exact Ev.now _
      · simp only [if_neg h2, if_neg (show ¬ (most < 0 ∨ most < (n : Int)) by omega)]
        exact Ev.now _

theorem Text_ev (s : List UInt8) (hs : s.length ≤ 8796093022208) (a : Nat) (ha : a ≤ s.length) (most : Int) (hm : I64 most) :
    Ev (fun k => wire_Reader_Text.f k (str s) (a : Int) 0 most) (tell (str []) str s a (mT (s.drop a) most)) := by
  unfold wire_Reader_Text.f wire_Reader_ready.f
  simp only [Option.bind_some, beq_self_eq_true, if_true]
  refine Ev.bind (count_ev s hs a ha most hm) ?_
  obtain ⟨hm0, hm1⟩ := hm
  unfold mT
  cases hu : mU (s.drop a) with
  | err e =>
    have he : ¬ e = 0 := by rcases mU_err hu with h | h <;> omega
    simp only [eq_false he, if_false, tell]
    refine Ev.step (f := fun k => some (str [], str s, (a : Int), e)) (fun k => ?_) (Ev.now _)
    simp only [wire_Reader_Text.j0]
    rw [if_neg (by simp), if_neg he]
    rfl
  | ok n sz =>
    have h := mU_sz hu
    have hdl : (s.drop a).length = s.length - a := by simp
    have hl : sz + a ≤ s.length := by have := h.2.1; omega
    simp only
    by_cases hc : most < 0 ∨ most < (n : Int)
    · simp only [if_pos hc, if_neg (show ¬ (4 : Int) = 0 by decide), tell]
      refine Ev.step (f := fun k => some (str [], str s, (a : Int), 4)) (fun k => ?_) (Ev.now _)
      simp only [wire_Reader_Text.j0]
      rw [if_neg (by simp), if_neg (by decide)]
      rfl
    · have hn : wrap64 (n : Int) = (n : Int) := w64 (by omega) (by omega)
      simp only [if_neg hc, if_true, hn, str_size]
      rw [w64 (by omega) (by omega)]
      by_cases hs2 : (s.drop a).length - sz < n
      · simp only [if_pos hs2, tell]
        refine Ev.step (f := fun k => some (str [], str s, (a : Int), 3)) (fun k => ?_) (Ev.now _)
        simp only [wire_Reader_Text.j0]
        rw [if_pos (by simp; omega)]
        rfl
      · simp only [if_neg hs2, tell]
        refine Ev.step (f := fun k => some (str ((((s.drop a).drop sz)).take n), str s, ((a + (sz + n) : Nat) : Int), 0)) (fun k => ?_) (Ev.now _)
        simp only [wire_Reader_Text.j0]
        rw [if_neg (by simp; omega), if_pos trivial, if_pos (by omega), w64 (by omega) (by omega), if_pos (by omega), if_pos (by rw [str_size]; omega), str_extract]
        have e1 : (((a + sz : Nat) : Int) + (n : Int)).toNat - ((a + sz : Nat) : Int).toNat = n := by omega
        have e2 : ((a + sz : Nat) : Int).toNat = a + sz := by omega
        rw [e1, e2, List.drop_drop]
        have e3 : ((a + sz : Nat) : Int) + (n : Int) = ((a + (sz + n) : Nat) : Int) := by omega
        rw [e3]
end Go.Proofs.Ytpbekhkmeaaejaa.Model
