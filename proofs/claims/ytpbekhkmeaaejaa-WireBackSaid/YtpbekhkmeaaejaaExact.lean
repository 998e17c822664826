/- The narrowest limits that a field meets, and that a field is read back with them, and a cut one is refused. -/
import Derived.Test.YtpbekhkmeaaejaaPAllx19
import Derived.Test.YtpbekhkmeaaejaaPAllx20
import Derived.Test.YtpbekhkmeaaejaaWr
namespace Go.Proofs.Ytpbekhkmeaaejaa.Model
open Go.RowKit Go.Proofs.Ytpbekhkmeaaejaa.PAll Go.Proofs.YtpbekhkmeaaejaaW.PrintWords Go.Proofs.YtpbekhkmeaaejaaW.PrintLast Go.Proofs.YtpbekhkmeaaejaaW.PrintMore

/-- A field, with what is known of it. -/
structure Fit (kind : Int) (v : Val) : Prop where
  k0 : 0 ≤ kind
  n0 : 0 ≤ v.n
  n1 : v.n.toNat < 2 ^ 64
  i : I64 v.i
  t : v.t.length ≤ 3000
  l : v.l.length ≤ 300
  ls : ∀ x ∈ v.l, I64 x
def lows (m : Int) (l : List Int) : Int := l.foldl (fun a b => mn a b) m
def highs (m : Int) (l : List Int) : Int := l.foldl (fun a b => mx a b) m
theorem mn_le (a b : Int) : mn a b ≤ a ∧ mn a b ≤ b := by unfold mn; split <;> omega
theorem mx_le (a b : Int) : a ≤ mx a b ∧ b ≤ mx a b := by unfold mx; split <;> omega
theorem lows_le : ∀ (l : List Int) (m : Int), lows m l ≤ m ∧ ∀ x ∈ l, lows m l ≤ x
  | [], m => ⟨Int.le_refl _, fun x hx => by simp at hx⟩
  | y :: l, m => by
    obtain ⟨h1, h2⟩ := lows_le l (mn m y)
    obtain ⟨h3, h4⟩ := mn_le m y
    refine ⟨Int.le_trans h1 h3, fun x hx => ?_⟩
    rcases List.mem_cons.1 hx with rfl | hx
    · exact Int.le_trans h1 h4
    · exact h2 x hx
theorem highs_le : ∀ (l : List Int) (m : Int), m ≤ highs m l ∧ ∀ x ∈ l, x ≤ highs m l
  | [], m => ⟨Int.le_refl _, fun x hx => by simp at hx⟩
  | y :: l, m => by
    obtain ⟨h1, h2⟩ := highs_le l (mx m y)
    obtain ⟨h3, h4⟩ := mx_le m y
    refine ⟨Int.le_trans h3 h1, fun x hx => ?_⟩
    rcases List.mem_cons.1 hx with rfl | hx
    · exact Int.le_trans h4 h1
    · exact h2 x hx
theorem exact_loop (kind n i : Int) (t : ByteArray) (l : List Int) (hl : l.length ≤ 300) (k2 m : Int) : ∀ (d j : Nat) (lo hi : Int), j + d = l.length →
    Ev (fun k => sawmilllaw05_exact.l0 k (j : Int) kind n i t l k2 lo hi m) (k2, lows lo (l.drop j), highs hi (l.drop j), m)
  | 0, j, lo, hi, hd => by
    refine Ev.step (f := fun k => some (k2, lows lo (l.drop j), highs hi (l.drop j), m)) (fun k => ?_) (Ev.now _)
    simp only [sawmilllaw05_exact.l0]
    rw [if_neg (by omega), List.drop_of_length_le (by omega)]
    rfl
  | d + 1, j, lo, hi, hd => by
    have hj : j < l.length := by omega
    refine Ev.step (f := fun k => sawmilllaw05_exact.l0 k ((j + 1 : Nat) : Int) kind n i t l k2 (mn lo l[j]) (mx hi l[j]) m) (fun k => ?_) ?_
    · simp only [sawmilllaw05_exact.l0]
      rw [if_pos (by omega), if_pos (by omega), rd_get l j _ (List.getElem?_eq_getElem hj), w64 (by omega) (by omega)]
      rfl
    · have := exact_loop kind n i t l hl k2 m d (j + 1) (mn lo l[j]) (mx hi l[j]) (by omega)
      rw [List.drop_eq_getElem_cons hj]
      exact this
/-- The limits. -/
def limLo (kind : Int) (v : Val) : Int := if kind > 2 then lows 9223372036854775807 v.l else v.i
def limHi (kind : Int) (v : Val) : Int := if kind > 2 then highs (-9223372036854775808) v.l else v.i
def limMost (kind : Int) (v : Val) : Int := if kind > 2 then (v.l.length : Int) else (v.t.length : Int)
theorem exact_ev (kind : Int) (v : Val) (h : Fit kind v) : Ev (fun k => sawmilllaw05_exact.f k kind v.n v.i (str v.t) v.l) (kind, limLo kind v, limHi kind v, limMost kind v) := by
  unfold sawmilllaw05_exact.f limLo limHi limMost
  by_cases c : kind > 2
  · simp only [if_pos c]
    exact exact_loop kind v.n v.i (str v.t) v.l h.l kind _ v.l.length 0 _ _ (by omega)
  · simp only [if_neg c, str_size]
    exact Ev.now _
theorem limMost_i64 (kind : Int) (v : Val) (h : Fit kind v) : I64 (limMost kind v) := by
  have := h.t; have := h.l
  unfold limMost I64
  split <;> omega
/-- What is read back of a field. -/
def back (kind : Int) (v : Val) : Val := if kind = 0 then ⟨v.n, 0, [], []⟩ else if kind = 1 then ⟨0, v.i, [], []⟩ else if kind = 2 then ⟨0, 0, v.t, []⟩ else ⟨0, 0, [], v.l⟩
theorem kind3 {kind : Int} (h : 0 ≤ kind) (k0 : ¬ kind = 0) (k1 : ¬ kind = 1) (k2 : ¬ kind = 2) : kind > 2 := by omega
theorem len64 {n : Nat} (h : n ≤ 3000) : n < 2 ^ 64 := by rw [two64]; omega
theorem ls_fit {kind : Int} {v : Val} (h : Fit kind v) : ∀ x ∈ v.l, I64 x ∧ lows 9223372036854775807 v.l ≤ x ∧ x ≤ highs (-9223372036854775808) v.l :=
  fun x hx => ⟨h.ls x hx, (lows_le v.l _).2 x hx, (highs_le v.l _).2 x hx⟩
theorem back_read (kind : Int) (v : Val) (h : Fit kind v) (rest : List UInt8) : mRead (wr kind v ++ rest) kind (limLo kind v) (limHi kind v) (limMost kind v) = .ok (back kind v) (wr kind v).length := by
  unfold mRead wr back limLo limHi limMost
  by_cases k0 : kind = 0
  · simp only [if_pos k0]
    rw [mU_enc _ h.n1]
    have := h.n0
    have e : ((v.n.toNat : Nat) : Int) = v.n := by omega
    simp only [e]
  · by_cases k1 : kind = 1
    · simp only [if_neg k0, if_pos k1, if_neg (show ¬ kind > 2 by omega)]
      rw [mI_enc v.i v.i v.i h.i (Int.le_refl _) (Int.le_refl _)]
    · by_cases k2 : kind = 2
      · simp only [if_neg k0, if_neg k1, if_pos k2, if_neg (show ¬ kind > 2 by omega)]
        rw [mT_enc v.t _ (len64 h.t) (Int.le_refl _)]
      · simp only [if_neg k0, if_neg k1, if_neg k2, if_pos (kind3 h.k0 k0 k1 k2)]
        rw [mL_enc v.l _ _ _ (len64 (by have := h.l; omega)) (Int.le_refl _) (ls_fit h)]
theorem cut_read (kind : Int) (v : Val) (h : Fit kind v) (j : Nat) (hj : j < (wr kind v).length) : mRead ((wr kind v).take j) kind (limLo kind v) (limHi kind v) (limMost kind v) = .err 3 := by
  unfold mRead wr limLo limHi limMost at *
  by_cases k0 : kind = 0
  · simp only [if_pos k0] at hj ⊢
    rw [mU_cut _ h.n1 j hj]
  · by_cases k1 : kind = 1
    · simp only [if_neg k0, if_pos k1, if_neg (show ¬ kind > 2 by omega)] at hj ⊢
      rw [mI_cut v.i v.i v.i h.i j hj]
    · by_cases k2 : kind = 2
      · simp only [if_neg k0, if_neg k1, if_pos k2, if_neg (show ¬ kind > 2 by omega)] at hj ⊢
        rw [mT_cut v.t _ (len64 h.t) (Int.le_refl _) j hj]
      · simp only [if_neg k0, if_neg k1, if_neg k2, if_pos (kind3 h.k0 k0 k1 k2)] at hj ⊢
        rw [mL_cut v.l _ _ _ (len64 (by have := h.l; omega)) (Int.le_refl _) (ls_fit h) j hj]
theorem wr_len (kind : Int) (v : Val) (h : Fit kind v) : 0 < (wr kind v).length ∧ (wr kind v).length ≤ 3100 := by
  have ht := h.t
  have hl := h.l
  unfold wr
  by_cases k0 : kind = 0
  · rw [if_pos k0]
    exact ⟨encN_pos _, Nat.le_trans (encN_len10 h.n1) (by decide)⟩
  · rw [if_neg k0]
    by_cases k1 : kind = 1
    · rw [if_pos k1]
      exact ⟨encN_pos _, Nat.le_trans (encN_len10 (zz_lt h.i.1 h.i.2)) (by decide)⟩
    · rw [if_neg k1]
      by_cases k2 : kind = 2
      · rw [if_pos k2]
        have h1 := encN_pos v.t.length
        have h2 := encN_len10 (len64 ht)
        simp only [encT, List.length_append]
        omega
      · rw [if_neg k2]
        have h1 := encN_pos v.l.length
        have h2 := encN_len10 (n := v.l.length) (len64 (by omega))
        have h3 := encIs_len v.l h.ls
        simp only [encL, List.length_append]
        omega
theorem write_fit (kind : Int) (v : Val) (h : Fit kind v) : Ev (fun k => sawmilllaw05_write.f k kind v.n v.i (str v.t) v.l) (str (wr kind v)) :=
  write_ev kind v ⟨h.n0, h.n1⟩ h.i (by have := h.t; omega) (by have := h.l; omega) h.ls
theorem small_f (kind n i : Int) (t : List UInt8) (l : List Int) : sawmilllaw05_small.f kind n i (str t) l = some (decide (t.length ≤ 3000 ∧ l.length ≤ 300)) := by
  unfold sawmilllaw05_small.f
  rw [str_size]
  by_cases h : (t.length : Int) ≤ 3000
  · rw [if_pos h]
    congr 1
    simp only [decide_eq_decide]
    omega
  · rw [if_neg h]
    congr 1
    symm
    simp only [decide_eq_false_iff_not]
    omega
end Go.Proofs.Ytpbekhkmeaaejaa.Model
