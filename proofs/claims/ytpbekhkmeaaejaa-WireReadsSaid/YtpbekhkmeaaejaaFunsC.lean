/- The reads of lists, the reference's reads, and a read of any kind: the plain reads of YtpbekhkmeaaejaaModel. -/
import Derived.Test.YtpbekhkmeaaejaaPAllx3
import Derived.Test.YtpbekhkmeaaejaaPAllx4
import Derived.Test.YtpbekhkmeaaejaaPAllx5
import Derived.Test.YtpbekhkmeaaejaaPAllx6
import Derived.Test.YtpbekhkmeaaejaaPAllx12
import Derived.Test.YtpbekhkmeaaejaaPAllx17
import Derived.Test.YtpbekhkmeaaejaaFunsB
namespace Go.Proofs.Ytpbekhkmeaaejaa.Model
open Go.RowKit Go.Proofs.Ytpbekhkmeaaejaa.PAll Go.Proofs.YtpbekhkmeaaejaaW.PrintWords Go.Proofs.YtpbekhkmeaaejaaW.PrintLast Go.Proofs.YtpbekhkmeaaejaaW.PrintMore

theorem Ints_loop (s : List UInt8) (hs : s.length ≤ 8796093022208) (a : Nat) (lo hi : Int) : ∀ (m b : Nat) (xs : List Int), b ≤ s.length → xs.length ≤ b → xs.length + m ≤ 9223372036854775807 →
    Ev (fun k => wire_Reader_Ints.l0 k lo hi ((xs.length + m : Nat) : Int) (b : Int) xs (str s) (a : Int) 0) (match mLs lo hi m (s.drop b) with
      | .err e => ([], str s, (a : Int), e)
      | .ok l sz => (xs ++ l, str s, ((b + sz : Nat) : Int), 0))
  | 0, b, xs, hb, hx, hN => by
    refine Ev.step (f := fun k => some (xs ++ [], str s, ((b + 0 : Nat) : Int), 0)) (fun k => ?_) (Ev.now _)
    simp only [wire_Reader_Ints.l0]
    rw [if_pos trivial, if_neg (by omega)]
    simp
  | m + 1, b, xs, hb, hx, hN => by
    refine Ev.step (f := fun k => (wire_Reader_signed.f k (str s) (a : Int) 0 (b : Int) lo hi).bind fun t => wire_Reader_Ints.l0 k lo hi ((xs.length + (m + 1) : Nat) : Int) (wrap64 ((b : Int) + t.2.1)) (xs ++ [t.1]) t.2.2.2.1 t.2.2.2.2.1 t.2.2.1) (fun k => ?_) ?_
    · simp only [wire_Reader_Ints.l0]
      rw [if_pos trivial, if_pos (by omega)]
      simp only [if_pos (show xs.length < 17592186044416 by omega)]
    · refine Ev.bind (signed_ev s hs b hb (a : Int) 0 lo hi) ?_
      unfold mLs
      cases hu : mI (s.drop b) lo hi with
      | err e =>
        have he : ¬ e = 0 := by rcases mI_err hu with h | h | h <;> omega
        simp only [outI]
        refine Ev.step (f := fun k => some ([], str s, (a : Int), e)) (fun k => ?_) (Ev.now _)
        simp only [wire_Reader_Ints.l0]
        rw [if_neg he]
      | ok x sz =>
        have h := mI_ok hu
        have hl : b + sz ≤ s.length := by have := h.2.1; simp at this; omega
        simp only [outI]
        rw [w64 (by omega) (by omega)]
        have e1 : (b : Int) + (sz : Int) = ((b + sz : Nat) : Int) := by omega
        have e2 : xs.length + (m + 1) = (xs ++ [x]).length + m := by simp; omega
        have := Ints_loop s hs a lo hi m (b + sz) (xs ++ [x]) hl (by simp; omega) (by simp; omega)
        rw [e1, e2]
        rw [List.drop_drop]
        cases hr : mLs lo hi m (s.drop (b + sz)) with
        | err e => rw [hr] at this; exact this
        | ok l sz' =>
          rw [hr] at this
          simp only at this ⊢
          rw [List.append_assoc] at this
          rw [← Nat.add_assoc]
          exact this

theorem Ints_ev (s : List UInt8) (hs : s.length ≤ 8796093022208) (a : Nat) (ha : a ≤ s.length) (most lo hi : Int) (hm : I64 most) :
    Ev (fun k => wire_Reader_Ints.f k (str s) (a : Int) 0 most lo hi) (tell [] (fun l : List Int => l) s a (mL (s.drop a) most lo hi)) := by
  unfold wire_Reader_Ints.f wire_Reader_ready.f
  simp only [Option.bind_some, beq_self_eq_true, if_true]
  refine Ev.bind (count_ev s hs a ha most hm) ?_
  obtain ⟨hm0, hm1⟩ := hm
  unfold mL
  cases hu : mU (s.drop a) with
  | err e =>
    have he : ¬ e = 0 := by rcases mU_err hu with h | h <;> omega
    simp only [tell]
    refine Ev.step (f := fun k => some ([], str s, (a : Int), e)) (fun k => ?_) (Ev.now _)
    simp only [wire_Reader_Ints.l0]
    rw [if_neg he]
  | ok n sz =>
    have h := mU_sz hu
    have hdl : (s.drop a).length = s.length - a := by simp
    have hl : sz + a ≤ s.length := by have := h.2.1; omega
    simp only
    by_cases hc : most < 0 ∨ most < (n : Int)
    · simp only [if_pos hc, tell]
      refine Ev.step (f := fun k => some ([], str s, (a : Int), 4)) (fun k => ?_) (Ev.now _)
      simp only [wire_Reader_Ints.l0]
      rw [if_neg (by decide)]
    · have hn : wrap64 (n : Int) = (n : Int) := w64 (by omega) (by omega)
      simp only [if_neg hc, hn]
      have := Ints_loop s hs a lo hi n (a + sz) [] (by omega) (by simp) (by simp; omega)
      rw [List.drop_drop]
      simp only [List.length_nil, Nat.zero_add, List.nil_append] at this
      cases hr : mLs lo hi n (s.drop (a + sz)) with
      | err e => rw [hr] at this; exact this
      | ok l sz' =>
        rw [hr] at this
        simp only [tell] at this ⊢
        rw [← Nat.add_assoc]
        exact this

/-! ### a read of any kind -/
/-- What 'read' tells: the field, and the reader. -/
def tellV (kind : Int) (v : Val) (s : List UInt8) (a : Nat) (e : Int) : Int × Int × Int × ByteArray × List Int × ByteArray × Int × Int :=
  (kind, v.n, v.i, str v.t, v.l, str s, a, e)
def after (a : Nat) : Res Val → Val × Nat × Int
  | .err e => (v0, a, e)
  | .ok v sz => (v, a + sz, 0)

theorem read_ev (s : List UInt8) (hs : s.length ≤ 8796093022208) (a : Nat) (ha : a ≤ s.length) (kind lo hi most : Int) (hm : I64 most) :
    Ev (fun k => sawmilllaw05_read.f k (str s) (a : Int) 0 kind lo hi most) (tellV kind (after a (mRead (s.drop a) kind lo hi most)).1 s (after a (mRead (s.drop a) kind lo hi most)).2.1 (after a (mRead (s.drop a) kind lo hi most)).2.2) := by
  unfold sawmilllaw05_read.f mRead
  by_cases k0 : kind = 0
  · simp only [if_pos k0]
    refine Ev.bind (Uint_ev s hs a ha) ?_
    cases mU (s.drop a) <;> exact Ev.now _
  · by_cases k1 : kind = 1
    · simp only [if_neg k0, if_pos k1]
      refine Ev.bind (Int_ev s hs a ha lo hi) ?_
      cases mI (s.drop a) lo hi <;> exact Ev.now _
    · by_cases k2 : kind = 2
      · simp only [if_neg k0, if_neg k1, if_pos k2]
        refine Ev.bind (Text_ev s hs a ha most hm) ?_
        cases mT (s.drop a) most <;> exact Ev.now _
      · simp only [if_neg k0, if_neg k1, if_neg k2]
        refine Ev.bind (Ints_ev s hs a ha most lo hi hm) ?_
        cases mL (s.drop a) most lo hi <;> exact Ev.now _

theorem read_after (s : ByteArray) (a e : Int) (he : ¬ e = 0) (kind lo hi most : Int) : Ev (fun k => sawmilllaw05_read.f k s a e kind lo hi most) (kind, 0, 0, str [], [], s, a, e) := by
  have hb : (e == 0) = false := by simpa using he
  unfold sawmilllaw05_read.f wire_Reader_Uint.f wire_Reader_Int.f wire_Reader_Text.f wire_Reader_Ints.f wire_Reader_ready.f
  simp only [Option.bind_some, hb, Bool.false_eq_true, if_false]
  by_cases k0 : kind = 0
  · simp only [if_pos k0]; exact Ev.now _
  · by_cases k1 : kind = 1
    · simp only [if_neg k0, if_pos k1]; exact Ev.now _
    · by_cases k2 : kind = 2
      · simp only [if_neg k0, if_neg k1, if_pos k2]; exact Ev.now _
      · simp only [if_neg k0, if_neg k1, if_neg k2]; exact Ev.now _

/-- The reader's end of the state: what both sides tell. -/
theorem after_le {s : List UInt8} {a : Nat} (ha : a ≤ s.length) (kind lo hi most : Int) : (after a (mRead (s.drop a) kind lo hi most)).2.1 ≤ s.length := by
  cases h : mRead (s.drop a) kind lo hi most with
  | err e => exact ha
  | ok v sz =>
    have := (mRead_ok h).2.1
    simp at this
    simp only [after]
    omega

theorem same_loop (l : List Int) (hl : l.length ≤ 8796093022208) : ∀ (d i : Nat), i + d = l.length → Ev (fun k => sawmillref05_Same.l0 k l l (i : Int)) true
  | 0, i, hd => by
    refine Ev.step (f := fun k => some true) (fun k => ?_) (Ev.now _)
    simp only [sawmillref05_Same.l0]
    rw [if_neg (by omega)]
  | d + 1, i, hd => by
    refine Ev.step (f := fun k => sawmillref05_Same.l0 k l l ((i + 1 : Nat) : Int)) (fun k => ?_) (same_loop l hl d (i + 1) (by omega))
    simp only [sawmillref05_Same.l0]
    rw [if_pos (by omega), if_pos (by omega), if_pos (by omega), if_true, w64 (by omega) (by omega)]
    rfl
theorem same_refl (l : List Int) (hl : l.length ≤ 8796093022208) : Ev (fun k => sawmillref05_Same.f k l l) true := by
  unfold sawmillref05_Same.f
  simp only [if_true]
  exact same_loop l hl l.length 0 (by omega)
end Go.Proofs.Ytpbekhkmeaaejaa.Model
