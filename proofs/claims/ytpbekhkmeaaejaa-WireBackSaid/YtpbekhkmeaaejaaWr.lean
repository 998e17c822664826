/- 'write' of a field comes to its encoding. -/
import Derived.Test.YtpbekhkmeaaejaaPAllx19
import Derived.Test.YtpbekhkmeaaejaaWf
namespace Go.Proofs.Ytpbekhkmeaaejaa.Model
open Go.RowKit Go.Proofs.Ytpbekhkmeaaejaa.PAll Go.Proofs.YtpbekhkmeaaejaaW.PrintWords Go.Proofs.YtpbekhkmeaaejaaW.PrintLast
/-- 'write' of a field. -/
theorem write_ev (kind : Int) (v : Val) (hn : 0 ≤ v.n ∧ v.n.toNat < 2 ^ 64) (hi : I64 v.i) (ht : v.t.length ≤ 8796093022208) (hl : v.l.length ≤ 8796093022208) (h : ∀ x ∈ v.l, I64 x) :
    Ev (fun k => sawmilllaw05_write.f k kind v.n v.i (str v.t) v.l) (str (wr kind v)) := by
  unfold sawmilllaw05_write.f wr
  by_cases k0 : kind = 0
  · simp only [if_pos k0]
    have e : v.n = ((v.n.toNat : Nat) : Int) := by omega
    have := uint_ev v.n.toNat hn.2
    rw [← e] at this
    exact Ev.bind this (Ev.now _)
  · by_cases k1 : kind = 1
    · simp only [if_neg k0, if_pos k1]
      exact Ev.bind (int_ev v.i hi) (Ev.now _)
    · by_cases k2 : kind = 2
      · simp only [if_neg k0, if_neg k1, if_pos k2]
        exact Ev.bind (text_ev v.t ht) (Ev.now _)
      · simp only [if_neg k0, if_neg k1, if_neg k2]
        exact Ev.bind (ints_ev v.l hl h) (Ev.now _)
end Go.Proofs.Ytpbekhkmeaaejaa.Model
