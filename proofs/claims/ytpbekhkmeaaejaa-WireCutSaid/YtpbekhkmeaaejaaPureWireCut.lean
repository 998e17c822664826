/- A proper prefix of the encoding of a field is refused with ErrShort, and nothing of it is consumed: the plain statement. -/
import Derived.Test.YtpbekhkmeaaejaaPAllx0
import Derived.Test.YtpbekhkmeaaejaaPAllx3
import Derived.Test.YtpbekhkmeaaejaaPAllx5
import Derived.Test.YtpbekhkmeaaejaaPAllx12
import Derived.Test.YtpbekhkmeaaejaaPAllx20
import Derived.Test.YtpbekhkmeaaejaaPAllx23
import Derived.Test.YtpbekhkmeaaejaaPAllx25
import Derived.Test.YtpbekhkmeaaejaaExact
namespace Go.Proofs.Ytpbekhkmeaaejaa.Pure
open Go.RowKit Go.Proofs.Ytpbekhkmeaaejaa.PAll Go.Proofs.YtpbekhkmeaaejaaW.PrintWords Go.Proofs.YtpbekhkmeaaejaaW.PrintLast Go.Proofs.YtpbekhkmeaaejaaW.PrintMore Go.Proofs.Ytpbekhkmeaaejaa.Model

theorem wf_u16 {n : Int} (h : (Lit.int .u16 n).wf = true) : 0 ≤ n ∧ n ≤ 65535 := by
  simp [Lit.wf, IntKind.min, IntKind.max, IntKind.signed, IntKind.bits] at h
  omega
theorem zero_v0 (kind : Int) : sawmilllaw05_zero.f kind 0 0 (str []) [] = some true := by
  unfold sawmilllaw05_zero.f
  simp [str_toList]
theorem cut_end (kind : Int) (s : List UInt8) (hs : s.length ≤ 8796093022208) (j : Nat) (hj : s.length = j) :
    Ev (fun _ => (sawmilllaw05_zero.f kind 0 0 (str []) []).bind fun z => if z = true then ((wire_Reader_Err.f (str s) ((0 : Nat) : Int) 3).bind fun d =>
        if d.1 = 3 then ((wire_Reader_Left.f d.2.1 d.2.2.1 d.2.2.2).bind fun e => if e.1 = (j : Int) then (some true) else (some false)) else (some false)) else (some false)) true := by
  have hlf := left_f s hs 0 (Nat.zero_le _) 3
  rw [Nat.sub_zero, hj] at hlf
  rw [zero_v0]
  refine Ev.bind (Ev.now true) ?_
  rw [if_pos rfl]
  refine Ev.bind (Ev.now (3, str s, ((0 : Nat) : Int), 3)) ?_
  rw [if_pos rfl]
  refine Ev.bind (a := ((j : Int), str s, ((0 : Nat) : Int), 3)) ⟨0, fun _ _ => hlf⟩ ?_
  rw [if_pos rfl]
  exact Ev.now _
/-- The rest of the law, at the first j bytes of a field's encoding. -/
theorem cut_tail (kind : Int) (v : Val) (hf : Fit kind v) (w : List UInt8) (hw : wr kind v = w) (p1 : w.length ≤ 3100) (j : Nat) (hj : j < w.length) :
    Ev (fun k => (sawmilllaw05_exact.f k kind v.n v.i (str v.t) v.l).bind fun b => (sawmilllaw05_read.f k (str (w.take j)) 0 0 b.1 b.2.1 b.2.2.1 b.2.2.2).bind fun c =>
      (sawmilllaw05_zero.f c.1 c.2.1 c.2.2.1 c.2.2.2.1 c.2.2.2.2.1).bind fun z => if z = true then ((wire_Reader_Err.f c.2.2.2.2.2.1 c.2.2.2.2.2.2.1 c.2.2.2.2.2.2.2).bind fun d =>
        if d.1 = 3 then ((wire_Reader_Left.f d.2.1 d.2.2.1 d.2.2.2).bind fun e => if e.1 = (j : Int) then (some true) else (some false)) else (some false)) else (some false)) true := by
  have hcl : (w.take j).length = j := by rw [List.length_take]; omega
  refine Ev.bind (exact_ev kind v hf) ?_
  have hr := read_ev (w.take j) (by omega) 0 (by omega) kind (limLo kind v) (limHi kind v) (limMost kind v) (limMost_i64 kind v hf)
  have hc := cut_read kind v hf j (by rw [hw]; exact hj)
  rw [hw] at hc
  rw [List.drop_zero, hc] at hr
  refine Ev.bind hr ?_
  exact cut_end kind (w.take j) (by omega) j hcl
theorem cut_all (kind : Int) (v : Val) (a1 : Int) (ha1 : 0 ≤ a1 ∧ a1 ≤ 65535) (hk : 0 ≤ kind) (hn0 : 0 ≤ v.n) (hn1 : v.n.toNat < 2 ^ 64) (hi : I64 v.i) (hl : ∀ x ∈ v.l, I64 x) :
    Ev (fun k => sawmilllaw05_WireCut.f k kind v.n v.i (str v.t) v.l a1) true := by
  unfold sawmilllaw05_WireCut.f
  simp only [small_f, Option.bind_some, decide_eq_true_eq]
  by_cases hs : v.t.length ≤ 3000 ∧ v.l.length ≤ 300
  · simp only [if_pos hs]
    have hf : Fit kind v := ⟨hk, hn0, hn1, hi, hs.1, hs.2, hl⟩
    obtain ⟨p0, p1⟩ := wr_len kind v hf
    refine Ev.bind (write_fit kind v hf) ?_
    generalize hw : wr kind v = w at p0 p1
    have ej : Int.tmod (wrap64 a1) (w.length : Int) = ((a1.toNat % w.length : Nat) : Int) := by
      rw [w64 (by omega) (by omega), Int.tmod_eq_emod_of_nonneg (by omega)]
      have e : a1 = ((a1.toNat : Nat) : Int) := by omega
      rw [e, Int.toNat_natCast, Int.natCast_emod]
    have hj : a1.toNat % w.length < w.length := Nat.mod_lt _ p0
    generalize a1.toNat % w.length = j at ej hj
    have hcl : (w.take j).length = j := by rw [List.length_take]; omega
    have hex : (str w).extract 0 ((j : Nat) : Int).toNat = str (w.take j) := by rw [str_extract]; simp
    simp only [str_size, ej, if_neg (show ¬ (w.length : Int) = 0 by omega), if_pos (show (0 : Int) ≤ (j : Int) by omega), if_pos (show (j : Int) ≤ (w.length : Int) by omega), hex, wire_NewReader.f, Option.bind_some, hcl, awake_ev]
    exact cut_tail kind v hf w hw p1 j hj
  · simp only [if_neg hs, awake_ev, Option.bind_some]
    exact Ev.now _

theorem WireCut : ∀ (x0 : S45) (a1 : Int), ((Lit.int .u8 x0.f0).wf = true ∧ (Lit.int .u64 x0.f1).wf = true ∧ (Lit.int .i64 x0.f2).wf = true ∧ x0.f3.size ≤ 140737488351232 ∧ (x0.f4.length * 8 ≤ 140737488351232 ∧ ∀ y ∈ x0.f4, (Lit.int .i64 y).wf = true)) → (Lit.int .u16 a1).wf = true → ∃ k, sawmilllaw05_WireCut.f k x0.f0 x0.f1 x0.f2 x0.f3 x0.f4 a1 = some true := by
  intro x0 a1 hx h1
  obtain ⟨x, x1, x2, x3, x4⟩ := x0
  obtain ⟨g0, g1, g2, g3, g4, g5⟩ := hx
  simp only at g0 g1 g2 g3 g4 g5 ⊢
  obtain ⟨s, rfl⟩ : ∃ s, x3 = str s := ⟨_, (str_data x3).symm⟩
  obtain ⟨n, rfl, hn⟩ := wf_u64 g1
  refine Ev.rounds (r := true) ?_
  exact cut_all x ⟨n, x2, s, x4⟩ a1 (wf_u16 h1) (wf_u8 g0).1 (Int.natCast_nonneg n) (by rw [Int.toNat_natCast]; exact hn) (wf_i64 g2) (fun y hy => wf_i64 (g5 y hy))
end Go.Proofs.Ytpbekhkmeaaejaa.Pure
