/- Whatever is read of any string, every result, the bytes left and the errors are as specified: the plain statement. -/
import Derived.Test.YtpbekhkmeaaejaaPAllx0
import Derived.Test.YtpbekhkmeaaejaaPAllx3
import Derived.Test.YtpbekhkmeaaejaaPAllx5
import Derived.Test.YtpbekhkmeaaejaaPAllx12d
import Derived.Test.YtpbekhkmeaaejaaPAllx13
import Derived.Test.YtpbekhkmeaaejaaPAllx14
import Derived.Test.YtpbekhkmeaaejaaPAllx15
import Derived.Test.YtpbekhkmeaaejaaPAllx16
import Derived.Test.YtpbekhkmeaaejaaPAllx17
import Derived.Test.YtpbekhkmeaaejaaPAllx18d
import Derived.Test.YtpbekhkmeaaejaaPAllx12d
import Derived.Test.YtpbekhkmeaaejaaPAllx18d
import Derived.Test.YtpbekhkmeaaejaaPAllx12d
import Derived.Test.YtpbekhkmeaaejaaPAllx18d
import Derived.Test.YtpbekhkmeaaejaaFunsR
namespace Go.Proofs.Ytpbekhkmeaaejaa.Pure
open Go.RowKit Go.Proofs.Ytpbekhkmeaaejaa.PAll Go.Proofs.YtpbekhkmeaaejaaW.PrintWords Go.Proofs.YtpbekhkmeaaejaaW.PrintLast Go.Proofs.Ytpbekhkmeaaejaa.Model
theorem sz_le {s : List UInt8} {a : Nat} (ha : a ≤ s.length) {v : Val} {kind lo hi most : Int} {sz : Nat} (h : mRead (s.drop a) kind lo hi most = .ok v sz) : a + sz ≤ s.length := by
  have := (mRead_ok h).2.1
  simp at this
  omega
theorem reads_loop (s : List UInt8) (hs : s.length ≤ 8796093022208) (l : List S32) (hl : l.length ≤ 60) (hw : ∀ y ∈ l, I64 y.f3) : ∀ (d i a : Nat) (e : Int), i + d = l.length → a ≤ s.length → Ev (fun k => sawmilllaw05_WireReads.l0 k l (i : Int) (str s) (a : Int) e (str s) (a : Int) e) true
  | 0, i, a, e, hd, ha => by
    refine Ev.step (f := fun k => some true) (fun k => ?_) (Ev.now _)
    simp only [sawmilllaw05_WireReads.l0]
    rw [if_neg (by omega)]
    simp only [left_f s hs a ha e, ref_left_f s hs a ha e, end_f s hs a ha e, ref_end_f s hs a ha e, Option.bind_some, if_true, awake_ev]
  | d + 1, i, a, e, hd, ha => by
    have hi : i < l.length := by omega
    have hm := hw _ (rd32 l i hi)
    -- behind a round
    have next (kind : Int) (v : Val) (a' : Nat) (e' : Int) (h' : a' ≤ s.length) (hv : v.l.length ≤ 8796093022208) : Ev (fun k => sawmilllaw05_WireReads.j2 k l (i : Int) (str s) (a' : Int) e' (str s) (a' : Int) e' kind v.n v.i (str v.t) v.l kind v.n v.i (str v.t) v.l) true := by
      refine Ev.step (f := fun k => (sawmilllaw05_same.f k kind v.n v.i (str v.t) v.l kind v.n v.i (str v.t) v.l).bind fun t => if t = true then sawmilllaw05_WireReads.l0 k l ((i + 1 : Nat) : Int) (str s) (a' : Int) e' (str s) (a' : Int) e' else some false) (fun k => ?_) ?_
      · simp only [sawmilllaw05_WireReads.j2, left_f s hs a' h' e', ref_left_f s hs a' h' e', wire_Reader_Err.f, end_f s hs a' h' e', ref_end_f s hs a' h' e', Option.bind_some, if_true]
        rw [w64 (by omega) (by omega)]
        rfl
      · refine Ev.bind (sameV_refl kind v hv) ?_
        simp only [if_true]
        exact reads_loop s hs l hl hw d (i + 1) a' e' (by omega) h'
    have hkind : Ev (fun k => sawmilllaw05_WireReads.l0 (k + 1) l (i : Int) (str s) (a : Int) e (str s) (a : Int) e) true := by
      simp only [sawmilllaw05_WireReads.l0, if_pos (show (i : Int) < (l.length : Int) by omega), if_pos (show (0 : Int) ≤ (i : Int) by omega)]
      by_cases he : e = 0
      · subst he
        refine Ev.bind (read_ev s hs a ha _ _ _ _ hm) ?_
        generalize hk : (rd_T32 l (i : Int)) = o at hm ⊢
        have hdl : (s.drop a).length ≤ s.length := by simp
        by_cases k0 : o.f0 = 0
        · simp only [if_pos k0]
          refine Ev.bind (ref_Uint_ev s hs a ha) ?_
          have hr : mRead (s.drop a) o.f0 o.f1 o.f2 o.f3 = (match mU (s.drop a) with | .err e => .err e | .ok n sz => .ok ⟨n, 0, [], []⟩ sz) := by unfold mRead; rw [if_pos k0]; cases mU (s.drop a) <;> rfl
          cases hu : mU (s.drop a) with
          | err x => rw [hu] at hr; rw [hr]; exact next o.f0 v0 a x ha (by simp [v0])
          | ok n sz => rw [hu] at hr; rw [hr]; exact next o.f0 ⟨n, 0, [], []⟩ (a + sz) 0 (sz_le ha hr) (by simp)
        · simp only [if_neg k0]
          by_cases k1 : o.f0 = 1
          · simp only [if_pos k1]
            refine Ev.bind (ref_Int_ev s hs a ha o.f1 o.f2) ?_
            have hr : mRead (s.drop a) o.f0 o.f1 o.f2 o.f3 = (match mI (s.drop a) o.f1 o.f2 with | .err e => .err e | .ok n sz => .ok ⟨0, n, [], []⟩ sz) := by unfold mRead; rw [if_neg k0, if_pos k1]; cases mI (s.drop a) o.f1 o.f2 <;> rfl
            cases hu : mI (s.drop a) o.f1 o.f2 with
            | err x => rw [hu] at hr; rw [hr]; exact next o.f0 v0 a x ha (by simp [v0])
            | ok n sz => rw [hu] at hr; rw [hr]; exact next o.f0 ⟨0, n, [], []⟩ (a + sz) 0 (sz_le ha hr) (by simp)
          · simp only [if_neg k1]
            by_cases k2 : o.f0 = 2
            · simp only [if_pos k2]
              refine Ev.bind (ref_Text_ev s hs a ha o.f3 hm) ?_
              have hr : mRead (s.drop a) o.f0 o.f1 o.f2 o.f3 = (match mT (s.drop a) o.f3 with | .err e => .err e | .ok t sz => .ok ⟨0, 0, t, []⟩ sz) := by unfold mRead; rw [if_neg k0, if_neg k1, if_pos k2]; cases mT (s.drop a) o.f3 <;> rfl
              cases hu : mT (s.drop a) o.f3 with
              | err x => rw [hu] at hr; rw [hr]; exact next o.f0 v0 a x ha (by simp [v0])
              | ok n sz => rw [hu] at hr; rw [hr]; exact next o.f0 ⟨0, 0, n, []⟩ (a + sz) 0 (sz_le ha hr) (by simp)
            · simp only [if_neg k2]
              refine Ev.bind (ref_Ints_ev s hs a ha o.f3 o.f1 o.f2 hm) ?_
              have hr : mRead (s.drop a) o.f0 o.f1 o.f2 o.f3 = (match mL (s.drop a) o.f3 o.f1 o.f2 with | .err e => .err e | .ok t sz => .ok ⟨0, 0, [], t⟩ sz) := by unfold mRead; rw [if_neg k0, if_neg k1, if_neg k2]; cases mL (s.drop a) o.f3 o.f1 o.f2 <;> rfl
              cases hu : mL (s.drop a) o.f3 o.f1 o.f2 with
              | err x => rw [hu] at hr; rw [hr]; exact next o.f0 v0 a x ha (by simp [v0])
              | ok n sz =>
                rw [hu] at hr
                have := mRead_len hr
                rw [hr]
                exact next o.f0 ⟨0, 0, [], n⟩ (a + sz) 0 (sz_le ha hr) (by simp only at this ⊢; omega)
      · refine Ev.bind (read_after (str s) a e he _ _ _ _) ?_
        generalize hk : (rd_T32 l (i : Int)) = o at hm ⊢
        have fin := next o.f0 v0 a e ha (by simp [v0])
        simp only [sawmillref05_ReadUint.f, sawmillref05_ReadInt.f, sawmillref05_ReadText.f, sawmillref05_ReadInts.f, eq_false he, if_false, Option.bind_some]
        by_cases k0 : o.f0 = 0
        · simp only [if_pos k0]; exact fin
        · by_cases k1 : o.f0 = 1
          · simp only [if_neg k0, if_pos k1]; exact fin
          · by_cases k2 : o.f0 = 2
            · simp only [if_neg k0, if_neg k1, if_pos k2]; exact fin
            · simp only [if_neg k0, if_neg k1, if_neg k2]; exact fin
    exact Ev.step (fun k => rfl) hkind

theorem WireReads : ∀ (a0 : ByteArray) (l1 : List (S32)), a0.size ≤ 140737488351232 → (l1.length * 32 ≤ 140737488351232 ∧ ∀ y ∈ l1, ((Lit.int .u8 y.f0).wf = true ∧ (Lit.int .i64 y.f1).wf = true ∧ (Lit.int .i64 y.f2).wf = true ∧ (Lit.int .i64 y.f3).wf = true)) → ∃ k, sawmilllaw05_WireReads.f k a0 l1 = some true := by
  intro a0 l1 h0 h1
  obtain ⟨s, rfl⟩ : ∃ s, a0 = str s := ⟨_, (str_data a0).symm⟩
  refine Ev.rounds (r := true) ?_
  unfold sawmilllaw05_WireReads.f
  have hend : Ev (fun k => sawmilllaw05_WireReads.j0 k (str s) l1 true) true := by
    refine Ev.step (f := fun k => some true) (fun k => ?_) (Ev.now _)
    simp only [sawmilllaw05_WireReads.j0, if_true, awake_ev, Option.bind_some]
  by_cases c : ((str s).size : Int) > 3000
  · simp only [if_pos c]; exact hend
  · simp only [if_neg c]
    rw [str_size] at c
    by_cases c2 : (l1.length : Int) > 60
    · simp only [c2, decide_true]; exact hend
    · simp only [c2, decide_false]
      refine Ev.step (f := fun k => sawmilllaw05_WireReads.l0 k l1 0 (str s) 0 0 (str s) 0 0) (fun k => ?_) ?_
      · simp only [sawmilllaw05_WireReads.j0, Bool.false_eq_true, if_false, wire_NewReader.f, sawmillref05_NewReader.f, Option.bind_some]
      · exact reads_loop s (by omega) l1 (by omega) (fun y hy => wf_i64 (h1.2 y hy).2.2.2) l1.length 0 0 0 (by omega) (by omega)

end Go.Proofs.Ytpbekhkmeaaejaa.Pure
