/- A disk after some calls. -/
import Derived.Test.YtkgdppjlbjmjoaaDiskL
namespace Go.Proofs.Ytkgdppjlbjmjoaa.Dk
open Go.RowKit Go.Proofs.Ytkgdppjlbjmjoaa.PAll Go.Proofs.YtkgdppjlbjmjoaaW.PrintWords Go.Proofs.YtkgdppjlbjmjoaaW.PrintLast Go.Proofs.YtkgdppjlbjmjoaaW.PrintMore
set_option linter.unusedVariables false
set_option linter.unusedSimpArgs false
theorem crash_pend (d : DS) (m : Int) : (crashD d m).pend.length = 0 := rfl
theorem step_pend (d : DS) : (stepD d).1.pend.length ≤ d.pend.length := by
  unfold stepD
  split
  · split
    · exact Nat.zero_le _
    · exact Nat.le_refl _
  · exact Nat.le_refl _
theorem do_pend (d : DS) (f0 f1 : Int) (s : ByteArray) (m : Int) : (doD d f0 f1 s m).2.pend.length ≤ d.pend.length + 1 := by
  have h := step_pend d
  unfold doD writeD flushD armD hitD wakeD
  repeat' split
  all_goals first | exact Nat.le_succ _ | exact Nat.zero_le _ | (show ((stepD d).1.pend ++ [_]).length ≤ _; rw [List.length_append, List.length_singleton]; omega) | (show (stepD d).1.pend.length ≤ _; omega) | (show d.pend.length ≤ _; omega)
def runD (l : List S42) (d : DS) : DS := l.foldl (fun d o => (doD d o.f0 o.f1 o.f2 o.f3).2) d
theorem run_snoc (l : List S42) (o : S42) (d : DS) : runD (l ++ [o]) d = (doD (runD l d) o.f0 o.f1 o.f2 o.f3).2 := by unfold runD; rw [List.foldl_append]; rfl
theorem take_snoc (l : List S42) (i : Nat) (h : i < l.length) : l.take (i + 1) = l.take i ++ [rd_T42 l (i : Int)] := by
  rw [List.take_succ_eq_append_getElem h]
  unfold rd_T42
  rw [Int.toNat_natCast, List.getD_eq_getElem?_getD, List.getElem?_eq_getElem h]
  rfl
theorem rd_mem (l : List S42) (i : Nat) (h : i < l.length) : rd_T42 l (i : Int) ∈ l := by
  unfold rd_T42
  rw [Int.toNat_natCast, List.getD_eq_getElem?_getD, List.getElem?_eq_getElem h]
  exact List.getElem_mem h
def playD (b : Nat) (l : List S42) : DS := (wakeD (runD l (newD b))).2
set_option maxHeartbeats 2000000 in
theorem play_at (b : Nat) (h1 : 1 ≤ b) (h2 : b ≤ 8) (A : Option Addr) (c : Nat) (l : List S42) (w : World) (hr : Kd.C k42 w A l.length l) (hc : l.length ≤ c) (hl : l.length ≤ 80) (hm : ∀ o ∈ l, 0 ≤ o.f3) :
    Calls Try.prog 20 #[.int .i64 (b : Int), .slice A l.length c] w fun e w' => ∃ g gd gm v, e = .returned (.tuple #[.pointer (some ⟨g, 0, none⟩), v]) ∧ At w' g gd gm (playD b l) ∧ Kd.R Kd.string 9 w' w.heap.size (fun k => ¬ (k = g ∨ k = gd ∨ k = gm)) v (contD (playD b l)) ∧ (∀ k, (k = g ∨ k = gd ∨ k = gm) → w.heap.size ≤ k) ∧ Below w.heap.size w w' := by
  have HR := Lib.hid hr
  have HC := Lib.hid hc
  have HM := Lib.hid hm
  clear hr hc hm
  go_enter Try.func20, Try.ntmps20
  go_wp2_with (first | (go_at_call 9; (with_reducible refine (New_ex b h1 (by omega) _).mono ?_); rintro e w2 ⟨g, gd, gm, rfl, hA, hS, _, hb⟩; have HA := Lib.hid hA; have HB := Lib.hid hb; have HS := Lib.hid hS; clear hA hS hb))
  go_loopw [8] (fun a wr => ∃ i : Nat, i ≤ l.length ∧ a = .int .i64 (i : Int) ∧ Hid (At wr g gd gm (runD (l.take i) (newD b))) ∧ Hid ((runD (l.take i) (newD b)).pend.length ≤ i) ∧ Hid (Below w.heap.size w wr)) (fun a _ => l.length - (intOf a).toNat)
  case atStart => exact ⟨0, Nat.zero_le _, rfl, HA, Lib.hid (Nat.le_refl _), HB⟩
  case round =>
    clear HA HB
    obtain ⟨i, hi, rfl, HA, HP, HB⟩ := hrel
    by_cases hlt : i < l.length
    · have hi9 : i < 100 := by omega
      have q1 : (i : Int) < (l.length : Int) := by omega
      have p1 : (0 : Int) ≤ (i : Int) := by omega
      obtain ⟨ad, e1, hx0, hx1, hx2, hx3⟩ := at_T42 (Kd.C_below HR.out HB.out) (i : Int) p1 q1
      cases e1
      simp only [Int.toNat_natCast] at hx0 hx1 hx2 hx3
      have hmo := HM.out _ (rd_mem l i hlt)
      have hts := take_snoc l i hlt
      generalize rd_T42 l (i : Int) = o at *
      have HD := Lib.hid (do_at o.f0 o.f1 o.f2 o.f3 (by have := HP.out; omega) hmo HA.out)
      have hp2 : Hid ((runD (l.take (i + 1)) (newD b)).pend.length ≤ i + 1) := Lib.hid (by rw [hts, run_snoc]; have := do_pend (runD (l.take i) (newD b)) o.f0 o.f1 o.f2 o.f3; have := HP.out; omega)
      have HTS := Lib.hid hts
      clear hts hmo
      go_wp2_with (first | (go_at_call 18; (with_reducible refine HD.out.mono ?_); rintro e w1 ⟨rfl, hA, tT⟩; have HA1 := Lib.hid hA; have HB1 := Lib.hid (tT.below HB.out HS.out); clear hA tT))
      go_roundw
      case rel => exact ⟨i + 1, by omega, by go_num, Lib.hid (by rw [HTS.out, run_snoc]; exact HA1.out), hp2, HB1⟩
      case measure => simp [intOf]; omega
    · have hil : i = l.length := by omega
      have hA2 := HA.out
      rw [hil, List.take_length] at hA2
      have HR2 := Lib.hid (Recover_at hA2)
      clear hA2 hil
      go_wp2_with (first | (go_at_call 25; (with_reducible refine HR2.out.mono ?_); rintro e w1 ⟨rfl, hA, tT⟩; have HA1 := Lib.hid (show At w1 g gd gm (playD b l) from hA); have HB1 := Lib.hid (tT.below HB.out HS.out); clear hA tT) | (go_at_call 23; (with_reducible refine (contents_at HA1.out).mono ?_); rintro e w3 ⟨v, rfl, hv, hb⟩))
      go_ret2
      exact ⟨g, gd, gm, v, rfl, HA1.out.below hb, Kd.R_lower (Kd.R_mono hv (fun k hk hs => by have := HA1.out.lt k hs; omega)) HB1.out.size, HS.out, below_step HB1.out hb⟩
end Go.Proofs.Ytkgdppjlbjmjoaa.Dk
