/- Disk: what the reference computes -/
import Derived.Test.YtkgdppjlbjmjoaaDiskP
import Derived.Test.YtkgdppjlbjmjoaaPAllx6
import Derived.Test.YtkgdppjlbjmjoaaPAllx7
namespace Go.Proofs.Ytkgdppjlbjmjoaa.Dk
open Go.RowKit Go.Proofs.Ytkgdppjlbjmjoaa.PAll Go.Proofs.YtkgdppjlbjmjoaaW.PrintWords Go.Proofs.YtkgdppjlbjmjoaaW.PrintLast Go.Proofs.YtkgdppjlbjmjoaaW.PrintMore
set_option linter.unusedVariables false
set_option linter.unusedSimpArgs false
def toR (o : S67) : Wr := ⟨o.f0, o.f1⟩
theorem bit_mod (m : Int) (h0 : 0 ≤ m) (h1 : m ≤ 18446744073709551615) (i : Nat) : bit m i = true ↔ m / 2 ^ (i % 64) % 2 = 1 := by
  have hp : (0 : Int) ≤ 2 ^ (i % 64) := Int.pow_nonneg (by decide)
  have a0 : 0 ≤ m / 2 ^ (i % 64) := Int.ediv_nonneg h0 hp
  have a1 : m / 2 ^ (i % 64) ≤ m := Int.ediv_le_self _ h0
  unfold bit
  rw [and_one_u64 _ a0 (by omega)]
  exact beq_iff_eq
theorem map_getR (P : List S67) (i : Nat) : (P.map toR).getD i ⟨0, noText⟩ = toR (rd_T67 P (i : Int)) := by
  unfold rd_T67
  rw [Int.toNat_natCast, List.getD_eq_getElem?_getD, List.getD_eq_getElem?_getD, List.getElem?_map]
  cases P[i]? <;> rfl
theorem rd67_mem (l : List S67) (i : Nat) (h : i < l.length) : rd_T67 l (i : Int) ∈ l := by
  unfold rd_T67
  rw [Int.toNat_natCast, List.getD_eq_getElem?_getD, List.getElem?_eq_getElem h]
  exact List.getElem_mem h
theorem settled_loop (m : Int) (h0 : 0 ≤ m) (h1 : m ≤ 18446744073709551615) (B : List ByteArray) (P : List S67) (dn ar : Bool) (st mk : Int) (hP : P.length ≤ 1000000) (hr : ∀ x ∈ P, 0 ≤ x.f0 ∧ x.f0 < B.length) : ∀ d i : Nat, i + d = P.length →
    Ev (fun k => sawmillref56_settled.l0 k m (settleK (bit m) (P.map toR) i B) (i : Int) B P dn ar st mk) (settleK (bit m) (P.map toR) P.length B, [], dn, ar, st, mk)
  | 0, i, hd => by
    obtain rfl : i = P.length := by omega
    exact Ev.step (f := fun _ => some _) (fun k => by simp only [sawmillref56_settled.l0]; rw [if_neg (by omega)]) (Ev.now _)
  | d + 1, i, hd => by
    have ew : wrap64 ((i : Int) + 1) = ((i + 1 : Nat) : Int) := by unfold wrap64; omega
    have et : IntKind.u64.wrap (Int.tmod (i : Int) 64) = ((i % 64 : Nat) : Int) := by
      rw [Int.tmod_eq_emod_of_nonneg (by omega)]
      have hw : ∀ x : Int, 0 ≤ x → x < 64 → IntKind.u64.wrap x = x := fun x a b => by
        simp only [IntKind.wrap, IntKind.bits, IntKind.signed]
        first | omega | (simp; omega)
      rw [hw _ (by omega) (by omega)]
      omega
    have q1 : (i : Int) < (P.length : Int) := by omega
    have q0 : (0 : Int) ≤ (i : Int) := by omega
    have q2 : (0 : Int) ≤ ((i % 64 : Nat) : Int) := by omega
    have eshr : shr .u64 m ((i % 64 : Nat) : Int) = m / 2 ^ (i % 64) := by
      unfold shr
      rw [Int.toNat_natCast, Nat.min_eq_left (by show i % 64 ≤ 64; omega)]
    have a0 : 0 ≤ m / 2 ^ (i % 64) := Int.ediv_nonneg h0 (Int.pow_nonneg (by decide))
    have etm : Int.tmod (m / 2 ^ (i % 64)) 2 = m / 2 ^ (i % 64) % 2 := Int.tmod_eq_emod_of_nonneg a0
    have hx := hr (rd_T67 P (i : Int)) (rd67_mem P i (by omega))
    have hlen : (settleK (bit m) (P.map toR) i B).length = B.length := settleK_len _ _ _ _
    have hs : settleK (bit m) (P.map toR) (i + 1) B = if bit m i = true then (settleK (bit m) (P.map toR) i B).set ((P.map toR).getD i ⟨0, noText⟩).block.toNat ((P.map toR).getD i ⟨0, noText⟩).text else settleK (bit m) (P.map toR) i B := rfl
    rw [map_getR] at hs
    refine Ev.step (fun k => ?_) (settled_loop m h0 h1 B P dn ar st mk hP hr d (i + 1) (by omega))
    simp only [sawmillref56_settled.l0, if_pos q1, et, if_pos q2, eshr, etm, ew]
    by_cases hb : m / 2 ^ (i % 64) % 2 = 1
    · rw [if_pos hb, if_pos q0, if_pos hx.1, if_pos (by rw [hlen]; exact hx.2), hs, if_pos ((bit_mod m h0 h1 i).2 hb)]
      rfl
    · rw [if_neg hb, hs, if_neg (fun h => hb ((bit_mod m h0 h1 i).1 h))]
theorem settled_ev (m : Int) (h0 : 0 ≤ m) (h1 : m ≤ 18446744073709551615) (B : List ByteArray) (P : List S67) (dn ar : Bool) (st mk : Int) (hB : B.length ≤ 4096) (hP : P.length ≤ 1000000) (hr : ∀ x ∈ P, 0 ≤ x.f0 ∧ x.f0 < B.length) :
    Ev (fun k => sawmillref56_settled.f k B P dn ar st mk m) (settleK (bit m) (P.map toR) P.length B, [], dn, ar, st, mk) := by
  unfold sawmillref56_settled.f
  have e : ([] : List ByteArray).length + B.length < 8796093022208 := by simp only [List.length_nil]; omega
  simp only [if_pos e, List.nil_append]
  exact settled_loop m h0 h1 B P dn ar st mk hP hr P.length 0 (by omega)
theorem crashed_ev (m : Int) (h0 : 0 ≤ m) (h1 : m ≤ 18446744073709551615) (B : List ByteArray) (P : List S67) (dn ar : Bool) (st mk : Int) (hB : B.length ≤ 4096) (hP : P.length ≤ 1000000) (hr : ∀ x ∈ P, 0 ≤ x.f0 ∧ x.f0 < B.length) :
    Ev (fun k => sawmillref56_crashed.f k B P dn ar st mk m) (settleK (bit m) (P.map toR) P.length B, [], true, false, 0, 0) := by
  unfold sawmillref56_crashed.f
  exact Ev.bind (settled_ev m h0 h1 B P dn ar st mk hB hP hr) (Ev.now _)
/-- The reference's disk says what ours does. -/
structure Rl (d : DS) (P : List S67) (st mk : Int) : Prop where
  p : P.map toR = d.pend
  q : d.armed = true → st = d.steps ∧ mk = d.mask
theorem Rl.len {d : DS} {P : List S67} {st mk : Int} (h : Rl d P st mk) : P.length = d.pend.length := by rw [← h.p, List.length_map]
theorem Rl.rng {d : DS} {P : List S67} {st mk : Int} (h : Rl d P st mk) (ho : DOk d) : ∀ x ∈ P, 0 ≤ x.f0 ∧ x.f0 < d.dur.length := fun x hx => ho.rng (toR x) (by rw [← h.p]; exact List.mem_map_of_mem hx)
theorem crashed_rl {d : DS} {P : List S67} {st mk : Int} (h : Rl d P st mk) (ho : DOk d) (m : Int) (h0 : 0 ≤ m) (h1 : m ≤ 18446744073709551615) :
    Ev (fun k => sawmillref56_crashed.f k d.dur P d.down d.armed st mk m) ((crashD d m).dur, [], true, false, 0, 0) := by
  have hx := crashed_ev m h0 h1 d.dur P d.down d.armed st mk ho.l2 (by rw [h.len]; exact ho.pl) (h.rng ho)
  rw [h.p, h.len] at hx
  exact hx
theorem crash_rl (d : DS) (m : Int) : Rl (crashD d m) [] 0 0 := ⟨rfl, fun h => by cases h⟩
theorem step_rl {d : DS} {P : List S67} {st mk : Int} (h : Rl d P st mk) (ho : DOk d) (h1 : d.mask ≤ 18446744073709551615) : ∃ P' st' mk', Rl (stepD d).1 P' st' mk' ∧
    Ev (fun k => sawmillref56_step.f k d.dur P d.down d.armed st mk) ((stepD d).1.dur, P', (stepD d).1.down, (stepD d).1.armed, st', mk', !(stepD d).2) := by
  by_cases ha : d.armed = true
  · obtain ⟨e1, e2⟩ := h.q ha
    by_cases hs : d.steps = 0
    · have e : stepD d = (crashD d d.mask, true) := by unfold stepD; rw [if_pos ha, if_pos hs]
      rw [e]
      refine ⟨[], 0, 0, crash_rl d d.mask, ?_⟩
      unfold sawmillref56_step.f
      simp only [if_pos ha]
      have ez : (st == 0) = true := by rw [e1, hs]; rfl
      refine Ev.step (f := fun k => (sawmillref56_crashed.f k d.dur P d.down d.armed st mk mk).bind fun bt128 => (some (bt128.1, bt128.2.1, bt128.2.2.1, bt128.2.2.2.1, bt128.2.2.2.2.1, bt128.2.2.2.2.2, false))) (fun k => by simp only [sawmillref56_step.j0, if_pos ez]) ?_
      subst e2
      exact Ev.bind (crashed_rl h ho d.mask ho.m0 h1) (Ev.now _)
    · have e : stepD d = (⟨d.dur, d.pend, d.down, d.armed, d.steps - 1, d.mask⟩, false) := by unfold stepD; rw [if_pos ha, if_neg hs]
      rw [e]
      refine ⟨P, d.steps - 1, d.mask, ⟨h.p, fun _ => ⟨rfl, rfl⟩⟩, ?_⟩
      unfold sawmillref56_step.f
      simp only [if_pos ha]
      have ez : ¬ (st == 0) = true := by rw [e1]; simpa using hs
      have s0 := ho.s0
      have s1 := ho.s1
      have ew : wrap64 (st - 1) = d.steps - 1 := by rw [e1]; unfold wrap64; omega
      refine Ev.step (f := fun _ => some (d.dur, P, d.down, d.armed, d.steps - 1, d.mask, true)) (fun k => by simp only [sawmillref56_step.j0, if_neg ez, if_pos ha, ew, e2]) (Ev.now _)
  · have e : stepD d = (d, false) := by unfold stepD; rw [if_neg ha]
    rw [e]
    refine ⟨P, st, mk, h, ?_⟩
    unfold sawmillref56_step.f
    simp only [if_neg ha]
    exact Ev.step (f := fun _ => some (d.dur, P, d.down, d.armed, st, mk, true)) (fun k => by simp only [sawmillref56_step.j0, if_neg ha]; rfl) (Ev.now _)
theorem write_rl {d : DS} {P : List S67} {st mk : Int} (h : Rl d P st mk) (ho : DOk d) (h1 : d.mask ≤ 18446744073709551615) (n : Int) (s : ByteArray) : ∃ P' st' mk', Rl (writeD d n s).2 P' st' mk' ∧
    Ev (fun k => sawmillref56_Write.f k d.dur P d.down d.armed st mk n s) ((writeD d n s).2.dur, P', (writeD d n s).2.down, (writeD d n s).2.armed, st', mk', (writeD d n s).1) := by
  unfold sawmillref56_Write.f writeD
  by_cases hd : d.down = true
  · simp only [if_pos hd]
    exact ⟨P, st, mk, h, Ev.now _⟩
  · simp only [if_neg hd]
    by_cases hn : n < 0 ∨ n ≥ (d.dur.length : Int)
    · rw [if_pos hn]
      refine ⟨P, st, mk, h, ?_⟩
      by_cases h0 : n < 0
      · simp only [if_pos h0]
        exact Ev.step (f := fun _ => some (d.dur, P, d.down, d.armed, st, mk, 9)) (fun k => by simp only [sawmillref56_Write.j0, if_true]) (Ev.now _)
      · simp only [if_neg h0]
        have hg : n ≥ (d.dur.length : Int) := by omega
        exact Ev.step (f := fun _ => some (d.dur, P, d.down, d.armed, st, mk, 9)) (fun k => by simp only [sawmillref56_Write.j0, decide_eq_true hg, if_true]) (Ev.now _)
    · have h0 : ¬ n < 0 := fun a => hn (Or.inl a)
      have hg : ¬ n ≥ (d.dur.length : Int) := fun a => hn (Or.inr a)
      have hf : ¬ (false = true) := by decide
      simp only [if_neg h0, if_neg hn]
      by_cases hs : s.size > 64
      · have hs' : (s.size : Int) > 64 := by omega
        rw [if_pos hs]
        exact ⟨P, st, mk, h, Ev.step (f := fun _ => some (d.dur, P, d.down, d.armed, st, mk, 4)) (fun k => by simp only [sawmillref56_Write.j0, decide_eq_false hg, if_neg hf, if_pos hs']) (Ev.now _)⟩
      · have hs' : ¬ (s.size : Int) > 64 := by omega
        rw [if_neg hs]
        obtain ⟨P', st', mk', hr, he⟩ := step_rl h ho h1
        have ho' := stepD_ok ho
        generalize stepD d = x at *
        obtain ⟨d', b⟩ := x
        cases b
        · rw [if_neg hf]
          have hl := ho'.pl
          have hl2 := hr.len
          have k1 : ([] : List S67).length + P'.length < 5864062014805 := by simp only [List.length_nil]; omega
          have k2 : P'.length < 5864062014805 := by omega
          refine ⟨P' ++ [(⟨n, s⟩ : S67)], st', mk', ⟨?_, hr.q⟩, ?_⟩
          · show (P' ++ [(⟨n, s⟩ : S67)]).map toR = d'.pend ++ [⟨n, s⟩]
            rw [List.map_append, hr.p]
            rfl
          · refine Ev.step (f := fun k => (sawmillref56_step.f k d.dur P d.down d.armed st mk).bind fun bt140 => (if bt140.2.2.2.2.2.2 = true then (if ([] : List (S67)).length + bt140.2.1.length < 5864062014805 then ((some (([] : List (S67)) ++ bt140.2.1 : List (S67))).bind fun y152 => (if y152.length < 5864062014805 then (some (bt140.1, (y152 ++ [(⟨n, s⟩ : S67)]), bt140.2.2.1, bt140.2.2.2.1, bt140.2.2.2.2.1, bt140.2.2.2.2.2.1, 0)) else (none))) else (none)) else (some (bt140.1, bt140.2.1, bt140.2.2.1, bt140.2.2.2.1, bt140.2.2.2.2.1, bt140.2.2.2.2.2.1, 17)))) (fun k => by simp only [sawmillref56_Write.j0, decide_eq_false hg, if_neg hf, if_neg hs']) ?_
            refine Ev.bind he ?_
            simp only [Bool.not_false, if_true, if_pos k1, List.nil_append, Option.bind_some, if_pos k2]
            exact Ev.now _
        · rw [if_pos rfl]
          refine ⟨P', st', mk', hr, ?_⟩
          refine Ev.step (f := fun k => (sawmillref56_step.f k d.dur P d.down d.armed st mk).bind fun bt140 => (if bt140.2.2.2.2.2.2 = true then (if ([] : List (S67)).length + bt140.2.1.length < 5864062014805 then ((some (([] : List (S67)) ++ bt140.2.1 : List (S67))).bind fun y152 => (if y152.length < 5864062014805 then (some (bt140.1, (y152 ++ [(⟨n, s⟩ : S67)]), bt140.2.2.1, bt140.2.2.2.1, bt140.2.2.2.2.1, bt140.2.2.2.2.2.1, 0)) else (none))) else (none)) else (some (bt140.1, bt140.2.1, bt140.2.2.1, bt140.2.2.2.1, bt140.2.2.2.2.1, bt140.2.2.2.2.2.1, 17)))) (fun k => by simp only [sawmillref56_Write.j0, decide_eq_false hg, if_neg hf, if_neg hs']) ?_
          refine Ev.bind he ?_
          simp only [Bool.not_true, if_neg hf]
          exact Ev.now _
theorem flush_rl {d : DS} {P : List S67} {st mk : Int} (h : Rl d P st mk) (ho : DOk d) (h1 : d.mask ≤ 18446744073709551615) : ∃ P' st' mk', Rl (flushD d).2 P' st' mk' ∧
    Ev (fun k => sawmillref56_Flush.f k d.dur P d.down d.armed st mk) ((flushD d).2.dur, P', (flushD d).2.down, (flushD d).2.armed, st', mk', (flushD d).1) := by
  unfold sawmillref56_Flush.f flushD
  have hf : ¬ (false = true) := by decide
  by_cases hd : d.down = true
  · simp only [if_pos hd]
    exact ⟨P, st, mk, h, Ev.now _⟩
  · simp only [if_neg hd]
    obtain ⟨P', st', mk', hr, he⟩ := step_rl h ho h1
    have ho' := stepD_ok ho
    generalize stepD d = x at *
    obtain ⟨d', b⟩ := x
    cases b
    · rw [if_neg hf]
      refine ⟨[], st', mk', (Rl.mk rfl hr.q : Rl (allD d') [] st' mk'), ?_⟩
      refine Ev.bind he ?_
      simp only [Bool.not_false, if_true]
      have hx := settled_ev 18446744073709551615 (by decide) (by decide) d'.dur P' d'.down d'.armed st' mk' ho'.l2 (by rw [hr.len]; exact ho'.pl) (hr.rng ho')
      rw [hr.p, hr.len, settle_both _ _ _ (fun _ => true) bit_max] at hx
      exact Ev.bind hx (Ev.now _)
    · rw [if_pos rfl]
      refine ⟨P', st', mk', hr, ?_⟩
      refine Ev.bind he ?_
      simp only [Bool.not_true, if_neg hf]
      exact Ev.now _
theorem arm_rl {d : DS} {P : List S67} {st mk : Int} (h : Rl d P st mk) (n m : Int) : ∃ P' st' mk', Rl (armD d n m).2 P' st' mk' ∧
    sawmillref56_Arm.f d.dur P d.down d.armed st mk n m = some ((armD d n m).2.dur, P', (armD d n m).2.down, (armD d n m).2.armed, st', mk', (armD d n m).1) := by
  unfold sawmillref56_Arm.f armD
  by_cases hd : d.down = true
  · simp only [if_pos hd]
    exact ⟨P, st, mk, h, rfl⟩
  · simp only [if_neg hd]
    by_cases h0 : n < 0
    · rw [if_pos h0, if_pos (Or.inl h0)]
      exact ⟨P, st, mk, h, rfl⟩
    · rw [if_neg h0]
      by_cases h9 : n > 1099511627776
      · rw [if_pos h9, if_pos (Or.inr h9)]
        exact ⟨P, st, mk, h, rfl⟩
      · rw [if_neg h9, if_neg (by omega)]
        exact ⟨P, n, m, ⟨h.p, fun _ => ⟨rfl, rfl⟩⟩, rfl⟩
theorem hit_rl {d : DS} {P : List S67} {st mk : Int} (h : Rl d P st mk) (ho : DOk d) (m : Int) (h0 : 0 ≤ m) (h1 : m ≤ 18446744073709551615) : ∃ P' st' mk', Rl (hitD d m).2 P' st' mk' ∧
    Ev (fun k => sawmillref56_Crash.f k d.dur P d.down d.armed st mk m) ((hitD d m).2.dur, P', (hitD d m).2.down, (hitD d m).2.armed, st', mk', (hitD d m).1) := by
  unfold sawmillref56_Crash.f hitD
  by_cases hd : d.down = true
  · simp only [if_pos hd]
    exact ⟨P, st, mk, h, Ev.now _⟩
  · simp only [if_neg hd]
    exact ⟨[], 0, 0, crash_rl d m, Ev.bind (crashed_rl h ho m h0 h1) (Ev.now _)⟩
theorem wake_rl {d : DS} {P : List S67} {st mk : Int} (h : Rl d P st mk) : ∃ P' st' mk', Rl (wakeD d).2 P' st' mk' ∧
    sawmillref56_Recover.f d.dur P d.down d.armed st mk = some ((wakeD d).2.dur, P', (wakeD d).2.down, (wakeD d).2.armed, st', mk', (wakeD d).1) := by
  unfold sawmillref56_Recover.f wakeD
  by_cases hd : d.down = true
  · simp only [if_pos hd]
    exact ⟨P, st, mk, ⟨h.p, h.q⟩, rfl⟩
  · simp only [if_neg hd]
    exact ⟨P, st, mk, h, rfl⟩
theorem also_rl {d : DS} {P : List S67} {st mk : Int} (h : Rl d P st mk) (ho : DOk d) (h1 : d.mask ≤ 18446744073709551615) (f0 f1 : Int) (s : ByteArray) (m : Int) (m0 : 0 ≤ m) (m1 : m ≤ 18446744073709551615) : ∃ P' st' mk', Rl (doD d f0 f1 s m).2 P' st' mk' ∧
    Ev (fun k => sawmilllaw56_also.f k d.dur P d.down d.armed st mk f0 f1 s m) ((doD d f0 f1 s m).2.dur, P', (doD d f0 f1 s m).2.down, (doD d f0 f1 s m).2.armed, st', mk', (doD d f0 f1 s m).1) := by
  unfold sawmilllaw56_also.f doD
  by_cases c0 : f0 = 0
  · simp only [if_pos c0]
    obtain ⟨P', st', mk', hr, he⟩ := write_rl h ho h1 f1 s
    exact ⟨P', st', mk', hr, Ev.bind he (Ev.now _)⟩
  · simp only [if_neg c0]
    by_cases c1 : f0 = 1
    · simp only [if_pos c1]
      obtain ⟨P', st', mk', hr, he⟩ := flush_rl h ho h1
      exact ⟨P', st', mk', hr, Ev.bind he (Ev.now _)⟩
    · simp only [if_neg c1]
      by_cases c2 : f0 = 2
      · simp only [if_pos c2]
        obtain ⟨P', st', mk', hr, he⟩ := arm_rl h f1 m
        exact ⟨P', st', mk', hr, by rw [he]; exact Ev.now _⟩
      · simp only [if_neg c2]
        by_cases c3 : f0 = 3
        · simp only [if_pos c3]
          obtain ⟨P', st', mk', hr, he⟩ := hit_rl h ho m m0 m1
          exact ⟨P', st', mk', hr, Ev.bind he (Ev.now _)⟩
        · simp only [if_neg c3]
          obtain ⟨P', st', mk', hr, he⟩ := wake_rl h
          exact ⟨P', st', mk', hr, by rw [he]; exact Ev.now _⟩
/-! ### reading -/
theorem read_loop {d : DS} {P : List S67} {st mk : Int} (h : Rl d P st mk) (ho : DOk d) (n : Int) : ∀ e i : Nat, i + e = P.length →
    Ev (fun k => sawmillref56_Read.l0 k n ((seek d.pend n i).getD (d.dur.getD n.toNat noText)) (i : Int) d.dur P d.down d.armed st mk) (readT d.dur d.pend n, 0)
  | 0, i, he => by
    have hi : i = d.pend.length := by have := h.len; omega
    have hl := h.len
    subst hi
    exact Ev.step (f := fun _ => some (readT d.dur d.pend n, 0)) (fun k => by simp only [sawmillref56_Read.l0]; rw [if_neg (by omega)]; rfl) (Ev.now _)
  | e + 1, i, he => by
    have hl := h.len
    have hp := ho.pl
    have ew : wrap64 ((i : Int) + 1) = ((i + 1 : Nat) : Int) := by unfold wrap64; omega
    have q1 : (i : Int) < (P.length : Int) := by omega
    have q0 : (0 : Int) ≤ (i : Int) := by omega
    have hs : seek d.pend n (i + 1) = if (d.pend.getD i ⟨0, noText⟩).block = n then some (d.pend.getD i ⟨0, noText⟩).text else seek d.pend n i := rfl
    rw [← h.p, map_getR, h.p] at hs
    refine Ev.step (fun k => ?_) (read_loop h ho n e (i + 1) (by omega))
    simp only [sawmillref56_Read.l0, if_pos q1, if_pos q0, ew, hs]
    by_cases hb : (rd_T67 P (i : Int)).f0 = n
    · rw [if_pos hb, if_pos (show (toR (rd_T67 P (i : Int))).block = n from hb)]
      rfl
    · rw [if_neg hb, if_neg (show ¬ (toR (rd_T67 P (i : Int))).block = n from hb)]
theorem read_rl {d : DS} {P : List S67} {st mk : Int} (h : Rl d P st mk) (ho : DOk d) (n : Int) : Ev (fun k => sawmillref56_Read.f k d.dur P d.down d.armed st mk n) (readD d n) := by
  unfold sawmillref56_Read.f readD
  have hf : ¬ (false = true) := by decide
  by_cases hd : d.down = true
  · simp only [if_pos hd]
    exact Ev.now _
  · simp only [if_neg hd]
    by_cases h0 : n < 0
    · simp only [if_pos h0]
      rw [if_pos (Or.inl h0)]
      exact Ev.step (f := fun _ => some (noText, 9)) (fun k => by simp only [sawmillref56_Read.j0, if_true]; rfl) (Ev.now _)
    · simp only [if_neg h0]
      by_cases hg : n ≥ (d.dur.length : Int)
      · rw [if_pos (Or.inr hg)]
        exact Ev.step (f := fun _ => some (noText, 9)) (fun k => by simp only [sawmillref56_Read.j0, decide_eq_true hg, if_true]; rfl) (Ev.now _)
      · rw [if_neg (by omega)]
        have q0 : 0 ≤ n := by omega
        have q1 : n < (d.dur.length : Int) := by omega
        refine Ev.step (fun k => ?_) (read_loop h ho n P.length 0 (by omega))
        simp only [sawmillref56_Read.j0, decide_eq_false hg, if_neg hf, if_pos q0, if_pos q1]
        rfl
theorem do_mask (d : DS) (f0 f1 : Int) (s : ByteArray) (m : Int) (h : d.mask ≤ 18446744073709551615) (hm : m ≤ 18446744073709551615) : (doD d f0 f1 s m).2.mask ≤ 18446744073709551615 := by
  have hs : (stepD d).1.mask = d.mask := by
    unfold stepD
    split
    · split
      · rfl
      · rfl
    · rfl
  unfold doD writeD flushD armD hitD wakeD
  repeat' split
  all_goals first | exact h | exact hm | (show (stepD d).1.mask ≤ _; rw [hs]; exact h)
theorem do_len (d : DS) (f0 f1 : Int) (s : ByteArray) (m : Int) : (doD d f0 f1 s m).2.dur.length = d.dur.length := by
  have hs : (stepD d).1.dur.length = d.dur.length := by
    unfold stepD
    split
    · split
      · exact settleK_len _ _ _ _
      · rfl
    · rfl
  unfold doD writeD flushD armD hitD wakeD
  repeat' split
  all_goals first | rfl | exact hs | exact settleK_len _ _ _ _ | exact (settleK_len _ _ _ _).trans hs
end Go.Proofs.Ytkgdppjlbjmjoaa.Dk
