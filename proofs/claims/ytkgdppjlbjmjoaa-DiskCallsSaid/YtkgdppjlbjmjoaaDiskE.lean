/- The disk's methods: DiskE. -/
import Derived.Test.YtkgdppjlbjmjoaaDiskD
namespace Go.Proofs.Ytkgdppjlbjmjoaa.Dk
open Go.RowKit Go.Proofs.Ytkgdppjlbjmjoaa.PAll Go.Proofs.YtkgdppjlbjmjoaaW.PrintWords Go.Proofs.YtkgdppjlbjmjoaaW.PrintLast Go.Proofs.YtkgdppjlbjmjoaaW.PrintMore
set_option linter.unusedVariables false
set_option linter.unusedSimpArgs false
/-- How many entries a map's block holds. -/
def lenAt (b : Nat) (w : World) : Int := match w.heap[b]? with | some (.map es _) => (es.size : Int) | _ => 0
theorem len_at {w : World} {b : Nat} (h : ∃ es c, w.heap[b]? = some (.map es c)) (ty : TypeId) : (Builtin.len_ #[57] ty #[.map (some b)]).run Try.prog w = .ok (.int .i64 (lenAt b w)) w := by
  obtain ⟨es, c, hb⟩ := h
  have e : lenAt b w = (es.size : Int) := by unfold lenAt; rw [hb]
  rw [e]
  simp [Builtin.len_, run_underlying Try.underlying57, MapKept.run_getObj_map hb, goInt, Result.andThen]
theorem PMap.lenAt {w : World} {b : Nat} {l : List Wr} (h : PMap w b 0 l) : lenAt b w = (l.length : Int) := by
  have h1 := len_at h.blk 3
  rw [h.len 3] at h1
  simp at h1
  omega
/-- What is known of every disk. -/
structure DOk (d : DS) : Prop where
  l1 : 1 ≤ d.dur.length
  l2 : d.dur.length ≤ 4096
  pl : d.pend.length ≤ 1000000
  rng : ∀ x ∈ d.pend, 0 ≤ x.block ∧ x.block < d.dur.length
  s0 : 0 ≤ d.steps
  s1 : d.steps ≤ 1099511627776
  m0 : 0 ≤ d.mask
def crashD (d : DS) (m : Int) : DS := ⟨settleK (bit m) d.pend d.pend.length d.dur, [], true, false, d.steps, d.mask⟩
def stepD (d : DS) : DS × Bool := if d.armed = true then (if d.steps = 0 then (crashD d d.mask, true) else (⟨d.dur, d.pend, d.down, d.armed, d.steps - 1, d.mask⟩, false)) else (d, false)
def putD (d : DS) (n : Int) (s : ByteArray) : DS := ⟨d.dur, d.pend ++ [⟨n, s⟩], d.down, d.armed, d.steps, d.mask⟩
def allD (d : DS) : DS := ⟨settleK (fun _ => true) d.pend d.pend.length d.dur, [], d.down, d.armed, d.steps, d.mask⟩
def writeD (d : DS) (n : Int) (s : ByteArray) : Int × DS :=
  if d.down = true then (17, d) else if n < 0 ∨ n ≥ (d.dur.length : Int) then (9, d) else if s.size > 64 then (4, d) else if (stepD d).2 = true then (17, (stepD d).1) else (0, putD (stepD d).1 n s)
def flushD (d : DS) : Int × DS := if d.down = true then (17, d) else if (stepD d).2 = true then (17, (stepD d).1) else (0, allD (stepD d).1)
def armD (d : DS) (n m : Int) : Int × DS := if d.down = true then (17, d) else if n < 0 ∨ n > 1099511627776 then (9, d) else (0, ⟨d.dur, d.pend, d.down, true, n, m⟩)
def hitD (d : DS) (m : Int) : Int × DS := if d.down = true then (17, d) else (0, crashD d m)
def wakeD (d : DS) : Int × DS := if d.down = true then (0, ⟨d.dur, d.pend, false, d.armed, d.steps, d.mask⟩) else (14, d)
def readD (d : DS) (n : Int) : ByteArray × Int := if d.down = true then (noText, 17) else if n < 0 ∨ n ≥ (d.dur.length : Int) then (noText, 9) else (readT d.dur d.pend n, 0)
/-- A disk in memory. -/
structure At (w : World) (g gd gm : Nat) (d : DS) : Prop where
  k : DK w g gd gm 0 d.dur d.pend d.down d.armed d.steps d.mask
  o : DOk d
theorem crashD_ok {d : DS} (h : DOk d) (m : Int) : DOk (crashD d m) := ⟨by show 1 ≤ (settleK _ _ _ _).length; rw [settleK_len]; exact h.l1, by show (settleK _ _ _ _).length ≤ 4096; rw [settleK_len]; exact h.l2, by show (0 : Nat) ≤ _; omega, fun x hx => (by cases hx), h.s0, h.s1, h.m0⟩
theorem stepD_ok {d : DS} (h : DOk d) : DOk (stepD d).1 := by
  unfold stepD
  split
  · split
    · exact crashD_ok h _
    · rename_i hs
      have := h.s0
      have := h.s1
      exact ⟨h.l1, h.l2, h.pl, h.rng, by show 0 ≤ d.steps - 1; omega, by show d.steps - 1 ≤ _; omega, h.m0⟩
  · exact h
theorem allD_ok {d : DS} (h : DOk d) : DOk (allD d) := ⟨by show 1 ≤ (settleK _ _ _ _).length; rw [settleK_len]; exact h.l1, by show (settleK _ _ _ _).length ≤ 4096; rw [settleK_len]; exact h.l2, by show (0 : Nat) ≤ _; omega, fun x hx => (by cases hx), h.s0, h.s1, h.m0⟩
theorem putD_ok {d : DS} (h : DOk d) (n : Int) (s : ByteArray) (h0 : 0 ≤ n) (h1 : n < d.dur.length) (hp : d.pend.length < 1000000) : DOk (putD d n s) :=
  ⟨h.l1, h.l2, by show (d.pend ++ [_]).length ≤ _; rw [List.length_append, List.length_singleton]; omega, fun x hx => by
    rcases List.mem_append.1 hx with hx | hx
    · exact h.rng x hx
    · rw [List.mem_singleton] at hx
      rw [hx]
      exact ⟨h0, h1⟩, h.s0, h.s1, h.m0⟩
section
variable {g gd gm : Nat} {d : DS} {w : World}
theorem step_at (h : At w g gd gm d) : Calls Try.prog 34 #[.pointer (some ⟨g, 0, none⟩)] w fun e w' => e = .returned (.bool (stepD d).2) ∧ At w' g gd gm (stepD d).1 ∧ Turn (fun k => k = g ∨ k = gd ∨ k = gm) w w' := by
  obtain ⟨dur, pend, down, armed, steps, mask⟩ := d
  have ho := stepD_ok h.o
  obtain ⟨k, o⟩ := h
  cases armed with
  | false => exact (step_idle k).mono fun e w' ⟨he, hw⟩ => by subst hw; exact ⟨he, ⟨k, ho⟩, Turn.refl _ _⟩
  | true =>
    by_cases hs : steps = 0
    · subst hs
      exact (step_crash o.m0 o.pl o.rng k).mono fun e w' ⟨he, h1, t1⟩ => ⟨he, ⟨h1, ho⟩, t1⟩
    · have h0 := o.s0
      have e : stepD ⟨dur, pend, down, true, steps, mask⟩ = (⟨dur, pend, down, true, steps - 1, mask⟩, false) := by unfold stepD; simp only [if_true]; rw [if_neg hs]
      rw [e] at ho ⊢
      have hpos : 0 < steps := by have : (0 : Int) ≤ steps := h0; omega
      exact (step_count hpos o.s1 k).mono fun e w' ⟨he, h1, t1⟩ => ⟨he, ⟨h1, ho⟩, t1⟩
theorem Read_at (n : Int) (h : At w g gd gm d) : Calls Try.prog 12 #[.pointer (some ⟨g, 0, none⟩), .int .i64 n] w fun e w' => e = .returned (.tuple #[.string (readD d n).1, .int .i64 (readD d n).2]) ∧ w' = w := by
  obtain ⟨dur, pend, down, armed, steps, mask⟩ := d
  obtain ⟨k, o⟩ := h
  cases down with
  | true => exact Read_down n k
  | false =>
    by_cases hn : n < 0 ∨ n ≥ (dur.length : Int)
    · have e : readD ⟨dur, pend, false, armed, steps, mask⟩ n = (noText, 9) := by unfold readD; simp only [Bool.false_eq_true, if_false]; rw [if_pos hn]
      rw [e]
      exact Read_out n hn k
    · have e : readD ⟨dur, pend, false, armed, steps, mask⟩ n = (readT dur pend n, 0) := by unfold readD; simp only [Bool.false_eq_true, if_false]; rw [if_neg hn]
      rw [e]
      obtain ⟨m, rfl⟩ : ∃ m : Nat, n = (m : Int) := ⟨n.toNat, by omega⟩
      exact Read_calls m _ rfl (by omega) o.pl k
theorem Write_down (n : Int) (s : ByteArray) (hd : d.down = true) (h : At w g gd gm d) : Calls Try.prog 26 #[.pointer (some ⟨g, 0, none⟩), .int .i64 n, .string s] w fun e w' => e = .returned (.int .i64 17) ∧ w' = w := by
  have H := Lib.hid h
  have HD := Lib.hid hd
  clear h hd
  go_enter Try.func26, Try.ntmps26
  go_wp2_with (first | (go_at_call 28; refine (state_calls H.out.k).mono ?_; rintro e w1 ⟨rfl, hw1⟩; subst hw1; rw [HD.out]))
  go_ret
  exact ⟨rfl, rfl⟩
set_option maxHeartbeats 4000000 in
theorem Write_ok (n : Nat) (s : ByteArray) (hd : d.down = false) (hn : n < d.dur.length) (hs : s.size ≤ 64) (hp : d.pend.length < 1000000) (h : At w g gd gm d) : Calls Try.prog 26 #[.pointer (some ⟨g, 0, none⟩), .int .i64 (n : Int), .string s] w fun e w' => e = .returned (.int .i64 (writeD d n s).1) ∧ At w' g gd gm (writeD d n s).2 ∧ Turn (fun k => k = g ∨ k = gd ∨ k = gm) w w' := by
  have H := Lib.hid h
  have HD := Lib.hid hd
  have hc : w.cell? ⟨g, 0, none⟩ = some (.slice (some ⟨gd, 0, none⟩) d.dur.length d.dur.length) := (blk_cell h.k.c 0).trans rfl
  have HS := Lib.hid (step_at h)
  have ew : writeD d n s = if (stepD d).2 = true then (17, (stepD d).1) else (0, putD (stepD d).1 n s) := by unfold writeD; rw [hd]; simp only [Bool.false_eq_true, if_false]; rw [if_neg (by omega), if_neg (by omega)]
  rw [ew]
  have hpl : (stepD d).2 = true ∨ (stepD d).1.pend = d.pend := by
    unfold stepD
    split
    · split
      · exact Or.inl rfl
      · exact Or.inr rfl
    · exact Or.inr rfl
  have hps : (stepD d).1.dur.length = d.dur.length := by
    unfold stepD
    split
    · split
      · exact settleK_len ..
      · rfl
    · rfl
  generalize stepD d = x at *
  obtain ⟨d1, b⟩ := x
  have HPL := Lib.hid hpl
  have HPS := Lib.hid hps
  clear h hd ew hpl hps
  go_enter Try.func26, Try.ntmps26
  cases b with
  | true =>
    go_wp2_with (first | (go_at_call 28; refine (state_calls H.out.k).mono ?_; rintro e w1 ⟨rfl, hw1⟩; subst hw1; rw [HD.out]) | (go_at_call 34; refine HS.out.mono ?_; rintro e w1 ⟨rfl, h1, t1⟩))
    go_ret
    exact ⟨rfl, h1, t1⟩
  | false =>
    go_wp2_with (first | (go_at_call 28; refine (state_calls H.out.k).mono ?_; rintro e w1 ⟨rfl, hw1⟩; subst hw1; rw [HD.out]) | (go_at_call 34; refine HS.out.mono ?_; rintro e w1 ⟨rfl, h1, t1⟩; have H1 := Lib.hid h1; have T1 := Lib.hid t1; clear h1 t1))
    have e0 : w1.cell? ⟨g, 1, none⟩ = some (.map (some gm)) := (blk_cell H1.out.k.c 1).trans rfl
    have e1 : PMap w1 gm 0 d1.pend := H1.out.k.m
    have e2 : PMap w1.drew gm 0 d1.pend := e1.kept rfl
    have hlp : d1.pend.length < 1000000 := by rcases HPL.out with h | h; (cases h); rw [h]; exact hp
    obtain ⟨w6, hrun, hm6, ht6⟩ := e2.put ⟨(n : Int), s⟩ (by omega)
    have hrun2 : (Instr.mapUpdate 57 (.map (some gm)) (.int .i64 (lenAt gm w1.drew)) (.agg #[.int .i64 (n : Int), .string s])).run Try.prog w1.drew = .ok () w6 := by rw [e2.lenAt]; exact hrun
    have T6 : Turn (fun k => k = gm) w1 w6 := Turn.trans (Turn.drew (Turn.refl _ _)) (Turn.of_map ht6 rfl)
    have T7 : Turn (fun k => k = g ∨ k = gd ∨ k = gm) w1 w6 := T6.mono (fun _ _ e => Or.inr (Or.inr e))
    have K6 : DK w6 g gd gm 0 d1.dur (d1.pend ++ [⟨(n : Int), s⟩]) d1.down d1.armed d1.steps d1.mask := ⟨T6.blk H1.out.k.c H1.out.k.ne2, T6.blk H1.out.k.d H1.out.k.ne3, hm6⟩
    have f0 : w6.cell? ⟨g, 1, none⟩ = some (.map (some gm)) := (blk_cell K6.c 1).trans rfl
    have f1 := fun ty => len_at K6.m.blk ty
    have f2 := fun ty => len_at e1.blk ty
    have f3 := fun ty => len_at e2.blk ty
    have K7 := Lib.hid K6
    have HO := Lib.hid (putD_ok H1.out.o (n : Int) s (by omega) (by have := HPS.out; omega) hlp)
    have T8 := Lib.hid T7
    have e0d : w1.drew.cell? ⟨g, 1, none⟩ = some (.map (some gm)) := e0
    clear hrun hm6 ht6 e1 e2 T6 T7 K6
    go_region_with (fail)
    all_goals go_wp2
    all_goals go_ret
    all_goals exact ⟨rfl, ⟨K7.out, HO.out⟩, T1.out.trans T8.out⟩
end
end Go.Proofs.Ytkgdppjlbjmjoaa.Dk
