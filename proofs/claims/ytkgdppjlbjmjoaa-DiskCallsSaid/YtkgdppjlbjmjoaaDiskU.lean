/- Disk: our disk beside the reference's -/
import Derived.Test.YtkgdppjlbjmjoaaDiskT
import Derived.Test.YtkgdppjlbjmjoaaDiskO
namespace Go.Proofs.Ytkgdppjlbjmjoaa.Dk
open Go.RowKit Go.Proofs.Ytkgdppjlbjmjoaa.PAll Go.Proofs.YtkgdppjlbjmjoaaW.PrintWords Go.Proofs.YtkgdppjlbjmjoaaW.PrintLast Go.Proofs.YtkgdppjlbjmjoaaW.PrintMore
set_option linter.unusedVariables false
set_option linter.unusedSimpArgs false
/-- Our disk, the reference's disk in its variable, its rows. -/
structure CSt (w wr : World) (g gd gm rg : Nat) (d : DS) (P : List S67) (st mk : Int) (vB vP : Value) : Prop where
  a : At wr g gd gm d
  rb : wr.heap[rg]? = some (.cells #[vB, vP, .bool d.down, .bool d.armed, .int .i64 st, .int .u64 mk] 30 (0, 0))
  o : Kd.R Kd.string 9 wr w.heap.size (fun k => ¬ (k = g ∨ k = gd ∨ k = gm ∨ k = rg)) vB d.dur
  p : Kd.R k67 67 wr w.heap.size (fun k => ¬ (k = g ∨ k = gd ∨ k = gm ∨ k = rg)) vP P
  l : Rl d P st mk
  b : Below w.heap.size w wr
  s : ∀ k, (k = g ∨ k = gd ∨ k = gm ∨ k = rg) → w.heap.size ≤ k
  n : ¬ (rg = g ∨ rg = gd ∨ rg = gm)
section
variable {w wr w1 : World} {g gd gm rg : Nat} {d d' : DS} {P : List S67} {st mk : Int} {vB vP : Value}
theorem CSt.below (h : CSt w wr g gd gm rg d P st mk vB vP) (hb : Below wr.heap.size wr w1) : CSt w w1 g gd gm rg d P st mk vB vP :=
  ⟨h.a.below hb, blk_below h.rb hb, Kd.R_below h.o hb, Kd.R_below h.p hb, h.l, below_step h.b hb, h.s, h.n⟩
theorem CSt.drew (h : CSt w wr g gd gm rg d P st mk vB vP) : CSt w wr.drew g gd gm rg d P st mk vB vP := h.below (below_drew (Below.refl _ _))
theorem CSt.alloc (h : CSt w wr g gd gm rg d P st mk vB vP) (o : Obj) : CSt w (wr.alloc o) g gd gm rg d P st mk vB vP := h.below (below_alloc (Below.refl _ _) o)
theorem CSt.lt (h : CSt w wr g gd gm rg d P st mk vB vP) : ∀ k, (k = g ∨ k = gd ∨ k = gm ∨ k = rg) → k < wr.heap.size := by
  rintro k (hk | hk | hk | hk)
  · exact h.a.lt k (Or.inl hk)
  · exact h.a.lt k (Or.inr (Or.inl hk))
  · exact h.a.lt k (Or.inr (Or.inr hk))
  · rw [hk]; exact blk_lt h.rb
/-- What a call of the reference leaves: its result's rows, beside our disk. -/
structure XSt (w wr : World) (g gd gm rg : Nat) (d d' : DS) (P : List S67) (st mk : Int) (v0 v1 : Value) : Prop where
  a : At wr g gd gm d
  rb : ∃ cs, cs.size = 6 ∧ wr.heap[rg]? = some (.cells cs 30 (0, 0))
  o : Kd.R Kd.string 9 wr w.heap.size (fun k => ¬ (k = g ∨ k = gd ∨ k = gm ∨ k = rg)) v0 d'.dur
  p : Kd.R k67 67 wr w.heap.size (fun k => ¬ (k = g ∨ k = gd ∨ k = gm ∨ k = rg)) v1 P
  l : Rl d' P st mk
  b : Below w.heap.size w wr
  s : ∀ k, (k = g ∨ k = gd ∨ k = gm ∨ k = rg) → w.heap.size ≤ k
  n : ¬ (rg = g ∨ rg = gd ∨ rg = gm)
theorem XSt.below {v0 v1 : Value} (h : XSt w wr g gd gm rg d d' P st mk v0 v1) (hb : Below wr.heap.size wr w1) : XSt w w1 g gd gm rg d d' P st mk v0 v1 :=
  ⟨h.a.below hb, h.rb.elim fun cs hc => ⟨cs, hc.1, blk_below hc.2 hb⟩, Kd.R_below h.o hb, Kd.R_below h.p hb, h.l, below_step h.b hb, h.s, h.n⟩
theorem row_not {α : Type} {dd : Kd α} {e base : Nat} {ok : Nat → Prop} {v : Value} {xs : List α} (h : dd.R e wr base ok v xs) (he : ∀ q, q ∈ e :: dd.E → q ≠ 30) : dd.R e wr base (fun k => ok k ∧ ¬ ∃ cs, wr.heap[k]? = some (.cells cs 30 (0, 0))) v xs :=
  Kd.R_mono (Kd.R_bound h) (fun k hk => ⟨hk.1, fun ⟨cs, hc⟩ => by
    obtain ⟨_, _, _, q, hq, cells, hc'⟩ := hk
    rw [hc] at hc'
    injection hc' with hc'
    injection hc' with _ hc'
    exact he q hq hc'.symm⟩)
theorem CSt.also (h : CSt w wr g gd gm rg d P st mk vB vP) (h1 : d.mask ≤ 18446744073709551615) (f0 f1 : Int) (s : ByteArray) (m : Int) (m0 : 0 ≤ m) (m1 : m ≤ 18446744073709551615) :
    Calls Try.prog 17 #[.agg #[vB, vP, .bool d.down, .bool d.armed, .int .i64 st, .int .u64 mk], .agg #[.int .i64 f0, .int .i64 f1, .string s, .int .u64 m]] wr fun e w' => ∃ A0 c0 A1 c1 P' st' mk',
      e = .returned (.tuple #[.agg #[.slice A0 (doD d f0 f1 s m).2.dur.length c0, .slice A1 P'.length c1, .bool (doD d f0 f1 s m).2.down, .bool (doD d f0 f1 s m).2.armed, .int .i64 st', .int .u64 mk'], .int .i64 (doD d f0 f1 s m).1]) ∧
      XSt w w' g gd gm rg d (doD d f0 f1 s m).2 P' st' mk' (.slice A0 (doD d f0 f1 s m).2.dur.length c0) (.slice A1 P'.length c1) ∧ ∀ (k : Nat) (cs : Array Value), wr.heap[k]? = some (Obj.cells cs 30 (0, 0)) → w'.heap[k]? = some (Obj.cells cs 30 (0, 0)) := by
  obtain ⟨P', st', mk', hr, he⟩ := also_rl h.l h.a.o h1 f0 f1 s m m0 m1
  obtain ⟨k, hk⟩ := he.rounds
  refine (sawmilllaw56_also.calls k _ vB d.dur _ vP P d.down d.armed st mk f0 f1 s m _ _ _ _ _ _ _ w wr h.b (row_not h.o (by decide)) (row_not h.p (by decide)) hk).mono ?_
  rintro e w' ⟨v0, v1, rfl, ho, hp, hb, hkp⟩
  have hk2 : ∀ k, (k = g ∨ k = gd ∨ k = gm ∨ k = rg) → w'.heap[k]? = wr.heap[k]? := fun k hk => hkp.2 k (h.lt k hk) (fun hx => by rcases hx with hx | hx <;> exact hx.1 hk)
  have hk3 : ∀ (k : Nat) (cs : Array Value), wr.heap[k]? = some (Obj.cells cs 30 (0, 0)) → w'.heap[k]? = some (Obj.cells cs 30 (0, 0)) := fun k cs hc => (hkp.2 k (blk_lt hc) (fun hx => by rcases hx with hx | hx <;> exact hx.2 ⟨cs, hc⟩)).trans hc
  have hok : ∀ k, (((¬ (k = g ∨ k = gd ∨ k = gm ∨ k = rg) ∧ ¬ ∃ cs, wr.heap[k]? = some (.cells cs 30 (0, 0))) ∨ (¬ (k = g ∨ k = gd ∨ k = gm ∨ k = rg) ∧ ¬ ∃ cs, wr.heap[k]? = some (.cells cs 30 (0, 0)))) ∨ wr.heap.size ≤ k) → ¬ (k = g ∨ k = gd ∨ k = gm ∨ k = rg) := by
    rintro k ((hx | hx) | hx)
    · exact hx.1
    · exact hx.1
    · intro hs
      have := h.lt k hs
      omega
  have ht : Turn (fun k => ¬ (k = g ∨ k = gd ∨ k = gm ∨ k = rg)) wr w' := ⟨hb.os.trans h.b.os.symm, hb.tape.trans h.b.tape.symm, hb.output.trans h.b.output.symm, hkp.1, fun i hi hn => hk2 i (Classical.not_not.1 hn)⟩
  obtain ⟨A0, c0, rfl⟩ := Kd.R_slice ho
  obtain ⟨A1, c1, rfl⟩ := Kd.R_slice hp
  exact ⟨A0, c0, A1, c1, P', st', mk', rfl, ⟨⟨h.a.k.kept ht (fun hn => hn (Or.inl rfl)) (fun hn => hn (Or.inr (Or.inl rfl))) (fun hn => hn (Or.inr (Or.inr (Or.inl rfl)))), h.a.o⟩, ⟨_, rfl, (hk2 rg (Or.inr (Or.inr (Or.inr rfl)))).trans h.rb⟩, Kd.R_mono ho hok, Kd.R_mono hp hok, hr, hb, h.s, h.n⟩, hk3⟩
/-- A store into a block that is none of ours. -/
theorem XSt.put {v0 v1 : Value} {S : Nat → Prop} (h : XSt w wr g gd gm rg d d' P st mk v0 v1) (ht : Turn S wr w1) (hs : ∀ k, S k → w.heap.size ≤ k ∧ ¬ (k = g ∨ k = gd ∨ k = gm ∨ k = rg) ∧ ∃ cs, wr.heap[k]? = some (.cells cs 30 (0, 0))) : XSt w w1 g gd gm rg d d' P st mk v0 v1 :=
  ⟨⟨h.a.k.kept ht (fun hk => (hs _ hk).2.1 (Or.inl rfl)) (fun hk => (hs _ hk).2.1 (Or.inr (Or.inl rfl))) (fun hk => (hs _ hk).2.1 (Or.inr (Or.inr (Or.inl rfl)))), h.a.o⟩, h.rb.elim fun cs hc => ⟨cs, hc.1, ht.blk hc.2 (fun hk => (hs _ hk).2.1 (Or.inr (Or.inr (Or.inr rfl))))⟩,
    Kd.R_mono (ht.row (row_not h.o (by decide)) (fun k hk hx => hk.2 (hs k hx).2.2)) (fun _ hk => hk.1), Kd.R_mono (ht.row (row_not h.p (by decide)) (fun k hk hx => hk.2 (hs k hx).2.2)) (fun _ hk => hk.1), h.l, ht.below h.b (fun k hk => (hs k hk).1), h.s, h.n⟩
/-- The reference's variable takes the result. -/
theorem XSt.take {v0 v1 : Value} (h : XSt w wr g gd gm rg d d P st mk v0 v1) (ht : Turn (fun k => k = rg) wr w1) (hb : w1.heap[rg]? = some (.cells #[v0, v1, .bool d.down, .bool d.armed, .int .i64 st, .int .u64 mk] 30 (0, 0))) : CSt w w1 g gd gm rg d P st mk v0 v1 :=
  ⟨⟨h.a.k.kept ht (fun hk => h.n (Or.inl hk.symm)) (fun hk => h.n (Or.inr (Or.inl hk.symm))) (fun hk => h.n (Or.inr (Or.inr hk.symm))), h.a.o⟩, hb, ht.row h.o (fun k hk hx => hk (Or.inr (Or.inr (Or.inr hx)))), ht.row h.p (fun k hk hx => hk (Or.inr (Or.inr (Or.inr hx)))), h.l, ht.below h.b (fun k hk => h.s k (Or.inr (Or.inr (Or.inr hk)))), h.s, h.n⟩
theorem XSt.lt {v0 v1 : Value} (h : XSt w wr g gd gm rg d d' P st mk v0 v1) : ∀ k, (k = g ∨ k = gd ∨ k = gm ∨ k = rg) → k < wr.heap.size := by
  rintro k (hk | hk | hk | hk)
  · exact h.a.lt k (Or.inl hk)
  · exact h.a.lt k (Or.inr (Or.inl hk))
  · exact h.a.lt k (Or.inr (Or.inr hk))
  · obtain ⟨cs, _, hc⟩ := h.rb
    rw [hk]; exact blk_lt hc
theorem XSt.turn {v0 v1 : Value} (h : XSt w wr g gd gm rg d d' P st mk v0 v1) (ha : At w1 g gd gm d') (ht : Turn (fun k => k = g ∨ k = gd ∨ k = gm) wr w1) : XSt w w1 g gd gm rg d' d' P st mk v0 v1 :=
  ⟨ha, h.rb.elim fun cs hc => ⟨cs, hc.1, ht.blk hc.2 h.n⟩, ht.row h.o (fun k hk hs => hk (by rcases hs with hs | hs | hs; exact Or.inl hs; exact Or.inr (Or.inl hs); exact Or.inr (Or.inr (Or.inl hs)))), ht.row h.p (fun k hk hs => hk (by rcases hs with hs | hs | hs; exact Or.inl hs; exact Or.inr (Or.inl hs); exact Or.inr (Or.inr (Or.inl hs)))), h.l,
    ht.below h.b (fun k hk => h.s k (by rcases hk with hk | hk | hk; exact Or.inl hk; exact Or.inr (Or.inl hk); exact Or.inr (Or.inr (Or.inl hk)))), h.s, h.n⟩
theorem CSt.read (h : CSt w wr g gd gm rg d P st mk vB vP) (n : Int) : Calls Try.prog 12 #[.pointer (some ⟨g, 0, none⟩), .int .i64 n] wr fun e w' => e = .returned (.tuple #[.string (readD d n).1, .int .i64 (readD d n).2]) ∧ w' = wr := Read_at n h.a
theorem CSt.refRead (h : CSt w wr g gd gm rg d P st mk vB vP) (n : Int) : Calls Try.prog 19 #[.agg #[vB, vP, .bool d.down, .bool d.armed, .int .i64 st, .int .u64 mk], .int .i64 n] wr fun e w' => e = .returned (.tuple #[.string (readD d n).1, .int .i64 (readD d n).2]) ∧ CSt w w' g gd gm rg d P st mk vB vP := by
  obtain ⟨k, hk⟩ := (read_rl h.l h.a.o n).rounds
  obtain ⟨A, c, rfl⟩ := Kd.R_slice h.o
  obtain ⟨A', c', rfl⟩ := Kd.R_slice h.p
  have h1 := Kd.R_reads' h.o
  have h2 := Kd.R_reads' h.p
  exact (sawmillref56_Read.calls k A c d.dur A' c' P d.down d.armed st mk n (readD d n).1 (readD d n).2 wr h1.2.2 h1.2.1 h2.2.2 h2.2.1 hk).mono fun e w' ⟨he, hb⟩ => ⟨he, h.below hb⟩
end
theorem arr6 {cs : Array Value} (h : cs.size = 6) : ∃ y0 y1 y2 y3 y4 y5, cs = #[y0, y1, y2, y3, y4, y5] := by
  obtain ⟨l⟩ := cs
  match l, h with
  | [a, b, c, d, e, f], _ => exact ⟨a, b, c, d, e, f, rfl⟩
section
variable {w wr : World} {g gd gm rg : Nat} {d : DS} {P : List S67} {st mk : Int} {vB vP : Value}
theorem CSt.downAt (h : CSt w wr g gd gm rg d P st mk vB vP) : Calls Try.prog 15 #[.pointer (some ⟨g, 0, none⟩)] wr fun e w' => e = .returned (.bool d.down) ∧ w' = wr := Down_at h.a
theorem CSt.pendAt (h : CSt w wr g gd gm rg d P st mk vB vP) : Calls Try.prog 14 #[.pointer (some ⟨g, 0, none⟩)] wr fun e w' => e = .returned (.int .i64 (P.length : Int)) ∧ w' = wr := by
  rw [h.l.len]
  exact Pending_at h.a
theorem CSt.blocksAt (h : CSt w wr g gd gm rg d P st mk vB vP) (b : Nat) (hb : d.dur.length = b) : Calls Try.prog 13 #[.pointer (some ⟨g, 0, none⟩)] wr fun e w' => e = .returned (.int .i64 (b : Int)) ∧ w' = wr := by
  subst hb
  exact Blocks_at h.a
theorem CSt.drewN (h : CSt w wr g gd gm rg d P st mk vB vP) (n : Nat) : CSt w (wr.drewN n) g gd gm rg d P st mk vB vP := h.below (pw_below_drewN (Below.refl _ _) n)
end
end Go.Proofs.Ytkgdppjlbjmjoaa.Dk
