/- Disk: the disk and the rows beside it -/
import Derived.Test.YtkgdppjlbjmjoaaDiskP
namespace Go.Proofs.Ytkgdppjlbjmjoaa.Dk
open Go.RowKit Go.Proofs.Ytkgdppjlbjmjoaa.PAll Go.Proofs.YtkgdppjlbjmjoaaW.PrintWords Go.Proofs.YtkgdppjlbjmjoaaW.PrintLast Go.Proofs.YtkgdppjlbjmjoaaW.PrintMore
set_option linter.unusedVariables false
set_option linter.unusedSimpArgs false
theorem info42 : (Try.prog.info? 42).map (fun i => (i.zero, i.size, i.bytes)) = some (some (.agg #[(.int .i64 0), (.int .i64 0), (.string ⟨#[]⟩), (.int .u64 0)]), 4, 40) := by kernel_rfl
/-- The disk, the flushed contents, the writes made since: each at its own place. -/
structure MSt (w wr : World) (g gd gm : Nat) (d : DS) (O : List ByteArray) (M : List S42) (vO vM : Value) : Prop where
  a : At wr g gd gm d
  o : Kd.R Kd.string 9 wr w.heap.size (fun k => ¬ (k = g ∨ k = gd ∨ k = gm)) vO O
  m : Kd.R k42 42 wr w.heap.size (fun k => ¬ (k = g ∨ k = gd ∨ k = gm)) vM M
  b : Below w.heap.size w wr
  s : ∀ k, (k = g ∨ k = gd ∨ k = gm) → w.heap.size ≤ k
section
variable {w wr w1 : World} {g gd gm : Nat} {d d' : DS} {O : List ByteArray} {M : List S42} {vO vM : Value}
theorem MSt.turn (h : MSt w wr g gd gm d O M vO vM) (ha : At w1 g gd gm d') (ht : Turn (fun k => k = g ∨ k = gd ∨ k = gm) wr w1) : MSt w w1 g gd gm d' O M vO vM :=
  ⟨ha, ht.row h.o (fun _ hk => hk), ht.row h.m (fun _ hk => hk), ht.below h.b h.s, h.s⟩
theorem MSt.below (h : MSt w wr g gd gm d O M vO vM) (hb : Below wr.heap.size wr w1) : MSt w w1 g gd gm d O M vO vM :=
  ⟨h.a.below hb, Kd.R_below h.o hb, Kd.R_below h.m hb, below_step h.b hb, h.s⟩
theorem MSt.drew (h : MSt w wr g gd gm d O M vO vM) : MSt w wr.drew g gd gm d O M vO vM := h.below (below_drew (Below.refl _ _))
theorem row_new (ha : At wr g gd gm d) {u : Value} {L : List ByteArray} {ok : Nat → Prop} (hb : Below wr.heap.size wr w1) (hw : w.heap.size ≤ wr.heap.size) (hu : Kd.R Kd.string 9 w1 wr.heap.size ok u L) : Kd.R Kd.string 9 w1 w.heap.size (fun k => ¬ (k = g ∨ k = gd ∨ k = gm)) u L :=
  Kd.R_lower (Kd.R_mono (Kd.R_bound hu) (fun k hk hs => by have := ha.lt k hs; have := hk.2.1; omega)) hw
theorem MSt.flush (h : MSt w wr g gd gm (mkD O M) O M vO vM) : Calls Try.prog 21 #[.pointer (some ⟨g, 0, none⟩)] wr fun e w' => e = .returned (.int .i64 0) ∧ MSt w w' g gd gm (mkD (flO O M) []) O M vO vM := by
  have hf := Flush_at h.a
  rw [flush_mk] at hf
  exact hf.mono fun e w' ⟨he, hA, hT⟩ => ⟨he, h.turn hA hT⟩
theorem MSt.write (h : MSt w wr g gd gm d O M vO vM) (o : S42) (f : Int) (hw : writeD d o.f1 o.f2 = (f, d')) (hp : d.pend.length < 1000000) : Calls Try.prog 26 #[.pointer (some ⟨g, 0, none⟩), .int .i64 o.f1, .string o.f2] wr fun e w' => e = .returned (.int .i64 f) ∧ MSt w w' g gd gm d' O M vO vM := by
  have hf := Write_at o.f1 o.f2 hp h.a
  rw [hw] at hf
  exact hf.mono fun e w' ⟨he, hA, hT⟩ => ⟨he, h.turn hA hT⟩
theorem MSt.contents (h : MSt w wr g gd gm d O M vO vM) (L : List ByteArray) (hL : contD d = L) : Calls Try.prog 23 #[.pointer (some ⟨g, 0, none⟩)] wr fun e w' => ∃ u, e = .returned u ∧ MSt w w' g gd gm d O M vO vM ∧ Kd.R Kd.string 9 w' w.heap.size (fun k => ¬ (k = g ∨ k = gd ∨ k = gm)) u L ∧ Below wr.heap.size wr w' := by
  subst hL
  exact (contents_at h.a).mono fun e w' ⟨u, he, hu, hb⟩ => ⟨u, he, h.below hb, row_new h.a hb h.b.size hu, hb⟩
theorem MSt.crash (h : MSt w wr g gd gm d O M vO vM) (m : Int) (hm : 0 ≤ m) (f : Int) (hw : hitD d m = (f, d')) : Calls Try.prog 24 #[.pointer (some ⟨g, 0, none⟩), .int .u64 m] wr fun e w' => e = .returned (.int .i64 f) ∧ MSt w w' g gd gm d' O M vO vM ∧ Turn (fun k => k = g ∨ k = gd ∨ k = gm) wr w' := by
  have hf := Crash_at m hm h.a
  rw [hw] at hf
  exact hf.mono fun e w' ⟨he, hA, hT⟩ => ⟨he, h.turn hA hT, hT⟩
theorem MSt.recover (h : MSt w wr g gd gm d O M vO vM) (f : Int) (hw : wakeD d = (f, d')) : Calls Try.prog 25 #[.pointer (some ⟨g, 0, none⟩)] wr fun e w' => e = .returned (.int .i64 f) ∧ MSt w w' g gd gm d' O M vO vM ∧ Turn (fun k => k = g ∨ k = gd ∨ k = gm) wr w' := by
  have hf := Recover_at h.a
  rw [hw] at hf
  exact hf.mono fun e w' ⟨he, hA, hT⟩ => ⟨he, h.turn hA hT, hT⟩
theorem MSt.pending (h : MSt w wr g gd gm d O M vO vM) (n : Nat) (hn : d.pend.length = n) : Calls Try.prog 14 #[.pointer (some ⟨g, 0, none⟩)] wr fun e w' => e = .returned (.int .i64 (n : Int)) ∧ w' = wr := by
  subst hn
  exact Pending_at h.a
/-- What an append to the writes made leaves. -/
theorem MSt.made (h : MSt w wr g gd gm d O M vO vM) {M' : List S42} {v' : Value} (hm : Kd.R k42 42 w1 w.heap.size (fun k => ¬ (k = g ∨ k = gd ∨ k = gm)) v' M') (hb : Below w.heap.size w w1) (hg : wr.grownBy w1 vM.ownBlock) : MSt w w1 g gd gm d O M' vO v' := by
  have ht : Turn (fun k => some k = vM.ownBlock) wr w1 := ⟨hg.os, hg.tape, hg.output, hg.size, fun i hi hn => hg.block i hi hn⟩
  have hn : ∀ k, (k = g ∨ k = gd ∨ k = gm) → ¬ some k = vM.ownBlock := fun k hk he => h.m.1 k he.symm hk
  exact ⟨⟨h.a.k.kept ht (hn _ (Or.inl rfl)) (hn _ (Or.inr (Or.inl rfl))) (hn _ (Or.inr (Or.inr rfl))), h.a.o⟩, Kd.R_over h.o h.m (by decide) hg, hm, hb, h.s⟩
end
end Go.Proofs.Ytkgdppjlbjmjoaa.Dk
