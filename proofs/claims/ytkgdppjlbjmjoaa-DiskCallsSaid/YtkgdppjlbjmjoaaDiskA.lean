/- The disk's methods: DiskA. -/
import Derived.Test.YtkgdppjlbjmjoaaMaps
namespace Go.Proofs.Ytkgdppjlbjmjoaa.Dk
open Go.RowKit Go.Proofs.Ytkgdppjlbjmjoaa.PAll Go.Proofs.YtkgdppjlbjmjoaaW.PrintWords Go.Proofs.YtkgdppjlbjmjoaaW.PrintLast Go.Proofs.YtkgdppjlbjmjoaaW.PrintMore
set_option linter.unusedVariables false
set_option linter.unusedSimpArgs false
/-- The cells of a disk. -/
def dcs (gd gm n : Nat) (down armed : Bool) (steps mask : Int) : Array Value := #[.slice (some ⟨gd, 0, none⟩) n n, .map (some gm), .bool down, .bool armed, .int .i64 steps, .int .u64 mask]
/-- What turned: nothing outside of S. -/
structure Turn (S : Nat → Prop) (w w' : World) : Prop where
  os : w'.os = w.os
  tape : w'.tape = w.tape
  output : w'.output = w.output
  size : w.heap.size ≤ w'.heap.size
  block : ∀ k, k < w.heap.size → ¬ S k → w'.heap[k]? = w.heap[k]?
theorem Turn.refl (S : Nat → Prop) (w : World) : Turn S w w := ⟨rfl, rfl, rfl, Nat.le_refl _, fun _ _ _ => rfl⟩
theorem Turn.trans {S : Nat → Prop} {a b c : World} (h : Turn S a b) (k : Turn S b c) : Turn S a c :=
  ⟨k.os.trans h.os, k.tape.trans h.tape, k.output.trans h.output, Nat.le_trans h.size k.size, fun i hi hs => (k.block i (Nat.lt_of_lt_of_le hi h.size) hs).trans (h.block i hi hs)⟩
theorem Turn.set {S : Nat → Prop} {a w : World} (h : Turn S a w) {g j : Nat} (hg : S g) (v : Value) : Turn S a (w.setCell ⟨g, j, none⟩ v) :=
  ⟨h.os, h.tape, h.output, by simpa using h.size, fun i hi hs => (Below.heap_setCell _ _ _ _ (by show i ≠ g; rintro rfl; exact hs hg)).trans (h.block i hi hs)⟩
theorem Turn.of_below {S : Nat → Prop} {w w1 : World} (h : Below w.heap.size w w1) : Turn S w w1 := ⟨h.os, h.tape, h.output, h.size, fun i hi _ => h.block i hi⟩
theorem Turn.of_map {S : Nat → Prop} {w w1 : World} {b : Nat} (h : w.mapTurned w1 b) (hb : S b) : Turn S w w1 := by
  have g := h.grown
  exact ⟨g.os, g.tape, g.output, g.size, fun i hi hs => g.block i hi (by rintro e; injection e with e; exact hs (e ▸ hb))⟩
theorem Turn.mono {S S' : Nat → Prop} {w w1 : World} (h : Turn S w w1) (hs : ∀ k, k < w.heap.size → S k → S' k) : Turn S' w w1 := ⟨h.os, h.tape, h.output, h.size, fun i hi hn => h.block i hi (fun k => hn (hs i hi k))⟩
theorem Turn.below {S : Nat → Prop} {w0 w w1 : World} (h : Turn S w w1) (hb : Below w0.heap.size w0 w) (hs : ∀ k, S k → w0.heap.size ≤ k) : Below w0.heap.size w0 w1 :=
  ⟨h.os.trans hb.os, h.tape.trans hb.tape, h.output.trans hb.output, Nat.le_trans hb.size h.size, fun k hk => (h.block k (Nat.lt_of_lt_of_le hk hb.size) (fun s => by have := hs k s; omega)).trans (hb.block k hk)⟩
theorem Turn.blk {S : Nat → Prop} {w w1 : World} {k : Nat} {o : Obj} (h : Turn S w w1) (hb : w.heap[k]? = some o) (hs : ¬ S k) : w1.heap[k]? = some o := (h.block k (blk_lt hb) hs).trans hb
/-- A disk in memory: its own cells, its durable texts, its pending writes (of which the first k have been settled). -/
structure DK (w : World) (g gd gm k : Nat) (dur : List ByteArray) (pend : List Wr) (down armed : Bool) (steps mask : Int) : Prop where
  c : w.heap[g]? = some (.cells (dcs gd gm dur.length down armed steps mask) 59 (0, 0))
  d : w.heap[gd]? = some (.cells (dur.map Value.string).toArray 9 (0, 0))
  m : PMap w gm k pend
theorem DK.ne1 {w : World} {g gd gm k : Nat} {dur : List ByteArray} {pend : List Wr} {down armed : Bool} {steps mask : Int} (h : DK w g gd gm k dur pend down armed steps mask) : g ≠ gd := by
  rintro rfl
  have := h.c.symm.trans h.d
  injection this with e
  injection e with _ e
  cases e
theorem DK.ne2 {w : World} {g gd gm k : Nat} {dur : List ByteArray} {pend : List Wr} {down armed : Bool} {steps mask : Int} (h : DK w g gd gm k dur pend down armed steps mask) : g ≠ gm := by
  rintro rfl
  obtain ⟨es, c, hm⟩ := h.m.blk
  have := h.c.symm.trans hm
  injection this with e
  cases e
theorem DK.ne3 {w : World} {g gd gm k : Nat} {dur : List ByteArray} {pend : List Wr} {down armed : Bool} {steps mask : Int} (h : DK w g gd gm k dur pend down armed steps mask) : gd ≠ gm := by
  rintro rfl
  obtain ⟨es, c, hm⟩ := h.m.blk
  have := h.d.symm.trans hm
  injection this with e
  cases e
theorem DK.kept {w w1 : World} {S : Nat → Prop} {g gd gm k : Nat} {dur : List ByteArray} {pend : List Wr} {down armed : Bool} {steps mask : Int} (h : DK w g gd gm k dur pend down armed steps mask) (ht : Turn S w w1) (h1 : ¬ S g) (h2 : ¬ S gd) (h3 : ¬ S gm) : DK w1 g gd gm k dur pend down armed steps mask := by
  obtain ⟨es, c, hm⟩ := h.m.blk
  exact ⟨ht.blk h.c h1, ht.blk h.d h2, h.m.kept (ht.block gm (blk_lt hm) h3)⟩
/-- One cell of the disk is written. -/
theorem DK.set {w : World} {g gd gm k : Nat} {dur : List ByteArray} {pend : List Wr} {down armed down' armed' : Bool} {steps mask steps' mask' : Int} (h : DK w g gd gm k dur pend down armed steps mask) (j : Nat) (v : Value)
    (hv : (dcs gd gm dur.length down armed steps mask).setIfInBounds j v = dcs gd gm dur.length down' armed' steps' mask') : DK (w.setCell ⟨g, j, none⟩ v) g gd gm k dur pend down' armed' steps' mask' := by
  obtain ⟨es, c, hm⟩ := h.m.blk
  exact ⟨blk_put h.c j v hv, (Below.heap_setCell _ _ _ _ (Ne.symm h.ne1)).trans h.d, h.m.kept (Below.heap_setCell _ _ _ _ (Ne.symm h.ne2))⟩
/-- One durable text is written. -/
theorem DK.setDur {w : World} {g gd gm k : Nat} {dur : List ByteArray} {pend : List Wr} {down armed : Bool} {steps mask : Int} (h : DK w g gd gm k dur pend down armed steps mask) (j : Nat) (s : ByteArray) : DK (w.setCell ⟨gd, j, none⟩ (.string s)) g gd gm k (dur.set j s) pend down armed steps mask := by
  refine ⟨?_, blk_put h.d j _ ?_, h.m.kept (Below.heap_setCell _ _ _ _ (Ne.symm h.ne3))⟩
  · rw [List.length_set]
    exact (Below.heap_setCell _ _ _ _ h.ne1).trans h.c
  · simp [List.map_set]
theorem dcs_put (gd gm n : Nat) (down armed : Bool) (steps mask : Int) : (∀ b, (dcs gd gm n down armed steps mask).setIfInBounds 2 (.bool b) = dcs gd gm n b armed steps mask) ∧ (∀ b, (dcs gd gm n down armed steps mask).setIfInBounds 3 (.bool b) = dcs gd gm n down b steps mask) ∧ (∀ b, (dcs gd gm n down armed steps mask).setIfInBounds 4 (.int .i64 b) = dcs gd gm n down armed b mask) ∧ (∀ b, (dcs gd gm n down armed steps mask).setIfInBounds 5 (.int .u64 b) = dcs gd gm n down armed steps b) :=
  ⟨fun _ => rfl, fun _ => rfl, fun _ => rfl, fun _ => rfl⟩
section
variable {g gd gm k : Nat} {dur : List ByteArray} {pend : List Wr} {down armed : Bool} {steps mask : Int} {w : World}
theorem state_calls (h : DK w g gd gm k dur pend down armed steps mask) :
    Calls Try.prog 28 #[.pointer (some ⟨g, 0, none⟩)] w fun e w' => e = .returned (.int .i64 (if down = true then 17 else 0)) ∧ w' = w := by
  have hc : w.cell? ⟨g, 2, none⟩ = some (.bool down) := (blk_cell h.c 2).trans rfl
  clear h
  cases down <;> (go_enter Try.func28, Try.ntmps28; go_wp2; go_ret; exact ⟨rfl, rfl⟩)
theorem state_nil (w : World) : Calls Try.prog 28 #[.pointer none] w fun e w' => e = .returned (.int .i64 1) ∧ w' = w := by
  go_enter Try.func28, Try.ntmps28
  go_wp2
  go_ret
  exact ⟨rfl, rfl⟩
theorem Blocks_calls (h : DK w g gd gm k dur pend down armed steps mask) :
    Calls Try.prog 13 #[.pointer (some ⟨g, 0, none⟩)] w fun e w' => e = .returned (.int .i64 dur.length) ∧ w' = w := by
  have hc : w.cell? ⟨g, 0, none⟩ = some (.slice (some ⟨gd, 0, none⟩) dur.length dur.length) := (blk_cell h.c 0).trans rfl
  clear h
  go_enter Try.func13, Try.ntmps13
  go_wp2
  go_ret
  exact ⟨rfl, rfl⟩
theorem Blocks_nil (w : World) : Calls Try.prog 13 #[.pointer none] w fun e w' => e = .returned (.int .i64 0) ∧ w' = w := by
  go_enter Try.func13, Try.ntmps13
  go_wp2
  go_ret
  exact ⟨rfl, rfl⟩
theorem Down_calls (h : DK w g gd gm k dur pend down armed steps mask) :
    Calls Try.prog 15 #[.pointer (some ⟨g, 0, none⟩)] w fun e w' => e = .returned (.bool down) ∧ w' = w := by
  have hc : w.cell? ⟨g, 2, none⟩ = some (.bool down) := (blk_cell h.c 2).trans rfl
  clear h
  go_enter Try.func15, Try.ntmps15
  go_wp2
  go_ret
  exact ⟨rfl, rfl⟩
theorem Down_nil (w : World) : Calls Try.prog 15 #[.pointer none] w fun e w' => e = .returned (.bool false) ∧ w' = w := by
  go_enter Try.func15, Try.ntmps15
  go_wp2
  go_ret
  exact ⟨rfl, rfl⟩
theorem Pending_calls (h : DK w g gd gm k dur pend down armed steps mask) :
    Calls Try.prog 14 #[.pointer (some ⟨g, 0, none⟩)] w fun e w' => e = .returned (.int .i64 ((pend.length - k : Nat) : Int)) ∧ w' = w := by
  have hc : w.cell? ⟨g, 1, none⟩ = some (.map (some gm)) := (blk_cell h.c 1).trans rfl
  have hl := fun ty => h.m.len ty
  clear h
  go_enter Try.func14, Try.ntmps14
  go_wp2
  go_ret
  exact ⟨rfl, rfl⟩
theorem Pending_nil (w : World) : Calls Try.prog 14 #[.pointer none] w fun e w' => e = .returned (.int .i64 0) ∧ w' = w := by
  go_enter Try.func14, Try.ntmps14
  go_wp2
  go_ret
  exact ⟨rfl, rfl⟩
theorem Recover_calls (h : DK w g gd gm k dur pend down armed steps mask) :
    Calls Try.prog 25 #[.pointer (some ⟨g, 0, none⟩)] w fun e w' => e = .returned (.int .i64 (if down = true then 0 else 14)) ∧ DK w' g gd gm k dur pend false armed steps mask ∧ Turn (fun k => k = g) w w' := by
  have hc : w.cell? ⟨g, 2, none⟩ = some (.bool down) := (blk_cell h.c 2).trans rfl
  have hf := blk_frozen h.c 2
  have H := Lib.hid h
  clear h
  cases down with
  | true =>
    go_enter Try.func25, Try.ntmps25
    go_wp2
    go_ret
    exact ⟨rfl, H.out.set 2 _ rfl, Turn.set (S := fun k => k = g) (Turn.refl _ _) rfl _⟩
  | false =>
    go_enter Try.func25, Try.ntmps25
    go_wp2
    go_ret
    exact ⟨rfl, H.out, Turn.refl _ _⟩
theorem Recover_nil (w : World) : Calls Try.prog 25 #[.pointer none] w fun e w' => e = .returned (.int .i64 1) ∧ w' = w := by
  go_enter Try.func25, Try.ntmps25
  go_wp2
  go_ret
  exact ⟨rfl, rfl⟩
end
end Go.Proofs.Ytkgdppjlbjmjoaa.Dk
