/- The map of the pending writes. -/
import Derived.Test.YtkgdppjlbjmjoaaPAllx0
import Derived.Lib.Hide
import Derived.IntWalk
import Derived.Maps.OwnSet
import Derived.Deep.RegionHeld3
import Derived.Outline
namespace Go.Proofs.Ytkgdppjlbjmjoaa.Dk
open Go.RowKit Go.Proofs.Ytkgdppjlbjmjoaa.PAll Go.Proofs.YtkgdppjlbjmjoaaW.PrintWords Go.Proofs.YtkgdppjlbjmjoaaW.PrintLast Go.Proofs.YtkgdppjlbjmjoaaW.PrintMore
set_option linter.unusedVariables false
set_option linter.unusedSimpArgs false
/-- A pending write. -/
structure Wr where
  block : Int
  text : ByteArray
/-- What a disk is. -/
structure DS where
  dur : List ByteArray
  pend : List Wr
  down : Bool
  armed : Bool
  steps : Int
  mask : Int
def pendCells : List Value → Option (DataW Unit × List MemPlace)
  | [.int .i64 n, .string s] => some (.agg [.lit (.int .i64 n), .lit (.string s.data.toList)], [])
  | _ => none
def pendElem : Value → Option (DataW Unit × List MemPlace)
  | .agg cs => pendCells cs.toList
  | _ => none
def wrD (x : Wr) : DataW Unit := .agg [.lit (.int .i64 x.block), .lit (.string x.text.data.toList)]
def wrV (x : Wr) : Value := .agg #[.int .i64 x.block, .string x.text]
theorem pend_mk (x : Wr) : pendElem (wrV x) = some (wrD x, []) := rfl
theorem pend_inv {v : Value} {x : Wr} {ps : List MemPlace} (h : pendElem v = some (wrD x, ps)) : v = wrV x := by
  cases v with
  | agg cs =>
    have h1 : pendCells cs.toList = some (wrD x, ps) := h
    obtain ⟨l⟩ := cs
    simp only at h1
    unfold pendCells at h1
    split at h1
    · rename_i n s
      simp only [wrD, Option.some.injEq, Prod.mk.injEq, DataW.agg.injEq, List.cons.injEq, DataW.lit.injEq, Lit.int.injEq, Lit.string.injEq, true_and, and_true] at h1
      obtain ⟨⟨h1, h2⟩, _⟩ := h1
      obtain ⟨b, ⟨t⟩⟩ := x
      obtain ⟨s⟩ := s
      simp only at h1 h2
      have : s = t := Array.ext' h2
      subst this
      subst h1
      rfl
    · cases h1
  | _ => cases h
theorem kd3 : Maps.Keyed Try.prog 3 := Maps.int_keyed Try.underlying3
theorem zero61 (w : World) : (zeroValue 61).run Try.prog w = .ok (wrV ⟨0, ⟨#[]⟩⟩) w := by kernel_rfl
/-- The map holds the writes from k on. -/
def PMap (w : World) (b k : Nat) (l : List Wr) : Prop :=
  ∃ D, w.ownsMap Try.prog 3 pendElem b (Maps.size D) D ∧ Maps.size D + k = l.length ∧ ∀ i : Nat, Maps.has D (.int .i64 (i : Int)) = decide (k ≤ i ∧ i < l.length) ∧ ∀ x, k ≤ i → l[i]? = some x → ∀ z, D.atKey (.int .i64 (i : Int)) z = wrD x
theorem tight {w : World} {b n : Nat} {D : DataW Unit} (h : w.ownsMap Try.prog 3 pendElem b n D) : w.ownsMap Try.prog 3 pendElem b (Maps.size D) D := by
  obtain ⟨es, clock, hb, F, _, rfl⟩ := h
  refine ⟨es, clock, hb, F, ?_, rfl⟩
  have e1 : Maps.size (DataW.map ((es.toList.map (WideElems.rg Try.prog 3 pendElem)).foldr DataW.insert [])) = es.size := by simp [Maps.size, length_sorted]
  rw [e1]
  exact Nat.le_refl _

theorem PMap.blk {w : World} {b k : Nat} {l : List Wr} (h : PMap w b k l) : ∃ es c, w.heap[b]? = some (.map es c) := by
  obtain ⟨D, ⟨es, c, hb, _⟩, _⟩ := h
  exact ⟨es, c, hb⟩
theorem PMap.kept {w w' : World} {b k : Nat} {l : List Wr} (h : PMap w b k l) (he : w'.heap[b]? = w.heap[b]?) : PMap w' b k l := by
  obtain ⟨D, ⟨es, c, hb, F, hs, hD⟩, r⟩ := h
  exact ⟨D, ⟨es, c, he.trans hb, F, hs, hD⟩, r⟩
theorem PMap.made (w : World) : PMap (w.alloc (.map #[] 0)) w.heap.size 0 [] :=
  ⟨.map [], World.ownsMap_made w _ _ _, rfl, fun i => ⟨by simp [Maps.has], fun x _ h => by simp at h⟩⟩
theorem PMap.len {w : World} {b k : Nat} {l : List Wr} (h : PMap w b k l) (ty : TypeId) : (Builtin.len_ #[57] ty #[.map (some b)]).run Try.prog w = .ok (.int .i64 ((l.length - k : Nat) : Int)) w := by
  obtain ⟨D, h1, h2, _⟩ := h
  have e := h1.len (e := 61) Try.underlying57 ty
  rw [show l.length - k = Maps.size D by omega]
  exact e
theorem key_wf (i : Nat) (hi : i < 1000000000000) : (Lit.int .i64 (i : Int)).wf = true := WalkArith.wf_i64 (by omega)
theorem key_of (i : Nat) (hi : i < 1000000000000) : Go.keyOf Try.prog 3 (.int .i64 (i : Int)) = some (.int .i64 (i : Int)) := Maps.keyOf_int_mk Try.underlying3 (key_wf i hi)
theorem key_ne {i j : Nat} (h : i ≠ j) : (Lit.int .i64 (i : Int)) ≠ .int .i64 (j : Int) := fun e => h (by injection e with _ e; omega)
theorem key_is (i : Nat) : WideAt.IsKeyLit (Lit.int .i64 (i : Int)) := by simp [WideAt.IsKeyLit]
theorem PMap.look {w : World} {b k : Nat} {l : List Wr} (h : PMap w b k l) (i : Nat) (x : Wr) (hk : k ≤ i) (hi : l[i]? = some x) (hl : l.length ≤ 1000000) : (Instr.lookup 57 (.map (some b)) (.int .i64 (i : Int)) false).run Try.prog w = .ok (wrV x) w := by
  obtain ⟨D, h1, h2, h3⟩ := h
  have hlt := (List.getElem?_eq_some_iff.1 hi).1
  obtain ⟨v, ps, hrun, hv⟩ := h1.lookup kd3 (e := 61) Try.underlying57 (zero61 w) (pend_mk _) (key_of i (by omega))
  rw [(h3 i).2 x hk hi] at hv
  rw [pend_inv hv] at hrun
  exact hrun
theorem PMap.del {w : World} {b k : Nat} {l : List Wr} (h : PMap w b k l) (hk : k < l.length) (hl : l.length ≤ 1000000) (ty : TypeId) : ∃ w', (Builtin.delete_ #[57, 3] ty #[.map (some b), .int .i64 (k : Int)]).run Try.prog w = .ok (.tuple #[]) w' ∧ PMap w' b (k + 1) l ∧ w.mapTurned w' b := by
  obtain ⟨D, h1, h2, h3⟩ := h
  obtain ⟨w', hrun, hown, ht⟩ := h1.drop kd3 (e := 61) Try.underlying57 (key_of k (by omega)) ty
  have hsz := Maps.size_del (k := .int .i64 (k : Int)) (h1.tidy kd3)
  rw [(h3 k).1, if_pos (by simp only [decide_eq_true_eq]; omega)] at hsz
  refine ⟨w', hrun, ⟨_, tight hown, by omega, fun i => ⟨?_, fun x hk' hx z => ?_⟩⟩, ht⟩
  · by_cases e : i = k
    · subst e
      rw [Maps.has_del_same]
      exact (decide_eq_false (by omega)).symm
    · rw [Maps.has_del_other (key_ne e), (h3 i).1]
      congr 1
      exact propext ⟨fun h => by omega, fun h => by omega⟩
  · rw [Maps.atKey_del_other (key_ne (by omega))]
    exact (h3 i).2 x (by omega) hx z
theorem PMap.put {w : World} {b : Nat} {l : List Wr} (h : PMap w b 0 l) (x : Wr) (hl : l.length ≤ 1000000) : ∃ w', (Instr.mapUpdate 57 (.map (some b)) (.int .i64 (l.length : Int)) (wrV x)).run Try.prog w = .ok () w' ∧ PMap w' b 0 (l ++ [x]) ∧ w.mapTurned w' b := by
  obtain ⟨D, h1, h2, h3⟩ := h
  obtain ⟨w', hrun, hown, ht⟩ := h1.store kd3 (e := 61) Try.underlying57 (by unfold maxLen; omega) (key_of l.length (by omega)) (pend_mk x)
  have hsz := Maps.size_put (k := .int .i64 (l.length : Int)) (h1.tidy kd3) (wrD x)
  rw [(h3 l.length).1, if_neg (by simp)] at hsz
  refine ⟨w', hrun, ⟨_, tight hown, by rw [hsz, List.length_append]; simp; omega, fun i => ⟨?_, fun y hk' hy z => ?_⟩⟩, ht⟩
  · by_cases e : i = l.length
    · subst e
      rw [Maps.has_put_same h1.isMap (key_is _)]
      exact (decide_eq_true (by simp)).symm
    · rw [Maps.has_put_other (key_ne e), (h3 i).1]
      congr 1
      rw [List.length_append, List.length_singleton]
      exact propext ⟨fun h => by omega, fun h => by omega⟩
  · by_cases e : i = l.length
    · subst e
      rw [Maps.atKey_put_same h1.isMap (key_is _)]
      rw [List.getElem?_append_right (Nat.le_refl _)] at hy
      simp at hy
      rw [hy]
    · rw [Maps.atKey_put_other (key_ne e)]
      refine (h3 i).2 y hk' ?_ z
      have hlt := (List.getElem?_eq_some_iff.1 hy).1
      rw [List.length_append, List.length_singleton] at hlt
      rw [List.getElem?_append_left (by omega)] at hy
      exact hy
theorem PMap.clear {w : World} {b : Nat} {l : List Wr} (h : PMap w b l.length l) : PMap w b 0 [] := by
  obtain ⟨D, h1, h2, h3⟩ := h
  refine ⟨D, h1, by rw [List.length_nil]; omega, fun i => ⟨?_, fun x _ hx => by simp at hx⟩⟩
  rw [(h3 i).1]
  congr 1
  exact propext ⟨fun h => by omega, fun h => by simp at h⟩
end Go.Proofs.Ytkgdppjlbjmjoaa.Dk
