/- What a law's argument reads as: out of the row's datum, for whole numbers, bools, strings, slices and structs of these, the reading facts in the form that the contracts ask for (Kd.K), and what is known of the values (ranges, sizes). No program in it. -/
import Derived.SizedLaws
import Derived.ChangeSlices
import Derived.Deep.Slices
import Derived.ChangeArms
import Derived.WideShapes
import Derived.Test.YtkgdppjlbjmjoaaWWords
namespace Go.Proofs.Ytkgdppjlbjmjoaa.Opens
open Go.ChangeShapes Go.WideShapes Go.Proofs.YtkgdppjlbjmjoaaW.PrintWords

/-- Every weight of the datum is in reach. -/
def Light {H : Type} (P : Program) (t : TypeId) (d : DataW H) : Prop := ∀ n ∈ d.weights P t, n ≤ reachBytes

/-- A value of type t that reads has a reading of kind d, of which G holds. -/
def Opens (P : Program) (t : TypeId) {α : Type} (d : Kd α) (G : α → Prop) : Prop :=
  ∀ (H : Type) (enc : TypeId × Value → H) (W : World) (fuel : Nat) (cs : List Value) (x : DataW H × List MemPlace),
    DataW.trod enc P W 0 (fun _ => true) true fuel t cs = some x → Light P t x.1 → ∃ a : α, d.K W a cs ∧ G a

theorem opens_int {P : Program} {t : TypeId} {k : IntKind} (ht : P.underlying t = some (.int k)) : Opens P t (Kd.int k) (fun n => (Lit.int k n).wf = true) := by
  intro H enc W fuel cs x h _
  obtain ⟨n, rfl, _, hw⟩ := DataW.trod_int ht h
  exact ⟨n, rfl, hw⟩
theorem opens_bool {P : Program} {t : TypeId} (ht : P.underlying t = some .bool) : Opens P t Kd.bool (fun _ => True) := by
  intro H enc W fuel cs x h _
  obtain ⟨b, rfl, _⟩ := DataW.trod_bool ht h
  exact ⟨b, rfl, trivial⟩
theorem opens_string {P : Program} {t : TypeId} (ht : P.underlying t = some .string) : Opens P t Kd.string (fun s => s.size ≤ 140737488351232) := by
  intro H enc W fuel cs x h hw
  obtain ⟨s, rfl, rfl, _⟩ := DataW.trod_string ht h
  refine ⟨s, rfl, ?_⟩
  have := hw s.data.toList.length (by simp [DataW.weights])
  simpa [reachBytes] using this

theorem list_of {α : Type} (n : Nat) (Q : Nat → α → Prop) (h : ∀ i, i < n → ∃ a, Q i a) : ∃ l : List α, l.length = n ∧ ∀ i a, l[i]? = some a → Q i a := by
  induction n with
  | zero => exact ⟨[], rfl, fun i a ha => by simp at ha⟩
  | succ n ih =>
    obtain ⟨l, hl, hq⟩ := ih (fun i hi => h i (by omega))
    obtain ⟨a, ha⟩ := h n (by omega)
    refine ⟨l ++ [a], by simp [hl], fun i b hb => ?_⟩
    by_cases hi : i < n
    · rw [List.getElem?_append_left (by omega)] at hb
      exact hq i b hb
    · have hle : l.length ≤ i := by omega
      rw [List.getElem?_append_right hle] at hb
      have h0 : i - l.length = 0 := by
        rcases Nat.eq_zero_or_pos (i - l.length) with h0 | h0
        · exact h0
        · rw [List.getElem?_eq_none (by simp only [List.length_cons, List.length_nil]; omega)] at hb
          exact absurd hb (by simp)
      rw [h0] at hb
      have hab : a = b := by simpa using hb
      subst hab
      have hin : i = n := by omega
      subst hin
      exact ha

theorem weightsAll_mem {H : Type} {P : Program} {e : TypeId} : ∀ {ds : List (DataW H)} {d : DataW H}, d ∈ ds → ∀ n ∈ d.weights P e, n ∈ DataW.weightsAll P e ds
  | d0 :: ds, d, hd, n, hn => by
    rcases List.mem_cons.1 hd with rfl | hd
    · simp only [DataW.weightsAll, List.mem_append]
      exact Or.inl hn
    · simp only [DataW.weightsAll, List.mem_append]
      exact Or.inr (weightsAll_mem hd n hn)
  | [], _, hd, _, _ => by simp at hd

theorem opens_slice {P : Program} {t e : TypeId} {α : Type} {d : Kd α} {G : α → Prop} {B : Nat} (ht : P.underlying t = some (.slice e)) (hc : P.cellsOf e = d.sz) (hB : P.bytesOf e = B) (he : Opens P e d G) :
    Opens P t (Kd.slice e d) (fun l => l.length * B ≤ 140737488351232 ∧ ∀ x ∈ l, G x) := by
  intro H enc W fuel cs x h hw
  rcases Go.Deep.open_slice ht h with ⟨rfl, _⟩ | ⟨a, len, cap, m, n, D, Pl, rfl, _, hl, hm, hmm, rfl, hx⟩
  · refine ⟨[], ⟨none, 0, rfl, Nat.le_refl _, rfl, by simp, fun h0 => absurd h0 (by simp)⟩, by simp, fun x hx => by simp at hx⟩
  · have hmc : m = cap := by simpa using hmm
    subst hmc
    have hlight : ∀ i, i < len → Light P e (D i) := by
      intro i hi k hk
      refine hw k ?_
      have : k ∈ DataW.weightsAll P e ((List.range len).map D) := weightsAll_mem (List.mem_map.2 ⟨i, List.mem_range.2 hi, rfl⟩) k hk
      simp only [DataW.weights, ht, List.mem_cons, List.mem_append]
      exact Or.inr (Or.inl this)
    obtain ⟨l, hll, hlq⟩ := list_of len (fun i y => (∃ c, d.K W y c ∧ ∀ j u, c[j]? = some u → W.cell? (a.add (i * d.sz + j)) = some u) ∧ G y) (by
      intro i hi
      obtain ⟨cs', h1, h2⟩ := hx i (by omega)
      obtain ⟨y, hy, hg⟩ := he H enc W n cs' _ h2 (hlight i hi)
      refine ⟨y, ⟨cs', hy, fun j u hj => ?_⟩, hg⟩
      obtain ⟨_, hlen, hat⟩ := World.cells?_some h1
      have hjl : j < P.cellsOf e := by
        rw [← hlen]
        exact (List.getElem?_eq_some_iff.1 hj).1
      have := hat j hjl
      rw [hc, Go.Deep.add_add] at this
      rw [this, hj])
    have hsz : (len + (m - len)) * B ≤ 140737488351232 := by
      have := hw ((len + (m - len)) * P.bytesOf e) (by simp [DataW.weights, ht])
      rw [hB] at this
      exact this
    have hmax : m ≤ 9223372036854775807 := hm
    refine ⟨l, ⟨some a, m, by rw [hll], by omega, rfl, by omega, fun _ => ⟨a, rfl, fun j p hj => ?_⟩⟩, ?_, fun x hx => ?_⟩
    · obtain ⟨⟨c, hk, hcell⟩, _⟩ := hlq j p hj
      exact ⟨c, d.K_len hk, hk, hcell⟩
    · rw [hll]
      exact Nat.le_trans (Nat.mul_le_mul_right _ (by omega)) hsz
    · obtain ⟨i, hi⟩ := List.getElem?_of_mem hx
      exact (hlq i x hi).2

/-- The fields of a struct, from offset o on. -/
def OpensF (P : Program) (fs : List Field) (o : Nat) {β : Type} (d : Kd β) (G : β → Prop) : Prop :=
  ∀ (H : Type) (enc : TypeId × Value → H) (W : World) (fuel : Nat) (cs : List Value) (xs : List (DataW H × List MemPlace)),
    cs.length = o + d.sz → xs.length = fs.length → (∀ (i : Nat) (f : Field), fs[i]? = some f → DataW.trod enc P W 0 (fun _ => true) true fuel f.type ((cs.drop f.offset).take (P.cellsOf f.type)) = xs[i]?) →
    (∀ n ∈ DataW.weightsEach P (fs.map (·.type)) (xs.map (·.1)), n ≤ reachBytes) → ∃ b : β, d.K W b (cs.drop o) ∧ G b

theorem opensF_one {P : Program} {f : Field} {o : Nat} {α : Type} {d : Kd α} {G : α → Prop} (ho : f.offset = o) (hc : P.cellsOf f.type = d.sz) (h : Opens P f.type d G) : OpensF P [f] o d G := by
  intro H enc W fuel cs xs hl hx hf hw
  match xs, hx with
  | [y], _ =>
    have h1 := hf 0 f rfl
    rw [ho, hc, List.take_of_length_le (by simp; omega)] at h1
    exact h H enc W fuel _ y h1 (fun n hn => hw n (by simp [DataW.weightsEach, hn]))

theorem opensF_cons {P : Program} {f : Field} {fs : List Field} {o : Nat} {α β : Type} {a : Kd α} {b : Kd β} {G : α → Prop} {K : β → Prop} (ho : f.offset = o) (hc : P.cellsOf f.type = a.sz) (h : Opens P f.type a G) (ht : OpensF P fs (o + a.sz) b K) :
    OpensF P (f :: fs) o (Kd.pair a b) (fun x => G x.1 ∧ K x.2) := by
  intro H enc W fuel cs xs hl hx hf hw
  match xs, hx with
  | y :: ys, hx =>
    have hl' : cs.length = o + (a.sz + b.sz) := hl
    have h1 := hf 0 f rfl
    rw [ho, hc] at h1
    obtain ⟨u, hu, hg⟩ := h H enc W fuel _ y h1 (fun n hn => hw n (by simp [DataW.weightsEach, hn]))
    obtain ⟨v, hv, hk⟩ := ht H enc W fuel cs ys (by omega) (by simpa using hx) (fun i f' hi => by simpa using hf (i + 1) f' (by simpa using hi)) (fun n hn => hw n (by
      simp only [List.map_cons, DataW.weightsEach, List.mem_append]
      exact Or.inr hn))
    refine ⟨(u, v), ⟨_, _, ?_, hu, hv⟩, hg, hk⟩
    rw [← List.drop_drop]
    exact (List.take_append_drop _ _).symm

theorem opens_struct {P : Program} {t : TypeId} {fs : Array Field} {α β : Type} {d : Kd β} {G : β → Prop} {φ : α → β} {ψ : β → α} (hφ : ∀ b, φ (ψ b) = b) (ht : P.underlying t = some (.struct fs)) (hc : P.cellsOf t = d.sz) (h : OpensF P fs.toList 0 d G) :
    Opens P t (Kd.iso d φ) (fun x => G (φ x)) := by
  intro H enc W fuel cs x hx hw
  obtain ⟨xs, n, _, rfl, hl, hxl, hf⟩ := DataW.trod_struct ht hx
  obtain ⟨b, hb, hg⟩ := h H enc W n cs xs (by omega) (by simpa using hxl) (fun i f hi => hf i f (by simpa using hi)) (fun k hk => hw k (by simpa [DataW.weights, ht] using hk))
  refine ⟨ψ b, ?_, by show G (φ (ψ b)); rw [hφ]; exact hg⟩
  show d.K W (φ (ψ b)) cs
  rw [hφ]
  simpa using hb

theorem opens_mono {P : Program} {t : TypeId} {α : Type} {d : Kd α} {G G' : α → Prop} (h : Opens P t d G) (hg : ∀ x, G x → G' x) : Opens P t d G' := by
  intro H enc W fuel cs x hx hw
  obtain ⟨a, h1, h2⟩ := h H enc W fuel cs x hx hw
  exact ⟨a, h1, hg a h2⟩

/-- An argument of a row. -/
theorem opened {P : Program} {t : TypeId} {α : Type} {d : Kd α} {G : α → Prop} (ho : Opens P t d G) {H : Type} {enc : TypeId × Value → H} {W : World} {v : Value} {x : DataW H} {ps : List MemPlace} {ts : List TypeId} {ds : List (DataW H)} {j : Nat}
    (hsz : (DataW.weightsEach P ts ds).all (· ≤ reachBytes) = true) (ht : ts[j]? = some t) (hd : ds[j]? = some x) (h : DataW.Trod enc P W 0 (fun _ => true) true t v x ps) :
    ∃ a : α, d.K W a v.cells.toList ∧ G a := by
  obtain ⟨fuel, hf⟩ := h
  exact ho H enc W fuel _ _ hf (fun n hn => by simpa using List.all_eq_true.1 hsz n (DataW.weights_mem_each ht hd n hn))
end Go.Proofs.Ytkgdppjlbjmjoaa.Opens
