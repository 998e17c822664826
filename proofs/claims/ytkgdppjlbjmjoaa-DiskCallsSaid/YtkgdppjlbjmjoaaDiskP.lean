/- Disk: what a mask leaves -/
import Derived.Test.YtkgdppjlbjmjoaaDiskN
import Derived.WalkSmall
namespace Go.Proofs.Ytkgdppjlbjmjoaa.Dk
open Go.RowKit Go.Proofs.Ytkgdppjlbjmjoaa.PAll Go.Proofs.YtkgdppjlbjmjoaaW.PrintWords Go.Proofs.YtkgdppjlbjmjoaaW.PrintLast Go.Proofs.YtkgdppjlbjmjoaaW.PrintMore
set_option linter.unusedVariables false
set_option linter.unusedSimpArgs false
theorem bit_zero (k : Nat) : bit 0 k = false := by
  unfold bit
  rw [Int.zero_ediv]
  decide
theorem max_odd : ∀ j : Nat, j < 64 → (18446744073709551615 : Int) / 2 ^ j % 2 = 1 := by decide
theorem max_le : ∀ j : Nat, j < 64 → 0 ≤ (18446744073709551615 : Int) / 2 ^ j ∧ (18446744073709551615 : Int) / 2 ^ j ≤ 18446744073709551615 := by decide
theorem bit_max (k : Nat) : bit 18446744073709551615 k = true := by
  have h : k % 64 < 64 := by omega
  unfold bit
  rw [and_one_u64 _ (max_le _ h).1 (max_le _ h).2, max_odd _ h]
  rfl
def toWr (o : S42) : Wr := ⟨o.f1, o.f2⟩
/-- A disk that runs and is not armed. -/
def mkD (O : List ByteArray) (M : List S42) : DS := ⟨O, M.map toWr, false, false, 0, 0⟩
def flO (O : List ByteArray) (M : List S42) : List ByteArray := settleK (fun _ => true) (M.map toWr) (M.map toWr).length O
def hitO (O : List ByteArray) (M : List S42) (m : Int) : List ByteArray := settleK (bit m) (M.map toWr) (M.map toWr).length O
theorem new_mk (b : Nat) : newD b = mkD (List.replicate b noText) [] := rfl
theorem step_mk (O : List ByteArray) (M : List S42) : stepD (mkD O M) = (mkD O M, false) := by
  unfold stepD
  rw [if_neg (show ¬ (mkD O M).armed = true by show ¬ false = true; decide)]
theorem flush_mk (O : List ByteArray) (M : List S42) : flushD (mkD O M) = (0, mkD (flO O M) []) := by
  unfold flushD
  rw [if_neg (show ¬ (mkD O M).down = true by show ¬ false = true; decide), step_mk, if_neg (show ¬ false = true by decide)]
  rfl
theorem write_mk (O : List ByteArray) (M : List S42) (o : S42) : (∃ f, f ≠ 0 ∧ writeD (mkD O M) o.f1 o.f2 = (f, mkD O M)) ∨ writeD (mkD O M) o.f1 o.f2 = (0, mkD O (M ++ [o])) := by
  unfold writeD
  rw [if_neg (show ¬ (mkD O M).down = true by show ¬ false = true; decide), step_mk]
  by_cases h1 : o.f1 < 0 ∨ o.f1 ≥ ((mkD O M).dur.length : Int)
  · rw [if_pos h1]; exact Or.inl ⟨9, by decide, rfl⟩
  · rw [if_neg h1]
    by_cases h2 : o.f2.size > 64
    · rw [if_pos h2]; exact Or.inl ⟨4, by decide, rfl⟩
    · rw [if_neg h2, if_neg (show ¬ false = true by decide)]
      refine Or.inr ?_
      show ((0 : Int), (⟨O, M.map toWr ++ [⟨o.f1, o.f2⟩], false, false, 0, 0⟩ : DS)) = (0, ⟨O, (M ++ [o]).map toWr, false, false, 0, 0⟩)
      rw [List.map_append]
      rfl
theorem cont_len (d : DS) : (contD d).length = min d.dur.length 8 := by unfold contD; rw [List.length_map, List.length_range]
theorem cont_getD (d : DS) (hd : d.down = false) (n : Nat) (h1 : n < d.dur.length) (h8 : n < 8) : (contD d).getD n noText = readT d.dur d.pend n := by
  have hn : n < min d.dur.length 8 := by omega
  have hr : (List.range (min d.dur.length 8))[n]? = some n := by rw [List.getElem?_range hn]
  unfold contD
  rw [List.getD_eq_getElem?_getD, List.getElem?_map, hr]
  show (readD d (n : Int)).1 = _
  rw [read_in hd n h1]
theorem list_ext_getD {A B : List ByteArray} (hl : A.length = B.length) (h : ∀ n, n < A.length → A.getD n noText = B.getD n noText) : A = B := by
  refine List.ext_getElem hl fun n h1 h2 => ?_
  have := h n h1
  rw [List.getD_eq_getElem?_getD, List.getD_eq_getElem?_getD, List.getElem?_eq_getElem h1, List.getElem?_eq_getElem h2] at this
  exact this
theorem cont_mk (O : List ByteArray) (h8 : O.length ≤ 8) : contD (mkD O []) = O := by
  have hl : (contD (mkD O [])).length = O.length := by rw [cont_len]; show min O.length 8 = _; omega
  refine list_ext_getD hl fun n hn => ?_
  rw [hl] at hn
  rw [cont_getD (mkD O []) rfl n hn (by omega)]
  show (seek [] n 0).getD (O.getD (n : Int).toNat noText) = _
  rw [Int.toNat_natCast]
  rfl
theorem settle_none (pend : List Wr) (O : List ByteArray) (keep : Nat → Bool) (h : ∀ k, keep k = false) : ∀ k, settleK keep pend k O = O
  | 0 => rfl
  | k + 1 => by
    show (if keep k = true then _ else settleK keep pend k O) = O
    rw [if_neg (by rw [h k]; decide)]
    exact settle_none pend O keep h k
theorem settle_both (pend : List Wr) (O : List ByteArray) (keep keep' : Nat → Bool) (h : ∀ k, keep k = keep' k) : settleK keep pend pend.length O = settleK keep' pend pend.length O := by
  rw [show keep = keep' from funext h]
theorem settle_from (keep : Nat → Bool) (pend : List Wr) (O : List ByteArray) (n : Nat) (hn : n < O.length) (hin : ∀ x ∈ pend, 0 ≤ x.block ∧ x.block < O.length) : ∀ k, k ≤ pend.length → (settleK keep pend k O).getD n noText = O.getD n noText ∨ ∃ j, j < k ∧ (pend.getD j ⟨0, noText⟩).block = (n : Int) ∧ (pend.getD j ⟨0, noText⟩).text = (settleK keep pend k O).getD n noText
  | 0, _ => Or.inl rfl
  | k + 1, hk => by
    have ih := settle_from keep pend O n hn hin k (by omega)
    have hx := hin (pend.getD k ⟨0, noText⟩) (by rw [List.getD_eq_getElem?_getD, List.getElem?_eq_getElem (by omega)]; exact List.getElem_mem _)
    have hlen := settleK_len keep pend O k
    have he : settleK keep pend (k + 1) O = if keep k = true then (settleK keep pend k O).set (pend.getD k ⟨0, noText⟩).block.toNat (pend.getD k ⟨0, noText⟩).text else settleK keep pend k O := rfl
    rw [he]
    by_cases hkk : keep k = true
    · rw [if_pos hkk]
      by_cases hb : (pend.getD k ⟨0, noText⟩).block = (n : Int)
      · refine Or.inr ⟨k, by omega, hb, ?_⟩
        rw [hb, Int.toNat_natCast, List.getD_eq_getElem?_getD (l := List.set _ _ _), List.getElem?_set_self (by omega)]
        rfl
      · have hs : ((settleK keep pend k O).set (pend.getD k ⟨0, noText⟩).block.toNat (pend.getD k ⟨0, noText⟩).text).getD n noText = (settleK keep pend k O).getD n noText := by
          rw [List.getD_eq_getElem?_getD, List.getElem?_set_ne (by omega), ← List.getD_eq_getElem?_getD]
        rw [hs]
        rcases ih with h | ⟨j, hj, h1, h2⟩
        · exact Or.inl h
        · exact Or.inr ⟨j, by omega, h1, h2⟩
    · rw [if_neg hkk]
      rcases ih with h | ⟨j, hj, h1, h2⟩
      · exact Or.inl h
      · exact Or.inr ⟨j, by omega, h1, h2⟩
theorem map_getD (M : List S42) (j : Nat) (h : j < M.length) : (M.map toWr).getD j ⟨0, noText⟩ = toWr (rd_T42 M (j : Int)) := by
  unfold rd_T42
  rw [Int.toNat_natCast, List.getD_eq_getElem?_getD, List.getD_eq_getElem?_getD, List.getElem?_map, List.getElem?_eq_getElem h]
  rfl
/-- What the last look sees. -/
theorem masks_end (O : List ByteArray) (M : List S42) (m : Int) (h8 : O.length ≤ 8) (ho : DOk (mkD O M)) : ∃ d1 d2 : DS, ∃ L R : List ByteArray, contD (mkD O M) = L ∧ L.length = O.length ∧ (mkD O M).pend.length = M.length ∧ hitD (mkD O M) m = (0, d1) ∧ wakeD d1 = (0, d2) ∧ contD d2 = R ∧ R.length = O.length ∧
    (∀ n : Nat, n < O.length → rdOf ByteArray.empty R (n : Int) = rdOf ByteArray.empty O (n : Int) ∨ ∃ j : Nat, j < M.length ∧ (rd_T42 M (j : Int)).f1 = (n : Int) ∧ (rd_T42 M (j : Int)).f2 = rdOf ByteArray.empty R (n : Int)) ∧ (m = 0 → R = O) ∧ (m = 18446744073709551615 → R = L) := by
  have hll : (hitO O M m).length = O.length := settleK_len _ _ _ _
  have hcl : (contD (mkD O M)).length = O.length := by rw [cont_len]; show min O.length 8 = _; omega
  refine ⟨crashD (mkD O M) m, mkD (hitO O M m) [], contD (mkD O M), hitO O M m, rfl, hcl, List.length_map .., ?_, ?_, cont_mk _ (by omega), hll, ?_, ?_, ?_⟩
  · unfold hitD; rw [if_neg (show ¬ (mkD O M).down = true by show ¬ false = true; decide)]
  · unfold wakeD; rw [if_pos (show (crashD (mkD O M) m).down = true from rfl)]; rfl
  · intro n hn
    unfold rdOf
    rw [Int.toNat_natCast]
    rcases settle_from (bit m) (M.map toWr) O n hn ho.rng _ (Nat.le_refl _) with h | ⟨j, hj, h1, h2⟩
    · exact Or.inl h
    · have hj2 : j < M.length := by rw [List.length_map] at hj; exact hj
      rw [map_getD M j hj2] at h1 h2
      exact Or.inr ⟨j, hj2, h1, h2⟩
  · intro h
    subst h
    exact settle_none _ _ _ bit_zero _
  · intro h
    subst h
    refine list_ext_getD (by rw [hll, hcl]) fun n hn => ?_
    rw [hll] at hn
    rw [cont_getD (mkD O M) rfl n hn (by omega)]
    show (settleK _ _ _ _).getD n noText = (seek (M.map toWr) n (M.map toWr).length).getD (O.getD (n : Int).toNat noText)
    rw [Int.toNat_natCast, settle_both _ _ _ (fun _ => true) bit_max]
    exact settle_reads O (M.map toWr) n hn ho.rng _ (Nat.le_refl _)
end Go.Proofs.Ytkgdppjlbjmjoaa.Dk
