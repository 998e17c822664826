-- Written by a changed copy of the kit's print program, run in this session (NOTES.md tells the change). Not trusted: Lean checks it.
import Derived.Test.YtfgeppldckagaaaPAllx0
import Derived.Test.YtfgeppldckagaaaPAllx4
import Derived.Test.YtfgeppldckagaaaPAllx6
namespace Go.Proofs.Ytfgeppldckagaaa.PAll
open Go.RowKit Go.Proofs.YtfgeppldckagaaaW.PrintWords Go.Proofs.YtfgeppldckagaaaW.PrintLast Go.Proofs.YtfgeppldckagaaaW.PrintMore
attribute [local go_sem] max2_int min2_int max_two min_two max_three min_three max_four min_four   -- for this text's walks alone
set_option linter.unusedVariables false
set_option linter.unusedSimpArgs false

/-! ### given curve_Rising: function 20 -/
def risesY : List S36 → Bool
  | [] => true
  | [_] => true
  | a :: b :: t => decide (a.f1 ≤ b.f1) && risesY (b :: t)
def curve_Rising.f (k : Nat) (l0 : List (S36)) : Option (Bool) := (curve_Check.f k l0).bind fun e => some (decide (e = 0) && risesY l0)
theorem curve_Rising.mono : ∀ a0 k, LeO (curve_Rising.f k a0) (curve_Rising.f (k + 1) a0) := by
  intro a0 k
  unfold curve_Rising.f
  exact LeO.bind (curve_Check.mono _ _) (fun _ => LeO.refl _)
theorem risesY_iff : ∀ l : List S36, risesY l = true ↔ ∀ i, i + 1 < l.length → (Pt l i).f1 ≤ (Pt l (i + 1)).f1
  | [] => by simp [risesY]
  | [a] => by simp [risesY]
  | a :: b :: t => by
    have ih := risesY_iff (b :: t)
    simp only [risesY, Bool.and_eq_true, decide_eq_true_eq, ih]
    constructor
    · rintro ⟨h1, h2⟩ i hi
      cases i with
      | zero => exact h1
      | succ i => exact h2 i (by simpa using hi)
    · intro h
      exact ⟨h 0 (by simp), fun i hi => h (i + 1) (by simpa using hi)⟩
theorem risesY_of {l : List S36} {r : Bool} (h1 : r = true → ∀ i, 0 < i → i < l.length → decide ((rd_T36 l (i : Int)).f1 < (rd_T36 l ((i - 1 : Nat) : Int)).f1) = false)
    (h2 : r = false → ∃ i, 0 < i ∧ i < l.length ∧ decide ((rd_T36 l (i : Int)).f1 < (rd_T36 l ((i - 1 : Nat) : Int)).f1) = true) : risesY l = r := by
  cases r with
  | true =>
    rw [risesY_iff]
    intro i hi
    have := of_decide_eq_false (h1 rfl (i + 1) (by omega) hi)
    unfold Pt
    rw [Nat.add_sub_cancel] at this
    omega
  | false =>
    obtain ⟨i, h0, hi, h3⟩ := h2 rfl
    have h3 := of_decide_eq_true h3
    cases hb : risesY l with
    | false => rfl
    | true =>
      have := (risesY_iff l).1 hb (i - 1) (by omega)
      rw [show i - 1 + 1 = i from by omega] at this
      unfold Pt at this
      omega
def SortPost (n : Nat) (p : Nat → Bool) (w : World) (e : Ending) (w' : World) : Prop := ∃ r : Bool, e = .returned (.bool r) ∧ (r = true → ∀ i, 0 < i → i < n → p i = false) ∧ (r = false → ∃ i, 0 < i ∧ i < n ∧ p i = true) ∧ Below w.heap.size w w'
set_option maxHeartbeats 2000000 in
set_option maxRecDepth 100000 in
theorem Rising1_calls (A : Option Addr) (c : Nat) (l : List S36) (i j : Int) (bc : Nat) (W : World) (hC : Kd.C k36 W A l.length l) (hc : W.cell? ⟨bc, 0, none⟩ = some (.slice A l.length c)) (hlc : l.length ≤ c) (h0 : 0 ≤ i) (h1 : i < l.length) (h2 : 0 ≤ j) (h3 : j < l.length) :
    Calls Try.prog 34 #[.int .i64 i, .int .i64 j, .pointer (some ⟨bc, 0, none⟩)] W fun e W' => e = .returned (.bool (decide ((rd_T36 l i).f1 < (rd_T36 l j).f1))) ∧ Drawn0 W W' := by
  obtain ⟨ad, rfl, hc0, hc1⟩ := at_T36 hC i h0 h1
  obtain ⟨ad2, hA, hd0, hd1⟩ := at_T36 hC j h2 h3
  obtain rfl : ad = ad2 := by injection hA
  clear hC hA
  go_enter Try.func34, Try.ntmps34
  go_wp2
  go_quiet (fail)
  go_wp2
  go_ret
  exact ⟨rfl, by repeat (first | exact Drawn0.refl _ | apply Drawn0.step)⟩
set_option maxHeartbeats 4000000 in
set_option maxRecDepth 100000 in
/-- sort.SliceIsSorted with the test 34. -/
theorem Sorted34 (A : Option Addr) (n c : Nat) (hn : n ≤ 1000000) (q : Addr) (p : Nat → Bool) (w : World)
    (hp : ∀ (i : Nat) (W : World), 0 < i → i < n → Below w.heap.size w W → Calls Try.prog 34 #[.int .i64 (i : Int), .int .i64 ((i - 1 : Nat) : Int), .pointer (some q)] W fun e W' => e = .returned (.bool (p i)) ∧ Below W.heap.size W W') :
    Calls Try.prog 33 #[.iface 32 (.slice A n c), .func (.func 34) #[] #[.pointer (some q)]] w (SortPost n p w) := by
  have HP := Lib.hid hp
  clear hp
  obtain ⟨i, hi, hd⟩ := Option.map_eq_some_iff.mp (show (Try.prog.info? 32).map (·.desc) = some (.slice 36) from by kernel_rfl)
  have hpk : Try.prog.packed 32 = false := by kernel_rfl
  have hv := Lib.run_valueOf_slice (P := Try.prog) 32 36 i hi hd A n c w
  have hl := fun a w ha => Lib.run_valueLen_slice (P := Try.prog) 32 36 i hi hd hpk a A n c w ha
  have hgs : Try.prog.globals.size = 0 := by kernel_rfl
  simp only [typeHandle, hgs] at hv hl
  clear hgs
  clear hi hd
  go_enter Try.func33, Try.ntmps33
  go_wp2
  rw [run_callFunc_extern Try.func39 (by kernel_rfl) (by kernel_rfl) (by kernel_rfl) (e := fun args => Extern.ReflectliteValue.unpack (args.getD 0 (.tuple #[]))) (by kernel_rfl),
    show Sem.run Try.prog ((fun args : Array Value => Extern.ReflectliteValue.unpack (args.getD 0 (.tuple #[]))) #[.iface 32 (.slice A n c)]) w = _ from hv]
  simp only [Result.andThen]
  rw [Oper.upon_value]
  go_wp2
  rw [run_callFunc_extern Try.func40 (by kernel_rfl) (by kernel_rfl) (by kernel_rfl) (e := Extern.ReflectliteValue.method (Extern.ReflectliteValue.valueError "reflectlite.Value.Len" 0) Extern.ReflectliteValue.len) (by kernel_rfl),
    hl _ _ (by simp)]
  simp only [Result.andThen]
  rw [Oper.upon_value]
  clear hv hl hpk
  go_wp2
  go_loopw [7] (fun a wr => ∃ i : Int, -1 ≤ i ∧ i ≤ (n : Int) - 1 ∧ a = .int .i64 i ∧ Hid (∀ j : Nat, i < j → j < n → p j = false) ∧ Hid (Below w.heap.size w wr)) (fun a _ => (intOf a + 1).toNat)
  case atStart =>
    refine ⟨(n : Int) - 1, by omega, by omega, rfl, Lib.hid fun j h1 h2 => by omega, Lib.hid ?_⟩
    exact below_alloc (below_alloc (Below.refl _ _) _) _
  case round =>
    obtain ⟨i, hi0, hi1, rfl, H1, HB⟩ := hrel
    by_cases hlt : 0 < i
    · go_wp2_with fail
      obtain ⟨m, rfl⟩ : ∃ m : Nat, i = (m : Int) := ⟨i.toNat, by omega⟩
      rw [show (m : Int) - 1 = ((m - 1 : Nat) : Int) from by omega]
      refine (HP.out m _ (by omega) (by omega) HB.out).mono ?_
      rintro e w1 ⟨rfl, hb1⟩
      have HB1 := Lib.hid (below_step HB.out hb1)
      clear hb1
      generalize hpm : p m = b
      have HPM := Lib.hid hpm
      clear hpm
      cases b with
      | true =>
        go_wp2
        go_ret
        exact ⟨false, rfl, fun h => absurd h (by simp), fun _ => ⟨m, by omega, by omega, HPM.out⟩, HB1.out⟩
      | false =>
        go_wp2
        go_roundw
        case rel => exact ⟨(m : Int) - 1, by omega, by omega, rfl, Lib.hid fun j h1 h2 => by
          by_cases e : j = m
          · rw [e]; exact HPM.out
          · exact H1.out j (by omega) h2, HB1⟩
        case measure => simp [intOf]
    · go_wp2
      go_ret
      exact ⟨true, rfl, fun _ j h1 h2 => H1.out j (by omega) h2, fun h => absurd h (by simp), HB.out⟩
set_option maxHeartbeats 4000000 in
set_option maxRecDepth 100000 in
theorem curve_Rising.calls (k : Nat) (A0 : Option Addr) (c0 : Nat) (l0 : List (S36)) (r : Bool) (w : World) (hr0 : Kd.C k36 w A0 l0.length l0) (hc0 : l0.length ≤ c0) (h : curve_Rising.f k l0 = some r) :
    Calls Try.prog 20 #[.slice A0 l0.length c0] w fun e w' => e = .returned (.bool r) ∧ Below w.heap.size w w' := by
  obtain ⟨e0, hck, hr⟩ := Option.bind_eq_some_iff.mp h
  clear h
  replace hr := Option.some.inj hr
  have HR := Aside0.mk hr0
  have HCK := Aside0.mk hck
  have HV := Aside0.mk hr
  clear hr0 hck hr
  go_enter Try.func20, Try.ntmps20
  go_wp2_with fail
  refine (curve_Check.calls k A0 c0 l0 e0 _ (Kd.C_alloc HR.out _) hc0 HCK.out).mono ?_
  rintro e w1 ⟨rfl, hb1⟩
  have hz : w.heap.size < w1.heap.size := by have := hb1.size; simp at this; omega
  have hcc : w1.cell? ⟨w.heap.size, 0, none⟩ = some (.slice A0 l0.length c0) := bcell hb1 _ _ _ (by simp) (by simp)
  have HB1 := Aside0.mk (below_step (below_alloc (Below.refl _ _) _) hb1)
  have HR1 := Aside0.mk (Kd.C_below HR.out HB1.out)
  clear hb1
  by_cases hE : e0 = 0
  · have hEb : (e0 == 0) = true := by simp [hE]
    have hok := Aside0.mk (check_ok k l0 (by rw [← hE]; exact HCK.out))
    have hv2 := Aside0.mk (show risesY l0 = r by have := HV.out; rwa [decide_eq_true hE, Bool.true_and] at this)
    clear HCK HV hE
    go_wp2_with fail
    have hlen16 := hok.out.len
    refine (Sorted34 A0 l0.length c0 (by omega) ⟨w.heap.size, 0, none⟩ (fun i => decide ((rd_T36 l0 (i : Int)).f1 < (rd_T36 l0 ((i - 1 : Nat) : Int)).f1)) w1 ?hp).mono ?_
    case hp =>
      intro i W hi0 hi hW
      refine (Rising1_calls A0 c0 l0 i ((i - 1 : Nat) : Int) w.heap.size W (Kd.C_below HR1.out hW) (bcell hW _ _ _ (by omega) hcc) hc0 (by omega) (by omega) (by omega) (by omega)).mono ?_
      rintro e W' ⟨rfl, hd⟩
      exact ⟨rfl, hd.below⟩
    rintro e w2 ⟨b, rfl, h1, h2, hb2⟩
    have hbr := (risesY_of h1 h2).symm.trans hv2.out
    subst hbr
    have HB2 := Aside0.mk (below_step HB1.out hb2)
    clear h1 h2 hb2 hv2 hok
    go_wp2
    go_ret
    exact ⟨rfl, HB2.out⟩
  · have hEb : (e0 == 0) = false := by simpa using hE
    have hv2 : false = r := by have := HV.out; rwa [decide_eq_false hE, Bool.false_and] at this
    subst hv2
    clear hE HV HCK
    go_wp2
    go_ret
    exact ⟨rfl, HB1.out⟩

end Go.Proofs.Ytfgeppldckagaaa.PAll
