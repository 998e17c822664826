/- Disk: masks -/
import Derived.Test.YtkgdppjlbjmjoaaDiskQ
namespace Go.Proofs.Ytkgdppjlbjmjoaa.Dk
open Go.RowKit Go.Proofs.Ytkgdppjlbjmjoaa.PAll Go.Proofs.YtkgdppjlbjmjoaaW.PrintWords Go.Proofs.YtkgdppjlbjmjoaaW.PrintLast Go.Proofs.YtkgdppjlbjmjoaaW.PrintMore
set_option linter.unusedVariables false
set_option linter.unusedSimpArgs false
set_option maxHeartbeats 4000000 in
set_option maxRecDepth 100000 in
theorem DiskMasks_main (b : Nat) (h1 : 1 ≤ b) (h2 : b ≤ 8) (A : Option Addr) (c : Nat) (l : List S42) (m : Int) (w : World) (hr : Kd.C k42 w A l.length l) (hc : l.length ≤ c) (hl : l.length ≤ 80) (hm0 : 0 ≤ m)
    (hsh : Calls Try.prog 16 #[.slice A l.length c] w fun e w' => e = .returned (.bool true) ∧ Drawn0 w w') : Calls Try.prog 6 #[.int .i64 (b : Int), .slice A l.length c, .int .u64 m] w fun e w' => e = .returned (.bool true) ∧ Below w.heap.size w w' := by
  have hb1 : ¬ ((b : Int) < 1) := by omega
  have hb8 : ¬ ((b : Int) > 8) := by omega
  have HSH := Lib.hid hsh
  have HR := Lib.hid hr
  have HC := Lib.hid hc
  clear hsh hr hc
  go_enter Try.func6, Try.ntmps6
  go_wp2_with (first | (go_at_call 16; (with_reducible refine HSH.out.mono ?_); rintro e w1 ⟨rfl, ⟨nd, rfl⟩⟩) | (go_at_call 9; (with_reducible refine (New_ex b h1 (by omega) _).mono ?_); rintro e w2 ⟨g, gd, gm, rfl, hA, hS, _, hb⟩; have HA := Lib.hid hA; have HB : Hid (Below w.heap.size w w2) := Lib.hid (below_step (pw_below_drewN (Below.refl _ _) _) hb); have HS : Hid (∀ k, (k = g ∨ k = gd ∨ k = gm) → w.heap.size ≤ k) := Lib.hid hS; clear hA hS hb) | ((with_reducible refine gate_dst (N := 41) rfl ?_); refine Kd.R_make Kd.string _ 9 rfl (N := 41) rfl 26 _ _ rfl (b : Int) rfl rfl Try.underlying26 (.string ⟨#[]⟩) 16 info9 rfl (by decide) (by omega) (⟨#[]⟩ : ByteArray) (ok := fun _ => True) (okp := fun _ => True) rfl (fun _ hk => hk) trivial (by omega) (by omega) (Below.refl _ _) (Nat.le_refl _) ?_; intro vO w3 hO hb _ _; have HO : Hid (Kd.R Kd.string 9 w3 w.heap.size (fun k => ¬ (k = g ∨ k = gd ∨ k = gm)) vO (List.replicate b noText)) := Lib.hid (row_new HA.out hb HB.out.size hO); have HM : Hid (MSt w w3 g gd gm (mkD (List.replicate b noText) []) (List.replicate b noText) [] vO (.slice none 0 0)) := Lib.hid ⟨HA.out.below hb, HO.out, Kd.R_nil _ _ _ _ _, below_step HB.out hb, HS.out⟩; clear hO hb HO HA HB))
  go_loopw [9, 10, 11] (fun vO vM a wr => ∃ (i : Nat) (O : List ByteArray) (M : List S42), i ≤ l.length ∧ a = .int .i64 (i : Int) ∧ Hid (MSt w wr g gd gm (mkD O M) O M vO vM) ∧ Hid (O.length = b ∧ M.length ≤ i)) (fun _ _ a _ => l.length - (intOf a).toNat)
  case atStart => exact ⟨0, _, [], Nat.zero_le _, rfl, HM, Lib.hid ⟨List.length_replicate, Nat.zero_le _⟩⟩
  case round =>
    clear HM
    obtain ⟨i, O, M, hi, rfl, HM, HL⟩ := hrel
    by_cases hlt : i < l.length
    · have hi9 : i < 100 := by omega
      have q1 : (i : Int) < (l.length : Int) := by omega
      have p1 : (0 : Int) ≤ (i : Int) := by omega
      obtain ⟨ad, e1, hx0, hx1, hx2, hx3⟩ := at_T42 (Kd.C_below HR.out HM.out.b) (i : Int) p1 q1
      cases e1
      have hcells : ∀ W' : World, Below w.heap.size w W' → W'.cell? (ad.add (i * 4)) = some (.int .i64 (rd_T42 l (i : Int)).f0) ∧ W'.cell? ⟨(ad.add (i * 4)).block, (ad.add (i * 4)).off + 1, none⟩ = some (.int .i64 (rd_T42 l (i : Int)).f1) ∧ W'.cell? ⟨(ad.add (i * 4)).block, (ad.add (i * 4)).off + 2, none⟩ = some (.string (rd_T42 l (i : Int)).f2) ∧ W'.cell? ⟨(ad.add (i * 4)).block, (ad.add (i * 4)).off + 3, none⟩ = some (.int .u64 (rd_T42 l (i : Int)).f3) := fun W' hb => by
        obtain ⟨ad', e', y0, y1, y2, y3⟩ := at_T42 (Kd.C_below HR.out hb) (i : Int) p1 q1
        injection e' with e'
        subst e'
        simp only [Int.toNat_natCast] at y0 y1 y2 y3
        exact ⟨y0, y1, y2, y3⟩
      simp only [Int.toNat_natCast] at hx0 hx1 hx2 hx3
      generalize rd_T42 l (i : Int) = o at *
      by_cases hk : o.f0 = 1
      · by_cases hh : i < l.length / 2
        · have hq : ((i : Int) < (l.length : Int).tdiv 2) := by rw [Int.tdiv_eq_ediv_of_nonneg (by omega)]; omega
          have HF := Lib.hid HM.out.flush
          have HL2 := Lib.hid (show (flO O M).length = b from (settleK_len _ _ _ _).trans HL.out.1)
          have HC2 := Lib.hid (cont_mk (flO O M) (by have := HL2.out; omega))
          go_wp2_with (first | (go_at_call 21; (with_reducible refine HF.out.mono ?_); rintro e w1 ⟨rfl, hM⟩; have HM1 := Lib.hid hM; clear hM) | (go_at_call 23; (with_reducible refine (HM1.out.contents _ HC2.out).mono ?_); rintro e w4 ⟨u, rfl, hM, hu, hb⟩; have HM2 : Hid (MSt w w4 g gd gm (mkD (flO O M) []) (flO O M) [] u (.slice none 0 0)) := Lib.hid ⟨hM.a, hu, Kd.R_nil _ _ _ _ _, hM.b, hM.s⟩; clear hM hu hb))
          go_roundw
          case rel => exact ⟨i + 1, flO O M, [], by omega, by go_num, HM2, Lib.hid ⟨HL2.out, Nat.zero_le _⟩⟩
          case measure => simp [intOf]; omega

        · have hq : ¬ ((i : Int) < (l.length : Int).tdiv 2) := by rw [Int.tdiv_eq_ediv_of_nonneg (by omega)]; omega
          have hcell2 : ∀ W' : World, Below w.heap.size w W' → W'.cell? ⟨(ad.add (i * 4)).block, (ad.add (i * 4)).off + 1, none⟩ = some (.int .i64 o.f1) ∧ W'.cell? ⟨(ad.add (i * 4)).block, (ad.add (i * 4)).off + 2, none⟩ = some (.string o.f2) := fun W' hb => ⟨(hcells W' hb).2.1, (hcells W' hb).2.2.1⟩
          obtain ⟨A3, c3, e3⟩ := Kd.R_slice HM.out.m
          subst e3
          have HMd := Lib.hid HM.out.drew
          rcases write_mk O M o with ⟨f, hf0, hw⟩ | hw
          · have HF := Lib.hid (HMd.out.write o f hw (by show (M.map toWr).length < _; rw [List.length_map]; have := HL.out.2; omega))
            go_wp2
            go_region_held3 (fun w' => w'.cell? ⟨(ad.add (i * 4)).block, (ad.add (i * 4)).off + 1, none⟩ = some (.int .i64 o.f1) ∧ w'.cell? ⟨(ad.add (i * 4)).block, (ad.add (i * 4)).off + 2, none⟩ = some (.string o.f2)) (first | exact hcell2 _ HM.out.b | exact hcell2 _ HMd.out.b | exact hcell2 _ HM1.out.b) (first | (go_at_call 26; (with_reducible refine HF.out.mono ?_); rintro e w1 ⟨rfl, hM⟩; have HM1 := Lib.hid hM; clear hM))
            go_wp2
            go_roundw
            case rel => exact ⟨i + 1, O, M, by omega, by go_num, HM1, Lib.hid ⟨HL.out.1, by have := HL.out.2; omega⟩⟩
            case measure => simp [intOf]; omega
          · have HF := Lib.hid (HMd.out.write o 0 hw (by show (M.map toWr).length < _; rw [List.length_map]; have := HL.out.2; omega))
            go_wp2
            go_region_held3 (fun w' => w'.cell? ⟨(ad.add (i * 4)).block, (ad.add (i * 4)).off + 1, none⟩ = some (.int .i64 o.f1) ∧ w'.cell? ⟨(ad.add (i * 4)).block, (ad.add (i * 4)).off + 2, none⟩ = some (.string o.f2)) (first | exact hcell2 _ HM.out.b | exact hcell2 _ HMd.out.b | exact hcell2 _ HM1.out.b) (first | (go_at_call 26; (with_reducible refine HF.out.mono ?_); rintro e w1 ⟨rfl, hM⟩; have HM1 := Lib.hid hM; clear hM))
            obtain ⟨hy0, hy1, hy2, hy3⟩ := hcells _ HM1.out.b
            go_wp2_with (first | ((with_reducible refine gate_builtin (b := .append) (xs := #[.tmp 79, .tmp 84]) rfl ?_); at_builtin; refine Kd.R_append k42 (w0 := w) w.heap.size rfl (.tmp 79) (.tmp 84) 38 42 (.agg #[(.int .i64 0), (.int .i64 0), (.string ⟨#[]⟩), (.int .u64 0)]) 40 rfl Try.underlying38 info42 rfl (by decide) (by omega) (.slice A3 M.length c3) M o [.int .i64 1, .int .i64 o.f1, .string o.f2, .int .u64 o.f3] (fun k => ¬ (k = g ∨ k = gd ∨ k = gm)) (fun _ => False) rfl rfl ?aP (fun _ hk => hk.elim) ?aF ?aO ?aB ?aS ?aL ?_; (case aP => (have hp9 := k42_mkM w1 w.heap.size (fun _ => False) o; rw [hk] at hp9; exact hp9)); (case aF => exact fun k hk hs => by have := HM1.out.a.lt k hs; omega); (case aO => exact HM1.out.m); (case aB => exact HM1.out.b); (case aS => exact HM1.out.b.size); (case aL => have := HL.out.2; omega); intro vn w6 ho hb hg _; have HM2 := Lib.hid (HM1.out.made ho hb hg); clear ho hb hg))
            go_roundw
            case rel => exact ⟨i + 1, O, M ++ [o], by omega, by go_num, HM2, Lib.hid ⟨HL.out.1, by rw [List.length_append, List.length_singleton]; have := HL.out.2; omega⟩⟩
            case measure => simp [intOf]; omega
      · have hcell2 : ∀ W' : World, Below w.heap.size w W' → W'.cell? ⟨(ad.add (i * 4)).block, (ad.add (i * 4)).off + 1, none⟩ = some (.int .i64 o.f1) ∧ W'.cell? ⟨(ad.add (i * 4)).block, (ad.add (i * 4)).off + 2, none⟩ = some (.string o.f2) := fun W' hb => ⟨(hcells W' hb).2.1, (hcells W' hb).2.2.1⟩
        obtain ⟨A3, c3, e3⟩ := Kd.R_slice HM.out.m
        subst e3
        have HMd := Lib.hid HM.out.drew
        rcases write_mk O M o with ⟨f, hf0, hw⟩ | hw
        · have HF := Lib.hid (HMd.out.write o f hw (by show (M.map toWr).length < _; rw [List.length_map]; have := HL.out.2; omega))
          go_wp2
          go_region_held3 (fun w' => w'.cell? ⟨(ad.add (i * 4)).block, (ad.add (i * 4)).off + 1, none⟩ = some (.int .i64 o.f1) ∧ w'.cell? ⟨(ad.add (i * 4)).block, (ad.add (i * 4)).off + 2, none⟩ = some (.string o.f2)) (first | exact hcell2 _ HM.out.b | exact hcell2 _ HMd.out.b | exact hcell2 _ HM1.out.b) (first | (go_at_call 26; (with_reducible refine HF.out.mono ?_); rintro e w1 ⟨rfl, hM⟩; have HM1 := Lib.hid hM; clear hM))
          go_wp2
          go_roundw
          case rel => exact ⟨i + 1, O, M, by omega, by go_num, HM1, Lib.hid ⟨HL.out.1, by have := HL.out.2; omega⟩⟩
          case measure => simp [intOf]; omega
        · have HF := Lib.hid (HMd.out.write o 0 hw (by show (M.map toWr).length < _; rw [List.length_map]; have := HL.out.2; omega))
          go_wp2
          go_region_held3 (fun w' => w'.cell? ⟨(ad.add (i * 4)).block, (ad.add (i * 4)).off + 1, none⟩ = some (.int .i64 o.f1) ∧ w'.cell? ⟨(ad.add (i * 4)).block, (ad.add (i * 4)).off + 2, none⟩ = some (.string o.f2)) (first | exact hcell2 _ HM.out.b | exact hcell2 _ HMd.out.b | exact hcell2 _ HM1.out.b) (first | (go_at_call 26; (with_reducible refine HF.out.mono ?_); rintro e w1 ⟨rfl, hM⟩; have HM1 := Lib.hid hM; clear hM))
          obtain ⟨hy0, hy1, hy2, hy3⟩ := hcells _ HM1.out.b
          go_wp2_with (first | ((with_reducible refine gate_builtin (b := .append) (xs := #[.tmp 79, .tmp 84]) rfl ?_); at_builtin; refine Kd.R_append k42 (w0 := w) w.heap.size rfl (.tmp 79) (.tmp 84) 38 42 (.agg #[(.int .i64 0), (.int .i64 0), (.string ⟨#[]⟩), (.int .u64 0)]) 40 rfl Try.underlying38 info42 rfl (by decide) (by omega) (.slice A3 M.length c3) M o [.int .i64 o.f0, .int .i64 o.f1, .string o.f2, .int .u64 o.f3] (fun k => ¬ (k = g ∨ k = gd ∨ k = gm)) (fun _ => False) rfl rfl ?aP (fun _ hk => hk.elim) ?aF ?aO ?aB ?aS ?aL ?_; (case aP => exact k42_mkM _ _ _ _); (case aF => exact fun k hk hs => by have := HM1.out.a.lt k hs; omega); (case aO => exact HM1.out.m); (case aB => exact HM1.out.b); (case aS => exact HM1.out.b.size); (case aL => have := HL.out.2; omega); intro vn w6 ho hb hg _; have HM2 := Lib.hid (HM1.out.made ho hb hg); clear ho hb hg))
          go_roundw
          case rel => exact ⟨i + 1, O, M ++ [o], by omega, by go_num, HM2, Lib.hid ⟨HL.out.1, by rw [List.length_append, List.length_singleton]; have := HL.out.2; omega⟩⟩
          case measure => simp [intOf]; omega
    · have hlt2 : i = l.length := by omega
      obtain ⟨d1, d2, L, Rr, e1, e2, e3, e4, e5, e6, e7, e8, e9, e10⟩ := masks_end O M m (by have := HL.out.1; omega) HM.out.a.o
      have hob := HL.out.1
      have hml := HL.out.2
      rw [hob] at e2 e7 e8
      have E1 := Lib.hid e1
      have E2 := Lib.hid e2
      have E3 := Lib.hid e3
      have E4 := Lib.hid e4
      have E5 := Lib.hid e5
      have E6 := Lib.hid e6
      have E7 := Lib.hid e7
      have E8 := Lib.hid e8
      have E9 := Lib.hid e9
      have E10 := Lib.hid e10
      have HOB := Lib.hid hob
      have hm100 : M.length < 100 := by omega
      obtain ⟨A3, c3, z3⟩ := Kd.R_slice HM.out.m
      subst z3
      obtain ⟨A4, c4, z4⟩ := Kd.R_slice HM.out.o
      rw [hob] at z4
      subst z4
      clear e1 e2 e3 e4 e5 e6 e7 e8 e9 e10 hob hml HL
      generalize mkD O M = D at *
      go_wp2_with (first | (go_at_call 23; (with_reducible refine (HM3.out.contents Rr E6.out).mono ?_); rintro e w9 ⟨u, rfl, hM, hu, hb⟩; obtain ⟨A6, c6, z6⟩ := Kd.R_slice hu; rw [E7.out] at z6; subst z6; have HM4 := Lib.hid hM; have HN := Lib.hid hu; have HL4 := Lib.hid (Kd.R_below HL3.out hb); clear hM hu hb) | (go_at_call 23; (with_reducible refine (HM.out.contents L E1.out).mono ?_); rintro e w4 ⟨u, rfl, hM, hu, hb⟩; obtain ⟨A5, c5, z5⟩ := Kd.R_slice hu; rw [E2.out] at z5; subst z5; have HM1 := Lib.hid hM; have HL1 := Lib.hid hu; clear hM hu hb) | (go_at_call 14; (with_reducible refine (HM1.out.pending M.length E3.out).mono ?_); rintro e wz ⟨rfl, hw⟩; subst hw) | (go_at_call 24; (with_reducible refine (HM1.out.crash m hm0 0 E4.out).mono ?_); rintro e w5 ⟨rfl, hM, hT⟩; have HM2 := Lib.hid hM; have HL2 := Lib.hid (hT.row HL1.out (fun _ hk => hk)); clear hM hT) | (go_at_call 25; (with_reducible refine (HM2.out.recover 0 E5.out).mono ?_); rintro e w6 ⟨rfl, hM, hT⟩; have HM3 := Lib.hid hM; have HL3 := Lib.hid (hT.row HL2.out (fun _ hk => hk)); clear hM hT))
      go_loopw [14] (fun a wr2 => ∃ n : Nat, n ≤ b ∧ a = .int .i64 (n : Int) ∧ Drawn0 w9 wr2) (fun a _ => b - (intOf a).toNat)
      case atStart => exact ⟨0, Nat.zero_le _, rfl, Drawn0.refl _⟩
      case round =>
        obtain ⟨n, hn, rfl, nd, rfl⟩ := hrel
        by_cases hnb : n < b
        · have q1 : (n : Int) < (b : Int) := by omega
          have p1 : (0 : Int) ≤ (n : Int) := by omega
          obtain ⟨ad6, z6, hx6⟩ := Kd.at_string (Kd.R_reads' HN.out).2.2 (n : Int) p1 (by rw [E7.out]; omega)
          subst z6
          obtain ⟨ad4, z4, hx4⟩ := Kd.at_string (Kd.R_reads' HM4.out.o).2.2 (n : Int) p1 (by rw [HOB.out]; omega)
          subst z4
          simp only [Int.toNat_natCast] at hx6 hx4
          have HE := Lib.hid (E8.out n hnb)
          generalize rdOf ByteArray.empty Rr (n : Int) = X at *
          generalize rdOf ByteArray.empty O (n : Int) = Y at *
          go_wp2
          repeat (go_quiet (fail); try go_wp2)
          go_loopw [15, 16] (fun v a wi => ∃ (ok : Bool) (j : Nat), v = .bool ok ∧ a = .int .i64 (j : Int) ∧ j ≤ M.length ∧ Hid (ok = true ∨ ∃ q : Nat, j ≤ q ∧ q < M.length ∧ (rd_T42 M (q : Int)).f1 = (n : Int) ∧ (rd_T42 M (q : Int)).f2 = X) ∧ Drawn0 w9 wi) (fun _ a _ => M.length - (intOf a).toNat)
          case atStart => exact ⟨X.toList == Y.toList, 0, by first | rfl | (simp; done) | (simp [*]; done), rfl, Nat.zero_le _, Lib.hid (by rcases HE.out with h | ⟨q, h1, h2, h3⟩; exact Or.inl (by rw [h]; exact beq_self_eq_true _); exact Or.inr ⟨q, Nat.zero_le _, h1, h2, h3⟩), by repeat (first | exact Drawn0.refl _ | apply Drawn0.step)⟩
          case round =>
            obtain ⟨ok, j, rfl, rfl, hj, HOK, nd2, rfl⟩ := hrel
            by_cases hjm : j < M.length
            · have q1 : (j : Int) < (M.length : Int) := by omega
              have p1 : (0 : Int) ≤ (j : Int) := by omega
              have hj9 : j < 100 := by omega
              obtain ⟨ad3, z3, y0, y1, y2, y3⟩ := at_T42 (Kd.R_reads' HM4.out.m).2.2 (j : Int) p1 q1
              subst z3
              simp only [Int.toNat_natCast] at y1 y2
              cases ok
              · have hok : ∃ q : Nat, j ≤ q ∧ q < M.length ∧ (rd_T42 M (q : Int)).f1 = (n : Int) ∧ (rd_T42 M (q : Int)).f2 = X := by
                  rcases HOK.out with h | h
                  · cases h
                  · exact h
                obtain ⟨q, hq1, hq2, hq3, hq4⟩ := hok
                by_cases hf : (rd_T42 M (j : Int)).f1 = (n : Int)
                · by_cases ht : (rd_T42 M (j : Int)).f2.toList = X.toList
                  · clear hq3 hq4
                    generalize rd_T42 M (j : Int) = oj at *
                    go_wp2
                    repeat (go_quiet (fail); try go_wp2)
                    go_roundw
                    case rel => exact ⟨true, j + 1, by first | rfl | (simp; done) | (simp [*]; done), by go_num, by omega, Lib.hid (Or.inl rfl), by repeat (first | exact Drawn0.refl _ | apply Drawn0.step)⟩
                    case measure => simp [intOf]; omega
                  · have hqj : j + 1 ≤ q := by
                      have : j ≠ q := fun h => by subst h; exact ht (by rw [hq4])
                      omega
                    have HQ := Lib.hid hq3
                    have HQ4 := Lib.hid hq4
                    clear hq3 hq4
                    generalize hoj : rd_T42 M (j : Int) = oj at y1 y2 hf ht
                    go_wp2
                    repeat (go_quiet (fail); try go_wp2)
                    go_roundw
                    case rel => exact ⟨false, j + 1, by first | rfl | (simp; done) | (simp [*]; done), by go_num, by omega, Lib.hid (Or.inr ⟨q, hqj, hq2, HQ.out, HQ4.out⟩), by repeat (first | exact Drawn0.refl _ | apply Drawn0.step)⟩
                    case measure => simp [intOf]; omega
                · have hqj : j + 1 ≤ q := by
                    have : j ≠ q := fun h => by subst h; exact hf hq3
                    omega
                  have HQ := Lib.hid hq3
                  have HQ4 := Lib.hid hq4
                  clear hq3 hq4
                  generalize hoj : rd_T42 M (j : Int) = oj at y1 y2 hf
                  go_wp2
                  repeat (go_quiet (fail); try go_wp2)
                  go_roundw
                  case rel => exact ⟨false, j + 1, by first | rfl | (simp; done) | (simp [*]; done), by go_num, by omega, Lib.hid (Or.inr ⟨q, hqj, hq2, HQ.out, HQ4.out⟩), by repeat (first | exact Drawn0.refl _ | apply Drawn0.step)⟩
                  case measure => simp [intOf]; omega
              · generalize rd_T42 M (j : Int) = oj at *
                go_wp2
                repeat (go_quiet (fail); try go_wp2)
                go_roundw
                case rel => exact ⟨true, j + 1, by first | rfl | (simp; done) | (simp [*]; done), by go_num, by omega, Lib.hid (Or.inl rfl), by repeat (first | exact Drawn0.refl _ | apply Drawn0.step)⟩
                case measure => simp [intOf]; omega
            · have hok : ok = true := by
                rcases HOK.out with h | ⟨q, hq1, hq2, _⟩
                · exact h
                · omega
              subst hok
              go_wp2
              repeat (go_quiet (fail); try go_wp2)
              go_roundw
              case rel => exact ⟨n + 1, by omega, by go_num, by repeat (first | exact Drawn0.refl _ | apply Drawn0.step)⟩
              case measure => simp [intOf]; omega
        · have hcl : L.length ≤ 5000 := by have := E2.out; omega
          by_cases m0 : m = 0
          · have hx := E9.out m0
            have HNN : Hid (Kd.R Kd.string 9 (w9.drewN nd) w.heap.size (fun k => ¬ (k = g ∨ k = gd ∨ k = gm)) (.slice A6 b c6) O) := Lib.hid (Kd.R_drewN (by rw [← hx]; exact HN.out) _)
            have HOO := Lib.hid (Kd.R_drewN HM4.out.o nd)
            have hco : O.length ≤ 5000 := by have := HOB.out; omega
            have HB5 := Lib.hid (below_step HM4.out.b (pw_below_drewN (Below.refl w9.heap.size w9) nd))
            clear E4 E9 E10
            subst m0
            go_wp2_with (first | (go_at_call 22; (with_reducible refine (same_at hco HNN.out HOO.out).mono ?_); rintro e w10 ⟨rfl, hb⟩; have HB6 := Lib.hid (below_step HB5.out hb); clear hb) | (go_at_call 11; (with_reducible refine (awake_calls _).mono ?_); rintro e wz ⟨rfl, hbz⟩))
            go_ret
            exact ⟨rfl, below_step HB6.out hbz⟩
          · by_cases m1 : m = 18446744073709551615
            · have hx := E10.out m1
              have HNN : Hid (Kd.R Kd.string 9 (w9.drewN nd) w.heap.size (fun k => ¬ (k = g ∨ k = gd ∨ k = gm)) (.slice A6 b c6) L) := Lib.hid (Kd.R_drewN (by rw [← hx]; exact HN.out) _)
              have HLL := Lib.hid (Kd.R_drewN HL4.out nd)
              have HB5 := Lib.hid (below_step HM4.out.b (pw_below_drewN (Below.refl w9.heap.size w9) nd))
              clear E4 E9 E10
              subst m1
              go_wp2_with (first | (go_at_call 22; (with_reducible refine (same_at hcl HNN.out HLL.out).mono ?_); rintro e w10 ⟨rfl, hb⟩; have HB6 := Lib.hid (below_step HB5.out hb); clear hb) | (go_at_call 11; (with_reducible refine (awake_calls _).mono ?_); rintro e wz ⟨rfl, hbz⟩))
              go_ret
              exact ⟨rfl, below_step HB6.out hbz⟩
            · have HB5 := Lib.hid (below_step HM4.out.b (pw_below_drewN (Below.refl w9.heap.size w9) nd))
              clear E4 E9 E10
              go_wp2_with (first | (go_at_call 11; (with_reducible refine (awake_calls _).mono ?_); rintro e wz ⟨rfl, hbz⟩))
              go_ret
              exact ⟨rfl, below_step HB5.out hbz⟩
end Go.Proofs.Ytkgdppjlbjmjoaa.Dk
