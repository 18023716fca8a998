/- The document's reader of bills. Conditions: none. -/
import Derived.Test.YtdomcbebbhbdlaaGreatDoorAw
import Derived.Test.YtdomcbebbhbdlaaGreatDoorLd
set_option linter.unusedSimpArgs false
set_option linter.unusedVariables false
namespace Go.Proofs.YtdomcbebbhbdlaaGreatDoor.PLogsBills
open Go.RowKit Go.Proofs.YtdomcbebbhbdlaaGreatDoorW.PrintWords Go.Proofs.YtdomcbebbhbdlaaGreatDoorW.PrintLast Go.Proofs.YtdomcbebbhbdlaaGreatDoorW.PrintMore
attribute [local go_sem] max2_int min2_int max_two min_two max_three min_three max_four min_four
set_option maxHeartbeats 8000000 in
set_option maxRecDepth 100000 in
theorem rf_ReadBills.calls (k : Nat) (a0 : ByteArray) (r1 : List (S26)) (r2 : Int) (r3 : Int) (w : World) (h : rf_ReadBills.f k a0 = some (r1, r2, r3)) :
  Calls Tryz.prog 10 #[.string a0] w fun e w' => ∃ v0_ : Value, e = .returned (.tuple #[v0_, .int .i64 r2, .int .i64 r3]) ∧ Kd.S k26 26 w' w.heap.size (fun _ => True) v0_ r1 ∧ Below w.heap.size w w' := by
 have hu26 := Tryz.underlying26
 have HB := Aside0.mk (Below.refl w.heap.size w)
 have H : ((rf_Lines.f k a0).bind fun bt165 => (if bt165.2 = 0 then (rf_ReadBills.l0 k bt165.1 (([] : List (S26))) 0) else (some (([] : List (S26)), 0, bt165.2)))) = some (r1, r2, r3) := h
 clear h
 replace H := Option.bind_eq_some_iff.mp H
 obtain ⟨⟨t165, t166⟩, A20, H⟩ := H
 replace H : (if t166 = 0 then (rf_ReadBills.l0 k t165 (([] : List (S26))) 0) else (some (([] : List (S26)), 0, t166))) = some (r1, r2, r3) := H
 have A2 := Aside0.mk A20
 clear A20
 by_cases c3 : t166 = 0
 ·rw [if_pos c3] at H
  have c3b0 : (t166 == 0) = true := beq_iff_eq.mpr c3
  have c3b1 : (t166 != 0) = false := bne_eq_false_iff_eq.mpr c3
  clear c3
  obtain ⟨y169, hy169⟩ : ∃ y_ : List (S26), y_ = (([] : List (S26))) := ⟨_, rfl⟩
  replace H : (rf_ReadBills.l0 k t165 y169 0) = some (r1, r2, r3) := by first | (rw [hy169]; with_reducible exact H) | (have H2_ := (Option.bind_some _ _).symm.trans H; rw [hy169]; with_reducible exact H2_) | (have H2_ := (Option.bind_some _ _).symm.trans H; with_reducible exact H2_) | with_reducible exact H | (rw [hy169]; exact H) | exact H
  have Ny169 := Aside0.mk hy169
  clear hy169
  have H' := Aside0.mk H
  clear H
  go_enter Tryz.func10, Tryz.ntmps10
  go_wp2_with (first | ((with_reducible refine gate_callee (f := 28) rfl ?_); refine goesL_ (some 19) rfl rfl Tryz.func28 (by kernel_rfl) rfl #[.string a0] rfl (by (try simp only [List.map_toArray, List.map_cons, List.map_nil]); first | done | rfl | (simp only [List.length_drop, List.length_take]; rfl)) ?_; (with_reducible refine (rf_Lines.calls k a0 t165 t166 _ A2.out).mono ?_); rintro e w4 ⟨v167, rfl, ho0, hb⟩; refine ⟨_, rfl, ?_⟩; have n0_ := Aside0.mk (Kd.R_lower ho0 (below_size (by repeat (first | (with_reducible first | exact HB.out | apply below_alloc | apply pw_below_drewN | apply below_drew1) | exact HB.out)))); have n1_ := Aside0.mk (below_step (by repeat (first | (with_reducible first | exact HB.out | apply below_alloc | apply pw_below_drewN | apply below_drew1) | exact HB.out)) hb); clear HB; have HO168 := n0_; have HB := n1_; clear n0_ n1_; (try clear hb); (try clear hb2); (try clear hk); (try clear hi); (try clear ho0)) | ((with_reducible refine gate_dst (N := 25) rfl ?_); refine Kd.S_lit k26 _ 26 ?hg (N := 25) ?hd (xs := ([] : List (S26))) (inner := []) (ok := fun _ => True) (okp := fun _ => True) ?hr ?hp (fun _ hk => hk) trivial (Below.refl _ _) (Nat.le_refl _) (by simp) ?_; (case hd => rfl); (case hg => rfl); (case hr => first | (go_simp; done) | (go_simp; rfl)); (case hp => exact (Reps.none _ _)); intro v170 w5 ho6 hb hg_ hnew_; clear hg_ hnew_; (first | rw [← Ny169.out] at ho6 | (simp only [Int.reduceToNat] at ho6; rw [← Ny169.out] at ho6)); have n0_ := Aside0.mk (Kd.R_below (by (with_reducible repeat (first | apply Kd.R_alloc | apply Kd.R_drewN | apply Kd.R_drew)); exact HO168.out) hb); have n1_ := Aside0.mk (Kd.S_lower ho6 (below_size (by repeat (first | (with_reducible first | exact HB.out | apply below_alloc | apply pw_below_drewN | apply below_drew1) | exact HB.out)))); have n2_ := Aside0.mk (below_step (by repeat (first | (with_reducible first | exact HB.out | apply below_alloc | apply pw_below_drewN | apply below_drew1) | exact HB.out)) hb); clear HO168; clear HB; have HO168 := n0_; have HO171 := n1_; have HB := n2_; clear n0_ n1_ n2_; clear hb ho6))
  go_loopg [7, 8] k (fun kq v7 v8 w' => ∃ (x7_1 : List (S26)) (x8_1 : Int), v8 = .int .i64 x8_1 ∧ Aside0 (rf_ReadBills.l0 kq t165 x7_1 x8_1 = some (r1, r2, r3)) ∧ Aside0 (kq ≤ k) ∧ Aside0 (Kd.R Kd.string 9 w' w.heap.size (fun _ => True) v167 t165) ∧ Aside0 (Kd.S k26 26 w' w.heap.size (fun _ => True) v7 x7_1) ∧ Aside0 (Below w.heap.size w w'))
  case atStart => exact ⟨(y169), (0), (by first | rfl | (simp; done) | (simp [*]; done)), H', ⟨Nat.le_refl _⟩, ⟨by (with_reducible repeat (first | apply Kd.R_alloc | apply Kd.R_drewN | apply Kd.R_drew)); exact HO168.out⟩, ⟨by (with_reducible repeat (first | apply Kd.S_alloc | apply Kd.S_drewN | apply Kd.S_drew)); exact HO171.out⟩, ⟨by repeat (first | (with_reducible first | exact HB.out | apply below_alloc | apply pw_below_drewN | apply below_drew1) | exact HB.out)⟩⟩
  case round =>
   clear H'
   try clear c1
   try clear c2
   try clear p2
   try clear c3
   try clear c3b0
   try clear c3b1
   obtain ⟨x7_1, x8_1, rfl, HA, HK1, HO_5, HO_7, HB⟩ := hrel
   cases gk with
   | zero => exact absurd HA.out (by simp [rf_ReadBills.l0])
   | succ k1 =>
    have H := HA.out
    clear HA
    simp only [rf_ReadBills.l0] at H
    by_cases c7 : x8_1 < (t165.length : Int)
    ·rw [if_pos c7] at H
     have c7b0 : decide (x8_1 < (t165.length : Int)) = true := decide_eq_true c7
     clear c7
     by_cases c8 : 0 ≤ x8_1
     ·rw [if_pos c8] at H
      have c8b0 : decide (0 ≤ x8_1) = true := decide_eq_true c8
      clear c8
      replace H := Option.bind_eq_some_iff.mp H
      obtain ⟨t173, A90, H⟩ := H
      replace H : (if t173 = 0 then ((rf_Words.f k1 (rdOf ByteArray.empty t165 x8_1)).bind fun t175 => (if (t175.length : Int) = 6 then (if 0 < (t175.length : Int) then ((rf_Digits.f k1 (rdOf ByteArray.empty t175 0)).bind fun bt180 => (if 1 < (t175.length : Int) then ((rf_Digits.f k1 (rdOf ByteArray.empty t175 1)).bind fun bt183 => (if 2 < (t175.length : Int) then ((rf_Digits.f k1 (rdOf ByteArray.empty t175 2)).bind fun bt186 => (if 3 < (t175.length : Int) then ((rf_Digits.f k1 (rdOf ByteArray.empty t175 3)).bind fun bt189 => (if 0 ≤ (mn (wrap64 (bt189.2 + 1)) ((rdOf ByteArray.empty t175 3).size : Int)) then (if (mn (wrap64 (bt189.2 + 1)) ((rdOf ByteArray.empty t175 3).size : Int)) ≤ ((rdOf ByteArray.empty t175 3).size : Int) then ((rf_Digits.f k1 ((rdOf ByteArray.empty t175 3).extract ((mn (wrap64 (bt189.2 + 1)) ((rdOf ByteArray.empty t175 3).size : Int)) : Int).toNat (rdOf ByteArray.empty t175 3).size)).bind fun bt193 => (rf_ReadBills.l1 k1 t165 x7_1 x8_1 t175 0 bt180.1 bt183.1 bt186.1 bt189.1 bt193.1 ([] : List Int))) else (none)) else (none))) else (none))) else (none))) else (none))) else (none)) else (rf_ReadBills.j2 k1 t165 x7_1 x8_1 0 0 0 0 0 ([] : List Int)))) else (some (([] : List (S26)), x8_1, t173))) = some (r1, r2, r3) := H
      have A9 := Aside0.mk A90
      clear A90
      by_cases c10 : t173 = 0
      ·rw [if_pos c10] at H
       have c10b0 : (t173 == 0) = true := beq_iff_eq.mpr c10
       have c10b1 : (t173 != 0) = false := bne_eq_false_iff_eq.mpr c10
       clear c10
       replace H := Option.bind_eq_some_iff.mp H
       obtain ⟨t175, A110, H⟩ := H
       replace H : (if (t175.length : Int) = 6 then (if 0 < (t175.length : Int) then ((rf_Digits.f k1 (rdOf ByteArray.empty t175 0)).bind fun bt180 => (if 1 < (t175.length : Int) then ((rf_Digits.f k1 (rdOf ByteArray.empty t175 1)).bind fun bt183 => (if 2 < (t175.length : Int) then ((rf_Digits.f k1 (rdOf ByteArray.empty t175 2)).bind fun bt186 => (if 3 < (t175.length : Int) then ((rf_Digits.f k1 (rdOf ByteArray.empty t175 3)).bind fun bt189 => (if 0 ≤ (mn (wrap64 (bt189.2 + 1)) ((rdOf ByteArray.empty t175 3).size : Int)) then (if (mn (wrap64 (bt189.2 + 1)) ((rdOf ByteArray.empty t175 3).size : Int)) ≤ ((rdOf ByteArray.empty t175 3).size : Int) then ((rf_Digits.f k1 ((rdOf ByteArray.empty t175 3).extract ((mn (wrap64 (bt189.2 + 1)) ((rdOf ByteArray.empty t175 3).size : Int)) : Int).toNat (rdOf ByteArray.empty t175 3).size)).bind fun bt193 => (rf_ReadBills.l1 k1 t165 x7_1 x8_1 t175 0 bt180.1 bt183.1 bt186.1 bt189.1 bt193.1 ([] : List Int))) else (none)) else (none))) else (none))) else (none))) else (none))) else (none)) else (rf_ReadBills.j2 k1 t165 x7_1 x8_1 0 0 0 0 0 ([] : List Int))) = some (r1, r2, r3) := H
       have A11 := Aside0.mk A110
       clear A110
       have HC12 := Aside0.mk H
       clear H
       obtain ⟨Ao13, co13, eo13⟩ := Kd.R_slice HO_5.out
       subst eo13
       have p172 : 0 ≤ (x8_1 : Int) := of_decide_eq_true (by first | (with_reducible assumption) | assumption)
       have q172 : x8_1 < (t165.length : Int) := of_decide_eq_true (by first | (with_reducible assumption) | assumption)
       obtain ⟨ad172, e172, hx172_0⟩ := Kd.at_string (Kd.R_reads' HO_5.out).2.2 x8_1 p172 q172
       cases e172
       replace p172 := eq_true p172
       replace q172 := eq_true q172
       go_upto_if 49 with (first | ((with_reducible refine gate_callee (f := 29) rfl ?_); refine goesL_ (some 36) rfl rfl Tryz.func29 (by kernel_rfl) rfl #[.string (rdOf ByteArray.empty t165 x8_1)] rfl (by (try simp only [List.map_toArray, List.map_cons, List.map_nil]); first | done | rfl | (simp only [List.length_drop, List.length_take]; rfl)) ?_; (with_reducible refine (rf_Checked.calls k1 (rdOf ByteArray.empty t165 x8_1) t173 _ A9.out).mono ?_); rintro e w14 ⟨rfl, hb⟩; refine ⟨_, rfl, ?_⟩; have n0_ := Aside0.mk (Kd.R_below (by (with_reducible repeat (first | apply Kd.R_alloc | apply Kd.R_drewN | apply Kd.R_drew)); exact HO_5.out) hb); have n1_ := Aside0.mk (Kd.S_below (by (with_reducible repeat (first | apply Kd.S_alloc | apply Kd.S_drewN | apply Kd.S_drew)); exact HO_7.out) hb); have n2_ := Aside0.mk (below_step (by repeat (first | (with_reducible first | exact HB.out | apply below_alloc | apply pw_below_drewN | apply below_drew1) | exact HB.out)) hb); clear HO_5; clear HO_7; clear HB; have HO_5 := n0_; have HO_7 := n1_; have HB := n2_; clear n0_ n1_ n2_; (try clear hb); (try clear hb2); (try clear hk); (try clear hi); have p174 : 0 ≤ (x8_1 : Int) := of_decide_eq_true (by first | (with_reducible assumption) | assumption); have q174 : x8_1 < (t165.length : Int) := of_decide_eq_true (by first | (with_reducible assumption) | assumption); obtain ⟨ad174, e174, hx174_0⟩ := Kd.at_string (Kd.R_reads' HO_5.out).2.2 x8_1 p174 q174; obtain rfl : ad172 = ad174 := (by injection e174); replace p174 := eq_true p174; replace q174 := eq_true q174) | ((with_reducible refine gate_callee (f := 30) rfl ?_); refine goesL_ (some 45) rfl rfl Tryz.func30 (by kernel_rfl) rfl #[.string (rdOf ByteArray.empty t165 x8_1)] rfl (by (try simp only [List.map_toArray, List.map_cons, List.map_nil]); first | done | rfl | (simp only [List.length_drop, List.length_take]; rfl)) ?_; (with_reducible refine (rf_Words.calls k1 (rdOf ByteArray.empty t165 x8_1) t175 _ A11.out).mono ?_); rintro e w15 ⟨v176, rfl, ho0, hb⟩; refine ⟨_, rfl, ?_⟩; have n0_ := Aside0.mk (Kd.R_elder' (by (with_reducible repeat (first | apply Kd.R_alloc | apply Kd.R_drewN | apply Kd.R_drew)); exact HO_5.out) (Kd.R_base ho0) hb); have n1_ := Aside0.mk (Kd.S_below (by (with_reducible repeat (first | apply Kd.S_alloc | apply Kd.S_drewN | apply Kd.S_drew)); exact HO_7.out) hb); have n2_ := Aside0.mk (Kd.R_lower (Kd.R_new' ho0 (Kd.R_lt (by (with_reducible repeat (first | apply Kd.R_alloc | apply Kd.R_drewN | apply Kd.R_drew)); exact HO_5.out))) (below_size (by repeat (first | (with_reducible first | exact HB.out | apply below_alloc | apply pw_below_drewN | apply below_drew1) | exact HB.out)))); have n3_ := Aside0.mk (below_step (by repeat (first | (with_reducible first | exact HB.out | apply below_alloc | apply pw_below_drewN | apply below_drew1) | exact HB.out)) hb); clear HO_5; clear HO_7; clear HB; have HO_5 := n0_; have HO_7 := n1_; have HO177 := n2_; have HB := n3_; clear n0_ n1_ n2_ n3_; (try clear hb); (try clear hb2); (try clear hk); (try clear hi); (try clear ho0)) | ((with_reducible refine gate_dst (N := 11) rfl ?_); refine box_event ?hg (N := 11) ?hd (cs := #[.int .i64 0, .int .i64 0, .int .i64 0, .int .i64 0, .int .i64 0, .slice none 0 0]) (t := 26) ?hr ?_; (case hd => rfl); (case hg => rfl); (case hr => first | (go_simp; done) | (go_simp; rfl)); intro gb178 hg w16 hbox hb; have n0_ := Aside0.mk (Kd.R_below (by (with_reducible repeat (first | apply Kd.R_alloc | apply Kd.R_drewN | apply Kd.R_drew)); exact HO_5.out) hb); have n1_ := Aside0.mk (Kd.S_below (Kd.S_elderB (by (with_reducible repeat (first | apply Kd.S_alloc | apply Kd.S_drewN | apply Kd.S_drew)); exact HO_7.out) gb178 (Nat.le_of_eq hg.symm)) hb); have n2_ := Aside0.mk (Kd.R_below (by (with_reducible repeat (first | apply Kd.R_alloc | apply Kd.R_drewN | apply Kd.R_drew)); exact HO177.out) hb); have n3_ := Aside0.mk (below_step (by repeat (first | (with_reducible first | exact HB.out | apply below_alloc | apply pw_below_drewN | apply below_drew1) | exact HB.out)) hb); have n4_ := Aside0.mk (hbox); have n5_ := Aside0.mk ((by rw [hg]; exact (below_size (by repeat (first | (with_reducible first | exact HB.out | apply below_alloc | apply pw_below_drewN | apply below_drew1) | exact HB.out))) : w.heap.size ≤ gb178)); have n6_ := Aside0.mk ((by rw [hg]; exact (below_size (by repeat (first | (with_reducible first | exact HB.out | apply below_alloc | apply pw_below_drewN | apply below_drew1) | exact HB.out))) : w.heap.size ≤ gb178)); clear HO_5; clear HO_7; clear HO177; clear HB; have HO_5 := n0_; have HO_7 := n1_; have HO177 := n2_; have HB := n3_; have BK178 := n4_; have GW178 := n5_; have GE178 := n6_; clear n0_ n1_ n2_ n3_ n4_ n5_ n6_; clear hb hbox hg; have hcz17_0 : w16.cell? ⟨gb178, 0, none⟩ = some (.int .i64 0) := (blk_cell BK178.out 0).trans rfl; have hcz17_1 : w16.cell? ⟨gb178, 1, none⟩ = some (.int .i64 0) := (blk_cell BK178.out 1).trans rfl; have hcz17_2 : w16.cell? ⟨gb178, 2, none⟩ = some (.int .i64 0) := (blk_cell BK178.out 2).trans rfl; have hcz17_3 : w16.cell? ⟨gb178, 3, none⟩ = some (.int .i64 0) := (blk_cell BK178.out 3).trans rfl; have hcz17_4 : w16.cell? ⟨gb178, 4, none⟩ = some (.int .i64 0) := (blk_cell BK178.out 4).trans rfl; have hcz17_5 : w16.cell? ⟨gb178, 5, none⟩ = some (.slice none 0 0) := (blk_cell BK178.out 5).trans rfl; have hfz17_0 := blk_frozen BK178.out 0; have hfz17_1 := blk_frozen BK178.out 1; have hfz17_2 := blk_frozen BK178.out 2; have hfz17_3 := blk_frozen BK178.out 3; have hfz17_4 := blk_frozen BK178.out 4; have hfz17_5 := blk_frozen BK178.out 5; obtain ⟨Ao18, co18, eo18⟩ := Kd.R_slice HO177.out; subst eo18))
       (try simp only [Act.put, xsA, xsZ, xsS])
       go_cut [] (fun wc => ∃ (kq : Nat) (x179000_11 : Int) (x179001_11 : Int) (x179002_11 : Int) (x179003_11 : Int) (x179004_11 : Int) (x179005_11 : List Int) (u179005 : Value), Aside0 (rf_ReadBills.j2 kq t165 x7_1 x8_1 x179000_11 x179001_11 x179002_11 x179003_11 x179004_11 x179005_11 = some (r1, r2, r3)) ∧ Aside0 (kq ≤ k1) ∧ Aside0 (Kd.R Kd.string 9 wc w.heap.size (fun _ => True) (.slice (some ad172) t165.length co13) t165) ∧ Aside0 (Kd.S k26 26 wc w.heap.size (fun k_ => some k_ ≠ (u179005 : Value).ownBlock ∧ k_ ≠ gb178) u7 x7_1) ∧ Aside0 (Kd.R (Kd.int .i64) 3 wc w.heap.size (fun _ => True) u179005 x179005_11) ∧ Aside0 (wc.heap[gb178]? = some (.cells #[.int .i64 x179000_11, .int .i64 x179001_11, .int .i64 x179002_11, .int .i64 x179003_11, .int .i64 x179004_11, u179005] 26 (0, 0))) ∧ Aside0 (Below w.heap.size w wc))
       case first =>
        have H := HC12.out
        clear HC12
        by_cases c19 : (t175.length : Int) = 6
        ·rw [if_pos c19] at H
         have c19b0 : ((t175.length : Int) == 6) = true := beq_iff_eq.mpr c19
         have c19b1 : ((t175.length : Int) != 6) = false := bne_eq_false_iff_eq.mpr c19
         clear c19
         (first | rw [c19b0] | (simp only [i64_w, i32_w]; rw [c19b0]) | skip)
         by_cases c20 : 0 < (t175.length : Int)
         ·rw [if_pos c20] at H
          have c20b0 : decide (0 < (t175.length : Int)) = true := decide_eq_true c20
          have c20b1 : decide (0 < t175.length) = true := decide_eq_true (by omega)
          clear c20
          replace H := Option.bind_eq_some_iff.mp H
          obtain ⟨⟨t180, t181⟩, A210, H⟩ := H
          replace H : (if 1 < (t175.length : Int) then ((rf_Digits.f k1 (rdOf ByteArray.empty t175 1)).bind fun bt183 => (if 2 < (t175.length : Int) then ((rf_Digits.f k1 (rdOf ByteArray.empty t175 2)).bind fun bt186 => (if 3 < (t175.length : Int) then ((rf_Digits.f k1 (rdOf ByteArray.empty t175 3)).bind fun bt189 => (if 0 ≤ (mn (wrap64 (bt189.2 + 1)) ((rdOf ByteArray.empty t175 3).size : Int)) then (if (mn (wrap64 (bt189.2 + 1)) ((rdOf ByteArray.empty t175 3).size : Int)) ≤ ((rdOf ByteArray.empty t175 3).size : Int) then ((rf_Digits.f k1 ((rdOf ByteArray.empty t175 3).extract ((mn (wrap64 (bt189.2 + 1)) ((rdOf ByteArray.empty t175 3).size : Int)) : Int).toNat (rdOf ByteArray.empty t175 3).size)).bind fun bt193 => (rf_ReadBills.l1 k1 t165 x7_1 x8_1 t175 0 t180 bt183.1 bt186.1 bt189.1 bt193.1 ([] : List Int))) else (none)) else (none))) else (none))) else (none))) else (none)) = some (r1, r2, r3) := H
          have A21 := Aside0.mk A210
          clear A210
          by_cases c22 : 1 < (t175.length : Int)
          ·rw [if_pos c22] at H
           have c22b0 : decide (1 < (t175.length : Int)) = true := decide_eq_true c22
           have c22b1 : decide (1 < t175.length) = true := decide_eq_true (by omega)
           clear c22
           replace H := Option.bind_eq_some_iff.mp H
           obtain ⟨⟨t183, t184⟩, A230, H⟩ := H
           replace H : (if 2 < (t175.length : Int) then ((rf_Digits.f k1 (rdOf ByteArray.empty t175 2)).bind fun bt186 => (if 3 < (t175.length : Int) then ((rf_Digits.f k1 (rdOf ByteArray.empty t175 3)).bind fun bt189 => (if 0 ≤ (mn (wrap64 (bt189.2 + 1)) ((rdOf ByteArray.empty t175 3).size : Int)) then (if (mn (wrap64 (bt189.2 + 1)) ((rdOf ByteArray.empty t175 3).size : Int)) ≤ ((rdOf ByteArray.empty t175 3).size : Int) then ((rf_Digits.f k1 ((rdOf ByteArray.empty t175 3).extract ((mn (wrap64 (bt189.2 + 1)) ((rdOf ByteArray.empty t175 3).size : Int)) : Int).toNat (rdOf ByteArray.empty t175 3).size)).bind fun bt193 => (rf_ReadBills.l1 k1 t165 x7_1 x8_1 t175 0 t180 t183 bt186.1 bt189.1 bt193.1 ([] : List Int))) else (none)) else (none))) else (none))) else (none)) = some (r1, r2, r3) := H
           have A23 := Aside0.mk A230
           clear A230
           by_cases c24 : 2 < (t175.length : Int)
           ·rw [if_pos c24] at H
            have c24b0 : decide (2 < (t175.length : Int)) = true := decide_eq_true c24
            have c24b1 : decide (2 < t175.length) = true := decide_eq_true (by omega)
            clear c24
            replace H := Option.bind_eq_some_iff.mp H
            obtain ⟨⟨t186, t187⟩, A250, H⟩ := H
            replace H : (if 3 < (t175.length : Int) then ((rf_Digits.f k1 (rdOf ByteArray.empty t175 3)).bind fun bt189 => (if 0 ≤ (mn (wrap64 (bt189.2 + 1)) ((rdOf ByteArray.empty t175 3).size : Int)) then (if (mn (wrap64 (bt189.2 + 1)) ((rdOf ByteArray.empty t175 3).size : Int)) ≤ ((rdOf ByteArray.empty t175 3).size : Int) then ((rf_Digits.f k1 ((rdOf ByteArray.empty t175 3).extract ((mn (wrap64 (bt189.2 + 1)) ((rdOf ByteArray.empty t175 3).size : Int)) : Int).toNat (rdOf ByteArray.empty t175 3).size)).bind fun bt193 => (rf_ReadBills.l1 k1 t165 x7_1 x8_1 t175 0 t180 t183 t186 bt189.1 bt193.1 ([] : List Int))) else (none)) else (none))) else (none)) = some (r1, r2, r3) := H
            have A25 := Aside0.mk A250
            clear A250
            by_cases c26 : 3 < (t175.length : Int)
            ·rw [if_pos c26] at H
             have c26b0 : decide (3 < (t175.length : Int)) = true := decide_eq_true c26
             have c26b1 : decide (3 < t175.length) = true := decide_eq_true (by omega)
             clear c26
             replace H := Option.bind_eq_some_iff.mp H
             obtain ⟨⟨t189, t190⟩, A270, H⟩ := H
             replace H : (if 0 ≤ (mn (wrap64 (t190 + 1)) ((rdOf ByteArray.empty t175 3).size : Int)) then (if (mn (wrap64 (t190 + 1)) ((rdOf ByteArray.empty t175 3).size : Int)) ≤ ((rdOf ByteArray.empty t175 3).size : Int) then ((rf_Digits.f k1 ((rdOf ByteArray.empty t175 3).extract ((mn (wrap64 (t190 + 1)) ((rdOf ByteArray.empty t175 3).size : Int)) : Int).toNat (rdOf ByteArray.empty t175 3).size)).bind fun bt193 => (rf_ReadBills.l1 k1 t165 x7_1 x8_1 t175 0 t180 t183 t186 t189 bt193.1 ([] : List Int))) else (none)) else (none)) = some (r1, r2, r3) := H
             have A27 := Aside0.mk A270
             clear A270
             obtain ⟨ji28, hji28⟩ : ∃ j_ : Int, (mn (wrap64 (t190 + 1)) ((rdOf ByteArray.empty t175 3).size : Int)) = j_ := ⟨_, rfl⟩
             replace H : (if 0 ≤ (ji28) then (if (ji28) ≤ ((rdOf ByteArray.empty t175 3).size : Int) then ((rf_Digits.f k1 ((rdOf ByteArray.empty t175 3).extract ((ji28) : Int).toNat (rdOf ByteArray.empty t175 3).size)).bind fun bt193 => (rf_ReadBills.l1 k1 t165 x7_1 x8_1 t175 0 t180 t183 t186 t189 bt193.1 ([] : List Int))) else (none)) else (none)) = some (r1, r2, r3) := by first | (rw [hji28] at H; exact H) | (simp only [hji28] at H ⊢; exact H)
             (try rw [hji28] at A21)
             (try rw [hji28] at A23)
             (try rw [hji28] at A25)
             (try rw [hji28] at A27)
             have hji28_ : (if ((rdOf ByteArray.empty t175 3).size : Int) < (wrap64 (t190 + 1)) then ((rdOf ByteArray.empty t175 3).size : Int) else (wrap64 (t190 + 1))) = ji28 := hji28
             by_cases c29 : 0 ≤ (ji28)
             ·rw [if_pos c29] at H
              have c29b0 := eq_true c29
              have c29b1 : decide (0 ≤ (ji28)) = true := decide_eq_true c29
              clear c29
              by_cases c30 : (ji28) ≤ ((rdOf ByteArray.empty t175 3).size : Int)
              ·rw [if_pos c30] at H
               have c30b0 := eq_true c30
               have c30b1 : decide ((ji28) ≤ ((rdOf ByteArray.empty t175 3).size : Int)) = true := decide_eq_true c30
               clear c30
               replace H := Option.bind_eq_some_iff.mp H
               obtain ⟨⟨t193, t194⟩, A310, H⟩ := H
               replace H : (rf_ReadBills.l1 k1 t165 x7_1 x8_1 t175 0 t180 t183 t186 t189 t193 ([] : List Int)) = some (r1, r2, r3) := H
               have A31 := Aside0.mk A310
               clear A310
               have H' := Aside0.mk H
               clear H
               have n0_ : Aside0 (Kd.R Kd.string 9 ((((((w16.setCell ⟨gb178, 0, none⟩ (.int .i64 0)).setCell ⟨gb178, 1, none⟩ (.int .i64 0)).setCell ⟨gb178, 2, none⟩ (.int .i64 0)).setCell ⟨gb178, 3, none⟩ (.int .i64 0)).setCell ⟨gb178, 4, none⟩ (.int .i64 0)).setCell ⟨gb178, 5, none⟩ (.slice none 0 0)) w.heap.size _ (.slice (some ad172) t165.length co13) t165) := ⟨(Kd.R_mono (Kd.R_far (p := ⟨gb178, 5, none⟩) (Kd.R_far (p := ⟨gb178, 4, none⟩) (Kd.R_far (p := ⟨gb178, 3, none⟩) (Kd.R_far (p := ⟨gb178, 2, none⟩) (Kd.R_far (p := ⟨gb178, 1, none⟩) (Kd.R_far (p := ⟨gb178, 0, none⟩) (Kd.R_types HO_5.out BK178.out (by decide)) (fun _ hk => hk.2) (.int .i64 0)) (fun _ hk => hk.2) (.int .i64 0)) (fun _ hk => hk.2) (.int .i64 0)) (fun _ hk => hk.2) (.int .i64 0)) (fun _ hk => hk.2) (.int .i64 0)) (fun _ hk => hk.2) (.slice none 0 0)) (fun _ hk => hk.1))⟩
               have n1_ : Aside0 (Kd.S k26 26 ((((((w16.setCell ⟨gb178, 0, none⟩ (.int .i64 0)).setCell ⟨gb178, 1, none⟩ (.int .i64 0)).setCell ⟨gb178, 2, none⟩ (.int .i64 0)).setCell ⟨gb178, 3, none⟩ (.int .i64 0)).setCell ⟨gb178, 4, none⟩ (.int .i64 0)).setCell ⟨gb178, 5, none⟩ (.slice none 0 0)) w.heap.size _ u7 x7_1) := ⟨(Kd.S_mono (Kd.S_far (p := ⟨gb178, 5, none⟩) (Kd.S_far (p := ⟨gb178, 4, none⟩) (Kd.S_far (p := ⟨gb178, 3, none⟩) (Kd.S_far (p := ⟨gb178, 2, none⟩) (Kd.S_far (p := ⟨gb178, 1, none⟩) (Kd.S_far (p := ⟨gb178, 0, none⟩) (Kd.S_mono HO_7.out (fun k_ hk => (⟨hk, hk.2⟩ : _ ∧ k_ ≠ gb178))) (fun _ hk => hk.2) (.int .i64 0)) (fun _ hk => hk.2) (.int .i64 0)) (fun _ hk => hk.2) (.int .i64 0)) (fun _ hk => hk.2) (.int .i64 0)) (fun _ hk => hk.2) (.int .i64 0)) (fun _ hk => hk.2) (.slice none 0 0)) (fun _ hk => hk.1))⟩
               have n2_ : Aside0 (Kd.R Kd.string 9 ((((((w16.setCell ⟨gb178, 0, none⟩ (.int .i64 0)).setCell ⟨gb178, 1, none⟩ (.int .i64 0)).setCell ⟨gb178, 2, none⟩ (.int .i64 0)).setCell ⟨gb178, 3, none⟩ (.int .i64 0)).setCell ⟨gb178, 4, none⟩ (.int .i64 0)).setCell ⟨gb178, 5, none⟩ (.slice none 0 0)) w.heap.size _ (.slice Ao18 t175.length co18) t175) := ⟨(Kd.R_mono (Kd.R_far (p := ⟨gb178, 5, none⟩) (Kd.R_far (p := ⟨gb178, 4, none⟩) (Kd.R_far (p := ⟨gb178, 3, none⟩) (Kd.R_far (p := ⟨gb178, 2, none⟩) (Kd.R_far (p := ⟨gb178, 1, none⟩) (Kd.R_far (p := ⟨gb178, 0, none⟩) (Kd.R_types HO177.out BK178.out (by decide)) (fun _ hk => hk.2) (.int .i64 0)) (fun _ hk => hk.2) (.int .i64 0)) (fun _ hk => hk.2) (.int .i64 0)) (fun _ hk => hk.2) (.int .i64 0)) (fun _ hk => hk.2) (.int .i64 0)) (fun _ hk => hk.2) (.slice none 0 0)) (fun _ hk => hk.1))⟩
               have n3_ : Aside0 (((((((w16.setCell ⟨gb178, 0, none⟩ (.int .i64 0)).setCell ⟨gb178, 1, none⟩ (.int .i64 0)).setCell ⟨gb178, 2, none⟩ (.int .i64 0)).setCell ⟨gb178, 3, none⟩ (.int .i64 0)).setCell ⟨gb178, 4, none⟩ (.int .i64 0)).setCell ⟨gb178, 5, none⟩ (.slice none 0 0)).heap[gb178]? = some (.cells #[.int .i64 0, .int .i64 0, .int .i64 0, .int .i64 0, .int .i64 0, .slice none 0 0] 26 (0, 0))) := ⟨by refine blk_put (cs := #[.int .i64 0, .int .i64 0, .int .i64 0, .int .i64 0, .int .i64 0, .slice none 0 0]) ?_ 5 _ rfl; refine blk_put (cs := #[.int .i64 0, .int .i64 0, .int .i64 0, .int .i64 0, .int .i64 0, .slice none 0 0]) ?_ 4 _ rfl; refine blk_put (cs := #[.int .i64 0, .int .i64 0, .int .i64 0, .int .i64 0, .int .i64 0, .slice none 0 0]) ?_ 3 _ rfl; refine blk_put (cs := #[.int .i64 0, .int .i64 0, .int .i64 0, .int .i64 0, .int .i64 0, .slice none 0 0]) ?_ 2 _ rfl; refine blk_put (cs := #[.int .i64 0, .int .i64 0, .int .i64 0, .int .i64 0, .int .i64 0, .slice none 0 0]) ?_ 1 _ rfl; refine blk_put (cs := #[.int .i64 0, .int .i64 0, .int .i64 0, .int .i64 0, .int .i64 0, .slice none 0 0]) ?_ 0 _ rfl; exact BK178.out⟩
               have n4_ : Aside0 (Below w.heap.size w ((((((w16.setCell ⟨gb178, 0, none⟩ (.int .i64 0)).setCell ⟨gb178, 1, none⟩ (.int .i64 0)).setCell ⟨gb178, 2, none⟩ (.int .i64 0)).setCell ⟨gb178, 3, none⟩ (.int .i64 0)).setCell ⟨gb178, 4, none⟩ (.int .i64 0)).setCell ⟨gb178, 5, none⟩ (.slice none 0 0))) := ⟨by repeat (first | (with_reducible first | exact HB.out | apply below_alloc | apply pw_below_drewN | apply below_drew1 | refine below_set ?_ GE178.out) | exact HB.out)⟩
               clear HO_5 HO_7 HO177 BK178 HB
               generalize ((((((w16.setCell ⟨gb178, 0, none⟩ (.int .i64 0)).setCell ⟨gb178, 1, none⟩ (.int .i64 0)).setCell ⟨gb178, 2, none⟩ (.int .i64 0)).setCell ⟨gb178, 3, none⟩ (.int .i64 0)).setCell ⟨gb178, 4, none⟩ (.int .i64 0)).setCell ⟨gb178, 5, none⟩ (.slice none 0 0)) = wA at n0_ n1_ n2_ n3_ n4_ ⊢
               have HO_5 := n0_
               have HO_7 := n1_
               have HO177 := n2_
               have BK178 := n3_
               have HB := n4_
               clear n0_ n1_ n2_ n3_ n4_
               have p179 : 0 ≤ (0 : Int) := (by omega)
               have q179 : 0 < (t175.length : Int) := of_decide_eq_true (by first | (with_reducible assumption) | assumption)
               obtain ⟨ad179, e179, hx179_0⟩ := Kd.at_string (Kd.R_reads' HO177.out).2.2 0 p179 q179
               cases e179
               have qi179 : (0 < t175.length) = True := eq_true (by omega)
               (try rw [show ((0 : Int)).toNat = 0 from rfl] at hx179_0)
               (try rw [Addr.add_zero'] at hx179_0)
               replace p179 := eq_true p179
               replace q179 := eq_true q179
               have hcz_0 : wA.cell? ⟨gb178, 0, none⟩ = some (.int .i64 0) := (blk_cell BK178.out 0).trans rfl
               have hcz_1 : wA.cell? ⟨gb178, 1, none⟩ = some (.int .i64 0) := (blk_cell BK178.out 1).trans rfl
               have hcz_2 : wA.cell? ⟨gb178, 2, none⟩ = some (.int .i64 0) := (blk_cell BK178.out 2).trans rfl
               have hcz_3 : wA.cell? ⟨gb178, 3, none⟩ = some (.int .i64 0) := (blk_cell BK178.out 3).trans rfl
               have hcz_4 : wA.cell? ⟨gb178, 4, none⟩ = some (.int .i64 0) := (blk_cell BK178.out 4).trans rfl
               have hcz_5 : wA.cell? ⟨gb178, 5, none⟩ = some (.slice none 0 0) := (blk_cell BK178.out 5).trans rfl
               have hfz_0 := blk_frozen BK178.out 0
               have hfz_1 := blk_frozen BK178.out 1
               have hfz_2 := blk_frozen BK178.out 2
               have hfz_3 := blk_frozen BK178.out 3
               have hfz_4 := blk_frozen BK178.out 4
               have hfz_5 := blk_frozen BK178.out 5
               go_upto_region 15 with ((with_reducible refine gate_callee (f := 31) rfl ?_); refine goesL_ (some 54) rfl rfl Tryz.func31 (by kernel_rfl) rfl #[.string (rdOf ByteArray.empty t175 0)] rfl (by (try simp only [List.map_toArray, List.map_cons, List.map_nil]); first | done | rfl | (simp only [List.length_drop, List.length_take]; rfl)) ?_; (with_reducible refine (rf_Digits.calls k1 (rdOf ByteArray.empty t175 0) t180 t181 _ A21.out).mono ?_); rintro e w' ⟨rfl, ⟨nd, rfl⟩⟩; refine ⟨_, rfl, ?_⟩)
               clear p179 q179 qi179 hx179_0 hcz_0 hfz_0 hcz_1 hfz_1 hcz_2 hfz_2 hcz_3 hfz_3 hcz_4 hfz_4 hcz_5 hfz_5
               have n0_ : Aside0 (Kd.R Kd.string 9 ((World.drewN wA nd).setCell ⟨gb178, 0, none⟩ (.int .i64 t180)) w.heap.size _ (.slice (some ad172) t165.length co13) t165) := ⟨(Kd.R_mono (Kd.R_far (p := ⟨gb178, 0, none⟩) (Kd.R_drewN (Kd.R_types HO_5.out BK178.out (by decide)) nd) (fun _ hk => hk.2) (.int .i64 t180)) (fun _ hk => hk.1))⟩
               have n1_ : Aside0 (Kd.S k26 26 ((World.drewN wA nd).setCell ⟨gb178, 0, none⟩ (.int .i64 t180)) w.heap.size _ u7 x7_1) := ⟨(Kd.S_mono (Kd.S_far (p := ⟨gb178, 0, none⟩) (Kd.S_drewN (Kd.S_mono HO_7.out (fun k_ hk => (⟨hk, hk.2⟩ : _ ∧ k_ ≠ gb178))) nd) (fun _ hk => hk.2) (.int .i64 t180)) (fun _ hk => hk.1))⟩
               have n2_ : Aside0 (Kd.R Kd.string 9 ((World.drewN wA nd).setCell ⟨gb178, 0, none⟩ (.int .i64 t180)) w.heap.size _ (.slice (some ad179) t175.length co18) t175) := ⟨(Kd.R_mono (Kd.R_far (p := ⟨gb178, 0, none⟩) (Kd.R_drewN (Kd.R_types HO177.out BK178.out (by decide)) nd) (fun _ hk => hk.2) (.int .i64 t180)) (fun _ hk => hk.1))⟩
               have n3_ : Aside0 (((World.drewN wA nd).setCell ⟨gb178, 0, none⟩ (.int .i64 t180)).heap[gb178]? = some (.cells #[.int .i64 t180, .int .i64 0, .int .i64 0, .int .i64 0, .int .i64 0, .slice none 0 0] 26 (0, 0))) := ⟨by refine blk_put (cs := #[.int .i64 0, .int .i64 0, .int .i64 0, .int .i64 0, .int .i64 0, .slice none 0 0]) ?_ 0 _ rfl; refine blk_drewN ?_ _; exact BK178.out⟩
               have n4_ : Aside0 (Below w.heap.size w ((World.drewN wA nd).setCell ⟨gb178, 0, none⟩ (.int .i64 t180))) := ⟨by repeat (first | (with_reducible first | exact HB.out | apply below_alloc | apply pw_below_drewN | apply below_drew1 | refine below_set ?_ GE178.out) | exact HB.out)⟩
               clear HO_5 HO_7 HO177 BK178 HB
               generalize ((World.drewN wA nd).setCell ⟨gb178, 0, none⟩ (.int .i64 t180)) = wB at n0_ n1_ n2_ n3_ n4_ ⊢
               have HO_5 := n0_
               have HO_7 := n1_
               have HO177 := n2_
               have BK178 := n3_
               have HB := n4_
               clear n0_ n1_ n2_ n3_ n4_
               have p179 : 0 ≤ (1 : Int) := (by omega)
               have q179 : 1 < (t175.length : Int) := of_decide_eq_true (by first | (with_reducible assumption) | assumption)
               obtain ⟨ad182, e182, hx179_0⟩ := Kd.at_string (Kd.R_reads' HO177.out).2.2 1 p179 q179
               obtain rfl : ad179 = ad182 := (by injection e182)
               (try simp only [show (1 : Int).toNat = 1 from rfl, Nat.reduceMul, Nat.reduceEqDiff, Go.Addr.add, ↓reduceIte] at hx179_0)
               have qi179 : (1 < t175.length) = True := eq_true (by omega)
               (try rw [show ((1 : Int)).toNat = 1 from rfl] at hx179_0)
               replace p179 := eq_true p179
               replace q179 := eq_true q179
               have hcz_0 : wB.cell? ⟨gb178, 0, none⟩ = some (.int .i64 t180) := (blk_cell BK178.out 0).trans rfl
               have hcz_1 : wB.cell? ⟨gb178, 1, none⟩ = some (.int .i64 0) := (blk_cell BK178.out 1).trans rfl
               have hcz_2 : wB.cell? ⟨gb178, 2, none⟩ = some (.int .i64 0) := (blk_cell BK178.out 2).trans rfl
               have hcz_3 : wB.cell? ⟨gb178, 3, none⟩ = some (.int .i64 0) := (blk_cell BK178.out 3).trans rfl
               have hcz_4 : wB.cell? ⟨gb178, 4, none⟩ = some (.int .i64 0) := (blk_cell BK178.out 4).trans rfl
               have hcz_5 : wB.cell? ⟨gb178, 5, none⟩ = some (.slice none 0 0) := (blk_cell BK178.out 5).trans rfl
               have hfz_0 := blk_frozen BK178.out 0
               have hfz_1 := blk_frozen BK178.out 1
               have hfz_2 := blk_frozen BK178.out 2
               have hfz_3 := blk_frozen BK178.out 3
               have hfz_4 := blk_frozen BK178.out 4
               have hfz_5 := blk_frozen BK178.out 5
               go_upto_region 16 with ((with_reducible refine gate_callee (f := 31) rfl ?_); refine goesL_ (some 62) rfl rfl Tryz.func31 (by kernel_rfl) rfl #[.string (rdOf ByteArray.empty t175 1)] rfl (by (try simp only [List.map_toArray, List.map_cons, List.map_nil]); first | done | rfl | (simp only [List.length_drop, List.length_take]; rfl)) ?_; (with_reducible refine (rf_Digits.calls k1 (rdOf ByteArray.empty t175 1) t183 t184 _ A23.out).mono ?_); rintro e w' ⟨rfl, ⟨nd, rfl⟩⟩; refine ⟨_, rfl, ?_⟩)
               clear p179 q179 qi179 hx179_0 hcz_0 hfz_0 hcz_1 hfz_1 hcz_2 hfz_2 hcz_3 hfz_3 hcz_4 hfz_4 hcz_5 hfz_5
               have n0_ : Aside0 (Kd.R Kd.string 9 ((World.drewN wB nd).setCell ⟨gb178, 1, none⟩ (.int .i64 t183)) w.heap.size _ (.slice (some ad172) t165.length co13) t165) := ⟨(Kd.R_mono (Kd.R_far (p := ⟨gb178, 1, none⟩) (Kd.R_drewN (Kd.R_types HO_5.out BK178.out (by decide)) nd) (fun _ hk => hk.2) (.int .i64 t183)) (fun _ hk => hk.1))⟩
               have n1_ : Aside0 (Kd.S k26 26 ((World.drewN wB nd).setCell ⟨gb178, 1, none⟩ (.int .i64 t183)) w.heap.size _ u7 x7_1) := ⟨(Kd.S_mono (Kd.S_far (p := ⟨gb178, 1, none⟩) (Kd.S_drewN (Kd.S_mono HO_7.out (fun k_ hk => (⟨hk, hk.2⟩ : _ ∧ k_ ≠ gb178))) nd) (fun _ hk => hk.2) (.int .i64 t183)) (fun _ hk => hk.1))⟩
               have n2_ : Aside0 (Kd.R Kd.string 9 ((World.drewN wB nd).setCell ⟨gb178, 1, none⟩ (.int .i64 t183)) w.heap.size _ (.slice (some ad179) t175.length co18) t175) := ⟨(Kd.R_mono (Kd.R_far (p := ⟨gb178, 1, none⟩) (Kd.R_drewN (Kd.R_types HO177.out BK178.out (by decide)) nd) (fun _ hk => hk.2) (.int .i64 t183)) (fun _ hk => hk.1))⟩
               have n3_ : Aside0 (((World.drewN wB nd).setCell ⟨gb178, 1, none⟩ (.int .i64 t183)).heap[gb178]? = some (.cells #[.int .i64 t180, .int .i64 t183, .int .i64 0, .int .i64 0, .int .i64 0, .slice none 0 0] 26 (0, 0))) := ⟨by refine blk_put (cs := #[.int .i64 t180, .int .i64 0, .int .i64 0, .int .i64 0, .int .i64 0, .slice none 0 0]) ?_ 1 _ rfl; refine blk_drewN ?_ _; exact BK178.out⟩
               have n4_ : Aside0 (Below w.heap.size w ((World.drewN wB nd).setCell ⟨gb178, 1, none⟩ (.int .i64 t183))) := ⟨by repeat (first | (with_reducible first | exact HB.out | apply below_alloc | apply pw_below_drewN | apply below_drew1 | refine below_set ?_ GE178.out) | exact HB.out)⟩
               clear HO_5 HO_7 HO177 BK178 HB
               generalize ((World.drewN wB nd).setCell ⟨gb178, 1, none⟩ (.int .i64 t183)) = wC at n0_ n1_ n2_ n3_ n4_ ⊢
               have HO_5 := n0_
               have HO_7 := n1_
               have HO177 := n2_
               have BK178 := n3_
               have HB := n4_
               clear n0_ n1_ n2_ n3_ n4_
               have p179 : 0 ≤ (2 : Int) := (by omega)
               have q179 : 2 < (t175.length : Int) := of_decide_eq_true (by first | (with_reducible assumption) | assumption)
               obtain ⟨ad182, e182, hx179_0⟩ := Kd.at_string (Kd.R_reads' HO177.out).2.2 2 p179 q179
               obtain rfl : ad179 = ad182 := (by injection e182)
               (try simp only [show (2 : Int).toNat = 2 from rfl, Nat.reduceMul, Nat.reduceEqDiff, Go.Addr.add, ↓reduceIte] at hx179_0)
               have qi179 : (2 < t175.length) = True := eq_true (by omega)
               (try rw [show ((2 : Int)).toNat = 2 from rfl] at hx179_0)
               replace p179 := eq_true p179
               replace q179 := eq_true q179
               have hcz_0 : wC.cell? ⟨gb178, 0, none⟩ = some (.int .i64 t180) := (blk_cell BK178.out 0).trans rfl
               have hcz_1 : wC.cell? ⟨gb178, 1, none⟩ = some (.int .i64 t183) := (blk_cell BK178.out 1).trans rfl
               have hcz_2 : wC.cell? ⟨gb178, 2, none⟩ = some (.int .i64 0) := (blk_cell BK178.out 2).trans rfl
               have hcz_3 : wC.cell? ⟨gb178, 3, none⟩ = some (.int .i64 0) := (blk_cell BK178.out 3).trans rfl
               have hcz_4 : wC.cell? ⟨gb178, 4, none⟩ = some (.int .i64 0) := (blk_cell BK178.out 4).trans rfl
               have hcz_5 : wC.cell? ⟨gb178, 5, none⟩ = some (.slice none 0 0) := (blk_cell BK178.out 5).trans rfl
               have hfz_0 := blk_frozen BK178.out 0
               have hfz_1 := blk_frozen BK178.out 1
               have hfz_2 := blk_frozen BK178.out 2
               have hfz_3 := blk_frozen BK178.out 3
               have hfz_4 := blk_frozen BK178.out 4
               have hfz_5 := blk_frozen BK178.out 5
               go_upto_region 17 with ((with_reducible refine gate_callee (f := 31) rfl ?_); refine goesL_ (some 70) rfl rfl Tryz.func31 (by kernel_rfl) rfl #[.string (rdOf ByteArray.empty t175 2)] rfl (by (try simp only [List.map_toArray, List.map_cons, List.map_nil]); first | done | rfl | (simp only [List.length_drop, List.length_take]; rfl)) ?_; (with_reducible refine (rf_Digits.calls k1 (rdOf ByteArray.empty t175 2) t186 t187 _ A25.out).mono ?_); rintro e w' ⟨rfl, ⟨nd, rfl⟩⟩; refine ⟨_, rfl, ?_⟩)
               clear p179 q179 qi179 hx179_0 hcz_0 hfz_0 hcz_1 hfz_1 hcz_2 hfz_2 hcz_3 hfz_3 hcz_4 hfz_4 hcz_5 hfz_5
               have n0_ : Aside0 (Kd.R Kd.string 9 ((World.drewN wC nd).setCell ⟨gb178, 2, none⟩ (.int .i64 t186)) w.heap.size _ (.slice (some ad172) t165.length co13) t165) := ⟨(Kd.R_mono (Kd.R_far (p := ⟨gb178, 2, none⟩) (Kd.R_drewN (Kd.R_types HO_5.out BK178.out (by decide)) nd) (fun _ hk => hk.2) (.int .i64 t186)) (fun _ hk => hk.1))⟩
               have n1_ : Aside0 (Kd.S k26 26 ((World.drewN wC nd).setCell ⟨gb178, 2, none⟩ (.int .i64 t186)) w.heap.size _ u7 x7_1) := ⟨(Kd.S_mono (Kd.S_far (p := ⟨gb178, 2, none⟩) (Kd.S_drewN (Kd.S_mono HO_7.out (fun k_ hk => (⟨hk, hk.2⟩ : _ ∧ k_ ≠ gb178))) nd) (fun _ hk => hk.2) (.int .i64 t186)) (fun _ hk => hk.1))⟩
               have n2_ : Aside0 (Kd.R Kd.string 9 ((World.drewN wC nd).setCell ⟨gb178, 2, none⟩ (.int .i64 t186)) w.heap.size _ (.slice (some ad179) t175.length co18) t175) := ⟨(Kd.R_mono (Kd.R_far (p := ⟨gb178, 2, none⟩) (Kd.R_drewN (Kd.R_types HO177.out BK178.out (by decide)) nd) (fun _ hk => hk.2) (.int .i64 t186)) (fun _ hk => hk.1))⟩
               have n3_ : Aside0 (((World.drewN wC nd).setCell ⟨gb178, 2, none⟩ (.int .i64 t186)).heap[gb178]? = some (.cells #[.int .i64 t180, .int .i64 t183, .int .i64 t186, .int .i64 0, .int .i64 0, .slice none 0 0] 26 (0, 0))) := ⟨by refine blk_put (cs := #[.int .i64 t180, .int .i64 t183, .int .i64 0, .int .i64 0, .int .i64 0, .slice none 0 0]) ?_ 2 _ rfl; refine blk_drewN ?_ _; exact BK178.out⟩
               have n4_ : Aside0 (Below w.heap.size w ((World.drewN wC nd).setCell ⟨gb178, 2, none⟩ (.int .i64 t186))) := ⟨by repeat (first | (with_reducible first | exact HB.out | apply below_alloc | apply pw_below_drewN | apply below_drew1 | refine below_set ?_ GE178.out) | exact HB.out)⟩
               clear HO_5 HO_7 HO177 BK178 HB
               generalize ((World.drewN wC nd).setCell ⟨gb178, 2, none⟩ (.int .i64 t186)) = wD at n0_ n1_ n2_ n3_ n4_ ⊢
               have HO_5 := n0_
               have HO_7 := n1_
               have HO177 := n2_
               have BK178 := n3_
               have HB := n4_
               clear n0_ n1_ n2_ n3_ n4_
               have p179 : 0 ≤ (3 : Int) := (by omega)
               have q179 : 3 < (t175.length : Int) := of_decide_eq_true (by first | (with_reducible assumption) | assumption)
               obtain ⟨ad182, e182, hx179_0⟩ := Kd.at_string (Kd.R_reads' HO177.out).2.2 3 p179 q179
               obtain rfl : ad179 = ad182 := (by injection e182)
               (try simp only [show (3 : Int).toNat = 3 from rfl, Nat.reduceMul, Nat.reduceEqDiff, Go.Addr.add, ↓reduceIte] at hx179_0)
               have qi179 : (3 < t175.length) = True := eq_true (by omega)
               (try rw [show ((3 : Int)).toNat = 3 from rfl] at hx179_0)
               replace p179 := eq_true p179
               replace q179 := eq_true q179
               have hcz_0 : wD.cell? ⟨gb178, 0, none⟩ = some (.int .i64 t180) := (blk_cell BK178.out 0).trans rfl
               have hcz_1 : wD.cell? ⟨gb178, 1, none⟩ = some (.int .i64 t183) := (blk_cell BK178.out 1).trans rfl
               have hcz_2 : wD.cell? ⟨gb178, 2, none⟩ = some (.int .i64 t186) := (blk_cell BK178.out 2).trans rfl
               have hcz_3 : wD.cell? ⟨gb178, 3, none⟩ = some (.int .i64 0) := (blk_cell BK178.out 3).trans rfl
               have hcz_4 : wD.cell? ⟨gb178, 4, none⟩ = some (.int .i64 0) := (blk_cell BK178.out 4).trans rfl
               have hcz_5 : wD.cell? ⟨gb178, 5, none⟩ = some (.slice none 0 0) := (blk_cell BK178.out 5).trans rfl
               have hfz_0 := blk_frozen BK178.out 0
               have hfz_1 := blk_frozen BK178.out 1
               have hfz_2 := blk_frozen BK178.out 2
               have hfz_3 := blk_frozen BK178.out 3
               have hfz_4 := blk_frozen BK178.out 4
               have hfz_5 := blk_frozen BK178.out 5
               go_upto_region 19 with ((with_reducible refine gate_callee (f := 31) rfl ?_); refine goesL_ (some 78) rfl rfl Tryz.func31 (by kernel_rfl) rfl #[.string (rdOf ByteArray.empty t175 3)] rfl (by (try simp only [List.map_toArray, List.map_cons, List.map_nil]); first | done | rfl | (simp only [List.length_drop, List.length_take]; rfl)) ?_; (with_reducible refine (rf_Digits.calls k1 (rdOf ByteArray.empty t175 3) t189 t190 _ A27.out).mono ?_); rintro e w' ⟨rfl, ⟨nd, rfl⟩⟩; refine ⟨_, rfl, ?_⟩)
               clear p179 q179 qi179 hx179_0 hcz_0 hfz_0 hcz_1 hfz_1 hcz_2 hfz_2 hcz_3 hfz_3 hcz_4 hfz_4 hcz_5 hfz_5
               have n0_ : Aside0 (Kd.R Kd.string 9 ((World.drewN wD nd).setCell ⟨gb178, 3, none⟩ (.int .i64 t189)) w.heap.size _ (.slice (some ad172) t165.length co13) t165) := ⟨(Kd.R_mono (Kd.R_far (p := ⟨gb178, 3, none⟩) (Kd.R_drewN (Kd.R_types HO_5.out BK178.out (by decide)) nd) (fun _ hk => hk.2) (.int .i64 t189)) (fun _ hk => hk.1))⟩
               have n1_ : Aside0 (Kd.S k26 26 ((World.drewN wD nd).setCell ⟨gb178, 3, none⟩ (.int .i64 t189)) w.heap.size _ u7 x7_1) := ⟨(Kd.S_mono (Kd.S_far (p := ⟨gb178, 3, none⟩) (Kd.S_drewN (Kd.S_mono HO_7.out (fun k_ hk => (⟨hk, hk.2⟩ : _ ∧ k_ ≠ gb178))) nd) (fun _ hk => hk.2) (.int .i64 t189)) (fun _ hk => hk.1))⟩
               have n2_ : Aside0 (Kd.R Kd.string 9 ((World.drewN wD nd).setCell ⟨gb178, 3, none⟩ (.int .i64 t189)) w.heap.size _ (.slice (some ad179) t175.length co18) t175) := ⟨(Kd.R_mono (Kd.R_far (p := ⟨gb178, 3, none⟩) (Kd.R_drewN (Kd.R_types HO177.out BK178.out (by decide)) nd) (fun _ hk => hk.2) (.int .i64 t189)) (fun _ hk => hk.1))⟩
               have n3_ : Aside0 (((World.drewN wD nd).setCell ⟨gb178, 3, none⟩ (.int .i64 t189)).heap[gb178]? = some (.cells #[.int .i64 t180, .int .i64 t183, .int .i64 t186, .int .i64 t189, .int .i64 0, .slice none 0 0] 26 (0, 0))) := ⟨by refine blk_put (cs := #[.int .i64 t180, .int .i64 t183, .int .i64 t186, .int .i64 0, .int .i64 0, .slice none 0 0]) ?_ 3 _ rfl; refine blk_drewN ?_ _; exact BK178.out⟩
               have n4_ : Aside0 (Below w.heap.size w ((World.drewN wD nd).setCell ⟨gb178, 3, none⟩ (.int .i64 t189))) := ⟨by repeat (first | (with_reducible first | exact HB.out | apply below_alloc | apply pw_below_drewN | apply below_drew1 | refine below_set ?_ GE178.out) | exact HB.out)⟩
               clear HO_5 HO_7 HO177 BK178 HB
               generalize ((World.drewN wD nd).setCell ⟨gb178, 3, none⟩ (.int .i64 t189)) = w33 at n0_ n1_ n2_ n3_ n4_ ⊢
               have HO_5 := n0_
               have HO_7 := n1_
               have HO177 := n2_
               have BK178 := n3_
               have HB := n4_
               clear n0_ n1_ n2_ n3_ n4_
               have n0_ := Aside0.mk (Kd.R_mono HO_5.out (fun _ hk => hk.2))
               have n1_ := Aside0.mk (Kd.S_mono HO_7.out (fun _ hk => hk.2))
               have n2_ := Aside0.mk (Kd.R_mono HO177.out (fun _ hk => hk.2))
               clear HO_5 HO_7 HO177
               have HO_5 := n0_
               have HO_7 := n1_
               have HO177 := n2_
               clear n0_ n1_ n2_
               have n0_ := Aside0.mk (Kd.R_drew HO_5.out)
               have n1_ := Aside0.mk (Kd.S_drew HO_7.out)
               have n2_ := Aside0.mk (Kd.R_drew HO177.out)
               have n3_ := Aside0.mk (blk_drew BK178.out)
               have n4_ := Aside0.mk (below_drew1 HB.out)
               clear HO_5
               clear HO_7
               clear HO177
               clear BK178
               clear HB
               have HO_5 := n0_
               have HO_7 := n1_
               have HO177 := n2_
               have BK178 := n3_
               have HB := n4_
               clear n0_ n1_ n2_ n3_ n4_
               have p191 : 0 ≤ (3 : Int) := (by omega)
               have q191 : 3 < (t175.length : Int) := of_decide_eq_true (by first | (with_reducible assumption) | assumption)
               obtain ⟨ad191, e191, hx191_0⟩ := Kd.at_string (Kd.R_reads' HO177.out).2.2 3 p191 q191
               obtain rfl : ad179 = ad191 := (by injection e191)
               (try simp only [show (3 : Int).toNat = 3 from rfl, Nat.reduceMul, Nat.reduceEqDiff, Go.Addr.add, ↓reduceIte] at hx191_0)
               have qi191 : (3 < t175.length) = True := eq_true (by omega)
               (try rw [show ((3 : Int)).toNat = 3 from rfl] at hx191_0)
               replace p191 := eq_true p191
               replace q191 := eq_true q191
               have p192 : 0 ≤ (3 : Int) := (by omega)
               have q192 : 3 < (t175.length : Int) := of_decide_eq_true (by first | (with_reducible assumption) | assumption)
               obtain ⟨ad192, e192, hx192_0⟩ := Kd.at_string (Kd.R_reads' HO177.out).2.2 3 p192 q192
               obtain rfl : ad179 = ad192 := (by injection e192)
               (try simp only [show (3 : Int).toNat = 3 from rfl, Nat.reduceMul, Nat.reduceEqDiff, Go.Addr.add, ↓reduceIte] at hx192_0)
               have qi192 : (3 < t175.length) = True := eq_true (by omega)
               (try rw [show ((3 : Int)).toNat = 3 from rfl] at hx192_0)
               replace p192 := eq_true p192
               replace q192 := eq_true q192
               refine start_ (n := 17) (S := fun w' => w'.cell? ⟨ad179.block, ad179.off + 3, none⟩ = some (.string (rdOf ByteArray.empty t175 3)) ∧ w'.cell? ⟨ad179.block, ad179.off + 3, none⟩ = some (.string (rdOf ByteArray.empty t175 3))) (ds := []) #[false, false, false, false, false, false, false, false, false, false, false, false, false, false, false, false, false] (by kernel_rfl) rfl rfl ⟨hx191_0, hx192_0⟩ (fun hHeld => ?_); refine with_tabW rf_ReadBills.tab19 rf_ReadBills.bits19 (fun HT_ HW_ => ?_)
               generalize w33.drew = w34 at HO_5 HO_7 HO177 BK178 HB hx191_0 hx192_0 hHeld ⊢
               refine pure_ (i := 0) (N := some 84) (v := ?_) (a' := ?_) #[true, false, false, false, false, false, false, false, false, false, false, false, false, false, false, false, false] rfl rfl (any_of HT_.out (by kernel_rfl)) (fun _ _ _ h => h) (Or.inl ⟨by rfl, ?_⟩) ?_ ?_
               rotate_left
               ·intro w'
                go_simp
                with_reducible rfl
               rotate_left
               ·simp only [Act.put, xsA, xsZ, xsS, i64_w, i32_w]
                rfl
               refine pure_ (i := 1) (N := some 85) (v := ?_) (a' := ?_) #[true, true, false, false, false, false, false, false, false, false, false, false, false, false, false, false, false] rfl rfl (any_of HT_.out (by kernel_rfl)) (fun _ _ _ h => h) (Or.inl ⟨by rfl, ?_⟩) ?_ ?_
               rotate_left
               ·intro w'
                go_simp
                with_reducible rfl
               rotate_left
               ·simp only [Act.put, xsA, xsZ, xsS, i64_w, i32_w]
                rfl
               refine pure_ (i := 3) (N := some 87) (v := ?_) (a' := ?_) #[true, true, false, true, false, false, false, false, false, false, false, false, false, false, false, false, false] rfl rfl (any_of HT_.out (by kernel_rfl)) (fun _ _ _ h => h) (Or.inl ⟨by rfl, ?_⟩) ?_ ?_
               rotate_left
               ·intro w'
                go_simp
                with_reducible rfl
               rotate_left
               ·simp only [Act.put, xsA, xsZ, xsS, i64_w, i32_w]
                rfl
               refine pure_ (i := 4) (N := some 88) (v := ?_) (a' := ?_) #[true, true, false, true, true, false, false, false, false, false, false, false, false, false, false, false, false] rfl rfl (any_of HT_.out (by kernel_rfl)) (fun _ _ _ h => h) (Or.inl ⟨by rfl, ?_⟩) ?_ ?_
               rotate_left
               ·intro w'
                go_simp
                with_reducible rfl
               rotate_left
               ·simp only [Act.put, xsA, xsZ, xsS, i64_w, i32_w]
                rfl
               refine pure_ (i := 5) (N := some 89) (v := ?_) (a' := ?_) #[true, true, false, true, true, true, false, false, false, false, false, false, false, false, false, false, false] rfl rfl (any_of HT_.out (by kernel_rfl)) (fun _ _ _ h => h) (Or.inl ⟨by rfl, ?_⟩) ?_ ?_
               rotate_left
               ·intro w'
                go_simp
                with_reducible rfl
               rotate_left
               ·simp only [Act.put, xsA, xsZ, xsS, i64_w, i32_w]
                rfl
               refine pure_ (i := 6) (N := some 90) (v := ?_) (a' := ?_) #[true, true, false, true, true, true, true, false, false, false, false, false, false, false, false, false, false] rfl rfl (any_of HT_.out (by kernel_rfl)) (fun _ _ _ h => h) (Or.inl ⟨by rfl, ?_⟩) ?_ ?_
               rotate_left
               ·intro w'
                go_simp
                with_reducible rfl
               rotate_left
               ·simp only [Act.put, xsA, xsZ, xsS, i64_w, i32_w]
                rfl
               refine take_ (i := 2) (N := some 86) (v := ?_) (a' := ?_) #[true, true, true, true, true, true, true, false, false, false, false, false, false, false, false, false, false] rfl rfl (take_ofW HT_.out HW_.out (by kernel_rfl)) (fun _ _ _ h => h) (Or.inl ⟨by rfl, ?_⟩) hHeld ?_ ?_
               rotate_left
               ·rintro w' ⟨s0, s1⟩
                go_simp
                with_reducible rfl
               rotate_left
               ·simp only [Act.put, xsA, xsZ, xsS, i64_w, i32_w]
                rfl
               refine take_ (i := 7) (N := some 91) (v := ?_) (a' := ?_) #[true, true, true, true, true, true, true, true, false, false, false, false, false, false, false, false, false] rfl rfl (take_ofW HT_.out HW_.out (by kernel_rfl)) (fun _ _ _ h => h) (Or.inl ⟨by rfl, ?_⟩) hHeld ?_ ?_
               rotate_left
               ·rintro w' ⟨s0, s1⟩
                go_simp
                with_reducible rfl
               rotate_left
               ·simp only [Act.put, xsA, xsZ, xsS, i64_w, i32_w]
                rfl
               refine pure_ (i := 8) (N := some 92) (v := ?_) (a' := ?_) #[true, true, true, true, true, true, true, true, true, false, false, false, false, false, false, false, false] rfl rfl (any_of HT_.out (by kernel_rfl)) (fun _ _ _ h => h) (Or.inl ⟨by rfl, ?_⟩) ?_ ?_
               rotate_left
               ·intro w'
                go_simp
                with_reducible rfl
               rotate_left
               ·simp only [Act.put, xsA, xsZ, xsS, i64_w, i32_w]
                rfl
               refine pure_ (i := 9) (N := some 93) (v := ?_) (a' := ?_) #[true, true, true, true, true, true, true, true, true, true, false, false, false, false, false, false, false] rfl rfl (any_of HT_.out (by kernel_rfl)) (fun _ _ _ h => h) (Or.inl ⟨by rfl, ?_⟩) ?_ ?_
               rotate_left
               ·intro w'
                go_simp
                with_reducible rfl
               rotate_left
               ·simp only [Act.put, xsA, xsZ, xsS, i64_w, i32_w]
                rfl
               refine pure_ (i := 10) (N := some 94) (v := ?_) (a' := ?_) #[true, true, true, true, true, true, true, true, true, true, true, false, false, false, false, false, false] rfl rfl (any_of HT_.out (by kernel_rfl)) (fun _ _ _ h => h) (Or.inl ⟨by rfl, ?_⟩) ?_ ?_
               rotate_left
               ·intro w'
                go_simp
                with_reducible rfl
               rotate_left
               ·simp only [Act.put, xsA, xsZ, xsS, i64_w, i32_w]
                rfl
               refine one_ (i := 11) (N := some 95) #[true, true, true, true, true, true, true, true, true, true, true, true, false, false, false, false, false] rfl rfl (one_of HT_.out (by kernel_rfl)) (by decide) (fun K hK => ?_)
               refine goes_ Tryz.func31 (by kernel_rfl) rfl #[.string ((rdOf ByteArray.empty t175 3).extract ((ji28) : Int).toNat (rdOf ByteArray.empty t175 3).size)] (by rfl) rfl rfl (by (try simp only [List.map_toArray, List.map_cons, List.map_nil]); first | done | (simp only [hji28]; rfl) | rfl | (simp only [List.length_drop, List.length_take]; rfl)) ?_
               with_reducible refine (rf_Digits.calls k1 ((rdOf ByteArray.empty t175 3).extract ((ji28) : Int).toNat (rdOf ByteArray.empty t175 3).size) t193 t194 _ A31.out).mono ?_
               rintro e w' ⟨rfl, ⟨nd, rfl⟩⟩
               refine ⟨_, rfl, ?_⟩
               refine hK.out _ _ ⟨hHeld.1, hHeld.2⟩ (fun hHeld => ?_)
               clear hK K
               refine norm_ (a' := ?_) ?_ ?_
               rotate_left
               ·show Act.put _ (some 95) _ = _
                simp only [Act.put, xsA, xsZ, xsS, i64_w, i32_w]
                rfl
               refine pure_ (i := 12) (N := some 83) (v := ?_) (a' := ?_) #[true, true, true, true, true, true, true, true, true, true, true, true, true, false, false, false, false] rfl rfl (any_of HT_.out (by kernel_rfl)) (fun _ _ _ h => h) (Or.inl ⟨by rfl, ?_⟩) ?_ ?_
               rotate_left
               ·intro w'
                go_simp
                with_reducible rfl
               rotate_left
               ·simp only [Act.put, xsA, xsZ, xsS, i64_w, i32_w]
                rfl
               refine pure_ (i := 13) (N := some 96) (v := ?_) (a' := ?_) #[true, true, true, true, true, true, true, true, true, true, true, true, true, true, false, false, false] rfl rfl (any_of HT_.out (by kernel_rfl)) (fun _ _ _ h => h) (Or.inl ⟨by rfl, ?_⟩) ?_ ?_
               rotate_left
               ·intro w'
                go_simp
                with_reducible rfl
               rotate_left
               ·simp only [Act.put, xsA, xsZ, xsS, i64_w, i32_w]
                rfl
               refine pure_ (i := 14) (N := some 97) (v := ?_) (a' := ?_) #[true, true, true, true, true, true, true, true, true, true, true, true, true, true, true, false, false] rfl rfl (any_of HT_.out (by kernel_rfl)) (fun _ _ _ h => h) (Or.inl ⟨by rfl, ?_⟩) ?_ ?_
               rotate_left
               ·intro w'
                go_simp
                with_reducible rfl
               rotate_left
               ·simp only [Act.put, xsA, xsZ, xsS, i64_w, i32_w]
                rfl
               refine pure_ (i := 15) (N := some 98) (v := ?_) (a' := ?_) #[true, true, true, true, true, true, true, true, true, true, true, true, true, true, true, true, false] rfl rfl (any_of HT_.out (by kernel_rfl)) (fun _ _ _ h => h) (Or.inl ⟨by rfl, ?_⟩) ?_ ?_
               rotate_left
               ·intro w'
                go_simp
                with_reducible rfl
               rotate_left
               ·simp only [Act.put, xsA, xsZ, xsS, i64_w, i32_w]
                rfl
               refine one_ (i := 16) (N := none) #[true, true, true, true, true, true, true, true, true, true, true, true, true, true, true, true, true] rfl rfl (one_of HT_.out (by kernel_rfl)) (by decide) (fun K hK => ?_)
               have hs35 : w34.cell? ⟨gb178, 4, none⟩ = some (.int .i64 0) := (blk_cell BK178.out 4).trans rfl
               have hfs35 := blk_frozen BK178.out 4
               refine skip_ (w1 := ?_) (by rfl) rfl ?_ ?_
               rotate_left
               ·go_simp
                rfl
               refine hK.out _ _ ⟨((cell_far (p := ⟨gb178, _, none⟩) (by first | exact Kd.own_blk (Kd.R_ne HO177.out BK178.out (by decide)) | (rw [add_block]; exact Kd.own_blk (Kd.R_ne HO177.out BK178.out (by decide))) | (show (Addr.add _ _).block ≠ _; rw [add_block]; exact Kd.own_blk (Kd.R_ne HO177.out BK178.out (by decide))) | (dsimp only; exact Kd.own_blk (Kd.R_ne HO177.out BK178.out (by decide)))) _).trans (hHeld.1)), ((cell_far (p := ⟨gb178, _, none⟩) (by first | exact Kd.own_blk (Kd.R_ne HO177.out BK178.out (by decide)) | (rw [add_block]; exact Kd.own_blk (Kd.R_ne HO177.out BK178.out (by decide))) | (show (Addr.add _ _).block ≠ _; rw [add_block]; exact Kd.own_blk (Kd.R_ne HO177.out BK178.out (by decide))) | (dsimp only; exact Kd.own_blk (Kd.R_ne HO177.out BK178.out (by decide)))) _).trans (hHeld.2))⟩ (fun hHeld => ?_)
               clear hK K
               refine done_ (done_of HT_.out (by kernel_rfl)) ?_
               try go_wp2
               go_loopg [14] k1 (fun kq v14 w' => ∃ (x14_2 : Int) (x179005_2 : List Int) (u179005 : Value), v14 = .int .i64 x14_2 ∧ Aside0 (rf_ReadBills.l1 kq t165 x7_1 x8_1 t175 x14_2 t180 t183 t186 t189 t193 x179005_2 = some (r1, r2, r3)) ∧ Aside0 (kq ≤ k1) ∧ Aside0 (Kd.R Kd.string 9 w' w.heap.size (fun k_ => some k_ ≠ ((.slice (some ad179) t175.length co18) : Value).ownBlock) (.slice (some ad172) t165.length co13) t165) ∧ Aside0 (Kd.S k26 26 w' w.heap.size (fun k_ => some k_ ≠ (u179005 : Value).ownBlock ∧ k_ ≠ gb178) u7 x7_1) ∧ Aside0 (Kd.R Kd.string 9 w' w.heap.size (fun k_ => some k_ ≠ ((.slice (some ad172) t165.length co13) : Value).ownBlock) (.slice (some ad179) t175.length co18) t175) ∧ Aside0 (Kd.R (Kd.int .i64) 3 w' w.heap.size (fun _ => True) u179005 x179005_2) ∧ Aside0 (w'.heap[gb178]? = some (.cells #[.int .i64 t180, .int .i64 t183, .int .i64 t186, .int .i64 t189, .int .i64 t193, u179005] 26 (0, 0))) ∧ Aside0 (Below w.heap.size w w'))
               case atStart => exact ⟨(0), (([] : List Int)), (.slice none 0 0), (by first | rfl | (simp; done) | (simp [*]; done)), H', ⟨Nat.le_refl _⟩, ⟨by (with_reducible repeat (first | apply Kd.R_alloc | apply Kd.R_drewN | apply Kd.R_drew)); exact Kd.R_mono (Kd.R_far (p := ⟨gb178, 4, none⟩) (Kd.R_types HO_5.out BK178.out (by decide)) (fun _ hk => hk.2) (.int .i64 t193)) (fun _ hk => hk.1)⟩, ⟨by (with_reducible repeat (first | apply Kd.S_alloc | apply Kd.S_drewN | apply Kd.S_drew)); exact Kd.S_mono (Kd.S_far (p := ⟨gb178, 4, none⟩) (Kd.S_mono HO_7.out (fun k_ hk => (⟨hk, hk⟩ : _ ∧ k_ ≠ gb178))) (fun _ hk => hk.2) (.int .i64 t193)) (fun _ hk => ⟨(by simp [Value.ownBlock]), hk.1⟩)⟩, ⟨by (with_reducible repeat (first | apply Kd.R_alloc | apply Kd.R_drewN | apply Kd.R_drew)); exact Kd.R_mono (Kd.R_far (p := ⟨gb178, 4, none⟩) (Kd.R_types HO177.out BK178.out (by decide)) (fun _ hk => hk.2) (.int .i64 t193)) (fun _ hk => hk.1)⟩, ⟨by first | exact Kd.R_nil _ _ _ _ _ | exact Kd.N_nil _ _ _ _ _ | exact Kd.V_nil _ _ _ _ _ | exact Kd.Q_nil _ _ _ _ _ | exact Kd.S_nil _ _ _ _ _⟩, ⟨by (with_reducible repeat (first | refine blk_drewN ?_ _ | refine blk_drew ?_ | refine blk_alloc ?_ _)); refine blk_put (cs := #[.int .i64 t180, .int .i64 t183, .int .i64 t186, .int .i64 t189, .int .i64 0, .slice none 0 0]) ?_ 4 _ rfl; (with_reducible repeat (first | refine blk_drewN ?_ _ | refine blk_drew ?_ | refine blk_alloc ?_ _)); exact BK178.out⟩, ⟨by repeat (first | (with_reducible first | exact HB.out | apply below_alloc | apply pw_below_drewN | apply below_drew1 | refine below_set ?_ GE178.out) | exact HB.out)⟩⟩
               case round =>
                clear H'
                try clear c1
                try clear p1
                try clear q1
                try clear hx1
                try clear qi1
                try clear c2
                try clear p2
                try clear c3
                try clear c3b0
                try clear c3b1
                try clear p6
                try clear c7
                try clear c7b0
                try clear c8
                try clear c8b0
                try clear c10
                try clear c10b0
                try clear c10b1
                try clear p17
                try clear q17
                try clear hx17
                try clear qi17
                try clear p18
                try clear q18
                try clear hx18
                try clear qi18
                try clear c19
                try clear c19b0
                try clear c19b1
                try clear p19
                try clear q19
                try clear hx19
                try clear qi19
                try clear c20
                try clear c20b0
                try clear c20b1
                try clear c22
                try clear c22b0
                try clear c22b1
                try clear c24
                try clear c24b0
                try clear c24b1
                try clear c26
                try clear c26b0
                try clear c26b1
                try clear c28
                try clear c29
                try clear c29b0
                try clear c29b1
                try clear c30
                try clear c30b0
                try clear c30b1
                try clear c31
                try clear hcz17_0
                try clear hcz17_1
                try clear hcz17_2
                try clear hcz17_3
                try clear hcz17_4
                try clear hcz17_5
                try clear hcz32_0
                try clear hcz32_1
                try clear hcz32_2
                try clear hcz32_3
                try clear hcz32_4
                try clear hcz32_5
                try clear hfz17_0
                try clear hfz17_1
                try clear hfz17_2
                try clear hfz17_3
                try clear hfz17_4
                try clear hfz17_5
                try clear hfz32_0
                try clear hfz32_1
                try clear hfz32_2
                try clear hfz32_3
                try clear hfz32_4
                try clear hfz32_5
                try clear hx172_0
                try clear hx174_0
                try clear hx179_0
                try clear hx182_0
                try clear hx185_0
                try clear hx188_0
                try clear hx191_0
                try clear hx192_0
                try clear p172
                try clear p174
                try clear p179
                try clear p182
                try clear p185
                try clear p188
                try clear p191
                try clear p192
                try clear p2
                try clear q172
                try clear q174
                try clear q179
                try clear q182
                try clear q185
                try clear q188
                try clear q191
                try clear q192
                obtain ⟨x14_2, x179005_2, u179005, rfl, HA, HK2, HO_5, HO_7, HO_10, HO_179005, BK178, HB⟩ := hrel
                cases gk with
                | zero => exact absurd HA.out (by simp [rf_ReadBills.l1])
                | succ k2 =>
                 have H := HA.out
                 clear HA
                 simp only [rf_ReadBills.l1] at H
                 by_cases c36 : 4 < (t175.length : Int)
                 ·rw [if_pos c36] at H
                  have c36b0 : decide (4 < (t175.length : Int)) = true := decide_eq_true c36
                  have c36b1 : decide (4 < t175.length) = true := decide_eq_true (by omega)
                  clear c36
                  by_cases c37 : x14_2 < ((rdOf ByteArray.empty t175 4).size : Int)
                  ·rw [if_pos c37] at H
                   have c37b0 : decide (x14_2 < ((rdOf ByteArray.empty t175 4).size : Int)) = true := decide_eq_true c37
                   clear c37
                   by_cases c38 : 0 ≤ x14_2
                   ·rw [if_pos c38] at H
                    have c38b0 := eq_true c38
                    have c38b1 : decide (0 ≤ x14_2) = true := decide_eq_true c38
                    clear c38
                    by_cases c39 : x14_2 ≤ ((rdOf ByteArray.empty t175 4).size : Int)
                    ·rw [if_pos c39] at H
                     have c39b0 := eq_true c39
                     have c39b1 : decide (x14_2 ≤ ((rdOf ByteArray.empty t175 4).size : Int)) = true := decide_eq_true c39
                     clear c39
                     replace H := Option.bind_eq_some_iff.mp H
                     obtain ⟨⟨t197, t198⟩, A400, H⟩ := H
                     replace H : (if t198 > 0 then (if x179005_2.length < 17592186044416 then (rf_ReadBills.l1 k2 t165 x7_1 x8_1 t175 (wrap64 ((wrap64 (x14_2 + t198)) + 1)) t180 t183 t186 t189 t193 (x179005_2 ++ [t197])) else (none)) else (rf_ReadBills.l1 k2 t165 x7_1 x8_1 t175 (wrap64 ((wrap64 (x14_2 + t198)) + 1)) t180 t183 t186 t189 t193 x179005_2)) = some (r1, r2, r3) := H
                     have A40 := Aside0.mk A400
                     clear A400
                     by_cases c41 : t198 > 0
                     ·rw [if_pos c41] at H
                      have c41b0 : decide (0 < t198) = true := decide_eq_true c41
                      clear c41
                      by_cases c42 : x179005_2.length < 17592186044416
                      ·rw [if_pos c42] at H
                       have LMc42 := Aside0.mk c42
                       clear c42
                       obtain ⟨y199, hy199⟩ : ∃ y_ : List Int, y_ = (x179005_2 ++ [t197]) := ⟨_, rfl⟩
                       replace H : (rf_ReadBills.l1 k2 t165 x7_1 x8_1 t175 (wrap64 ((wrap64 (x14_2 + t198)) + 1)) t180 t183 t186 t189 t193 y199) = some (r1, r2, r3) := by first | (rw [hy199]; with_reducible exact H) | (have H2_ := (Option.bind_some _ _).symm.trans H; rw [hy199]; with_reducible exact H2_) | (have H2_ := (Option.bind_some _ _).symm.trans H; with_reducible exact H2_) | with_reducible exact H | (rw [hy199]; exact H) | exact H
                       have Ny199 := Aside0.mk hy199
                       clear hy199
                       have H' := Aside0.mk H
                       clear H
                       have p195 : 0 ≤ (4 : Int) := (by omega)
                       have q195 : 4 < (t175.length : Int) := of_decide_eq_true (by first | (with_reducible assumption) | assumption)
                       obtain ⟨ad195, e195, hx195_0⟩ := Kd.at_string (Kd.R_reads' HO_10.out).2.2 4 p195 q195
                       obtain rfl : ad179 = ad195 := (by injection e195)
                       (try simp only [show (4 : Int).toNat = 4 from rfl, Nat.reduceMul, Nat.reduceEqDiff, Go.Addr.add, ↓reduceIte] at hx195_0)
                       have qi195 : (4 < t175.length) = True := eq_true (by omega)
                       (try rw [show ((4 : Int)).toNat = 4 from rfl] at hx195_0)
                       replace p195 := eq_true p195
                       replace q195 := eq_true q195
                       have p196 : 0 ≤ (4 : Int) := (by omega)
                       have q196 : 4 < (t175.length : Int) := of_decide_eq_true (by first | (with_reducible assumption) | assumption)
                       obtain ⟨ad196, e196, hx196_0⟩ := Kd.at_string (Kd.R_reads' HO_10.out).2.2 4 p196 q196
                       obtain rfl : ad179 = ad196 := (by injection e196)
                       (try simp only [show (4 : Int).toNat = 4 from rfl, Nat.reduceMul, Nat.reduceEqDiff, Go.Addr.add, ↓reduceIte] at hx196_0)
                       have qi196 : (4 < t175.length) = True := eq_true (by omega)
                       (try rw [show ((4 : Int)).toNat = 4 from rfl] at hx196_0)
                       replace p196 := eq_true p196
                       replace q196 := eq_true q196
                       go_wp2_with (first | ((with_reducible refine gate_callee (f := 31) rfl ?_); refine goesL_ (some 113) rfl rfl Tryz.func31 (by kernel_rfl) rfl #[.string ((rdOf ByteArray.empty t175 4).extract (x14_2 : Int).toNat (rdOf ByteArray.empty t175 4).size)] rfl (by (try simp only [List.map_toArray, List.map_cons, List.map_nil]); first | done | rfl | (simp only [List.length_drop, List.length_take]; rfl)) ?_; (with_reducible refine (rf_Digits.calls k2 ((rdOf ByteArray.empty t175 4).extract (x14_2 : Int).toNat (rdOf ByteArray.empty t175 4).size) t197 t198 _ A40.out).mono ?_); rintro e w' ⟨rfl, ⟨nd, rfl⟩⟩; refine ⟨_, rfl, ?_⟩; (try (rw [drewN_self wr]; generalize hq_ : World.drewN wr _ = wr; have n0_ : Aside0 (Kd.R Kd.string 9 wr w.heap.size (fun k_ => some k_ ≠ (.slice (some ad172) t165.length co13 : Value).ownBlock) (.slice (some ad179) t175.length co18) t175) := ⟨by rw [← hq_]; exact (by (with_reducible repeat (first | apply Kd.R_alloc | apply Kd.R_drewN | apply Kd.R_drew)); exact HO_10.out)⟩; have n1_ : Aside0 (Kd.R (Kd.int .i64) 3 wr w.heap.size (fun _ => True) u179005 x179005_2) := ⟨by rw [← hq_]; exact (by (with_reducible repeat (first | apply Kd.R_alloc | apply Kd.R_drewN | apply Kd.R_drew)); exact HO_179005.out)⟩; have n2_ : Aside0 (Kd.R Kd.string 9 wr w.heap.size (fun k_ => some k_ ≠ (.slice (some ad179) t175.length co18 : Value).ownBlock) (.slice (some ad172) t165.length co13) t165) := ⟨by rw [← hq_]; exact (by (with_reducible repeat (first | apply Kd.R_alloc | apply Kd.R_drewN | apply Kd.R_drew)); exact HO_5.out)⟩; have n3_ : Aside0 (Kd.S k26 26 wr w.heap.size (fun k_ => some k_ ≠ (u179005 : Value).ownBlock ∧ k_ ≠ gb178) u7 x7_1) := ⟨by rw [← hq_]; exact (by (with_reducible repeat (first | apply Kd.S_alloc | apply Kd.S_drewN | apply Kd.S_drew)); exact HO_7.out)⟩; have n4_ : Aside0 (wr.heap[gb178]? = some (.cells #[.int .i64 t180, .int .i64 t183, .int .i64 t186, .int .i64 t189, .int .i64 t193, u179005] 26 (0, 0))) := ⟨by rw [← hq_]; exact (by (with_reducible repeat (first | refine blk_drewN ?_ _ | refine blk_drew ?_ | refine blk_alloc ?_ _)); exact BK178.out)⟩; have n5_ : Aside0 (Below w.heap.size w wr) := ⟨by rw [← hq_]; exact (by repeat (first | (with_reducible first | exact HB.out | apply below_alloc | apply pw_below_drewN | apply below_drew1 | refine below_set ?_ GE178.out) | exact HB.out))⟩; clear HO_10 HO_179005 HO_5 HO_7 BK178 HB hq_; have HO_10 := n0_; have HO_179005 := n1_; have HO_5 := n2_; have HO_7 := n3_; have BK178 := n4_; have HB := n5_; clear n0_ n1_ n2_ n3_ n4_ n5_)); have hcz43_0 : wr.cell? ⟨gb178, 0, none⟩ = some (.int .i64 t180) := (blk_cell BK178.out 0).trans rfl; have hcz43_1 : wr.cell? ⟨gb178, 1, none⟩ = some (.int .i64 t183) := (blk_cell BK178.out 1).trans rfl; have hcz43_2 : wr.cell? ⟨gb178, 2, none⟩ = some (.int .i64 t186) := (blk_cell BK178.out 2).trans rfl; have hcz43_3 : wr.cell? ⟨gb178, 3, none⟩ = some (.int .i64 t189) := (blk_cell BK178.out 3).trans rfl; have hcz43_4 : wr.cell? ⟨gb178, 4, none⟩ = some (.int .i64 t193) := (blk_cell BK178.out 4).trans rfl; have hcz43_5 : wr.cell? ⟨gb178, 5, none⟩ = some (u179005) := (blk_cell BK178.out 5).trans rfl; have hfz43_0 := blk_frozen BK178.out 0; have hfz43_1 := blk_frozen BK178.out 1; have hfz43_2 := blk_frozen BK178.out 2; have hfz43_3 := blk_frozen BK178.out 3; have hfz43_4 := blk_frozen BK178.out 4; have hfz43_5 := blk_frozen BK178.out 5) | ((with_reducible refine gate_builtin (b := .append) (xs := #[.tmp 119, .tmp 121]) rfl ?_); at_builtin; refine Kd.R_append (Kd.int .i64) (w0 := w) w.heap.size rfl (.tmp 119) (.tmp 121) 24 3 (.int .i64 0) 8 rfl Tryz.underlying24 info3 rfl (by decide) (by omega) u179005 x179005_2 t197 [.int .i64 t197] (fun _ => True) (fun _ => False) rfl rfl ?aP (fun _ hk => hk.elim) ?aF ?aO ?aB ?aS ?aL ?_; (case aP => exact rfl); (case aB => exact (by repeat (first | (with_reducible first | exact HB.out | apply below_alloc | apply pw_below_drewN | apply below_drew1 | refine below_set ?_ GE178.out) | exact HB.out))); (case aF => exact (fun _ _ => trivial)); (case aO => exact (by (with_reducible repeat (first | apply Kd.R_alloc | apply Kd.R_drewN | apply Kd.R_drew)); exact HO_179005.out)); (case aS => exact (below_size (by repeat (first | (with_reducible first | exact HB.out | apply below_alloc | apply pw_below_drewN | apply below_drew1 | refine below_set ?_ GE178.out) | exact HB.out)))); (case aL => have := LMc42.out; omega); intro v200 w44 ho hb hg hat; rw [← Ny199.out] at ho; have n0_ := Aside0.mk (Kd.R_over' (by (with_reducible repeat (first | apply Kd.R_alloc | apply Kd.R_drewN | apply Kd.R_drew)); exact HO_5.out) (Kd.R_typed (by (with_reducible repeat (first | apply Kd.R_alloc | apply Kd.R_drewN | apply Kd.R_drew)); exact HO_179005.out)) (by decide) hg); have n1_ := Aside0.mk (Kd.S_after (ok := (fun k_ => k_ ≠ gb178)) (by (with_reducible repeat (first | apply Kd.S_alloc | apply Kd.S_drewN | apply Kd.S_drew)); exact Kd.S_mono HO_7.out (fun _ hk => ⟨hk.2, hk.1⟩)) hg hat); have n2_ := Aside0.mk (Kd.R_over' (by (with_reducible repeat (first | apply Kd.R_alloc | apply Kd.R_drewN | apply Kd.R_drew)); exact HO_10.out) (Kd.R_typed (by (with_reducible repeat (first | apply Kd.R_alloc | apply Kd.R_drewN | apply Kd.R_drew)); exact HO_179005.out)) (by decide) hg); have n3_ := Aside0.mk (blk_grown (g := gb178) (o := .cells #[.int .i64 t180, .int .i64 t183, .int .i64 t186, .int .i64 t189, .int .i64 t193, u179005] 26 (0, 0)) (by (with_reducible repeat (first | refine blk_drewN ?_ _ | refine blk_drew ?_ | refine blk_alloc ?_ _)); exact BK178.out) hg (Kd.R_ne HO_179005.out BK178.out (by decide))); have n4_ := Aside0.mk (hb); have n5_ := Aside0.mk (ho); clear HO_5; clear HO_7; clear HO_10; clear BK178; clear HB; clear HO_179005; have HO_5 := n0_; have HO_7 := n1_; have HO_10 := n2_; have BK178 := n3_; have HB := n4_; have HO201 := n5_; clear n0_ n1_ n2_ n3_ n4_ n5_; clear ho hb hg hat; obtain ⟨Ao45, co45, eo45⟩ := Kd.R_slice HO201.out; subst eo45; have hcz46_0 : w44.cell? ⟨gb178, 0, none⟩ = some (.int .i64 t180) := (blk_cell BK178.out 0).trans rfl; have hcz46_1 : w44.cell? ⟨gb178, 1, none⟩ = some (.int .i64 t183) := (blk_cell BK178.out 1).trans rfl; have hcz46_2 : w44.cell? ⟨gb178, 2, none⟩ = some (.int .i64 t186) := (blk_cell BK178.out 2).trans rfl; have hcz46_3 : w44.cell? ⟨gb178, 3, none⟩ = some (.int .i64 t189) := (blk_cell BK178.out 3).trans rfl; have hcz46_4 : w44.cell? ⟨gb178, 4, none⟩ = some (.int .i64 t193) := (blk_cell BK178.out 4).trans rfl; have hcz46_5 : w44.cell? ⟨gb178, 5, none⟩ = some (u179005) := (blk_cell BK178.out 5).trans rfl; have hfz46_0 := blk_frozen BK178.out 0; have hfz46_1 := blk_frozen BK178.out 1; have hfz46_2 := blk_frozen BK178.out 2; have hfz46_3 := blk_frozen BK178.out 3; have hfz46_4 := blk_frozen BK178.out 4; have hfz46_5 := blk_frozen BK178.out 5))
                       go_roundg k2
                       case measure => have := HK1.out; have := HK2.out; omega
                       case rel => exact ⟨(wrap64 ((wrap64 (x14_2 + t198)) + 1)), (y199), (.slice Ao45 y199.length co45), (by first | rfl | (simp; done) | (simp [*]; done)), H', ⟨by have := HK1.out; have := HK2.out; omega⟩, ⟨by (with_reducible repeat (first | apply Kd.R_alloc | apply Kd.R_drewN | apply Kd.R_drew)); exact Kd.R_mono (Kd.R_far (p := ⟨gb178, 5, none⟩) (Kd.R_types HO_5.out BK178.out (by decide)) (fun _ hk => hk.2) (.slice Ao45 y199.length co45)) (fun _ hk => hk.1)⟩, ⟨by (with_reducible repeat (first | apply Kd.S_alloc | apply Kd.S_drewN | apply Kd.S_drew)); exact Kd.S_mono (Kd.S_far (p := ⟨gb178, 5, none⟩) (Kd.S_mono HO_7.out (fun k_ hk => (⟨hk, hk.1⟩ : _ ∧ k_ ≠ gb178))) (fun _ hk => hk.2) (.slice Ao45 y199.length co45)) (fun _ hk => ⟨hk.1.2, hk.1.1⟩)⟩, ⟨by (with_reducible repeat (first | apply Kd.R_alloc | apply Kd.R_drewN | apply Kd.R_drew)); exact Kd.R_mono (Kd.R_far (p := ⟨gb178, 5, none⟩) (Kd.R_types HO_10.out BK178.out (by decide)) (fun _ hk => hk.2) (.slice Ao45 y199.length co45)) (fun _ hk => hk.1)⟩, ⟨by (with_reducible repeat (first | apply Kd.R_alloc | apply Kd.R_drewN | apply Kd.R_drew)); exact Kd.R_mono (Kd.R_far (p := ⟨gb178, 5, none⟩) (Kd.R_types HO201.out BK178.out (by decide)) (fun _ hk => hk.2) (.slice Ao45 y199.length co45)) (fun _ hk => trivial)⟩, ⟨by (with_reducible repeat (first | refine blk_drewN ?_ _ | refine blk_drew ?_ | refine blk_alloc ?_ _)); refine blk_put (cs := #[.int .i64 t180, .int .i64 t183, .int .i64 t186, .int .i64 t189, .int .i64 t193, u179005]) ?_ 5 _ rfl; (with_reducible repeat (first | refine blk_drewN ?_ _ | refine blk_drew ?_ | refine blk_alloc ?_ _)); exact BK178.out⟩, ⟨by repeat (first | (with_reducible first | exact HB.out | apply below_alloc | apply pw_below_drewN | apply below_drew1 | refine below_set ?_ GE178.out) | exact HB.out)⟩⟩
                      ·rw [if_neg c42] at H
                       exact absurd H (by simp)
                     ·rw [if_neg c41] at H
                      have c41b0 : decide (0 < t198) = false := decide_eq_false c41
                      clear c41
                      have H' := Aside0.mk H
                      clear H
                      have p195 : 0 ≤ (4 : Int) := (by omega)
                      have q195 : 4 < (t175.length : Int) := of_decide_eq_true (by first | (with_reducible assumption) | assumption)
                      obtain ⟨ad195, e195, hx195_0⟩ := Kd.at_string (Kd.R_reads' HO_10.out).2.2 4 p195 q195
                      obtain rfl : ad179 = ad195 := (by injection e195)
                      (try simp only [show (4 : Int).toNat = 4 from rfl, Nat.reduceMul, Nat.reduceEqDiff, Go.Addr.add, ↓reduceIte] at hx195_0)
                      have qi195 : (4 < t175.length) = True := eq_true (by omega)
                      (try rw [show ((4 : Int)).toNat = 4 from rfl] at hx195_0)
                      replace p195 := eq_true p195
                      replace q195 := eq_true q195
                      have p196 : 0 ≤ (4 : Int) := (by omega)
                      have q196 : 4 < (t175.length : Int) := of_decide_eq_true (by first | (with_reducible assumption) | assumption)
                      obtain ⟨ad196, e196, hx196_0⟩ := Kd.at_string (Kd.R_reads' HO_10.out).2.2 4 p196 q196
                      obtain rfl : ad179 = ad196 := (by injection e196)
                      (try simp only [show (4 : Int).toNat = 4 from rfl, Nat.reduceMul, Nat.reduceEqDiff, Go.Addr.add, ↓reduceIte] at hx196_0)
                      have qi196 : (4 < t175.length) = True := eq_true (by omega)
                      (try rw [show ((4 : Int)).toNat = 4 from rfl] at hx196_0)
                      replace p196 := eq_true p196
                      replace q196 := eq_true q196
                      go_wp2_with (first | ((with_reducible refine gate_callee (f := 31) rfl ?_); refine goesL_ (some 113) rfl rfl Tryz.func31 (by kernel_rfl) rfl #[.string ((rdOf ByteArray.empty t175 4).extract (x14_2 : Int).toNat (rdOf ByteArray.empty t175 4).size)] rfl (by (try simp only [List.map_toArray, List.map_cons, List.map_nil]); first | done | rfl | (simp only [List.length_drop, List.length_take]; rfl)) ?_; (with_reducible refine (rf_Digits.calls k2 ((rdOf ByteArray.empty t175 4).extract (x14_2 : Int).toNat (rdOf ByteArray.empty t175 4).size) t197 t198 _ A40.out).mono ?_); rintro e w' ⟨rfl, ⟨nd, rfl⟩⟩; refine ⟨_, rfl, ?_⟩))
                      go_roundg k2
                      case measure => have := HK1.out; have := HK2.out; omega
                      case rel => exact ⟨(wrap64 ((wrap64 (x14_2 + t198)) + 1)), (x179005_2), (u179005), (by first | rfl | (simp; done) | (simp [*]; done)), H', ⟨by have := HK1.out; have := HK2.out; omega⟩, ⟨by (with_reducible repeat (first | apply Kd.R_alloc | apply Kd.R_drewN | apply Kd.R_drew)); exact HO_5.out⟩, ⟨by (with_reducible repeat (first | apply Kd.S_alloc | apply Kd.S_drewN | apply Kd.S_drew)); exact HO_7.out⟩, ⟨by (with_reducible repeat (first | apply Kd.R_alloc | apply Kd.R_drewN | apply Kd.R_drew)); exact HO_10.out⟩, ⟨by (with_reducible repeat (first | apply Kd.R_alloc | apply Kd.R_drewN | apply Kd.R_drew)); exact HO_179005.out⟩, ⟨by (with_reducible repeat (first | refine blk_drewN ?_ _ | refine blk_drew ?_ | refine blk_alloc ?_ _)); exact BK178.out⟩, ⟨by repeat (first | (with_reducible first | exact HB.out | apply below_alloc | apply pw_below_drewN | apply below_drew1 | refine below_set ?_ GE178.out) | exact HB.out)⟩⟩
                    ·rw [if_neg c39] at H
                     exact absurd H (by simp)
                   ·rw [if_neg c38] at H
                    exact absurd H (by simp)
                  ·rw [if_neg c37] at H
                   have c37b0 : decide (x14_2 < ((rdOf ByteArray.empty t175 4).size : Int)) = false := decide_eq_false c37
                   clear c37
                   have H' := Aside0.mk H
                   clear H
                   have p195 : 0 ≤ (4 : Int) := (by omega)
                   have q195 : 4 < (t175.length : Int) := of_decide_eq_true (by first | (with_reducible assumption) | assumption)
                   obtain ⟨ad195, e195, hx195_0⟩ := Kd.at_string (Kd.R_reads' HO_10.out).2.2 4 p195 q195
                   obtain rfl : ad179 = ad195 := (by injection e195)
                   (try simp only [show (4 : Int).toNat = 4 from rfl, Nat.reduceMul, Nat.reduceEqDiff, Go.Addr.add, ↓reduceIte] at hx195_0)
                   have qi195 : (4 < t175.length) = True := eq_true (by omega)
                   (try rw [show ((4 : Int)).toNat = 4 from rfl] at hx195_0)
                   replace p195 := eq_true p195
                   replace q195 := eq_true q195
                   go_wp2
                   go_meet
                   case rel => exact ⟨_, (t180), (t183), (t186), (t189), (t193), (x179005_2), (u179005), H', ⟨by have := HK1.out; have := HK2.out; first | omega | exact Nat.le_refl _⟩, ⟨by (with_reducible repeat (first | apply Kd.R_alloc | apply Kd.R_drewN | apply Kd.R_drew)); exact Kd.R_mono HO_5.out (fun _ hk => trivial)⟩, ⟨by (with_reducible repeat (first | apply Kd.S_alloc | apply Kd.S_drewN | apply Kd.S_drew)); exact HO_7.out⟩, ⟨by (with_reducible repeat (first | apply Kd.R_alloc | apply Kd.R_drewN | apply Kd.R_drew)); exact HO_179005.out⟩, ⟨by (with_reducible repeat (first | refine blk_drewN ?_ _ | refine blk_drew ?_ | refine blk_alloc ?_ _)); exact BK178.out⟩, ⟨by repeat (first | (with_reducible first | exact HB.out | apply below_alloc | apply pw_below_drewN | apply below_drew1 | refine below_set ?_ GE178.out) | exact HB.out)⟩⟩
                 ·rw [if_neg c36] at H
                  exact absurd H (by simp)
              ·rw [if_neg c30] at H
               exact absurd H (by simp)
             ·rw [if_neg c29] at H
              exact absurd H (by simp)
            ·rw [if_neg c26] at H
             exact absurd H (by simp)
           ·rw [if_neg c24] at H
            exact absurd H (by simp)
          ·rw [if_neg c22] at H
           exact absurd H (by simp)
         ·rw [if_neg c20] at H
          exact absurd H (by simp)
        ·rw [if_neg c19] at H
         have c19b0 : ((t175.length : Int) == 6) = false := beq_eq_false_iff_ne.mpr c19
         have c19b1 : ((t175.length : Int) != 6) = true := bne_iff_ne.mpr c19
         (first | rw [c19b0] | (simp only [i64_w, i32_w]; rw [c19b0]) | skip)
         have H' := Aside0.mk H
         clear H
         go_wp2
         go_meet
         case rel => exact ⟨_, (0), (0), (0), (0), (0), (([] : List Int)), (.slice none 0 0), H', ⟨by have := HK1.out; first | omega | exact Nat.le_refl _⟩, ⟨by (with_reducible repeat (first | apply Kd.R_alloc | apply Kd.R_drewN | apply Kd.R_drew)); exact Kd.R_mono (Kd.R_far (p := ⟨gb178, 5, none⟩) (Kd.R_far (p := ⟨gb178, 4, none⟩) (Kd.R_far (p := ⟨gb178, 3, none⟩) (Kd.R_far (p := ⟨gb178, 2, none⟩) (Kd.R_far (p := ⟨gb178, 1, none⟩) (Kd.R_far (p := ⟨gb178, 0, none⟩) (Kd.R_types HO_5.out BK178.out (by decide)) (fun _ hk => hk.2) (.int .i64 0)) (fun _ hk => hk.2) (.int .i64 0)) (fun _ hk => hk.2) (.int .i64 0)) (fun _ hk => hk.2) (.int .i64 0)) (fun _ hk => hk.2) (.int .i64 0)) (fun _ hk => hk.2) (.slice none 0 0)) (fun _ hk => trivial)⟩, ⟨by (with_reducible repeat (first | apply Kd.S_alloc | apply Kd.S_drewN | apply Kd.S_drew)); exact Kd.S_mono (Kd.S_far (p := ⟨gb178, 5, none⟩) (Kd.S_far (p := ⟨gb178, 4, none⟩) (Kd.S_far (p := ⟨gb178, 3, none⟩) (Kd.S_far (p := ⟨gb178, 2, none⟩) (Kd.S_far (p := ⟨gb178, 1, none⟩) (Kd.S_far (p := ⟨gb178, 0, none⟩) (Kd.S_mono HO_7.out (fun k_ hk => (⟨hk, hk.2⟩ : _ ∧ k_ ≠ gb178))) (fun _ hk => hk.2) (.int .i64 0)) (fun _ hk => hk.2) (.int .i64 0)) (fun _ hk => hk.2) (.int .i64 0)) (fun _ hk => hk.2) (.int .i64 0)) (fun _ hk => hk.2) (.int .i64 0)) (fun _ hk => hk.2) (.slice none 0 0)) (fun _ hk => ⟨(by simp [Value.ownBlock]), hk.1.2⟩)⟩, ⟨by first | exact Kd.R_nil _ _ _ _ _ | exact Kd.N_nil _ _ _ _ _ | exact Kd.V_nil _ _ _ _ _ | exact Kd.Q_nil _ _ _ _ _ | exact Kd.S_nil _ _ _ _ _⟩, ⟨by (with_reducible repeat (first | refine blk_drewN ?_ _ | refine blk_drew ?_ | refine blk_alloc ?_ _)); refine blk_put (cs := #[.int .i64 0, .int .i64 0, .int .i64 0, .int .i64 0, .int .i64 0, .slice none 0 0]) ?_ 5 _ rfl; (with_reducible repeat (first | refine blk_drewN ?_ _ | refine blk_drew ?_ | refine blk_alloc ?_ _)); refine blk_put (cs := #[.int .i64 0, .int .i64 0, .int .i64 0, .int .i64 0, .int .i64 0, .slice none 0 0]) ?_ 4 _ rfl; (with_reducible repeat (first | refine blk_drewN ?_ _ | refine blk_drew ?_ | refine blk_alloc ?_ _)); refine blk_put (cs := #[.int .i64 0, .int .i64 0, .int .i64 0, .int .i64 0, .int .i64 0, .slice none 0 0]) ?_ 3 _ rfl; (with_reducible repeat (first | refine blk_drewN ?_ _ | refine blk_drew ?_ | refine blk_alloc ?_ _)); refine blk_put (cs := #[.int .i64 0, .int .i64 0, .int .i64 0, .int .i64 0, .int .i64 0, .slice none 0 0]) ?_ 2 _ rfl; (with_reducible repeat (first | refine blk_drewN ?_ _ | refine blk_drew ?_ | refine blk_alloc ?_ _)); refine blk_put (cs := #[.int .i64 0, .int .i64 0, .int .i64 0, .int .i64 0, .int .i64 0, .slice none 0 0]) ?_ 1 _ rfl; (with_reducible repeat (first | refine blk_drewN ?_ _ | refine blk_drew ?_ | refine blk_alloc ?_ _)); refine blk_put (cs := #[.int .i64 0, .int .i64 0, .int .i64 0, .int .i64 0, .int .i64 0, .slice none 0 0]) ?_ 0 _ rfl; (with_reducible repeat (first | refine blk_drewN ?_ _ | refine blk_drew ?_ | refine blk_alloc ?_ _)); exact BK178.out⟩, ⟨by repeat (first | (with_reducible first | exact HB.out | apply below_alloc | apply pw_below_drewN | apply below_drew1 | refine below_set ?_ GE178.out) | exact HB.out)⟩⟩
       case rest =>
        clear HC12
        try clear c1
        try clear p1
        try clear q1
        try clear hx1
        try clear qi1
        try clear c2
        try clear p2
        try clear c3
        try clear c3b0
        try clear c3b1
        try clear c4
        try clear p6
        try clear c7
        try clear c7b0
        try clear c8
        try clear c8b0
        try clear c10
        try clear c10b0
        try clear c10b1
        try clear p17
        try clear q17
        try clear hx17
        try clear qi17
        try clear p18
        try clear q18
        try clear hx18
        try clear qi18
        try clear c19
        try clear c19b0
        try clear c19b1
        try clear p19
        try clear q19
        try clear hx19
        try clear qi19
        try clear c20
        try clear c20b0
        try clear c20b1
        try clear c22
        try clear c22b0
        try clear c22b1
        try clear c24
        try clear c24b0
        try clear c24b1
        try clear c26
        try clear c26b0
        try clear c26b1
        try clear c28
        try clear c29
        try clear c29b0
        try clear c29b1
        try clear c30
        try clear c30b0
        try clear c30b1
        try clear c31
        try clear c36
        try clear c36b0
        try clear c36b1
        try clear c37
        try clear c37b0
        try clear c38
        try clear c38b0
        try clear c38b1
        try clear c39
        try clear c39b0
        try clear c39b1
        try clear c41
        try clear c41b0
        try clear c42
        try clear hcz17_0
        try clear hcz17_1
        try clear hcz17_2
        try clear hcz17_3
        try clear hcz17_4
        try clear hcz17_5
        try clear hcz32_0
        try clear hcz32_1
        try clear hcz32_2
        try clear hcz32_3
        try clear hcz32_4
        try clear hcz32_5
        try clear hcz43_0
        try clear hcz43_1
        try clear hcz43_2
        try clear hcz43_3
        try clear hcz43_4
        try clear hcz43_5
        try clear hcz46_0
        try clear hcz46_1
        try clear hcz46_2
        try clear hcz46_3
        try clear hcz46_4
        try clear hcz46_5
        try clear hfz17_0
        try clear hfz17_1
        try clear hfz17_2
        try clear hfz17_3
        try clear hfz17_4
        try clear hfz17_5
        try clear hfz32_0
        try clear hfz32_1
        try clear hfz32_2
        try clear hfz32_3
        try clear hfz32_4
        try clear hfz32_5
        try clear hfz43_0
        try clear hfz43_1
        try clear hfz43_2
        try clear hfz43_3
        try clear hfz43_4
        try clear hfz43_5
        try clear hfz46_0
        try clear hfz46_1
        try clear hfz46_2
        try clear hfz46_3
        try clear hfz46_4
        try clear hfz46_5
        try clear hx172_0
        try clear hx174_0
        try clear hx179_0
        try clear hx182_0
        try clear hx185_0
        try clear hx188_0
        try clear hx191_0
        try clear hx192_0
        try clear hx195_0
        try clear hx196_0
        try clear p1
        try clear p17
        try clear p172
        try clear p174
        try clear p179
        try clear p18
        try clear p182
        try clear p185
        try clear p188
        try clear p19
        try clear p191
        try clear p192
        try clear p195
        try clear p196
        try clear p2
        try clear p6
        try clear q1
        try clear q17
        try clear q172
        try clear q174
        try clear q179
        try clear q18
        try clear q182
        try clear q185
        try clear q188
        try clear q19
        try clear q191
        try clear q192
        try clear q195
        try clear q196
        obtain ⟨kq, x179000_11, x179001_11, x179002_11, x179003_11, x179004_11, x179005_11, u179005, HA, HJ11, HO_5, HO_7, HO_179005, BK178, HB⟩ := hcut
        cases kq with
        | zero => exact absurd HA.out (by simp [rf_ReadBills.j2])
        | succ kj11 =>
         have H := HA.out
         clear HA
         simp only [rf_ReadBills.j2] at H
         have HC47 := Aside0.mk H
         clear H
         go_upto_region 27 with (fail)
         go_cut [139] (fun v139 wc => ∃ (kq : Nat) (x139_46 : Bool), v139 = .bool x139_46 ∧ Aside0 (rf_ReadBills.j3 kq t165 x7_1 x8_1 x139_46 x179000_11 x179001_11 x179002_11 x179003_11 x179004_11 x179005_11 = some (r1, r2, r3)) ∧ Aside0 (kq ≤ kj11) ∧ Aside0 (Kd.R Kd.string 9 wc w.heap.size (fun _ => True) (.slice (some ad172) t165.length co13) t165) ∧ Aside0 (Kd.S k26 26 wc w.heap.size (fun k_ => some k_ ≠ (u179005 : Value).ownBlock ∧ k_ ≠ gb178) u7 x7_1) ∧ Aside0 (Kd.R (Kd.int .i64) 3 wc w.heap.size (fun _ => True) u179005 x179005_11) ∧ Aside0 (wc.heap[gb178]? = some (.cells #[.int .i64 x179000_11, .int .i64 x179001_11, .int .i64 x179002_11, .int .i64 x179003_11, .int .i64 x179004_11, u179005] 26 (0, 0))) ∧ Aside0 (Below w.heap.size w wc))
         case first =>
          have H := HC47.out
          clear HC47
          replace H := Option.bind_eq_some_iff.mp H
          obtain ⟨t202, A480, H⟩ := H
          replace H : (if t202 = true then ((rf_BillText.f kj11 x179000_11 x179001_11 x179002_11 x179003_11 x179004_11 x179005_11).bind fun t203 => (if 0 ≤ x8_1 then (if x8_1 < (t165.length : Int) then (if (rdOf ByteArray.empty t165 x8_1).size + 1 ≤ 9223372036854775807 then (rf_ReadBills.j3 kj11 t165 x7_1 x8_1 (t203.toList != ((rdOf ByteArray.empty t165 x8_1) ++ (⟨#[10]⟩ : ByteArray)).toList) x179000_11 x179001_11 x179002_11 x179003_11 x179004_11 x179005_11) else (none)) else (none)) else (none))) else (rf_ReadBills.j3 kj11 t165 x7_1 x8_1 true x179000_11 x179001_11 x179002_11 x179003_11 x179004_11 x179005_11)) = some (r1, r2, r3) := H
          have A48 := Aside0.mk A480
          clear A480
          by_cases c49 : t202 = true
          ·subst c49
           have H1 : ((rf_BillText.f kj11 x179000_11 x179001_11 x179002_11 x179003_11 x179004_11 x179005_11).bind fun t203 => (if 0 ≤ x8_1 then (if x8_1 < (t165.length : Int) then (if (rdOf ByteArray.empty t165 x8_1).size + 1 ≤ 9223372036854775807 then (rf_ReadBills.j3 kj11 t165 x7_1 x8_1 (t203.toList != ((rdOf ByteArray.empty t165 x8_1) ++ (⟨#[10]⟩ : ByteArray)).toList) x179000_11 x179001_11 x179002_11 x179003_11 x179004_11 x179005_11) else (none)) else (none)) else (none))) = some (r1, r2, r3) := by rw [if_pos rfl] at H; exact H
           clear H
           have H := H1
           clear H1
           replace H := Option.bind_eq_some_iff.mp H
           obtain ⟨t203, A500, H⟩ := H
           replace H : (if 0 ≤ x8_1 then (if x8_1 < (t165.length : Int) then (if (rdOf ByteArray.empty t165 x8_1).size + 1 ≤ 9223372036854775807 then (rf_ReadBills.j3 kj11 t165 x7_1 x8_1 (t203.toList != ((rdOf ByteArray.empty t165 x8_1) ++ (⟨#[10]⟩ : ByteArray)).toList) x179000_11 x179001_11 x179002_11 x179003_11 x179004_11 x179005_11) else (none)) else (none)) else (none)) = some (r1, r2, r3) := H
           have A50 := Aside0.mk A500
           clear A500
           by_cases c51 : 0 ≤ x8_1
           ·rw [if_pos c51] at H
            have c51b0 : decide (0 ≤ x8_1) = true := decide_eq_true c51
            clear c51
            (first | rw [c51b0] | (simp only [i64_w, i32_w]; rw [c51b0]) | skip)
            by_cases c52 : x8_1 < (t165.length : Int)
            ·rw [if_pos c52] at H
             have c52b0 : decide (x8_1 < (t165.length : Int)) = true := decide_eq_true c52
             clear c52
             by_cases c53 : (rdOf ByteArray.empty t165 x8_1).size + 1 ≤ 9223372036854775807
             ·rw [if_pos c53] at H
              have c53b0 := eq_true c53
              have c53b1 : decide ((rdOf ByteArray.empty t165 x8_1).size + 1 ≤ 9223372036854775807) = true := decide_eq_true c53
              try have c53b2 : (9223372036854775807 < (rdOf ByteArray.empty t165 x8_1).size + 1) = False := eq_false (Nat.not_lt.2 c53)
              have H' := Aside0.mk H
              clear H
              try go_wp2
              have n0_ := Aside0.mk (Kd.R_drew HO_5.out)
              have n1_ := Aside0.mk (Kd.S_drew HO_7.out)
              have n2_ := Aside0.mk (Kd.R_drew HO_179005.out)
              have n3_ := Aside0.mk (blk_drew BK178.out)
              have n4_ := Aside0.mk (below_drew1 HB.out)
              clear HO_5
              clear HO_7
              clear HO_179005
              clear BK178
              clear HB
              have HO_5 := n0_
              have HO_7 := n1_
              have HO_179005 := n2_
              have BK178 := n3_
              have HB := n4_
              clear n0_ n1_ n2_ n3_ n4_
              obtain ⟨Ao55, co55, eo55⟩ := Kd.R_slice HO_179005.out
              (first | subst eo55 | (injection eo55 with f1_ f2_ f3_; have f4_ := f1_.symm; have f5_ := f3_.symm; clear f1_ f2_ f3_; subst f4_; subst f5_))
              have p204 : 0 ≤ (x8_1 : Int) := of_decide_eq_true (by first | (with_reducible assumption) | assumption)
              have q204 : x8_1 < (t165.length : Int) := of_decide_eq_true (by first | (with_reducible assumption) | assumption)
              obtain ⟨ad204, e204, hx204_0⟩ := Kd.at_string (Kd.R_reads' HO_5.out).2.2 x8_1 p204 q204
              obtain rfl : ad172 = ad204 := (by injection e204)
              replace p204 := eq_true p204
              replace q204 := eq_true q204
              refine start_ (n := 13) (S := fun w' => w'.cell? ⟨gb178, 0, none⟩ = some (.int .i64 x179000_11) ∧ w'.cell? ⟨gb178, 1, none⟩ = some (.int .i64 x179001_11) ∧ w'.cell? ⟨gb178, 2, none⟩ = some (.int .i64 x179002_11) ∧ w'.cell? ⟨gb178, 3, none⟩ = some (.int .i64 x179003_11) ∧ w'.cell? ⟨gb178, 4, none⟩ = some (.int .i64 x179004_11) ∧ w'.cell? ⟨gb178, 5, none⟩ = some (.slice Ao55 x179005_11.length co55) ∧ w'.cell? (ad172.add (x8_1).toNat) = some (.string (rdOf ByteArray.empty t165 x8_1))) (ds := []) #[false, false, false, false, false, false, false, false, false, false, false, false, false] (by kernel_rfl) rfl rfl ⟨(blk_cell BK178.out 0).trans rfl, (blk_cell BK178.out 1).trans rfl, (blk_cell BK178.out 2).trans rfl, (blk_cell BK178.out 3).trans rfl, (blk_cell BK178.out 4).trans rfl, (blk_cell BK178.out 5).trans rfl, hx204_0⟩ (fun hHeld => ?_); refine with_tabW rf_ReadBills.tab27 rf_ReadBills.bits27 (fun HT_ HW_ => ?_)
              generalize wc.drew = w54 at HO_5 HO_7 HO_179005 BK178 HB hx204_0 hHeld ⊢
              refine take_ (i := 0) (N := some 127) (v := ?_) (a' := ?_) #[true, false, false, false, false, false, false, false, false, false, false, false, false] rfl rfl (take_ofW HT_.out HW_.out (by kernel_rfl)) (fun _ _ _ h => h) (Or.inl ⟨by rfl, ?_⟩) hHeld ?_ ?_
              rotate_left
              ·rintro w' ⟨s0, s1, s2, s3, s4, s5, s6⟩
               go_simp
               with_reducible rfl
              rotate_left
              ·simp only [Act.put, xsA, xsZ, xsS, i64_w, i32_w]
               rfl
              refine one_ (i := 1) (N := some 128) #[true, true, false, false, false, false, false, false, false, false, false, false, false] rfl rfl (one_of HT_.out (by kernel_rfl)) (by decide) (fun K hK => ?_)
              refine goes_ Tryz.func26 (by kernel_rfl) rfl #[.agg #[.int .i64 x179000_11, .int .i64 x179001_11, .int .i64 x179002_11, .int .i64 x179003_11, .int .i64 x179004_11, .slice Ao55 x179005_11.length co55]] (by rfl) rfl rfl (by (try simp only [List.map_toArray, List.map_cons, List.map_nil]); first | done | rfl | (simp only [List.length_drop, List.length_take]; rfl)) ?_
              with_reducible refine (rf_Bill.calls kj11 x179000_11 x179001_11 x179002_11 x179003_11 x179004_11 _ _ x179005_11 true _ ?side1 ?side2 A48.out).mono ?_
              (case side1 => repeat (first | exact (Kd.R_reads' HO_179005.out).2.2 | (with_reducible refine Kd.C_alloc ?_ _) | (with_reducible refine Kd.C_drewN ?_ _) | (with_reducible refine Kd.C_drew ?_)))
              (case side2 => exact (Kd.R_reads' HO_179005.out).2.1)
              rintro e w56 ⟨rfl, hb⟩
              have HS6_ := (hb.cell (xbl _ _ (hHeld.2.2.2.2.2.2))).trans (hHeld.2.2.2.2.2.2)
              refine ⟨_, rfl, ?_⟩
              have n0_ := Aside0.mk (Kd.R_below (by (with_reducible repeat (first | apply Kd.R_alloc | apply Kd.R_drewN | apply Kd.R_drew)); exact HO_5.out) hb)
              have n1_ := Aside0.mk (Kd.S_below (by (with_reducible repeat (first | apply Kd.S_alloc | apply Kd.S_drewN | apply Kd.S_drew)); exact HO_7.out) hb)
              have n2_ := Aside0.mk (Kd.R_below (by (with_reducible repeat (first | apply Kd.R_alloc | apply Kd.R_drewN | apply Kd.R_drew)); exact HO_179005.out) hb)
              have n3_ := Aside0.mk (blk_below (g := gb178) (o := .cells #[.int .i64 x179000_11, .int .i64 x179001_11, .int .i64 x179002_11, .int .i64 x179003_11, .int .i64 x179004_11, .slice Ao55 x179005_11.length co55] 26 (0, 0)) (by (with_reducible repeat (first | refine blk_drewN ?_ _ | refine blk_drew ?_ | refine blk_alloc ?_ _)); exact BK178.out) hb)
              have n4_ := Aside0.mk (below_step (by repeat (first | (with_reducible first | exact HB.out | apply below_alloc | apply pw_below_drewN | apply below_drew1 | refine below_set ?_ GE178.out) | exact HB.out)) hb)
              clear HO_5
              clear HO_7
              clear HO_179005
              clear BK178
              clear HB
              have HO_5 := n0_
              have HO_7 := n1_
              have HO_179005 := n2_
              have BK178 := n3_
              have HB := n4_
              clear n0_ n1_ n2_ n3_ n4_
              (try clear hb)
              (try clear hb2)
              (try clear hk)
              (try clear hi)
              refine hK.out _ _ ⟨(blk_cell BK178.out 0).trans rfl, (blk_cell BK178.out 1).trans rfl, (blk_cell BK178.out 2).trans rfl, (blk_cell BK178.out 3).trans rfl, (blk_cell BK178.out 4).trans rfl, (blk_cell BK178.out 5).trans rfl, HS6_⟩ (fun hHeld => ?_)
              clear hK K
              refine norm_ (a' := ?_) ?_ ?_
              rotate_left
              ·show Act.put _ (some 128) _ = _
               simp only [Act.put, xsA, xsZ, xsS, i64_w, i32_w]
               rfl
              refine pure_ (i := 2) (N := some 129) (v := ?_) (a' := ?_) #[true, true, true, false, false, false, false, false, false, false, false, false, false] rfl rfl (any_of HT_.out (by kernel_rfl)) (fun _ _ _ h => h) (Or.inl ⟨by rfl, ?_⟩) ?_ ?_
              rotate_left
              ·intro w'
               go_simp
               with_reducible rfl
              rotate_left
              ·simp only [Act.put, xsA, xsZ, xsS, i64_w, i32_w]
               rfl
              refine pure_ (i := 3) (N := some 130) (v := ?_) (a' := ?_) #[true, true, true, true, false, false, false, false, false, false, false, false, false] rfl rfl (any_of HT_.out (by kernel_rfl)) (fun _ _ _ h => h) (Or.inl ⟨by rfl, ?_⟩) ?_ ?_
              rotate_left
              ·intro w'
               go_simp
               with_reducible rfl
              rotate_left
              ·simp only [Act.put, xsA, xsZ, xsS, i64_w, i32_w]
               rfl
              refine pure_ (i := 6) (N := some 133) (v := ?_) (a' := ?_) #[true, true, true, true, false, false, true, false, false, false, false, false, false] rfl rfl (any_of HT_.out (by kernel_rfl)) (fun _ _ _ h => h) (Or.inl ⟨by rfl, ?_⟩) ?_ ?_
              rotate_left
              ·intro w'
               go_simp
               with_reducible rfl
              rotate_left
              ·simp only [Act.put, xsA, xsZ, xsS, i64_w, i32_w]
               rfl
              refine pure_ (i := 7) (N := some 134) (v := ?_) (a' := ?_) #[true, true, true, true, false, false, true, true, false, false, false, false, false] rfl rfl (any_of HT_.out (by kernel_rfl)) (fun _ _ _ h => h) (Or.inl ⟨by rfl, ?_⟩) ?_ ?_
              rotate_left
              ·intro w'
               go_simp
               with_reducible rfl
              rotate_left
              ·simp only [Act.put, xsA, xsZ, xsS, i64_w, i32_w]
               rfl
              refine pure_ (i := 8) (N := some 135) (v := ?_) (a' := ?_) #[true, true, true, true, false, false, true, true, true, false, false, false, false] rfl rfl (any_of HT_.out (by kernel_rfl)) (fun _ _ _ h => h) (Or.inl ⟨by rfl, ?_⟩) ?_ ?_
              rotate_left
              ·intro w'
               go_simp
               with_reducible rfl
              rotate_left
              ·simp only [Act.put, xsA, xsZ, xsS, i64_w, i32_w]
               rfl
              refine take_ (i := 4) (N := some 131) (v := ?_) (a' := ?_) #[true, true, true, true, true, false, true, true, true, false, false, false, false] rfl rfl (take_ofW HT_.out HW_.out (by kernel_rfl)) (fun _ _ _ h => h) (Or.inl ⟨by rfl, ?_⟩) hHeld ?_ ?_
              rotate_left
              ·rintro w' ⟨s0, s1, s2, s3, s4, s5, s6⟩
               go_simp
               with_reducible rfl
              rotate_left
              ·simp only [Act.put, xsA, xsZ, xsS, i64_w, i32_w]
               rfl
              refine take_ (i := 9) (N := some 136) (v := ?_) (a' := ?_) #[true, true, true, true, true, false, true, true, true, true, false, false, false] rfl rfl (take_ofW HT_.out HW_.out (by kernel_rfl)) (fun _ _ _ h => h) (Or.inl ⟨by rfl, ?_⟩) hHeld ?_ ?_
              rotate_left
              ·rintro w' ⟨s0, s1, s2, s3, s4, s5, s6⟩
               go_simp
               with_reducible rfl
              rotate_left
              ·simp only [Act.put, xsA, xsZ, xsS, i64_w, i32_w]
               rfl
              refine pure_ (i := 10) (N := some 137) (v := ?_) (a' := ?_) #[true, true, true, true, true, false, true, true, true, true, true, false, false] rfl rfl (any_of HT_.out (by kernel_rfl)) (fun _ _ _ h => h) (Or.inl ⟨by rfl, ?_⟩) ?_ ?_
              rotate_left
              ·intro w'
               go_simp
               with_reducible rfl
              rotate_left
              ·simp only [Act.put, xsA, xsZ, xsS, i64_w, i32_w]
               rfl
              refine one_ (i := 5) (N := some 132) #[true, true, true, true, true, true, true, true, true, true, true, false, false] rfl rfl (one_of HT_.out (by kernel_rfl)) (by decide) (fun K hK => ?_)
              refine goes_ Tryz.func27 (by kernel_rfl) rfl #[.agg #[.int .i64 x179000_11, .int .i64 x179001_11, .int .i64 x179002_11, .int .i64 x179003_11, .int .i64 x179004_11, .slice Ao55 x179005_11.length co55]] (by rfl) rfl rfl (by (try simp only [List.map_toArray, List.map_cons, List.map_nil]); first | done | rfl | (simp only [List.length_drop, List.length_take]; rfl)) ?_
              with_reducible refine (rf_BillText.calls kj11 x179000_11 x179001_11 x179002_11 x179003_11 x179004_11 _ _ x179005_11 t203 _ ?side1 ?side2 A50.out).mono ?_
              (case side1 => repeat (first | exact (Kd.R_reads' HO_179005.out).2.2 | (with_reducible refine Kd.C_alloc ?_ _) | (with_reducible refine Kd.C_drewN ?_ _) | (with_reducible refine Kd.C_drew ?_)))
              (case side2 => exact (Kd.R_reads' HO_179005.out).2.1)
              rintro e w57 ⟨rfl, hb⟩
              have HS6_ := (hb.cell (xbl _ _ (hHeld.2.2.2.2.2.2))).trans (hHeld.2.2.2.2.2.2)
              refine ⟨_, rfl, ?_⟩
              have n0_ := Aside0.mk (Kd.R_below (by (with_reducible repeat (first | apply Kd.R_alloc | apply Kd.R_drewN | apply Kd.R_drew)); exact HO_5.out) hb)
              have n1_ := Aside0.mk (Kd.S_below (by (with_reducible repeat (first | apply Kd.S_alloc | apply Kd.S_drewN | apply Kd.S_drew)); exact HO_7.out) hb)
              have n2_ := Aside0.mk (Kd.R_below (by (with_reducible repeat (first | apply Kd.R_alloc | apply Kd.R_drewN | apply Kd.R_drew)); exact HO_179005.out) hb)
              have n3_ := Aside0.mk (blk_below (g := gb178) (o := .cells #[.int .i64 x179000_11, .int .i64 x179001_11, .int .i64 x179002_11, .int .i64 x179003_11, .int .i64 x179004_11, .slice Ao55 x179005_11.length co55] 26 (0, 0)) (by (with_reducible repeat (first | refine blk_drewN ?_ _ | refine blk_drew ?_ | refine blk_alloc ?_ _)); exact BK178.out) hb)
              have n4_ := Aside0.mk (below_step (by repeat (first | (with_reducible first | exact HB.out | apply below_alloc | apply pw_below_drewN | apply below_drew1 | refine below_set ?_ GE178.out) | exact HB.out)) hb)
              clear HO_5
              clear HO_7
              clear HO_179005
              clear BK178
              clear HB
              have HO_5 := n0_
              have HO_7 := n1_
              have HO_179005 := n2_
              have BK178 := n3_
              have HB := n4_
              clear n0_ n1_ n2_ n3_ n4_
              (try clear hb)
              (try clear hb2)
              (try clear hk)
              (try clear hi)
              refine hK.out _ _ ⟨(blk_cell BK178.out 0).trans rfl, (blk_cell BK178.out 1).trans rfl, (blk_cell BK178.out 2).trans rfl, (blk_cell BK178.out 3).trans rfl, (blk_cell BK178.out 4).trans rfl, (blk_cell BK178.out 5).trans rfl, HS6_⟩ (fun hHeld => ?_)
              clear hK K
              refine norm_ (a' := ?_) ?_ ?_
              rotate_left
              ·show Act.put _ (some 132) _ = _
               simp only [Act.put, xsA, xsZ, xsS, i64_w, i32_w]
               rfl
              refine pure_ (i := 11) (N := some 138) (v := ?_) (a' := ?_) #[true, true, true, true, true, true, true, true, true, true, true, true, false] rfl rfl (any_of HT_.out (by kernel_rfl)) (fun _ _ _ h => h) (Or.inl ⟨by rfl, ?_⟩) ?_ ?_
              rotate_left
              ·intro w'
               go_simp
               with_reducible rfl
              rotate_left
              ·simp only [Act.put, xsA, xsZ, xsS, i64_w, i32_w]
               rfl
              refine pure_ (i := 12) (N := some 139) (v := ?_) (a' := ?_) #[true, true, true, true, true, true, true, true, true, true, true, true, true] rfl rfl (any_of HT_.out (by kernel_rfl)) (fun _ _ _ h => h) (Or.inl ⟨by rfl, ?_⟩) ?_ ?_
              rotate_left
              ·intro w'
               go_simp
               with_reducible rfl
              rotate_left
              ·simp only [Act.put, xsA, xsZ, xsS, i64_w, i32_w]
               rfl
              refine done_ (done_of HT_.out (by kernel_rfl)) ?_
              try go_wp2
              go_meet
              case rel => exact ⟨_, ((t203.toList != ((rdOf ByteArray.empty t165 x8_1) ++ (⟨#[10]⟩ : ByteArray)).toList)), (by first | rfl | (simp; done) | (simp [*]; done)), H', ⟨by have := HK1.out; have := HJ11.out; first | omega | exact Nat.le_refl _⟩, ⟨by (with_reducible repeat (first | apply Kd.R_alloc | apply Kd.R_drewN | apply Kd.R_drew)); exact HO_5.out⟩, ⟨by (with_reducible repeat (first | apply Kd.S_alloc | apply Kd.S_drewN | apply Kd.S_drew)); exact HO_7.out⟩, ⟨by (with_reducible repeat (first | apply Kd.R_alloc | apply Kd.R_drewN | apply Kd.R_drew)); exact HO_179005.out⟩, ⟨by (with_reducible repeat (first | refine blk_drewN ?_ _ | refine blk_drew ?_ | refine blk_alloc ?_ _)); exact BK178.out⟩, ⟨by repeat (first | (with_reducible first | exact HB.out | apply below_alloc | apply pw_below_drewN | apply below_drew1 | refine below_set ?_ GE178.out) | exact HB.out)⟩⟩
             ·rw [if_neg c53] at H
              exact absurd H (by simp)
            ·rw [if_neg c52] at H
             exact absurd H (by simp)
           ·rw [if_neg c51] at H
            exact absurd H (by simp)
          ·replace c49 := Bool.eq_false_iff.mpr c49
           subst c49
           have H1 : (rf_ReadBills.j3 kj11 t165 x7_1 x8_1 true x179000_11 x179001_11 x179002_11 x179003_11 x179004_11 x179005_11) = some (r1, r2, r3) := by rw [if_neg (show ¬ (false = true) by decide)] at H; exact H
           clear H
           have H := H1
           clear H1
           have H' := Aside0.mk H
           clear H
           try go_wp2
           have n0_ := Aside0.mk (Kd.R_drew HO_5.out)
           have n1_ := Aside0.mk (Kd.S_drew HO_7.out)
           have n2_ := Aside0.mk (Kd.R_drew HO_179005.out)
           have n3_ := Aside0.mk (blk_drew BK178.out)
           have n4_ := Aside0.mk (below_drew1 HB.out)
           clear HO_5
           clear HO_7
           clear HO_179005
           clear BK178
           clear HB
           have HO_5 := n0_
           have HO_7 := n1_
           have HO_179005 := n2_
           have BK178 := n3_
           have HB := n4_
           clear n0_ n1_ n2_ n3_ n4_
           obtain ⟨Ao59, co59, eo59⟩ := Kd.R_slice HO_179005.out
           (first | subst eo59 | (injection eo59 with f1_ f2_ f3_; have f4_ := f1_.symm; have f5_ := f3_.symm; clear f1_ f2_ f3_; subst f4_; subst f5_))
           refine start_ (n := 13) (S := fun w' => w'.cell? ⟨gb178, 0, none⟩ = some (.int .i64 x179000_11) ∧ w'.cell? ⟨gb178, 1, none⟩ = some (.int .i64 x179001_11) ∧ w'.cell? ⟨gb178, 2, none⟩ = some (.int .i64 x179002_11) ∧ w'.cell? ⟨gb178, 3, none⟩ = some (.int .i64 x179003_11) ∧ w'.cell? ⟨gb178, 4, none⟩ = some (.int .i64 x179004_11) ∧ w'.cell? ⟨gb178, 5, none⟩ = some (.slice Ao59 x179005_11.length co59)) (ds := []) #[false, false, false, false, false, false, false, false, false, false, false, false, false] (by kernel_rfl) rfl rfl ⟨(blk_cell BK178.out 0).trans rfl, (blk_cell BK178.out 1).trans rfl, (blk_cell BK178.out 2).trans rfl, (blk_cell BK178.out 3).trans rfl, (blk_cell BK178.out 4).trans rfl, (blk_cell BK178.out 5).trans rfl⟩ (fun hHeld => ?_); refine with_tabW rf_ReadBills.tab27 rf_ReadBills.bits27 (fun HT_ HW_ => ?_)
           generalize wc.drew = w58 at HO_5 HO_7 HO_179005 BK178 HB hHeld ⊢
           refine take_ (i := 0) (N := some 127) (v := ?_) (a' := ?_) #[true, false, false, false, false, false, false, false, false, false, false, false, false] rfl rfl (take_ofW HT_.out HW_.out (by kernel_rfl)) (fun _ _ _ h => h) (Or.inl ⟨by rfl, ?_⟩) hHeld ?_ ?_
           rotate_left
           ·rintro w' ⟨s0, s1, s2, s3, s4, s5⟩
            go_simp
            with_reducible rfl
           rotate_left
           ·simp only [Act.put, xsA, xsZ, xsS, i64_w, i32_w]
            rfl
           refine one_ (i := 1) (N := some 128) #[true, true, false, false, false, false, false, false, false, false, false, false, false] rfl rfl (one_of HT_.out (by kernel_rfl)) (by decide) (fun K hK => ?_)
           refine goes_ Tryz.func26 (by kernel_rfl) rfl #[.agg #[.int .i64 x179000_11, .int .i64 x179001_11, .int .i64 x179002_11, .int .i64 x179003_11, .int .i64 x179004_11, .slice Ao59 x179005_11.length co59]] (by rfl) rfl rfl (by (try simp only [List.map_toArray, List.map_cons, List.map_nil]); first | done | rfl | (simp only [List.length_drop, List.length_take]; rfl)) ?_
           with_reducible refine (rf_Bill.calls kj11 x179000_11 x179001_11 x179002_11 x179003_11 x179004_11 _ _ x179005_11 false _ ?side1 ?side2 A48.out).mono ?_
           (case side1 => repeat (first | exact (Kd.R_reads' HO_179005.out).2.2 | (with_reducible refine Kd.C_alloc ?_ _) | (with_reducible refine Kd.C_drewN ?_ _) | (with_reducible refine Kd.C_drew ?_)))
           (case side2 => exact (Kd.R_reads' HO_179005.out).2.1)
           rintro e w60 ⟨rfl, hb⟩
           refine ⟨_, rfl, ?_⟩
           have n0_ := Aside0.mk (Kd.R_below (by (with_reducible repeat (first | apply Kd.R_alloc | apply Kd.R_drewN | apply Kd.R_drew)); exact HO_5.out) hb)
           have n1_ := Aside0.mk (Kd.S_below (by (with_reducible repeat (first | apply Kd.S_alloc | apply Kd.S_drewN | apply Kd.S_drew)); exact HO_7.out) hb)
           have n2_ := Aside0.mk (Kd.R_below (by (with_reducible repeat (first | apply Kd.R_alloc | apply Kd.R_drewN | apply Kd.R_drew)); exact HO_179005.out) hb)
           have n3_ := Aside0.mk (blk_below (g := gb178) (o := .cells #[.int .i64 x179000_11, .int .i64 x179001_11, .int .i64 x179002_11, .int .i64 x179003_11, .int .i64 x179004_11, .slice Ao59 x179005_11.length co59] 26 (0, 0)) (by (with_reducible repeat (first | refine blk_drewN ?_ _ | refine blk_drew ?_ | refine blk_alloc ?_ _)); exact BK178.out) hb)
           have n4_ := Aside0.mk (below_step (by repeat (first | (with_reducible first | exact HB.out | apply below_alloc | apply pw_below_drewN | apply below_drew1 | refine below_set ?_ GE178.out) | exact HB.out)) hb)
           clear HO_5
           clear HO_7
           clear HO_179005
           clear BK178
           clear HB
           have HO_5 := n0_
           have HO_7 := n1_
           have HO_179005 := n2_
           have BK178 := n3_
           have HB := n4_
           clear n0_ n1_ n2_ n3_ n4_
           (try clear hb)
           (try clear hb2)
           (try clear hk)
           (try clear hi)
           refine hK.out _ _ ⟨(blk_cell BK178.out 0).trans rfl, (blk_cell BK178.out 1).trans rfl, (blk_cell BK178.out 2).trans rfl, (blk_cell BK178.out 3).trans rfl, (blk_cell BK178.out 4).trans rfl, (blk_cell BK178.out 5).trans rfl⟩ (fun hHeld => ?_)
           clear hK K
           refine norm_ (a' := ?_) ?_ ?_
           rotate_left
           ·show Act.put _ (some 128) _ = _
            simp only [Act.put, xsA, xsZ, xsS, i64_w, i32_w]
            rfl
           refine pure_ (i := 2) (N := some 129) (v := ?_) (a' := ?_) #[true, true, true, false, false, false, false, false, false, false, false, false, false] rfl rfl (any_of HT_.out (by kernel_rfl)) (fun _ _ _ h => h) (Or.inl ⟨by rfl, ?_⟩) ?_ ?_
           rotate_left
           ·intro w'
            go_simp
            with_reducible rfl
           rotate_left
           ·simp only [Act.put, xsA, xsZ, xsS, i64_w, i32_w]
            rfl
           refine pure_ (i := 3) (N := some 130) (v := ?_) (a' := ?_) #[true, true, true, true, false, false, false, false, false, false, false, false, false] rfl rfl (any_of HT_.out (by kernel_rfl)) (fun _ _ _ h => h) (Or.inl ⟨by rfl, ?_⟩) ?_ ?_
           rotate_left
           ·intro w'
            go_simp
            with_reducible rfl
           rotate_left
           ·simp only [Act.put, xsA, xsZ, xsS, i64_w, i32_w]
            rfl
           refine pure_ (i := 4) (N := some 131) (v := undef) (a' := ?_) #[true, true, true, true, true, false, false, false, false, false, false, false, false] rfl rfl (any_of HT_.out (by kernel_rfl)) (fun _ _ _ h => h) (Or.inr ⟨by rfl, rfl⟩) ?_ ?_
           rotate_left
           ·simp only [Act.put, xsA, xsZ, xsS, i64_w, i32_w]
            rfl
           refine pure_ (i := 5) (N := some 132) (v := undef) (a' := ?_) #[true, true, true, true, true, true, false, false, false, false, false, false, false] rfl rfl (any_of HT_.out (by kernel_rfl)) (fun _ _ _ h => h) (Or.inr ⟨by rfl, rfl⟩) ?_ ?_
           rotate_left
           ·simp only [Act.put, xsA, xsZ, xsS, i64_w, i32_w]
            rfl
           refine pure_ (i := 6) (N := some 133) (v := undef) (a' := ?_) #[true, true, true, true, true, true, true, false, false, false, false, false, false] rfl rfl (any_of HT_.out (by kernel_rfl)) (fun _ _ _ h => h) (Or.inr ⟨by rfl, rfl⟩) ?_ ?_
           rotate_left
           ·simp only [Act.put, xsA, xsZ, xsS, i64_w, i32_w]
            rfl
           refine pure_ (i := 7) (N := some 134) (v := undef) (a' := ?_) #[true, true, true, true, true, true, true, true, false, false, false, false, false] rfl rfl (any_of HT_.out (by kernel_rfl)) (fun _ _ _ h => h) (Or.inr ⟨by rfl, rfl⟩) ?_ ?_
           rotate_left
           ·simp only [Act.put, xsA, xsZ, xsS, i64_w, i32_w]
            rfl
           refine pure_ (i := 8) (N := some 135) (v := undef) (a' := ?_) #[true, true, true, true, true, true, true, true, true, false, false, false, false] rfl rfl (any_of HT_.out (by kernel_rfl)) (fun _ _ _ h => h) (Or.inr ⟨by rfl, rfl⟩) ?_ ?_
           rotate_left
           ·simp only [Act.put, xsA, xsZ, xsS, i64_w, i32_w]
            rfl
           refine pure_ (i := 9) (N := some 136) (v := undef) (a' := ?_) #[true, true, true, true, true, true, true, true, true, true, false, false, false] rfl rfl (any_of HT_.out (by kernel_rfl)) (fun _ _ _ h => h) (Or.inr ⟨by rfl, rfl⟩) ?_ ?_
           rotate_left
           ·simp only [Act.put, xsA, xsZ, xsS, i64_w, i32_w]
            rfl
           refine pure_ (i := 10) (N := some 137) (v := undef) (a' := ?_) #[true, true, true, true, true, true, true, true, true, true, true, false, false] rfl rfl (any_of HT_.out (by kernel_rfl)) (fun _ _ _ h => h) (Or.inr ⟨by rfl, rfl⟩) ?_ ?_
           rotate_left
           ·simp only [Act.put, xsA, xsZ, xsS, i64_w, i32_w]
            rfl
           refine pure_ (i := 11) (N := some 138) (v := undef) (a' := ?_) #[true, true, true, true, true, true, true, true, true, true, true, true, false] rfl rfl (any_of HT_.out (by kernel_rfl)) (fun _ _ _ h => h) (Or.inr ⟨by rfl, rfl⟩) ?_ ?_
           rotate_left
           ·simp only [Act.put, xsA, xsZ, xsS, i64_w, i32_w]
            rfl
           refine pure_ (i := 12) (N := some 139) (v := ?_) (a' := ?_) #[true, true, true, true, true, true, true, true, true, true, true, true, true] rfl rfl (any_of HT_.out (by kernel_rfl)) (fun _ _ _ h => h) (Or.inl ⟨by rfl, ?_⟩) ?_ ?_
           rotate_left
           ·intro w'
            go_simp
            with_reducible rfl
           rotate_left
           ·simp only [Act.put, xsA, xsZ, xsS, i64_w, i32_w]
            rfl
           refine done_ (done_of HT_.out (by kernel_rfl)) ?_
           try go_wp2
           go_meet
           case rel => exact ⟨_, (true), (by first | rfl | (simp; done) | (simp [*]; done)), H', ⟨by have := HK1.out; have := HJ11.out; first | omega | exact Nat.le_refl _⟩, ⟨by (with_reducible repeat (first | apply Kd.R_alloc | apply Kd.R_drewN | apply Kd.R_drew)); exact HO_5.out⟩, ⟨by (with_reducible repeat (first | apply Kd.S_alloc | apply Kd.S_drewN | apply Kd.S_drew)); exact HO_7.out⟩, ⟨by (with_reducible repeat (first | apply Kd.R_alloc | apply Kd.R_drewN | apply Kd.R_drew)); exact HO_179005.out⟩, ⟨by (with_reducible repeat (first | refine blk_drewN ?_ _ | refine blk_drew ?_ | refine blk_alloc ?_ _)); exact BK178.out⟩, ⟨by repeat (first | (with_reducible first | exact HB.out | apply below_alloc | apply pw_below_drewN | apply below_drew1 | refine below_set ?_ GE178.out) | exact HB.out)⟩⟩
         case rest =>
          clear HC47
          try clear c1
          try clear p1
          try clear q1
          try clear hx1
          try clear qi1
          try clear c2
          try clear p2
          try clear q2
          try clear hx2
          try clear c3
          try clear c3b0
          try clear c3b1
          try clear c4
          try clear c5
          try clear p6
          try clear c7
          try clear c7b0
          try clear c8
          try clear c8b0
          try clear c10
          try clear c10b0
          try clear c10b1
          try clear p17
          try clear q17
          try clear hx17
          try clear qi17
          try clear p18
          try clear q18
          try clear hx18
          try clear qi18
          try clear c19
          try clear c19b0
          try clear c19b1
          try clear p19
          try clear q19
          try clear hx19
          try clear qi19
          try clear c20
          try clear c20b0
          try clear c20b1
          try clear p20
          try clear q20
          try clear hx20
          try clear c22
          try clear c22b0
          try clear c22b1
          try clear c24
          try clear c24b0
          try clear c24b1
          try clear c26
          try clear c26b0
          try clear c26b1
          try clear c27
          try clear c28
          try clear c29
          try clear c29b0
          try clear c29b1
          try clear c30
          try clear c30b0
          try clear c30b1
          try clear c31
          try clear c36
          try clear c36b0
          try clear c36b1
          try clear c37
          try clear c37b0
          try clear c38
          try clear c38b0
          try clear c38b1
          try clear c39
          try clear c39b0
          try clear c39b1
          try clear c41
          try clear c41b0
          try clear c42
          try clear c49
          try clear c51
          try clear c51b0
          try clear c52
          try clear c52b0
          try clear c53
          try clear c53b0
          try clear c53b1
          try clear c53b2
          try clear hcz17_0
          try clear hcz17_1
          try clear hcz17_2
          try clear hcz17_3
          try clear hcz17_4
          try clear hcz17_5
          try clear hcz32_0
          try clear hcz32_1
          try clear hcz32_2
          try clear hcz32_3
          try clear hcz32_4
          try clear hcz32_5
          try clear hcz43_0
          try clear hcz43_1
          try clear hcz43_2
          try clear hcz43_3
          try clear hcz43_4
          try clear hcz43_5
          try clear hcz46_0
          try clear hcz46_1
          try clear hcz46_2
          try clear hcz46_3
          try clear hcz46_4
          try clear hcz46_5
          try clear hfz17_0
          try clear hfz17_1
          try clear hfz17_2
          try clear hfz17_3
          try clear hfz17_4
          try clear hfz17_5
          try clear hfz32_0
          try clear hfz32_1
          try clear hfz32_2
          try clear hfz32_3
          try clear hfz32_4
          try clear hfz32_5
          try clear hfz43_0
          try clear hfz43_1
          try clear hfz43_2
          try clear hfz43_3
          try clear hfz43_4
          try clear hfz43_5
          try clear hfz46_0
          try clear hfz46_1
          try clear hfz46_2
          try clear hfz46_3
          try clear hfz46_4
          try clear hfz46_5
          try clear hx172_0
          try clear hx174_0
          try clear hx179_0
          try clear hx182_0
          try clear hx185_0
          try clear hx188_0
          try clear hx191_0
          try clear hx192_0
          try clear hx195_0
          try clear hx196_0
          try clear hx204_0
          try clear p1
          try clear p17
          try clear p172
          try clear p174
          try clear p179
          try clear p18
          try clear p182
          try clear p185
          try clear p188
          try clear p19
          try clear p191
          try clear p192
          try clear p195
          try clear p196
          try clear p2
          try clear p204
          try clear p6
          try clear q1
          try clear q17
          try clear q172
          try clear q174
          try clear q179
          try clear q18
          try clear q182
          try clear q185
          try clear q188
          try clear q19
          try clear q191
          try clear q192
          try clear q195
          try clear q196
          try clear q204
          obtain ⟨kq, x139_46, rfl, HA, HJ46, HO_5, HO_7, HO_179005, BK178, HB⟩ := hcut
          cases kq with
          | zero => exact absurd HA.out (by simp [rf_ReadBills.j3])
          | succ kj46 =>
           have H := HA.out
           clear HA
           simp only [rf_ReadBills.j3] at H
           by_cases c61 : x139_46 = true
           ·subst c61
            have H1 : (some (([] : List (S26)), x8_1, 4)) = some (r1, r2, r3) := by rw [if_pos rfl] at H; exact H
            clear H
            have H := H1
            clear H1
            simp only [Option.some.injEq, Prod.mk.injEq] at H
            obtain ⟨rfl, rfl, rfl⟩ := H
            go_wp2
            go_ret3
            exact ⟨_, by first | rfl | (simp [errW_none, errW_some] <;> rfl) | (simp [*, errW_none, errW_some] <;> rfl), by first | exact Kd.S_nil _ _ _ _ _ | exact Kd.N_nil _ _ _ _ _ | exact Kd.V_nil _ _ _ _ _ | exact Kd.Q_nil _ _ _ _ _ | exact Kd.R_nil _ _ _ _ _, by repeat (first | (with_reducible first | exact HB.out | apply below_alloc | apply pw_below_drewN | apply below_drew1 | refine below_set ?_ GE178.out) | exact HB.out)⟩
           ·replace c61 := Bool.eq_false_iff.mpr c61
            subst c61
            have H1 : (if x8_1 > 0 then (if 0 ≤ (wrap64 (x8_1 - 1)) then (if (wrap64 (x8_1 - 1)) < (x7_1.length : Int) then (if x179000_11 ≤ ((rd_T26 x7_1 (wrap64 (x8_1 - 1))).f0) then (some (([] : List (S26)), x8_1, 6)) else (if x7_1.length < 2199023255552 then (rf_ReadBills.l0 kj46 t165 (x7_1 ++ [(⟨x179000_11, x179001_11, x179002_11, x179003_11, x179004_11, x179005_11⟩ : S26)]) (wrap64 (x8_1 + 1))) else (none))) else (none)) else (none)) else (if x7_1.length < 2199023255552 then (rf_ReadBills.l0 kj46 t165 (x7_1 ++ [(⟨x179000_11, x179001_11, x179002_11, x179003_11, x179004_11, x179005_11⟩ : S26)]) (wrap64 (x8_1 + 1))) else (none))) = some (r1, r2, r3) := by rw [if_neg (show ¬ (false = true) by decide)] at H; exact H
            clear H
            have H := H1
            clear H1
            by_cases c62 : x8_1 > 0
            ·rw [if_pos c62] at H
             have c62b0 : decide (0 < x8_1) = true := decide_eq_true c62
             clear c62
             obtain ⟨ji63, hji63⟩ : ∃ j_ : Int, (wrap64 (x8_1 - 1)) = j_ := ⟨_, rfl⟩
             replace H : (if 0 ≤ (ji63) then (if (ji63) < (x7_1.length : Int) then (if x179000_11 ≤ ((rd_T26 x7_1 (ji63)).f0) then (some (([] : List (S26)), x8_1, 6)) else (if x7_1.length < 2199023255552 then (rf_ReadBills.l0 kj46 t165 (x7_1 ++ [(⟨x179000_11, x179001_11, x179002_11, x179003_11, x179004_11, x179005_11⟩ : S26)]) (wrap64 (x8_1 + 1))) else (none))) else (none)) else (none)) = some (r1, r2, r3) := by first | (rw [hji63] at H; exact H) | (simp only [hji63] at H ⊢; exact H)
             have hji63w : (IntKind.i64.wrap (x8_1 - 1)) = ji63 := (i64_w _).trans hji63
             by_cases c64 : 0 ≤ (ji63)
             ·rw [if_pos c64] at H
              have c64b0 : decide (0 ≤ (ji63)) = true := decide_eq_true c64
              clear c64
              by_cases c65 : (ji63) < (x7_1.length : Int)
              ·rw [if_pos c65] at H
               have c65b0 : decide ((ji63) < (x7_1.length : Int)) = true := decide_eq_true c65
               clear c65
               by_cases c66 : x179000_11 ≤ ((rd_T26 x7_1 (ji63)).f0)
               ·rw [if_pos c66] at H
                have c66b0 : decide (x179000_11 ≤ ((rd_T26 x7_1 (ji63)).f0)) = true := decide_eq_true c66
                clear c66
                simp only [Option.some.injEq, Prod.mk.injEq] at H
                obtain ⟨rfl, rfl, rfl⟩ := H
                try go_wp2
                have n0_ := Aside0.mk (Kd.R_drew HO_5.out)
                have n1_ := Aside0.mk (Kd.S_drew HO_7.out)
                have n2_ := Aside0.mk (Kd.R_drew HO_179005.out)
                have n3_ := Aside0.mk (blk_drew BK178.out)
                have n4_ := Aside0.mk (below_drew1 HB.out)
                clear HO_5
                clear HO_7
                clear HO_179005
                clear BK178
                clear HB
                have HO_5 := n0_
                have HO_7 := n1_
                have HO_179005 := n2_
                have BK178 := n3_
                have HB := n4_
                clear n0_ n1_ n2_ n3_ n4_
                obtain ⟨Ao68, co68, eo68⟩ := Kd.S_slice HO_7.out
                (first | subst eo68 | (injection eo68 with f1_ f2_ f3_; have f4_ := f1_.symm; have f5_ := f3_.symm; clear f1_ f2_ f3_; subst f4_; subst f5_))
                have p205 : 0 ≤ ((ji63) : Int) := of_decide_eq_true (by first | (with_reducible assumption) | assumption)
                have q205 : (ji63) < (x7_1.length : Int) := of_decide_eq_true (by first | (with_reducible assumption) | assumption)
                obtain ⟨ad205, A205_5, c205_5, e205, hx205_0, hx205_1, hx205_2, hx205_3, hx205_4, hx205_5, hl205_5, hi205_5⟩ := at_T26 (Kd.S_reads' HO_7.out).2.2 (ji63) p205 q205
                cases e205
                obtain ⟨ce205, hce205, hMe205, hcc205⟩ := Kd.S_get HO_7.out z26 (ji63) p205 (by first | exact q205 | exact of_decide_eq_true (by first | (with_reducible assumption) | assumption) | (have e_ := (Kd.S_reads' HO_7.out).1; omega))
                obtain ⟨ve205_5, rfl, ge205_5⟩ := k26_openM hMe205
                have hv205_5 := hcc205 5 _ rfl
                rw [add_field _ _ 5 (by omega)] at hv205_5
                replace hv205_5 := Option.some.inj (hv205_5.symm.trans hx205_5)
                rw [hv205_5] at ge205_5
                have HL205_5 := Aside0.mk (show Kd.R (Kd.int .i64) 3 _ _ _ _ ((rd_T26 x7_1 (ji63)).f5) from ge205_5)
                clear hv205_5 ge205_5
                clear hcc205 hce205
                have HR205_5 := Aside0.mk hi205_5
                have HC205_5 := Aside0.mk hl205_5
                clear hi205_5 hl205_5
                replace p205 := eq_true p205
                replace q205 := eq_true q205
                refine start_ (n := 13) (S := fun w' => w'.cell? ⟨gb178, 0, none⟩ = some (.int .i64 x179000_11) ∧ w'.cell? ⟨gb178, 1, none⟩ = some (.int .i64 x179001_11) ∧ w'.cell? ⟨gb178, 2, none⟩ = some (.int .i64 x179002_11) ∧ w'.cell? ⟨gb178, 3, none⟩ = some (.int .i64 x179003_11) ∧ w'.cell? ⟨gb178, 4, none⟩ = some (.int .i64 x179004_11) ∧ w'.cell? ⟨gb178, 5, none⟩ = some (u179005) ∧ w'.cell? (ad205.add (((ji63)).toNat * 6)) = some (.int .i64 ((rd_T26 x7_1 (ji63)).f0)) ∧ w'.cell? ⟨(ad205.add (((ji63)).toNat * 6)).block, (ad205.add (((ji63)).toNat * 6)).off + 1, none⟩ = some (.int .i64 ((rd_T26 x7_1 (ji63)).f1)) ∧ w'.cell? ⟨(ad205.add (((ji63)).toNat * 6)).block, (ad205.add (((ji63)).toNat * 6)).off + 2, none⟩ = some (.int .i64 ((rd_T26 x7_1 (ji63)).f2)) ∧ w'.cell? ⟨(ad205.add (((ji63)).toNat * 6)).block, (ad205.add (((ji63)).toNat * 6)).off + 3, none⟩ = some (.int .i64 ((rd_T26 x7_1 (ji63)).f3)) ∧ w'.cell? ⟨(ad205.add (((ji63)).toNat * 6)).block, (ad205.add (((ji63)).toNat * 6)).off + 4, none⟩ = some (.int .i64 ((rd_T26 x7_1 (ji63)).f4)) ∧ w'.cell? ⟨(ad205.add (((ji63)).toNat * 6)).block, (ad205.add (((ji63)).toNat * 6)).off + 5, none⟩ = some (.slice A205_5 ((rd_T26 x7_1 (ji63)).f5).length c205_5)) (ds := []) #[false, false, false, false, false, false, false, false, false, false, false, false, false] (by kernel_rfl) rfl rfl ⟨(blk_cell BK178.out 0).trans rfl, (blk_cell BK178.out 1).trans rfl, (blk_cell BK178.out 2).trans rfl, (blk_cell BK178.out 3).trans rfl, (blk_cell BK178.out 4).trans rfl, (blk_cell BK178.out 5).trans rfl, hx205_0, hx205_1, hx205_2, hx205_3, hx205_4, hx205_5⟩ (fun hHeld => ?_); refine with_tabW rf_ReadBills.tab29 rf_ReadBills.bits29 (fun HT_ HW_ => ?_)
                generalize wc.drew = w67 at HO_5 HO_7 HO_179005 BK178 HB HL205_5 HR205_5 hx205_0 hx205_1 hx205_2 hx205_3 hx205_4 hx205_5 hHeld ⊢
                refine pure_ (i := 0) (N := some 141) (v := ?_) (a' := ?_) #[true, false, false, false, false, false, false, false, false, false, false, false, false] rfl rfl (any_of HT_.out (by kernel_rfl)) (fun _ _ _ h => h) (Or.inl ⟨by rfl, ?_⟩) ?_ ?_
                rotate_left
                ·intro w'
                 go_simp
                 with_reducible rfl
                rotate_left
                ·simp only [Act.put, xsA, xsZ, xsS, i64_w, i32_w]
                 rfl
                refine pure_ (i := 1) (N := some 142) (v := ?_) (a' := ?_) #[true, true, false, false, false, false, false, false, false, false, false, false, false] rfl rfl (any_of HT_.out (by kernel_rfl)) (fun _ _ _ h => h) (Or.inl ⟨by rfl, ?_⟩) ?_ ?_
                rotate_left
                ·intro w'
                 go_simp
                 with_reducible rfl
                rotate_left
                ·simp only [Act.put, xsA, xsZ, xsS, i64_w, i32_w]
                 rfl
                refine pure_ (i := 2) (N := some 143) (v := ?_) (a' := ?_) #[true, true, true, false, false, false, false, false, false, false, false, false, false] rfl rfl (any_of HT_.out (by kernel_rfl)) (fun _ _ _ h => h) (Or.inl ⟨by rfl, ?_⟩) ?_ ?_
                rotate_left
                ·intro w'
                 go_simp
                 with_reducible rfl
                rotate_left
                ·simp only [Act.put, xsA, xsZ, xsS, i64_w, i32_w]
                 rfl
                refine pure_ (i := 3) (N := some 144) (v := ?_) (a' := ?_) #[true, true, true, true, false, false, false, false, false, false, false, false, false] rfl rfl (any_of HT_.out (by kernel_rfl)) (fun _ _ _ h => h) (Or.inl ⟨by rfl, ?_⟩) ?_ ?_
                rotate_left
                ·intro w'
                 go_simp
                 with_reducible rfl
                rotate_left
                ·simp only [Act.put, xsA, xsZ, xsS, i64_w, i32_w]
                 rfl
                refine pure_ (i := 5) (N := some 146) (v := ?_) (a' := ?_) #[true, true, true, true, false, true, false, false, false, false, false, false, false] rfl rfl (any_of HT_.out (by kernel_rfl)) (fun _ _ _ h => h) (Or.inl ⟨by rfl, ?_⟩) ?_ ?_
                rotate_left
                ·intro w'
                 go_simp
                 with_reducible rfl
                rotate_left
                ·simp only [Act.put, xsA, xsZ, xsS, i64_w, i32_w]
                 rfl
                refine pure_ (i := 6) (N := some 147) (v := ?_) (a' := ?_) #[true, true, true, true, false, true, true, false, false, false, false, false, false] rfl rfl (any_of HT_.out (by kernel_rfl)) (fun _ _ _ h => h) (Or.inl ⟨by rfl, ?_⟩) ?_ ?_
                rotate_left
                ·intro w'
                 go_simp
                 with_reducible rfl
                rotate_left
                ·simp only [Act.put, xsA, xsZ, xsS, i64_w, i32_w]
                 rfl
                refine pure_ (i := 7) (N := some 148) (v := ?_) (a' := ?_) #[true, true, true, true, false, true, true, true, false, false, false, false, false] rfl rfl (any_of HT_.out (by kernel_rfl)) (fun _ _ _ h => h) (Or.inl ⟨by rfl, ?_⟩) ?_ ?_
                rotate_left
                ·intro w'
                 go_simp
                 with_reducible rfl
                rotate_left
                ·simp only [Act.put, xsA, xsZ, xsS, i64_w, i32_w]
                 rfl
                refine pure_ (i := 8) (N := some 149) (v := ?_) (a' := ?_) #[true, true, true, true, false, true, true, true, true, false, false, false, false] rfl rfl (any_of HT_.out (by kernel_rfl)) (fun _ _ _ h => h) (Or.inl ⟨by rfl, ?_⟩) ?_ ?_
                rotate_left
                ·intro w'
                 go_simp
                 with_reducible rfl
                rotate_left
                ·simp only [Act.put, xsA, xsZ, xsS, i64_w, i32_w]
                 rfl
                refine pure_ (i := 9) (N := some 150) (v := ?_) (a' := ?_) #[true, true, true, true, false, true, true, true, true, true, false, false, false] rfl rfl (any_of HT_.out (by kernel_rfl)) (fun _ _ _ h => h) (Or.inl ⟨by rfl, ?_⟩) ?_ ?_
                rotate_left
                ·intro w'
                 go_simp
                 with_reducible rfl
                rotate_left
                ·simp only [Act.put, xsA, xsZ, xsS, i64_w, i32_w]
                 rfl
                refine take_ (i := 4) (N := some 145) (v := ?_) (a' := ?_) #[true, true, true, true, true, true, true, true, true, true, false, false, false] rfl rfl (take_ofW HT_.out HW_.out (by kernel_rfl)) (fun _ _ _ h => h) (Or.inl ⟨by rfl, ?_⟩) hHeld ?_ ?_
                rotate_left
                ·rintro w' ⟨s0, s1, s2, s3, s4, s5, s6, s7, s8, s9, s10, s11⟩
                 go_simp
                 with_reducible rfl
                rotate_left
                ·simp only [Act.put, xsA, xsZ, xsS, i64_w, i32_w]
                 rfl
                refine take_ (i := 10) (N := some 151) (v := ?_) (a' := ?_) #[true, true, true, true, true, true, true, true, true, true, true, false, false] rfl rfl (take_ofW HT_.out HW_.out (by kernel_rfl)) (fun _ _ _ h => h) (Or.inl ⟨by rfl, ?_⟩) hHeld ?_ ?_
                rotate_left
                ·rintro w' ⟨s0, s1, s2, s3, s4, s5, s6, s7, s8, s9, s10, s11⟩
                 go_simp
                 with_reducible rfl
                rotate_left
                ·simp only [Act.put, xsA, xsZ, xsS, i64_w, i32_w]
                 rfl
                refine pure_ (i := 11) (N := some 152) (v := ?_) (a' := ?_) #[true, true, true, true, true, true, true, true, true, true, true, true, false] rfl rfl (any_of HT_.out (by kernel_rfl)) (fun _ _ _ h => h) (Or.inl ⟨by rfl, ?_⟩) ?_ ?_
                rotate_left
                ·intro w'
                 go_simp
                 with_reducible rfl
                rotate_left
                ·simp only [Act.put, xsA, xsZ, xsS, i64_w, i32_w]
                 rfl
                refine pure_ (i := 12) (N := some 153) (v := ?_) (a' := ?_) #[true, true, true, true, true, true, true, true, true, true, true, true, true] rfl rfl (any_of HT_.out (by kernel_rfl)) (fun _ _ _ h => h) (Or.inl ⟨by rfl, ?_⟩) ?_ ?_
                rotate_left
                ·intro w'
                 go_simp
                 with_reducible rfl
                rotate_left
                ·simp only [Act.put, xsA, xsZ, xsS, i64_w, i32_w]
                 rfl
                refine done_ (done_of HT_.out (by kernel_rfl)) ?_
                try go_wp2
                go_ret3
                exact ⟨_, by first | rfl | (simp [errW_none, errW_some] <;> rfl) | (simp only [← hji63]; first | rfl | (simp [errW_none, errW_some] <;> rfl)) | (simp [*, errW_none, errW_some] <;> rfl), by first | exact Kd.S_nil _ _ _ _ _ | exact Kd.N_nil _ _ _ _ _ | exact Kd.V_nil _ _ _ _ _ | exact Kd.Q_nil _ _ _ _ _ | exact Kd.R_nil _ _ _ _ _, by repeat (first | (with_reducible first | exact HB.out | apply below_alloc | apply pw_below_drewN | apply below_drew1 | refine below_set ?_ GE178.out) | exact HB.out)⟩
               ·rw [if_neg c66] at H
                have c66b0 : decide (x179000_11 ≤ ((rd_T26 x7_1 (ji63)).f0)) = false := decide_eq_false c66
                clear c66
                by_cases c69 : x7_1.length < 2199023255552
                ·rw [if_pos c69] at H
                 have LMc69 := Aside0.mk c69
                 clear c69
                 obtain ⟨y206, hy206⟩ : ∃ y_ : List (S26), y_ = (x7_1 ++ [(⟨x179000_11, x179001_11, x179002_11, x179003_11, x179004_11, x179005_11⟩ : S26)]) := ⟨_, rfl⟩
                 replace H : (rf_ReadBills.l0 kj46 t165 y206 (wrap64 (x8_1 + 1))) = some (r1, r2, r3) := by first | (rw [hy206]; with_reducible exact H) | (have H2_ := (Option.bind_some _ _).symm.trans H; rw [hy206]; with_reducible exact H2_) | (have H2_ := (Option.bind_some _ _).symm.trans H; with_reducible exact H2_) | with_reducible exact H | (rw [hy206]; exact H) | exact H
                 have Ny206 := Aside0.mk hy206
                 clear hy206
                 have H' := Aside0.mk H
                 clear H
                 try go_wp2
                 have n0_ := Aside0.mk (Kd.R_drew HO_5.out)
                 have n1_ := Aside0.mk (Kd.S_drew HO_7.out)
                 have n2_ := Aside0.mk (Kd.R_drew HO_179005.out)
                 have n3_ := Aside0.mk (blk_drew BK178.out)
                 have n4_ := Aside0.mk (below_drew1 HB.out)
                 clear HO_5
                 clear HO_7
                 clear HO_179005
                 clear BK178
                 clear HB
                 have HO_5 := n0_
                 have HO_7 := n1_
                 have HO_179005 := n2_
                 have BK178 := n3_
                 have HB := n4_
                 clear n0_ n1_ n2_ n3_ n4_
                 obtain ⟨Ao71, co71, eo71⟩ := Kd.S_slice HO_7.out
                 (first | subst eo71 | (injection eo71 with f1_ f2_ f3_; have f4_ := f1_.symm; have f5_ := f3_.symm; clear f1_ f2_ f3_; subst f4_; subst f5_))
                 have p205 : 0 ≤ ((ji63) : Int) := of_decide_eq_true (by first | (with_reducible assumption) | assumption)
                 have q205 : (ji63) < (x7_1.length : Int) := of_decide_eq_true (by first | (with_reducible assumption) | assumption)
                 obtain ⟨ad205, A205_5, c205_5, e205, hx205_0, hx205_1, hx205_2, hx205_3, hx205_4, hx205_5, hl205_5, hi205_5⟩ := at_T26 (Kd.S_reads' HO_7.out).2.2 (ji63) p205 q205
                 cases e205
                 obtain ⟨ce205, hce205, hMe205, hcc205⟩ := Kd.S_get HO_7.out z26 (ji63) p205 (by first | exact q205 | exact of_decide_eq_true (by first | (with_reducible assumption) | assumption) | (have e_ := (Kd.S_reads' HO_7.out).1; omega))
                 obtain ⟨ve205_5, rfl, ge205_5⟩ := k26_openM hMe205
                 have hv205_5 := hcc205 5 _ rfl
                 rw [add_field _ _ 5 (by omega)] at hv205_5
                 replace hv205_5 := Option.some.inj (hv205_5.symm.trans hx205_5)
                 rw [hv205_5] at ge205_5
                 have HL205_5 := Aside0.mk (show Kd.R (Kd.int .i64) 3 _ _ _ _ ((rd_T26 x7_1 (ji63)).f5) from ge205_5)
                 clear hv205_5 ge205_5
                 clear hcc205 hce205
                 have HR205_5 := Aside0.mk hi205_5
                 have HC205_5 := Aside0.mk hl205_5
                 clear hi205_5 hl205_5
                 replace p205 := eq_true p205
                 replace q205 := eq_true q205
                 refine start_ (n := 13) (S := fun w' => w'.cell? ⟨gb178, 0, none⟩ = some (.int .i64 x179000_11) ∧ w'.cell? ⟨gb178, 1, none⟩ = some (.int .i64 x179001_11) ∧ w'.cell? ⟨gb178, 2, none⟩ = some (.int .i64 x179002_11) ∧ w'.cell? ⟨gb178, 3, none⟩ = some (.int .i64 x179003_11) ∧ w'.cell? ⟨gb178, 4, none⟩ = some (.int .i64 x179004_11) ∧ w'.cell? ⟨gb178, 5, none⟩ = some (u179005) ∧ w'.cell? (ad205.add (((ji63)).toNat * 6)) = some (.int .i64 ((rd_T26 x7_1 (ji63)).f0)) ∧ w'.cell? ⟨(ad205.add (((ji63)).toNat * 6)).block, (ad205.add (((ji63)).toNat * 6)).off + 1, none⟩ = some (.int .i64 ((rd_T26 x7_1 (ji63)).f1)) ∧ w'.cell? ⟨(ad205.add (((ji63)).toNat * 6)).block, (ad205.add (((ji63)).toNat * 6)).off + 2, none⟩ = some (.int .i64 ((rd_T26 x7_1 (ji63)).f2)) ∧ w'.cell? ⟨(ad205.add (((ji63)).toNat * 6)).block, (ad205.add (((ji63)).toNat * 6)).off + 3, none⟩ = some (.int .i64 ((rd_T26 x7_1 (ji63)).f3)) ∧ w'.cell? ⟨(ad205.add (((ji63)).toNat * 6)).block, (ad205.add (((ji63)).toNat * 6)).off + 4, none⟩ = some (.int .i64 ((rd_T26 x7_1 (ji63)).f4)) ∧ w'.cell? ⟨(ad205.add (((ji63)).toNat * 6)).block, (ad205.add (((ji63)).toNat * 6)).off + 5, none⟩ = some (.slice A205_5 ((rd_T26 x7_1 (ji63)).f5).length c205_5)) (ds := []) #[false, false, false, false, false, false, false, false, false, false, false, false, false] (by kernel_rfl) rfl rfl ⟨(blk_cell BK178.out 0).trans rfl, (blk_cell BK178.out 1).trans rfl, (blk_cell BK178.out 2).trans rfl, (blk_cell BK178.out 3).trans rfl, (blk_cell BK178.out 4).trans rfl, (blk_cell BK178.out 5).trans rfl, hx205_0, hx205_1, hx205_2, hx205_3, hx205_4, hx205_5⟩ (fun hHeld => ?_); refine with_tabW rf_ReadBills.tab29 rf_ReadBills.bits29 (fun HT_ HW_ => ?_)
                 generalize wc.drew = w70 at HO_5 HO_7 HO_179005 BK178 HB HL205_5 HR205_5 hx205_0 hx205_1 hx205_2 hx205_3 hx205_4 hx205_5 hHeld ⊢
                 refine pure_ (i := 0) (N := some 141) (v := ?_) (a' := ?_) #[true, false, false, false, false, false, false, false, false, false, false, false, false] rfl rfl (any_of HT_.out (by kernel_rfl)) (fun _ _ _ h => h) (Or.inl ⟨by rfl, ?_⟩) ?_ ?_
                 rotate_left
                 ·intro w'
                  go_simp
                  with_reducible rfl
                 rotate_left
                 ·simp only [Act.put, xsA, xsZ, xsS, i64_w, i32_w]
                  rfl
                 refine pure_ (i := 1) (N := some 142) (v := ?_) (a' := ?_) #[true, true, false, false, false, false, false, false, false, false, false, false, false] rfl rfl (any_of HT_.out (by kernel_rfl)) (fun _ _ _ h => h) (Or.inl ⟨by rfl, ?_⟩) ?_ ?_
                 rotate_left
                 ·intro w'
                  go_simp
                  with_reducible rfl
                 rotate_left
                 ·simp only [Act.put, xsA, xsZ, xsS, i64_w, i32_w]
                  rfl
                 refine pure_ (i := 2) (N := some 143) (v := ?_) (a' := ?_) #[true, true, true, false, false, false, false, false, false, false, false, false, false] rfl rfl (any_of HT_.out (by kernel_rfl)) (fun _ _ _ h => h) (Or.inl ⟨by rfl, ?_⟩) ?_ ?_
                 rotate_left
                 ·intro w'
                  go_simp
                  with_reducible rfl
                 rotate_left
                 ·simp only [Act.put, xsA, xsZ, xsS, i64_w, i32_w]
                  rfl
                 refine pure_ (i := 3) (N := some 144) (v := ?_) (a' := ?_) #[true, true, true, true, false, false, false, false, false, false, false, false, false] rfl rfl (any_of HT_.out (by kernel_rfl)) (fun _ _ _ h => h) (Or.inl ⟨by rfl, ?_⟩) ?_ ?_
                 rotate_left
                 ·intro w'
                  go_simp
                  with_reducible rfl
                 rotate_left
                 ·simp only [Act.put, xsA, xsZ, xsS, i64_w, i32_w]
                  rfl
                 refine pure_ (i := 5) (N := some 146) (v := ?_) (a' := ?_) #[true, true, true, true, false, true, false, false, false, false, false, false, false] rfl rfl (any_of HT_.out (by kernel_rfl)) (fun _ _ _ h => h) (Or.inl ⟨by rfl, ?_⟩) ?_ ?_
                 rotate_left
                 ·intro w'
                  go_simp
                  with_reducible rfl
                 rotate_left
                 ·simp only [Act.put, xsA, xsZ, xsS, i64_w, i32_w]
                  rfl
                 refine pure_ (i := 6) (N := some 147) (v := ?_) (a' := ?_) #[true, true, true, true, false, true, true, false, false, false, false, false, false] rfl rfl (any_of HT_.out (by kernel_rfl)) (fun _ _ _ h => h) (Or.inl ⟨by rfl, ?_⟩) ?_ ?_
                 rotate_left
                 ·intro w'
                  go_simp
                  with_reducible rfl
                 rotate_left
                 ·simp only [Act.put, xsA, xsZ, xsS, i64_w, i32_w]
                  rfl
                 refine pure_ (i := 7) (N := some 148) (v := ?_) (a' := ?_) #[true, true, true, true, false, true, true, true, false, false, false, false, false] rfl rfl (any_of HT_.out (by kernel_rfl)) (fun _ _ _ h => h) (Or.inl ⟨by rfl, ?_⟩) ?_ ?_
                 rotate_left
                 ·intro w'
                  go_simp
                  with_reducible rfl
                 rotate_left
                 ·simp only [Act.put, xsA, xsZ, xsS, i64_w, i32_w]
                  rfl
                 refine pure_ (i := 8) (N := some 149) (v := ?_) (a' := ?_) #[true, true, true, true, false, true, true, true, true, false, false, false, false] rfl rfl (any_of HT_.out (by kernel_rfl)) (fun _ _ _ h => h) (Or.inl ⟨by rfl, ?_⟩) ?_ ?_
                 rotate_left
                 ·intro w'
                  go_simp
                  with_reducible rfl
                 rotate_left
                 ·simp only [Act.put, xsA, xsZ, xsS, i64_w, i32_w]
                  rfl
                 refine pure_ (i := 9) (N := some 150) (v := ?_) (a' := ?_) #[true, true, true, true, false, true, true, true, true, true, false, false, false] rfl rfl (any_of HT_.out (by kernel_rfl)) (fun _ _ _ h => h) (Or.inl ⟨by rfl, ?_⟩) ?_ ?_
                 rotate_left
                 ·intro w'
                  go_simp
                  with_reducible rfl
                 rotate_left
                 ·simp only [Act.put, xsA, xsZ, xsS, i64_w, i32_w]
                  rfl
                 refine take_ (i := 4) (N := some 145) (v := ?_) (a' := ?_) #[true, true, true, true, true, true, true, true, true, true, false, false, false] rfl rfl (take_ofW HT_.out HW_.out (by kernel_rfl)) (fun _ _ _ h => h) (Or.inl ⟨by rfl, ?_⟩) hHeld ?_ ?_
                 rotate_left
                 ·rintro w' ⟨s0, s1, s2, s3, s4, s5, s6, s7, s8, s9, s10, s11⟩
                  go_simp
                  with_reducible rfl
                 rotate_left
                 ·simp only [Act.put, xsA, xsZ, xsS, i64_w, i32_w]
                  rfl
                 refine take_ (i := 10) (N := some 151) (v := ?_) (a' := ?_) #[true, true, true, true, true, true, true, true, true, true, true, false, false] rfl rfl (take_ofW HT_.out HW_.out (by kernel_rfl)) (fun _ _ _ h => h) (Or.inl ⟨by rfl, ?_⟩) hHeld ?_ ?_
                 rotate_left
                 ·rintro w' ⟨s0, s1, s2, s3, s4, s5, s6, s7, s8, s9, s10, s11⟩
                  go_simp
                  with_reducible rfl
                 rotate_left
                 ·simp only [Act.put, xsA, xsZ, xsS, i64_w, i32_w]
                  rfl
                 refine pure_ (i := 11) (N := some 152) (v := ?_) (a' := ?_) #[true, true, true, true, true, true, true, true, true, true, true, true, false] rfl rfl (any_of HT_.out (by kernel_rfl)) (fun _ _ _ h => h) (Or.inl ⟨by rfl, ?_⟩) ?_ ?_
                 rotate_left
                 ·intro w'
                  go_simp
                  with_reducible rfl
                 rotate_left
                 ·simp only [Act.put, xsA, xsZ, xsS, i64_w, i32_w]
                  rfl
                 refine pure_ (i := 12) (N := some 153) (v := ?_) (a' := ?_) #[true, true, true, true, true, true, true, true, true, true, true, true, true] rfl rfl (any_of HT_.out (by kernel_rfl)) (fun _ _ _ h => h) (Or.inl ⟨by rfl, ?_⟩) ?_ ?_
                 rotate_left
                 ·intro w'
                  go_simp
                  with_reducible rfl
                 rotate_left
                 ·simp only [Act.put, xsA, xsZ, xsS, i64_w, i32_w]
                  rfl
                 refine done_ (done_of HT_.out (by kernel_rfl)) ?_
                 have hcz72_0 : w70.cell? ⟨gb178, 0, none⟩ = some (.int .i64 x179000_11) := (blk_cell BK178.out 0).trans rfl
                 have hcz72_1 : w70.cell? ⟨gb178, 1, none⟩ = some (.int .i64 x179001_11) := (blk_cell BK178.out 1).trans rfl
                 have hcz72_2 : w70.cell? ⟨gb178, 2, none⟩ = some (.int .i64 x179002_11) := (blk_cell BK178.out 2).trans rfl
                 have hcz72_3 : w70.cell? ⟨gb178, 3, none⟩ = some (.int .i64 x179003_11) := (blk_cell BK178.out 3).trans rfl
                 have hcz72_4 : w70.cell? ⟨gb178, 4, none⟩ = some (.int .i64 x179004_11) := (blk_cell BK178.out 4).trans rfl
                 have hcz72_5 : w70.cell? ⟨gb178, 5, none⟩ = some (u179005) := (blk_cell BK178.out 5).trans rfl
                 have hfz72_0 := blk_frozen BK178.out 0
                 have hfz72_1 := blk_frozen BK178.out 1
                 have hfz72_2 := blk_frozen BK178.out 2
                 have hfz72_3 := blk_frozen BK178.out 3
                 have hfz72_4 := blk_frozen BK178.out 4
                 have hfz72_5 := blk_frozen BK178.out 5
                 obtain ⟨Ao74, co74, eo74⟩ := Kd.R_slice HO_179005.out
                 subst eo74
                 try go_wp2_with (first | ((with_reducible refine gate_builtin (b := .append) (xs := #[.tmp 155, .tmp 157]) rfl ?_); at_builtin; refine Kd.S_append k26 (w0 := w) w.heap.size rfl (.tmp 155) (.tmp 157) 22 26 (.agg #[(.int .i64 0), (.int .i64 0), (.int .i64 0), (.int .i64 0), (.int .i64 0), (.slice none 0 0)]) 64 rfl Tryz.underlying22 info26 rfl (by decide) (by omega) (.slice (some ad205) x7_1.length co71) x7_1 (⟨x179000_11, x179001_11, x179002_11, x179003_11, x179004_11, x179005_11⟩ : S26) [.int .i64 x179000_11, .int .i64 x179001_11, .int .i64 x179002_11, .int .i64 x179003_11, .int .i64 x179004_11, .slice Ao74 x179005_11.length co74] (fun k_ => k_ ≠ gb178) (fun k_ => some k_ = (.slice Ao74 x179005_11.length co74 : Value).ownBlock) rfl rfl ?aP (fun k_ hk_ => ((Kd.R_mono (ok' := fun k_ => ((fun k_ => k_ ≠ gb178)) k_ ∧ some k_ ≠ (.slice (some ad205) x7_1.length co71 : Value).ownBlock) (Kd.R_types (Kd.R_apart' (HO_179005.out) (Kd.S_typed HO_7.out) (by decide)) BK178.out (by decide)) (fun k_ hk => ⟨hk.2, hk.1.2⟩))).1 k_ hk_.symm) ?aF ?aO ?aB ?aS ?aL ?_; (case aP => exact k26_mkM _ _ _ (⟨x179000_11, x179001_11, x179002_11, x179003_11, x179004_11, x179005_11⟩ : S26) (Kd.R_mono (Kd.R_tight rfl (Kd.R_mono (ok' := fun k_ => ((fun k_ => k_ ≠ gb178)) k_ ∧ some k_ ≠ (.slice (some ad205) x7_1.length co71 : Value).ownBlock) (Kd.R_types (Kd.R_apart' (HO_179005.out) (Kd.S_typed HO_7.out) (by decide)) BK178.out (by decide)) (fun k_ hk => ⟨hk.2, hk.1.2⟩))) (fun _ h_ => h_))); (case aB => exact (by repeat (first | (with_reducible first | exact HB.out | apply below_alloc | apply pw_below_drewN | apply below_drew1 | refine below_set ?_ GE178.out) | exact HB.out))); (case aF => exact (fun k_ hk => Kd.freshB (g := gb178) (o := .cells #[.int .i64 x179000_11, .int .i64 x179001_11, .int .i64 x179002_11, .int .i64 x179003_11, .int .i64 x179004_11, .slice Ao74 x179005_11.length co74] 26 (0, 0)) (by (with_reducible repeat (first | refine blk_drewN ?_ _ | refine blk_drew ?_ | refine blk_alloc ?_ _)); exact BK178.out) k_ hk)); (case aO => exact (by (with_reducible repeat (first | apply Kd.S_alloc | apply Kd.S_drewN | apply Kd.S_drew)); exact Kd.S_mono HO_7.out (fun k_ hk => ⟨hk.2, fun e_ => hk.1 e_⟩))); (case aS => exact (below_size (by repeat (first | (with_reducible first | exact HB.out | apply below_alloc | apply pw_below_drewN | apply below_drew1 | refine below_set ?_ GE178.out) | exact HB.out)))); (case aL => have := LMc69.out; omega); intro v207 w73 ho hb hg hat; rw [← Ny206.out] at ho; have n0_ := Aside0.mk (Kd.R_over' (by (with_reducible repeat (first | apply Kd.R_alloc | apply Kd.R_drewN | apply Kd.R_drew)); exact HO_5.out) (Kd.S_typed (by (with_reducible repeat (first | apply Kd.S_alloc | apply Kd.S_drewN | apply Kd.S_drew)); exact HO_7.out)) (by decide) hg); have n1_ := Aside0.mk (blk_grown (g := gb178) (o := .cells #[.int .i64 x179000_11, .int .i64 x179001_11, .int .i64 x179002_11, .int .i64 x179003_11, .int .i64 x179004_11, .slice Ao74 x179005_11.length co74] 26 (0, 0)) (by (with_reducible repeat (first | refine blk_drewN ?_ _ | refine blk_drew ?_ | refine blk_alloc ?_ _)); exact BK178.out) hg (Kd.S_away HO_7.out (fun _ hk => hk.2))); have n2_ := Aside0.mk (Kd.R_after (ok := (fun k_ => some k_ ≠ (.slice Ao74 x179005_11.length co74 : Value).ownBlock ∧ k_ ≠ gb178)) (by (with_reducible repeat (first | apply Kd.R_alloc | apply Kd.R_drewN | apply Kd.R_drew)); exact HL205_5.out) hg hat); have n3_ := Aside0.mk (hb); have n4_ := Aside0.mk (ho); clear HO_5; clear BK178; clear HL205_5; clear HB; clear HO_7; clear HO_179005; have HO_5 := n0_; have BK178 := n1_; have HL205_5 := n2_; have HB := n3_; have HO208 := n4_; clear n0_ n1_ n2_ n3_ n4_; clear ho hb hg hat))
                 go_roundg kj46
                 case measure => have := HK1.out; have := HJ11.out; have := HJ46.out; omega
                 case rel => exact ⟨(y206), (wrap64 (x8_1 + 1)), (by first | rfl | (simp; done) | (simp [*]; done)), H', ⟨by have := HK1.out; have := HJ11.out; have := HJ46.out; omega⟩, ⟨by (with_reducible repeat (first | apply Kd.R_alloc | apply Kd.R_drewN | apply Kd.R_drew)); exact HO_5.out⟩, ⟨by (with_reducible repeat (first | apply Kd.S_alloc | apply Kd.S_drewN | apply Kd.S_drew)); exact Kd.S_mono HO208.out (fun _ hk => trivial)⟩, ⟨by repeat (first | (with_reducible first | exact HB.out | apply below_alloc | apply pw_below_drewN | apply below_drew1 | refine below_set ?_ GE178.out) | exact HB.out)⟩⟩
                ·rw [if_neg c69] at H
                 exact absurd H (by simp)
              ·rw [if_neg c65] at H
               exact absurd H (by simp)
             ·rw [if_neg c64] at H
              exact absurd H (by simp)
            ·rw [if_neg c62] at H
             have c62b0 : decide (0 < x8_1) = false := decide_eq_false c62
             clear c62
             by_cases c75 : x7_1.length < 2199023255552
             ·rw [if_pos c75] at H
              have LMc75 := Aside0.mk c75
              clear c75
              obtain ⟨y209, hy209⟩ : ∃ y_ : List (S26), y_ = (x7_1 ++ [(⟨x179000_11, x179001_11, x179002_11, x179003_11, x179004_11, x179005_11⟩ : S26)]) := ⟨_, rfl⟩
              replace H : (rf_ReadBills.l0 kj46 t165 y209 (wrap64 (x8_1 + 1))) = some (r1, r2, r3) := by first | (rw [hy209]; with_reducible exact H) | (have H2_ := (Option.bind_some _ _).symm.trans H; rw [hy209]; with_reducible exact H2_) | (have H2_ := (Option.bind_some _ _).symm.trans H; with_reducible exact H2_) | with_reducible exact H | (rw [hy209]; exact H) | exact H
              have Ny209 := Aside0.mk hy209
              clear hy209
              have H' := Aside0.mk H
              clear H
              try go_wp2
              have n0_ := Aside0.mk (Kd.R_drew HO_5.out)
              have n1_ := Aside0.mk (Kd.S_drew HO_7.out)
              have n2_ := Aside0.mk (Kd.R_drew HO_179005.out)
              have n3_ := Aside0.mk (blk_drew BK178.out)
              have n4_ := Aside0.mk (below_drew1 HB.out)
              clear HO_5
              clear HO_7
              clear HO_179005
              clear BK178
              clear HB
              have HO_5 := n0_
              have HO_7 := n1_
              have HO_179005 := n2_
              have BK178 := n3_
              have HB := n4_
              clear n0_ n1_ n2_ n3_ n4_
              refine start_ (n := 13) (S := fun w' => True) (ds := []) #[false, false, false, false, false, false, false, false, false, false, false, false, false] (by kernel_rfl) rfl rfl trivial (fun hHeld => ?_); refine with_tabW rf_ReadBills.tab29 rf_ReadBills.bits29 (fun HT_ HW_ => ?_)
              generalize wc.drew = w76 at HO_5 HO_7 HO_179005 BK178 HB hHeld ⊢
              refine pure_ (i := 0) (N := some 141) (v := ?_) (a' := ?_) #[true, false, false, false, false, false, false, false, false, false, false, false, false] rfl rfl (any_of HT_.out (by kernel_rfl)) (fun _ _ _ h => h) (Or.inl ⟨by rfl, ?_⟩) ?_ ?_
              rotate_left
              ·intro w'
               go_simp
               with_reducible rfl
              rotate_left
              ·simp only [Act.put, xsA, xsZ, xsS, i64_w, i32_w]
               rfl
              refine pure_ (i := 1) (N := some 142) (v := ?_) (a' := ?_) #[true, true, false, false, false, false, false, false, false, false, false, false, false] rfl rfl (any_of HT_.out (by kernel_rfl)) (fun _ _ _ h => h) (Or.inl ⟨by rfl, ?_⟩) ?_ ?_
              rotate_left
              ·intro w'
               go_simp
               with_reducible rfl
              rotate_left
              ·simp only [Act.put, xsA, xsZ, xsS, i64_w, i32_w]
               rfl
              refine pure_ (i := 2) (N := some 143) (v := ?_) (a' := ?_) #[true, true, true, false, false, false, false, false, false, false, false, false, false] rfl rfl (any_of HT_.out (by kernel_rfl)) (fun _ _ _ h => h) (Or.inl ⟨by rfl, ?_⟩) ?_ ?_
              rotate_left
              ·intro w'
               go_simp
               with_reducible rfl
              rotate_left
              ·simp only [Act.put, xsA, xsZ, xsS, i64_w, i32_w]
               rfl
              refine pure_ (i := 3) (N := some 144) (v := undef) (a' := ?_) #[true, true, true, true, false, false, false, false, false, false, false, false, false] rfl rfl (any_of HT_.out (by kernel_rfl)) (fun _ _ _ h => h) (Or.inr ⟨by rfl, rfl⟩) ?_ ?_
              rotate_left
              ·simp only [Act.put, xsA, xsZ, xsS, i64_w, i32_w]
               rfl
              refine pure_ (i := 4) (N := some 145) (v := undef) (a' := ?_) #[true, true, true, true, true, false, false, false, false, false, false, false, false] rfl rfl (any_of HT_.out (by kernel_rfl)) (fun _ _ _ h => h) (Or.inr ⟨by rfl, rfl⟩) ?_ ?_
              rotate_left
              ·simp only [Act.put, xsA, xsZ, xsS, i64_w, i32_w]
               rfl
              refine pure_ (i := 5) (N := some 146) (v := undef) (a' := ?_) #[true, true, true, true, true, true, false, false, false, false, false, false, false] rfl rfl (any_of HT_.out (by kernel_rfl)) (fun _ _ _ h => h) (Or.inr ⟨by rfl, rfl⟩) ?_ ?_
              rotate_left
              ·simp only [Act.put, xsA, xsZ, xsS, i64_w, i32_w]
               rfl
              refine pure_ (i := 6) (N := some 147) (v := undef) (a' := ?_) #[true, true, true, true, true, true, true, false, false, false, false, false, false] rfl rfl (any_of HT_.out (by kernel_rfl)) (fun _ _ _ h => h) (Or.inr ⟨by rfl, rfl⟩) ?_ ?_
              rotate_left
              ·simp only [Act.put, xsA, xsZ, xsS, i64_w, i32_w]
               rfl
              refine pure_ (i := 7) (N := some 148) (v := undef) (a' := ?_) #[true, true, true, true, true, true, true, true, false, false, false, false, false] rfl rfl (any_of HT_.out (by kernel_rfl)) (fun _ _ _ h => h) (Or.inr ⟨by rfl, rfl⟩) ?_ ?_
              rotate_left
              ·simp only [Act.put, xsA, xsZ, xsS, i64_w, i32_w]
               rfl
              refine pure_ (i := 8) (N := some 149) (v := undef) (a' := ?_) #[true, true, true, true, true, true, true, true, true, false, false, false, false] rfl rfl (any_of HT_.out (by kernel_rfl)) (fun _ _ _ h => h) (Or.inr ⟨by rfl, rfl⟩) ?_ ?_
              rotate_left
              ·simp only [Act.put, xsA, xsZ, xsS, i64_w, i32_w]
               rfl
              refine pure_ (i := 9) (N := some 150) (v := undef) (a' := ?_) #[true, true, true, true, true, true, true, true, true, true, false, false, false] rfl rfl (any_of HT_.out (by kernel_rfl)) (fun _ _ _ h => h) (Or.inr ⟨by rfl, rfl⟩) ?_ ?_
              rotate_left
              ·simp only [Act.put, xsA, xsZ, xsS, i64_w, i32_w]
               rfl
              refine pure_ (i := 10) (N := some 151) (v := undef) (a' := ?_) #[true, true, true, true, true, true, true, true, true, true, true, false, false] rfl rfl (any_of HT_.out (by kernel_rfl)) (fun _ _ _ h => h) (Or.inr ⟨by rfl, rfl⟩) ?_ ?_
              rotate_left
              ·simp only [Act.put, xsA, xsZ, xsS, i64_w, i32_w]
               rfl
              refine pure_ (i := 11) (N := some 152) (v := undef) (a' := ?_) #[true, true, true, true, true, true, true, true, true, true, true, true, false] rfl rfl (any_of HT_.out (by kernel_rfl)) (fun _ _ _ h => h) (Or.inr ⟨by rfl, rfl⟩) ?_ ?_
              rotate_left
              ·simp only [Act.put, xsA, xsZ, xsS, i64_w, i32_w]
               rfl
              refine pure_ (i := 12) (N := some 153) (v := ?_) (a' := ?_) #[true, true, true, true, true, true, true, true, true, true, true, true, true] rfl rfl (any_of HT_.out (by kernel_rfl)) (fun _ _ _ h => h) (Or.inl ⟨by rfl, ?_⟩) ?_ ?_
              rotate_left
              ·intro w'
               go_simp
               with_reducible rfl
              rotate_left
              ·simp only [Act.put, xsA, xsZ, xsS, i64_w, i32_w]
               rfl
              refine done_ (done_of HT_.out (by kernel_rfl)) ?_
              have hcz77_0 : w76.cell? ⟨gb178, 0, none⟩ = some (.int .i64 x179000_11) := (blk_cell BK178.out 0).trans rfl
              have hcz77_1 : w76.cell? ⟨gb178, 1, none⟩ = some (.int .i64 x179001_11) := (blk_cell BK178.out 1).trans rfl
              have hcz77_2 : w76.cell? ⟨gb178, 2, none⟩ = some (.int .i64 x179002_11) := (blk_cell BK178.out 2).trans rfl
              have hcz77_3 : w76.cell? ⟨gb178, 3, none⟩ = some (.int .i64 x179003_11) := (blk_cell BK178.out 3).trans rfl
              have hcz77_4 : w76.cell? ⟨gb178, 4, none⟩ = some (.int .i64 x179004_11) := (blk_cell BK178.out 4).trans rfl
              have hcz77_5 : w76.cell? ⟨gb178, 5, none⟩ = some (u179005) := (blk_cell BK178.out 5).trans rfl
              have hfz77_0 := blk_frozen BK178.out 0
              have hfz77_1 := blk_frozen BK178.out 1
              have hfz77_2 := blk_frozen BK178.out 2
              have hfz77_3 := blk_frozen BK178.out 3
              have hfz77_4 := blk_frozen BK178.out 4
              have hfz77_5 := blk_frozen BK178.out 5
              obtain ⟨Ao79, co79, eo79⟩ := Kd.R_slice HO_179005.out
              subst eo79
              try go_wp2_with (first | ((with_reducible refine gate_builtin (b := .append) (xs := #[.tmp 155, .tmp 157]) rfl ?_); at_builtin; refine Kd.S_append k26 (w0 := w) w.heap.size rfl (.tmp 155) (.tmp 157) 22 26 (.agg #[(.int .i64 0), (.int .i64 0), (.int .i64 0), (.int .i64 0), (.int .i64 0), (.slice none 0 0)]) 64 rfl Tryz.underlying22 info26 rfl (by decide) (by omega) u7 x7_1 (⟨x179000_11, x179001_11, x179002_11, x179003_11, x179004_11, x179005_11⟩ : S26) [.int .i64 x179000_11, .int .i64 x179001_11, .int .i64 x179002_11, .int .i64 x179003_11, .int .i64 x179004_11, .slice Ao79 x179005_11.length co79] (fun k_ => k_ ≠ gb178) (fun k_ => some k_ = (.slice Ao79 x179005_11.length co79 : Value).ownBlock) rfl rfl ?aP (fun k_ hk_ => ((Kd.R_mono (ok' := fun k_ => ((fun k_ => k_ ≠ gb178)) k_ ∧ some k_ ≠ (u7 : Value).ownBlock) (Kd.R_types (Kd.R_apart' (HO_179005.out) (Kd.S_typed HO_7.out) (by decide)) BK178.out (by decide)) (fun k_ hk => ⟨hk.2, hk.1.2⟩))).1 k_ hk_.symm) ?aF ?aO ?aB ?aS ?aL ?_; (case aP => exact k26_mkM _ _ _ (⟨x179000_11, x179001_11, x179002_11, x179003_11, x179004_11, x179005_11⟩ : S26) (Kd.R_mono (Kd.R_tight rfl (Kd.R_mono (ok' := fun k_ => ((fun k_ => k_ ≠ gb178)) k_ ∧ some k_ ≠ (u7 : Value).ownBlock) (Kd.R_types (Kd.R_apart' (HO_179005.out) (Kd.S_typed HO_7.out) (by decide)) BK178.out (by decide)) (fun k_ hk => ⟨hk.2, hk.1.2⟩))) (fun _ h_ => h_))); (case aB => exact (by repeat (first | (with_reducible first | exact HB.out | apply below_alloc | apply pw_below_drewN | apply below_drew1 | refine below_set ?_ GE178.out) | exact HB.out))); (case aF => exact (fun k_ hk => Kd.freshB (g := gb178) (o := .cells #[.int .i64 x179000_11, .int .i64 x179001_11, .int .i64 x179002_11, .int .i64 x179003_11, .int .i64 x179004_11, .slice Ao79 x179005_11.length co79] 26 (0, 0)) (by (with_reducible repeat (first | refine blk_drewN ?_ _ | refine blk_drew ?_ | refine blk_alloc ?_ _)); exact BK178.out) k_ hk)); (case aO => exact (by (with_reducible repeat (first | apply Kd.S_alloc | apply Kd.S_drewN | apply Kd.S_drew)); exact Kd.S_mono HO_7.out (fun k_ hk => ⟨hk.2, fun e_ => hk.1 e_⟩))); (case aS => exact (below_size (by repeat (first | (with_reducible first | exact HB.out | apply below_alloc | apply pw_below_drewN | apply below_drew1 | refine below_set ?_ GE178.out) | exact HB.out)))); (case aL => have := LMc75.out; omega); intro v210 w78 ho hb hg hat; rw [← Ny209.out] at ho; have n0_ := Aside0.mk (Kd.R_over' (by (with_reducible repeat (first | apply Kd.R_alloc | apply Kd.R_drewN | apply Kd.R_drew)); exact HO_5.out) (Kd.S_typed (by (with_reducible repeat (first | apply Kd.S_alloc | apply Kd.S_drewN | apply Kd.S_drew)); exact HO_7.out)) (by decide) hg); have n1_ := Aside0.mk (blk_grown (g := gb178) (o := .cells #[.int .i64 x179000_11, .int .i64 x179001_11, .int .i64 x179002_11, .int .i64 x179003_11, .int .i64 x179004_11, .slice Ao79 x179005_11.length co79] 26 (0, 0)) (by (with_reducible repeat (first | refine blk_drewN ?_ _ | refine blk_drew ?_ | refine blk_alloc ?_ _)); exact BK178.out) hg (Kd.S_away HO_7.out (fun _ hk => hk.2))); have n2_ := Aside0.mk (hb); have n3_ := Aside0.mk (ho); clear HO_5; clear BK178; clear HB; clear HO_7; clear HO_179005; have HO_5 := n0_; have BK178 := n1_; have HB := n2_; have HO211 := n3_; clear n0_ n1_ n2_ n3_; clear ho hb hg hat))
              go_roundg kj46
              case measure => have := HK1.out; have := HJ11.out; have := HJ46.out; omega
              case rel => exact ⟨(y209), (wrap64 (x8_1 + 1)), (by first | rfl | (simp; done) | (simp [*]; done)), H', ⟨by have := HK1.out; have := HJ11.out; have := HJ46.out; omega⟩, ⟨by (with_reducible repeat (first | apply Kd.R_alloc | apply Kd.R_drewN | apply Kd.R_drew)); exact HO_5.out⟩, ⟨by (with_reducible repeat (first | apply Kd.S_alloc | apply Kd.S_drewN | apply Kd.S_drew)); exact Kd.S_mono HO211.out (fun _ hk => trivial)⟩, ⟨by repeat (first | (with_reducible first | exact HB.out | apply below_alloc | apply pw_below_drewN | apply below_drew1 | refine below_set ?_ GE178.out) | exact HB.out)⟩⟩
             ·rw [if_neg c75] at H
              exact absurd H (by simp)
      ·rw [if_neg c10] at H
       have c10b0 : (t173 == 0) = false := beq_eq_false_iff_ne.mpr c10
       have c10b1 : (t173 != 0) = true := bne_iff_ne.mpr c10
       simp only [Option.some.injEq, Prod.mk.injEq] at H
       obtain ⟨rfl, rfl, rfl⟩ := H
       obtain ⟨Ao80, co80, eo80⟩ := Kd.R_slice HO_5.out
       subst eo80
       have p172 : 0 ≤ (x8_1 : Int) := of_decide_eq_true (by first | (with_reducible assumption) | assumption)
       have q172 : x8_1 < (t165.length : Int) := of_decide_eq_true (by first | (with_reducible assumption) | assumption)
       obtain ⟨ad172, e172, hx172_0⟩ := Kd.at_string (Kd.R_reads' HO_5.out).2.2 x8_1 p172 q172
       cases e172
       replace p172 := eq_true p172
       replace q172 := eq_true q172
       go_wp2_with (first | ((with_reducible refine gate_callee (f := 29) rfl ?_); refine goesL_ (some 36) rfl rfl Tryz.func29 (by kernel_rfl) rfl #[.string (rdOf ByteArray.empty t165 x8_1)] rfl (by (try simp only [List.map_toArray, List.map_cons, List.map_nil]); first | done | rfl | (simp only [List.length_drop, List.length_take]; rfl)) ?_; (with_reducible refine (rf_Checked.calls k1 (rdOf ByteArray.empty t165 x8_1) t173 _ A9.out).mono ?_); rintro e w81 ⟨rfl, hb⟩; refine ⟨_, rfl, ?_⟩; have n0_ := Aside0.mk (Kd.R_below (by (with_reducible repeat (first | apply Kd.R_alloc | apply Kd.R_drewN | apply Kd.R_drew)); exact HO_5.out) hb); have n1_ := Aside0.mk (Kd.S_below (by (with_reducible repeat (first | apply Kd.S_alloc | apply Kd.S_drewN | apply Kd.S_drew)); exact HO_7.out) hb); have n2_ := Aside0.mk (below_step (by repeat (first | (with_reducible first | exact HB.out | apply below_alloc | apply pw_below_drewN | apply below_drew1) | exact HB.out)) hb); clear HO_5; clear HO_7; clear HB; have HO_5 := n0_; have HO_7 := n1_; have HB := n2_; clear n0_ n1_ n2_; (try clear hb); (try clear hb2); (try clear hk); (try clear hi)))
       go_ret3
       exact ⟨_, by first | rfl | (simp [errW_none, errW_some] <;> rfl) | (simp [*, errW_none, errW_some] <;> rfl), by first | exact Kd.S_nil _ _ _ _ _ | exact Kd.N_nil _ _ _ _ _ | exact Kd.V_nil _ _ _ _ _ | exact Kd.Q_nil _ _ _ _ _ | exact Kd.R_nil _ _ _ _ _, by repeat (first | (with_reducible first | exact HB.out | apply below_alloc | apply pw_below_drewN | apply below_drew1) | exact HB.out)⟩
     ·rw [if_neg c8] at H
      exact absurd H (by simp)
    ·rw [if_neg c7] at H
     have c7b0 : decide (x8_1 < (t165.length : Int)) = false := decide_eq_false c7
     clear c7
     simp only [Option.some.injEq, Prod.mk.injEq] at H
     obtain ⟨rfl, rfl, rfl⟩ := H
     obtain ⟨Ao82, co82, eo82⟩ := Kd.R_slice HO_5.out
     subst eo82
     go_wp2
     go_ret3
     exact ⟨_, by first | rfl | (simp [errW_none, errW_some] <;> rfl) | (simp [*, errW_none, errW_some] <;> rfl), by (with_reducible repeat (first | apply Kd.S_alloc | apply Kd.S_drewN | apply Kd.S_drew)); exact HO_7.out, by repeat (first | (with_reducible first | exact HB.out | apply below_alloc | apply pw_below_drewN | apply below_drew1) | exact HB.out)⟩
 ·rw [if_neg c3] at H
  have c3b0 : (t166 == 0) = false := beq_eq_false_iff_ne.mpr c3
  have c3b1 : (t166 != 0) = true := bne_iff_ne.mpr c3
  simp only [Option.some.injEq, Prod.mk.injEq] at H
  obtain ⟨rfl, rfl, rfl⟩ := H
  go_enter Tryz.func10, Tryz.ntmps10
  go_wp2_with (first | ((with_reducible refine gate_callee (f := 28) rfl ?_); refine goesL_ (some 19) rfl rfl Tryz.func28 (by kernel_rfl) rfl #[.string a0] rfl (by (try simp only [List.map_toArray, List.map_cons, List.map_nil]); first | done | rfl | (simp only [List.length_drop, List.length_take]; rfl)) ?_; (with_reducible refine (rf_Lines.calls k a0 t165 t166 _ A2.out).mono ?_); rintro e w83 ⟨v167, rfl, ho0, hb⟩; refine ⟨_, rfl, ?_⟩; have n0_ := Aside0.mk (Kd.R_lower ho0 (below_size (by repeat (first | (with_reducible first | exact HB.out | apply below_alloc | apply pw_below_drewN | apply below_drew1) | exact HB.out)))); have n1_ := Aside0.mk (below_step (by repeat (first | (with_reducible first | exact HB.out | apply below_alloc | apply pw_below_drewN | apply below_drew1) | exact HB.out)) hb); clear HB; have HO168 := n0_; have HB := n1_; clear n0_ n1_; (try clear hb); (try clear hb2); (try clear hk); (try clear hi); (try clear ho0)))
  go_ret3
  exact ⟨_, by first | rfl | (simp [errW_none, errW_some] <;> rfl) | (simp [*, errW_none, errW_some] <;> rfl), by first | exact Kd.S_nil _ _ _ _ _ | exact Kd.N_nil _ _ _ _ _ | exact Kd.V_nil _ _ _ _ _ | exact Kd.Q_nil _ _ _ _ _ | exact Kd.R_nil _ _ _ _ _, by repeat (first | (with_reducible first | exact HB.out | apply below_alloc | apply pw_below_drewN | apply below_drew1) | exact HB.out)⟩
end Go.Proofs.YtdomcbebbhbdlaaGreatDoor.PLogsBills
