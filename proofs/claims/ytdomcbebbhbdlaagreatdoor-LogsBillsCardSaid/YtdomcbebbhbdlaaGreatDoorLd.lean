/- The document's writer; comparisons. Conditions: none. -/
import Derived.Test.YtdomcbebbhbdlaaGreatDoorAw
import Derived.Test.YtdomcbebbhbdlaaGreatDoorLa
set_option linter.unusedSimpArgs false
set_option linter.unusedVariables false
namespace Go.Proofs.YtdomcbebbhbdlaaGreatDoor.PLogsBills
open Go.RowKit Go.Proofs.YtdomcbebbhbdlaaGreatDoorW.PrintWords Go.Proofs.YtdomcbebbhbdlaaGreatDoorW.PrintLast Go.Proofs.YtdomcbebbhbdlaaGreatDoorW.PrintMore
attribute [local go_sem] max2_int min2_int max_two min_two max_three min_three max_four min_four
def lw_sameBills.l0 : Nat → List (S26) → List (S26) → Int → Option (Bool)
 | 0, _, _, _ => none
 | k + 1, x0, x1, x5 => if x5 < (x0.length : Int) then (if 0 ≤ x5 then (if x5 < (x1.length : Int) then (if ((rd_T26 x0 x5).f0) = ((rd_T26 x1 x5).f0) then (if ((rd_T26 x0 x5).f1) = ((rd_T26 x1 x5).f1) then (if ((rd_T26 x0 x5).f2) = ((rd_T26 x1 x5).f2) then (if ((rd_T26 x0 x5).f3) = ((rd_T26 x1 x5).f3) then (if ((rd_T26 x0 x5).f4) = ((rd_T26 x1 x5).f4) then ((lw_equal.f k ((rd_T26 x0 x5).f5) ((rd_T26 x1 x5).f5)).bind fun t218 => (if t218 = true then (lw_sameBills.l0 k x0 x1 (wrap64 (x5 + 1))) else (some false))) else (some false)) else (some false)) else (some false)) else (some false)) else (some false)) else (none)) else (none)) else (some true)
def lw_sameBills.f (k : Nat) (l0 : List (S26)) (l1 : List (S26)) : Option (Bool) := if (l0.length : Int) = (l1.length : Int) then (lw_sameBills.l0 k l0 l1 0) else (some false)
def lw_sameBills.T6 : Bool × List (List Nat × List Nat) := (true, [([], []), ([], []), ([0, 1], [0, 1]), ([2], [2]), ([], []), ([], []), ([4, 5], [4, 5]), ([6], [6]), ([], []), ([], []), ([8, 3, 0, 1, 2, 3, 8, 9], [3, 8]), ([9, 7, 10, 0, 1, 2, 3, 4, 5, 6, 7, 8, 9, 10], [7, 9])])
def lw_sameBills.B6 : List Nat := [0, 0, 3, 7, 0, 0, 48, 112, 0, 0, 783, 2047]
theorem lw_sameBills.tab6 : rtab .any (opsOf Tryz.f11 6) = lw_sameBills.T6 := by kernel_rfl
theorem lw_sameBills.bits6 : waitsOk lw_sameBills.T6.2 lw_sameBills.B6 = true := by kernel_rfl
set_option maxHeartbeats 8000000 in
set_option maxRecDepth 100000 in
theorem lw_sameBills.calls (k : Nat) (A0 : Option Addr) (c0 : Nat) (l0 : List (S26)) (A1 : Option Addr) (c1 : Nat) (l1 : List (S26)) (r : Bool) (w : World) (hr0 : Kd.C k26 w A0 l0.length l0) (hc0 : l0.length ≤ c0) (hr1 : Kd.C k26 w A1 l1.length l1) (hc1 : l1.length ≤ c1) (h : lw_sameBills.f k l0 l1 = some r) (hrt : r = true) :
  Calls Tryz.prog 11 #[.slice A0 l0.length c0, .slice A1 l1.length c1] w fun e w' => e = .returned (.bool r) ∧ Below w.heap.size w w' := by
 have HRT := Aside0.mk hrt
 clear hrt
 have hu26 := Tryz.underlying26
 have HR0 := Aside0.mk hr0
 have HC0 := Aside0.mk hc0
 clear hr0 hc0
 have HR1 := Aside0.mk hr1
 have HC1 := Aside0.mk hc1
 clear hr1 hc1
 have HB := Aside0.mk (Below.refl w.heap.size w)
 have H : (if (l0.length : Int) = (l1.length : Int) then (lw_sameBills.l0 k l0 l1 0) else (some false)) = some r := h
 clear h
 by_cases c3 : (l0.length : Int) = (l1.length : Int)
 ·rw [if_pos c3] at H
  have c3b0 : ((l0.length : Int) == (l1.length : Int)) = true := beq_iff_eq.mpr c3
  have c3b1 : ((l0.length : Int) != (l1.length : Int)) = false := bne_eq_false_iff_eq.mpr c3
  have c3b2 : (l0.length == l1.length) = true := by first | simpa using c3 | (simp at c3 ⊢; omega)
  clear c3
  have H' := Aside0.mk H
  clear H
  go_enter Tryz.func11, Tryz.ntmps11
  go_wp2
  go_loopg [5] k (fun kq v5 w' => ∃ (x5_1 : Int), v5 = .int .i64 x5_1 ∧ Aside0 (lw_sameBills.l0 kq l0 l1 x5_1 = some r) ∧ Aside0 (kq ≤ k) ∧ Aside0 (Below w.heap.size w w'))
  case atStart => exact ⟨(0), (by first | rfl | (simp; done) | (simp [*]; done)), H', ⟨Nat.le_refl _⟩, ⟨by repeat (first | (with_reducible first | exact HB.out | apply below_alloc | apply pw_below_drewN | apply below_drew1) | exact HB.out)⟩⟩
  case round =>
   clear H'
   try clear c1
   try clear p2
   try clear c3
   try clear c3b0
   try clear c3b1
   try clear c3b2
   obtain ⟨x5_1, rfl, HA, HK1, HB⟩ := hrel
   cases gk with
   | zero => exact absurd HA.out (by simp [lw_sameBills.l0])
   | succ k1 =>
    have H := HA.out
    clear HA
    simp only [lw_sameBills.l0] at H
    by_cases c4 : x5_1 < (l0.length : Int)
    ·rw [if_pos c4] at H
     have c4b0 : decide (x5_1 < (l0.length : Int)) = true := decide_eq_true c4
     clear c4
     by_cases c5 : 0 ≤ x5_1
     ·rw [if_pos c5] at H
      have c5b0 : decide (0 ≤ x5_1) = true := decide_eq_true c5
      clear c5
      by_cases c6 : x5_1 < (l1.length : Int)
      ·rw [if_pos c6] at H
       have c6b0 : decide (x5_1 < (l1.length : Int)) = true := decide_eq_true c6
       clear c6
       have H' := Aside0.mk H
       clear H
       try go_wp2
       have n0_ := Aside0.mk (below_drew1 HB.out)
       clear HB
       have HB := n0_
       clear n0_
       have p214 : 0 ≤ (x5_1 : Int) := of_decide_eq_true (by first | (with_reducible assumption) | assumption)
       have q214 : x5_1 < (l0.length : Int) := of_decide_eq_true (by first | (with_reducible assumption) | assumption)
       obtain ⟨ad214, A214_5, c214_5, e214, hx214_0, hx214_1, hx214_2, hx214_3, hx214_4, hx214_5, hl214_5, hi214_5⟩ := at_T26 HR0.out x5_1 p214 q214
       have hw214_5 := hx214_5
       have hw214_4 := hx214_4
       have hw214_3 := hx214_3
       have hw214_2 := hx214_2
       have hw214_1 := hx214_1
       have hw214_0 := hx214_0
       cases e214
       replace hx214_0 := (HB.out.cell (xbl w _ hx214_0)).trans hx214_0
       replace hx214_1 := (HB.out.cell (xbl w _ hx214_1)).trans hx214_1
       replace hx214_2 := (HB.out.cell (xbl w _ hx214_2)).trans hx214_2
       replace hx214_3 := (HB.out.cell (xbl w _ hx214_3)).trans hx214_3
       replace hx214_4 := (HB.out.cell (xbl w _ hx214_4)).trans hx214_4
       replace hx214_5 := (HB.out.cell (xbl w _ hx214_5)).trans hx214_5
       have HR214_5 := Aside0.mk hi214_5
       have HC214_5 := Aside0.mk hl214_5
       clear hi214_5 hl214_5
       replace p214 := eq_true p214
       replace q214 := eq_true q214
       have p215 : 0 ≤ (x5_1 : Int) := of_decide_eq_true (by first | (with_reducible assumption) | assumption)
       have q215 : x5_1 < (l1.length : Int) := of_decide_eq_true (by first | (with_reducible assumption) | assumption)
       obtain ⟨ad215, A215_5, c215_5, e215, hx215_0, hx215_1, hx215_2, hx215_3, hx215_4, hx215_5, hl215_5, hi215_5⟩ := at_T26 HR1.out x5_1 p215 q215
       have hw215_5 := hx215_5
       have hw215_4 := hx215_4
       have hw215_3 := hx215_3
       have hw215_2 := hx215_2
       have hw215_1 := hx215_1
       have hw215_0 := hx215_0
       cases e215
       replace hx215_0 := (HB.out.cell (xbl w _ hx215_0)).trans hx215_0
       replace hx215_1 := (HB.out.cell (xbl w _ hx215_1)).trans hx215_1
       replace hx215_2 := (HB.out.cell (xbl w _ hx215_2)).trans hx215_2
       replace hx215_3 := (HB.out.cell (xbl w _ hx215_3)).trans hx215_3
       replace hx215_4 := (HB.out.cell (xbl w _ hx215_4)).trans hx215_4
       replace hx215_5 := (HB.out.cell (xbl w _ hx215_5)).trans hx215_5
       have HR215_5 := Aside0.mk hi215_5
       have HC215_5 := Aside0.mk hl215_5
       clear hi215_5 hl215_5
       replace p215 := eq_true p215
       replace q215 := eq_true q215
       refine start_ (n := 12) (S := fun w' => w'.cell? (ad214.add ((x5_1).toNat * 6)) = some (.int .i64 ((rd_T26 l0 x5_1).f0)) ∧ w'.cell? ⟨(ad214.add ((x5_1).toNat * 6)).block, (ad214.add ((x5_1).toNat * 6)).off + 1, none⟩ = some (.int .i64 ((rd_T26 l0 x5_1).f1)) ∧ w'.cell? ⟨(ad214.add ((x5_1).toNat * 6)).block, (ad214.add ((x5_1).toNat * 6)).off + 2, none⟩ = some (.int .i64 ((rd_T26 l0 x5_1).f2)) ∧ w'.cell? ⟨(ad214.add ((x5_1).toNat * 6)).block, (ad214.add ((x5_1).toNat * 6)).off + 3, none⟩ = some (.int .i64 ((rd_T26 l0 x5_1).f3)) ∧ w'.cell? ⟨(ad214.add ((x5_1).toNat * 6)).block, (ad214.add ((x5_1).toNat * 6)).off + 4, none⟩ = some (.int .i64 ((rd_T26 l0 x5_1).f4)) ∧ w'.cell? ⟨(ad214.add ((x5_1).toNat * 6)).block, (ad214.add ((x5_1).toNat * 6)).off + 5, none⟩ = some (.slice A214_5 ((rd_T26 l0 x5_1).f5).length c214_5) ∧ w'.cell? (ad215.add ((x5_1).toNat * 6)) = some (.int .i64 ((rd_T26 l1 x5_1).f0)) ∧ w'.cell? ⟨(ad215.add ((x5_1).toNat * 6)).block, (ad215.add ((x5_1).toNat * 6)).off + 1, none⟩ = some (.int .i64 ((rd_T26 l1 x5_1).f1)) ∧ w'.cell? ⟨(ad215.add ((x5_1).toNat * 6)).block, (ad215.add ((x5_1).toNat * 6)).off + 2, none⟩ = some (.int .i64 ((rd_T26 l1 x5_1).f2)) ∧ w'.cell? ⟨(ad215.add ((x5_1).toNat * 6)).block, (ad215.add ((x5_1).toNat * 6)).off + 3, none⟩ = some (.int .i64 ((rd_T26 l1 x5_1).f3)) ∧ w'.cell? ⟨(ad215.add ((x5_1).toNat * 6)).block, (ad215.add ((x5_1).toNat * 6)).off + 4, none⟩ = some (.int .i64 ((rd_T26 l1 x5_1).f4)) ∧ w'.cell? ⟨(ad215.add ((x5_1).toNat * 6)).block, (ad215.add ((x5_1).toNat * 6)).off + 5, none⟩ = some (.slice A215_5 ((rd_T26 l1 x5_1).f5).length c215_5)) (ds := []) #[false, false, false, false, false, false, false, false, false, false, false, false] (by kernel_rfl) rfl rfl ⟨((HB.out.cell (xbl w _ hw214_0)).trans hw214_0), ((HB.out.cell (xbl w _ hw214_1)).trans hw214_1), ((HB.out.cell (xbl w _ hw214_2)).trans hw214_2), ((HB.out.cell (xbl w _ hw214_3)).trans hw214_3), ((HB.out.cell (xbl w _ hw214_4)).trans hw214_4), ((HB.out.cell (xbl w _ hw214_5)).trans hw214_5), ((HB.out.cell (xbl w _ hw215_0)).trans hw215_0), ((HB.out.cell (xbl w _ hw215_1)).trans hw215_1), ((HB.out.cell (xbl w _ hw215_2)).trans hw215_2), ((HB.out.cell (xbl w _ hw215_3)).trans hw215_3), ((HB.out.cell (xbl w _ hw215_4)).trans hw215_4), ((HB.out.cell (xbl w _ hw215_5)).trans hw215_5)⟩ (fun hHeld => ?_); refine with_tabW lw_sameBills.tab6 lw_sameBills.bits6 (fun HT_ HW_ => ?_)
       generalize wr.drew = w14 at HB HR214_5 HR215_5 hx214_0 hx214_1 hx214_2 hx214_3 hx214_4 hx214_5 hx215_0 hx215_1 hx215_2 hx215_3 hx215_4 hx215_5 hHeld ⊢
       refine pure_ (i := 0) (N := some 19) (v := ?_) (a' := ?_) #[true, false, false, false, false, false, false, false, false, false, false, false] rfl rfl (any_of HT_.out (by kernel_rfl)) (fun _ _ _ h => h) (Or.inl ⟨by rfl, ?_⟩) ?_ ?_
       rotate_left
       ·intro w'
        go_simp
        with_reducible rfl
       rotate_left
       ·simp only [Act.put, xsA, xsZ, xsS, i64_w, i32_w]
        rfl
       refine pure_ (i := 1) (N := some 20) (v := ?_) (a' := ?_) #[true, true, false, false, false, false, false, false, false, false, false, false] rfl rfl (any_of HT_.out (by kernel_rfl)) (fun _ _ _ h => h) (Or.inl ⟨by rfl, ?_⟩) ?_ ?_
       rotate_left
       ·intro w'
        go_simp
        with_reducible rfl
       rotate_left
       ·simp only [Act.put, xsA, xsZ, xsS, i64_w, i32_w]
        rfl
       refine pure_ (i := 2) (N := some 21) (v := ?_) (a' := ?_) #[true, true, true, false, false, false, false, false, false, false, false, false] rfl rfl (any_of HT_.out (by kernel_rfl)) (fun _ _ _ h => h) (Or.inl ⟨by rfl, ?_⟩) ?_ ?_
       rotate_left
       ·intro w'
        go_simp
        with_reducible rfl
       rotate_left
       ·simp only [Act.put, xsA, xsZ, xsS, i64_w, i32_w]
        rfl
       refine pure_ (i := 4) (N := some 23) (v := ?_) (a' := ?_) #[true, true, true, false, true, false, false, false, false, false, false, false] rfl rfl (any_of HT_.out (by kernel_rfl)) (fun _ _ _ h => h) (Or.inl ⟨by rfl, ?_⟩) ?_ ?_
       rotate_left
       ·intro w'
        go_simp
        with_reducible rfl
       rotate_left
       ·simp only [Act.put, xsA, xsZ, xsS, i64_w, i32_w]
        rfl
       refine pure_ (i := 5) (N := some 24) (v := ?_) (a' := ?_) #[true, true, true, false, true, true, false, false, false, false, false, false] rfl rfl (any_of HT_.out (by kernel_rfl)) (fun _ _ _ h => h) (Or.inl ⟨by rfl, ?_⟩) ?_ ?_
       rotate_left
       ·intro w'
        go_simp
        with_reducible rfl
       rotate_left
       ·simp only [Act.put, xsA, xsZ, xsS, i64_w, i32_w]
        rfl
       refine pure_ (i := 6) (N := some 25) (v := ?_) (a' := ?_) #[true, true, true, false, true, true, true, false, false, false, false, false] rfl rfl (any_of HT_.out (by kernel_rfl)) (fun _ _ _ h => h) (Or.inl ⟨by rfl, ?_⟩) ?_ ?_
       rotate_left
       ·intro w'
        go_simp
        with_reducible rfl
       rotate_left
       ·simp only [Act.put, xsA, xsZ, xsS, i64_w, i32_w]
        rfl
       refine take_ (i := 3) (N := some 22) (v := ?_) (a' := ?_) #[true, true, true, true, true, true, true, false, false, false, false, false] rfl rfl (take_ofW HT_.out HW_.out (by kernel_rfl)) (fun _ _ _ h => h) (Or.inl ⟨by rfl, ?_⟩) hHeld ?_ ?_
       rotate_left
       ·rintro w' ⟨s0, s1, s2, s3, s4, s5, s6, s7, s8, s9, s10, s11⟩
        go_simp
        with_reducible rfl
       rotate_left
       ·simp only [Act.put, xsA, xsZ, xsS, i64_w, i32_w]
        rfl
       refine take_ (i := 7) (N := some 26) (v := ?_) (a' := ?_) #[true, true, true, true, true, true, true, true, false, false, false, false] rfl rfl (take_ofW HT_.out HW_.out (by kernel_rfl)) (fun _ _ _ h => h) (Or.inl ⟨by rfl, ?_⟩) hHeld ?_ ?_
       rotate_left
       ·rintro w' ⟨s0, s1, s2, s3, s4, s5, s6, s7, s8, s9, s10, s11⟩
        go_simp
        with_reducible rfl
       rotate_left
       ·simp only [Act.put, xsA, xsZ, xsS, i64_w, i32_w]
        rfl
       refine join_ (σ := Nat × Nat) 2 #[true, true, true, true, true, true, true, true, true, true, false, false] (fun s_ => [(6, .pointer (some ⟨s_.1, 0, none⟩)), (7, .pointer (some ⟨s_.2, 0, none⟩))]) (fun s_ w' => (w'.cell? (ad214.add ((x5_1).toNat * 6)) = some (.int .i64 ((rd_T26 l0 x5_1).f0)) ∧ w'.cell? ⟨(ad214.add ((x5_1).toNat * 6)).block, (ad214.add ((x5_1).toNat * 6)).off + 1, none⟩ = some (.int .i64 ((rd_T26 l0 x5_1).f1)) ∧ w'.cell? ⟨(ad214.add ((x5_1).toNat * 6)).block, (ad214.add ((x5_1).toNat * 6)).off + 2, none⟩ = some (.int .i64 ((rd_T26 l0 x5_1).f2)) ∧ w'.cell? ⟨(ad214.add ((x5_1).toNat * 6)).block, (ad214.add ((x5_1).toNat * 6)).off + 3, none⟩ = some (.int .i64 ((rd_T26 l0 x5_1).f3)) ∧ w'.cell? ⟨(ad214.add ((x5_1).toNat * 6)).block, (ad214.add ((x5_1).toNat * 6)).off + 4, none⟩ = some (.int .i64 ((rd_T26 l0 x5_1).f4)) ∧ w'.cell? ⟨(ad214.add ((x5_1).toNat * 6)).block, (ad214.add ((x5_1).toNat * 6)).off + 5, none⟩ = some (.slice A214_5 ((rd_T26 l0 x5_1).f5).length c214_5) ∧ w'.cell? (ad215.add ((x5_1).toNat * 6)) = some (.int .i64 ((rd_T26 l1 x5_1).f0)) ∧ w'.cell? ⟨(ad215.add ((x5_1).toNat * 6)).block, (ad215.add ((x5_1).toNat * 6)).off + 1, none⟩ = some (.int .i64 ((rd_T26 l1 x5_1).f1)) ∧ w'.cell? ⟨(ad215.add ((x5_1).toNat * 6)).block, (ad215.add ((x5_1).toNat * 6)).off + 2, none⟩ = some (.int .i64 ((rd_T26 l1 x5_1).f2)) ∧ w'.cell? ⟨(ad215.add ((x5_1).toNat * 6)).block, (ad215.add ((x5_1).toNat * 6)).off + 3, none⟩ = some (.int .i64 ((rd_T26 l1 x5_1).f3)) ∧ w'.cell? ⟨(ad215.add ((x5_1).toNat * 6)).block, (ad215.add ((x5_1).toNat * 6)).off + 4, none⟩ = some (.int .i64 ((rd_T26 l1 x5_1).f4)) ∧ w'.cell? ⟨(ad215.add ((x5_1).toNat * 6)).block, (ad215.add ((x5_1).toNat * 6)).off + 5, none⟩ = some (.slice A215_5 ((rd_T26 l1 x5_1).f5).length c215_5)) ∧ (w'.heap[s_.1]? = some (.cells #[.int .i64 0, .int .i64 0, .int .i64 0, .int .i64 0, .int .i64 0, .slice none 0 0] 26 (0, 0))) ∧ (w'.heap[s_.2]? = some (.cells #[.int .i64 0, .int .i64 0, .int .i64 0, .int .i64 0, .int .i64 0, .slice none 0 0] 26 (0, 0))) ∧ (w.heap.size ≤ s_.1) ∧ (w.heap.size ≤ s_.1) ∧ (s_.2 ≠ s_.1) ∧ (s_.1 ≠ s_.2) ∧ (w.heap.size ≤ s_.2) ∧ (w.heap.size ≤ s_.2) ∧ (Below w.heap.size w w')) ?_ ?_
       rotate_left
       ·intro hCont
        refine two_ (i := 8) (j := 9) (Ni := some 6) (Nj := some 7) #[true, true, true, true, true, true, true, true, true, false, false, false] #[true, true, true, true, true, true, true, true, false, true, false, false] rfl rfl rfl rfl (two_of HT_.out (by kernel_rfl)) (by decide) (by decide) (fun K hK => ?_) (fun K hK => ?_)
        ·skip
         refine box_step ?hg (N := 6) ?hd (cs := #[.int .i64 0, .int .i64 0, .int .i64 0, .int .i64 0, .int .i64 0, .slice none 0 0]) (t := 26) ?hr ?_; (case hd => rfl); (case hg => rfl); (case hr => first | (go_simp; done) | (go_simp; rfl))
         intro gb216 hg w15 hbox hb
         have n0_ := Aside0.mk (below_step (by repeat (first | (with_reducible first | exact HB.out | apply below_alloc | apply pw_below_drewN | apply below_drew1) | exact HB.out)) hb)
         have n1_ := Aside0.mk (hbox)
         have n2_ := Aside0.mk ((by rw [hg]; exact (below_size (by repeat (first | (with_reducible first | exact HB.out | apply below_alloc | apply pw_below_drewN | apply below_drew1) | exact HB.out))) : w.heap.size ≤ gb216))
         have n3_ := Aside0.mk ((by rw [hg]; exact (below_size (by repeat (first | (with_reducible first | exact HB.out | apply below_alloc | apply pw_below_drewN | apply below_drew1) | exact HB.out))) : w.heap.size ≤ gb216))
         clear HB
         have HB := n0_
         have BK216 := n1_
         have GW216 := n2_
         have GE216 := n3_
         clear n0_ n1_ n2_ n3_
         clear hb hbox hg
         refine hK.out _ _ ⟨((HB.out.cell (xbl w _ hw214_0)).trans hw214_0), ((HB.out.cell (xbl w _ hw214_1)).trans hw214_1), ((HB.out.cell (xbl w _ hw214_2)).trans hw214_2), ((HB.out.cell (xbl w _ hw214_3)).trans hw214_3), ((HB.out.cell (xbl w _ hw214_4)).trans hw214_4), ((HB.out.cell (xbl w _ hw214_5)).trans hw214_5), ((HB.out.cell (xbl w _ hw215_0)).trans hw215_0), ((HB.out.cell (xbl w _ hw215_1)).trans hw215_1), ((HB.out.cell (xbl w _ hw215_2)).trans hw215_2), ((HB.out.cell (xbl w _ hw215_3)).trans hw215_3), ((HB.out.cell (xbl w _ hw215_4)).trans hw215_4), ((HB.out.cell (xbl w _ hw215_5)).trans hw215_5)⟩ (fun hHeld => ?_)
         clear hK K
         refine norm_ (a' := ?_) ?_ ?_
         rotate_left
         ·show Act.put _ (some 6) _ = _
          simp only [Act.put, xsA, xsZ, xsS, i64_w, i32_w]
          rfl
         refine one_ (i := 9) (N := some 7) #[true, true, true, true, true, true, true, true, true, true, false, false] rfl rfl (one_of HT_.out (by kernel_rfl)) (by decide) (fun K hK => ?_)
         refine box_step ?hg (N := 7) ?hd (cs := #[.int .i64 0, .int .i64 0, .int .i64 0, .int .i64 0, .int .i64 0, .slice none 0 0]) (t := 26) ?hr ?_; (case hd => rfl); (case hg => rfl); (case hr => first | (go_simp; done) | (go_simp; rfl))
         intro gb217 hg w16 hbox hb
         have n0_ := Aside0.mk (blk_below (g := gb216) (o := .cells #[.int .i64 0, .int .i64 0, .int .i64 0, .int .i64 0, .int .i64 0, .slice none 0 0] 26 (0, 0)) (by (with_reducible repeat (first | refine blk_drewN ?_ _ | refine blk_drew ?_ | refine blk_alloc ?_ _)); exact BK216.out) hb)
         have n1_ := Aside0.mk (below_step (by repeat (first | (with_reducible first | exact HB.out | apply below_alloc | apply pw_below_drewN | apply below_drew1 | refine below_set ?_ GE216.out) | exact HB.out)) hb)
         have n2_ := Aside0.mk (hbox)
         have n3_ := Aside0.mk ((by rw [hg]; exact (below_size (by repeat (first | (with_reducible first | exact HB.out | apply below_alloc | apply pw_below_drewN | apply below_drew1 | refine below_set ?_ GE216.out) | exact HB.out))) : w.heap.size ≤ gb217))
         have n4_ := Aside0.mk ((by rw [hg]; exact (below_size (by repeat (first | (with_reducible first | exact HB.out | apply below_alloc | apply pw_below_drewN | apply below_drew1 | refine below_set ?_ GE216.out) | exact HB.out))) : w.heap.size ≤ gb217))
         have n5_ := Aside0.mk ((by rw [hg]; exact Nat.ne_of_lt (blk_lt (g := gb216) (o := .cells #[.int .i64 0, .int .i64 0, .int .i64 0, .int .i64 0, .int .i64 0, .slice none 0 0] 26 (0, 0)) (by (with_reducible repeat (first | refine blk_drewN ?_ _ | refine blk_drew ?_ | refine blk_alloc ?_ _)); exact BK216.out)) : gb216 ≠ gb217))
         have n6_ := Aside0.mk ((by rw [hg]; exact Nat.ne_of_gt (blk_lt (g := gb216) (o := .cells #[.int .i64 0, .int .i64 0, .int .i64 0, .int .i64 0, .int .i64 0, .slice none 0 0] 26 (0, 0)) (by (with_reducible repeat (first | refine blk_drewN ?_ _ | refine blk_drew ?_ | refine blk_alloc ?_ _)); exact BK216.out)) : gb217 ≠ gb216))
         clear BK216
         clear HB
         have BK216 := n0_
         have HB := n1_
         have BK217 := n2_
         have GW217 := n3_
         have GE217 := n4_
         have NB216_217 := n5_
         have NB217_216 := n6_
         clear n0_ n1_ n2_ n3_ n4_ n5_ n6_
         clear hb hbox hg
         refine hK.out _ _ ⟨((HB.out.cell (xbl w _ hw214_0)).trans hw214_0), ((HB.out.cell (xbl w _ hw214_1)).trans hw214_1), ((HB.out.cell (xbl w _ hw214_2)).trans hw214_2), ((HB.out.cell (xbl w _ hw214_3)).trans hw214_3), ((HB.out.cell (xbl w _ hw214_4)).trans hw214_4), ((HB.out.cell (xbl w _ hw214_5)).trans hw214_5), ((HB.out.cell (xbl w _ hw215_0)).trans hw215_0), ((HB.out.cell (xbl w _ hw215_1)).trans hw215_1), ((HB.out.cell (xbl w _ hw215_2)).trans hw215_2), ((HB.out.cell (xbl w _ hw215_3)).trans hw215_3), ((HB.out.cell (xbl w _ hw215_4)).trans hw215_4), ((HB.out.cell (xbl w _ hw215_5)).trans hw215_5)⟩ (fun hHeld => ?_)
         clear hK K
         refine norm_ (a' := ?_) ?_ ?_
         rotate_left
         ·show Act.put _ (some 7) _ = _
          simp only [Act.put, xsA, xsZ, xsS, i64_w, i32_w]
          rfl
         exact norm_ (by simp only [putAll, Act.put, xsA, xsZ, xsS]) (hCont (gb216, gb217) _ ⟨hHeld, (by (with_reducible repeat (first | refine blk_drewN ?_ _ | refine blk_drew ?_ | refine blk_alloc ?_ _)); exact BK216.out), (by (with_reducible repeat (first | refine blk_drewN ?_ _ | refine blk_drew ?_ | refine blk_alloc ?_ _)); exact BK217.out), GW216.out, GE216.out, NB217_216.out, NB216_217.out, GW217.out, GE217.out, (by repeat (first | (with_reducible first | exact HB.out | apply below_alloc | apply pw_below_drewN | apply below_drew1 | refine below_set ?_ GE216.out | refine below_set ?_ GE217.out) | exact HB.out))⟩)
        ·skip
         refine box_step ?hg (N := 7) ?hd (cs := #[.int .i64 0, .int .i64 0, .int .i64 0, .int .i64 0, .int .i64 0, .slice none 0 0]) (t := 26) ?hr ?_; (case hd => rfl); (case hg => rfl); (case hr => first | (go_simp; done) | (go_simp; rfl))
         intro gb217 hg w15 hbox hb
         have n0_ := Aside0.mk (below_step (by repeat (first | (with_reducible first | exact HB.out | apply below_alloc | apply pw_below_drewN | apply below_drew1) | exact HB.out)) hb)
         have n1_ := Aside0.mk (hbox)
         have n2_ := Aside0.mk ((by rw [hg]; exact (below_size (by repeat (first | (with_reducible first | exact HB.out | apply below_alloc | apply pw_below_drewN | apply below_drew1) | exact HB.out))) : w.heap.size ≤ gb217))
         have n3_ := Aside0.mk ((by rw [hg]; exact (below_size (by repeat (first | (with_reducible first | exact HB.out | apply below_alloc | apply pw_below_drewN | apply below_drew1) | exact HB.out))) : w.heap.size ≤ gb217))
         clear HB
         have HB := n0_
         have BK217 := n1_
         have GW217 := n2_
         have GE217 := n3_
         clear n0_ n1_ n2_ n3_
         clear hb hbox hg
         refine hK.out _ _ ⟨((HB.out.cell (xbl w _ hw214_0)).trans hw214_0), ((HB.out.cell (xbl w _ hw214_1)).trans hw214_1), ((HB.out.cell (xbl w _ hw214_2)).trans hw214_2), ((HB.out.cell (xbl w _ hw214_3)).trans hw214_3), ((HB.out.cell (xbl w _ hw214_4)).trans hw214_4), ((HB.out.cell (xbl w _ hw214_5)).trans hw214_5), ((HB.out.cell (xbl w _ hw215_0)).trans hw215_0), ((HB.out.cell (xbl w _ hw215_1)).trans hw215_1), ((HB.out.cell (xbl w _ hw215_2)).trans hw215_2), ((HB.out.cell (xbl w _ hw215_3)).trans hw215_3), ((HB.out.cell (xbl w _ hw215_4)).trans hw215_4), ((HB.out.cell (xbl w _ hw215_5)).trans hw215_5)⟩ (fun hHeld => ?_)
         clear hK K
         refine norm_ (a' := ?_) ?_ ?_
         rotate_left
         ·show Act.put _ (some 7) _ = _
          simp only [Act.put, xsA, xsZ, xsS, i64_w, i32_w]
          rfl
         refine one_ (i := 8) (N := some 6) #[true, true, true, true, true, true, true, true, true, true, false, false] rfl rfl (one_of HT_.out (by kernel_rfl)) (by decide) (fun K hK => ?_)
         refine box_step ?hg (N := 6) ?hd (cs := #[.int .i64 0, .int .i64 0, .int .i64 0, .int .i64 0, .int .i64 0, .slice none 0 0]) (t := 26) ?hr ?_; (case hd => rfl); (case hg => rfl); (case hr => first | (go_simp; done) | (go_simp; rfl))
         intro gb216 hg w16 hbox hb
         have n0_ := Aside0.mk (blk_below (g := gb217) (o := .cells #[.int .i64 0, .int .i64 0, .int .i64 0, .int .i64 0, .int .i64 0, .slice none 0 0] 26 (0, 0)) (by (with_reducible repeat (first | refine blk_drewN ?_ _ | refine blk_drew ?_ | refine blk_alloc ?_ _)); exact BK217.out) hb)
         have n1_ := Aside0.mk (below_step (by repeat (first | (with_reducible first | exact HB.out | apply below_alloc | apply pw_below_drewN | apply below_drew1 | refine below_set ?_ GE217.out) | exact HB.out)) hb)
         have n2_ := Aside0.mk (hbox)
         have n3_ := Aside0.mk ((by rw [hg]; exact (below_size (by repeat (first | (with_reducible first | exact HB.out | apply below_alloc | apply pw_below_drewN | apply below_drew1 | refine below_set ?_ GE217.out) | exact HB.out))) : w.heap.size ≤ gb216))
         have n4_ := Aside0.mk ((by rw [hg]; exact (below_size (by repeat (first | (with_reducible first | exact HB.out | apply below_alloc | apply pw_below_drewN | apply below_drew1 | refine below_set ?_ GE217.out) | exact HB.out))) : w.heap.size ≤ gb216))
         have n5_ := Aside0.mk ((by rw [hg]; exact Nat.ne_of_lt (blk_lt (g := gb217) (o := .cells #[.int .i64 0, .int .i64 0, .int .i64 0, .int .i64 0, .int .i64 0, .slice none 0 0] 26 (0, 0)) (by (with_reducible repeat (first | refine blk_drewN ?_ _ | refine blk_drew ?_ | refine blk_alloc ?_ _)); exact BK217.out)) : gb217 ≠ gb216))
         have n6_ := Aside0.mk ((by rw [hg]; exact Nat.ne_of_gt (blk_lt (g := gb217) (o := .cells #[.int .i64 0, .int .i64 0, .int .i64 0, .int .i64 0, .int .i64 0, .slice none 0 0] 26 (0, 0)) (by (with_reducible repeat (first | refine blk_drewN ?_ _ | refine blk_drew ?_ | refine blk_alloc ?_ _)); exact BK217.out)) : gb216 ≠ gb217))
         clear BK217
         clear HB
         have BK217 := n0_
         have HB := n1_
         have BK216 := n2_
         have GW216 := n3_
         have GE216 := n4_
         have NB217_216 := n5_
         have NB216_217 := n6_
         clear n0_ n1_ n2_ n3_ n4_ n5_ n6_
         clear hb hbox hg
         refine hK.out _ _ ⟨((HB.out.cell (xbl w _ hw214_0)).trans hw214_0), ((HB.out.cell (xbl w _ hw214_1)).trans hw214_1), ((HB.out.cell (xbl w _ hw214_2)).trans hw214_2), ((HB.out.cell (xbl w _ hw214_3)).trans hw214_3), ((HB.out.cell (xbl w _ hw214_4)).trans hw214_4), ((HB.out.cell (xbl w _ hw214_5)).trans hw214_5), ((HB.out.cell (xbl w _ hw215_0)).trans hw215_0), ((HB.out.cell (xbl w _ hw215_1)).trans hw215_1), ((HB.out.cell (xbl w _ hw215_2)).trans hw215_2), ((HB.out.cell (xbl w _ hw215_3)).trans hw215_3), ((HB.out.cell (xbl w _ hw215_4)).trans hw215_4), ((HB.out.cell (xbl w _ hw215_5)).trans hw215_5)⟩ (fun hHeld => ?_)
         clear hK K
         refine norm_ (a' := ?_) ?_ ?_
         rotate_left
         ·show Act.put _ (some 6) _ = _
          simp only [Act.put, xsA, xsZ, xsS, i64_w, i32_w]
          rfl
         exact norm_ (by simp only [putAll, Act.put, xsA, xsZ, xsS]) (hCont (gb216, gb217) _ ⟨hHeld, (by (with_reducible repeat (first | refine blk_drewN ?_ _ | refine blk_drew ?_ | refine blk_alloc ?_ _)); exact BK216.out), (by (with_reducible repeat (first | refine blk_drewN ?_ _ | refine blk_drew ?_ | refine blk_alloc ?_ _)); exact BK217.out), GW216.out, GE216.out, NB217_216.out, NB216_217.out, GW217.out, GE217.out, (by repeat (first | (with_reducible first | exact HB.out | apply below_alloc | apply pw_below_drewN | apply below_drew1 | refine below_set ?_ GE217.out | refine below_set ?_ GE216.out) | exact HB.out))⟩)
       rintro ⟨gb216, gb217⟩ w17 ⟨hS_, h0_, h1_, h2_, h3_, h4_, h5_, h6_, h7_, h8_⟩
       have n0_ : Aside0 (w17.heap[gb216]? = some (.cells #[.int .i64 0, .int .i64 0, .int .i64 0, .int .i64 0, .int .i64 0, .slice none 0 0] 26 (0, 0))) := ⟨h0_⟩
       have n1_ : Aside0 (w17.heap[gb217]? = some (.cells #[.int .i64 0, .int .i64 0, .int .i64 0, .int .i64 0, .int .i64 0, .slice none 0 0] 26 (0, 0))) := ⟨h1_⟩
       have n2_ : Aside0 (w.heap.size ≤ gb216) := ⟨h2_⟩
       have n3_ : Aside0 (w.heap.size ≤ gb216) := ⟨h3_⟩
       have n4_ : Aside0 (gb217 ≠ gb216) := ⟨h4_⟩
       have n5_ : Aside0 (gb216 ≠ gb217) := ⟨h5_⟩
       have n6_ : Aside0 (w.heap.size ≤ gb217) := ⟨h6_⟩
       have n7_ : Aside0 (w.heap.size ≤ gb217) := ⟨h7_⟩
       have n8_ : Aside0 (Below w.heap.size w w17) := ⟨h8_⟩
       clear HB
       clear h0_ h1_ h2_ h3_ h4_ h5_ h6_ h7_ h8_
       have BK216 := n0_
       have BK217 := n1_
       have GW216 := n2_
       have GE216 := n3_
       have NB217_216 := n4_
       have NB216_217 := n5_
       have GW217 := n6_
       have GE217 := n7_
       have HB := n8_
       clear n0_ n1_ n2_ n3_ n4_ n5_ n6_ n7_ n8_
       have hHeld : w17.cell? (ad214.add ((x5_1).toNat * 6)) = some (.int .i64 ((rd_T26 l0 x5_1).f0)) ∧ w17.cell? ⟨(ad214.add ((x5_1).toNat * 6)).block, (ad214.add ((x5_1).toNat * 6)).off + 1, none⟩ = some (.int .i64 ((rd_T26 l0 x5_1).f1)) ∧ w17.cell? ⟨(ad214.add ((x5_1).toNat * 6)).block, (ad214.add ((x5_1).toNat * 6)).off + 2, none⟩ = some (.int .i64 ((rd_T26 l0 x5_1).f2)) ∧ w17.cell? ⟨(ad214.add ((x5_1).toNat * 6)).block, (ad214.add ((x5_1).toNat * 6)).off + 3, none⟩ = some (.int .i64 ((rd_T26 l0 x5_1).f3)) ∧ w17.cell? ⟨(ad214.add ((x5_1).toNat * 6)).block, (ad214.add ((x5_1).toNat * 6)).off + 4, none⟩ = some (.int .i64 ((rd_T26 l0 x5_1).f4)) ∧ w17.cell? ⟨(ad214.add ((x5_1).toNat * 6)).block, (ad214.add ((x5_1).toNat * 6)).off + 5, none⟩ = some (.slice A214_5 ((rd_T26 l0 x5_1).f5).length c214_5) ∧ w17.cell? (ad215.add ((x5_1).toNat * 6)) = some (.int .i64 ((rd_T26 l1 x5_1).f0)) ∧ w17.cell? ⟨(ad215.add ((x5_1).toNat * 6)).block, (ad215.add ((x5_1).toNat * 6)).off + 1, none⟩ = some (.int .i64 ((rd_T26 l1 x5_1).f1)) ∧ w17.cell? ⟨(ad215.add ((x5_1).toNat * 6)).block, (ad215.add ((x5_1).toNat * 6)).off + 2, none⟩ = some (.int .i64 ((rd_T26 l1 x5_1).f2)) ∧ w17.cell? ⟨(ad215.add ((x5_1).toNat * 6)).block, (ad215.add ((x5_1).toNat * 6)).off + 3, none⟩ = some (.int .i64 ((rd_T26 l1 x5_1).f3)) ∧ w17.cell? ⟨(ad215.add ((x5_1).toNat * 6)).block, (ad215.add ((x5_1).toNat * 6)).off + 4, none⟩ = some (.int .i64 ((rd_T26 l1 x5_1).f4)) ∧ w17.cell? ⟨(ad215.add ((x5_1).toNat * 6)).block, (ad215.add ((x5_1).toNat * 6)).off + 5, none⟩ = some (.slice A215_5 ((rd_T26 l1 x5_1).f5).length c215_5) := hS_
       refine norm_ (a' := ?_) ?_ ?_
       rotate_left
       ·simp only [putAll, Act.put, xsA, xsZ, xsS]
        rfl
       refine one_ (i := 10) (N := none) #[true, true, true, true, true, true, true, true, true, true, true, false] rfl rfl (one_of HT_.out (by kernel_rfl)) (by decide) (fun K hK => ?_)
       have hs18 : w17.cell? ⟨gb216, 0, none⟩ = some (.int .i64 0) := (blk_cell BK216.out 0).trans rfl
       have hfs18 := blk_frozen BK216.out 0
       have hns18_1 := NB217_216.out
       have hms18_1 := NB216_217.out
       have hs19 : w17.cell? ⟨gb216, 1, none⟩ = some (.int .i64 0) := (blk_cell BK216.out 1).trans rfl
       have hfs19 := blk_frozen BK216.out 1
       have hns19_1 := NB217_216.out
       have hms19_1 := NB216_217.out
       have hs20 : w17.cell? ⟨gb216, 2, none⟩ = some (.int .i64 0) := (blk_cell BK216.out 2).trans rfl
       have hfs20 := blk_frozen BK216.out 2
       have hns20_1 := NB217_216.out
       have hms20_1 := NB216_217.out
       have hs21 : w17.cell? ⟨gb216, 3, none⟩ = some (.int .i64 0) := (blk_cell BK216.out 3).trans rfl
       have hfs21 := blk_frozen BK216.out 3
       have hns21_1 := NB217_216.out
       have hms21_1 := NB216_217.out
       have hs22 : w17.cell? ⟨gb216, 4, none⟩ = some (.int .i64 0) := (blk_cell BK216.out 4).trans rfl
       have hfs22 := blk_frozen BK216.out 4
       have hns22_1 := NB217_216.out
       have hms22_1 := NB216_217.out
       have hs23 : w17.cell? ⟨gb216, 5, none⟩ = some (.slice none 0 0) := (blk_cell BK216.out 5).trans rfl
       have hfs23 := blk_frozen BK216.out 5
       have hns23_1 := NB217_216.out
       have hms23_1 := NB216_217.out
       refine skip_ (w1 := ?_) (by rfl) rfl ?_ ?_
       rotate_left
       ·go_simp
        rfl
       refine hK.out _ _ ⟨(Below.cell (w := w) (by repeat (first | (with_reducible first | exact HB.out | apply below_alloc | apply pw_below_drewN | apply below_drew1 | refine below_set ?_ GE216.out | refine below_set ?_ GE217.out) | exact HB.out)) (xbl w _ hw214_0)).trans hw214_0, (Below.cell (w := w) (by repeat (first | (with_reducible first | exact HB.out | apply below_alloc | apply pw_below_drewN | apply below_drew1 | refine below_set ?_ GE216.out | refine below_set ?_ GE217.out) | exact HB.out)) (xbl w _ hw214_1)).trans hw214_1, (Below.cell (w := w) (by repeat (first | (with_reducible first | exact HB.out | apply below_alloc | apply pw_below_drewN | apply below_drew1 | refine below_set ?_ GE216.out | refine below_set ?_ GE217.out) | exact HB.out)) (xbl w _ hw214_2)).trans hw214_2, (Below.cell (w := w) (by repeat (first | (with_reducible first | exact HB.out | apply below_alloc | apply pw_below_drewN | apply below_drew1 | refine below_set ?_ GE216.out | refine below_set ?_ GE217.out) | exact HB.out)) (xbl w _ hw214_3)).trans hw214_3, (Below.cell (w := w) (by repeat (first | (with_reducible first | exact HB.out | apply below_alloc | apply pw_below_drewN | apply below_drew1 | refine below_set ?_ GE216.out | refine below_set ?_ GE217.out) | exact HB.out)) (xbl w _ hw214_4)).trans hw214_4, (Below.cell (w := w) (by repeat (first | (with_reducible first | exact HB.out | apply below_alloc | apply pw_below_drewN | apply below_drew1 | refine below_set ?_ GE216.out | refine below_set ?_ GE217.out) | exact HB.out)) (xbl w _ hw214_5)).trans hw214_5, (Below.cell (w := w) (by repeat (first | (with_reducible first | exact HB.out | apply below_alloc | apply pw_below_drewN | apply below_drew1 | refine below_set ?_ GE216.out | refine below_set ?_ GE217.out) | exact HB.out)) (xbl w _ hw215_0)).trans hw215_0, (Below.cell (w := w) (by repeat (first | (with_reducible first | exact HB.out | apply below_alloc | apply pw_below_drewN | apply below_drew1 | refine below_set ?_ GE216.out | refine below_set ?_ GE217.out) | exact HB.out)) (xbl w _ hw215_1)).trans hw215_1, (Below.cell (w := w) (by repeat (first | (with_reducible first | exact HB.out | apply below_alloc | apply pw_below_drewN | apply below_drew1 | refine below_set ?_ GE216.out | refine below_set ?_ GE217.out) | exact HB.out)) (xbl w _ hw215_2)).trans hw215_2, (Below.cell (w := w) (by repeat (first | (with_reducible first | exact HB.out | apply below_alloc | apply pw_below_drewN | apply below_drew1 | refine below_set ?_ GE216.out | refine below_set ?_ GE217.out) | exact HB.out)) (xbl w _ hw215_3)).trans hw215_3, (Below.cell (w := w) (by repeat (first | (with_reducible first | exact HB.out | apply below_alloc | apply pw_below_drewN | apply below_drew1 | refine below_set ?_ GE216.out | refine below_set ?_ GE217.out) | exact HB.out)) (xbl w _ hw215_4)).trans hw215_4, (Below.cell (w := w) (by repeat (first | (with_reducible first | exact HB.out | apply below_alloc | apply pw_below_drewN | apply below_drew1 | refine below_set ?_ GE216.out | refine below_set ?_ GE217.out) | exact HB.out)) (xbl w _ hw215_5)).trans hw215_5⟩ (fun hHeld => ?_)
       clear hK K
       refine one_ (i := 11) (N := none) #[true, true, true, true, true, true, true, true, true, true, true, true] rfl rfl (one_of HT_.out (by kernel_rfl)) (by decide) (fun K hK => ?_)
       have hs24 : w17.cell? ⟨gb217, 0, none⟩ = some (.int .i64 0) := (blk_cell BK217.out 0).trans rfl
       have hfs24 := blk_frozen BK217.out 0
       have hns24_0 := NB216_217.out
       have hms24_0 := NB217_216.out
       have hs25 : w17.cell? ⟨gb217, 1, none⟩ = some (.int .i64 0) := (blk_cell BK217.out 1).trans rfl
       have hfs25 := blk_frozen BK217.out 1
       have hns25_0 := NB216_217.out
       have hms25_0 := NB217_216.out
       have hs26 : w17.cell? ⟨gb217, 2, none⟩ = some (.int .i64 0) := (blk_cell BK217.out 2).trans rfl
       have hfs26 := blk_frozen BK217.out 2
       have hns26_0 := NB216_217.out
       have hms26_0 := NB217_216.out
       have hs27 : w17.cell? ⟨gb217, 3, none⟩ = some (.int .i64 0) := (blk_cell BK217.out 3).trans rfl
       have hfs27 := blk_frozen BK217.out 3
       have hns27_0 := NB216_217.out
       have hms27_0 := NB217_216.out
       have hs28 : w17.cell? ⟨gb217, 4, none⟩ = some (.int .i64 0) := (blk_cell BK217.out 4).trans rfl
       have hfs28 := blk_frozen BK217.out 4
       have hns28_0 := NB216_217.out
       have hms28_0 := NB217_216.out
       have hs29 : w17.cell? ⟨gb217, 5, none⟩ = some (.slice none 0 0) := (blk_cell BK217.out 5).trans rfl
       have hfs29 := blk_frozen BK217.out 5
       have hns29_0 := NB216_217.out
       have hms29_0 := NB217_216.out
       refine skip_ (w1 := ?_) (by rfl) rfl ?_ ?_
       rotate_left
       ·go_simp
        rfl
       refine hK.out _ _ ⟨(Below.cell (w := w) (by repeat (first | (with_reducible first | exact HB.out | apply below_alloc | apply pw_below_drewN | apply below_drew1 | refine below_set ?_ GE216.out | refine below_set ?_ GE217.out) | exact HB.out)) (xbl w _ hw214_0)).trans hw214_0, (Below.cell (w := w) (by repeat (first | (with_reducible first | exact HB.out | apply below_alloc | apply pw_below_drewN | apply below_drew1 | refine below_set ?_ GE216.out | refine below_set ?_ GE217.out) | exact HB.out)) (xbl w _ hw214_1)).trans hw214_1, (Below.cell (w := w) (by repeat (first | (with_reducible first | exact HB.out | apply below_alloc | apply pw_below_drewN | apply below_drew1 | refine below_set ?_ GE216.out | refine below_set ?_ GE217.out) | exact HB.out)) (xbl w _ hw214_2)).trans hw214_2, (Below.cell (w := w) (by repeat (first | (with_reducible first | exact HB.out | apply below_alloc | apply pw_below_drewN | apply below_drew1 | refine below_set ?_ GE216.out | refine below_set ?_ GE217.out) | exact HB.out)) (xbl w _ hw214_3)).trans hw214_3, (Below.cell (w := w) (by repeat (first | (with_reducible first | exact HB.out | apply below_alloc | apply pw_below_drewN | apply below_drew1 | refine below_set ?_ GE216.out | refine below_set ?_ GE217.out) | exact HB.out)) (xbl w _ hw214_4)).trans hw214_4, (Below.cell (w := w) (by repeat (first | (with_reducible first | exact HB.out | apply below_alloc | apply pw_below_drewN | apply below_drew1 | refine below_set ?_ GE216.out | refine below_set ?_ GE217.out) | exact HB.out)) (xbl w _ hw214_5)).trans hw214_5, (Below.cell (w := w) (by repeat (first | (with_reducible first | exact HB.out | apply below_alloc | apply pw_below_drewN | apply below_drew1 | refine below_set ?_ GE216.out | refine below_set ?_ GE217.out) | exact HB.out)) (xbl w _ hw215_0)).trans hw215_0, (Below.cell (w := w) (by repeat (first | (with_reducible first | exact HB.out | apply below_alloc | apply pw_below_drewN | apply below_drew1 | refine below_set ?_ GE216.out | refine below_set ?_ GE217.out) | exact HB.out)) (xbl w _ hw215_1)).trans hw215_1, (Below.cell (w := w) (by repeat (first | (with_reducible first | exact HB.out | apply below_alloc | apply pw_below_drewN | apply below_drew1 | refine below_set ?_ GE216.out | refine below_set ?_ GE217.out) | exact HB.out)) (xbl w _ hw215_2)).trans hw215_2, (Below.cell (w := w) (by repeat (first | (with_reducible first | exact HB.out | apply below_alloc | apply pw_below_drewN | apply below_drew1 | refine below_set ?_ GE216.out | refine below_set ?_ GE217.out) | exact HB.out)) (xbl w _ hw215_3)).trans hw215_3, (Below.cell (w := w) (by repeat (first | (with_reducible first | exact HB.out | apply below_alloc | apply pw_below_drewN | apply below_drew1 | refine below_set ?_ GE216.out | refine below_set ?_ GE217.out) | exact HB.out)) (xbl w _ hw215_4)).trans hw215_4, (Below.cell (w := w) (by repeat (first | (with_reducible first | exact HB.out | apply below_alloc | apply pw_below_drewN | apply below_drew1 | refine below_set ?_ GE216.out | refine below_set ?_ GE217.out) | exact HB.out)) (xbl w _ hw215_5)).trans hw215_5⟩ (fun hHeld => ?_)
       clear hK K
       refine done_ (done_of HT_.out (by kernel_rfl)) ?_
       have hnb30 := NB216_217.out
       have hnc30 := NB217_216.out
       have hcz31_0 : w17.cell? ⟨gb216, 0, none⟩ = some (.int .i64 0) := (blk_cell BK216.out 0).trans rfl
       have hcz31_1 : w17.cell? ⟨gb216, 1, none⟩ = some (.int .i64 0) := (blk_cell BK216.out 1).trans rfl
       have hcz31_2 : w17.cell? ⟨gb216, 2, none⟩ = some (.int .i64 0) := (blk_cell BK216.out 2).trans rfl
       have hcz31_3 : w17.cell? ⟨gb216, 3, none⟩ = some (.int .i64 0) := (blk_cell BK216.out 3).trans rfl
       have hcz31_4 : w17.cell? ⟨gb216, 4, none⟩ = some (.int .i64 0) := (blk_cell BK216.out 4).trans rfl
       have hcz31_5 : w17.cell? ⟨gb216, 5, none⟩ = some (.slice none 0 0) := (blk_cell BK216.out 5).trans rfl
       have hfz31_0 := blk_frozen BK216.out 0
       have hfz31_1 := blk_frozen BK216.out 1
       have hfz31_2 := blk_frozen BK216.out 2
       have hfz31_3 := blk_frozen BK216.out 3
       have hfz31_4 := blk_frozen BK216.out 4
       have hfz31_5 := blk_frozen BK216.out 5
       have hcz32_0 : w17.cell? ⟨gb217, 0, none⟩ = some (.int .i64 0) := (blk_cell BK217.out 0).trans rfl
       have hcz32_1 : w17.cell? ⟨gb217, 1, none⟩ = some (.int .i64 0) := (blk_cell BK217.out 1).trans rfl
       have hcz32_2 : w17.cell? ⟨gb217, 2, none⟩ = some (.int .i64 0) := (blk_cell BK217.out 2).trans rfl
       have hcz32_3 : w17.cell? ⟨gb217, 3, none⟩ = some (.int .i64 0) := (blk_cell BK217.out 3).trans rfl
       have hcz32_4 : w17.cell? ⟨gb217, 4, none⟩ = some (.int .i64 0) := (blk_cell BK217.out 4).trans rfl
       have hcz32_5 : w17.cell? ⟨gb217, 5, none⟩ = some (.slice none 0 0) := (blk_cell BK217.out 5).trans rfl
       have hfz32_0 := blk_frozen BK217.out 0
       have hfz32_1 := blk_frozen BK217.out 1
       have hfz32_2 := blk_frozen BK217.out 2
       have hfz32_3 := blk_frozen BK217.out 3
       have hfz32_4 := blk_frozen BK217.out 4
       have hfz32_5 := blk_frozen BK217.out 5
       have H := H'.out
       clear H'
       by_cases c7 : ((rd_T26 l0 x5_1).f0) = ((rd_T26 l1 x5_1).f0)
       ·rw [if_pos c7] at H
        have c7b0 : (((rd_T26 l0 x5_1).f0) == ((rd_T26 l1 x5_1).f0)) = true := beq_iff_eq.mpr c7
        have c7b1 : (((rd_T26 l0 x5_1).f0) != ((rd_T26 l1 x5_1).f0)) = false := bne_eq_false_iff_eq.mpr c7
        clear c7
        by_cases c8 : ((rd_T26 l0 x5_1).f1) = ((rd_T26 l1 x5_1).f1)
        ·rw [if_pos c8] at H
         have c8b0 : (((rd_T26 l0 x5_1).f1) == ((rd_T26 l1 x5_1).f1)) = true := beq_iff_eq.mpr c8
         have c8b1 : (((rd_T26 l0 x5_1).f1) != ((rd_T26 l1 x5_1).f1)) = false := bne_eq_false_iff_eq.mpr c8
         clear c8
         by_cases c9 : ((rd_T26 l0 x5_1).f2) = ((rd_T26 l1 x5_1).f2)
         ·rw [if_pos c9] at H
          have c9b0 : (((rd_T26 l0 x5_1).f2) == ((rd_T26 l1 x5_1).f2)) = true := beq_iff_eq.mpr c9
          have c9b1 : (((rd_T26 l0 x5_1).f2) != ((rd_T26 l1 x5_1).f2)) = false := bne_eq_false_iff_eq.mpr c9
          clear c9
          by_cases c10 : ((rd_T26 l0 x5_1).f3) = ((rd_T26 l1 x5_1).f3)
          ·rw [if_pos c10] at H
           have c10b0 : (((rd_T26 l0 x5_1).f3) == ((rd_T26 l1 x5_1).f3)) = true := beq_iff_eq.mpr c10
           have c10b1 : (((rd_T26 l0 x5_1).f3) != ((rd_T26 l1 x5_1).f3)) = false := bne_eq_false_iff_eq.mpr c10
           clear c10
           by_cases c11 : ((rd_T26 l0 x5_1).f4) = ((rd_T26 l1 x5_1).f4)
           ·rw [if_pos c11] at H
            have c11b0 : (((rd_T26 l0 x5_1).f4) == ((rd_T26 l1 x5_1).f4)) = true := beq_iff_eq.mpr c11
            have c11b1 : (((rd_T26 l0 x5_1).f4) != ((rd_T26 l1 x5_1).f4)) = false := bne_eq_false_iff_eq.mpr c11
            clear c11
            replace H := Option.bind_eq_some_iff.mp H
            obtain ⟨t218, A120, H⟩ := H
            replace H : (if t218 = true then (lw_sameBills.l0 k1 l0 l1 (wrap64 (x5_1 + 1))) else (some false)) = some r := H
            have A12 := Aside0.mk A120
            clear A120
            by_cases c13 : t218 = true
            ·subst c13
             have H1 : (lw_sameBills.l0 k1 l0 l1 (wrap64 (x5_1 + 1))) = some r := by rw [if_pos rfl] at H; exact H
             clear H
             have H := H1
             clear H1
             have H' := Aside0.mk H
             clear H
             try go_wp2_with (first | (go_at_call 32; (with_reducible refine (lw_equal.calls k1 _ _ ((rd_T26 l0 x5_1).f5) _ _ ((rd_T26 l1 x5_1).f5) true _ ?side1 ?side2 ?side3 ?side4 A12.out).mono ?_); (case side1 => exact Kd.C_below HR214_5.out (by repeat (first | (with_reducible first | exact HB.out | apply below_alloc | apply pw_below_drewN | apply below_drew1 | refine below_set ?_ GE216.out | refine below_set ?_ GE217.out) | exact HB.out))); (case side2 => exact HC214_5.out); (case side3 => exact Kd.C_below HR215_5.out (by repeat (first | (with_reducible first | exact HB.out | apply below_alloc | apply pw_below_drewN | apply below_drew1 | refine below_set ?_ GE216.out | refine below_set ?_ GE217.out) | exact HB.out))); (case side4 => exact HC215_5.out); rintro e w' ⟨rfl, ⟨nd, rfl⟩⟩))
             go_roundg k1
             case measure => have := HK1.out; omega
             case rel => exact ⟨(wrap64 (x5_1 + 1)), (by first | rfl | (simp; done) | (simp [*]; done)), H', ⟨by have := HK1.out; omega⟩, ⟨by repeat (first | (with_reducible first | exact HB.out | apply below_alloc | apply pw_below_drewN | apply below_drew1 | refine below_set ?_ GE216.out | refine below_set ?_ GE217.out) | exact HB.out)⟩⟩
            ·replace c13 := Bool.eq_false_iff.mpr c13
             subst c13
             have H1 : (some false) = some r := by rw [if_neg (show ¬ (false = true) by decide)] at H; exact H
             clear H
             have H := H1
             clear H1
             obtain rfl := Option.some.inj H
             exact absurd HRT.out (by decide)
           ·rw [if_neg c11] at H
            have c11b0 : (((rd_T26 l0 x5_1).f4) == ((rd_T26 l1 x5_1).f4)) = false := beq_eq_false_iff_ne.mpr c11
            have c11b1 : (((rd_T26 l0 x5_1).f4) != ((rd_T26 l1 x5_1).f4)) = true := bne_iff_ne.mpr c11
            obtain rfl := Option.some.inj H
            exact absurd HRT.out (by decide)
          ·rw [if_neg c10] at H
           have c10b0 : (((rd_T26 l0 x5_1).f3) == ((rd_T26 l1 x5_1).f3)) = false := beq_eq_false_iff_ne.mpr c10
           have c10b1 : (((rd_T26 l0 x5_1).f3) != ((rd_T26 l1 x5_1).f3)) = true := bne_iff_ne.mpr c10
           obtain rfl := Option.some.inj H
           exact absurd HRT.out (by decide)
         ·rw [if_neg c9] at H
          have c9b0 : (((rd_T26 l0 x5_1).f2) == ((rd_T26 l1 x5_1).f2)) = false := beq_eq_false_iff_ne.mpr c9
          have c9b1 : (((rd_T26 l0 x5_1).f2) != ((rd_T26 l1 x5_1).f2)) = true := bne_iff_ne.mpr c9
          obtain rfl := Option.some.inj H
          exact absurd HRT.out (by decide)
        ·rw [if_neg c8] at H
         have c8b0 : (((rd_T26 l0 x5_1).f1) == ((rd_T26 l1 x5_1).f1)) = false := beq_eq_false_iff_ne.mpr c8
         have c8b1 : (((rd_T26 l0 x5_1).f1) != ((rd_T26 l1 x5_1).f1)) = true := bne_iff_ne.mpr c8
         obtain rfl := Option.some.inj H
         exact absurd HRT.out (by decide)
       ·rw [if_neg c7] at H
        have c7b0 : (((rd_T26 l0 x5_1).f0) == ((rd_T26 l1 x5_1).f0)) = false := beq_eq_false_iff_ne.mpr c7
        have c7b1 : (((rd_T26 l0 x5_1).f0) != ((rd_T26 l1 x5_1).f0)) = true := bne_iff_ne.mpr c7
        obtain rfl := Option.some.inj H
        exact absurd HRT.out (by decide)
      ·rw [if_neg c6] at H
       exact absurd H (by simp)
     ·rw [if_neg c5] at H
      exact absurd H (by simp)
    ·rw [if_neg c4] at H
     have c4b0 : decide (x5_1 < (l0.length : Int)) = false := decide_eq_false c4
     clear c4
     obtain rfl := Option.some.inj H
     go_wp2
     go_ret
     exact ⟨by first | rfl | (simp [errW_none, errW_some] <;> rfl) | (simp [*, errW_none, errW_some] <;> rfl), by repeat (first | (with_reducible first | exact HB.out | apply below_alloc | apply pw_below_drewN | apply below_drew1) | exact HB.out)⟩
 ·rw [if_neg c3] at H
  have c3b0 : ((l0.length : Int) == (l1.length : Int)) = false := beq_eq_false_iff_ne.mpr c3
  have c3b1 : ((l0.length : Int) != (l1.length : Int)) = true := bne_iff_ne.mpr c3
  have c3b2 : (l0.length == l1.length) = false := by first | simpa using c3 | (simp at c3 ⊢; omega)
  obtain rfl := Option.some.inj H
  exact absurd HRT.out (by decide)
def rf_BillText.l0 : Nat → ByteArray → Int → Int → Int → Int → Int → Int → List Int → Option (ByteArray)
 | 0, _, _, _, _, _, _, _, _ => none
 | k + 1, x3, x4, x129000, x129001, x129002, x129003, x129004, x129005 => if x4 < (x129005.length : Int) then (if x4 > 0 then (if x3.size + 1 ≤ 9223372036854775807 then (if 0 ≤ x4 then ((rf_Number.f (rd x129005 x4)).bind fun t135 => (if (x3 ++ (⟨#[44]⟩ : ByteArray)).size + t135.size ≤ 9223372036854775807 then (rf_BillText.l0 k ((x3 ++ (⟨#[44]⟩ : ByteArray)) ++ t135) (wrap64 (x4 + 1)) x129000 x129001 x129002 x129003 x129004 x129005) else (none))) else (none)) else (none)) else (if 0 ≤ x4 then ((rf_Number.f (rd x129005 x4)).bind fun t137 => (if x3.size + t137.size ≤ 9223372036854775807 then (rf_BillText.l0 k (x3 ++ t137) (wrap64 (x4 + 1)) x129000 x129001 x129002 x129003 x129004 x129005) else (none))) else (none))) else (if (x129005.length : Int) = 0 then (if x3.size + 1 ≤ 9223372036854775807 then ((rf_Line.f (x3 ++ (⟨#[45]⟩ : ByteArray))).bind fun t138 => (some t138)) else (none)) else ((rf_Line.f x3).bind fun t139 => (some t139)))
def rf_BillText.f (k : Nat) (a0_0 : Int) (a0_1 : Int) (a0_2 : Int) (a0_3 : Int) (a0_4 : Int) (l0_5 : List Int) : Option (ByteArray) := (rf_Number.f a0_0).bind fun t129 => (if t129.size + 1 ≤ 9223372036854775807 then ((rf_Number.f a0_1).bind fun t130 => (if (t129 ++ (⟨#[32]⟩ : ByteArray)).size + t130.size ≤ 9223372036854775807 then (if ((t129 ++ (⟨#[32]⟩ : ByteArray)) ++ t130).size + 1 ≤ 9223372036854775807 then ((rf_Number.f a0_2).bind fun t131 => (if (((t129 ++ (⟨#[32]⟩ : ByteArray)) ++ t130) ++ (⟨#[32]⟩ : ByteArray)).size + t131.size ≤ 9223372036854775807 then (if ((((t129 ++ (⟨#[32]⟩ : ByteArray)) ++ t130) ++ (⟨#[32]⟩ : ByteArray)) ++ t131).size + 1 ≤ 9223372036854775807 then ((rf_Number.f a0_3).bind fun t132 => (if (((((t129 ++ (⟨#[32]⟩ : ByteArray)) ++ t130) ++ (⟨#[32]⟩ : ByteArray)) ++ t131) ++ (⟨#[32]⟩ : ByteArray)).size + t132.size ≤ 9223372036854775807 then (if ((((((t129 ++ (⟨#[32]⟩ : ByteArray)) ++ t130) ++ (⟨#[32]⟩ : ByteArray)) ++ t131) ++ (⟨#[32]⟩ : ByteArray)) ++ t132).size + 1 ≤ 9223372036854775807 then ((rf_Number.f a0_4).bind fun t133 => (if (((((((t129 ++ (⟨#[32]⟩ : ByteArray)) ++ t130) ++ (⟨#[32]⟩ : ByteArray)) ++ t131) ++ (⟨#[32]⟩ : ByteArray)) ++ t132) ++ (⟨#[62]⟩ : ByteArray)).size + t133.size ≤ 9223372036854775807 then (if ((((((((t129 ++ (⟨#[32]⟩ : ByteArray)) ++ t130) ++ (⟨#[32]⟩ : ByteArray)) ++ t131) ++ (⟨#[32]⟩ : ByteArray)) ++ t132) ++ (⟨#[62]⟩ : ByteArray)) ++ t133).size + 1 ≤ 9223372036854775807 then (rf_BillText.l0 k (((((((((t129 ++ (⟨#[32]⟩ : ByteArray)) ++ t130) ++ (⟨#[32]⟩ : ByteArray)) ++ t131) ++ (⟨#[32]⟩ : ByteArray)) ++ t132) ++ (⟨#[62]⟩ : ByteArray)) ++ t133) ++ (⟨#[32]⟩ : ByteArray)) 0 a0_0 a0_1 a0_2 a0_3 a0_4 l0_5) else (none)) else (none))) else (none)) else (none))) else (none)) else (none))) else (none)) else (none))) else (none))
def rf_BillText.T1 : Bool × List (List Nat × List Nat) := (true, [([], []), ([0], [0]), ([1], [1]), ([2], [2]), ([], []), ([4], [4]), ([5, 2], [5]), ([3, 6], [3, 6]), ([7], [7]), ([], []), ([9], [9]), ([10, 6], [10]), ([8, 11], [8, 11]), ([12], [12]), ([], []), ([14], [14]), ([15, 11], [15]), ([13, 16], [13, 16]), ([17], [17]), ([], []), ([19], [19]), ([20, 16], [20]), ([18, 21], [18, 21]), ([22], [22]), ([23, 21, 0, 1, 2, 3, 4, 5, 6, 7, 8, 9, 10, 11, 12, 13, 14, 15, 16, 17, 18, 19, 20, 21, 22, 23], [23])])
def rf_BillText.B1 : List Nat := [0, 1, 3, 7, 0, 16, 55, 127, 255, 0, 512, 1655, 4095, 8191, 0, 16384, 52855, 131071, 262143, 0, 524288, 1691255, 4194303, 8388607, 16777215]
theorem rf_BillText.tab1 : rtab .any (opsOf Tryz.f27 1) = rf_BillText.T1 := by kernel_rfl
theorem rf_BillText.bits1 : waitsOk rf_BillText.T1.2 rf_BillText.B1 = true := by kernel_rfl
set_option maxHeartbeats 8000000 in
set_option maxRecDepth 100000 in
theorem rf_BillText.calls (k : Nat) (a0_0 : Int) (a0_1 : Int) (a0_2 : Int) (a0_3 : Int) (a0_4 : Int) (A0_5 : Option Addr) (c0_5 : Nat) (l0_5 : List Int) (r : ByteArray) (w : World) (hr0_5 : Kd.C (Kd.int .i64) w A0_5 l0_5.length l0_5) (hc0_5 : l0_5.length ≤ c0_5) (h : rf_BillText.f k a0_0 a0_1 a0_2 a0_3 a0_4 l0_5 = some r) :
  Calls Tryz.prog 27 #[.agg #[.int .i64 a0_0, .int .i64 a0_1, .int .i64 a0_2, .int .i64 a0_3, .int .i64 a0_4, .slice A0_5 l0_5.length c0_5]] w fun e w' => e = .returned (.string r) ∧ Below w.heap.size w w' := by
 have hu26 := Tryz.underlying26
 have HR0_5 := Aside0.mk hr0_5
 have HC0_5 := Aside0.mk hc0_5
 clear hr0_5 hc0_5
 have HB := Aside0.mk (Below.refl w.heap.size w)
 have H : ((rf_Number.f a0_0).bind fun t129 => (if t129.size + 1 ≤ 9223372036854775807 then ((rf_Number.f a0_1).bind fun t130 => (if (t129 ++ (⟨#[32]⟩ : ByteArray)).size + t130.size ≤ 9223372036854775807 then (if ((t129 ++ (⟨#[32]⟩ : ByteArray)) ++ t130).size + 1 ≤ 9223372036854775807 then ((rf_Number.f a0_2).bind fun t131 => (if (((t129 ++ (⟨#[32]⟩ : ByteArray)) ++ t130) ++ (⟨#[32]⟩ : ByteArray)).size + t131.size ≤ 9223372036854775807 then (if ((((t129 ++ (⟨#[32]⟩ : ByteArray)) ++ t130) ++ (⟨#[32]⟩ : ByteArray)) ++ t131).size + 1 ≤ 9223372036854775807 then ((rf_Number.f a0_3).bind fun t132 => (if (((((t129 ++ (⟨#[32]⟩ : ByteArray)) ++ t130) ++ (⟨#[32]⟩ : ByteArray)) ++ t131) ++ (⟨#[32]⟩ : ByteArray)).size + t132.size ≤ 9223372036854775807 then (if ((((((t129 ++ (⟨#[32]⟩ : ByteArray)) ++ t130) ++ (⟨#[32]⟩ : ByteArray)) ++ t131) ++ (⟨#[32]⟩ : ByteArray)) ++ t132).size + 1 ≤ 9223372036854775807 then ((rf_Number.f a0_4).bind fun t133 => (if (((((((t129 ++ (⟨#[32]⟩ : ByteArray)) ++ t130) ++ (⟨#[32]⟩ : ByteArray)) ++ t131) ++ (⟨#[32]⟩ : ByteArray)) ++ t132) ++ (⟨#[62]⟩ : ByteArray)).size + t133.size ≤ 9223372036854775807 then (if ((((((((t129 ++ (⟨#[32]⟩ : ByteArray)) ++ t130) ++ (⟨#[32]⟩ : ByteArray)) ++ t131) ++ (⟨#[32]⟩ : ByteArray)) ++ t132) ++ (⟨#[62]⟩ : ByteArray)) ++ t133).size + 1 ≤ 9223372036854775807 then (rf_BillText.l0 k (((((((((t129 ++ (⟨#[32]⟩ : ByteArray)) ++ t130) ++ (⟨#[32]⟩ : ByteArray)) ++ t131) ++ (⟨#[32]⟩ : ByteArray)) ++ t132) ++ (⟨#[62]⟩ : ByteArray)) ++ t133) ++ (⟨#[32]⟩ : ByteArray)) 0 a0_0 a0_1 a0_2 a0_3 a0_4 l0_5) else (none)) else (none))) else (none)) else (none))) else (none)) else (none))) else (none)) else (none))) else (none))) = some r := h
 clear h
 replace H := Option.bind_eq_some_iff.mp H
 obtain ⟨t129, A20, H⟩ := H
 replace H : (if t129.size + 1 ≤ 9223372036854775807 then ((rf_Number.f a0_1).bind fun t130 => (if (t129 ++ (⟨#[32]⟩ : ByteArray)).size + t130.size ≤ 9223372036854775807 then (if ((t129 ++ (⟨#[32]⟩ : ByteArray)) ++ t130).size + 1 ≤ 9223372036854775807 then ((rf_Number.f a0_2).bind fun t131 => (if (((t129 ++ (⟨#[32]⟩ : ByteArray)) ++ t130) ++ (⟨#[32]⟩ : ByteArray)).size + t131.size ≤ 9223372036854775807 then (if ((((t129 ++ (⟨#[32]⟩ : ByteArray)) ++ t130) ++ (⟨#[32]⟩ : ByteArray)) ++ t131).size + 1 ≤ 9223372036854775807 then ((rf_Number.f a0_3).bind fun t132 => (if (((((t129 ++ (⟨#[32]⟩ : ByteArray)) ++ t130) ++ (⟨#[32]⟩ : ByteArray)) ++ t131) ++ (⟨#[32]⟩ : ByteArray)).size + t132.size ≤ 9223372036854775807 then (if ((((((t129 ++ (⟨#[32]⟩ : ByteArray)) ++ t130) ++ (⟨#[32]⟩ : ByteArray)) ++ t131) ++ (⟨#[32]⟩ : ByteArray)) ++ t132).size + 1 ≤ 9223372036854775807 then ((rf_Number.f a0_4).bind fun t133 => (if (((((((t129 ++ (⟨#[32]⟩ : ByteArray)) ++ t130) ++ (⟨#[32]⟩ : ByteArray)) ++ t131) ++ (⟨#[32]⟩ : ByteArray)) ++ t132) ++ (⟨#[62]⟩ : ByteArray)).size + t133.size ≤ 9223372036854775807 then (if ((((((((t129 ++ (⟨#[32]⟩ : ByteArray)) ++ t130) ++ (⟨#[32]⟩ : ByteArray)) ++ t131) ++ (⟨#[32]⟩ : ByteArray)) ++ t132) ++ (⟨#[62]⟩ : ByteArray)) ++ t133).size + 1 ≤ 9223372036854775807 then (rf_BillText.l0 k (((((((((t129 ++ (⟨#[32]⟩ : ByteArray)) ++ t130) ++ (⟨#[32]⟩ : ByteArray)) ++ t131) ++ (⟨#[32]⟩ : ByteArray)) ++ t132) ++ (⟨#[62]⟩ : ByteArray)) ++ t133) ++ (⟨#[32]⟩ : ByteArray)) 0 a0_0 a0_1 a0_2 a0_3 a0_4 l0_5) else (none)) else (none))) else (none)) else (none))) else (none)) else (none))) else (none)) else (none))) else (none)) = some r := H
 have A2 := Aside0.mk A20
 clear A20
 by_cases c3 : t129.size + 1 ≤ 9223372036854775807
 ·rw [if_pos c3] at H
  have c3b0 := eq_true c3
  have c3b1 : decide (t129.size + 1 ≤ 9223372036854775807) = true := decide_eq_true c3
  try have c3b2 : (9223372036854775807 < t129.size + 1) = False := eq_false (Nat.not_lt.2 c3)
  replace H := Option.bind_eq_some_iff.mp H
  obtain ⟨t130, A40, H⟩ := H
  replace H : (if (t129 ++ (⟨#[32]⟩ : ByteArray)).size + t130.size ≤ 9223372036854775807 then (if ((t129 ++ (⟨#[32]⟩ : ByteArray)) ++ t130).size + 1 ≤ 9223372036854775807 then ((rf_Number.f a0_2).bind fun t131 => (if (((t129 ++ (⟨#[32]⟩ : ByteArray)) ++ t130) ++ (⟨#[32]⟩ : ByteArray)).size + t131.size ≤ 9223372036854775807 then (if ((((t129 ++ (⟨#[32]⟩ : ByteArray)) ++ t130) ++ (⟨#[32]⟩ : ByteArray)) ++ t131).size + 1 ≤ 9223372036854775807 then ((rf_Number.f a0_3).bind fun t132 => (if (((((t129 ++ (⟨#[32]⟩ : ByteArray)) ++ t130) ++ (⟨#[32]⟩ : ByteArray)) ++ t131) ++ (⟨#[32]⟩ : ByteArray)).size + t132.size ≤ 9223372036854775807 then (if ((((((t129 ++ (⟨#[32]⟩ : ByteArray)) ++ t130) ++ (⟨#[32]⟩ : ByteArray)) ++ t131) ++ (⟨#[32]⟩ : ByteArray)) ++ t132).size + 1 ≤ 9223372036854775807 then ((rf_Number.f a0_4).bind fun t133 => (if (((((((t129 ++ (⟨#[32]⟩ : ByteArray)) ++ t130) ++ (⟨#[32]⟩ : ByteArray)) ++ t131) ++ (⟨#[32]⟩ : ByteArray)) ++ t132) ++ (⟨#[62]⟩ : ByteArray)).size + t133.size ≤ 9223372036854775807 then (if ((((((((t129 ++ (⟨#[32]⟩ : ByteArray)) ++ t130) ++ (⟨#[32]⟩ : ByteArray)) ++ t131) ++ (⟨#[32]⟩ : ByteArray)) ++ t132) ++ (⟨#[62]⟩ : ByteArray)) ++ t133).size + 1 ≤ 9223372036854775807 then (rf_BillText.l0 k (((((((((t129 ++ (⟨#[32]⟩ : ByteArray)) ++ t130) ++ (⟨#[32]⟩ : ByteArray)) ++ t131) ++ (⟨#[32]⟩ : ByteArray)) ++ t132) ++ (⟨#[62]⟩ : ByteArray)) ++ t133) ++ (⟨#[32]⟩ : ByteArray)) 0 a0_0 a0_1 a0_2 a0_3 a0_4 l0_5) else (none)) else (none))) else (none)) else (none))) else (none)) else (none))) else (none)) else (none)) = some r := H
  have A4 := Aside0.mk A40
  clear A40
  by_cases c5 : (t129 ++ (⟨#[32]⟩ : ByteArray)).size + t130.size ≤ 9223372036854775807
  ·rw [if_pos c5] at H
   have c5b0 := eq_true c5
   have c5b1 : decide ((t129 ++ (⟨#[32]⟩ : ByteArray)).size + t130.size ≤ 9223372036854775807) = true := decide_eq_true c5
   try have c5b2 : (9223372036854775807 < (t129 ++ (⟨#[32]⟩ : ByteArray)).size + t130.size) = False := eq_false (Nat.not_lt.2 c5)
   have c5b3 : (9223372036854775807 < t129.size + 1 + t130.size) = False := eq_false (Nat.not_lt.2 (Eq.subst (motive := fun z => z ≤ 9223372036854775807) (show (t129 ++ (⟨#[32]⟩ : ByteArray)).size + t130.size = t129.size + 1 + t130.size by simp only [ByteArray.size_append]; first | done | rfl) c5))
   by_cases c6 : ((t129 ++ (⟨#[32]⟩ : ByteArray)) ++ t130).size + 1 ≤ 9223372036854775807
   ·rw [if_pos c6] at H
    have c6b0 := eq_true c6
    have c6b1 : decide (((t129 ++ (⟨#[32]⟩ : ByteArray)) ++ t130).size + 1 ≤ 9223372036854775807) = true := decide_eq_true c6
    try have c6b2 : (9223372036854775807 < ((t129 ++ (⟨#[32]⟩ : ByteArray)) ++ t130).size + 1) = False := eq_false (Nat.not_lt.2 c6)
    have c6b3 : (9223372036854775807 < t129.size + 1 + t130.size + 1) = False := eq_false (Nat.not_lt.2 (Eq.subst (motive := fun z => z ≤ 9223372036854775807) (show ((t129 ++ (⟨#[32]⟩ : ByteArray)) ++ t130).size + 1 = t129.size + 1 + t130.size + 1 by simp only [ByteArray.size_append]; first | done | rfl) c6))
    replace H := Option.bind_eq_some_iff.mp H
    obtain ⟨t131, A70, H⟩ := H
    replace H : (if (((t129 ++ (⟨#[32]⟩ : ByteArray)) ++ t130) ++ (⟨#[32]⟩ : ByteArray)).size + t131.size ≤ 9223372036854775807 then (if ((((t129 ++ (⟨#[32]⟩ : ByteArray)) ++ t130) ++ (⟨#[32]⟩ : ByteArray)) ++ t131).size + 1 ≤ 9223372036854775807 then ((rf_Number.f a0_3).bind fun t132 => (if (((((t129 ++ (⟨#[32]⟩ : ByteArray)) ++ t130) ++ (⟨#[32]⟩ : ByteArray)) ++ t131) ++ (⟨#[32]⟩ : ByteArray)).size + t132.size ≤ 9223372036854775807 then (if ((((((t129 ++ (⟨#[32]⟩ : ByteArray)) ++ t130) ++ (⟨#[32]⟩ : ByteArray)) ++ t131) ++ (⟨#[32]⟩ : ByteArray)) ++ t132).size + 1 ≤ 9223372036854775807 then ((rf_Number.f a0_4).bind fun t133 => (if (((((((t129 ++ (⟨#[32]⟩ : ByteArray)) ++ t130) ++ (⟨#[32]⟩ : ByteArray)) ++ t131) ++ (⟨#[32]⟩ : ByteArray)) ++ t132) ++ (⟨#[62]⟩ : ByteArray)).size + t133.size ≤ 9223372036854775807 then (if ((((((((t129 ++ (⟨#[32]⟩ : ByteArray)) ++ t130) ++ (⟨#[32]⟩ : ByteArray)) ++ t131) ++ (⟨#[32]⟩ : ByteArray)) ++ t132) ++ (⟨#[62]⟩ : ByteArray)) ++ t133).size + 1 ≤ 9223372036854775807 then (rf_BillText.l0 k (((((((((t129 ++ (⟨#[32]⟩ : ByteArray)) ++ t130) ++ (⟨#[32]⟩ : ByteArray)) ++ t131) ++ (⟨#[32]⟩ : ByteArray)) ++ t132) ++ (⟨#[62]⟩ : ByteArray)) ++ t133) ++ (⟨#[32]⟩ : ByteArray)) 0 a0_0 a0_1 a0_2 a0_3 a0_4 l0_5) else (none)) else (none))) else (none)) else (none))) else (none)) else (none)) = some r := H
    have A7 := Aside0.mk A70
    clear A70
    by_cases c8 : (((t129 ++ (⟨#[32]⟩ : ByteArray)) ++ t130) ++ (⟨#[32]⟩ : ByteArray)).size + t131.size ≤ 9223372036854775807
    ·rw [if_pos c8] at H
     have c8b0 := eq_true c8
     have c8b1 : decide ((((t129 ++ (⟨#[32]⟩ : ByteArray)) ++ t130) ++ (⟨#[32]⟩ : ByteArray)).size + t131.size ≤ 9223372036854775807) = true := decide_eq_true c8
     try have c8b2 : (9223372036854775807 < (((t129 ++ (⟨#[32]⟩ : ByteArray)) ++ t130) ++ (⟨#[32]⟩ : ByteArray)).size + t131.size) = False := eq_false (Nat.not_lt.2 c8)
     have c8b3 : (9223372036854775807 < t129.size + 1 + t130.size + 1 + t131.size) = False := eq_false (Nat.not_lt.2 (Eq.subst (motive := fun z => z ≤ 9223372036854775807) (show (((t129 ++ (⟨#[32]⟩ : ByteArray)) ++ t130) ++ (⟨#[32]⟩ : ByteArray)).size + t131.size = t129.size + 1 + t130.size + 1 + t131.size by simp only [ByteArray.size_append]; first | done | rfl) c8))
     by_cases c9 : ((((t129 ++ (⟨#[32]⟩ : ByteArray)) ++ t130) ++ (⟨#[32]⟩ : ByteArray)) ++ t131).size + 1 ≤ 9223372036854775807
     ·rw [if_pos c9] at H
      have c9b0 := eq_true c9
      have c9b1 : decide (((((t129 ++ (⟨#[32]⟩ : ByteArray)) ++ t130) ++ (⟨#[32]⟩ : ByteArray)) ++ t131).size + 1 ≤ 9223372036854775807) = true := decide_eq_true c9
      try have c9b2 : (9223372036854775807 < ((((t129 ++ (⟨#[32]⟩ : ByteArray)) ++ t130) ++ (⟨#[32]⟩ : ByteArray)) ++ t131).size + 1) = False := eq_false (Nat.not_lt.2 c9)
      have c9b3 : (9223372036854775807 < t129.size + 1 + t130.size + 1 + t131.size + 1) = False := eq_false (Nat.not_lt.2 (Eq.subst (motive := fun z => z ≤ 9223372036854775807) (show ((((t129 ++ (⟨#[32]⟩ : ByteArray)) ++ t130) ++ (⟨#[32]⟩ : ByteArray)) ++ t131).size + 1 = t129.size + 1 + t130.size + 1 + t131.size + 1 by simp only [ByteArray.size_append]; first | done | rfl) c9))
      replace H := Option.bind_eq_some_iff.mp H
      obtain ⟨t132, A100, H⟩ := H
      replace H : (if (((((t129 ++ (⟨#[32]⟩ : ByteArray)) ++ t130) ++ (⟨#[32]⟩ : ByteArray)) ++ t131) ++ (⟨#[32]⟩ : ByteArray)).size + t132.size ≤ 9223372036854775807 then (if ((((((t129 ++ (⟨#[32]⟩ : ByteArray)) ++ t130) ++ (⟨#[32]⟩ : ByteArray)) ++ t131) ++ (⟨#[32]⟩ : ByteArray)) ++ t132).size + 1 ≤ 9223372036854775807 then ((rf_Number.f a0_4).bind fun t133 => (if (((((((t129 ++ (⟨#[32]⟩ : ByteArray)) ++ t130) ++ (⟨#[32]⟩ : ByteArray)) ++ t131) ++ (⟨#[32]⟩ : ByteArray)) ++ t132) ++ (⟨#[62]⟩ : ByteArray)).size + t133.size ≤ 9223372036854775807 then (if ((((((((t129 ++ (⟨#[32]⟩ : ByteArray)) ++ t130) ++ (⟨#[32]⟩ : ByteArray)) ++ t131) ++ (⟨#[32]⟩ : ByteArray)) ++ t132) ++ (⟨#[62]⟩ : ByteArray)) ++ t133).size + 1 ≤ 9223372036854775807 then (rf_BillText.l0 k (((((((((t129 ++ (⟨#[32]⟩ : ByteArray)) ++ t130) ++ (⟨#[32]⟩ : ByteArray)) ++ t131) ++ (⟨#[32]⟩ : ByteArray)) ++ t132) ++ (⟨#[62]⟩ : ByteArray)) ++ t133) ++ (⟨#[32]⟩ : ByteArray)) 0 a0_0 a0_1 a0_2 a0_3 a0_4 l0_5) else (none)) else (none))) else (none)) else (none)) = some r := H
      have A10 := Aside0.mk A100
      clear A100
      by_cases c11 : (((((t129 ++ (⟨#[32]⟩ : ByteArray)) ++ t130) ++ (⟨#[32]⟩ : ByteArray)) ++ t131) ++ (⟨#[32]⟩ : ByteArray)).size + t132.size ≤ 9223372036854775807
      ·rw [if_pos c11] at H
       have c11b0 := eq_true c11
       have c11b1 : decide ((((((t129 ++ (⟨#[32]⟩ : ByteArray)) ++ t130) ++ (⟨#[32]⟩ : ByteArray)) ++ t131) ++ (⟨#[32]⟩ : ByteArray)).size + t132.size ≤ 9223372036854775807) = true := decide_eq_true c11
       try have c11b2 : (9223372036854775807 < (((((t129 ++ (⟨#[32]⟩ : ByteArray)) ++ t130) ++ (⟨#[32]⟩ : ByteArray)) ++ t131) ++ (⟨#[32]⟩ : ByteArray)).size + t132.size) = False := eq_false (Nat.not_lt.2 c11)
       have c11b3 : (9223372036854775807 < t129.size + 1 + t130.size + 1 + t131.size + 1 + t132.size) = False := eq_false (Nat.not_lt.2 (Eq.subst (motive := fun z => z ≤ 9223372036854775807) (show (((((t129 ++ (⟨#[32]⟩ : ByteArray)) ++ t130) ++ (⟨#[32]⟩ : ByteArray)) ++ t131) ++ (⟨#[32]⟩ : ByteArray)).size + t132.size = t129.size + 1 + t130.size + 1 + t131.size + 1 + t132.size by simp only [ByteArray.size_append]; first | done | rfl) c11))
       by_cases c12 : ((((((t129 ++ (⟨#[32]⟩ : ByteArray)) ++ t130) ++ (⟨#[32]⟩ : ByteArray)) ++ t131) ++ (⟨#[32]⟩ : ByteArray)) ++ t132).size + 1 ≤ 9223372036854775807
       ·rw [if_pos c12] at H
        have c12b0 := eq_true c12
        have c12b1 : decide (((((((t129 ++ (⟨#[32]⟩ : ByteArray)) ++ t130) ++ (⟨#[32]⟩ : ByteArray)) ++ t131) ++ (⟨#[32]⟩ : ByteArray)) ++ t132).size + 1 ≤ 9223372036854775807) = true := decide_eq_true c12
        try have c12b2 : (9223372036854775807 < ((((((t129 ++ (⟨#[32]⟩ : ByteArray)) ++ t130) ++ (⟨#[32]⟩ : ByteArray)) ++ t131) ++ (⟨#[32]⟩ : ByteArray)) ++ t132).size + 1) = False := eq_false (Nat.not_lt.2 c12)
        have c12b3 : (9223372036854775807 < t129.size + 1 + t130.size + 1 + t131.size + 1 + t132.size + 1) = False := eq_false (Nat.not_lt.2 (Eq.subst (motive := fun z => z ≤ 9223372036854775807) (show ((((((t129 ++ (⟨#[32]⟩ : ByteArray)) ++ t130) ++ (⟨#[32]⟩ : ByteArray)) ++ t131) ++ (⟨#[32]⟩ : ByteArray)) ++ t132).size + 1 = t129.size + 1 + t130.size + 1 + t131.size + 1 + t132.size + 1 by simp only [ByteArray.size_append]; first | done | rfl) c12))
        replace H := Option.bind_eq_some_iff.mp H
        obtain ⟨t133, A130, H⟩ := H
        replace H : (if (((((((t129 ++ (⟨#[32]⟩ : ByteArray)) ++ t130) ++ (⟨#[32]⟩ : ByteArray)) ++ t131) ++ (⟨#[32]⟩ : ByteArray)) ++ t132) ++ (⟨#[62]⟩ : ByteArray)).size + t133.size ≤ 9223372036854775807 then (if ((((((((t129 ++ (⟨#[32]⟩ : ByteArray)) ++ t130) ++ (⟨#[32]⟩ : ByteArray)) ++ t131) ++ (⟨#[32]⟩ : ByteArray)) ++ t132) ++ (⟨#[62]⟩ : ByteArray)) ++ t133).size + 1 ≤ 9223372036854775807 then (rf_BillText.l0 k (((((((((t129 ++ (⟨#[32]⟩ : ByteArray)) ++ t130) ++ (⟨#[32]⟩ : ByteArray)) ++ t131) ++ (⟨#[32]⟩ : ByteArray)) ++ t132) ++ (⟨#[62]⟩ : ByteArray)) ++ t133) ++ (⟨#[32]⟩ : ByteArray)) 0 a0_0 a0_1 a0_2 a0_3 a0_4 l0_5) else (none)) else (none)) = some r := H
        have A13 := Aside0.mk A130
        clear A130
        by_cases c14 : (((((((t129 ++ (⟨#[32]⟩ : ByteArray)) ++ t130) ++ (⟨#[32]⟩ : ByteArray)) ++ t131) ++ (⟨#[32]⟩ : ByteArray)) ++ t132) ++ (⟨#[62]⟩ : ByteArray)).size + t133.size ≤ 9223372036854775807
        ·rw [if_pos c14] at H
         have c14b0 := eq_true c14
         have c14b1 : decide ((((((((t129 ++ (⟨#[32]⟩ : ByteArray)) ++ t130) ++ (⟨#[32]⟩ : ByteArray)) ++ t131) ++ (⟨#[32]⟩ : ByteArray)) ++ t132) ++ (⟨#[62]⟩ : ByteArray)).size + t133.size ≤ 9223372036854775807) = true := decide_eq_true c14
         try have c14b2 : (9223372036854775807 < (((((((t129 ++ (⟨#[32]⟩ : ByteArray)) ++ t130) ++ (⟨#[32]⟩ : ByteArray)) ++ t131) ++ (⟨#[32]⟩ : ByteArray)) ++ t132) ++ (⟨#[62]⟩ : ByteArray)).size + t133.size) = False := eq_false (Nat.not_lt.2 c14)
         have c14b3 : (9223372036854775807 < t129.size + 1 + t130.size + 1 + t131.size + 1 + t132.size + 1 + t133.size) = False := eq_false (Nat.not_lt.2 (Eq.subst (motive := fun z => z ≤ 9223372036854775807) (show (((((((t129 ++ (⟨#[32]⟩ : ByteArray)) ++ t130) ++ (⟨#[32]⟩ : ByteArray)) ++ t131) ++ (⟨#[32]⟩ : ByteArray)) ++ t132) ++ (⟨#[62]⟩ : ByteArray)).size + t133.size = t129.size + 1 + t130.size + 1 + t131.size + 1 + t132.size + 1 + t133.size by simp only [ByteArray.size_append]; first | done | rfl) c14))
         by_cases c15 : ((((((((t129 ++ (⟨#[32]⟩ : ByteArray)) ++ t130) ++ (⟨#[32]⟩ : ByteArray)) ++ t131) ++ (⟨#[32]⟩ : ByteArray)) ++ t132) ++ (⟨#[62]⟩ : ByteArray)) ++ t133).size + 1 ≤ 9223372036854775807
         ·rw [if_pos c15] at H
          have c15b0 := eq_true c15
          have c15b1 : decide (((((((((t129 ++ (⟨#[32]⟩ : ByteArray)) ++ t130) ++ (⟨#[32]⟩ : ByteArray)) ++ t131) ++ (⟨#[32]⟩ : ByteArray)) ++ t132) ++ (⟨#[62]⟩ : ByteArray)) ++ t133).size + 1 ≤ 9223372036854775807) = true := decide_eq_true c15
          try have c15b2 : (9223372036854775807 < ((((((((t129 ++ (⟨#[32]⟩ : ByteArray)) ++ t130) ++ (⟨#[32]⟩ : ByteArray)) ++ t131) ++ (⟨#[32]⟩ : ByteArray)) ++ t132) ++ (⟨#[62]⟩ : ByteArray)) ++ t133).size + 1) = False := eq_false (Nat.not_lt.2 c15)
          have c15b3 : (9223372036854775807 < t129.size + 1 + t130.size + 1 + t131.size + 1 + t132.size + 1 + t133.size + 1) = False := eq_false (Nat.not_lt.2 (Eq.subst (motive := fun z => z ≤ 9223372036854775807) (show ((((((((t129 ++ (⟨#[32]⟩ : ByteArray)) ++ t130) ++ (⟨#[32]⟩ : ByteArray)) ++ t131) ++ (⟨#[32]⟩ : ByteArray)) ++ t132) ++ (⟨#[62]⟩ : ByteArray)) ++ t133).size + 1 = t129.size + 1 + t130.size + 1 + t131.size + 1 + t132.size + 1 + t133.size + 1 by simp only [ByteArray.size_append]; first | done | rfl) c15))
          have H' := Aside0.mk H
          clear H
          go_enter Tryz.func27, Tryz.ntmps27
          try go_wp2_with (first | ((with_reducible refine gate_dst (N := 1) rfl ?_); refine box_event ?hg (N := 1) ?hd (cs := #[.int .i64 a0_0, .int .i64 a0_1, .int .i64 a0_2, .int .i64 a0_3, .int .i64 a0_4, .slice A0_5 l0_5.length c0_5]) (t := 26) ?hr ?_; (case hd => rfl); (case hg => rfl); (case hr => first | (go_simp; done) | (go_simp; rfl)); intro gb128 hg w16 hbox hb; have n0_ := Aside0.mk (below_step (by repeat (first | (with_reducible first | exact HB.out | apply below_alloc | apply pw_below_drewN | apply below_drew1) | exact HB.out)) hb); have n1_ := Aside0.mk (hbox); have n2_ := Aside0.mk ((by rw [hg]; exact (below_size (by repeat (first | (with_reducible first | exact HB.out | apply below_alloc | apply pw_below_drewN | apply below_drew1) | exact HB.out))) : w.heap.size ≤ gb128)); have n3_ := Aside0.mk ((by rw [hg]; exact (below_size (by repeat (first | (with_reducible first | exact HB.out | apply below_alloc | apply pw_below_drewN | apply below_drew1) | exact HB.out))) : w.heap.size ≤ gb128)); clear HB; have HB := n0_; have BK128 := n1_; have GW128 := n2_; have GE128 := n3_; clear n0_ n1_ n2_ n3_; clear hb hbox hg))
          have n0_ := Aside0.mk (blk_drew BK128.out)
          have n1_ := Aside0.mk (below_drew1 HB.out)
          clear BK128
          clear HB
          have BK128 := n0_
          have HB := n1_
          clear n0_ n1_
          refine start_ (n := 25) (S := fun w' => w'.cell? ⟨gb128, 0, none⟩ = some (.int .i64 a0_0) ∧ w'.cell? ⟨gb128, 1, none⟩ = some (.int .i64 a0_1) ∧ w'.cell? ⟨gb128, 2, none⟩ = some (.int .i64 a0_2) ∧ w'.cell? ⟨gb128, 3, none⟩ = some (.int .i64 a0_3) ∧ w'.cell? ⟨gb128, 4, none⟩ = some (.int .i64 a0_4) ∧ w'.cell? ⟨gb128, 5, none⟩ = some (.slice A0_5 l0_5.length c0_5)) (ds := []) #[false, false, false, false, false, false, false, false, false, false, false, false, false, false, false, false, false, false, false, false, false, false, false, false, false] (by kernel_rfl) rfl rfl ⟨(blk_cell BK128.out 0).trans rfl, (blk_cell BK128.out 1).trans rfl, (blk_cell BK128.out 2).trans rfl, (blk_cell BK128.out 3).trans rfl, (blk_cell BK128.out 4).trans rfl, (blk_cell BK128.out 5).trans rfl⟩ (fun hHeld => ?_); refine with_tabW rf_BillText.tab1 rf_BillText.bits1 (fun HT_ HW_ => ?_)
          generalize w16.drew = w17 at BK128 HB hHeld ⊢
          refine pure_ (i := 0) (N := some 5) (v := ?_) (a' := ?_) #[true, false, false, false, false, false, false, false, false, false, false, false, false, false, false, false, false, false, false, false, false, false, false, false, false] rfl rfl (any_of HT_.out (by kernel_rfl)) (fun _ _ _ h => h) (Or.inl ⟨by rfl, ?_⟩) ?_ ?_
          rotate_left
          ·intro w'
           go_simp
           with_reducible rfl
          rotate_left
          ·simp only [Act.put, xsA, xsZ, xsS, i64_w, i32_w]
           rfl
          refine pure_ (i := 4) (N := some 9) (v := ?_) (a' := ?_) #[true, false, false, false, true, false, false, false, false, false, false, false, false, false, false, false, false, false, false, false, false, false, false, false, false] rfl rfl (any_of HT_.out (by kernel_rfl)) (fun _ _ _ h => h) (Or.inl ⟨by rfl, ?_⟩) ?_ ?_
          rotate_left
          ·intro w'
           go_simp
           with_reducible rfl
          rotate_left
          ·simp only [Act.put, xsA, xsZ, xsS, i64_w, i32_w]
           rfl
          refine pure_ (i := 9) (N := some 14) (v := ?_) (a' := ?_) #[true, false, false, false, true, false, false, false, false, true, false, false, false, false, false, false, false, false, false, false, false, false, false, false, false] rfl rfl (any_of HT_.out (by kernel_rfl)) (fun _ _ _ h => h) (Or.inl ⟨by rfl, ?_⟩) ?_ ?_
          rotate_left
          ·intro w'
           go_simp
           with_reducible rfl
          rotate_left
          ·simp only [Act.put, xsA, xsZ, xsS, i64_w, i32_w]
           rfl
          refine pure_ (i := 14) (N := some 19) (v := ?_) (a' := ?_) #[true, false, false, false, true, false, false, false, false, true, false, false, false, false, true, false, false, false, false, false, false, false, false, false, false] rfl rfl (any_of HT_.out (by kernel_rfl)) (fun _ _ _ h => h) (Or.inl ⟨by rfl, ?_⟩) ?_ ?_
          rotate_left
          ·intro w'
           go_simp
           with_reducible rfl
          rotate_left
          ·simp only [Act.put, xsA, xsZ, xsS, i64_w, i32_w]
           rfl
          refine pure_ (i := 19) (N := some 24) (v := ?_) (a' := ?_) #[true, false, false, false, true, false, false, false, false, true, false, false, false, false, true, false, false, false, false, true, false, false, false, false, false] rfl rfl (any_of HT_.out (by kernel_rfl)) (fun _ _ _ h => h) (Or.inl ⟨by rfl, ?_⟩) ?_ ?_
          rotate_left
          ·intro w'
           go_simp
           with_reducible rfl
          rotate_left
          ·simp only [Act.put, xsA, xsZ, xsS, i64_w, i32_w]
           rfl
          refine take_ (i := 1) (N := some 6) (v := ?_) (a' := ?_) #[true, true, false, false, true, false, false, false, false, true, false, false, false, false, true, false, false, false, false, true, false, false, false, false, false] rfl rfl (take_ofW HT_.out HW_.out (by kernel_rfl)) (fun _ _ _ h => h) (Or.inl ⟨by rfl, ?_⟩) hHeld ?_ ?_
          rotate_left
          ·rintro w' ⟨s0, s1, s2, s3, s4, s5⟩
           go_simp
           with_reducible rfl
          rotate_left
          ·simp only [Act.put, xsA, xsZ, xsS, i64_w, i32_w]
           rfl
          refine take_ (i := 5) (N := some 10) (v := ?_) (a' := ?_) #[true, true, false, false, true, true, false, false, false, true, false, false, false, false, true, false, false, false, false, true, false, false, false, false, false] rfl rfl (take_ofW HT_.out HW_.out (by kernel_rfl)) (fun _ _ _ h => h) (Or.inl ⟨by rfl, ?_⟩) hHeld ?_ ?_
          rotate_left
          ·rintro w' ⟨s0, s1, s2, s3, s4, s5⟩
           go_simp
           with_reducible rfl
          rotate_left
          ·simp only [Act.put, xsA, xsZ, xsS, i64_w, i32_w]
           rfl
          refine take_ (i := 10) (N := some 15) (v := ?_) (a' := ?_) #[true, true, false, false, true, true, false, false, false, true, true, false, false, false, true, false, false, false, false, true, false, false, false, false, false] rfl rfl (take_ofW HT_.out HW_.out (by kernel_rfl)) (fun _ _ _ h => h) (Or.inl ⟨by rfl, ?_⟩) hHeld ?_ ?_
          rotate_left
          ·rintro w' ⟨s0, s1, s2, s3, s4, s5⟩
           go_simp
           with_reducible rfl
          rotate_left
          ·simp only [Act.put, xsA, xsZ, xsS, i64_w, i32_w]
           rfl
          refine take_ (i := 15) (N := some 20) (v := ?_) (a' := ?_) #[true, true, false, false, true, true, false, false, false, true, true, false, false, false, true, true, false, false, false, true, false, false, false, false, false] rfl rfl (take_ofW HT_.out HW_.out (by kernel_rfl)) (fun _ _ _ h => h) (Or.inl ⟨by rfl, ?_⟩) hHeld ?_ ?_
          rotate_left
          ·rintro w' ⟨s0, s1, s2, s3, s4, s5⟩
           go_simp
           with_reducible rfl
          rotate_left
          ·simp only [Act.put, xsA, xsZ, xsS, i64_w, i32_w]
           rfl
          refine take_ (i := 20) (N := some 25) (v := ?_) (a' := ?_) #[true, true, false, false, true, true, false, false, false, true, true, false, false, false, true, true, false, false, false, true, true, false, false, false, false] rfl rfl (take_ofW HT_.out HW_.out (by kernel_rfl)) (fun _ _ _ h => h) (Or.inl ⟨by rfl, ?_⟩) hHeld ?_ ?_
          rotate_left
          ·rintro w' ⟨s0, s1, s2, s3, s4, s5⟩
           go_simp
           with_reducible rfl
          rotate_left
          ·simp only [Act.put, xsA, xsZ, xsS, i64_w, i32_w]
           rfl
          refine one_ (i := 2) (N := some 7) #[true, true, true, false, true, true, false, false, false, true, true, false, false, false, true, true, false, false, false, true, true, false, false, false, false] rfl rfl (one_of HT_.out (by kernel_rfl)) (by decide) (fun K hK => ?_)
          refine goes_ Tryz.func61 (by kernel_rfl) rfl #[.int .i64 a0_0] (by rfl) rfl rfl (by (try simp only [List.map_toArray, List.map_cons, List.map_nil]); first | done | rfl | (simp only [List.length_drop, List.length_take]; rfl)) ?_
          with_reducible refine (rf_Number.calls a0_0 t129 _ A2.out).mono ?_
          rintro e w18 ⟨rfl, hb⟩
          refine ⟨_, rfl, ?_⟩
          have n0_ := Aside0.mk (blk_below (g := gb128) (o := .cells #[.int .i64 a0_0, .int .i64 a0_1, .int .i64 a0_2, .int .i64 a0_3, .int .i64 a0_4, .slice A0_5 l0_5.length c0_5] 26 (0, 0)) (by (with_reducible repeat (first | refine blk_drewN ?_ _ | refine blk_drew ?_ | refine blk_alloc ?_ _)); exact BK128.out) hb)
          have n1_ := Aside0.mk (below_step (by repeat (first | (with_reducible first | exact HB.out | apply below_alloc | apply pw_below_drewN | apply below_drew1 | refine below_set ?_ GE128.out) | exact HB.out)) hb)
          clear BK128
          clear HB
          have BK128 := n0_
          have HB := n1_
          clear n0_ n1_
          (try clear hb)
          (try clear hb2)
          (try clear hk)
          (try clear hi)
          refine hK.out _ _ ⟨(blk_cell BK128.out 0).trans rfl, (blk_cell BK128.out 1).trans rfl, (blk_cell BK128.out 2).trans rfl, (blk_cell BK128.out 3).trans rfl, (blk_cell BK128.out 4).trans rfl, (blk_cell BK128.out 5).trans rfl⟩ (fun hHeld => ?_)
          clear hK K
          refine norm_ (a' := ?_) ?_ ?_
          rotate_left
          ·show Act.put _ (some 7) _ = _
           simp only [Act.put, xsA, xsZ, xsS, i64_w, i32_w]
           rfl
          refine pure_ (i := 3) (N := some 8) (v := ?_) (a' := ?_) #[true, true, true, true, true, true, false, false, false, true, true, false, false, false, true, true, false, false, false, true, true, false, false, false, false] rfl rfl (any_of HT_.out (by kernel_rfl)) (fun _ _ _ h => h) (Or.inl ⟨by rfl, ?_⟩) ?_ ?_
          rotate_left
          ·intro w'
           go_simp
           with_reducible rfl
          rotate_left
          ·simp only [Act.put, xsA, xsZ, xsS, i64_w, i32_w]
           rfl
          refine one_ (i := 6) (N := some 11) #[true, true, true, true, true, true, true, false, false, true, true, false, false, false, true, true, false, false, false, true, true, false, false, false, false] rfl rfl (one_of HT_.out (by kernel_rfl)) (by decide) (fun K hK => ?_)
          refine goes_ Tryz.func61 (by kernel_rfl) rfl #[.int .i64 a0_1] (by rfl) rfl rfl (by (try simp only [List.map_toArray, List.map_cons, List.map_nil]); first | done | rfl | (simp only [List.length_drop, List.length_take]; rfl)) ?_
          with_reducible refine (rf_Number.calls a0_1 t130 _ A4.out).mono ?_
          rintro e w19 ⟨rfl, hb⟩
          refine ⟨_, rfl, ?_⟩
          have n0_ := Aside0.mk (blk_below (g := gb128) (o := .cells #[.int .i64 a0_0, .int .i64 a0_1, .int .i64 a0_2, .int .i64 a0_3, .int .i64 a0_4, .slice A0_5 l0_5.length c0_5] 26 (0, 0)) (by (with_reducible repeat (first | refine blk_drewN ?_ _ | refine blk_drew ?_ | refine blk_alloc ?_ _)); exact BK128.out) hb)
          have n1_ := Aside0.mk (below_step (by repeat (first | (with_reducible first | exact HB.out | apply below_alloc | apply pw_below_drewN | apply below_drew1 | refine below_set ?_ GE128.out) | exact HB.out)) hb)
          clear BK128
          clear HB
          have BK128 := n0_
          have HB := n1_
          clear n0_ n1_
          (try clear hb)
          (try clear hb2)
          (try clear hk)
          (try clear hi)
          refine hK.out _ _ ⟨(blk_cell BK128.out 0).trans rfl, (blk_cell BK128.out 1).trans rfl, (blk_cell BK128.out 2).trans rfl, (blk_cell BK128.out 3).trans rfl, (blk_cell BK128.out 4).trans rfl, (blk_cell BK128.out 5).trans rfl⟩ (fun hHeld => ?_)
          clear hK K
          refine norm_ (a' := ?_) ?_ ?_
          rotate_left
          ·show Act.put _ (some 11) _ = _
           simp only [Act.put, xsA, xsZ, xsS, i64_w, i32_w]
           rfl
          refine pure_ (i := 7) (N := some 12) (v := ?_) (a' := ?_) #[true, true, true, true, true, true, true, true, false, true, true, false, false, false, true, true, false, false, false, true, true, false, false, false, false] rfl rfl (any_of HT_.out (by kernel_rfl)) (fun _ _ _ h => h) (Or.inl ⟨by rfl, ?_⟩) ?_ ?_
          rotate_left
          ·intro w'
           go_simp
           with_reducible rfl
          rotate_left
          ·simp only [Act.put, xsA, xsZ, xsS, i64_w, i32_w]
           rfl
          refine pure_ (i := 8) (N := some 13) (v := ?_) (a' := ?_) #[true, true, true, true, true, true, true, true, true, true, true, false, false, false, true, true, false, false, false, true, true, false, false, false, false] rfl rfl (any_of HT_.out (by kernel_rfl)) (fun _ _ _ h => h) (Or.inl ⟨by rfl, ?_⟩) ?_ ?_
          rotate_left
          ·intro w'
           go_simp
           with_reducible rfl
          rotate_left
          ·simp only [Act.put, xsA, xsZ, xsS, i64_w, i32_w]
           rfl
          refine one_ (i := 11) (N := some 16) #[true, true, true, true, true, true, true, true, true, true, true, true, false, false, true, true, false, false, false, true, true, false, false, false, false] rfl rfl (one_of HT_.out (by kernel_rfl)) (by decide) (fun K hK => ?_)
          refine goes_ Tryz.func61 (by kernel_rfl) rfl #[.int .i64 a0_2] (by rfl) rfl rfl (by (try simp only [List.map_toArray, List.map_cons, List.map_nil]); first | done | rfl | (simp only [List.length_drop, List.length_take]; rfl)) ?_
          with_reducible refine (rf_Number.calls a0_2 t131 _ A7.out).mono ?_
          rintro e w20 ⟨rfl, hb⟩
          refine ⟨_, rfl, ?_⟩
          have n0_ := Aside0.mk (blk_below (g := gb128) (o := .cells #[.int .i64 a0_0, .int .i64 a0_1, .int .i64 a0_2, .int .i64 a0_3, .int .i64 a0_4, .slice A0_5 l0_5.length c0_5] 26 (0, 0)) (by (with_reducible repeat (first | refine blk_drewN ?_ _ | refine blk_drew ?_ | refine blk_alloc ?_ _)); exact BK128.out) hb)
          have n1_ := Aside0.mk (below_step (by repeat (first | (with_reducible first | exact HB.out | apply below_alloc | apply pw_below_drewN | apply below_drew1 | refine below_set ?_ GE128.out) | exact HB.out)) hb)
          clear BK128
          clear HB
          have BK128 := n0_
          have HB := n1_
          clear n0_ n1_
          (try clear hb)
          (try clear hb2)
          (try clear hk)
          (try clear hi)
          refine hK.out _ _ ⟨(blk_cell BK128.out 0).trans rfl, (blk_cell BK128.out 1).trans rfl, (blk_cell BK128.out 2).trans rfl, (blk_cell BK128.out 3).trans rfl, (blk_cell BK128.out 4).trans rfl, (blk_cell BK128.out 5).trans rfl⟩ (fun hHeld => ?_)
          clear hK K
          refine norm_ (a' := ?_) ?_ ?_
          rotate_left
          ·show Act.put _ (some 16) _ = _
           simp only [Act.put, xsA, xsZ, xsS, i64_w, i32_w]
           rfl
          refine pure_ (i := 12) (N := some 17) (v := ?_) (a' := ?_) #[true, true, true, true, true, true, true, true, true, true, true, true, true, false, true, true, false, false, false, true, true, false, false, false, false] rfl rfl (any_of HT_.out (by kernel_rfl)) (fun _ _ _ h => h) (Or.inl ⟨by rfl, ?_⟩) ?_ ?_
          rotate_left
          ·intro w'
           go_simp
           with_reducible rfl
          rotate_left
          ·simp only [Act.put, xsA, xsZ, xsS, i64_w, i32_w]
           rfl
          refine pure_ (i := 13) (N := some 18) (v := ?_) (a' := ?_) #[true, true, true, true, true, true, true, true, true, true, true, true, true, true, true, true, false, false, false, true, true, false, false, false, false] rfl rfl (any_of HT_.out (by kernel_rfl)) (fun _ _ _ h => h) (Or.inl ⟨by rfl, ?_⟩) ?_ ?_
          rotate_left
          ·intro w'
           go_simp
           with_reducible rfl
          rotate_left
          ·simp only [Act.put, xsA, xsZ, xsS, i64_w, i32_w]
           rfl
          refine one_ (i := 16) (N := some 21) #[true, true, true, true, true, true, true, true, true, true, true, true, true, true, true, true, true, false, false, true, true, false, false, false, false] rfl rfl (one_of HT_.out (by kernel_rfl)) (by decide) (fun K hK => ?_)
          refine goes_ Tryz.func61 (by kernel_rfl) rfl #[.int .i64 a0_3] (by rfl) rfl rfl (by (try simp only [List.map_toArray, List.map_cons, List.map_nil]); first | done | rfl | (simp only [List.length_drop, List.length_take]; rfl)) ?_
          with_reducible refine (rf_Number.calls a0_3 t132 _ A10.out).mono ?_
          rintro e w21 ⟨rfl, hb⟩
          refine ⟨_, rfl, ?_⟩
          have n0_ := Aside0.mk (blk_below (g := gb128) (o := .cells #[.int .i64 a0_0, .int .i64 a0_1, .int .i64 a0_2, .int .i64 a0_3, .int .i64 a0_4, .slice A0_5 l0_5.length c0_5] 26 (0, 0)) (by (with_reducible repeat (first | refine blk_drewN ?_ _ | refine blk_drew ?_ | refine blk_alloc ?_ _)); exact BK128.out) hb)
          have n1_ := Aside0.mk (below_step (by repeat (first | (with_reducible first | exact HB.out | apply below_alloc | apply pw_below_drewN | apply below_drew1 | refine below_set ?_ GE128.out) | exact HB.out)) hb)
          clear BK128
          clear HB
          have BK128 := n0_
          have HB := n1_
          clear n0_ n1_
          (try clear hb)
          (try clear hb2)
          (try clear hk)
          (try clear hi)
          refine hK.out _ _ ⟨(blk_cell BK128.out 0).trans rfl, (blk_cell BK128.out 1).trans rfl, (blk_cell BK128.out 2).trans rfl, (blk_cell BK128.out 3).trans rfl, (blk_cell BK128.out 4).trans rfl, (blk_cell BK128.out 5).trans rfl⟩ (fun hHeld => ?_)
          clear hK K
          refine norm_ (a' := ?_) ?_ ?_
          rotate_left
          ·show Act.put _ (some 21) _ = _
           simp only [Act.put, xsA, xsZ, xsS, i64_w, i32_w]
           rfl
          refine pure_ (i := 17) (N := some 22) (v := ?_) (a' := ?_) #[true, true, true, true, true, true, true, true, true, true, true, true, true, true, true, true, true, true, false, true, true, false, false, false, false] rfl rfl (any_of HT_.out (by kernel_rfl)) (fun _ _ _ h => h) (Or.inl ⟨by rfl, ?_⟩) ?_ ?_
          rotate_left
          ·intro w'
           go_simp
           with_reducible rfl
          rotate_left
          ·simp only [Act.put, xsA, xsZ, xsS, i64_w, i32_w]
           rfl
          refine pure_ (i := 18) (N := some 23) (v := ?_) (a' := ?_) #[true, true, true, true, true, true, true, true, true, true, true, true, true, true, true, true, true, true, true, true, true, false, false, false, false] rfl rfl (any_of HT_.out (by kernel_rfl)) (fun _ _ _ h => h) (Or.inl ⟨by rfl, ?_⟩) ?_ ?_
          rotate_left
          ·intro w'
           go_simp
           with_reducible rfl
          rotate_left
          ·simp only [Act.put, xsA, xsZ, xsS, i64_w, i32_w]
           rfl
          refine one_ (i := 21) (N := some 26) #[true, true, true, true, true, true, true, true, true, true, true, true, true, true, true, true, true, true, true, true, true, true, false, false, false] rfl rfl (one_of HT_.out (by kernel_rfl)) (by decide) (fun K hK => ?_)
          refine goes_ Tryz.func61 (by kernel_rfl) rfl #[.int .i64 a0_4] (by rfl) rfl rfl (by (try simp only [List.map_toArray, List.map_cons, List.map_nil]); first | done | rfl | (simp only [List.length_drop, List.length_take]; rfl)) ?_
          with_reducible refine (rf_Number.calls a0_4 t133 _ A13.out).mono ?_
          rintro e w22 ⟨rfl, hb⟩
          refine ⟨_, rfl, ?_⟩
          have n0_ := Aside0.mk (blk_below (g := gb128) (o := .cells #[.int .i64 a0_0, .int .i64 a0_1, .int .i64 a0_2, .int .i64 a0_3, .int .i64 a0_4, .slice A0_5 l0_5.length c0_5] 26 (0, 0)) (by (with_reducible repeat (first | refine blk_drewN ?_ _ | refine blk_drew ?_ | refine blk_alloc ?_ _)); exact BK128.out) hb)
          have n1_ := Aside0.mk (below_step (by repeat (first | (with_reducible first | exact HB.out | apply below_alloc | apply pw_below_drewN | apply below_drew1 | refine below_set ?_ GE128.out) | exact HB.out)) hb)
          clear BK128
          clear HB
          have BK128 := n0_
          have HB := n1_
          clear n0_ n1_
          (try clear hb)
          (try clear hb2)
          (try clear hk)
          (try clear hi)
          refine hK.out _ _ ⟨(blk_cell BK128.out 0).trans rfl, (blk_cell BK128.out 1).trans rfl, (blk_cell BK128.out 2).trans rfl, (blk_cell BK128.out 3).trans rfl, (blk_cell BK128.out 4).trans rfl, (blk_cell BK128.out 5).trans rfl⟩ (fun hHeld => ?_)
          clear hK K
          refine norm_ (a' := ?_) ?_ ?_
          rotate_left
          ·show Act.put _ (some 26) _ = _
           simp only [Act.put, xsA, xsZ, xsS, i64_w, i32_w]
           rfl
          refine pure_ (i := 22) (N := some 27) (v := ?_) (a' := ?_) #[true, true, true, true, true, true, true, true, true, true, true, true, true, true, true, true, true, true, true, true, true, true, true, false, false] rfl rfl (any_of HT_.out (by kernel_rfl)) (fun _ _ _ h => h) (Or.inl ⟨by rfl, ?_⟩) ?_ ?_
          rotate_left
          ·intro w'
           go_simp
           with_reducible rfl
          rotate_left
          ·simp only [Act.put, xsA, xsZ, xsS, i64_w, i32_w]
           rfl
          refine pure_ (i := 23) (N := some 28) (v := ?_) (a' := ?_) #[true, true, true, true, true, true, true, true, true, true, true, true, true, true, true, true, true, true, true, true, true, true, true, true, false] rfl rfl (any_of HT_.out (by kernel_rfl)) (fun _ _ _ h => h) (Or.inl ⟨by rfl, ?_⟩) ?_ ?_
          rotate_left
          ·intro w'
           go_simp
           with_reducible rfl
          rotate_left
          ·simp only [Act.put, xsA, xsZ, xsS, i64_w, i32_w]
           rfl
          refine pure_ (i := 24) (N := some 3) (v := ?_) (a' := ?_) #[true, true, true, true, true, true, true, true, true, true, true, true, true, true, true, true, true, true, true, true, true, true, true, true, true] rfl rfl (any_of HT_.out (by kernel_rfl)) (fun _ _ _ h => h) (Or.inl ⟨by rfl, ?_⟩) ?_ ?_
          rotate_left
          ·intro w'
           go_simp
           with_reducible rfl
          rotate_left
          ·simp only [Act.put, xsA, xsZ, xsS, i64_w, i32_w]
           rfl
          refine done_ (done_of HT_.out (by kernel_rfl)) ?_
          try go_wp2
          go_loopg [3, 4] k (fun kq v3 v4 w' => ∃ (x3_1 : ByteArray) (x4_1 : Int), v3 = .string x3_1 ∧ v4 = .int .i64 x4_1 ∧ Aside0 (rf_BillText.l0 kq x3_1 x4_1 a0_0 a0_1 a0_2 a0_3 a0_4 l0_5 = some r) ∧ Aside0 (kq ≤ k) ∧ Aside0 (w'.heap[gb128]? = some (.cells #[.int .i64 a0_0, .int .i64 a0_1, .int .i64 a0_2, .int .i64 a0_3, .int .i64 a0_4, (.slice A0_5 l0_5.length c0_5)] 26 (0, 0))) ∧ Aside0 (Below w.heap.size w w'))
          case atStart => exact ⟨(((((((((t129 ++ (⟨#[32]⟩ : ByteArray)) ++ t130) ++ (⟨#[32]⟩ : ByteArray)) ++ t131) ++ (⟨#[32]⟩ : ByteArray)) ++ t132) ++ (⟨#[62]⟩ : ByteArray)) ++ t133) ++ (⟨#[32]⟩ : ByteArray)), (0), (by first | rfl | (simp; done) | (simp [*]; done)), (by first | rfl | (simp; done) | (simp [*]; done)), H', ⟨Nat.le_refl _⟩, ⟨by (with_reducible repeat (first | refine blk_drewN ?_ _ | refine blk_drew ?_ | refine blk_alloc ?_ _)); exact BK128.out⟩, ⟨by repeat (first | (with_reducible first | exact HB.out | apply below_alloc | apply pw_below_drewN | apply below_drew1 | refine below_set ?_ GE128.out) | exact HB.out)⟩⟩
          case round =>
           clear H'
           try clear c1
           try clear c2
           try clear p2
           try clear c3
           try clear c3b0
           try clear c3b1
           try clear c3b2
           try clear c5
           try clear c5b0
           try clear c5b1
           try clear c5b2
           try clear c6
           try clear c6b0
           try clear c6b1
           try clear c6b2
           try clear c8
           try clear c8b0
           try clear c8b1
           try clear c8b2
           try clear c9
           try clear c9b0
           try clear c9b1
           try clear c9b2
           try clear c11
           try clear c11b0
           try clear c11b1
           try clear c11b2
           try clear c12
           try clear c12b0
           try clear c12b1
           try clear c12b2
           try clear c14
           try clear c14b0
           try clear c14b1
           try clear c14b2
           try clear c15
           try clear c15b0
           try clear c15b1
           try clear c15b2
           obtain ⟨x3_1, x4_1, rfl, rfl, HA, HK1, BK128, HB⟩ := hrel
           cases gk with
           | zero => exact absurd HA.out (by simp [rf_BillText.l0])
           | succ k1 =>
            have H := HA.out
            clear HA
            simp only [rf_BillText.l0] at H
            by_cases c23 : x4_1 < (l0_5.length : Int)
            ·rw [if_pos c23] at H
             have c23b0 : decide (x4_1 < (l0_5.length : Int)) = true := decide_eq_true c23
             clear c23
             by_cases c24 : x4_1 > 0
             ·rw [if_pos c24] at H
              have c24b0 : decide (0 < x4_1) = true := decide_eq_true c24
              clear c24
              by_cases c25 : x3_1.size + 1 ≤ 9223372036854775807
              ·rw [if_pos c25] at H
               have c25b0 := eq_true c25
               have c25b1 : decide (x3_1.size + 1 ≤ 9223372036854775807) = true := decide_eq_true c25
               try have c25b2 : (9223372036854775807 < x3_1.size + 1) = False := eq_false (Nat.not_lt.2 c25)
               by_cases c26 : 0 ≤ x4_1
               ·rw [if_pos c26] at H
                have c26b0 : decide (0 ≤ x4_1) = true := decide_eq_true c26
                clear c26
                replace H := Option.bind_eq_some_iff.mp H
                obtain ⟨t135, A270, H⟩ := H
                replace H : (if (x3_1 ++ (⟨#[44]⟩ : ByteArray)).size + t135.size ≤ 9223372036854775807 then (rf_BillText.l0 k1 ((x3_1 ++ (⟨#[44]⟩ : ByteArray)) ++ t135) (wrap64 (x4_1 + 1)) a0_0 a0_1 a0_2 a0_3 a0_4 l0_5) else (none)) = some r := H
                have A27 := Aside0.mk A270
                clear A270
                by_cases c28 : (x3_1 ++ (⟨#[44]⟩ : ByteArray)).size + t135.size ≤ 9223372036854775807
                ·rw [if_pos c28] at H
                 have c28b0 := eq_true c28
                 have c28b1 : decide ((x3_1 ++ (⟨#[44]⟩ : ByteArray)).size + t135.size ≤ 9223372036854775807) = true := decide_eq_true c28
                 try have c28b2 : (9223372036854775807 < (x3_1 ++ (⟨#[44]⟩ : ByteArray)).size + t135.size) = False := eq_false (Nat.not_lt.2 c28)
                 have c28b3 : (9223372036854775807 < x3_1.size + 1 + t135.size) = False := eq_false (Nat.not_lt.2 (Eq.subst (motive := fun z => z ≤ 9223372036854775807) (show (x3_1 ++ (⟨#[44]⟩ : ByteArray)).size + t135.size = x3_1.size + 1 + t135.size by simp only [ByteArray.size_append]; first | done | rfl) c28))
                 have H' := Aside0.mk H
                 clear H
                 have hcz29_0 : wr.cell? ⟨gb128, 0, none⟩ = some (.int .i64 a0_0) := (blk_cell BK128.out 0).trans rfl
                 have hcz29_1 : wr.cell? ⟨gb128, 1, none⟩ = some (.int .i64 a0_1) := (blk_cell BK128.out 1).trans rfl
                 have hcz29_2 : wr.cell? ⟨gb128, 2, none⟩ = some (.int .i64 a0_2) := (blk_cell BK128.out 2).trans rfl
                 have hcz29_3 : wr.cell? ⟨gb128, 3, none⟩ = some (.int .i64 a0_3) := (blk_cell BK128.out 3).trans rfl
                 have hcz29_4 : wr.cell? ⟨gb128, 4, none⟩ = some (.int .i64 a0_4) := (blk_cell BK128.out 4).trans rfl
                 have hcz29_5 : wr.cell? ⟨gb128, 5, none⟩ = some (.slice A0_5 l0_5.length c0_5) := (blk_cell BK128.out 5).trans rfl
                 have hfz29_0 := blk_frozen BK128.out 0
                 have hfz29_1 := blk_frozen BK128.out 1
                 have hfz29_2 := blk_frozen BK128.out 2
                 have hfz29_3 := blk_frozen BK128.out 3
                 have hfz29_4 := blk_frozen BK128.out 4
                 have hfz29_5 := blk_frozen BK128.out 5
                 have p134 : 0 ≤ (x4_1 : Int) := of_decide_eq_true (by first | (with_reducible assumption) | assumption)
                 have q134 : x4_1 < (l0_5.length : Int) := of_decide_eq_true (by first | (with_reducible assumption) | assumption)
                 obtain ⟨ad134, e134, hx134_0⟩ := Kd.at_int HR0_5.out x4_1 p134 q134
                 cases e134
                 replace hx134_0 := (HB.out.cell (xbl w _ hx134_0)).trans hx134_0
                 replace p134 := eq_true p134
                 replace q134 := eq_true q134
                 go_wp2_with (first | ((with_reducible refine gate_callee (f := 61) rfl ?_); refine goesL_ (some 46) rfl rfl Tryz.func61 (by kernel_rfl) rfl #[.int .i64 (rd l0_5 x4_1)] rfl (by (try simp only [List.map_toArray, List.map_cons, List.map_nil]); first | done | rfl | (simp only [List.length_drop, List.length_take]; rfl)) ?_; (with_reducible refine (rf_Number.calls (rd l0_5 x4_1) t135 _ A27.out).mono ?_); rintro e w30 ⟨rfl, hb⟩; refine ⟨_, rfl, ?_⟩; have n0_ := Aside0.mk (blk_below (g := gb128) (o := .cells #[.int .i64 a0_0, .int .i64 a0_1, .int .i64 a0_2, .int .i64 a0_3, .int .i64 a0_4, .slice (some ad134) l0_5.length c0_5] 26 (0, 0)) (by (with_reducible repeat (first | refine blk_drewN ?_ _ | refine blk_drew ?_ | refine blk_alloc ?_ _)); exact BK128.out) hb); have n1_ := Aside0.mk (below_step (by repeat (first | (with_reducible first | exact HB.out | apply below_alloc | apply pw_below_drewN | apply below_drew1 | refine below_set ?_ GE128.out) | exact HB.out)) hb); clear BK128; clear HB; have BK128 := n0_; have HB := n1_; clear n0_ n1_; (try clear hb); (try clear hb2); (try clear hk); (try clear hi)))
                 go_roundg k1
                 case measure => have := HK1.out; omega
                 case rel => exact ⟨((x3_1 ++ (⟨#[44]⟩ : ByteArray)) ++ t135), (wrap64 (x4_1 + 1)), (by first | rfl | (simp; done) | (simp [*]; done)), (by first | rfl | (simp; done) | (simp [*]; done)), H', ⟨by have := HK1.out; omega⟩, ⟨by (with_reducible repeat (first | refine blk_drewN ?_ _ | refine blk_drew ?_ | refine blk_alloc ?_ _)); exact BK128.out⟩, ⟨by repeat (first | (with_reducible first | exact HB.out | apply below_alloc | apply pw_below_drewN | apply below_drew1 | refine below_set ?_ GE128.out) | exact HB.out)⟩⟩
                ·rw [if_neg c28] at H
                 exact absurd H (by simp)
               ·rw [if_neg c26] at H
                exact absurd H (by simp)
              ·rw [if_neg c25] at H
               exact absurd H (by simp)
             ·rw [if_neg c24] at H
              have c24b0 : decide (0 < x4_1) = false := decide_eq_false c24
              clear c24
              by_cases c31 : 0 ≤ x4_1
              ·rw [if_pos c31] at H
               have c31b0 : decide (0 ≤ x4_1) = true := decide_eq_true c31
               clear c31
               replace H := Option.bind_eq_some_iff.mp H
               obtain ⟨t137, A320, H⟩ := H
               replace H : (if x3_1.size + t137.size ≤ 9223372036854775807 then (rf_BillText.l0 k1 (x3_1 ++ t137) (wrap64 (x4_1 + 1)) a0_0 a0_1 a0_2 a0_3 a0_4 l0_5) else (none)) = some r := H
               have A32 := Aside0.mk A320
               clear A320
               by_cases c33 : x3_1.size + t137.size ≤ 9223372036854775807
               ·rw [if_pos c33] at H
                have c33b0 := eq_true c33
                have c33b1 : decide (x3_1.size + t137.size ≤ 9223372036854775807) = true := decide_eq_true c33
                try have c33b2 : (9223372036854775807 < x3_1.size + t137.size) = False := eq_false (Nat.not_lt.2 c33)
                have H' := Aside0.mk H
                clear H
                have hcz34_0 : wr.cell? ⟨gb128, 0, none⟩ = some (.int .i64 a0_0) := (blk_cell BK128.out 0).trans rfl
                have hcz34_1 : wr.cell? ⟨gb128, 1, none⟩ = some (.int .i64 a0_1) := (blk_cell BK128.out 1).trans rfl
                have hcz34_2 : wr.cell? ⟨gb128, 2, none⟩ = some (.int .i64 a0_2) := (blk_cell BK128.out 2).trans rfl
                have hcz34_3 : wr.cell? ⟨gb128, 3, none⟩ = some (.int .i64 a0_3) := (blk_cell BK128.out 3).trans rfl
                have hcz34_4 : wr.cell? ⟨gb128, 4, none⟩ = some (.int .i64 a0_4) := (blk_cell BK128.out 4).trans rfl
                have hcz34_5 : wr.cell? ⟨gb128, 5, none⟩ = some (.slice A0_5 l0_5.length c0_5) := (blk_cell BK128.out 5).trans rfl
                have hfz34_0 := blk_frozen BK128.out 0
                have hfz34_1 := blk_frozen BK128.out 1
                have hfz34_2 := blk_frozen BK128.out 2
                have hfz34_3 := blk_frozen BK128.out 3
                have hfz34_4 := blk_frozen BK128.out 4
                have hfz34_5 := blk_frozen BK128.out 5
                have p136 : 0 ≤ (x4_1 : Int) := of_decide_eq_true (by first | (with_reducible assumption) | assumption)
                have q136 : x4_1 < (l0_5.length : Int) := of_decide_eq_true (by first | (with_reducible assumption) | assumption)
                obtain ⟨ad136, e136, hx136_0⟩ := Kd.at_int HR0_5.out x4_1 p136 q136
                cases e136
                replace hx136_0 := (HB.out.cell (xbl w _ hx136_0)).trans hx136_0
                replace p136 := eq_true p136
                replace q136 := eq_true q136
                go_wp2_with (first | ((with_reducible refine gate_callee (f := 61) rfl ?_); refine goesL_ (some 46) rfl rfl Tryz.func61 (by kernel_rfl) rfl #[.int .i64 (rd l0_5 x4_1)] rfl (by (try simp only [List.map_toArray, List.map_cons, List.map_nil]); first | done | rfl | (simp only [List.length_drop, List.length_take]; rfl)) ?_; (with_reducible refine (rf_Number.calls (rd l0_5 x4_1) t137 _ A32.out).mono ?_); rintro e w35 ⟨rfl, hb⟩; refine ⟨_, rfl, ?_⟩; have n0_ := Aside0.mk (blk_below (g := gb128) (o := .cells #[.int .i64 a0_0, .int .i64 a0_1, .int .i64 a0_2, .int .i64 a0_3, .int .i64 a0_4, .slice (some ad136) l0_5.length c0_5] 26 (0, 0)) (by (with_reducible repeat (first | refine blk_drewN ?_ _ | refine blk_drew ?_ | refine blk_alloc ?_ _)); exact BK128.out) hb); have n1_ := Aside0.mk (below_step (by repeat (first | (with_reducible first | exact HB.out | apply below_alloc | apply pw_below_drewN | apply below_drew1 | refine below_set ?_ GE128.out) | exact HB.out)) hb); clear BK128; clear HB; have BK128 := n0_; have HB := n1_; clear n0_ n1_; (try clear hb); (try clear hb2); (try clear hk); (try clear hi)))
                go_roundg k1
                case measure => have := HK1.out; omega
                case rel => exact ⟨(x3_1 ++ t137), (wrap64 (x4_1 + 1)), (by first | rfl | (simp; done) | (simp [*]; done)), (by first | rfl | (simp; done) | (simp [*]; done)), H', ⟨by have := HK1.out; omega⟩, ⟨by (with_reducible repeat (first | refine blk_drewN ?_ _ | refine blk_drew ?_ | refine blk_alloc ?_ _)); exact BK128.out⟩, ⟨by repeat (first | (with_reducible first | exact HB.out | apply below_alloc | apply pw_below_drewN | apply below_drew1 | refine below_set ?_ GE128.out) | exact HB.out)⟩⟩
               ·rw [if_neg c33] at H
                exact absurd H (by simp)
              ·rw [if_neg c31] at H
               exact absurd H (by simp)
            ·rw [if_neg c23] at H
             have c23b0 : decide (x4_1 < (l0_5.length : Int)) = false := decide_eq_false c23
             clear c23
             by_cases c36 : (l0_5.length : Int) = 0
             ·rw [if_pos c36] at H
              have c36b0 : ((l0_5.length : Int) == 0) = true := beq_iff_eq.mpr c36
              have c36b1 : ((l0_5.length : Int) != 0) = false := bne_eq_false_iff_eq.mpr c36
              clear c36
              by_cases c37 : x3_1.size + 1 ≤ 9223372036854775807
              ·rw [if_pos c37] at H
               have c37b0 := eq_true c37
               have c37b1 : decide (x3_1.size + 1 ≤ 9223372036854775807) = true := decide_eq_true c37
               try have c37b2 : (9223372036854775807 < x3_1.size + 1) = False := eq_false (Nat.not_lt.2 c37)
               replace H := Option.bind_eq_some_iff.mp H
               obtain ⟨t138, A380, H⟩ := H
               replace H : (some t138) = some r := H
               have A38 := Aside0.mk A380
               clear A380
               obtain rfl := Option.some.inj H
               have hcz39_0 : wr.cell? ⟨gb128, 0, none⟩ = some (.int .i64 a0_0) := (blk_cell BK128.out 0).trans rfl
               have hcz39_1 : wr.cell? ⟨gb128, 1, none⟩ = some (.int .i64 a0_1) := (blk_cell BK128.out 1).trans rfl
               have hcz39_2 : wr.cell? ⟨gb128, 2, none⟩ = some (.int .i64 a0_2) := (blk_cell BK128.out 2).trans rfl
               have hcz39_3 : wr.cell? ⟨gb128, 3, none⟩ = some (.int .i64 a0_3) := (blk_cell BK128.out 3).trans rfl
               have hcz39_4 : wr.cell? ⟨gb128, 4, none⟩ = some (.int .i64 a0_4) := (blk_cell BK128.out 4).trans rfl
               have hcz39_5 : wr.cell? ⟨gb128, 5, none⟩ = some (.slice A0_5 l0_5.length c0_5) := (blk_cell BK128.out 5).trans rfl
               have hfz39_0 := blk_frozen BK128.out 0
               have hfz39_1 := blk_frozen BK128.out 1
               have hfz39_2 := blk_frozen BK128.out 2
               have hfz39_3 := blk_frozen BK128.out 3
               have hfz39_4 := blk_frozen BK128.out 4
               have hfz39_5 := blk_frozen BK128.out 5
               go_wp2_with (first | ((with_reducible refine gate_callee (f := 62) rfl ?_); refine goesL_ (some 55) rfl rfl Tryz.func62 (by kernel_rfl) rfl #[.string (x3_1 ++ (⟨#[45]⟩ : ByteArray))] rfl (by (try simp only [List.map_toArray, List.map_cons, List.map_nil]); first | done | rfl | (simp only [List.length_drop, List.length_take]; rfl)) ?_; (with_reducible refine (rf_Line.calls (x3_1 ++ (⟨#[45]⟩ : ByteArray)) t138 _ A38.out).mono ?_); rintro e w40 ⟨rfl, hb⟩; refine ⟨_, rfl, ?_⟩; have n0_ := Aside0.mk (blk_below (g := gb128) (o := .cells #[.int .i64 a0_0, .int .i64 a0_1, .int .i64 a0_2, .int .i64 a0_3, .int .i64 a0_4, .slice A0_5 l0_5.length c0_5] 26 (0, 0)) (by (with_reducible repeat (first | refine blk_drewN ?_ _ | refine blk_drew ?_ | refine blk_alloc ?_ _)); exact BK128.out) hb); have n1_ := Aside0.mk (below_step (by repeat (first | (with_reducible first | exact HB.out | apply below_alloc | apply pw_below_drewN | apply below_drew1 | refine below_set ?_ GE128.out) | exact HB.out)) hb); clear BK128; clear HB; have BK128 := n0_; have HB := n1_; clear n0_ n1_; (try clear hb); (try clear hb2); (try clear hk); (try clear hi)))
               go_ret
               exact ⟨by first | rfl | (simp [errW_none, errW_some] <;> rfl) | (simp [*, errW_none, errW_some] <;> rfl), by repeat (first | (with_reducible first | exact HB.out | apply below_alloc | apply pw_below_drewN | apply below_drew1 | refine below_set ?_ GE128.out) | exact HB.out)⟩
              ·rw [if_neg c37] at H
               exact absurd H (by simp)
             ·rw [if_neg c36] at H
              have c36b0 : ((l0_5.length : Int) == 0) = false := beq_eq_false_iff_ne.mpr c36
              have c36b1 : ((l0_5.length : Int) != 0) = true := bne_iff_ne.mpr c36
              have c36b2 : ¬ (l0_5 = []) := fun h_ => c36 (by rw [h_]; rfl)
              replace H := Option.bind_eq_some_iff.mp H
              obtain ⟨t139, A410, H⟩ := H
              replace H : (some t139) = some r := H
              have A41 := Aside0.mk A410
              clear A410
              obtain rfl := Option.some.inj H
              have hcz42_0 : wr.cell? ⟨gb128, 0, none⟩ = some (.int .i64 a0_0) := (blk_cell BK128.out 0).trans rfl
              have hcz42_1 : wr.cell? ⟨gb128, 1, none⟩ = some (.int .i64 a0_1) := (blk_cell BK128.out 1).trans rfl
              have hcz42_2 : wr.cell? ⟨gb128, 2, none⟩ = some (.int .i64 a0_2) := (blk_cell BK128.out 2).trans rfl
              have hcz42_3 : wr.cell? ⟨gb128, 3, none⟩ = some (.int .i64 a0_3) := (blk_cell BK128.out 3).trans rfl
              have hcz42_4 : wr.cell? ⟨gb128, 4, none⟩ = some (.int .i64 a0_4) := (blk_cell BK128.out 4).trans rfl
              have hcz42_5 : wr.cell? ⟨gb128, 5, none⟩ = some (.slice A0_5 l0_5.length c0_5) := (blk_cell BK128.out 5).trans rfl
              have hfz42_0 := blk_frozen BK128.out 0
              have hfz42_1 := blk_frozen BK128.out 1
              have hfz42_2 := blk_frozen BK128.out 2
              have hfz42_3 := blk_frozen BK128.out 3
              have hfz42_4 := blk_frozen BK128.out 4
              have hfz42_5 := blk_frozen BK128.out 5
              go_wp2_with (first | ((with_reducible refine gate_callee (f := 62) rfl ?_); refine goesL_ (some 55) rfl rfl Tryz.func62 (by kernel_rfl) rfl #[.string x3_1] rfl (by (try simp only [List.map_toArray, List.map_cons, List.map_nil]); first | done | rfl | (simp only [List.length_drop, List.length_take]; rfl)) ?_; (with_reducible refine (rf_Line.calls x3_1 t139 _ A41.out).mono ?_); rintro e w43 ⟨rfl, hb⟩; refine ⟨_, rfl, ?_⟩; have n0_ := Aside0.mk (blk_below (g := gb128) (o := .cells #[.int .i64 a0_0, .int .i64 a0_1, .int .i64 a0_2, .int .i64 a0_3, .int .i64 a0_4, .slice A0_5 l0_5.length c0_5] 26 (0, 0)) (by (with_reducible repeat (first | refine blk_drewN ?_ _ | refine blk_drew ?_ | refine blk_alloc ?_ _)); exact BK128.out) hb); have n1_ := Aside0.mk (below_step (by repeat (first | (with_reducible first | exact HB.out | apply below_alloc | apply pw_below_drewN | apply below_drew1 | refine below_set ?_ GE128.out) | exact HB.out)) hb); clear BK128; clear HB; have BK128 := n0_; have HB := n1_; clear n0_ n1_; (try clear hb); (try clear hb2); (try clear hk); (try clear hi)))
              go_ret
              exact ⟨by first | rfl | (simp [errW_none, errW_some] <;> rfl) | (simp [*, errW_none, errW_some] <;> rfl), by repeat (first | (with_reducible first | exact HB.out | apply below_alloc | apply pw_below_drewN | apply below_drew1 | refine below_set ?_ GE128.out) | exact HB.out)⟩
         ·rw [if_neg c15] at H
          exact absurd H (by simp)
        ·rw [if_neg c14] at H
         exact absurd H (by simp)
       ·rw [if_neg c12] at H
        exact absurd H (by simp)
      ·rw [if_neg c11] at H
       exact absurd H (by simp)
     ·rw [if_neg c9] at H
      exact absurd H (by simp)
    ·rw [if_neg c8] at H
     exact absurd H (by simp)
   ·rw [if_neg c6] at H
    exact absurd H (by simp)
  ·rw [if_neg c5] at H
   exact absurd H (by simp)
 ·rw [if_neg c3] at H
  exact absurd H (by simp)
def rf_WriteBills.l0 : Nat → List (S26) → ByteArray → Int → Option (ByteArray × Int)
 | 0, _, _, _ => none
 | k + 1, x0, x4, x5 => if x5 < (x0.length : Int) then (if 0 ≤ x5 then ((rf_Bill.f k ((rd_T26 x0 x5).f0) ((rd_T26 x0 x5).f1) ((rd_T26 x0 x5).f2) ((rd_T26 x0 x5).f3) ((rd_T26 x0 x5).f4) ((rd_T26 x0 x5).f5)).bind fun t141 => (if t141 = true then (if x5 > 0 then (if 0 ≤ (wrap64 (x5 - 1)) then (if (wrap64 (x5 - 1)) < (x0.length : Int) then (if ((rd_T26 x0 x5).f0) ≤ ((rd_T26 x0 (wrap64 (x5 - 1))).f0) then (some ((⟨#[]⟩ : ByteArray), 6)) else ((rf_BillText.f k ((rd_T26 x0 x5).f0) ((rd_T26 x0 x5).f1) ((rd_T26 x0 x5).f2) ((rd_T26 x0 x5).f3) ((rd_T26 x0 x5).f4) ((rd_T26 x0 x5).f5)).bind fun t145 => (if x4.size + t145.size ≤ 9223372036854775807 then (rf_WriteBills.l0 k x0 (x4 ++ t145) (wrap64 (x5 + 1))) else (none)))) else (none)) else (none)) else ((rf_BillText.f k ((rd_T26 x0 x5).f0) ((rd_T26 x0 x5).f1) ((rd_T26 x0 x5).f2) ((rd_T26 x0 x5).f3) ((rd_T26 x0 x5).f4) ((rd_T26 x0 x5).f5)).bind fun t147 => (if x4.size + t147.size ≤ 9223372036854775807 then (rf_WriteBills.l0 k x0 (x4 ++ t147) (wrap64 (x5 + 1))) else (none)))) else (some ((⟨#[]⟩ : ByteArray), 2)))) else (none)) else (some (x4, 0))
def rf_WriteBills.f (k : Nat) (l0 : List (S26)) : Option (ByteArray × Int) := if (l0.length : Int) > 200 then (some ((⟨#[]⟩ : ByteArray), 5)) else (rf_WriteBills.l0 k l0 (⟨#[]⟩ : ByteArray) 0)
set_option maxHeartbeats 8000000 in
set_option maxRecDepth 100000 in
theorem rf_WriteBills.calls (k : Nat) (A0 : Option Addr) (c0 : Nat) (l0 : List (S26)) (r1 : ByteArray) (r2 : Int) (w : World) (hr0 : Kd.C k26 w A0 l0.length l0) (hc0 : l0.length ≤ c0) (h : rf_WriteBills.f k l0 = some (r1, r2)) :
  Calls Tryz.prog 9 #[.slice A0 l0.length c0] w fun e w' => e = .returned (.tuple #[.string r1, .int .i64 r2]) ∧ Below w.heap.size w w' := by
 have hu26 := Tryz.underlying26
 have HR0 := Aside0.mk hr0
 have HC0 := Aside0.mk hc0
 clear hr0 hc0
 have HB := Aside0.mk (Below.refl w.heap.size w)
 have H : (if (l0.length : Int) > 200 then (some ((⟨#[]⟩ : ByteArray), 5)) else (rf_WriteBills.l0 k l0 (⟨#[]⟩ : ByteArray) 0)) = some (r1, r2) := h
 clear h
 by_cases c2 : (l0.length : Int) > 200
 ·rw [if_pos c2] at H
  have c2b0 : decide (200 < (l0.length : Int)) = true := decide_eq_true c2
  have c2b1 : decide (200 < l0.length) = true := decide_eq_true (by omega)
  clear c2
  simp only [Option.some.injEq, Prod.mk.injEq] at H
  obtain ⟨rfl, rfl⟩ := H
  go_enter Tryz.func9, Tryz.ntmps9
  go_wp2
  repeat (go_quiet (fail); try go_wp2)
  go_ret2
  exact ⟨by first | rfl | (simp [errW_none, errW_some] <;> rfl) | (simp [*, errW_none, errW_some] <;> rfl), by repeat (first | (with_reducible first | exact HB.out | apply below_alloc | apply pw_below_drewN | apply below_drew1) | exact HB.out)⟩
 ·rw [if_neg c2] at H
  have c2b0 : decide (200 < (l0.length : Int)) = false := decide_eq_false c2
  have c2b1 : decide (200 < l0.length) = false := decide_eq_false (by omega)
  clear c2
  have H' := Aside0.mk H
  clear H
  go_enter Tryz.func9, Tryz.ntmps9
  go_wp2
  repeat (go_quiet (fail); try go_wp2)
  go_loopg [4, 5] k (fun kq v4 v5 w' => ∃ (x4_1 : ByteArray) (x5_1 : Int), v4 = .string x4_1 ∧ v5 = .int .i64 x5_1 ∧ Aside0 (rf_WriteBills.l0 kq l0 x4_1 x5_1 = some (r1, r2)) ∧ Aside0 (kq ≤ k) ∧ Aside0 (Below w.heap.size w w'))
  case atStart => exact ⟨((⟨#[]⟩ : ByteArray)), (0), (by first | rfl | (simp; done) | (simp [*]; done)), (by first | rfl | (simp; done) | (simp [*]; done)), H', ⟨Nat.le_refl _⟩, ⟨by repeat (first | (with_reducible first | exact HB.out | apply below_alloc | apply pw_below_drewN | apply below_drew1) | exact HB.out)⟩⟩
  case round =>
   clear H'
   try clear c2
   try clear c2b0
   try clear c2b1
   try clear p2
   obtain ⟨x4_1, x5_1, rfl, rfl, HA, HK1, HB⟩ := hrel
   cases gk with
   | zero => exact absurd HA.out (by simp [rf_WriteBills.l0])
   | succ k1 =>
    have H := HA.out
    clear HA
    simp only [rf_WriteBills.l0] at H
    by_cases c3 : x5_1 < (l0.length : Int)
    ·rw [if_pos c3] at H
     have c3b0 : decide (x5_1 < (l0.length : Int)) = true := decide_eq_true c3
     clear c3
     by_cases c4 : 0 ≤ x5_1
     ·rw [if_pos c4] at H
      have c4b0 : decide (0 ≤ x5_1) = true := decide_eq_true c4
      clear c4
      replace H := Option.bind_eq_some_iff.mp H
      obtain ⟨t141, A50, H⟩ := H
      replace H : (if t141 = true then (if x5_1 > 0 then (if 0 ≤ (wrap64 (x5_1 - 1)) then (if (wrap64 (x5_1 - 1)) < (l0.length : Int) then (if ((rd_T26 l0 x5_1).f0) ≤ ((rd_T26 l0 (wrap64 (x5_1 - 1))).f0) then (some ((⟨#[]⟩ : ByteArray), 6)) else ((rf_BillText.f k1 ((rd_T26 l0 x5_1).f0) ((rd_T26 l0 x5_1).f1) ((rd_T26 l0 x5_1).f2) ((rd_T26 l0 x5_1).f3) ((rd_T26 l0 x5_1).f4) ((rd_T26 l0 x5_1).f5)).bind fun t145 => (if x4_1.size + t145.size ≤ 9223372036854775807 then (rf_WriteBills.l0 k1 l0 (x4_1 ++ t145) (wrap64 (x5_1 + 1))) else (none)))) else (none)) else (none)) else ((rf_BillText.f k1 ((rd_T26 l0 x5_1).f0) ((rd_T26 l0 x5_1).f1) ((rd_T26 l0 x5_1).f2) ((rd_T26 l0 x5_1).f3) ((rd_T26 l0 x5_1).f4) ((rd_T26 l0 x5_1).f5)).bind fun t147 => (if x4_1.size + t147.size ≤ 9223372036854775807 then (rf_WriteBills.l0 k1 l0 (x4_1 ++ t147) (wrap64 (x5_1 + 1))) else (none)))) else (some ((⟨#[]⟩ : ByteArray), 2))) = some (r1, r2) := H
      have A5 := Aside0.mk A50
      clear A50
      by_cases c6 : t141 = true
      ·subst c6
       have H1 : (if x5_1 > 0 then (if 0 ≤ (wrap64 (x5_1 - 1)) then (if (wrap64 (x5_1 - 1)) < (l0.length : Int) then (if ((rd_T26 l0 x5_1).f0) ≤ ((rd_T26 l0 (wrap64 (x5_1 - 1))).f0) then (some ((⟨#[]⟩ : ByteArray), 6)) else ((rf_BillText.f k1 ((rd_T26 l0 x5_1).f0) ((rd_T26 l0 x5_1).f1) ((rd_T26 l0 x5_1).f2) ((rd_T26 l0 x5_1).f3) ((rd_T26 l0 x5_1).f4) ((rd_T26 l0 x5_1).f5)).bind fun t145 => (if x4_1.size + t145.size ≤ 9223372036854775807 then (rf_WriteBills.l0 k1 l0 (x4_1 ++ t145) (wrap64 (x5_1 + 1))) else (none)))) else (none)) else (none)) else ((rf_BillText.f k1 ((rd_T26 l0 x5_1).f0) ((rd_T26 l0 x5_1).f1) ((rd_T26 l0 x5_1).f2) ((rd_T26 l0 x5_1).f3) ((rd_T26 l0 x5_1).f4) ((rd_T26 l0 x5_1).f5)).bind fun t147 => (if x4_1.size + t147.size ≤ 9223372036854775807 then (rf_WriteBills.l0 k1 l0 (x4_1 ++ t147) (wrap64 (x5_1 + 1))) else (none)))) = some (r1, r2) := by rw [if_pos rfl] at H; exact H
       clear H
       have H := H1
       clear H1
       by_cases c7 : x5_1 > 0
       ·rw [if_pos c7] at H
        have c7b0 : decide (0 < x5_1) = true := decide_eq_true c7
        clear c7
        obtain ⟨ji8, hji8⟩ : ∃ j_ : Int, (wrap64 (x5_1 - 1)) = j_ := ⟨_, rfl⟩
        replace H : (if 0 ≤ (ji8) then (if (ji8) < (l0.length : Int) then (if ((rd_T26 l0 x5_1).f0) ≤ ((rd_T26 l0 (ji8)).f0) then (some ((⟨#[]⟩ : ByteArray), 6)) else ((rf_BillText.f k1 ((rd_T26 l0 x5_1).f0) ((rd_T26 l0 x5_1).f1) ((rd_T26 l0 x5_1).f2) ((rd_T26 l0 x5_1).f3) ((rd_T26 l0 x5_1).f4) ((rd_T26 l0 x5_1).f5)).bind fun t145 => (if x4_1.size + t145.size ≤ 9223372036854775807 then (rf_WriteBills.l0 k1 l0 (x4_1 ++ t145) (wrap64 (x5_1 + 1))) else (none)))) else (none)) else (none)) = some (r1, r2) := by first | (rw [hji8] at H; exact H) | (simp only [hji8] at H ⊢; exact H)
        (try rw [hji8] at A5)
        have hji8w : (IntKind.i64.wrap (x5_1 - 1)) = ji8 := (i64_w _).trans hji8
        by_cases c9 : 0 ≤ (ji8)
        ·rw [if_pos c9] at H
         have c9b0 : decide (0 ≤ (ji8)) = true := decide_eq_true c9
         clear c9
         by_cases c10 : (ji8) < (l0.length : Int)
         ·rw [if_pos c10] at H
          have c10b0 : decide ((ji8) < (l0.length : Int)) = true := decide_eq_true c10
          clear c10
          by_cases c11 : ((rd_T26 l0 x5_1).f0) ≤ ((rd_T26 l0 (ji8)).f0)
          ·rw [if_pos c11] at H
           have c11b0 : decide (((rd_T26 l0 x5_1).f0) ≤ ((rd_T26 l0 (ji8)).f0)) = true := decide_eq_true c11
           clear c11
           simp only [Option.some.injEq, Prod.mk.injEq] at H
           obtain ⟨rfl, rfl⟩ := H
           have p140 : 0 ≤ (x5_1 : Int) := of_decide_eq_true (by first | (with_reducible assumption) | assumption)
           have q140 : x5_1 < (l0.length : Int) := of_decide_eq_true (by first | (with_reducible assumption) | assumption)
           obtain ⟨ad140, A140_5, c140_5, e140, hx140_0, hx140_1, hx140_2, hx140_3, hx140_4, hx140_5, hl140_5, hi140_5⟩ := at_T26 HR0.out x5_1 p140 q140
           cases e140
           replace hx140_0 := (HB.out.cell (xbl w _ hx140_0)).trans hx140_0
           replace hx140_1 := (HB.out.cell (xbl w _ hx140_1)).trans hx140_1
           replace hx140_2 := (HB.out.cell (xbl w _ hx140_2)).trans hx140_2
           replace hx140_3 := (HB.out.cell (xbl w _ hx140_3)).trans hx140_3
           replace hx140_4 := (HB.out.cell (xbl w _ hx140_4)).trans hx140_4
           replace hx140_5 := (HB.out.cell (xbl w _ hx140_5)).trans hx140_5
           have HR140_5 := Aside0.mk hi140_5
           have HC140_5 := Aside0.mk hl140_5
           clear hi140_5 hl140_5
           replace p140 := eq_true p140
           replace q140 := eq_true q140
           go_wp2_with (first | (go_at_call 26; (with_reducible refine (rf_Bill.calls k1 ((rd_T26 l0 x5_1).f0) ((rd_T26 l0 x5_1).f1) ((rd_T26 l0 x5_1).f2) ((rd_T26 l0 x5_1).f3) ((rd_T26 l0 x5_1).f4) _ _ ((rd_T26 l0 x5_1).f5) true _ ?side1 ?side2 A5.out).mono ?_); (case side1 => repeat (first | exact (Kd.C_below HR140_5.out HB.out) | (with_reducible refine Kd.C_alloc ?_ _) | (with_reducible refine Kd.C_drewN ?_ _) | (with_reducible refine Kd.C_drew ?_))); (case side2 => exact HC140_5.out); rintro e w12 ⟨rfl, hb⟩; have n0_ := Aside0.mk (below_step (by repeat (first | (with_reducible first | exact HB.out | apply below_alloc | apply pw_below_drewN | apply below_drew1) | exact HB.out)) hb); clear HB; have HB := n0_; clear n0_; (try clear hb); (try clear hb2); (try clear hk); (try clear hi); have p142 : 0 ≤ (x5_1 : Int) := of_decide_eq_true (by first | (with_reducible assumption) | assumption); have q142 : x5_1 < (l0.length : Int) := of_decide_eq_true (by first | (with_reducible assumption) | assumption); obtain ⟨ad142, A142_5, c142_5, e142, hx142_0, hx142_1, hx142_2, hx142_3, hx142_4, hx142_5, hl142_5, hi142_5⟩ := at_T26 HR0.out x5_1 p142 q142; obtain rfl : ad140 = ad142 := (by injection e142); replace hx142_0 := (HB.out.cell (xbl w _ hx142_0)).trans hx142_0; replace hx142_1 := (HB.out.cell (xbl w _ hx142_1)).trans hx142_1; replace hx142_2 := (HB.out.cell (xbl w _ hx142_2)).trans hx142_2; replace hx142_3 := (HB.out.cell (xbl w _ hx142_3)).trans hx142_3; replace hx142_4 := (HB.out.cell (xbl w _ hx142_4)).trans hx142_4; replace hx142_5 := (HB.out.cell (xbl w _ hx142_5)).trans hx142_5; have HR142_5 := Aside0.mk hi142_5; have HC142_5 := Aside0.mk hl142_5; clear hi142_5 hl142_5; replace p142 := eq_true p142; replace q142 := eq_true q142; have p143 : 0 ≤ ((ji8) : Int) := of_decide_eq_true (by first | (with_reducible assumption) | assumption); have q143 : (ji8) < (l0.length : Int) := of_decide_eq_true (by first | (with_reducible assumption) | assumption); obtain ⟨ad143, A143_5, c143_5, e143, hx143_0, hx143_1, hx143_2, hx143_3, hx143_4, hx143_5, hl143_5, hi143_5⟩ := at_T26 HR0.out (ji8) p143 q143; obtain rfl : ad140 = ad143 := (by injection e143); replace hx143_0 := (HB.out.cell (xbl w _ hx143_0)).trans hx143_0; replace hx143_1 := (HB.out.cell (xbl w _ hx143_1)).trans hx143_1; replace hx143_2 := (HB.out.cell (xbl w _ hx143_2)).trans hx143_2; replace hx143_3 := (HB.out.cell (xbl w _ hx143_3)).trans hx143_3; replace hx143_4 := (HB.out.cell (xbl w _ hx143_4)).trans hx143_4; replace hx143_5 := (HB.out.cell (xbl w _ hx143_5)).trans hx143_5; have HR143_5 := Aside0.mk hi143_5; have HC143_5 := Aside0.mk hl143_5; clear hi143_5 hl143_5; replace p143 := eq_true p143; replace q143 := eq_true q143))
           repeat (go_quiet (first | (go_at_call 26; (with_reducible refine (rf_Bill.calls k1 ((rd_T26 l0 x5_1).f0) ((rd_T26 l0 x5_1).f1) ((rd_T26 l0 x5_1).f2) ((rd_T26 l0 x5_1).f3) ((rd_T26 l0 x5_1).f4) _ _ ((rd_T26 l0 x5_1).f5) true _ ?side1 ?side2 A5.out).mono ?_); (case side1 => repeat (first | exact (Kd.C_below HR140_5.out HB.out) | (with_reducible refine Kd.C_alloc ?_ _) | (with_reducible refine Kd.C_drewN ?_ _) | (with_reducible refine Kd.C_drew ?_))); (case side2 => exact HC140_5.out); rintro e w12 ⟨rfl, hb⟩; have n0_ := Aside0.mk (below_step (by repeat (first | (with_reducible first | exact HB.out | apply below_alloc | apply pw_below_drewN | apply below_drew1) | exact HB.out)) hb); clear HB; have HB := n0_; clear n0_; (try clear hb); (try clear hb2); (try clear hk); (try clear hi); have p142 : 0 ≤ (x5_1 : Int) := of_decide_eq_true (by first | (with_reducible assumption) | assumption); have q142 : x5_1 < (l0.length : Int) := of_decide_eq_true (by first | (with_reducible assumption) | assumption); obtain ⟨ad142, A142_5, c142_5, e142, hx142_0, hx142_1, hx142_2, hx142_3, hx142_4, hx142_5, hl142_5, hi142_5⟩ := at_T26 HR0.out x5_1 p142 q142; obtain rfl : ad140 = ad142 := (by injection e142); replace hx142_0 := (HB.out.cell (xbl w _ hx142_0)).trans hx142_0; replace hx142_1 := (HB.out.cell (xbl w _ hx142_1)).trans hx142_1; replace hx142_2 := (HB.out.cell (xbl w _ hx142_2)).trans hx142_2; replace hx142_3 := (HB.out.cell (xbl w _ hx142_3)).trans hx142_3; replace hx142_4 := (HB.out.cell (xbl w _ hx142_4)).trans hx142_4; replace hx142_5 := (HB.out.cell (xbl w _ hx142_5)).trans hx142_5; have HR142_5 := Aside0.mk hi142_5; have HC142_5 := Aside0.mk hl142_5; clear hi142_5 hl142_5; replace p142 := eq_true p142; replace q142 := eq_true q142; have p143 : 0 ≤ ((ji8) : Int) := of_decide_eq_true (by first | (with_reducible assumption) | assumption); have q143 : (ji8) < (l0.length : Int) := of_decide_eq_true (by first | (with_reducible assumption) | assumption); obtain ⟨ad143, A143_5, c143_5, e143, hx143_0, hx143_1, hx143_2, hx143_3, hx143_4, hx143_5, hl143_5, hi143_5⟩ := at_T26 HR0.out (ji8) p143 q143; obtain rfl : ad140 = ad143 := (by injection e143); replace hx143_0 := (HB.out.cell (xbl w _ hx143_0)).trans hx143_0; replace hx143_1 := (HB.out.cell (xbl w _ hx143_1)).trans hx143_1; replace hx143_2 := (HB.out.cell (xbl w _ hx143_2)).trans hx143_2; replace hx143_3 := (HB.out.cell (xbl w _ hx143_3)).trans hx143_3; replace hx143_4 := (HB.out.cell (xbl w _ hx143_4)).trans hx143_4; replace hx143_5 := (HB.out.cell (xbl w _ hx143_5)).trans hx143_5; have HR143_5 := Aside0.mk hi143_5; have HC143_5 := Aside0.mk hl143_5; clear hi143_5 hl143_5; replace p143 := eq_true p143; replace q143 := eq_true q143)); try go_wp2_with (first | (go_at_call 26; (with_reducible refine (rf_Bill.calls k1 ((rd_T26 l0 x5_1).f0) ((rd_T26 l0 x5_1).f1) ((rd_T26 l0 x5_1).f2) ((rd_T26 l0 x5_1).f3) ((rd_T26 l0 x5_1).f4) _ _ ((rd_T26 l0 x5_1).f5) true _ ?side1 ?side2 A5.out).mono ?_); (case side1 => repeat (first | exact (Kd.C_below HR140_5.out HB.out) | (with_reducible refine Kd.C_alloc ?_ _) | (with_reducible refine Kd.C_drewN ?_ _) | (with_reducible refine Kd.C_drew ?_))); (case side2 => exact HC140_5.out); rintro e w12 ⟨rfl, hb⟩; have n0_ := Aside0.mk (below_step (by repeat (first | (with_reducible first | exact HB.out | apply below_alloc | apply pw_below_drewN | apply below_drew1) | exact HB.out)) hb); clear HB; have HB := n0_; clear n0_; (try clear hb); (try clear hb2); (try clear hk); (try clear hi); have p142 : 0 ≤ (x5_1 : Int) := of_decide_eq_true (by first | (with_reducible assumption) | assumption); have q142 : x5_1 < (l0.length : Int) := of_decide_eq_true (by first | (with_reducible assumption) | assumption); obtain ⟨ad142, A142_5, c142_5, e142, hx142_0, hx142_1, hx142_2, hx142_3, hx142_4, hx142_5, hl142_5, hi142_5⟩ := at_T26 HR0.out x5_1 p142 q142; obtain rfl : ad140 = ad142 := (by injection e142); replace hx142_0 := (HB.out.cell (xbl w _ hx142_0)).trans hx142_0; replace hx142_1 := (HB.out.cell (xbl w _ hx142_1)).trans hx142_1; replace hx142_2 := (HB.out.cell (xbl w _ hx142_2)).trans hx142_2; replace hx142_3 := (HB.out.cell (xbl w _ hx142_3)).trans hx142_3; replace hx142_4 := (HB.out.cell (xbl w _ hx142_4)).trans hx142_4; replace hx142_5 := (HB.out.cell (xbl w _ hx142_5)).trans hx142_5; have HR142_5 := Aside0.mk hi142_5; have HC142_5 := Aside0.mk hl142_5; clear hi142_5 hl142_5; replace p142 := eq_true p142; replace q142 := eq_true q142; have p143 : 0 ≤ ((ji8) : Int) := of_decide_eq_true (by first | (with_reducible assumption) | assumption); have q143 : (ji8) < (l0.length : Int) := of_decide_eq_true (by first | (with_reducible assumption) | assumption); obtain ⟨ad143, A143_5, c143_5, e143, hx143_0, hx143_1, hx143_2, hx143_3, hx143_4, hx143_5, hl143_5, hi143_5⟩ := at_T26 HR0.out (ji8) p143 q143; obtain rfl : ad140 = ad143 := (by injection e143); replace hx143_0 := (HB.out.cell (xbl w _ hx143_0)).trans hx143_0; replace hx143_1 := (HB.out.cell (xbl w _ hx143_1)).trans hx143_1; replace hx143_2 := (HB.out.cell (xbl w _ hx143_2)).trans hx143_2; replace hx143_3 := (HB.out.cell (xbl w _ hx143_3)).trans hx143_3; replace hx143_4 := (HB.out.cell (xbl w _ hx143_4)).trans hx143_4; replace hx143_5 := (HB.out.cell (xbl w _ hx143_5)).trans hx143_5; have HR143_5 := Aside0.mk hi143_5; have HC143_5 := Aside0.mk hl143_5; clear hi143_5 hl143_5; replace p143 := eq_true p143; replace q143 := eq_true q143)))
           go_ret2
           exact ⟨by first | rfl | (simp [errW_none, errW_some] <;> rfl) | (simp only [← hji8]; first | rfl | (simp [errW_none, errW_some] <;> rfl)) | (simp [*, errW_none, errW_some] <;> rfl), by repeat (first | (with_reducible first | exact HB.out | apply below_alloc | apply pw_below_drewN | apply below_drew1) | exact HB.out)⟩
          ·rw [if_neg c11] at H
           have c11b0 : decide (((rd_T26 l0 x5_1).f0) ≤ ((rd_T26 l0 (ji8)).f0)) = false := decide_eq_false c11
           clear c11
           replace H := Option.bind_eq_some_iff.mp H
           obtain ⟨t145, A130, H⟩ := H
           replace H : (if x4_1.size + t145.size ≤ 9223372036854775807 then (rf_WriteBills.l0 k1 l0 (x4_1 ++ t145) (wrap64 (x5_1 + 1))) else (none)) = some (r1, r2) := H
           have A13 := Aside0.mk A130
           clear A130
           by_cases c14 : x4_1.size + t145.size ≤ 9223372036854775807
           ·rw [if_pos c14] at H
            have c14b0 := eq_true c14
            have c14b1 : decide (x4_1.size + t145.size ≤ 9223372036854775807) = true := decide_eq_true c14
            try have c14b2 : (9223372036854775807 < x4_1.size + t145.size) = False := eq_false (Nat.not_lt.2 c14)
            have H' := Aside0.mk H
            clear H
            have p140 : 0 ≤ (x5_1 : Int) := of_decide_eq_true (by first | (with_reducible assumption) | assumption)
            have q140 : x5_1 < (l0.length : Int) := of_decide_eq_true (by first | (with_reducible assumption) | assumption)
            obtain ⟨ad140, A140_5, c140_5, e140, hx140_0, hx140_1, hx140_2, hx140_3, hx140_4, hx140_5, hl140_5, hi140_5⟩ := at_T26 HR0.out x5_1 p140 q140
            cases e140
            replace hx140_0 := (HB.out.cell (xbl w _ hx140_0)).trans hx140_0
            replace hx140_1 := (HB.out.cell (xbl w _ hx140_1)).trans hx140_1
            replace hx140_2 := (HB.out.cell (xbl w _ hx140_2)).trans hx140_2
            replace hx140_3 := (HB.out.cell (xbl w _ hx140_3)).trans hx140_3
            replace hx140_4 := (HB.out.cell (xbl w _ hx140_4)).trans hx140_4
            replace hx140_5 := (HB.out.cell (xbl w _ hx140_5)).trans hx140_5
            have HR140_5 := Aside0.mk hi140_5
            have HC140_5 := Aside0.mk hl140_5
            clear hi140_5 hl140_5
            replace p140 := eq_true p140
            replace q140 := eq_true q140
            go_wp2_with (first | (go_at_call 26; (with_reducible refine (rf_Bill.calls k1 ((rd_T26 l0 x5_1).f0) ((rd_T26 l0 x5_1).f1) ((rd_T26 l0 x5_1).f2) ((rd_T26 l0 x5_1).f3) ((rd_T26 l0 x5_1).f4) _ _ ((rd_T26 l0 x5_1).f5) true _ ?side1 ?side2 A5.out).mono ?_); (case side1 => repeat (first | exact (Kd.C_below HR140_5.out HB.out) | (with_reducible refine Kd.C_alloc ?_ _) | (with_reducible refine Kd.C_drewN ?_ _) | (with_reducible refine Kd.C_drew ?_))); (case side2 => exact HC140_5.out); rintro e w15 ⟨rfl, hb⟩; have n0_ := Aside0.mk (below_step (by repeat (first | (with_reducible first | exact HB.out | apply below_alloc | apply pw_below_drewN | apply below_drew1) | exact HB.out)) hb); clear HB; have HB := n0_; clear n0_; (try clear hb); (try clear hb2); (try clear hk); (try clear hi); have p142 : 0 ≤ (x5_1 : Int) := of_decide_eq_true (by first | (with_reducible assumption) | assumption); have q142 : x5_1 < (l0.length : Int) := of_decide_eq_true (by first | (with_reducible assumption) | assumption); obtain ⟨ad142, A142_5, c142_5, e142, hx142_0, hx142_1, hx142_2, hx142_3, hx142_4, hx142_5, hl142_5, hi142_5⟩ := at_T26 HR0.out x5_1 p142 q142; obtain rfl : ad140 = ad142 := (by injection e142); replace hx142_0 := (HB.out.cell (xbl w _ hx142_0)).trans hx142_0; replace hx142_1 := (HB.out.cell (xbl w _ hx142_1)).trans hx142_1; replace hx142_2 := (HB.out.cell (xbl w _ hx142_2)).trans hx142_2; replace hx142_3 := (HB.out.cell (xbl w _ hx142_3)).trans hx142_3; replace hx142_4 := (HB.out.cell (xbl w _ hx142_4)).trans hx142_4; replace hx142_5 := (HB.out.cell (xbl w _ hx142_5)).trans hx142_5; have HR142_5 := Aside0.mk hi142_5; have HC142_5 := Aside0.mk hl142_5; clear hi142_5 hl142_5; replace p142 := eq_true p142; replace q142 := eq_true q142; have p143 : 0 ≤ ((ji8) : Int) := of_decide_eq_true (by first | (with_reducible assumption) | assumption); have q143 : (ji8) < (l0.length : Int) := of_decide_eq_true (by first | (with_reducible assumption) | assumption); obtain ⟨ad143, A143_5, c143_5, e143, hx143_0, hx143_1, hx143_2, hx143_3, hx143_4, hx143_5, hl143_5, hi143_5⟩ := at_T26 HR0.out (ji8) p143 q143; obtain rfl : ad140 = ad143 := (by injection e143); replace hx143_0 := (HB.out.cell (xbl w _ hx143_0)).trans hx143_0; replace hx143_1 := (HB.out.cell (xbl w _ hx143_1)).trans hx143_1; replace hx143_2 := (HB.out.cell (xbl w _ hx143_2)).trans hx143_2; replace hx143_3 := (HB.out.cell (xbl w _ hx143_3)).trans hx143_3; replace hx143_4 := (HB.out.cell (xbl w _ hx143_4)).trans hx143_4; replace hx143_5 := (HB.out.cell (xbl w _ hx143_5)).trans hx143_5; have HR143_5 := Aside0.mk hi143_5; have HC143_5 := Aside0.mk hl143_5; clear hi143_5 hl143_5; replace p143 := eq_true p143; replace q143 := eq_true q143; have p144 : 0 ≤ (x5_1 : Int) := of_decide_eq_true (by first | (with_reducible assumption) | assumption); have q144 : x5_1 < (l0.length : Int) := of_decide_eq_true (by first | (with_reducible assumption) | assumption); obtain ⟨ad144, A144_5, c144_5, e144, hx144_0, hx144_1, hx144_2, hx144_3, hx144_4, hx144_5, hl144_5, hi144_5⟩ := at_T26 HR0.out x5_1 p144 q144; obtain rfl : ad140 = ad144 := (by injection e144); replace hx144_0 := (HB.out.cell (xbl w _ hx144_0)).trans hx144_0; replace hx144_1 := (HB.out.cell (xbl w _ hx144_1)).trans hx144_1; replace hx144_2 := (HB.out.cell (xbl w _ hx144_2)).trans hx144_2; replace hx144_3 := (HB.out.cell (xbl w _ hx144_3)).trans hx144_3; replace hx144_4 := (HB.out.cell (xbl w _ hx144_4)).trans hx144_4; replace hx144_5 := (HB.out.cell (xbl w _ hx144_5)).trans hx144_5; have HR144_5 := Aside0.mk hi144_5; have HC144_5 := Aside0.mk hl144_5; clear hi144_5 hl144_5; replace p144 := eq_true p144; replace q144 := eq_true q144; have ea_ := Option.some.inj (hx142_5.symm.trans hx144_5); injection ea_ with ea_ en_ ec_; subst ea_; subst ec_; clear en_) | (go_at_call 27; (with_reducible refine (rf_BillText.calls k1 ((rd_T26 l0 x5_1).f0) ((rd_T26 l0 x5_1).f1) ((rd_T26 l0 x5_1).f2) ((rd_T26 l0 x5_1).f3) ((rd_T26 l0 x5_1).f4) _ _ ((rd_T26 l0 x5_1).f5) t145 _ ?side1 ?side2 A13.out).mono ?_); (case side1 => repeat (first | exact (Kd.C_below HR144_5.out HB.out) | (with_reducible refine Kd.C_alloc ?_ _) | (with_reducible refine Kd.C_drewN ?_ _) | (with_reducible refine Kd.C_drew ?_))); (case side2 => exact HC144_5.out); rintro e w16 ⟨rfl, hb⟩; have n0_ := Aside0.mk (below_step (by repeat (first | (with_reducible first | exact HB.out | apply below_alloc | apply pw_below_drewN | apply below_drew1) | exact HB.out)) hb); clear HB; have HB := n0_; clear n0_; (try clear hb); (try clear hb2); (try clear hk); (try clear hi)))
            repeat (go_quiet (first | (go_at_call 26; (with_reducible refine (rf_Bill.calls k1 ((rd_T26 l0 x5_1).f0) ((rd_T26 l0 x5_1).f1) ((rd_T26 l0 x5_1).f2) ((rd_T26 l0 x5_1).f3) ((rd_T26 l0 x5_1).f4) _ _ ((rd_T26 l0 x5_1).f5) true _ ?side1 ?side2 A5.out).mono ?_); (case side1 => repeat (first | exact (Kd.C_below HR140_5.out HB.out) | (with_reducible refine Kd.C_alloc ?_ _) | (with_reducible refine Kd.C_drewN ?_ _) | (with_reducible refine Kd.C_drew ?_))); (case side2 => exact HC140_5.out); rintro e w15 ⟨rfl, hb⟩; have n0_ := Aside0.mk (below_step (by repeat (first | (with_reducible first | exact HB.out | apply below_alloc | apply pw_below_drewN | apply below_drew1) | exact HB.out)) hb); clear HB; have HB := n0_; clear n0_; (try clear hb); (try clear hb2); (try clear hk); (try clear hi); have p142 : 0 ≤ (x5_1 : Int) := of_decide_eq_true (by first | (with_reducible assumption) | assumption); have q142 : x5_1 < (l0.length : Int) := of_decide_eq_true (by first | (with_reducible assumption) | assumption); obtain ⟨ad142, A142_5, c142_5, e142, hx142_0, hx142_1, hx142_2, hx142_3, hx142_4, hx142_5, hl142_5, hi142_5⟩ := at_T26 HR0.out x5_1 p142 q142; obtain rfl : ad140 = ad142 := (by injection e142); replace hx142_0 := (HB.out.cell (xbl w _ hx142_0)).trans hx142_0; replace hx142_1 := (HB.out.cell (xbl w _ hx142_1)).trans hx142_1; replace hx142_2 := (HB.out.cell (xbl w _ hx142_2)).trans hx142_2; replace hx142_3 := (HB.out.cell (xbl w _ hx142_3)).trans hx142_3; replace hx142_4 := (HB.out.cell (xbl w _ hx142_4)).trans hx142_4; replace hx142_5 := (HB.out.cell (xbl w _ hx142_5)).trans hx142_5; have HR142_5 := Aside0.mk hi142_5; have HC142_5 := Aside0.mk hl142_5; clear hi142_5 hl142_5; replace p142 := eq_true p142; replace q142 := eq_true q142; have p143 : 0 ≤ ((ji8) : Int) := of_decide_eq_true (by first | (with_reducible assumption) | assumption); have q143 : (ji8) < (l0.length : Int) := of_decide_eq_true (by first | (with_reducible assumption) | assumption); obtain ⟨ad143, A143_5, c143_5, e143, hx143_0, hx143_1, hx143_2, hx143_3, hx143_4, hx143_5, hl143_5, hi143_5⟩ := at_T26 HR0.out (ji8) p143 q143; obtain rfl : ad140 = ad143 := (by injection e143); replace hx143_0 := (HB.out.cell (xbl w _ hx143_0)).trans hx143_0; replace hx143_1 := (HB.out.cell (xbl w _ hx143_1)).trans hx143_1; replace hx143_2 := (HB.out.cell (xbl w _ hx143_2)).trans hx143_2; replace hx143_3 := (HB.out.cell (xbl w _ hx143_3)).trans hx143_3; replace hx143_4 := (HB.out.cell (xbl w _ hx143_4)).trans hx143_4; replace hx143_5 := (HB.out.cell (xbl w _ hx143_5)).trans hx143_5; have HR143_5 := Aside0.mk hi143_5; have HC143_5 := Aside0.mk hl143_5; clear hi143_5 hl143_5; replace p143 := eq_true p143; replace q143 := eq_true q143; have p144 : 0 ≤ (x5_1 : Int) := of_decide_eq_true (by first | (with_reducible assumption) | assumption); have q144 : x5_1 < (l0.length : Int) := of_decide_eq_true (by first | (with_reducible assumption) | assumption); obtain ⟨ad144, A144_5, c144_5, e144, hx144_0, hx144_1, hx144_2, hx144_3, hx144_4, hx144_5, hl144_5, hi144_5⟩ := at_T26 HR0.out x5_1 p144 q144; obtain rfl : ad140 = ad144 := (by injection e144); replace hx144_0 := (HB.out.cell (xbl w _ hx144_0)).trans hx144_0; replace hx144_1 := (HB.out.cell (xbl w _ hx144_1)).trans hx144_1; replace hx144_2 := (HB.out.cell (xbl w _ hx144_2)).trans hx144_2; replace hx144_3 := (HB.out.cell (xbl w _ hx144_3)).trans hx144_3; replace hx144_4 := (HB.out.cell (xbl w _ hx144_4)).trans hx144_4; replace hx144_5 := (HB.out.cell (xbl w _ hx144_5)).trans hx144_5; have HR144_5 := Aside0.mk hi144_5; have HC144_5 := Aside0.mk hl144_5; clear hi144_5 hl144_5; replace p144 := eq_true p144; replace q144 := eq_true q144; have ea_ := Option.some.inj (hx142_5.symm.trans hx144_5); injection ea_ with ea_ en_ ec_; subst ea_; subst ec_; clear en_) | (go_at_call 27; (with_reducible refine (rf_BillText.calls k1 ((rd_T26 l0 x5_1).f0) ((rd_T26 l0 x5_1).f1) ((rd_T26 l0 x5_1).f2) ((rd_T26 l0 x5_1).f3) ((rd_T26 l0 x5_1).f4) _ _ ((rd_T26 l0 x5_1).f5) t145 _ ?side1 ?side2 A13.out).mono ?_); (case side1 => repeat (first | exact (Kd.C_below HR144_5.out HB.out) | (with_reducible refine Kd.C_alloc ?_ _) | (with_reducible refine Kd.C_drewN ?_ _) | (with_reducible refine Kd.C_drew ?_))); (case side2 => exact HC144_5.out); rintro e w16 ⟨rfl, hb⟩; have n0_ := Aside0.mk (below_step (by repeat (first | (with_reducible first | exact HB.out | apply below_alloc | apply pw_below_drewN | apply below_drew1) | exact HB.out)) hb); clear HB; have HB := n0_; clear n0_; (try clear hb); (try clear hb2); (try clear hk); (try clear hi))); try go_wp2_with (first | (go_at_call 26; (with_reducible refine (rf_Bill.calls k1 ((rd_T26 l0 x5_1).f0) ((rd_T26 l0 x5_1).f1) ((rd_T26 l0 x5_1).f2) ((rd_T26 l0 x5_1).f3) ((rd_T26 l0 x5_1).f4) _ _ ((rd_T26 l0 x5_1).f5) true _ ?side1 ?side2 A5.out).mono ?_); (case side1 => repeat (first | exact (Kd.C_below HR140_5.out HB.out) | (with_reducible refine Kd.C_alloc ?_ _) | (with_reducible refine Kd.C_drewN ?_ _) | (with_reducible refine Kd.C_drew ?_))); (case side2 => exact HC140_5.out); rintro e w15 ⟨rfl, hb⟩; have n0_ := Aside0.mk (below_step (by repeat (first | (with_reducible first | exact HB.out | apply below_alloc | apply pw_below_drewN | apply below_drew1) | exact HB.out)) hb); clear HB; have HB := n0_; clear n0_; (try clear hb); (try clear hb2); (try clear hk); (try clear hi); have p142 : 0 ≤ (x5_1 : Int) := of_decide_eq_true (by first | (with_reducible assumption) | assumption); have q142 : x5_1 < (l0.length : Int) := of_decide_eq_true (by first | (with_reducible assumption) | assumption); obtain ⟨ad142, A142_5, c142_5, e142, hx142_0, hx142_1, hx142_2, hx142_3, hx142_4, hx142_5, hl142_5, hi142_5⟩ := at_T26 HR0.out x5_1 p142 q142; obtain rfl : ad140 = ad142 := (by injection e142); replace hx142_0 := (HB.out.cell (xbl w _ hx142_0)).trans hx142_0; replace hx142_1 := (HB.out.cell (xbl w _ hx142_1)).trans hx142_1; replace hx142_2 := (HB.out.cell (xbl w _ hx142_2)).trans hx142_2; replace hx142_3 := (HB.out.cell (xbl w _ hx142_3)).trans hx142_3; replace hx142_4 := (HB.out.cell (xbl w _ hx142_4)).trans hx142_4; replace hx142_5 := (HB.out.cell (xbl w _ hx142_5)).trans hx142_5; have HR142_5 := Aside0.mk hi142_5; have HC142_5 := Aside0.mk hl142_5; clear hi142_5 hl142_5; replace p142 := eq_true p142; replace q142 := eq_true q142; have p143 : 0 ≤ ((ji8) : Int) := of_decide_eq_true (by first | (with_reducible assumption) | assumption); have q143 : (ji8) < (l0.length : Int) := of_decide_eq_true (by first | (with_reducible assumption) | assumption); obtain ⟨ad143, A143_5, c143_5, e143, hx143_0, hx143_1, hx143_2, hx143_3, hx143_4, hx143_5, hl143_5, hi143_5⟩ := at_T26 HR0.out (ji8) p143 q143; obtain rfl : ad140 = ad143 := (by injection e143); replace hx143_0 := (HB.out.cell (xbl w _ hx143_0)).trans hx143_0; replace hx143_1 := (HB.out.cell (xbl w _ hx143_1)).trans hx143_1; replace hx143_2 := (HB.out.cell (xbl w _ hx143_2)).trans hx143_2; replace hx143_3 := (HB.out.cell (xbl w _ hx143_3)).trans hx143_3; replace hx143_4 := (HB.out.cell (xbl w _ hx143_4)).trans hx143_4; replace hx143_5 := (HB.out.cell (xbl w _ hx143_5)).trans hx143_5; have HR143_5 := Aside0.mk hi143_5; have HC143_5 := Aside0.mk hl143_5; clear hi143_5 hl143_5; replace p143 := eq_true p143; replace q143 := eq_true q143; have p144 : 0 ≤ (x5_1 : Int) := of_decide_eq_true (by first | (with_reducible assumption) | assumption); have q144 : x5_1 < (l0.length : Int) := of_decide_eq_true (by first | (with_reducible assumption) | assumption); obtain ⟨ad144, A144_5, c144_5, e144, hx144_0, hx144_1, hx144_2, hx144_3, hx144_4, hx144_5, hl144_5, hi144_5⟩ := at_T26 HR0.out x5_1 p144 q144; obtain rfl : ad140 = ad144 := (by injection e144); replace hx144_0 := (HB.out.cell (xbl w _ hx144_0)).trans hx144_0; replace hx144_1 := (HB.out.cell (xbl w _ hx144_1)).trans hx144_1; replace hx144_2 := (HB.out.cell (xbl w _ hx144_2)).trans hx144_2; replace hx144_3 := (HB.out.cell (xbl w _ hx144_3)).trans hx144_3; replace hx144_4 := (HB.out.cell (xbl w _ hx144_4)).trans hx144_4; replace hx144_5 := (HB.out.cell (xbl w _ hx144_5)).trans hx144_5; have HR144_5 := Aside0.mk hi144_5; have HC144_5 := Aside0.mk hl144_5; clear hi144_5 hl144_5; replace p144 := eq_true p144; replace q144 := eq_true q144; have ea_ := Option.some.inj (hx142_5.symm.trans hx144_5); injection ea_ with ea_ en_ ec_; subst ea_; subst ec_; clear en_) | (go_at_call 27; (with_reducible refine (rf_BillText.calls k1 ((rd_T26 l0 x5_1).f0) ((rd_T26 l0 x5_1).f1) ((rd_T26 l0 x5_1).f2) ((rd_T26 l0 x5_1).f3) ((rd_T26 l0 x5_1).f4) _ _ ((rd_T26 l0 x5_1).f5) t145 _ ?side1 ?side2 A13.out).mono ?_); (case side1 => repeat (first | exact (Kd.C_below HR144_5.out HB.out) | (with_reducible refine Kd.C_alloc ?_ _) | (with_reducible refine Kd.C_drewN ?_ _) | (with_reducible refine Kd.C_drew ?_))); (case side2 => exact HC144_5.out); rintro e w16 ⟨rfl, hb⟩; have n0_ := Aside0.mk (below_step (by repeat (first | (with_reducible first | exact HB.out | apply below_alloc | apply pw_below_drewN | apply below_drew1) | exact HB.out)) hb); clear HB; have HB := n0_; clear n0_; (try clear hb); (try clear hb2); (try clear hk); (try clear hi))))
            go_roundg k1
            case measure => have := HK1.out; omega
            case rel => exact ⟨(x4_1 ++ t145), (wrap64 (x5_1 + 1)), (by first | rfl | (simp; done) | (simp [*]; done)), (by first | rfl | (simp; done) | (simp [*]; done)), H', ⟨by have := HK1.out; omega⟩, ⟨by repeat (first | (with_reducible first | exact HB.out | apply below_alloc | apply pw_below_drewN | apply below_drew1) | exact HB.out)⟩⟩
           ·rw [if_neg c14] at H
            exact absurd H (by simp)
         ·rw [if_neg c10] at H
          exact absurd H (by simp)
        ·rw [if_neg c9] at H
         exact absurd H (by simp)
       ·rw [if_neg c7] at H
        have c7b0 : decide (0 < x5_1) = false := decide_eq_false c7
        clear c7
        replace H := Option.bind_eq_some_iff.mp H
        obtain ⟨t147, A170, H⟩ := H
        replace H : (if x4_1.size + t147.size ≤ 9223372036854775807 then (rf_WriteBills.l0 k1 l0 (x4_1 ++ t147) (wrap64 (x5_1 + 1))) else (none)) = some (r1, r2) := H
        have A17 := Aside0.mk A170
        clear A170
        by_cases c18 : x4_1.size + t147.size ≤ 9223372036854775807
        ·rw [if_pos c18] at H
         have c18b0 := eq_true c18
         have c18b1 : decide (x4_1.size + t147.size ≤ 9223372036854775807) = true := decide_eq_true c18
         try have c18b2 : (9223372036854775807 < x4_1.size + t147.size) = False := eq_false (Nat.not_lt.2 c18)
         have H' := Aside0.mk H
         clear H
         have p140 : 0 ≤ (x5_1 : Int) := of_decide_eq_true (by first | (with_reducible assumption) | assumption)
         have q140 : x5_1 < (l0.length : Int) := of_decide_eq_true (by first | (with_reducible assumption) | assumption)
         obtain ⟨ad140, A140_5, c140_5, e140, hx140_0, hx140_1, hx140_2, hx140_3, hx140_4, hx140_5, hl140_5, hi140_5⟩ := at_T26 HR0.out x5_1 p140 q140
         cases e140
         replace hx140_0 := (HB.out.cell (xbl w _ hx140_0)).trans hx140_0
         replace hx140_1 := (HB.out.cell (xbl w _ hx140_1)).trans hx140_1
         replace hx140_2 := (HB.out.cell (xbl w _ hx140_2)).trans hx140_2
         replace hx140_3 := (HB.out.cell (xbl w _ hx140_3)).trans hx140_3
         replace hx140_4 := (HB.out.cell (xbl w _ hx140_4)).trans hx140_4
         replace hx140_5 := (HB.out.cell (xbl w _ hx140_5)).trans hx140_5
         have HR140_5 := Aside0.mk hi140_5
         have HC140_5 := Aside0.mk hl140_5
         clear hi140_5 hl140_5
         replace p140 := eq_true p140
         replace q140 := eq_true q140
         go_wp2_with (first | (go_at_call 26; (with_reducible refine (rf_Bill.calls k1 ((rd_T26 l0 x5_1).f0) ((rd_T26 l0 x5_1).f1) ((rd_T26 l0 x5_1).f2) ((rd_T26 l0 x5_1).f3) ((rd_T26 l0 x5_1).f4) _ _ ((rd_T26 l0 x5_1).f5) true _ ?side1 ?side2 A5.out).mono ?_); (case side1 => repeat (first | exact (Kd.C_below HR140_5.out HB.out) | (with_reducible refine Kd.C_alloc ?_ _) | (with_reducible refine Kd.C_drewN ?_ _) | (with_reducible refine Kd.C_drew ?_))); (case side2 => exact HC140_5.out); rintro e w19 ⟨rfl, hb⟩; have n0_ := Aside0.mk (below_step (by repeat (first | (with_reducible first | exact HB.out | apply below_alloc | apply pw_below_drewN | apply below_drew1) | exact HB.out)) hb); clear HB; have HB := n0_; clear n0_; (try clear hb); (try clear hb2); (try clear hk); (try clear hi); have p146 : 0 ≤ (x5_1 : Int) := of_decide_eq_true (by first | (with_reducible assumption) | assumption); have q146 : x5_1 < (l0.length : Int) := of_decide_eq_true (by first | (with_reducible assumption) | assumption); obtain ⟨ad146, A146_5, c146_5, e146, hx146_0, hx146_1, hx146_2, hx146_3, hx146_4, hx146_5, hl146_5, hi146_5⟩ := at_T26 HR0.out x5_1 p146 q146; obtain rfl : ad140 = ad146 := (by injection e146); replace hx146_0 := (HB.out.cell (xbl w _ hx146_0)).trans hx146_0; replace hx146_1 := (HB.out.cell (xbl w _ hx146_1)).trans hx146_1; replace hx146_2 := (HB.out.cell (xbl w _ hx146_2)).trans hx146_2; replace hx146_3 := (HB.out.cell (xbl w _ hx146_3)).trans hx146_3; replace hx146_4 := (HB.out.cell (xbl w _ hx146_4)).trans hx146_4; replace hx146_5 := (HB.out.cell (xbl w _ hx146_5)).trans hx146_5; have HR146_5 := Aside0.mk hi146_5; have HC146_5 := Aside0.mk hl146_5; clear hi146_5 hl146_5; replace p146 := eq_true p146; replace q146 := eq_true q146) | (go_at_call 27; (with_reducible refine (rf_BillText.calls k1 ((rd_T26 l0 x5_1).f0) ((rd_T26 l0 x5_1).f1) ((rd_T26 l0 x5_1).f2) ((rd_T26 l0 x5_1).f3) ((rd_T26 l0 x5_1).f4) _ _ ((rd_T26 l0 x5_1).f5) t147 _ ?side1 ?side2 A17.out).mono ?_); (case side1 => repeat (first | exact (Kd.C_below HR146_5.out HB.out) | (with_reducible refine Kd.C_alloc ?_ _) | (with_reducible refine Kd.C_drewN ?_ _) | (with_reducible refine Kd.C_drew ?_))); (case side2 => exact HC146_5.out); rintro e w20 ⟨rfl, hb⟩; have n0_ := Aside0.mk (below_step (by repeat (first | (with_reducible first | exact HB.out | apply below_alloc | apply pw_below_drewN | apply below_drew1) | exact HB.out)) hb); clear HB; have HB := n0_; clear n0_; (try clear hb); (try clear hb2); (try clear hk); (try clear hi)))
         repeat (go_quiet (first | (go_at_call 26; (with_reducible refine (rf_Bill.calls k1 ((rd_T26 l0 x5_1).f0) ((rd_T26 l0 x5_1).f1) ((rd_T26 l0 x5_1).f2) ((rd_T26 l0 x5_1).f3) ((rd_T26 l0 x5_1).f4) _ _ ((rd_T26 l0 x5_1).f5) true _ ?side1 ?side2 A5.out).mono ?_); (case side1 => repeat (first | exact (Kd.C_below HR140_5.out HB.out) | (with_reducible refine Kd.C_alloc ?_ _) | (with_reducible refine Kd.C_drewN ?_ _) | (with_reducible refine Kd.C_drew ?_))); (case side2 => exact HC140_5.out); rintro e w19 ⟨rfl, hb⟩; have n0_ := Aside0.mk (below_step (by repeat (first | (with_reducible first | exact HB.out | apply below_alloc | apply pw_below_drewN | apply below_drew1) | exact HB.out)) hb); clear HB; have HB := n0_; clear n0_; (try clear hb); (try clear hb2); (try clear hk); (try clear hi); have p146 : 0 ≤ (x5_1 : Int) := of_decide_eq_true (by first | (with_reducible assumption) | assumption); have q146 : x5_1 < (l0.length : Int) := of_decide_eq_true (by first | (with_reducible assumption) | assumption); obtain ⟨ad146, A146_5, c146_5, e146, hx146_0, hx146_1, hx146_2, hx146_3, hx146_4, hx146_5, hl146_5, hi146_5⟩ := at_T26 HR0.out x5_1 p146 q146; obtain rfl : ad140 = ad146 := (by injection e146); replace hx146_0 := (HB.out.cell (xbl w _ hx146_0)).trans hx146_0; replace hx146_1 := (HB.out.cell (xbl w _ hx146_1)).trans hx146_1; replace hx146_2 := (HB.out.cell (xbl w _ hx146_2)).trans hx146_2; replace hx146_3 := (HB.out.cell (xbl w _ hx146_3)).trans hx146_3; replace hx146_4 := (HB.out.cell (xbl w _ hx146_4)).trans hx146_4; replace hx146_5 := (HB.out.cell (xbl w _ hx146_5)).trans hx146_5; have HR146_5 := Aside0.mk hi146_5; have HC146_5 := Aside0.mk hl146_5; clear hi146_5 hl146_5; replace p146 := eq_true p146; replace q146 := eq_true q146) | (go_at_call 27; (with_reducible refine (rf_BillText.calls k1 ((rd_T26 l0 x5_1).f0) ((rd_T26 l0 x5_1).f1) ((rd_T26 l0 x5_1).f2) ((rd_T26 l0 x5_1).f3) ((rd_T26 l0 x5_1).f4) _ _ ((rd_T26 l0 x5_1).f5) t147 _ ?side1 ?side2 A17.out).mono ?_); (case side1 => repeat (first | exact (Kd.C_below HR146_5.out HB.out) | (with_reducible refine Kd.C_alloc ?_ _) | (with_reducible refine Kd.C_drewN ?_ _) | (with_reducible refine Kd.C_drew ?_))); (case side2 => exact HC146_5.out); rintro e w20 ⟨rfl, hb⟩; have n0_ := Aside0.mk (below_step (by repeat (first | (with_reducible first | exact HB.out | apply below_alloc | apply pw_below_drewN | apply below_drew1) | exact HB.out)) hb); clear HB; have HB := n0_; clear n0_; (try clear hb); (try clear hb2); (try clear hk); (try clear hi))); try go_wp2_with (first | (go_at_call 26; (with_reducible refine (rf_Bill.calls k1 ((rd_T26 l0 x5_1).f0) ((rd_T26 l0 x5_1).f1) ((rd_T26 l0 x5_1).f2) ((rd_T26 l0 x5_1).f3) ((rd_T26 l0 x5_1).f4) _ _ ((rd_T26 l0 x5_1).f5) true _ ?side1 ?side2 A5.out).mono ?_); (case side1 => repeat (first | exact (Kd.C_below HR140_5.out HB.out) | (with_reducible refine Kd.C_alloc ?_ _) | (with_reducible refine Kd.C_drewN ?_ _) | (with_reducible refine Kd.C_drew ?_))); (case side2 => exact HC140_5.out); rintro e w19 ⟨rfl, hb⟩; have n0_ := Aside0.mk (below_step (by repeat (first | (with_reducible first | exact HB.out | apply below_alloc | apply pw_below_drewN | apply below_drew1) | exact HB.out)) hb); clear HB; have HB := n0_; clear n0_; (try clear hb); (try clear hb2); (try clear hk); (try clear hi); have p146 : 0 ≤ (x5_1 : Int) := of_decide_eq_true (by first | (with_reducible assumption) | assumption); have q146 : x5_1 < (l0.length : Int) := of_decide_eq_true (by first | (with_reducible assumption) | assumption); obtain ⟨ad146, A146_5, c146_5, e146, hx146_0, hx146_1, hx146_2, hx146_3, hx146_4, hx146_5, hl146_5, hi146_5⟩ := at_T26 HR0.out x5_1 p146 q146; obtain rfl : ad140 = ad146 := (by injection e146); replace hx146_0 := (HB.out.cell (xbl w _ hx146_0)).trans hx146_0; replace hx146_1 := (HB.out.cell (xbl w _ hx146_1)).trans hx146_1; replace hx146_2 := (HB.out.cell (xbl w _ hx146_2)).trans hx146_2; replace hx146_3 := (HB.out.cell (xbl w _ hx146_3)).trans hx146_3; replace hx146_4 := (HB.out.cell (xbl w _ hx146_4)).trans hx146_4; replace hx146_5 := (HB.out.cell (xbl w _ hx146_5)).trans hx146_5; have HR146_5 := Aside0.mk hi146_5; have HC146_5 := Aside0.mk hl146_5; clear hi146_5 hl146_5; replace p146 := eq_true p146; replace q146 := eq_true q146) | (go_at_call 27; (with_reducible refine (rf_BillText.calls k1 ((rd_T26 l0 x5_1).f0) ((rd_T26 l0 x5_1).f1) ((rd_T26 l0 x5_1).f2) ((rd_T26 l0 x5_1).f3) ((rd_T26 l0 x5_1).f4) _ _ ((rd_T26 l0 x5_1).f5) t147 _ ?side1 ?side2 A17.out).mono ?_); (case side1 => repeat (first | exact (Kd.C_below HR146_5.out HB.out) | (with_reducible refine Kd.C_alloc ?_ _) | (with_reducible refine Kd.C_drewN ?_ _) | (with_reducible refine Kd.C_drew ?_))); (case side2 => exact HC146_5.out); rintro e w20 ⟨rfl, hb⟩; have n0_ := Aside0.mk (below_step (by repeat (first | (with_reducible first | exact HB.out | apply below_alloc | apply pw_below_drewN | apply below_drew1) | exact HB.out)) hb); clear HB; have HB := n0_; clear n0_; (try clear hb); (try clear hb2); (try clear hk); (try clear hi))))
         go_roundg k1
         case measure => have := HK1.out; omega
         case rel => exact ⟨(x4_1 ++ t147), (wrap64 (x5_1 + 1)), (by first | rfl | (simp; done) | (simp [*]; done)), (by first | rfl | (simp; done) | (simp [*]; done)), H', ⟨by have := HK1.out; omega⟩, ⟨by repeat (first | (with_reducible first | exact HB.out | apply below_alloc | apply pw_below_drewN | apply below_drew1) | exact HB.out)⟩⟩
        ·rw [if_neg c18] at H
         exact absurd H (by simp)
      ·replace c6 := Bool.eq_false_iff.mpr c6
       subst c6
       have H1 : (some ((⟨#[]⟩ : ByteArray), 2)) = some (r1, r2) := by rw [if_neg (show ¬ (false = true) by decide)] at H; exact H
       clear H
       have H := H1
       clear H1
       simp only [Option.some.injEq, Prod.mk.injEq] at H
       obtain ⟨rfl, rfl⟩ := H
       have p140 : 0 ≤ (x5_1 : Int) := of_decide_eq_true (by first | (with_reducible assumption) | assumption)
       have q140 : x5_1 < (l0.length : Int) := of_decide_eq_true (by first | (with_reducible assumption) | assumption)
       obtain ⟨ad140, A140_5, c140_5, e140, hx140_0, hx140_1, hx140_2, hx140_3, hx140_4, hx140_5, hl140_5, hi140_5⟩ := at_T26 HR0.out x5_1 p140 q140
       cases e140
       replace hx140_0 := (HB.out.cell (xbl w _ hx140_0)).trans hx140_0
       replace hx140_1 := (HB.out.cell (xbl w _ hx140_1)).trans hx140_1
       replace hx140_2 := (HB.out.cell (xbl w _ hx140_2)).trans hx140_2
       replace hx140_3 := (HB.out.cell (xbl w _ hx140_3)).trans hx140_3
       replace hx140_4 := (HB.out.cell (xbl w _ hx140_4)).trans hx140_4
       replace hx140_5 := (HB.out.cell (xbl w _ hx140_5)).trans hx140_5
       have HR140_5 := Aside0.mk hi140_5
       have HC140_5 := Aside0.mk hl140_5
       clear hi140_5 hl140_5
       replace p140 := eq_true p140
       replace q140 := eq_true q140
       go_wp2_with (first | (go_at_call 26; (with_reducible refine (rf_Bill.calls k1 ((rd_T26 l0 x5_1).f0) ((rd_T26 l0 x5_1).f1) ((rd_T26 l0 x5_1).f2) ((rd_T26 l0 x5_1).f3) ((rd_T26 l0 x5_1).f4) _ _ ((rd_T26 l0 x5_1).f5) false _ ?side1 ?side2 A5.out).mono ?_); (case side1 => repeat (first | exact (Kd.C_below HR140_5.out HB.out) | (with_reducible refine Kd.C_alloc ?_ _) | (with_reducible refine Kd.C_drewN ?_ _) | (with_reducible refine Kd.C_drew ?_))); (case side2 => exact HC140_5.out); rintro e w21 ⟨rfl, hb⟩; have n0_ := Aside0.mk (below_step (by repeat (first | (with_reducible first | exact HB.out | apply below_alloc | apply pw_below_drewN | apply below_drew1) | exact HB.out)) hb); clear HB; have HB := n0_; clear n0_; (try clear hb); (try clear hb2); (try clear hk); (try clear hi)))
       repeat (go_quiet (first | (go_at_call 26; (with_reducible refine (rf_Bill.calls k1 ((rd_T26 l0 x5_1).f0) ((rd_T26 l0 x5_1).f1) ((rd_T26 l0 x5_1).f2) ((rd_T26 l0 x5_1).f3) ((rd_T26 l0 x5_1).f4) _ _ ((rd_T26 l0 x5_1).f5) false _ ?side1 ?side2 A5.out).mono ?_); (case side1 => repeat (first | exact (Kd.C_below HR140_5.out HB.out) | (with_reducible refine Kd.C_alloc ?_ _) | (with_reducible refine Kd.C_drewN ?_ _) | (with_reducible refine Kd.C_drew ?_))); (case side2 => exact HC140_5.out); rintro e w21 ⟨rfl, hb⟩; have n0_ := Aside0.mk (below_step (by repeat (first | (with_reducible first | exact HB.out | apply below_alloc | apply pw_below_drewN | apply below_drew1) | exact HB.out)) hb); clear HB; have HB := n0_; clear n0_; (try clear hb); (try clear hb2); (try clear hk); (try clear hi))); try go_wp2_with (first | (go_at_call 26; (with_reducible refine (rf_Bill.calls k1 ((rd_T26 l0 x5_1).f0) ((rd_T26 l0 x5_1).f1) ((rd_T26 l0 x5_1).f2) ((rd_T26 l0 x5_1).f3) ((rd_T26 l0 x5_1).f4) _ _ ((rd_T26 l0 x5_1).f5) false _ ?side1 ?side2 A5.out).mono ?_); (case side1 => repeat (first | exact (Kd.C_below HR140_5.out HB.out) | (with_reducible refine Kd.C_alloc ?_ _) | (with_reducible refine Kd.C_drewN ?_ _) | (with_reducible refine Kd.C_drew ?_))); (case side2 => exact HC140_5.out); rintro e w21 ⟨rfl, hb⟩; have n0_ := Aside0.mk (below_step (by repeat (first | (with_reducible first | exact HB.out | apply below_alloc | apply pw_below_drewN | apply below_drew1) | exact HB.out)) hb); clear HB; have HB := n0_; clear n0_; (try clear hb); (try clear hb2); (try clear hk); (try clear hi))))
       go_ret2
       exact ⟨by first | rfl | (simp [errW_none, errW_some] <;> rfl) | (simp [*, errW_none, errW_some] <;> rfl), by repeat (first | (with_reducible first | exact HB.out | apply below_alloc | apply pw_below_drewN | apply below_drew1) | exact HB.out)⟩
     ·rw [if_neg c4] at H
      exact absurd H (by simp)
    ·rw [if_neg c3] at H
     have c3b0 : decide (x5_1 < (l0.length : Int)) = false := decide_eq_false c3
     clear c3
     simp only [Option.some.injEq, Prod.mk.injEq] at H
     obtain ⟨rfl, rfl⟩ := H
     go_wp2
     repeat (go_quiet (fail); try go_wp2)
     go_ret2
     exact ⟨by first | rfl | (simp [errW_none, errW_some] <;> rfl) | (simp [*, errW_none, errW_some] <;> rfl), by repeat (first | (with_reducible first | exact HB.out | apply below_alloc | apply pw_below_drewN | apply below_drew1) | exact HB.out)⟩
def rf_Checked.j0 : Nat → ByteArray → Bool → Option (Int)
 | 0, _, _ => none
 | k + 1, x0, x14 => if x14 = true then (some 4) else (if 0 ≤ (wrap64 ((x0.size : Int) - 3)) then (if (wrap64 ((x0.size : Int) - 3)) ≤ (x0.size : Int) then ((rf_Line.f (x0.extract 0 ((wrap64 ((x0.size : Int) - 3)) : Int).toNat)).bind fun t155 => (if x0.size + 1 ≤ 9223372036854775807 then (if t155.toList = (x0 ++ (⟨#[10]⟩ : ByteArray)).toList then (some 0) else (some 121)) else (none))) else (none)) else (none))
def rf_Checked.f (k : Nat) (a0 : ByteArray) : Option (Int) := (rf_In.f (a0.size : Int) 3 600).bind fun t154 => (if t154 = true then (if 0 ≤ (wrap64 ((a0.size : Int) - 3)) then (if (wrap64 ((a0.size : Int) - 3)) < (a0.size : Int) then (rf_Checked.j0 k a0 ((bt a0 (wrap64 ((a0.size : Int) - 3))) != 32)) else (none)) else (none)) else (rf_Checked.j0 k a0 true))
set_option maxHeartbeats 8000000 in
set_option maxRecDepth 100000 in
theorem rf_Checked.calls (k : Nat) (a0 : ByteArray) (r : Int) (w : World) (h : rf_Checked.f k a0 = some r) :
  Calls Tryz.prog 29 #[.string a0] w fun e w' => e = .returned (.int .i64 r) ∧ Below w.heap.size w w' := by
 have HB := Aside0.mk (Below.refl w.heap.size w)
 have H : ((rf_In.f (a0.size : Int) 3 600).bind fun t154 => (if t154 = true then (if 0 ≤ (wrap64 ((a0.size : Int) - 3)) then (if (wrap64 ((a0.size : Int) - 3)) < (a0.size : Int) then (rf_Checked.j0 k a0 ((bt a0 (wrap64 ((a0.size : Int) - 3))) != 32)) else (none)) else (none)) else (rf_Checked.j0 k a0 true))) = some r := h
 clear h
 have HC2 := Aside0.mk H
 clear H
 go_enter Tryz.func29, Tryz.ntmps29
 go_upto_region 1 with (fail)
 go_cut [14] (fun v14 wc => ∃ (kq : Nat) (x14_1 : Bool), v14 = .bool x14_1 ∧ Aside0 (rf_Checked.j0 kq a0 x14_1 = some r) ∧ Aside0 (kq ≤ k) ∧ Aside0 (Below w.heap.size w wc))
 case first =>
  have H := HC2.out
  clear HC2
  replace H := Option.bind_eq_some_iff.mp H
  obtain ⟨t154, A30, H⟩ := H
  replace H : (if t154 = true then (if 0 ≤ (wrap64 ((a0.size : Int) - 3)) then (if (wrap64 ((a0.size : Int) - 3)) < (a0.size : Int) then (rf_Checked.j0 k a0 ((bt a0 (wrap64 ((a0.size : Int) - 3))) != 32)) else (none)) else (none)) else (rf_Checked.j0 k a0 true)) = some r := H
  have A3 := Aside0.mk A30
  clear A30
  by_cases c4 : t154 = true
  ·subst c4
   have H1 : (if 0 ≤ (wrap64 ((a0.size : Int) - 3)) then (if (wrap64 ((a0.size : Int) - 3)) < (a0.size : Int) then (rf_Checked.j0 k a0 ((bt a0 (wrap64 ((a0.size : Int) - 3))) != 32)) else (none)) else (none)) = some r := by rw [if_pos rfl] at H; exact H
   clear H
   have H := H1
   clear H1
   obtain ⟨ji5, hji5⟩ : ∃ j_ : Int, (wrap64 ((a0.size : Int) - 3)) = j_ := ⟨_, rfl⟩
   replace H : (if 0 ≤ (ji5) then (if (ji5) < (a0.size : Int) then (rf_Checked.j0 k a0 ((bt a0 (ji5)) != 32)) else (none)) else (none)) = some r := by first | (rw [hji5] at H; exact H) | (simp only [hji5] at H ⊢; exact H)
   (try rw [hji5] at A3)
   have hji5w : (IntKind.i64.wrap ((a0.size : Int) - 3)) = ji5 := (i64_w _).trans hji5
   by_cases c6 : 0 ≤ (ji5)
   ·rw [if_pos c6] at H
    have c6b0 : decide (0 ≤ (ji5)) = true := decide_eq_true c6
    clear c6
    (first | rw [c6b0] | (simp only [i64_w, i32_w]; rw [c6b0]) | skip)
    by_cases c7 : (ji5) < (a0.size : Int)
    ·rw [if_pos c7] at H
     have c7b0 : decide ((ji5) < (a0.size : Int)) = true := decide_eq_true c7
     clear c7
     have H' := Aside0.mk H
     clear H
     go_wp2_with (first | ((with_reducible refine gate_callee (f := 60) rfl ?_); refine goesL_ (some 5) rfl rfl Tryz.func60 (by kernel_rfl) rfl #[.int .i64 (a0.size : Int), .int .i64 3, .int .i64 600] rfl (by (try simp only [List.map_toArray, List.map_cons, List.map_nil]); first | done | rfl | (simp only [List.length_drop, List.length_take]; rfl)) ?_; (with_reducible refine (rf_In.calls (a0.size : Int) 3 600 true _ A3.out).mono ?_); rintro e w' ⟨rfl, ⟨nd, rfl⟩⟩; refine ⟨_, rfl, ?_⟩; have p8 : 0 ≤ ((ji5) : Int) := of_decide_eq_true (by first | (with_reducible assumption) | assumption); have q8 : (ji5) < (a0.size : Int) := of_decide_eq_true (by first | (with_reducible assumption) | assumption); have hx8 := bt_at a0 (ji5); replace p8 := eq_true p8; replace q8 := eq_true q8))
     go_meet
     case rel => exact ⟨_, (((bt a0 (ji5)) != 32)), (by first | rfl | (simp; done) | (simp only [← hji5] <;> (first | rfl | simp)) | (simp [*]; done)), H', ⟨by first | omega | exact Nat.le_refl _⟩, ⟨by repeat (first | (with_reducible first | exact HB.out | apply below_alloc | apply pw_below_drewN | apply below_drew1) | exact HB.out)⟩⟩
    ·rw [if_neg c7] at H
     exact absurd H (by simp)
   ·rw [if_neg c6] at H
    exact absurd H (by simp)
  ·replace c4 := Bool.eq_false_iff.mpr c4
   subst c4
   have H1 : (rf_Checked.j0 k a0 true) = some r := by rw [if_neg (show ¬ (false = true) by decide)] at H; exact H
   clear H
   have H := H1
   clear H1
   have H' := Aside0.mk H
   clear H
   go_wp2_with (first | ((with_reducible refine gate_callee (f := 60) rfl ?_); refine goesL_ (some 5) rfl rfl Tryz.func60 (by kernel_rfl) rfl #[.int .i64 (a0.size : Int), .int .i64 3, .int .i64 600] rfl (by (try simp only [List.map_toArray, List.map_cons, List.map_nil]); first | done | rfl | (simp only [List.length_drop, List.length_take]; rfl)) ?_; (with_reducible refine (rf_In.calls (a0.size : Int) 3 600 false _ A3.out).mono ?_); rintro e w' ⟨rfl, ⟨nd, rfl⟩⟩; refine ⟨_, rfl, ?_⟩))
   go_meet
   case rel => exact ⟨_, (true), (by first | rfl | (simp; done) | (simp [*]; done)), H', ⟨by first | omega | exact Nat.le_refl _⟩, ⟨by repeat (first | (with_reducible first | exact HB.out | apply below_alloc | apply pw_below_drewN | apply below_drew1) | exact HB.out)⟩⟩
 case rest =>
  clear HC2
  try clear c2
  try clear p2
  try clear c4
  try clear c6
  try clear c6b0
  try clear p6
  try clear c7
  try clear c7b0
  try clear p8
  try clear q8
  try clear hx8
  try clear p8
  try clear q8
  obtain ⟨kq, x14_1, rfl, HA, HJ1, HB⟩ := hcut
  cases kq with
  | zero => exact absurd HA.out (by simp [rf_Checked.j0])
  | succ kj1 =>
   have H := HA.out
   clear HA
   simp only [rf_Checked.j0] at H
   by_cases c9 : x14_1 = true
   ·subst c9
    have H1 : (some 4) = some r := by rw [if_pos rfl] at H; exact H
    clear H
    have H := H1
    clear H1
    obtain rfl := Option.some.inj H
    go_wp2
    go_ret
    exact ⟨by first | rfl | (simp [errW_none, errW_some] <;> rfl) | (simp [*, errW_none, errW_some] <;> rfl), by repeat (first | (with_reducible first | exact HB.out | apply below_alloc | apply pw_below_drewN | apply below_drew1) | exact HB.out)⟩
   ·replace c9 := Bool.eq_false_iff.mpr c9
    subst c9
    have H1 : (if 0 ≤ (wrap64 ((a0.size : Int) - 3)) then (if (wrap64 ((a0.size : Int) - 3)) ≤ (a0.size : Int) then ((rf_Line.f (a0.extract 0 ((wrap64 ((a0.size : Int) - 3)) : Int).toNat)).bind fun t155 => (if a0.size + 1 ≤ 9223372036854775807 then (if t155.toList = (a0 ++ (⟨#[10]⟩ : ByteArray)).toList then (some 0) else (some 121)) else (none))) else (none)) else (none)) = some r := by rw [if_neg (show ¬ (false = true) by decide)] at H; exact H
    clear H
    have H := H1
    clear H1
    obtain ⟨ji10, hji10⟩ : ∃ j_ : Int, (wrap64 ((a0.size : Int) - 3)) = j_ := ⟨_, rfl⟩
    replace H : (if 0 ≤ (ji10) then (if (ji10) ≤ (a0.size : Int) then ((rf_Line.f (a0.extract 0 ((ji10) : Int).toNat)).bind fun t155 => (if a0.size + 1 ≤ 9223372036854775807 then (if t155.toList = (a0 ++ (⟨#[10]⟩ : ByteArray)).toList then (some 0) else (some 121)) else (none))) else (none)) else (none)) = some r := by first | (rw [hji10] at H; exact H) | (simp only [hji10] at H ⊢; exact H)
    have hji10w : (IntKind.i64.wrap ((a0.size : Int) - 3)) = ji10 := (i64_w _).trans hji10
    by_cases c11 : 0 ≤ (ji10)
    ·rw [if_pos c11] at H
     have c11b0 := eq_true c11
     have c11b1 : decide (0 ≤ (ji10)) = true := decide_eq_true c11
     clear c11
     by_cases c12 : (ji10) ≤ (a0.size : Int)
     ·rw [if_pos c12] at H
      have c12b0 := eq_true c12
      have c12b1 : decide ((ji10) ≤ (a0.size : Int)) = true := decide_eq_true c12
      clear c12
      replace H := Option.bind_eq_some_iff.mp H
      obtain ⟨t155, A130, H⟩ := H
      replace H : (if a0.size + 1 ≤ 9223372036854775807 then (if t155.toList = (a0 ++ (⟨#[10]⟩ : ByteArray)).toList then (some 0) else (some 121)) else (none)) = some r := H
      have A13 := Aside0.mk A130
      clear A130
      by_cases c14 : a0.size + 1 ≤ 9223372036854775807
      ·rw [if_pos c14] at H
       have c14b0 := eq_true c14
       have c14b1 : decide (a0.size + 1 ≤ 9223372036854775807) = true := decide_eq_true c14
       try have c14b2 : (9223372036854775807 < a0.size + 1) = False := eq_false (Nat.not_lt.2 c14)
       by_cases c15 : t155.toList = (a0 ++ (⟨#[10]⟩ : ByteArray)).toList
       ·rw [if_pos c15] at H
        have c15b0 : (t155.toList == (a0 ++ (⟨#[10]⟩ : ByteArray)).toList) = true := beq_iff_eq.mpr c15
        have c15b1 : (t155.toList != (a0 ++ (⟨#[10]⟩ : ByteArray)).toList) = false := bne_eq_false_iff_eq.mpr c15
        clear c15
        obtain rfl := Option.some.inj H
        go_wp2_with (first | ((with_reducible refine gate_callee (f := 62) rfl ?_); refine goesL_ (some 20) rfl rfl Tryz.func62 (by kernel_rfl) rfl #[.string (a0.extract 0 ((ji10) : Int).toNat)] rfl (by (try simp only [List.map_toArray, List.map_cons, List.map_nil]); first | done | (simp only [hji10]; rfl) | rfl | (simp only [List.length_drop, List.length_take]; rfl)) ?_; (with_reducible refine (rf_Line.calls (a0.extract 0 ((ji10) : Int).toNat) t155 _ A13.out).mono ?_); rintro e w16 ⟨rfl, hb⟩; refine ⟨_, rfl, ?_⟩; have n0_ := Aside0.mk (below_step (by repeat (first | (with_reducible first | exact HB.out | apply below_alloc | apply pw_below_drewN | apply below_drew1) | exact HB.out)) hb); clear HB; have HB := n0_; clear n0_; (try clear hb); (try clear hb2); (try clear hk); (try clear hi)))
        go_ret
        exact ⟨by first | rfl | (simp [errW_none, errW_some] <;> rfl) | (simp only [← hji10]; first | rfl | (simp [errW_none, errW_some] <;> rfl)) | (simp [*, errW_none, errW_some] <;> rfl), by repeat (first | (with_reducible first | exact HB.out | apply below_alloc | apply pw_below_drewN | apply below_drew1) | exact HB.out)⟩
       ·rw [if_neg c15] at H
        have c15b0 : (t155.toList == (a0 ++ (⟨#[10]⟩ : ByteArray)).toList) = false := beq_eq_false_iff_ne.mpr c15
        have c15b1 : (t155.toList != (a0 ++ (⟨#[10]⟩ : ByteArray)).toList) = true := bne_iff_ne.mpr c15
        obtain rfl := Option.some.inj H
        go_wp2_with (first | ((with_reducible refine gate_callee (f := 62) rfl ?_); refine goesL_ (some 20) rfl rfl Tryz.func62 (by kernel_rfl) rfl #[.string (a0.extract 0 ((ji10) : Int).toNat)] rfl (by (try simp only [List.map_toArray, List.map_cons, List.map_nil]); first | done | (simp only [hji10]; rfl) | rfl | (simp only [List.length_drop, List.length_take]; rfl)) ?_; (with_reducible refine (rf_Line.calls (a0.extract 0 ((ji10) : Int).toNat) t155 _ A13.out).mono ?_); rintro e w17 ⟨rfl, hb⟩; refine ⟨_, rfl, ?_⟩; have n0_ := Aside0.mk (below_step (by repeat (first | (with_reducible first | exact HB.out | apply below_alloc | apply pw_below_drewN | apply below_drew1) | exact HB.out)) hb); clear HB; have HB := n0_; clear n0_; (try clear hb); (try clear hb2); (try clear hk); (try clear hi)))
        go_ret
        exact ⟨by first | rfl | (simp [errW_none, errW_some] <;> rfl) | (simp only [← hji10]; first | rfl | (simp [errW_none, errW_some] <;> rfl)) | (simp [*, errW_none, errW_some] <;> rfl), by repeat (first | (with_reducible first | exact HB.out | apply below_alloc | apply pw_below_drewN | apply below_drew1) | exact HB.out)⟩
      ·rw [if_neg c14] at H
       exact absurd H (by simp)
     ·rw [if_neg c12] at H
      exact absurd H (by simp)
    ·rw [if_neg c11] at H
     exact absurd H (by simp)
mutual
def rf_ReadBills.l0 : Nat → List ByteArray → List (S26) → Int → Option ((List (S26)) × Int × Int)
 | 0, _, _, _ => none
 | k + 1, x5, x7, x8 => if x8 < (x5.length : Int) then (if 0 ≤ x8 then ((rf_Checked.f k (rdOf ByteArray.empty x5 x8)).bind fun t173 => (if t173 = 0 then ((rf_Words.f k (rdOf ByteArray.empty x5 x8)).bind fun t175 => (if (t175.length : Int) = 6 then (if 0 < (t175.length : Int) then ((rf_Digits.f k (rdOf ByteArray.empty t175 0)).bind fun bt180 => (if 1 < (t175.length : Int) then ((rf_Digits.f k (rdOf ByteArray.empty t175 1)).bind fun bt183 => (if 2 < (t175.length : Int) then ((rf_Digits.f k (rdOf ByteArray.empty t175 2)).bind fun bt186 => (if 3 < (t175.length : Int) then ((rf_Digits.f k (rdOf ByteArray.empty t175 3)).bind fun bt189 => (if 0 ≤ (mn (wrap64 (bt189.2 + 1)) ((rdOf ByteArray.empty t175 3).size : Int)) then (if (mn (wrap64 (bt189.2 + 1)) ((rdOf ByteArray.empty t175 3).size : Int)) ≤ ((rdOf ByteArray.empty t175 3).size : Int) then ((rf_Digits.f k ((rdOf ByteArray.empty t175 3).extract ((mn (wrap64 (bt189.2 + 1)) ((rdOf ByteArray.empty t175 3).size : Int)) : Int).toNat (rdOf ByteArray.empty t175 3).size)).bind fun bt193 => (rf_ReadBills.l1 k x5 x7 x8 t175 0 bt180.1 bt183.1 bt186.1 bt189.1 bt193.1 ([] : List Int))) else (none)) else (none))) else (none))) else (none))) else (none))) else (none)) else (rf_ReadBills.j2 k x5 x7 x8 0 0 0 0 0 ([] : List Int)))) else (some (([] : List (S26)), x8, t173)))) else (none)) else (some (x7, 0, 0))
def rf_ReadBills.j2 : Nat → List ByteArray → List (S26) → Int → Int → Int → Int → Int → Int → List Int → Option ((List (S26)) × Int × Int)
 | 0, _, _, _, _, _, _, _, _, _ => none
 | k + 1, x5, x7, x8, x179000, x179001, x179002, x179003, x179004, x179005 => (rf_Bill.f k x179000 x179001 x179002 x179003 x179004 x179005).bind fun t202 => (if t202 = true then ((rf_BillText.f k x179000 x179001 x179002 x179003 x179004 x179005).bind fun t203 => (if 0 ≤ x8 then (if x8 < (x5.length : Int) then (if (rdOf ByteArray.empty x5 x8).size + 1 ≤ 9223372036854775807 then (rf_ReadBills.j3 k x5 x7 x8 (t203.toList != ((rdOf ByteArray.empty x5 x8) ++ (⟨#[10]⟩ : ByteArray)).toList) x179000 x179001 x179002 x179003 x179004 x179005) else (none)) else (none)) else (none))) else (rf_ReadBills.j3 k x5 x7 x8 true x179000 x179001 x179002 x179003 x179004 x179005))
def rf_ReadBills.j3 : Nat → List ByteArray → List (S26) → Int → Bool → Int → Int → Int → Int → Int → List Int → Option ((List (S26)) × Int × Int)
 | 0, _, _, _, _, _, _, _, _, _, _ => none
 | k + 1, x5, x7, x8, x139, x179000, x179001, x179002, x179003, x179004, x179005 => if x139 = true then (some (([] : List (S26)), x8, 4)) else (if x8 > 0 then (if 0 ≤ (wrap64 (x8 - 1)) then (if (wrap64 (x8 - 1)) < (x7.length : Int) then (if x179000 ≤ ((rd_T26 x7 (wrap64 (x8 - 1))).f0) then (some (([] : List (S26)), x8, 6)) else (if x7.length < 2199023255552 then (rf_ReadBills.l0 k x5 (x7 ++ [(⟨x179000, x179001, x179002, x179003, x179004, x179005⟩ : S26)]) (wrap64 (x8 + 1))) else (none))) else (none)) else (none)) else (if x7.length < 2199023255552 then (rf_ReadBills.l0 k x5 (x7 ++ [(⟨x179000, x179001, x179002, x179003, x179004, x179005⟩ : S26)]) (wrap64 (x8 + 1))) else (none)))
def rf_ReadBills.l1 : Nat → List ByteArray → List (S26) → Int → List ByteArray → Int → Int → Int → Int → Int → Int → List Int → Option ((List (S26)) × Int × Int)
 | 0, _, _, _, _, _, _, _, _, _, _, _ => none
 | k + 1, x5, x7, x8, x10, x14, x179000, x179001, x179002, x179003, x179004, x179005 => if 4 < (x10.length : Int) then (if x14 < ((rdOf ByteArray.empty x10 4).size : Int) then (if 0 ≤ x14 then (if x14 ≤ ((rdOf ByteArray.empty x10 4).size : Int) then ((rf_Digits.f k ((rdOf ByteArray.empty x10 4).extract (x14 : Int).toNat (rdOf ByteArray.empty x10 4).size)).bind fun bt197 => (if bt197.2 > 0 then (if x179005.length < 17592186044416 then (rf_ReadBills.l1 k x5 x7 x8 x10 (wrap64 ((wrap64 (x14 + bt197.2)) + 1)) x179000 x179001 x179002 x179003 x179004 (x179005 ++ [bt197.1])) else (none)) else (rf_ReadBills.l1 k x5 x7 x8 x10 (wrap64 ((wrap64 (x14 + bt197.2)) + 1)) x179000 x179001 x179002 x179003 x179004 x179005))) else (none)) else (none)) else (rf_ReadBills.j2 k x5 x7 x8 x179000 x179001 x179002 x179003 x179004 x179005)) else (none)
end
def rf_ReadBills.f (k : Nat) (a0 : ByteArray) : Option ((List (S26)) × Int × Int) := (rf_Lines.f k a0).bind fun bt165 => (if bt165.2 = 0 then (rf_ReadBills.l0 k bt165.1 (([] : List (S26))) 0) else (some (([] : List (S26)), 0, bt165.2)))
def rf_ReadBills.T19 : Bool × List (List Nat × List Nat) := (true, [([], []), ([0], [0]), ([1], [1]), ([], []), ([3], [3]), ([], []), ([5], [5]), ([6], [6]), ([7], [7]), ([4, 8], [4, 8]), ([2, 9], [2, 9]), ([10], [10]), ([11], [11]), ([12], [12]), ([12], [12]), ([0, 1, 2, 3, 4, 5, 6, 7, 8, 9, 10, 11, 12, 13], []), ([15, 13, 11, 0, 1, 2, 3, 4, 5, 6, 7, 8, 9, 10, 11, 12, 13], [13, 15])])
def rf_ReadBills.B19 : List Nat := [0, 1, 3, 0, 8, 0, 32, 96, 224, 504, 1023, 2047, 4095, 8191, 8191, 16383, 49151]
theorem rf_ReadBills.tab19 : rtab .any (opsOf Tryz.f10 19) = rf_ReadBills.T19 := by kernel_rfl
theorem rf_ReadBills.bits19 : waitsOk rf_ReadBills.T19.2 rf_ReadBills.B19 = true := by kernel_rfl
def rf_ReadBills.T27 : Bool × List (List Nat × List Nat) := (true, [([], []), ([0], [0]), ([1], [1]), ([2, 1], [2]), ([3], [3]), ([4, 3, 3], [3, 4]), ([3], [3]), ([3], [3]), ([6, 7, 3], [3, 6, 7]), ([8, 3], [3, 8]), ([9, 3], [3, 9]), ([5, 10, 3], [3, 5, 10]), ([3, 11], [3, 11])])
def rf_ReadBills.B27 : List Nat := [0, 1, 3, 7, 15, 31, 15, 15, 207, 463, 975, 2047, 4095]
theorem rf_ReadBills.tab27 : rtab .any (opsOf Tryz.f10 27) = rf_ReadBills.T27 := by kernel_rfl
theorem rf_ReadBills.bits27 : waitsOk rf_ReadBills.T27.2 rf_ReadBills.B27 = true := by kernel_rfl
def rf_ReadBills.T29 : Bool × List (List Nat × List Nat) := (true, [([], []), ([0], [0]), ([1], [1]), ([2], [2]), ([3, 2], [2, 3]), ([2], [2]), ([2], [2]), ([6, 2], [2, 6]), ([5, 7, 2], [2, 5, 7]), ([8, 2], [2, 8]), ([9, 2], [2, 9]), ([4, 10, 2], [2, 4, 10]), ([2, 11], [2, 11])])
def rf_ReadBills.B29 : List Nat := [0, 1, 3, 7, 15, 7, 7, 71, 231, 487, 999, 2047, 4095]
theorem rf_ReadBills.tab29 : rtab .any (opsOf Tryz.f10 29) = rf_ReadBills.T29 := by kernel_rfl
theorem rf_ReadBills.bits29 : waitsOk rf_ReadBills.T29.2 rf_ReadBills.B29 = true := by kernel_rfl
end Go.Proofs.YtdomcbebbhbdlaaGreatDoor.PLogsBills
