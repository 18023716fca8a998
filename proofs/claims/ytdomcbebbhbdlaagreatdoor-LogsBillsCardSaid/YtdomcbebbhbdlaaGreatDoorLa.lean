/- Functions of the law, of the program and of the document's answer: contracts. Conditions: those that each states. -/
import Derived.Test.YtdomcbebbhbdlaaGreatDoorAx
import Derived.Lib.ItoaNum
import Derived.Deep.RegionWith
import Derived.Lib.AtoiErrMem
import Derived.Test.YtdomcbebbhbdlaaGreatDoorSh
import Derived.Deep.RegionHeld3
import Derived.Test.YtdomcbebbhbdlaaGreatDoorVb
import Derived.Lib.Builder
import Derived.Lib.AppendStr
import Derived.Lib.UnsafeStr
import Derived.Laws.Externs
set_option linter.unusedSimpArgs false
set_option linter.unusedVariables false
namespace Go.Proofs.YtdomcbebbhbdlaaGreatDoor.PLogsBills
open Go.RowKit Go.Proofs.YtdomcbebbhbdlaaGreatDoorW.PrintWords Go.Proofs.YtdomcbebbhbdlaaGreatDoorW.PrintLast Go.Proofs.YtdomcbebbhbdlaaGreatDoorW.PrintMore
attribute [local go_sem] max2_int min2_int max_two min_two max_three min_three max_four min_four
def logs_billAfter.f (a0_0 : Int) (a0_1 : Int) (a0_2 : Int) (a0_3 : Int) (a0_4 : Int) (l0_5 : List Int) (a1_0 : Int) (a1_1 : Int) (a1_2 : Int) (a1_3 : Int) (a1_4 : Int) (l1_5 : List Int) : Option (Bool) := some (decide (a1_0 > a0_0))
set_option maxHeartbeats 8000000 in
set_option maxRecDepth 100000 in
theorem logs_billAfter.calls (a0_0 : Int) (a0_1 : Int) (a0_2 : Int) (a0_3 : Int) (a0_4 : Int) (A0_5 : Option Addr) (c0_5 : Nat) (l0_5 : List Int) (a1_0 : Int) (a1_1 : Int) (a1_2 : Int) (a1_3 : Int) (a1_4 : Int) (A1_5 : Option Addr) (c1_5 : Nat) (l1_5 : List Int) (r : Bool) (w : World) (hr0_5 : Kd.C (Kd.int .i64) w A0_5 l0_5.length l0_5) (hc0_5 : l0_5.length ≤ c0_5) (hr1_5 : Kd.C (Kd.int .i64) w A1_5 l1_5.length l1_5) (hc1_5 : l1_5.length ≤ c1_5) (h : logs_billAfter.f a0_0 a0_1 a0_2 a0_3 a0_4 l0_5 a1_0 a1_1 a1_2 a1_3 a1_4 l1_5 = some r) :
  Calls Tryz.prog 47 #[.agg #[.int .i64 a0_0, .int .i64 a0_1, .int .i64 a0_2, .int .i64 a0_3, .int .i64 a0_4, .slice A0_5 l0_5.length c0_5], .agg #[.int .i64 a1_0, .int .i64 a1_1, .int .i64 a1_2, .int .i64 a1_3, .int .i64 a1_4, .slice A1_5 l1_5.length c1_5]] w fun e w' => e = .returned (.bool r) ∧ Below w.heap.size w w' := by
 have hu26 := Tryz.underlying26
 have HR0_5 := Aside0.mk hr0_5
 have HC0_5 := Aside0.mk hc0_5
 clear hr0_5 hc0_5
 have HR1_5 := Aside0.mk hr1_5
 have HC1_5 := Aside0.mk hc1_5
 clear hr1_5 hc1_5
 have HB := Aside0.mk (Below.refl w.heap.size w)
 have H : (some (decide (a1_0 > a0_0))) = some r := h
 clear h
 obtain rfl := Option.some.inj H
 go_enter Tryz.func47, Tryz.ntmps47
 go_wp2_with (first | ((with_reducible refine gate_dst (N := 2) rfl ?_); refine box_event ?hg (N := 2) ?hd (cs := #[.int .i64 a0_0, .int .i64 a0_1, .int .i64 a0_2, .int .i64 a0_3, .int .i64 a0_4, .slice A0_5 l0_5.length c0_5]) (t := 26) ?hr ?_; (case hd => rfl); (case hg => rfl); (case hr => first | (go_simp; done) | (go_simp; rfl)); intro gb106 hg w3 hbox hb; have n0_ := Aside0.mk (below_step (by repeat (first | (with_reducible first | exact HB.out | apply below_alloc | apply pw_below_drewN | apply below_drew1) | exact HB.out)) hb); have n1_ := Aside0.mk (hbox); have n2_ := Aside0.mk ((by rw [hg]; exact (below_size (by repeat (first | (with_reducible first | exact HB.out | apply below_alloc | apply pw_below_drewN | apply below_drew1) | exact HB.out))) : w.heap.size ≤ gb106)); have n3_ := Aside0.mk ((by rw [hg]; exact (below_size (by repeat (first | (with_reducible first | exact HB.out | apply below_alloc | apply pw_below_drewN | apply below_drew1) | exact HB.out))) : w.heap.size ≤ gb106)); clear HB; have HB := n0_; have BK106 := n1_; have GW106 := n2_; have GE106 := n3_; clear n0_ n1_ n2_ n3_; clear hb hbox hg) | ((with_reducible refine gate_dst (N := 3) rfl ?_); refine box_event ?hg (N := 3) ?hd (cs := #[.int .i64 a1_0, .int .i64 a1_1, .int .i64 a1_2, .int .i64 a1_3, .int .i64 a1_4, .slice A1_5 l1_5.length c1_5]) (t := 26) ?hr ?_; (case hd => rfl); (case hg => rfl); (case hr => first | (go_simp; done) | (go_simp; rfl)); intro gb107 hg w4 hbox hb; have n0_ := Aside0.mk (blk_below (g := gb106) (o := .cells #[.int .i64 a0_0, .int .i64 a0_1, .int .i64 a0_2, .int .i64 a0_3, .int .i64 a0_4, .slice A0_5 l0_5.length c0_5] 26 (0, 0)) (by (with_reducible repeat (first | refine blk_drewN ?_ _ | refine blk_drew ?_ | refine blk_alloc ?_ _)); exact BK106.out) hb); have n1_ := Aside0.mk (below_step (by repeat (first | (with_reducible first | exact HB.out | apply below_alloc | apply pw_below_drewN | apply below_drew1 | refine below_set ?_ GE106.out) | exact HB.out)) hb); have n2_ := Aside0.mk (hbox); have n3_ := Aside0.mk ((by rw [hg]; exact (below_size (by repeat (first | (with_reducible first | exact HB.out | apply below_alloc | apply pw_below_drewN | apply below_drew1 | refine below_set ?_ GE106.out) | exact HB.out))) : w.heap.size ≤ gb107)); have n4_ := Aside0.mk ((by rw [hg]; exact (below_size (by repeat (first | (with_reducible first | exact HB.out | apply below_alloc | apply pw_below_drewN | apply below_drew1 | refine below_set ?_ GE106.out) | exact HB.out))) : w.heap.size ≤ gb107)); have n5_ := Aside0.mk ((by rw [hg]; exact Nat.ne_of_lt (blk_lt (g := gb106) (o := .cells #[.int .i64 a0_0, .int .i64 a0_1, .int .i64 a0_2, .int .i64 a0_3, .int .i64 a0_4, .slice A0_5 l0_5.length c0_5] 26 (0, 0)) (by (with_reducible repeat (first | refine blk_drewN ?_ _ | refine blk_drew ?_ | refine blk_alloc ?_ _)); exact BK106.out)) : gb106 ≠ gb107)); have n6_ := Aside0.mk ((by rw [hg]; exact Nat.ne_of_gt (blk_lt (g := gb106) (o := .cells #[.int .i64 a0_0, .int .i64 a0_1, .int .i64 a0_2, .int .i64 a0_3, .int .i64 a0_4, .slice A0_5 l0_5.length c0_5] 26 (0, 0)) (by (with_reducible repeat (first | refine blk_drewN ?_ _ | refine blk_drew ?_ | refine blk_alloc ?_ _)); exact BK106.out)) : gb107 ≠ gb106)); clear BK106; clear HB; have BK106 := n0_; have HB := n1_; have BK107 := n2_; have GW107 := n3_; have GE107 := n4_; have NB106_107 := n5_; have NB107_106 := n6_; clear n0_ n1_ n2_ n3_ n4_ n5_ n6_; clear hb hbox hg; have hnb5 := NB107_106.out; have hnc5 := NB106_107.out; have hcz6_0 : w4.cell? ⟨gb107, 0, none⟩ = some (.int .i64 a1_0) := (blk_cell BK107.out 0).trans rfl; have hcz6_1 : w4.cell? ⟨gb107, 1, none⟩ = some (.int .i64 a1_1) := (blk_cell BK107.out 1).trans rfl; have hcz6_2 : w4.cell? ⟨gb107, 2, none⟩ = some (.int .i64 a1_2) := (blk_cell BK107.out 2).trans rfl; have hcz6_3 : w4.cell? ⟨gb107, 3, none⟩ = some (.int .i64 a1_3) := (blk_cell BK107.out 3).trans rfl; have hcz6_4 : w4.cell? ⟨gb107, 4, none⟩ = some (.int .i64 a1_4) := (blk_cell BK107.out 4).trans rfl; have hcz6_5 : w4.cell? ⟨gb107, 5, none⟩ = some (.slice A1_5 l1_5.length c1_5) := (blk_cell BK107.out 5).trans rfl; have hfz6_0 := blk_frozen BK107.out 0; have hfz6_1 := blk_frozen BK107.out 1; have hfz6_2 := blk_frozen BK107.out 2; have hfz6_3 := blk_frozen BK107.out 3; have hfz6_4 := blk_frozen BK107.out 4; have hfz6_5 := blk_frozen BK107.out 5; have hcz7_0 : w4.cell? ⟨gb106, 0, none⟩ = some (.int .i64 a0_0) := (blk_cell BK106.out 0).trans rfl; have hcz7_1 : w4.cell? ⟨gb106, 1, none⟩ = some (.int .i64 a0_1) := (blk_cell BK106.out 1).trans rfl; have hcz7_2 : w4.cell? ⟨gb106, 2, none⟩ = some (.int .i64 a0_2) := (blk_cell BK106.out 2).trans rfl; have hcz7_3 : w4.cell? ⟨gb106, 3, none⟩ = some (.int .i64 a0_3) := (blk_cell BK106.out 3).trans rfl; have hcz7_4 : w4.cell? ⟨gb106, 4, none⟩ = some (.int .i64 a0_4) := (blk_cell BK106.out 4).trans rfl; have hcz7_5 : w4.cell? ⟨gb106, 5, none⟩ = some (.slice A0_5 l0_5.length c0_5) := (blk_cell BK106.out 5).trans rfl; have hfz7_0 := blk_frozen BK106.out 0; have hfz7_1 := blk_frozen BK106.out 1; have hfz7_2 := blk_frozen BK106.out 2; have hfz7_3 := blk_frozen BK106.out 3; have hfz7_4 := blk_frozen BK106.out 4; have hfz7_5 := blk_frozen BK106.out 5))
 go_ret
 exact ⟨by first | rfl | (simp [errW_none, errW_some] <;> rfl) | (simp [*, errW_none, errW_some] <;> rfl), by repeat (first | (with_reducible first | exact HB.out | apply below_alloc | apply pw_below_drewN | apply below_drew1 | refine below_set ?_ GE106.out | refine below_set ?_ GE107.out) | exact HB.out)⟩
def logs_weigh.l0 : Nat → Int → Int → List Int → Int → Int → Option (Int)
 | 0, _, _, _, _, _ => none
 | k + 1, x1, x4, x7, x8, x9 => if x9 < x8 then (if 0 ≤ x9 then (if x9 < (x7.length : Int) then (logs_weigh.l0 k x1 (wrap64 (x4 + (wrap64 ((wrap64 (x9 + 1)) * (wrap64 (rd x7 x9)))))) x7 x8 (wrap64 (x9 + 1))) else (none)) else (none)) else (if x1 = 0 then (none) else (some (Int.tmod x4 x1)))
def logs_weigh.f (k : Nat) (l0 : List Int) (a1 : Int) : Option (Int) := logs_weigh.l0 k a1 0 l0 (l0.length : Int) 0
set_option maxHeartbeats 8000000 in
set_option maxRecDepth 100000 in
theorem logs_weigh.calls (k : Nat) (A0 : Option Addr) (c0 : Nat) (l0 : List Int) (a1 : Int) (r : Int) (w : World) (hr0 : Kd.C (Kd.int .u8) w A0 l0.length l0) (hc0 : l0.length ≤ c0) (h : logs_weigh.f k l0 a1 = some r) :
  Calls Tryz.prog 113 #[.slice A0 l0.length c0, .int .i64 a1] w fun e w' => e = .returned (.int .i64 r) ∧ Drawn0 w w' := by
 have HR0 := Aside0.mk hr0
 have HC0 := Aside0.mk hc0
 clear hr0 hc0
 have H : (logs_weigh.l0 k a1 0 l0 (l0.length : Int) 0) = some r := h
 clear h
 have H' := Aside0.mk H
 clear H
 go_enter Tryz.func113, Tryz.ntmps113
 go_wp2
 go_loopg [4, 9] k (fun kq v4 v9 w' => ∃ (x4_1 : Int) (x9_1 : Int), v4 = .int .i64 x4_1 ∧ v9 = .int .i64 x9_1 ∧ Aside0 (logs_weigh.l0 kq a1 x4_1 l0 (l0.length : Int) x9_1 = some r) ∧ Aside0 (kq ≤ k) ∧ Drawn0 w w')
 case atStart => exact ⟨(0), (0), (by first | rfl | (simp; done) | (simp [*]; done)), (by first | rfl | (simp; done) | (simp [*]; done)), H', ⟨Nat.le_refl _⟩, by repeat (first | exact Drawn0.refl _ | apply Drawn0.step)⟩
 case round =>
  clear H'
  try clear c1
  try clear p2
  obtain ⟨x4_1, x9_1, rfl, rfl, HA, HK1, ⟨m1, rfl⟩⟩ := hrel
  cases gk with
  | zero => exact absurd HA.out (by simp [logs_weigh.l0])
  | succ k1 =>
   have H := HA.out
   clear HA
   simp only [logs_weigh.l0] at H
   by_cases c3 : x9_1 < (l0.length : Int)
   ·rw [if_pos c3] at H
    have c3b0 : decide (x9_1 < (l0.length : Int)) = true := decide_eq_true c3
    clear c3
    by_cases c4 : 0 ≤ x9_1
    ·rw [if_pos c4] at H
     have c4b0 : decide (0 ≤ x9_1) = true := decide_eq_true c4
     clear c4
     by_cases c5 : x9_1 < (l0.length : Int)
     ·rw [if_pos c5] at H
      have c5b0 : decide (x9_1 < (l0.length : Int)) = true := decide_eq_true c5
      clear c5
      have H' := Aside0.mk H
      clear H
      have p128 : 0 ≤ (x9_1 : Int) := of_decide_eq_true (by first | (with_reducible assumption) | assumption)
      have q128 : x9_1 < (l0.length : Int) := of_decide_eq_true (by first | (with_reducible assumption) | assumption)
      obtain ⟨ad128, e128, hx128_0⟩ := Kd.at_int HR0.out x9_1 p128 q128
      cases e128
      replace p128 := eq_true p128
      replace q128 := eq_true q128
      go_wp2
      go_roundg k1
      case measure => have := HK1.out; omega
      case rel => exact ⟨(wrap64 (x4_1 + (wrap64 ((wrap64 (x9_1 + 1)) * (wrap64 (rd l0 x9_1)))))), (wrap64 (x9_1 + 1)), (by first | rfl | (simp; done) | (simp [*]; done)), (by first | rfl | (simp; done) | (simp [*]; done)), H', ⟨by have := HK1.out; omega⟩, by repeat (first | exact Drawn0.refl _ | apply Drawn0.step)⟩
     ·rw [if_neg c5] at H
      exact absurd H (by simp)
    ·rw [if_neg c4] at H
     exact absurd H (by simp)
   ·rw [if_neg c3] at H
    have c3b0 : decide (x9_1 < (l0.length : Int)) = false := decide_eq_false c3
    clear c3
    by_cases c6 : a1 = 0
    ·rw [if_pos c6] at H
     exact absurd H (by simp)
    ·rw [if_neg c6] at H
     have c6b0 : (a1 == 0) = false := beq_eq_false_iff_ne.mpr c6
     have c6b1 : (a1 != 0) = true := bne_iff_ne.mpr c6
     obtain rfl := Option.some.inj H
     go_wp2
     go_ret
     exact ⟨by first | rfl | (simp; done) | (simp [*]; done), by repeat (first | exact Drawn0.refl _ | apply Drawn0.step)⟩
def lw_ints.f (l0 : List Int) : Option (List Int) := (some (([] : List Int) : List Int)).bind fun y156 => (if y156.length + l0.length < 17592186044416 then (some (y156 ++ l0)) else (none))
set_option maxHeartbeats 8000000 in
set_option maxRecDepth 100000 in
theorem lw_ints.calls (A0 : Option Addr) (c0 : Nat) (l0 : List Int) (r : List Int) (w : World) (hr0 : Kd.C (Kd.int .i64) w A0 l0.length l0) (hc0 : l0.length ≤ c0) (h : lw_ints.f l0 = some r) :
  Calls Tryz.prog 22 #[.slice A0 l0.length c0] w fun e w' => ∃ v0_ : Value, e = .returned (v0_) ∧ Kd.R (Kd.int .i64) 3 w' w.heap.size (fun _ => True) v0_ r ∧ Below w.heap.size w w' := by
 have HR0 := Aside0.mk hr0
 have HC0 := Aside0.mk hc0
 clear hr0 hc0
 have HB := Aside0.mk (Below.refl w.heap.size w)
 have H : ((some (([] : List Int) : List Int)).bind fun y156 => (if y156.length + l0.length < 17592186044416 then (some (y156 ++ l0)) else (none))) = some r := h
 clear h
 obtain ⟨y156, hy156⟩ : ∃ y_ : List Int, y_ = (([] : List Int)) := ⟨_, rfl⟩
 replace H : (if y156.length + l0.length < 17592186044416 then (some (y156 ++ l0)) else (none)) = some r := by first | (rw [hy156]; with_reducible exact H) | (have H2_ := (Option.bind_some _ _).symm.trans H; rw [hy156]; with_reducible exact H2_) | (have H2_ := (Option.bind_some _ _).symm.trans H; with_reducible exact H2_) | with_reducible exact H | (rw [hy156]; exact H) | exact H
 have Ny156 := Aside0.mk hy156
 clear hy156
 by_cases c2 : y156.length + l0.length < 17592186044416
 ·rw [if_pos c2] at H
  have LMc2 := Aside0.mk c2
  clear c2
  obtain ⟨y159, hy159⟩ : ∃ y_ : List Int, y_ = (y156 ++ l0) := ⟨_, rfl⟩
  replace H : (some y159) = some r := by first | (rw [hy159]; with_reducible exact H) | (have H2_ := (Option.bind_some _ _).symm.trans H; rw [hy159]; with_reducible exact H2_) | (have H2_ := (Option.bind_some _ _).symm.trans H; with_reducible exact H2_) | with_reducible exact H | (rw [hy159]; exact H) | exact H
  have Ny159 := Aside0.mk hy159
  clear hy159
  obtain rfl := Option.some.inj H
  go_enter Tryz.func22, Tryz.ntmps22
  go_wp2_with (first | ((with_reducible refine gate_dst (N := 3) rfl ?_); refine Kd.R_lit (Kd.int .i64) _ 3 ?hg (N := 3) ?hd (xs := ([] : List Int)) (inner := []) (ok := fun _ => True) (okp := fun _ => True) ?hr ?hp (fun _ hk => hk) trivial (Below.refl _ _) (Nat.le_refl _) (by simp) ?_; (case hd => rfl); (case hg => rfl); (case hr => first | (go_simp; done) | (go_simp; rfl)); (case hp => exact (Reps.none _ _)); intro v157 w3 ho4 hb hg_ hnew_; clear hg_ hnew_; (first | rw [← Ny156.out] at ho4 | (simp only [Int.reduceToNat] at ho4; rw [← Ny156.out] at ho4)); have n0_ := Aside0.mk (Kd.R_lower ho4 (below_size (by repeat (first | (with_reducible first | exact HB.out | apply below_alloc | apply pw_below_drewN | apply below_drew1) | exact HB.out)))); have n1_ := Aside0.mk (below_step (by repeat (first | (with_reducible first | exact HB.out | apply below_alloc | apply pw_below_drewN | apply below_drew1) | exact HB.out)) hb); clear HB; have HO158 := n0_; have HB := n1_; clear n0_ n1_; clear hb ho4) | ((with_reducible refine gate_builtin (b := .append) (xs := #[.tmp 3, .tmp 4]) rfl ?_); at_builtin; refine Kd.R_append_rows (Kd.int .i64) (w0 := w) w.heap.size rfl (.tmp 3) (.tmp 4) 24 3 (.int .i64 0) 8 rfl Tryz.underlying24 info3 rfl (by decide) (by omega) v157 y156 l0 _ _ _ (fun _ => True) (fun _ => False) rfl rfl ?aO ?aR (fun _ _ h => h) (fun _ h => h.elim) ?aF ?aB ?aS ?aL ?_; (case aR => repeat (first | exact (Kd.C_below HR0.out HB.out) | (with_reducible refine Kd.C_alloc ?_ _) | (with_reducible refine Kd.C_drewN ?_ _) | (with_reducible refine Kd.C_drew ?_))); (case aB => exact (by repeat (first | (with_reducible first | exact HB.out | apply below_alloc | apply pw_below_drewN | apply below_drew1) | exact HB.out))); (case aF => exact (fun _ _ => trivial)); (case aO => exact (by (with_reducible repeat (first | apply Kd.R_alloc | apply Kd.R_drewN | apply Kd.R_drew)); exact HO158.out)); (case aS => exact (below_size (by repeat (first | (with_reducible first | exact HB.out | apply below_alloc | apply pw_below_drewN | apply below_drew1) | exact HB.out)))); (case aL => have := LMc2.out; omega); intro v160 w5 ho hb hg hat; rw [← Ny159.out] at ho; have n0_ := Aside0.mk (hb); have n1_ := Aside0.mk (ho); clear HB; clear HO158; have HB := n0_; have HO161 := n1_; clear n0_ n1_; clear ho hb hg hat))
  go_ret
  exact ⟨_, by first | rfl | (simp [errW_none, errW_some] <;> rfl) | (simp [*, errW_none, errW_some] <;> rfl), by (with_reducible repeat (first | apply Kd.R_alloc | apply Kd.R_drewN | apply Kd.R_drew)); exact HO161.out, by repeat (first | (with_reducible first | exact HB.out | apply below_alloc | apply pw_below_drewN | apply below_drew1) | exact HB.out)⟩
 ·rw [if_neg c2] at H
  exact absurd H (by simp)
def lw_bills.l0 : Nat → List (S26) → List (S26) → Int → Option ((List (S26)))
 | 0, _, _, _ => none
 | k + 1, x0, x3, x4 => if x4 < (x0.length : Int) then (if 0 ≤ x4 then ((lw_ints.f ((rd_T26 x0 x4).f5)).bind fun t167 => (if x3.length < 2199023255552 then (lw_bills.l0 k x0 (x3 ++ [(⟨(rd_T26 x0 x4).f0, (rd_T26 x0 x4).f1, (rd_T26 x0 x4).f2, (rd_T26 x0 x4).f3, (rd_T26 x0 x4).f4, t167⟩ : S26)]) (wrap64 (x4 + 1))) else (none))) else (none)) else (some x3)
def lw_bills.f (k : Nat) (l0 : List (S26)) : Option ((List (S26))) := lw_bills.l0 k l0 (([] : List (S26))) 0
set_option maxHeartbeats 8000000 in
set_option maxRecDepth 100000 in
theorem lw_bills.calls (k : Nat) (A0 : Option Addr) (c0 : Nat) (l0 : List (S26)) (r : List (S26)) (w : World) (hr0 : Kd.C k26 w A0 l0.length l0) (hc0 : l0.length ≤ c0) (h : lw_bills.f k l0 = some r) :
  Calls Tryz.prog 6 #[.slice A0 l0.length c0] w fun e w' => ∃ v0_ : Value, e = .returned (v0_) ∧ Kd.S k26 26 w' w.heap.size (fun _ => True) v0_ r ∧ Below w.heap.size w w' := by
 have hu26 := Tryz.underlying26
 have HR0 := Aside0.mk hr0
 have HC0 := Aside0.mk hc0
 clear hr0 hc0
 have HB := Aside0.mk (Below.refl w.heap.size w)
 have H : (lw_bills.l0 k l0 (([] : List (S26))) 0) = some r := h
 clear h
 obtain ⟨y162, hy162⟩ : ∃ y_ : List (S26), y_ = (([] : List (S26))) := ⟨_, rfl⟩
 replace H : (lw_bills.l0 k l0 y162 0) = some r := by first | (rw [hy162]; with_reducible exact H) | (have H2_ := (Option.bind_some _ _).symm.trans H; rw [hy162]; with_reducible exact H2_) | (have H2_ := (Option.bind_some _ _).symm.trans H; with_reducible exact H2_) | with_reducible exact H | (rw [hy162]; exact H) | exact H
 have Ny162 := Aside0.mk hy162
 clear hy162
 have H' := Aside0.mk H
 clear H
 go_enter Tryz.func6, Tryz.ntmps6
 go_wp2_with (first | ((with_reducible refine gate_dst (N := 6) rfl ?_); refine Kd.S_lit k26 _ 26 ?hg (N := 6) ?hd (xs := ([] : List (S26))) (inner := []) (ok := fun _ => True) (okp := fun _ => True) ?hr ?hp (fun _ hk => hk) trivial (Below.refl _ _) (Nat.le_refl _) (by simp) ?_; (case hd => rfl); (case hg => rfl); (case hr => first | (go_simp; done) | (go_simp; rfl)); (case hp => exact (Reps.none _ _)); intro v163 w2 ho3 hb hg_ hnew_; clear hg_ hnew_; (first | rw [← Ny162.out] at ho3 | (simp only [Int.reduceToNat] at ho3; rw [← Ny162.out] at ho3)); have n0_ := Aside0.mk (Kd.S_lower ho3 (below_size (by repeat (first | (with_reducible first | exact HB.out | apply below_alloc | apply pw_below_drewN | apply below_drew1) | exact HB.out)))); have n1_ := Aside0.mk (below_step (by repeat (first | (with_reducible first | exact HB.out | apply below_alloc | apply pw_below_drewN | apply below_drew1) | exact HB.out)) hb); clear HB; have HO164 := n0_; have HB := n1_; clear n0_ n1_; clear hb ho3))
 go_loopg [3, 4] k (fun kq v3 v4 w' => ∃ (x3_1 : List (S26)) (x4_1 : Int), v4 = .int .i64 x4_1 ∧ Aside0 (lw_bills.l0 kq l0 x3_1 x4_1 = some r) ∧ Aside0 (kq ≤ k) ∧ Aside0 (Kd.S k26 26 w' w.heap.size (fun _ => True) v3 x3_1) ∧ Aside0 (Below w.heap.size w w'))
 case atStart => exact ⟨(y162), (0), (by first | rfl | (simp; done) | (simp [*]; done)), H', ⟨Nat.le_refl _⟩, ⟨by (with_reducible repeat (first | apply Kd.S_alloc | apply Kd.S_drewN | apply Kd.S_drew)); exact HO164.out⟩, ⟨by repeat (first | (with_reducible first | exact HB.out | apply below_alloc | apply pw_below_drewN | apply below_drew1) | exact HB.out)⟩⟩
 case round =>
  clear H'
  try clear p2
  obtain ⟨x3_1, x4_1, rfl, HA, HK1, HO_3, HB⟩ := hrel
  cases gk with
  | zero => exact absurd HA.out (by simp [lw_bills.l0])
  | succ k1 =>
   have H := HA.out
   clear HA
   simp only [lw_bills.l0] at H
   by_cases c4 : x4_1 < (l0.length : Int)
   ·rw [if_pos c4] at H
    have c4b0 : decide (x4_1 < (l0.length : Int)) = true := decide_eq_true c4
    clear c4
    by_cases c5 : 0 ≤ x4_1
    ·rw [if_pos c5] at H
     have c5b0 : decide (0 ≤ x4_1) = true := decide_eq_true c5
     clear c5
     replace H := Option.bind_eq_some_iff.mp H
     obtain ⟨t167, A60, H⟩ := H
     replace H : (if x3_1.length < 2199023255552 then (lw_bills.l0 k1 l0 (x3_1 ++ [(⟨(rd_T26 l0 x4_1).f0, (rd_T26 l0 x4_1).f1, (rd_T26 l0 x4_1).f2, (rd_T26 l0 x4_1).f3, (rd_T26 l0 x4_1).f4, t167⟩ : S26)]) (wrap64 (x4_1 + 1))) else (none)) = some r := H
     have A6 := Aside0.mk A60
     clear A60
     by_cases c7 : x3_1.length < 2199023255552
     ·rw [if_pos c7] at H
      have LMc7 := Aside0.mk c7
      clear c7
      obtain ⟨y170, hy170⟩ : ∃ y_ : List (S26), y_ = (x3_1 ++ [(⟨(rd_T26 l0 x4_1).f0, (rd_T26 l0 x4_1).f1, (rd_T26 l0 x4_1).f2, (rd_T26 l0 x4_1).f3, (rd_T26 l0 x4_1).f4, t167⟩ : S26)]) := ⟨_, rfl⟩
      replace H : (lw_bills.l0 k1 l0 y170 (wrap64 (x4_1 + 1))) = some r := by first | (rw [hy170]; with_reducible exact H) | (have H2_ := (Option.bind_some _ _).symm.trans H; rw [hy170]; with_reducible exact H2_) | (have H2_ := (Option.bind_some _ _).symm.trans H; with_reducible exact H2_) | with_reducible exact H | (rw [hy170]; exact H) | exact H
      have Ny170 := Aside0.mk hy170
      clear hy170
      have H' := Aside0.mk H
      clear H
      have p165 : 0 ≤ (x4_1 : Int) := of_decide_eq_true (by first | (with_reducible assumption) | assumption)
      have q165 : x4_1 < (l0.length : Int) := of_decide_eq_true (by first | (with_reducible assumption) | assumption)
      obtain ⟨ad165, A165_5, c165_5, e165, hx165_0, hx165_1, hx165_2, hx165_3, hx165_4, hx165_5, hl165_5, hi165_5⟩ := at_T26 HR0.out x4_1 p165 q165
      cases e165
      replace hx165_0 := (HB.out.cell (xbl w _ hx165_0)).trans hx165_0
      replace hx165_1 := (HB.out.cell (xbl w _ hx165_1)).trans hx165_1
      replace hx165_2 := (HB.out.cell (xbl w _ hx165_2)).trans hx165_2
      replace hx165_3 := (HB.out.cell (xbl w _ hx165_3)).trans hx165_3
      replace hx165_4 := (HB.out.cell (xbl w _ hx165_4)).trans hx165_4
      replace hx165_5 := (HB.out.cell (xbl w _ hx165_5)).trans hx165_5
      have HR165_5 := Aside0.mk hi165_5
      have HC165_5 := Aside0.mk hl165_5
      clear hi165_5 hl165_5
      replace p165 := eq_true p165
      replace q165 := eq_true q165
      go_wp2_with (first | ((with_reducible refine gate_dst (N := 5) rfl ?_); refine box_event ?hg (N := 5) ?hd (cs := #[.int .i64 0, .int .i64 0, .int .i64 0, .int .i64 0, .int .i64 0, .slice none 0 0]) (t := 26) ?hr ?_; (case hd => rfl); (case hg => rfl); (case hr => first | (go_simp; done) | (go_simp; rfl)); intro gb166 hg w8 hbox hb; have n0_ := Aside0.mk (Kd.S_below (Kd.S_elderB (by (with_reducible repeat (first | apply Kd.S_alloc | apply Kd.S_drewN | apply Kd.S_drew)); exact HO_3.out) gb166 (Nat.le_of_eq hg.symm)) hb); have n1_ := Aside0.mk (below_step (by repeat (first | (with_reducible first | exact HB.out | apply below_alloc | apply pw_below_drewN | apply below_drew1) | exact HB.out)) hb); have n2_ := Aside0.mk (hbox); have n3_ := Aside0.mk ((by rw [hg]; exact (below_size (by repeat (first | (with_reducible first | exact HB.out | apply below_alloc | apply pw_below_drewN | apply below_drew1) | exact HB.out))) : w.heap.size ≤ gb166)); have n4_ := Aside0.mk ((by rw [hg]; exact (below_size (by repeat (first | (with_reducible first | exact HB.out | apply below_alloc | apply pw_below_drewN | apply below_drew1) | exact HB.out))) : w.heap.size ≤ gb166)); clear HO_3; clear HB; have HO_3 := n0_; have HB := n1_; have BK166 := n2_; have GW166 := n3_; have GE166 := n4_; clear n0_ n1_ n2_ n3_ n4_; clear hb hbox hg; have hcz9_0 : w8.cell? ⟨gb166, 0, none⟩ = some (.int .i64 0) := (blk_cell BK166.out 0).trans rfl; have hcz9_1 : w8.cell? ⟨gb166, 1, none⟩ = some (.int .i64 0) := (blk_cell BK166.out 1).trans rfl; have hcz9_2 : w8.cell? ⟨gb166, 2, none⟩ = some (.int .i64 0) := (blk_cell BK166.out 2).trans rfl; have hcz9_3 : w8.cell? ⟨gb166, 3, none⟩ = some (.int .i64 0) := (blk_cell BK166.out 3).trans rfl; have hcz9_4 : w8.cell? ⟨gb166, 4, none⟩ = some (.int .i64 0) := (blk_cell BK166.out 4).trans rfl; have hcz9_5 : w8.cell? ⟨gb166, 5, none⟩ = some (.slice none 0 0) := (blk_cell BK166.out 5).trans rfl; have hfz9_0 := blk_frozen BK166.out 0; have hfz9_1 := blk_frozen BK166.out 1; have hfz9_2 := blk_frozen BK166.out 2; have hfz9_3 := blk_frozen BK166.out 3; have hfz9_4 := blk_frozen BK166.out 4; have hfz9_5 := blk_frozen BK166.out 5) | ((with_reducible refine gate_callee (f := 22) rfl ?_); refine goesL_ (some 19) rfl rfl Tryz.func22 (by kernel_rfl) rfl #[.slice A165_5 ((rd_T26 l0 x4_1).f5).length c165_5] rfl (by (try simp only [List.map_toArray, List.map_cons, List.map_nil]); first | done | rfl | (simp only [List.length_drop, List.length_take]; rfl)) ?_; (with_reducible refine (lw_ints.calls _ _ ((rd_T26 l0 x4_1).f5) t167 _ ?side1 ?side2 A6.out).mono ?_); (case side1 => exact Kd.C_below HR165_5.out (by repeat (first | (with_reducible first | exact HB.out | apply below_alloc | apply pw_below_drewN | apply below_drew1 | refine below_set ?_ GE166.out) | exact HB.out))); (case side2 => exact HC165_5.out); rintro e w10 ⟨v168, rfl, ho0, hb⟩; refine ⟨_, rfl, ?_⟩; have n0_ := Aside0.mk (Kd.S_elder' (by (with_reducible repeat (first | apply Kd.S_alloc | apply Kd.S_drewN | apply Kd.S_drew)); exact (Kd.S_mono (Kd.S_far (p := ⟨gb166, 5, none⟩) (Kd.S_far (p := ⟨gb166, 4, none⟩) (Kd.S_far (p := ⟨gb166, 3, none⟩) (Kd.S_far (p := ⟨gb166, 2, none⟩) (Kd.S_far (p := ⟨gb166, 1, none⟩) (Kd.S_far (p := ⟨gb166, 0, none⟩) (Kd.S_mono HO_3.out (fun k_ hk => (⟨hk, hk.2⟩ : _ ∧ k_ ≠ gb166))) (fun _ hk => hk.2) (.int .i64 ((rd_T26 l0 x4_1).f0))) (fun _ hk => hk.2) (.int .i64 ((rd_T26 l0 x4_1).f1))) (fun _ hk => hk.2) (.int .i64 ((rd_T26 l0 x4_1).f2))) (fun _ hk => hk.2) (.int .i64 ((rd_T26 l0 x4_1).f3))) (fun _ hk => hk.2) (.int .i64 ((rd_T26 l0 x4_1).f4))) (fun _ hk => hk.2) (.slice A165_5 ((rd_T26 l0 x4_1).f5).length c165_5)) (fun _ h_ => h_.1))) (Kd.R_base ho0) hb); have n1_ := Aside0.mk (Kd.R_lower ho0 (below_size (by repeat (first | (with_reducible first | exact HB.out | apply below_alloc | apply pw_below_drewN | apply below_drew1 | refine below_set ?_ GE166.out) | exact HB.out)))); have n2_ := Aside0.mk (blk_below (g := gb166) (o := .cells #[.int .i64 ((rd_T26 l0 x4_1).f0), .int .i64 ((rd_T26 l0 x4_1).f1), .int .i64 ((rd_T26 l0 x4_1).f2), .int .i64 ((rd_T26 l0 x4_1).f3), .int .i64 ((rd_T26 l0 x4_1).f4), .slice A165_5 ((rd_T26 l0 x4_1).f5).length c165_5] 26 (0, 0)) (by (with_reducible repeat (first | refine blk_drewN ?_ _ | refine blk_drew ?_ | refine blk_alloc ?_ _)); refine blk_put (cs := #[.int .i64 ((rd_T26 l0 x4_1).f0), .int .i64 ((rd_T26 l0 x4_1).f1), .int .i64 ((rd_T26 l0 x4_1).f2), .int .i64 ((rd_T26 l0 x4_1).f3), .int .i64 ((rd_T26 l0 x4_1).f4), .slice none 0 0]) ?_ 5 _ rfl; (with_reducible repeat (first | refine blk_drewN ?_ _ | refine blk_drew ?_ | refine blk_alloc ?_ _)); refine blk_put (cs := #[.int .i64 ((rd_T26 l0 x4_1).f0), .int .i64 ((rd_T26 l0 x4_1).f1), .int .i64 ((rd_T26 l0 x4_1).f2), .int .i64 ((rd_T26 l0 x4_1).f3), .int .i64 0, .slice none 0 0]) ?_ 4 _ rfl; (with_reducible repeat (first | refine blk_drewN ?_ _ | refine blk_drew ?_ | refine blk_alloc ?_ _)); refine blk_put (cs := #[.int .i64 ((rd_T26 l0 x4_1).f0), .int .i64 ((rd_T26 l0 x4_1).f1), .int .i64 ((rd_T26 l0 x4_1).f2), .int .i64 0, .int .i64 0, .slice none 0 0]) ?_ 3 _ rfl; (with_reducible repeat (first | refine blk_drewN ?_ _ | refine blk_drew ?_ | refine blk_alloc ?_ _)); refine blk_put (cs := #[.int .i64 ((rd_T26 l0 x4_1).f0), .int .i64 ((rd_T26 l0 x4_1).f1), .int .i64 0, .int .i64 0, .int .i64 0, .slice none 0 0]) ?_ 2 _ rfl; (with_reducible repeat (first | refine blk_drewN ?_ _ | refine blk_drew ?_ | refine blk_alloc ?_ _)); refine blk_put (cs := #[.int .i64 ((rd_T26 l0 x4_1).f0), .int .i64 0, .int .i64 0, .int .i64 0, .int .i64 0, .slice none 0 0]) ?_ 1 _ rfl; (with_reducible repeat (first | refine blk_drewN ?_ _ | refine blk_drew ?_ | refine blk_alloc ?_ _)); refine blk_put (cs := #[.int .i64 0, .int .i64 0, .int .i64 0, .int .i64 0, .int .i64 0, .slice none 0 0]) ?_ 0 _ rfl; (with_reducible repeat (first | refine blk_drewN ?_ _ | refine blk_drew ?_ | refine blk_alloc ?_ _)); exact BK166.out) hb); have n3_ := Aside0.mk (below_step (by repeat (first | (with_reducible first | exact HB.out | apply below_alloc | apply pw_below_drewN | apply below_drew1 | refine below_set ?_ GE166.out) | exact HB.out)) hb); clear HO_3; clear BK166; clear HB; have HO_3 := n0_; have HO169 := n1_; have BK166 := n2_; have HB := n3_; clear n0_ n1_ n2_ n3_; (try clear hb); (try clear hb2); (try clear hk); (try clear hi); (try clear ho0); obtain ⟨Ao11, co11, eo11⟩ := Kd.R_slice HO169.out; subst eo11; have hcz12_0 : w10.cell? ⟨gb166, 0, none⟩ = some (.int .i64 ((rd_T26 l0 x4_1).f0)) := (blk_cell BK166.out 0).trans rfl; have hcz12_1 : w10.cell? ⟨gb166, 1, none⟩ = some (.int .i64 ((rd_T26 l0 x4_1).f1)) := (blk_cell BK166.out 1).trans rfl; have hcz12_2 : w10.cell? ⟨gb166, 2, none⟩ = some (.int .i64 ((rd_T26 l0 x4_1).f2)) := (blk_cell BK166.out 2).trans rfl; have hcz12_3 : w10.cell? ⟨gb166, 3, none⟩ = some (.int .i64 ((rd_T26 l0 x4_1).f3)) := (blk_cell BK166.out 3).trans rfl; have hcz12_4 : w10.cell? ⟨gb166, 4, none⟩ = some (.int .i64 ((rd_T26 l0 x4_1).f4)) := (blk_cell BK166.out 4).trans rfl; have hcz12_5 : w10.cell? ⟨gb166, 5, none⟩ = some (.slice A165_5 ((rd_T26 l0 x4_1).f5).length c165_5) := (blk_cell BK166.out 5).trans rfl; have hfz12_0 := blk_frozen BK166.out 0; have hfz12_1 := blk_frozen BK166.out 1; have hfz12_2 := blk_frozen BK166.out 2; have hfz12_3 := blk_frozen BK166.out 3; have hfz12_4 := blk_frozen BK166.out 4; have hfz12_5 := blk_frozen BK166.out 5) | ((with_reducible refine gate_store (t := 24) (p := 20) rfl ?_); refine store_event (t := 24) (p := 20) (v := ?vo_w13) (w1 := (w10.setCell ⟨gb166, 5, none⟩ (.slice Ao11 t167.length co11))) ?hg ?ho ?hn ?hr ?_; (case ho => rfl); (case hg => rfl); (case hn => rfl); (case hr => first | (go_simp; done) | (go_simp; rfl)); intro w13 hw; have n0_ : Aside0 (Kd.S k26 26 w13 w.heap.size (fun k_ => some k_ ≠ (.slice Ao11 t167.length co11 : Value).ownBlock ∧ k_ ≠ gb166) u3 x3_1) := ⟨(by rw [hw]; exact (by (with_reducible repeat (first | apply Kd.S_alloc | apply Kd.S_drewN | apply Kd.S_drew)); exact Kd.S_mono (Kd.S_far (p := ⟨gb166, 5, none⟩) (Kd.S_mono HO_3.out (fun k_ hk => (⟨hk, hk.1.2⟩ : _ ∧ k_ ≠ gb166))) (fun _ hk => hk.2) (.slice Ao11 t167.length co11)) (fun _ hk => ⟨hk.1.2, hk.1.1.2⟩)))⟩; have n1_ : Aside0 (Kd.R (Kd.int .i64) 3 w13 w.heap.size (fun _ => True) (.slice Ao11 t167.length co11) t167) := ⟨(by rw [hw]; exact (by (with_reducible repeat (first | apply Kd.R_alloc | apply Kd.R_drewN | apply Kd.R_drew)); exact Kd.R_mono (Kd.R_far (p := ⟨gb166, 5, none⟩) (Kd.R_types HO169.out BK166.out (by decide)) (fun _ hk => hk.2) (.slice Ao11 t167.length co11)) (fun _ hk => trivial)))⟩; have n2_ : Aside0 (w13.heap[gb166]? = some (.cells #[.int .i64 ((rd_T26 l0 x4_1).f0), .int .i64 ((rd_T26 l0 x4_1).f1), .int .i64 ((rd_T26 l0 x4_1).f2), .int .i64 ((rd_T26 l0 x4_1).f3), .int .i64 ((rd_T26 l0 x4_1).f4), .slice Ao11 t167.length co11] 26 (0, 0))) := ⟨(by rw [hw]; exact (by (with_reducible repeat (first | refine blk_drewN ?_ _ | refine blk_drew ?_ | refine blk_alloc ?_ _)); refine blk_put (cs := #[.int .i64 ((rd_T26 l0 x4_1).f0), .int .i64 ((rd_T26 l0 x4_1).f1), .int .i64 ((rd_T26 l0 x4_1).f2), .int .i64 ((rd_T26 l0 x4_1).f3), .int .i64 ((rd_T26 l0 x4_1).f4), .slice A165_5 ((rd_T26 l0 x4_1).f5).length c165_5]) ?_ 5 _ rfl; (with_reducible repeat (first | refine blk_drewN ?_ _ | refine blk_drew ?_ | refine blk_alloc ?_ _)); exact BK166.out))⟩; have n3_ : Aside0 (Below w.heap.size w w13) := ⟨(by rw [hw]; exact (by repeat (first | (with_reducible first | exact HB.out | apply below_alloc | apply pw_below_drewN | apply below_drew1 | refine below_set ?_ GE166.out) | exact HB.out)))⟩; clear hw; clear HO_3; clear HO169; clear BK166; clear HB; have HO_3 := n0_; have HO169 := n1_; have BK166 := n2_; have HB := n3_; clear n0_ n1_ n2_ n3_; have hcz14_0 : w13.cell? ⟨gb166, 0, none⟩ = some (.int .i64 ((rd_T26 l0 x4_1).f0)) := (blk_cell BK166.out 0).trans rfl; have hcz14_1 : w13.cell? ⟨gb166, 1, none⟩ = some (.int .i64 ((rd_T26 l0 x4_1).f1)) := (blk_cell BK166.out 1).trans rfl; have hcz14_2 : w13.cell? ⟨gb166, 2, none⟩ = some (.int .i64 ((rd_T26 l0 x4_1).f2)) := (blk_cell BK166.out 2).trans rfl; have hcz14_3 : w13.cell? ⟨gb166, 3, none⟩ = some (.int .i64 ((rd_T26 l0 x4_1).f3)) := (blk_cell BK166.out 3).trans rfl; have hcz14_4 : w13.cell? ⟨gb166, 4, none⟩ = some (.int .i64 ((rd_T26 l0 x4_1).f4)) := (blk_cell BK166.out 4).trans rfl; have hcz14_5 : w13.cell? ⟨gb166, 5, none⟩ = some (.slice Ao11 t167.length co11) := (blk_cell BK166.out 5).trans rfl; have hfz14_0 := blk_frozen BK166.out 0; have hfz14_1 := blk_frozen BK166.out 1; have hfz14_2 := blk_frozen BK166.out 2; have hfz14_3 := blk_frozen BK166.out 3; have hfz14_4 := blk_frozen BK166.out 4; have hfz14_5 := blk_frozen BK166.out 5) | ((with_reducible refine gate_builtin (b := .append) (xs := #[.tmp 21, .tmp 23]) rfl ?_); at_builtin; refine Kd.S_append k26 (w0 := w) w.heap.size rfl (.tmp 21) (.tmp 23) 22 26 (.agg #[(.int .i64 0), (.int .i64 0), (.int .i64 0), (.int .i64 0), (.int .i64 0), (.slice none 0 0)]) 64 rfl Tryz.underlying22 info26 rfl (by decide) (by omega) u3 x3_1 (⟨(rd_T26 l0 x4_1).f0, (rd_T26 l0 x4_1).f1, (rd_T26 l0 x4_1).f2, (rd_T26 l0 x4_1).f3, (rd_T26 l0 x4_1).f4, t167⟩ : S26) [.int .i64 ((rd_T26 l0 x4_1).f0), .int .i64 ((rd_T26 l0 x4_1).f1), .int .i64 ((rd_T26 l0 x4_1).f2), .int .i64 ((rd_T26 l0 x4_1).f3), .int .i64 ((rd_T26 l0 x4_1).f4), .slice Ao11 t167.length co11] (fun k_ => k_ ≠ gb166) (fun k_ => some k_ = (.slice Ao11 t167.length co11 : Value).ownBlock) rfl rfl ?aP (fun k_ hk_ => ((Kd.R_mono (ok' := fun k_ => ((fun k_ => k_ ≠ gb166)) k_ ∧ some k_ ≠ (u3 : Value).ownBlock) (Kd.R_types (Kd.R_apart' (HO169.out) (Kd.S_typed HO_3.out) (by decide)) BK166.out (by decide)) (fun k_ hk => ⟨hk.2, hk.1.2⟩))).1 k_ hk_.symm) ?aF ?aO ?aB ?aS ?aL ?_; (case aP => exact k26_mkM _ _ _ (⟨(rd_T26 l0 x4_1).f0, (rd_T26 l0 x4_1).f1, (rd_T26 l0 x4_1).f2, (rd_T26 l0 x4_1).f3, (rd_T26 l0 x4_1).f4, t167⟩ : S26) (Kd.R_mono (Kd.R_tight rfl (Kd.R_mono (ok' := fun k_ => ((fun k_ => k_ ≠ gb166)) k_ ∧ some k_ ≠ (u3 : Value).ownBlock) (Kd.R_types (Kd.R_apart' (HO169.out) (Kd.S_typed HO_3.out) (by decide)) BK166.out (by decide)) (fun k_ hk => ⟨hk.2, hk.1.2⟩))) (fun _ h_ => h_))); (case aB => exact (by repeat (first | (with_reducible first | exact HB.out | apply below_alloc | apply pw_below_drewN | apply below_drew1 | refine below_set ?_ GE166.out) | exact HB.out))); (case aF => exact (fun k_ hk => Kd.freshB (g := gb166) (o := .cells #[.int .i64 ((rd_T26 l0 x4_1).f0), .int .i64 ((rd_T26 l0 x4_1).f1), .int .i64 ((rd_T26 l0 x4_1).f2), .int .i64 ((rd_T26 l0 x4_1).f3), .int .i64 ((rd_T26 l0 x4_1).f4), .slice Ao11 t167.length co11] 26 (0, 0)) (by (with_reducible repeat (first | refine blk_drewN ?_ _ | refine blk_drew ?_ | refine blk_alloc ?_ _)); exact BK166.out) k_ hk)); (case aO => exact (by (with_reducible repeat (first | apply Kd.S_alloc | apply Kd.S_drewN | apply Kd.S_drew)); exact Kd.S_mono HO_3.out (fun k_ hk => ⟨hk.2, fun e_ => hk.1 e_⟩))); (case aS => exact (below_size (by repeat (first | (with_reducible first | exact HB.out | apply below_alloc | apply pw_below_drewN | apply below_drew1 | refine below_set ?_ GE166.out) | exact HB.out)))); (case aL => have := LMc7.out; omega); intro v171 w15 ho hb hg hat; rw [← Ny170.out] at ho; have n0_ := Aside0.mk (blk_grown (g := gb166) (o := .cells #[.int .i64 ((rd_T26 l0 x4_1).f0), .int .i64 ((rd_T26 l0 x4_1).f1), .int .i64 ((rd_T26 l0 x4_1).f2), .int .i64 ((rd_T26 l0 x4_1).f3), .int .i64 ((rd_T26 l0 x4_1).f4), .slice Ao11 t167.length co11] 26 (0, 0)) (by (with_reducible repeat (first | refine blk_drewN ?_ _ | refine blk_drew ?_ | refine blk_alloc ?_ _)); exact BK166.out) hg (Kd.S_away HO_3.out (fun _ hk => hk.2))); have n1_ := Aside0.mk (hb); have n2_ := Aside0.mk (ho); clear BK166; clear HB; clear HO_3; clear HO169; have BK166 := n0_; have HB := n1_; have HO172 := n2_; clear n0_ n1_ n2_; clear ho hb hg hat))
      go_roundg k1
      case measure => have := HK1.out; omega
      case rel => exact ⟨(y170), (wrap64 (x4_1 + 1)), (by first | rfl | (simp; done) | (simp [*]; done)), H', ⟨by have := HK1.out; omega⟩, ⟨by (with_reducible repeat (first | apply Kd.S_alloc | apply Kd.S_drewN | apply Kd.S_drew)); exact Kd.S_mono HO172.out (fun _ hk => trivial)⟩, ⟨by repeat (first | (with_reducible first | exact HB.out | apply below_alloc | apply pw_below_drewN | apply below_drew1 | refine below_set ?_ GE166.out) | exact HB.out)⟩⟩
     ·rw [if_neg c7] at H
      exact absurd H (by simp)
    ·rw [if_neg c5] at H
     exact absurd H (by simp)
   ·rw [if_neg c4] at H
    have c4b0 : decide (x4_1 < (l0.length : Int)) = false := decide_eq_false c4
    clear c4
    obtain rfl := Option.some.inj H
    go_wp2
    go_ret
    exact ⟨_, by first | rfl | (simp [errW_none, errW_some] <;> rfl) | (simp [*, errW_none, errW_some] <;> rfl), by (with_reducible repeat (first | apply Kd.S_alloc | apply Kd.S_drewN | apply Kd.S_drew)); exact HO_3.out, by repeat (first | (with_reducible first | exact HB.out | apply below_alloc | apply pw_below_drewN | apply below_drew1) | exact HB.out)⟩
def rf_In.f (a0 : Int) (a1 : Int) (a2 : Int) : Option (Bool) := if a0 ≥ a1 then (some (decide (a0 ≤ a2))) else (some false)
set_option maxHeartbeats 8000000 in
set_option maxRecDepth 100000 in
theorem rf_In.calls (a0 : Int) (a1 : Int) (a2 : Int) (r : Bool) (w : World) (h : rf_In.f a0 a1 a2 = some r) :
  Calls Tryz.prog 60 #[.int .i64 a0, .int .i64 a1, .int .i64 a2] w fun e w' => e = .returned (.bool r) ∧ Drawn0 w w' := by
 have H : (if a0 ≥ a1 then (some (decide (a0 ≤ a2))) else (some false)) = some r := h
 clear h
 by_cases c4 : a0 ≥ a1
 ·rw [if_pos c4] at H
  have c4b0 : decide (a1 ≤ a0) = true := decide_eq_true c4
  clear c4
  obtain rfl := Option.some.inj H
  go_enter Tryz.func60, Tryz.ntmps60
  go_wp2
  go_ret
  exact ⟨by first | rfl | (simp; done) | (simp [*]; done), by repeat (first | exact Drawn0.refl _ | apply Drawn0.step)⟩
 ·rw [if_neg c4] at H
  have c4b0 : decide (a1 ≤ a0) = false := decide_eq_false c4
  clear c4
  obtain rfl := Option.some.inj H
  go_enter Tryz.func60, Tryz.ntmps60
  go_wp2
  go_ret
  exact ⟨by first | rfl | (simp; done) | (simp [*]; done), by repeat (first | exact Drawn0.refl _ | apply Drawn0.step)⟩
def rf_Weigh.l0 : Nat → List Int → Int → Int → Int → Option (Int)
 | 0, _, _, _, _ => none
 | k + 1, x0, x1, x5, x6 => if x6 < (x0.length : Int) then (if 0 ≤ x6 then (if x1 = 0 then (none) else (rf_Weigh.l0 k x0 x1 (Int.tmod (wrap64 (x5 + (wrap64 ((wrap64 (x6 + 1)) * (wrap64 (rd x0 x6)))))) x1) (wrap64 (x6 + 1)))) else (none)) else (some x5)
def rf_Weigh.f (k : Nat) (l0 : List Int) (a1 : Int) : Option (Int) := rf_Weigh.l0 k l0 a1 0 0
set_option maxHeartbeats 8000000 in
set_option maxRecDepth 100000 in
theorem rf_Weigh.calls (k : Nat) (A0 : Option Addr) (c0 : Nat) (l0 : List Int) (a1 : Int) (r : Int) (w : World) (hr0 : Kd.C (Kd.int .u8) w A0 l0.length l0) (hc0 : l0.length ≤ c0) (h : rf_Weigh.f k l0 a1 = some r) :
  Calls Tryz.prog 97 #[.slice A0 l0.length c0, .int .i64 a1] w fun e w' => e = .returned (.int .i64 r) ∧ Drawn0 w w' := by
 have HR0 := Aside0.mk hr0
 have HC0 := Aside0.mk hc0
 clear hr0 hc0
 have H : (rf_Weigh.l0 k l0 a1 0 0) = some r := h
 clear h
 have H' := Aside0.mk H
 clear H
 go_enter Tryz.func97, Tryz.ntmps97
 go_wp2
 go_loopg [5, 6] k (fun kq v5 v6 w' => ∃ (x5_1 : Int) (x6_1 : Int), v5 = .int .i64 x5_1 ∧ v6 = .int .i64 x6_1 ∧ Aside0 (rf_Weigh.l0 kq l0 a1 x5_1 x6_1 = some r) ∧ Aside0 (kq ≤ k) ∧ Drawn0 w w')
 case atStart => exact ⟨(0), (0), (by first | rfl | (simp; done) | (simp [*]; done)), (by first | rfl | (simp; done) | (simp [*]; done)), H', ⟨Nat.le_refl _⟩, by repeat (first | exact Drawn0.refl _ | apply Drawn0.step)⟩
 case round =>
  clear H'
  try clear p2
  obtain ⟨x5_1, x6_1, rfl, rfl, HA, HK1, ⟨m1, rfl⟩⟩ := hrel
  cases gk with
  | zero => exact absurd HA.out (by simp [rf_Weigh.l0])
  | succ k1 =>
   have H := HA.out
   clear HA
   simp only [rf_Weigh.l0] at H
   by_cases c3 : x6_1 < (l0.length : Int)
   ·rw [if_pos c3] at H
    have c3b0 : decide (x6_1 < (l0.length : Int)) = true := decide_eq_true c3
    clear c3
    by_cases c4 : 0 ≤ x6_1
    ·rw [if_pos c4] at H
     have c4b0 : decide (0 ≤ x6_1) = true := decide_eq_true c4
     clear c4
     by_cases c5 : a1 = 0
     ·rw [if_pos c5] at H
      exact absurd H (by simp)
     ·rw [if_neg c5] at H
      have c5b0 : (a1 == 0) = false := beq_eq_false_iff_ne.mpr c5
      have c5b1 : (a1 != 0) = true := bne_iff_ne.mpr c5
      have H' := Aside0.mk H
      clear H
      have p198 : 0 ≤ (x6_1 : Int) := of_decide_eq_true (by first | (with_reducible assumption) | assumption)
      have q198 : x6_1 < (l0.length : Int) := of_decide_eq_true (by first | (with_reducible assumption) | assumption)
      obtain ⟨ad198, e198, hx198_0⟩ := Kd.at_int HR0.out x6_1 p198 q198
      cases e198
      replace p198 := eq_true p198
      replace q198 := eq_true q198
      go_wp2
      go_roundg k1
      case measure => have := HK1.out; omega
      case rel => exact ⟨(Int.tmod (wrap64 (x5_1 + (wrap64 ((wrap64 (x6_1 + 1)) * (wrap64 (rd l0 x6_1)))))) a1), (wrap64 (x6_1 + 1)), (by first | rfl | (simp; done) | (simp [*]; done)), (by first | rfl | (simp; done) | (simp [*]; done)), H', ⟨by have := HK1.out; omega⟩, by repeat (first | exact Drawn0.refl _ | apply Drawn0.step)⟩
    ·rw [if_neg c4] at H
     exact absurd H (by simp)
   ·rw [if_neg c3] at H
    have c3b0 : decide (x6_1 < (l0.length : Int)) = false := decide_eq_false c3
    clear c3
    obtain rfl := Option.some.inj H
    go_wp2
    go_ret
    exact ⟨by first | rfl | (simp; done) | (simp [*]; done), by repeat (first | exact Drawn0.refl _ | apply Drawn0.step)⟩
mutual
def rf_Lines.j0 : Nat → ByteArray → Bool → Option (List ByteArray × Int)
 | 0, _, _ => none
 | k + 1, x0, x20 => if x20 = true then (some (([] : List ByteArray), 120)) else (rf_Lines.l0 k x0 (([] : List ByteArray)) 0 0)
def rf_Lines.l0 : Nat → ByteArray → List ByteArray → Int → Int → Option (List ByteArray × Int)
 | 0, _, _, _, _ => none
 | k + 1, x0, x4, x6, x7 => if x7 < (x0.size : Int) then (if 0 ≤ x7 then (if (bt x0 x7) = 10 then (if 0 ≤ x6 then (if x6 ≤ x7 then (if x7 ≤ (x0.size : Int) then (if x4.length < 8796093022208 then (rf_Lines.l0 k x0 (x4 ++ [x0.extract (x6 : Int).toNat (x7 : Int).toNat]) (wrap64 (x7 + 1)) (wrap64 (x7 + 1))) else (none)) else (none)) else (none)) else (none)) else (rf_Lines.l0 k x0 x4 x6 (wrap64 (x7 + 1)))) else (none)) else (if (x4.length : Int) > 200 then (some (([] : List ByteArray), 5)) else (some (x4, 0)))
end
def rf_Lines.f (k : Nat) (a0 : ByteArray) : Option (List ByteArray × Int) := if (a0.size : Int) > 120000 then (some (([] : List ByteArray), 5)) else (if a0.toList = ([] : List UInt8) then (rf_Lines.j0 k a0 false) else (if 0 ≤ (wrap64 ((a0.size : Int) - 1)) then (if (wrap64 ((a0.size : Int) - 1)) < (a0.size : Int) then (rf_Lines.j0 k a0 ((bt a0 (wrap64 ((a0.size : Int) - 1))) != 10)) else (none)) else (none)))
set_option maxHeartbeats 8000000 in
set_option maxRecDepth 100000 in
theorem rf_Lines.calls (k : Nat) (a0 : ByteArray) (r1 : List ByteArray) (r2 : Int) (w : World) (h : rf_Lines.f k a0 = some (r1, r2)) :
  Calls Tryz.prog 28 #[.string a0] w fun e w' => ∃ v0_ : Value, e = .returned (.tuple #[v0_, .int .i64 r2]) ∧ Kd.R Kd.string 9 w' w.heap.size (fun _ => True) v0_ r1 ∧ Below w.heap.size w w' := by
 have HB := Aside0.mk (Below.refl w.heap.size w)
 have H : (if (a0.size : Int) > 120000 then (some (([] : List ByteArray), 5)) else (if a0.toList = ([] : List UInt8) then (rf_Lines.j0 k a0 false) else (if 0 ≤ (wrap64 ((a0.size : Int) - 1)) then (if (wrap64 ((a0.size : Int) - 1)) < (a0.size : Int) then (rf_Lines.j0 k a0 ((bt a0 (wrap64 ((a0.size : Int) - 1))) != 10)) else (none)) else (none)))) = some (r1, r2) := h
 clear h
 by_cases c2 : (a0.size : Int) > 120000
 ·rw [if_pos c2] at H
  have c2b0 : decide (120000 < (a0.size : Int)) = true := decide_eq_true c2
  have c2b1 : decide (120000 < a0.size) = true := decide_eq_true (by omega)
  clear c2
  simp only [Option.some.injEq, Prod.mk.injEq] at H
  obtain ⟨rfl, rfl⟩ := H
  go_enter Tryz.func28, Tryz.ntmps28
  go_wp2
  go_ret2
  exact ⟨_, by first | rfl | (simp [errW_none, errW_some] <;> rfl) | (simp [*, errW_none, errW_some] <;> rfl), by first | exact Kd.R_nil _ _ _ _ _ | exact Kd.N_nil _ _ _ _ _ | exact Kd.V_nil _ _ _ _ _ | exact Kd.Q_nil _ _ _ _ _ | exact Kd.S_nil _ _ _ _ _, by repeat (first | (with_reducible first | exact HB.out | apply below_alloc | apply pw_below_drewN | apply below_drew1) | exact HB.out)⟩
 ·rw [if_neg c2] at H
  have c2b0 : decide (120000 < (a0.size : Int)) = false := decide_eq_false c2
  have c2b1 : decide (120000 < a0.size) = false := decide_eq_false (by omega)
  clear c2
  have HC3 := Aside0.mk H
  clear H
  go_enter Tryz.func28, Tryz.ntmps28
  go_upto_region 3 with (fail)
  go_cut [20] (fun v20 wc => ∃ (kq : Nat) (x20_2 : Bool), v20 = .bool x20_2 ∧ Aside0 (rf_Lines.j0 kq a0 x20_2 = some (r1, r2)) ∧ Aside0 (kq ≤ k) ∧ Aside0 (Below w.heap.size w wc))
  case first =>
   have H := HC3.out
   clear HC3
   by_cases c4 : a0.toList = ([] : List UInt8)
   ·rw [if_pos c4] at H
    have c4b0 : (a0.toList == ([] : List UInt8)) = true := beq_iff_eq.mpr c4
    have c4b1 : (a0.toList != ([] : List UInt8)) = false := bne_eq_false_iff_eq.mpr c4
    clear c4
    (first | rw [c4b0] | (simp only [i64_w, i32_w]; rw [c4b0]) | skip)
    have H' := Aside0.mk H
    clear H
    go_wp2
    go_meet
    case rel => exact ⟨_, (false), (by first | rfl | (simp; done) | (simp [*]; done)), H', ⟨by first | omega | exact Nat.le_refl _⟩, ⟨by repeat (first | (with_reducible first | exact HB.out | apply below_alloc | apply pw_below_drewN | apply below_drew1) | exact HB.out)⟩⟩
   ·rw [if_neg c4] at H
    have c4b0 : (a0.toList == ([] : List UInt8)) = false := beq_eq_false_iff_ne.mpr c4
    have c4b1 : (a0.toList != ([] : List UInt8)) = true := bne_iff_ne.mpr c4
    (first | rw [c4b0] | (simp only [i64_w, i32_w]; rw [c4b0]) | skip)
    obtain ⟨ji5, hji5⟩ : ∃ j_ : Int, (wrap64 ((a0.size : Int) - 1)) = j_ := ⟨_, rfl⟩
    replace H : (if 0 ≤ (ji5) then (if (ji5) < (a0.size : Int) then (rf_Lines.j0 k a0 ((bt a0 (ji5)) != 10)) else (none)) else (none)) = some (r1, r2) := by first | (rw [hji5] at H; exact H) | (simp only [hji5] at H ⊢; exact H)
    have hji5w : (IntKind.i64.wrap ((a0.size : Int) - 1)) = ji5 := (i64_w _).trans hji5
    by_cases c6 : 0 ≤ (ji5)
    ·rw [if_pos c6] at H
     have c6b0 : decide (0 ≤ (ji5)) = true := decide_eq_true c6
     clear c6
     by_cases c7 : (ji5) < (a0.size : Int)
     ·rw [if_pos c7] at H
      have c7b0 : decide ((ji5) < (a0.size : Int)) = true := decide_eq_true c7
      clear c7
      have H' := Aside0.mk H
      clear H
      have p8 : 0 ≤ ((ji5) : Int) := of_decide_eq_true (by first | (with_reducible assumption) | assumption)
      have q8 : (ji5) < (a0.size : Int) := of_decide_eq_true (by first | (with_reducible assumption) | assumption)
      have hx8 := bt_at a0 (ji5)
      replace p8 := eq_true p8
      replace q8 := eq_true q8
      go_wp2
      go_meet
      case rel => exact ⟨_, (((bt a0 (ji5)) != 10)), (by first | rfl | (simp; done) | (simp only [← hji5] <;> (first | rfl | simp)) | (simp [*]; done)), H', ⟨by first | omega | exact Nat.le_refl _⟩, ⟨by repeat (first | (with_reducible first | exact HB.out | apply below_alloc | apply pw_below_drewN | apply below_drew1) | exact HB.out)⟩⟩
     ·rw [if_neg c7] at H
      exact absurd H (by simp)
    ·rw [if_neg c6] at H
     exact absurd H (by simp)
  case rest =>
   clear HC3
   try clear c2
   try clear c2b0
   try clear c2b1
   try clear p2
   try clear c4
   try clear c4b0
   try clear c4b1
   try clear c6
   try clear c6b0
   try clear p6
   try clear c7
   try clear c7b0
   try clear p8
   try clear q8
   try clear hx8
   try clear p8
   try clear q8
   obtain ⟨kq, x20_2, rfl, HA, HJ2, HB⟩ := hcut
   cases kq with
   | zero => exact absurd HA.out (by simp [rf_Lines.j0])
   | succ kj2 =>
    have H := HA.out
    clear HA
    simp only [rf_Lines.j0] at H
    by_cases c9 : x20_2 = true
    ·subst c9
     have H1 : (some (([] : List ByteArray), 120)) = some (r1, r2) := by rw [if_pos rfl] at H; exact H
     clear H
     have H := H1
     clear H1
     simp only [Option.some.injEq, Prod.mk.injEq] at H
     obtain ⟨rfl, rfl⟩ := H
     go_wp2
     go_ret2
     exact ⟨_, by first | rfl | (simp [errW_none, errW_some] <;> rfl) | (simp [*, errW_none, errW_some] <;> rfl), by first | exact Kd.R_nil _ _ _ _ _ | exact Kd.N_nil _ _ _ _ _ | exact Kd.V_nil _ _ _ _ _ | exact Kd.Q_nil _ _ _ _ _ | exact Kd.S_nil _ _ _ _ _, by repeat (first | (with_reducible first | exact HB.out | apply below_alloc | apply pw_below_drewN | apply below_drew1) | exact HB.out)⟩
    ·replace c9 := Bool.eq_false_iff.mpr c9
     subst c9
     have H1 : (rf_Lines.l0 kj2 a0 (([] : List ByteArray)) 0 0) = some (r1, r2) := by rw [if_neg (show ¬ (false = true) by decide)] at H; exact H
     clear H
     have H := H1
     clear H1
     obtain ⟨y214, hy214⟩ : ∃ y_ : List ByteArray, y_ = (([] : List ByteArray)) := ⟨_, rfl⟩
     replace H : (rf_Lines.l0 kj2 a0 y214 0 0) = some (r1, r2) := by first | (rw [hy214]; with_reducible exact H) | (have H2_ := (Option.bind_some _ _).symm.trans H; rw [hy214]; with_reducible exact H2_) | (have H2_ := (Option.bind_some _ _).symm.trans H; with_reducible exact H2_) | with_reducible exact H | (rw [hy214]; exact H) | exact H
     have Ny214 := Aside0.mk hy214
     clear hy214
     have H' := Aside0.mk H
     clear H
     go_wp2_with (first | ((with_reducible refine gate_dst (N := 21) rfl ?_); (try (refine gate_guard (by rfl) ?_; dsimp only)); refine Kd.R_lit Kd.string _ 9 ?hg (N := 21) ?hd (xs := ([] : List ByteArray)) (inner := []) (ok := fun _ => True) (okp := fun _ => True) ?hr ?hp (fun _ hk => hk) trivial (Below.refl _ _) (Nat.le_refl _) (by simp) ?_; (case hd => rfl); (case hg => rfl); (case hr => first | (go_simp; done) | (go_simp; rfl)); (case hp => exact (Reps.none _ _)); intro v215 w10 ho11 hb hg_ hnew_; clear hg_ hnew_; (first | rw [← Ny214.out] at ho11 | (simp only [Int.reduceToNat] at ho11; rw [← Ny214.out] at ho11)); have n0_ := Aside0.mk (Kd.R_lower ho11 (below_size (by repeat (first | (with_reducible first | exact HB.out | apply below_alloc | apply pw_below_drewN | apply below_drew1) | exact HB.out)))); have n1_ := Aside0.mk (below_step (by repeat (first | (with_reducible first | exact HB.out | apply below_alloc | apply pw_below_drewN | apply below_drew1) | exact HB.out)) hb); clear HB; have HO216 := n0_; have HB := n1_; clear n0_ n1_; clear hb ho11))
     go_loopg [4, 6, 7] kj2 (fun kq v4 v6 v7 w' => ∃ (x4_2 : List ByteArray) (x6_2 : Int) (x7_2 : Int), v6 = .int .i64 x6_2 ∧ v7 = .int .i64 x7_2 ∧ Aside0 (rf_Lines.l0 kq a0 x4_2 x6_2 x7_2 = some (r1, r2)) ∧ Aside0 (kq ≤ kj2) ∧ Aside0 (Kd.R Kd.string 9 w' w.heap.size (fun _ => True) v4 x4_2) ∧ Aside0 (Below w.heap.size w w'))
     case atStart => exact ⟨(y214), (0), (0), (by first | rfl | (simp; done) | (simp [*]; done)), (by first | rfl | (simp; done) | (simp [*]; done)), H', ⟨Nat.le_refl _⟩, ⟨by (with_reducible repeat (first | apply Kd.R_alloc | apply Kd.R_drewN | apply Kd.R_drew)); exact HO216.out⟩, ⟨by repeat (first | (with_reducible first | exact HB.out | apply below_alloc | apply pw_below_drewN | apply below_drew1) | exact HB.out)⟩⟩
     case round =>
      clear H'
      try clear c2
      try clear c2b0
      try clear c2b1
      try clear p2
      try clear c4
      try clear c4b0
      try clear c4b1
      try clear c6
      try clear c6b0
      try clear p6
      try clear c7
      try clear c7b0
      try clear p8
      try clear q8
      try clear hx8
      try clear c9
      try clear p2
      try clear p6
      try clear p8
      try clear q8
      obtain ⟨x4_2, x6_2, x7_2, rfl, rfl, HA, HK2, HO_4, HB⟩ := hrel
      cases gk with
      | zero => exact absurd HA.out (by simp [rf_Lines.l0])
      | succ k2 =>
       have H := HA.out
       clear HA
       simp only [rf_Lines.l0] at H
       by_cases c12 : x7_2 < (a0.size : Int)
       ·rw [if_pos c12] at H
        have c12b0 : decide (x7_2 < (a0.size : Int)) = true := decide_eq_true c12
        clear c12
        by_cases c13 : 0 ≤ x7_2
        ·rw [if_pos c13] at H
         have c13b0 : decide (0 ≤ x7_2) = true := decide_eq_true c13
         clear c13
         by_cases c15 : (bt a0 x7_2) = 10
         ·rw [if_pos c15] at H
          have c15b0 : ((bt a0 x7_2) == 10) = true := beq_iff_eq.mpr c15
          have c15b1 : ((bt a0 x7_2) != 10) = false := bne_eq_false_iff_eq.mpr c15
          clear c15
          by_cases c16 : 0 ≤ x6_2
          ·rw [if_pos c16] at H
           have c16b0 := eq_true c16
           have c16b1 : decide (0 ≤ x6_2) = true := decide_eq_true c16
           clear c16
           by_cases c17 : x6_2 ≤ x7_2
           ·rw [if_pos c17] at H
            have c17b0 := eq_true c17
            have c17b1 : decide (x6_2 ≤ x7_2) = true := decide_eq_true c17
            clear c17
            by_cases c18 : x7_2 ≤ (a0.size : Int)
            ·rw [if_pos c18] at H
             have c18b0 := eq_true c18
             have c18b1 : decide (x7_2 ≤ (a0.size : Int)) = true := decide_eq_true c18
             clear c18
             by_cases c19 : x4_2.length < 8796093022208
             ·rw [if_pos c19] at H
              have LMc19 := Aside0.mk c19
              clear c19
              obtain ⟨y217, hy217⟩ : ∃ y_ : List ByteArray, y_ = (x4_2 ++ [a0.extract (x6_2 : Int).toNat (x7_2 : Int).toNat]) := ⟨_, rfl⟩
              replace H : (rf_Lines.l0 k2 a0 y217 (wrap64 (x7_2 + 1)) (wrap64 (x7_2 + 1))) = some (r1, r2) := by first | (rw [hy217]; with_reducible exact H) | (have H2_ := (Option.bind_some _ _).symm.trans H; rw [hy217]; with_reducible exact H2_) | (have H2_ := (Option.bind_some _ _).symm.trans H; with_reducible exact H2_) | with_reducible exact H | (rw [hy217]; exact H) | exact H
              have Ny217 := Aside0.mk hy217
              clear hy217
              have H' := Aside0.mk H
              clear H
              have p14 : 0 ≤ (x7_2 : Int) := of_decide_eq_true (by first | (with_reducible assumption) | assumption)
              have q14 : x7_2 < (a0.size : Int) := of_decide_eq_true (by first | (with_reducible assumption) | assumption)
              have hx14 := bt_at a0 x7_2
              replace p14 := eq_true p14
              replace q14 := eq_true q14
              go_wp2_with (first | ((with_reducible refine gate_builtin (b := .append) (xs := #[.tmp 36, .tmp 38]) rfl ?_); (try (refine gate_guard (by rfl) ?_; dsimp only)); at_builtin; refine Kd.R_append Kd.string (w0 := w) w.heap.size rfl (.tmp 36) (.tmp 38) 68 9 (.string ⟨#[]⟩) 16 rfl Tryz.underlying68 info9 rfl (by decide) (by omega) u4 x4_2 (a0.extract (x6_2 : Int).toNat (x7_2 : Int).toNat) [.string (a0.extract (x6_2 : Int).toNat (x7_2 : Int).toNat)] (fun _ => True) (fun _ => False) rfl rfl ?aP (fun _ hk => hk.elim) ?aF ?aO ?aB ?aS ?aL ?_; (case aP => exact rfl); (case aB => exact (by repeat (first | (with_reducible first | exact HB.out | apply below_alloc | apply pw_below_drewN | apply below_drew1) | exact HB.out))); (case aF => exact (fun _ _ => trivial)); (case aO => exact (by (with_reducible repeat (first | apply Kd.R_alloc | apply Kd.R_drewN | apply Kd.R_drew)); exact HO_4.out)); (case aS => exact (below_size (by repeat (first | (with_reducible first | exact HB.out | apply below_alloc | apply pw_below_drewN | apply below_drew1) | exact HB.out)))); (case aL => have := LMc19.out; omega); intro v218 w20 ho hb hg hat; rw [← Ny217.out] at ho; have n0_ := Aside0.mk (hb); have n1_ := Aside0.mk (ho); clear HB; clear HO_4; have HB := n0_; have HO219 := n1_; clear n0_ n1_; clear ho hb hg hat))
              go_roundg k2
              case measure => have := HJ2.out; have := HK2.out; omega
              case rel => exact ⟨(y217), (wrap64 (x7_2 + 1)), (wrap64 (x7_2 + 1)), (by first | rfl | (simp; done) | (simp [*]; done)), (by first | rfl | (simp; done) | (simp [*]; done)), H', ⟨by have := HJ2.out; have := HK2.out; omega⟩, ⟨by (with_reducible repeat (first | apply Kd.R_alloc | apply Kd.R_drewN | apply Kd.R_drew)); exact HO219.out⟩, ⟨by repeat (first | (with_reducible first | exact HB.out | apply below_alloc | apply pw_below_drewN | apply below_drew1) | exact HB.out)⟩⟩
             ·rw [if_neg c19] at H
              exact absurd H (by simp)
            ·rw [if_neg c18] at H
             exact absurd H (by simp)
           ·rw [if_neg c17] at H
            exact absurd H (by simp)
          ·rw [if_neg c16] at H
           exact absurd H (by simp)
         ·rw [if_neg c15] at H
          have c15b0 : ((bt a0 x7_2) == 10) = false := beq_eq_false_iff_ne.mpr c15
          have c15b1 : ((bt a0 x7_2) != 10) = true := bne_iff_ne.mpr c15
          have H' := Aside0.mk H
          clear H
          have p14 : 0 ≤ (x7_2 : Int) := of_decide_eq_true (by first | (with_reducible assumption) | assumption)
          have q14 : x7_2 < (a0.size : Int) := of_decide_eq_true (by first | (with_reducible assumption) | assumption)
          have hx14 := bt_at a0 x7_2
          replace p14 := eq_true p14
          replace q14 := eq_true q14
          go_wp2
          go_roundg k2
          case measure => have := HJ2.out; have := HK2.out; omega
          case rel => exact ⟨(x4_2), (x6_2), (wrap64 (x7_2 + 1)), (by first | rfl | (simp; done) | (simp [*]; done)), (by first | rfl | (simp; done) | (simp [*]; done)), H', ⟨by have := HJ2.out; have := HK2.out; omega⟩, ⟨by (with_reducible repeat (first | apply Kd.R_alloc | apply Kd.R_drewN | apply Kd.R_drew)); exact HO_4.out⟩, ⟨by repeat (first | (with_reducible first | exact HB.out | apply below_alloc | apply pw_below_drewN | apply below_drew1) | exact HB.out)⟩⟩
        ·rw [if_neg c13] at H
         exact absurd H (by simp)
       ·rw [if_neg c12] at H
        have c12b0 : decide (x7_2 < (a0.size : Int)) = false := decide_eq_false c12
        clear c12
        by_cases c21 : (x4_2.length : Int) > 200
        ·rw [if_pos c21] at H
         have c21b0 : decide (200 < (x4_2.length : Int)) = true := decide_eq_true c21
         have c21b1 : decide (200 < x4_2.length) = true := decide_eq_true (by omega)
         clear c21
         simp only [Option.some.injEq, Prod.mk.injEq] at H
         obtain ⟨rfl, rfl⟩ := H
         obtain ⟨Ao22, co22, eo22⟩ := Kd.R_slice HO_4.out
         subst eo22
         go_wp2
         go_ret2
         exact ⟨_, by first | rfl | (simp [errW_none, errW_some] <;> rfl) | (simp [*, errW_none, errW_some] <;> rfl), by first | exact Kd.R_nil _ _ _ _ _ | exact Kd.N_nil _ _ _ _ _ | exact Kd.V_nil _ _ _ _ _ | exact Kd.Q_nil _ _ _ _ _ | exact Kd.S_nil _ _ _ _ _, by repeat (first | (with_reducible first | exact HB.out | apply below_alloc | apply pw_below_drewN | apply below_drew1) | exact HB.out)⟩
        ·rw [if_neg c21] at H
         have c21b0 : decide (200 < (x4_2.length : Int)) = false := decide_eq_false c21
         have c21b1 : decide (200 < x4_2.length) = false := decide_eq_false (by omega)
         clear c21
         simp only [Option.some.injEq, Prod.mk.injEq] at H
         obtain ⟨rfl, rfl⟩ := H
         obtain ⟨Ao23, co23, eo23⟩ := Kd.R_slice HO_4.out
         subst eo23
         go_wp2
         go_ret2
         exact ⟨_, by first | rfl | (simp [errW_none, errW_some] <;> rfl) | (simp [*, errW_none, errW_some] <;> rfl), by (with_reducible repeat (first | apply Kd.R_alloc | apply Kd.R_drewN | apply Kd.R_drew)); exact HO_4.out, by repeat (first | (with_reducible first | exact HB.out | apply below_alloc | apply pw_below_drewN | apply below_drew1) | exact HB.out)⟩
def rf_Words.l0 : Nat → ByteArray → List ByteArray → Int → Int → Option (List ByteArray)
 | 0, _, _, _, _ => none
 | k + 1, x0, x3, x4, x5 => if x5 ≤ (x0.size : Int) then (if x5 = (x0.size : Int) then (if 0 ≤ x4 then (if x4 ≤ x5 then (if x3.length < 8796093022208 then (rf_Words.l0 k x0 (x3 ++ [x0.extract (x4 : Int).toNat (x5 : Int).toNat]) (wrap64 (x5 + 1)) (wrap64 (x5 + 1))) else (none)) else (none)) else (none)) else (if 0 ≤ x5 then (if x5 < (x0.size : Int) then (if (bt x0 x5) = 32 then (if 0 ≤ x4 then (if x4 ≤ x5 then (if x3.length < 8796093022208 then (rf_Words.l0 k x0 (x3 ++ [x0.extract (x4 : Int).toNat (x5 : Int).toNat]) (wrap64 (x5 + 1)) (wrap64 (x5 + 1))) else (none)) else (none)) else (none)) else (rf_Words.l0 k x0 x3 x4 (wrap64 (x5 + 1)))) else (none)) else (none))) else (some x3)
def rf_Words.f (k : Nat) (a0 : ByteArray) : Option (List ByteArray) := rf_Words.l0 k a0 (([] : List ByteArray)) 0 0
set_option maxHeartbeats 8000000 in
set_option maxRecDepth 100000 in
theorem rf_Words.calls (k : Nat) (a0 : ByteArray) (r : List ByteArray) (w : World) (h : rf_Words.f k a0 = some r) :
  Calls Tryz.prog 30 #[.string a0] w fun e w' => ∃ v0_ : Value, e = .returned (v0_) ∧ Kd.R Kd.string 9 w' w.heap.size (fun _ => True) v0_ r ∧ Below w.heap.size w w' := by
 have HB := Aside0.mk (Below.refl w.heap.size w)
 have H : (rf_Words.l0 k a0 (([] : List ByteArray)) 0 0) = some r := h
 clear h
 obtain ⟨y221, hy221⟩ : ∃ y_ : List ByteArray, y_ = (([] : List ByteArray)) := ⟨_, rfl⟩
 replace H : (rf_Words.l0 k a0 y221 0 0) = some r := by first | (rw [hy221]; with_reducible exact H) | (have H2_ := (Option.bind_some _ _).symm.trans H; rw [hy221]; with_reducible exact H2_) | (have H2_ := (Option.bind_some _ _).symm.trans H; with_reducible exact H2_) | with_reducible exact H | (rw [hy221]; exact H) | exact H
 have Ny221 := Aside0.mk hy221
 clear hy221
 have H' := Aside0.mk H
 clear H
 go_enter Tryz.func30, Tryz.ntmps30
 go_wp2_with (first | ((with_reducible refine gate_dst (N := 6) rfl ?_); refine Kd.R_lit Kd.string _ 9 ?hg (N := 6) ?hd (xs := ([] : List ByteArray)) (inner := []) (ok := fun _ => True) (okp := fun _ => True) ?hr ?hp (fun _ hk => hk) trivial (Below.refl _ _) (Nat.le_refl _) (by simp) ?_; (case hd => rfl); (case hg => rfl); (case hr => first | (go_simp; done) | (go_simp; rfl)); (case hp => exact (Reps.none _ _)); intro v222 w2 ho3 hb hg_ hnew_; clear hg_ hnew_; (first | rw [← Ny221.out] at ho3 | (simp only [Int.reduceToNat] at ho3; rw [← Ny221.out] at ho3)); have n0_ := Aside0.mk (Kd.R_lower ho3 (below_size (by repeat (first | (with_reducible first | exact HB.out | apply below_alloc | apply pw_below_drewN | apply below_drew1) | exact HB.out)))); have n1_ := Aside0.mk (below_step (by repeat (first | (with_reducible first | exact HB.out | apply below_alloc | apply pw_below_drewN | apply below_drew1) | exact HB.out)) hb); clear HB; have HO223 := n0_; have HB := n1_; clear n0_ n1_; clear hb ho3))
 go_loopg [3, 4, 5] k (fun kq v3 v4 v5 w' => ∃ (x3_1 : List ByteArray) (x4_1 : Int) (x5_1 : Int), v4 = .int .i64 x4_1 ∧ v5 = .int .i64 x5_1 ∧ Aside0 (rf_Words.l0 kq a0 x3_1 x4_1 x5_1 = some r) ∧ Aside0 (kq ≤ k) ∧ Aside0 (Kd.R Kd.string 9 w' w.heap.size (fun _ => True) v3 x3_1) ∧ Aside0 (Below w.heap.size w w'))
 case atStart => exact ⟨(y221), (0), (0), (by first | rfl | (simp; done) | (simp [*]; done)), (by first | rfl | (simp; done) | (simp [*]; done)), H', ⟨Nat.le_refl _⟩, ⟨by (with_reducible repeat (first | apply Kd.R_alloc | apply Kd.R_drewN | apply Kd.R_drew)); exact HO223.out⟩, ⟨by repeat (first | (with_reducible first | exact HB.out | apply below_alloc | apply pw_below_drewN | apply below_drew1) | exact HB.out)⟩⟩
 case round =>
  clear H'
  try clear p2
  try clear c3
  obtain ⟨x3_1, x4_1, x5_1, rfl, rfl, HA, HK1, HO_3, HB⟩ := hrel
  cases gk with
  | zero => exact absurd HA.out (by simp [rf_Words.l0])
  | succ k1 =>
   have H := HA.out
   clear HA
   simp only [rf_Words.l0] at H
   by_cases c4 : x5_1 ≤ (a0.size : Int)
   ·rw [if_pos c4] at H
    have c4b0 : decide (x5_1 ≤ (a0.size : Int)) = true := decide_eq_true c4
    clear c4
    by_cases c5 : x5_1 = (a0.size : Int)
    ·rw [if_pos c5] at H
     have c5b0 : (x5_1 == (a0.size : Int)) = true := beq_iff_eq.mpr c5
     have c5b1 : (x5_1 != (a0.size : Int)) = false := bne_eq_false_iff_eq.mpr c5
     clear c5
     by_cases c6 : 0 ≤ x4_1
     ·rw [if_pos c6] at H
      have c6b0 := eq_true c6
      have c6b1 : decide (0 ≤ x4_1) = true := decide_eq_true c6
      clear c6
      by_cases c7 : x4_1 ≤ x5_1
      ·rw [if_pos c7] at H
       have c7b0 := eq_true c7
       have c7b1 : decide (x4_1 ≤ x5_1) = true := decide_eq_true c7
       clear c7
       have c8b0 := eq_true (of_decide_eq_true (by first | (with_reducible assumption) | assumption) : x5_1 ≤ (a0.size : Int))
       by_cases c9 : x3_1.length < 8796093022208
       ·rw [if_pos c9] at H
        have LMc9 := Aside0.mk c9
        clear c9
        obtain ⟨y224, hy224⟩ : ∃ y_ : List ByteArray, y_ = (x3_1 ++ [a0.extract (x4_1 : Int).toNat (x5_1 : Int).toNat]) := ⟨_, rfl⟩
        replace H : (rf_Words.l0 k1 a0 y224 (wrap64 (x5_1 + 1)) (wrap64 (x5_1 + 1))) = some r := by first | (rw [hy224]; with_reducible exact H) | (have H2_ := (Option.bind_some _ _).symm.trans H; rw [hy224]; with_reducible exact H2_) | (have H2_ := (Option.bind_some _ _).symm.trans H; with_reducible exact H2_) | with_reducible exact H | (rw [hy224]; exact H) | exact H
        have Ny224 := Aside0.mk hy224
        clear hy224
        have H' := Aside0.mk H
        clear H
        go_wp2_with (first | ((with_reducible refine gate_builtin (b := .append) (xs := #[.tmp 23, .tmp 28]) rfl ?_); at_builtin; refine Kd.R_append Kd.string (w0 := w) w.heap.size rfl (.tmp 23) (.tmp 28) 68 9 (.string ⟨#[]⟩) 16 rfl Tryz.underlying68 info9 rfl (by decide) (by omega) u3 x3_1 (a0.extract (x4_1 : Int).toNat (x5_1 : Int).toNat) [.string (a0.extract (x4_1 : Int).toNat (x5_1 : Int).toNat)] (fun _ => True) (fun _ => False) rfl rfl ?aP (fun _ hk => hk.elim) ?aF ?aO ?aB ?aS ?aL ?_; (case aP => exact rfl); (case aB => exact (by repeat (first | (with_reducible first | exact HB.out | apply below_alloc | apply pw_below_drewN | apply below_drew1) | exact HB.out))); (case aF => exact (fun _ _ => trivial)); (case aO => exact (by (with_reducible repeat (first | apply Kd.R_alloc | apply Kd.R_drewN | apply Kd.R_drew)); exact HO_3.out)); (case aS => exact (below_size (by repeat (first | (with_reducible first | exact HB.out | apply below_alloc | apply pw_below_drewN | apply below_drew1) | exact HB.out)))); (case aL => have := LMc9.out; omega); intro v225 w10 ho hb hg hat; rw [← Ny224.out] at ho; have n0_ := Aside0.mk (hb); have n1_ := Aside0.mk (ho); clear HB; clear HO_3; have HB := n0_; have HO226 := n1_; clear n0_ n1_; clear ho hb hg hat))
        go_roundg k1
        case measure => have := HK1.out; omega
        case rel => exact ⟨(y224), (wrap64 (x5_1 + 1)), (wrap64 (x5_1 + 1)), (by first | rfl | (simp; done) | (simp [*]; done)), (by first | rfl | (simp; done) | (simp [*]; done)), H', ⟨by have := HK1.out; omega⟩, ⟨by (with_reducible repeat (first | apply Kd.R_alloc | apply Kd.R_drewN | apply Kd.R_drew)); exact HO226.out⟩, ⟨by repeat (first | (with_reducible first | exact HB.out | apply below_alloc | apply pw_below_drewN | apply below_drew1) | exact HB.out)⟩⟩
       ·rw [if_neg c9] at H
        exact absurd H (by simp)
      ·rw [if_neg c7] at H
       exact absurd H (by simp)
     ·rw [if_neg c6] at H
      exact absurd H (by simp)
    ·rw [if_neg c5] at H
     have c5b0 : (x5_1 == (a0.size : Int)) = false := beq_eq_false_iff_ne.mpr c5
     have c5b1 : (x5_1 != (a0.size : Int)) = true := bne_iff_ne.mpr c5
     by_cases c11 : 0 ≤ x5_1
     ·rw [if_pos c11] at H
      have c11b0 : decide (0 ≤ x5_1) = true := decide_eq_true c11
      clear c11
      by_cases c12 : x5_1 < (a0.size : Int)
      ·rw [if_pos c12] at H
       have c12b0 : decide (x5_1 < (a0.size : Int)) = true := decide_eq_true c12
       clear c12
       by_cases c14 : (bt a0 x5_1) = 32
       ·rw [if_pos c14] at H
        have c14b0 : ((bt a0 x5_1) == 32) = true := beq_iff_eq.mpr c14
        have c14b1 : ((bt a0 x5_1) != 32) = false := bne_eq_false_iff_eq.mpr c14
        clear c14
        by_cases c15 : 0 ≤ x4_1
        ·rw [if_pos c15] at H
         have c15b0 := eq_true c15
         have c15b1 : decide (0 ≤ x4_1) = true := decide_eq_true c15
         clear c15
         by_cases c16 : x4_1 ≤ x5_1
         ·rw [if_pos c16] at H
          have c16b0 := eq_true c16
          have c16b1 : decide (x4_1 ≤ x5_1) = true := decide_eq_true c16
          clear c16
          have c17b0 := eq_true (of_decide_eq_true (by first | (with_reducible assumption) | assumption) : x5_1 ≤ (a0.size : Int))
          by_cases c18 : x3_1.length < 8796093022208
          ·rw [if_pos c18] at H
           have LMc18 := Aside0.mk c18
           clear c18
           obtain ⟨y227, hy227⟩ : ∃ y_ : List ByteArray, y_ = (x3_1 ++ [a0.extract (x4_1 : Int).toNat (x5_1 : Int).toNat]) := ⟨_, rfl⟩
           replace H : (rf_Words.l0 k1 a0 y227 (wrap64 (x5_1 + 1)) (wrap64 (x5_1 + 1))) = some r := by first | (rw [hy227]; with_reducible exact H) | (have H2_ := (Option.bind_some _ _).symm.trans H; rw [hy227]; with_reducible exact H2_) | (have H2_ := (Option.bind_some _ _).symm.trans H; with_reducible exact H2_) | with_reducible exact H | (rw [hy227]; exact H) | exact H
           have Ny227 := Aside0.mk hy227
           clear hy227
           have H' := Aside0.mk H
           clear H
           have p13 : 0 ≤ (x5_1 : Int) := of_decide_eq_true (by first | (with_reducible assumption) | assumption)
           have q13 : x5_1 < (a0.size : Int) := of_decide_eq_true (by first | (with_reducible assumption) | assumption)
           have hx13 := bt_at a0 x5_1
           replace p13 := eq_true p13
           replace q13 := eq_true q13
           go_wp2_with (first | ((with_reducible refine gate_builtin (b := .append) (xs := #[.tmp 23, .tmp 28]) rfl ?_); at_builtin; refine Kd.R_append Kd.string (w0 := w) w.heap.size rfl (.tmp 23) (.tmp 28) 68 9 (.string ⟨#[]⟩) 16 rfl Tryz.underlying68 info9 rfl (by decide) (by omega) u3 x3_1 (a0.extract (x4_1 : Int).toNat (x5_1 : Int).toNat) [.string (a0.extract (x4_1 : Int).toNat (x5_1 : Int).toNat)] (fun _ => True) (fun _ => False) rfl rfl ?aP (fun _ hk => hk.elim) ?aF ?aO ?aB ?aS ?aL ?_; (case aP => exact rfl); (case aB => exact (by repeat (first | (with_reducible first | exact HB.out | apply below_alloc | apply pw_below_drewN | apply below_drew1) | exact HB.out))); (case aF => exact (fun _ _ => trivial)); (case aO => exact (by (with_reducible repeat (first | apply Kd.R_alloc | apply Kd.R_drewN | apply Kd.R_drew)); exact HO_3.out)); (case aS => exact (below_size (by repeat (first | (with_reducible first | exact HB.out | apply below_alloc | apply pw_below_drewN | apply below_drew1) | exact HB.out)))); (case aL => have := LMc18.out; omega); intro v228 w19 ho hb hg hat; rw [← Ny227.out] at ho; have n0_ := Aside0.mk (hb); have n1_ := Aside0.mk (ho); clear HB; clear HO_3; have HB := n0_; have HO229 := n1_; clear n0_ n1_; clear ho hb hg hat))
           go_roundg k1
           case measure => have := HK1.out; omega
           case rel => exact ⟨(y227), (wrap64 (x5_1 + 1)), (wrap64 (x5_1 + 1)), (by first | rfl | (simp; done) | (simp [*]; done)), (by first | rfl | (simp; done) | (simp [*]; done)), H', ⟨by have := HK1.out; omega⟩, ⟨by (with_reducible repeat (first | apply Kd.R_alloc | apply Kd.R_drewN | apply Kd.R_drew)); exact HO229.out⟩, ⟨by repeat (first | (with_reducible first | exact HB.out | apply below_alloc | apply pw_below_drewN | apply below_drew1) | exact HB.out)⟩⟩
          ·rw [if_neg c18] at H
           exact absurd H (by simp)
         ·rw [if_neg c16] at H
          exact absurd H (by simp)
        ·rw [if_neg c15] at H
         exact absurd H (by simp)
       ·rw [if_neg c14] at H
        have c14b0 : ((bt a0 x5_1) == 32) = false := beq_eq_false_iff_ne.mpr c14
        have c14b1 : ((bt a0 x5_1) != 32) = true := bne_iff_ne.mpr c14
        have H' := Aside0.mk H
        clear H
        have p13 : 0 ≤ (x5_1 : Int) := of_decide_eq_true (by first | (with_reducible assumption) | assumption)
        have q13 : x5_1 < (a0.size : Int) := of_decide_eq_true (by first | (with_reducible assumption) | assumption)
        have hx13 := bt_at a0 x5_1
        replace p13 := eq_true p13
        replace q13 := eq_true q13
        go_wp2
        go_roundg k1
        case measure => have := HK1.out; omega
        case rel => exact ⟨(x3_1), (x4_1), (wrap64 (x5_1 + 1)), (by first | rfl | (simp; done) | (simp [*]; done)), (by first | rfl | (simp; done) | (simp [*]; done)), H', ⟨by have := HK1.out; omega⟩, ⟨by (with_reducible repeat (first | apply Kd.R_alloc | apply Kd.R_drewN | apply Kd.R_drew)); exact HO_3.out⟩, ⟨by repeat (first | (with_reducible first | exact HB.out | apply below_alloc | apply pw_below_drewN | apply below_drew1) | exact HB.out)⟩⟩
      ·rw [if_neg c12] at H
       exact absurd H (by simp)
     ·rw [if_neg c11] at H
      exact absurd H (by simp)
   ·rw [if_neg c4] at H
    have c4b0 : decide (x5_1 ≤ (a0.size : Int)) = false := decide_eq_false c4
    clear c4
    obtain rfl := Option.some.inj H
    go_wp2
    go_ret
    exact ⟨_, by first | rfl | (simp [errW_none, errW_some] <;> rfl) | (simp [*, errW_none, errW_some] <;> rfl), by (with_reducible repeat (first | apply Kd.R_alloc | apply Kd.R_drewN | apply Kd.R_drew)); exact HO_3.out, by repeat (first | (with_reducible first | exact HB.out | apply below_alloc | apply pw_below_drewN | apply below_drew1) | exact HB.out)⟩
def rf_Digits.l0 : Nat → ByteArray → Int → Int → Option (Int × Int)
 | 0, _, _, _ => none
 | k + 1, x0, x4, x5 => if x5 < (x0.size : Int) then (if x5 < 6 then (if 0 ≤ x5 then (if (bt x0 x5) ≥ 48 then (if (bt x0 x5) ≤ 57 then (rf_Digits.l0 k x0 (wrap64 ((wrap64 (10 * x4)) + (((bt x0 x5) - 48) % 256))) (wrap64 (x5 + 1))) else (some (x4, x5))) else (some (x4, x5))) else (none)) else (some (x4, x5))) else (some (x4, x5))
def rf_Digits.f (k : Nat) (a0 : ByteArray) : Option (Int × Int) := rf_Digits.l0 k a0 0 0
set_option maxHeartbeats 8000000 in
set_option maxRecDepth 100000 in
theorem rf_Digits.calls (k : Nat) (a0 : ByteArray) (r1 : Int) (r2 : Int) (w : World) (h : rf_Digits.f k a0 = some (r1, r2)) :
  Calls Tryz.prog 31 #[.string a0] w fun e w' => e = .returned (.tuple #[.int .i64 r1, .int .i64 r2]) ∧ Drawn0 w w' := by
 have H : (rf_Digits.l0 k a0 0 0) = some (r1, r2) := h
 clear h
 have H' := Aside0.mk H
 clear H
 go_enter Tryz.func31, Tryz.ntmps31
 go_wp2
 go_loopg [4, 5] k (fun kq v4 v5 w' => ∃ (x4_1 : Int) (x5_1 : Int), v4 = .int .i64 x4_1 ∧ v5 = .int .i64 x5_1 ∧ Aside0 (rf_Digits.l0 kq a0 x4_1 x5_1 = some (r1, r2)) ∧ Aside0 (kq ≤ k) ∧ Drawn0 w w')
 case atStart => exact ⟨(0), (0), (by first | rfl | (simp; done) | (simp [*]; done)), (by first | rfl | (simp; done) | (simp [*]; done)), H', ⟨Nat.le_refl _⟩, by repeat (first | exact Drawn0.refl _ | apply Drawn0.step)⟩
 case round =>
  clear H'
  obtain ⟨x4_1, x5_1, rfl, rfl, HA, HK1, ⟨m1, rfl⟩⟩ := hrel
  cases gk with
  | zero => exact absurd HA.out (by simp [rf_Digits.l0])
  | succ k1 =>
   have H := HA.out
   clear HA
   simp only [rf_Digits.l0] at H
   by_cases c2 : x5_1 < (a0.size : Int)
   ·rw [if_pos c2] at H
    have c2b0 : decide (x5_1 < (a0.size : Int)) = true := decide_eq_true c2
    clear c2
    by_cases c3 : x5_1 < 6
    ·rw [if_pos c3] at H
     have c3b0 : decide (x5_1 < 6) = true := decide_eq_true c3
     clear c3
     by_cases c4 : 0 ≤ x5_1
     ·rw [if_pos c4] at H
      have c4b0 : decide (0 ≤ x5_1) = true := decide_eq_true c4
      clear c4
      by_cases c6 : (bt a0 x5_1) ≥ 48
      ·rw [if_pos c6] at H
       have c6b0 : decide (48 ≤ (bt a0 x5_1)) = true := decide_eq_true c6
       clear c6
       by_cases c8 : (bt a0 x5_1) ≤ 57
       ·rw [if_pos c8] at H
        have c8b0 : decide ((bt a0 x5_1) ≤ 57) = true := decide_eq_true c8
        clear c8
        have H' := Aside0.mk H
        clear H
        have p5 : 0 ≤ (x5_1 : Int) := of_decide_eq_true (by first | (with_reducible assumption) | assumption)
        have q5 : x5_1 < (a0.size : Int) := of_decide_eq_true (by first | (with_reducible assumption) | assumption)
        have hx5 := bt_at a0 x5_1
        replace p5 := eq_true p5
        replace q5 := eq_true q5
        have p7 : 0 ≤ (x5_1 : Int) := of_decide_eq_true (by first | (with_reducible assumption) | assumption)
        have q7 : x5_1 < (a0.size : Int) := of_decide_eq_true (by first | (with_reducible assumption) | assumption)
        have hx7 := bt_at a0 x5_1
        replace p7 := eq_true p7
        replace q7 := eq_true q7
        have p9 : 0 ≤ (x5_1 : Int) := of_decide_eq_true (by first | (with_reducible assumption) | assumption)
        have q9 : x5_1 < (a0.size : Int) := of_decide_eq_true (by first | (with_reducible assumption) | assumption)
        have hx9 := bt_at a0 x5_1
        replace p9 := eq_true p9
        replace q9 := eq_true q9
        go_wp2
        go_roundg k1
        case measure => have := HK1.out; omega
        case rel => exact ⟨(wrap64 ((wrap64 (10 * x4_1)) + (((bt a0 x5_1) - 48) % 256))), (wrap64 (x5_1 + 1)), (by first | rfl | (simp; done) | (simp [*]; done)), (by first | rfl | (simp; done) | (simp [*]; done)), H', ⟨by have := HK1.out; omega⟩, by repeat (first | exact Drawn0.refl _ | apply Drawn0.step)⟩
       ·rw [if_neg c8] at H
        have c8b0 : decide ((bt a0 x5_1) ≤ 57) = false := decide_eq_false c8
        clear c8
        simp only [Option.some.injEq, Prod.mk.injEq] at H
        obtain ⟨rfl, rfl⟩ := H
        have p5 : 0 ≤ (x5_1 : Int) := of_decide_eq_true (by first | (with_reducible assumption) | assumption)
        have q5 : x5_1 < (a0.size : Int) := of_decide_eq_true (by first | (with_reducible assumption) | assumption)
        have hx5 := bt_at a0 x5_1
        replace p5 := eq_true p5
        replace q5 := eq_true q5
        have p7 : 0 ≤ (x5_1 : Int) := of_decide_eq_true (by first | (with_reducible assumption) | assumption)
        have q7 : x5_1 < (a0.size : Int) := of_decide_eq_true (by first | (with_reducible assumption) | assumption)
        have hx7 := bt_at a0 x5_1
        replace p7 := eq_true p7
        replace q7 := eq_true q7
        go_wp2
        go_ret2
        exact ⟨by first | rfl | (simp; done) | (simp [*]; done), by repeat (first | exact Drawn0.refl _ | apply Drawn0.step)⟩
      ·rw [if_neg c6] at H
       have c6b0 : decide (48 ≤ (bt a0 x5_1)) = false := decide_eq_false c6
       clear c6
       simp only [Option.some.injEq, Prod.mk.injEq] at H
       obtain ⟨rfl, rfl⟩ := H
       have p5 : 0 ≤ (x5_1 : Int) := of_decide_eq_true (by first | (with_reducible assumption) | assumption)
       have q5 : x5_1 < (a0.size : Int) := of_decide_eq_true (by first | (with_reducible assumption) | assumption)
       have hx5 := bt_at a0 x5_1
       replace p5 := eq_true p5
       replace q5 := eq_true q5
       go_wp2
       go_ret2
       exact ⟨by first | rfl | (simp; done) | (simp [*]; done), by repeat (first | exact Drawn0.refl _ | apply Drawn0.step)⟩
     ·rw [if_neg c4] at H
      exact absurd H (by simp)
    ·rw [if_neg c3] at H
     have c3b0 : decide (x5_1 < 6) = false := decide_eq_false c3
     clear c3
     simp only [Option.some.injEq, Prod.mk.injEq] at H
     obtain ⟨rfl, rfl⟩ := H
     go_wp2
     go_ret2
     exact ⟨by first | rfl | (simp; done) | (simp [*]; done), by repeat (first | exact Drawn0.refl _ | apply Drawn0.step)⟩
   ·rw [if_neg c2] at H
    have c2b0 : decide (x5_1 < (a0.size : Int)) = false := decide_eq_false c2
    clear c2
    simp only [Option.some.injEq, Prod.mk.injEq] at H
    obtain ⟨rfl, rfl⟩ := H
    go_wp2
    go_ret2
    exact ⟨by first | rfl | (simp; done) | (simp [*]; done), by repeat (first | exact Drawn0.refl _ | apply Drawn0.step)⟩
def lw_equal.l0 : Nat → List Int → List Int → Int → Option (Bool)
 | 0, _, _, _ => none
 | k + 1, x0, x1, x5 => if x5 < (x0.length : Int) then (if 0 ≤ x5 then (if x5 < (x1.length : Int) then (if (rd x0 x5) = (rd x1 x5) then (lw_equal.l0 k x0 x1 (wrap64 (x5 + 1))) else (some false)) else (none)) else (none)) else (some true)
def lw_equal.f (k : Nat) (l0 : List Int) (l1 : List Int) : Option (Bool) := if (l0.length : Int) = (l1.length : Int) then (lw_equal.l0 k l0 l1 0) else (some false)
set_option maxHeartbeats 8000000 in
set_option maxRecDepth 100000 in
theorem lw_equal.calls (k : Nat) (A0 : Option Addr) (c0 : Nat) (l0 : List Int) (A1 : Option Addr) (c1 : Nat) (l1 : List Int) (r : Bool) (w : World) (hr0 : Kd.C (Kd.int .i64) w A0 l0.length l0) (hc0 : l0.length ≤ c0) (hr1 : Kd.C (Kd.int .i64) w A1 l1.length l1) (hc1 : l1.length ≤ c1) (h : lw_equal.f k l0 l1 = some r) :
  Calls Tryz.prog 32 #[.slice A0 l0.length c0, .slice A1 l1.length c1] w fun e w' => e = .returned (.bool r) ∧ Drawn0 w w' := by
 have HR0 := Aside0.mk hr0
 have HC0 := Aside0.mk hc0
 clear hr0 hc0
 have HR1 := Aside0.mk hr1
 have HC1 := Aside0.mk hc1
 clear hr1 hc1
 have H : (if (l0.length : Int) = (l1.length : Int) then (lw_equal.l0 k l0 l1 0) else (some false)) = some r := h
 clear h
 by_cases c3 : (l0.length : Int) = (l1.length : Int)
 ·rw [if_pos c3] at H
  have c3b0 : ((l0.length : Int) == (l1.length : Int)) = true := beq_iff_eq.mpr c3
  have c3b1 : ((l0.length : Int) != (l1.length : Int)) = false := bne_eq_false_iff_eq.mpr c3
  have c3b2 : (l0.length == l1.length) = true := by first | simpa using c3 | (simp at c3 ⊢; omega)
  clear c3
  have H' := Aside0.mk H
  clear H
  go_enter Tryz.func32, Tryz.ntmps32
  go_wp2
  repeat (go_quiet (fail); try go_wp2)
  go_loopg [5] k (fun kq v5 w' => ∃ (x5_1 : Int), v5 = .int .i64 x5_1 ∧ Aside0 (lw_equal.l0 kq l0 l1 x5_1 = some r) ∧ Aside0 (kq ≤ k) ∧ Drawn0 w w')
  case atStart => exact ⟨(0), (by first | rfl | (simp; done) | (simp [*]; done)), H', ⟨Nat.le_refl _⟩, by repeat (first | exact Drawn0.refl _ | apply Drawn0.step)⟩
  case round =>
   clear H'
   try clear c1
   try clear p2
   try clear c3
   try clear c3b0
   try clear c3b1
   try clear c3b2
   obtain ⟨x5_1, rfl, HA, HK1, ⟨m1, rfl⟩⟩ := hrel
   cases gk with
   | zero => exact absurd HA.out (by simp [lw_equal.l0])
   | succ k1 =>
    have H := HA.out
    clear HA
    simp only [lw_equal.l0] at H
    by_cases c4 : x5_1 < (l0.length : Int)
    ·rw [if_pos c4] at H
     have c4b0 : decide (x5_1 < (l0.length : Int)) = true := decide_eq_true c4
     clear c4
     by_cases c5 : 0 ≤ x5_1
     ·rw [if_pos c5] at H
      have c5b0 : decide (0 ≤ x5_1) = true := decide_eq_true c5
      clear c5
      by_cases c6 : x5_1 < (l1.length : Int)
      ·rw [if_pos c6] at H
       have c6b0 : decide (x5_1 < (l1.length : Int)) = true := decide_eq_true c6
       clear c6
       by_cases c7 : (rd l0 x5_1) = (rd l1 x5_1)
       ·rw [if_pos c7] at H
        have c7b0 : ((rd l0 x5_1) == (rd l1 x5_1)) = true := beq_iff_eq.mpr c7
        have c7b1 : ((rd l0 x5_1) != (rd l1 x5_1)) = false := bne_eq_false_iff_eq.mpr c7
        clear c7
        have H' := Aside0.mk H
        clear H
        have p238 : 0 ≤ (x5_1 : Int) := of_decide_eq_true (by first | (with_reducible assumption) | assumption)
        have q238 : x5_1 < (l0.length : Int) := of_decide_eq_true (by first | (with_reducible assumption) | assumption)
        obtain ⟨ad238, e238, hx238_0⟩ := Kd.at_int HR0.out x5_1 p238 q238
        cases e238
        replace p238 := eq_true p238
        replace q238 := eq_true q238
        have p239 : 0 ≤ (x5_1 : Int) := of_decide_eq_true (by first | (with_reducible assumption) | assumption)
        have q239 : x5_1 < (l1.length : Int) := of_decide_eq_true (by first | (with_reducible assumption) | assumption)
        obtain ⟨ad239, e239, hx239_0⟩ := Kd.at_int HR1.out x5_1 p239 q239
        cases e239
        replace p239 := eq_true p239
        replace q239 := eq_true q239
        go_wp2
        repeat (go_quiet (fail); try go_wp2)
        go_roundg k1
        case measure => have := HK1.out; omega
        case rel => exact ⟨(wrap64 (x5_1 + 1)), (by first | rfl | (simp; done) | (simp [*]; done)), H', ⟨by have := HK1.out; omega⟩, by repeat (first | exact Drawn0.refl _ | apply Drawn0.step)⟩
       ·rw [if_neg c7] at H
        have c7b0 : ((rd l0 x5_1) == (rd l1 x5_1)) = false := beq_eq_false_iff_ne.mpr c7
        have c7b1 : ((rd l0 x5_1) != (rd l1 x5_1)) = true := bne_iff_ne.mpr c7
        obtain rfl := Option.some.inj H
        have p238 : 0 ≤ (x5_1 : Int) := of_decide_eq_true (by first | (with_reducible assumption) | assumption)
        have q238 : x5_1 < (l0.length : Int) := of_decide_eq_true (by first | (with_reducible assumption) | assumption)
        obtain ⟨ad238, e238, hx238_0⟩ := Kd.at_int HR0.out x5_1 p238 q238
        cases e238
        replace p238 := eq_true p238
        replace q238 := eq_true q238
        have p239 : 0 ≤ (x5_1 : Int) := of_decide_eq_true (by first | (with_reducible assumption) | assumption)
        have q239 : x5_1 < (l1.length : Int) := of_decide_eq_true (by first | (with_reducible assumption) | assumption)
        obtain ⟨ad239, e239, hx239_0⟩ := Kd.at_int HR1.out x5_1 p239 q239
        cases e239
        replace p239 := eq_true p239
        replace q239 := eq_true q239
        go_wp2
        repeat (go_quiet (fail); try go_wp2)
        go_ret
        exact ⟨by first | rfl | (simp; done) | (simp [*]; done), by repeat (first | exact Drawn0.refl _ | apply Drawn0.step)⟩
      ·rw [if_neg c6] at H
       exact absurd H (by simp)
     ·rw [if_neg c5] at H
      exact absurd H (by simp)
    ·rw [if_neg c4] at H
     have c4b0 : decide (x5_1 < (l0.length : Int)) = false := decide_eq_false c4
     clear c4
     obtain rfl := Option.some.inj H
     go_wp2
     repeat (go_quiet (fail); try go_wp2)
     go_ret
     exact ⟨by first | rfl | (simp; done) | (simp [*]; done), by repeat (first | exact Drawn0.refl _ | apply Drawn0.step)⟩
 ·rw [if_neg c3] at H
  have c3b0 : ((l0.length : Int) == (l1.length : Int)) = false := beq_eq_false_iff_ne.mpr c3
  have c3b1 : ((l0.length : Int) != (l1.length : Int)) = true := bne_iff_ne.mpr c3
  have c3b2 : (l0.length == l1.length) = false := by first | simpa using c3 | (simp at c3 ⊢; omega)
  obtain rfl := Option.some.inj H
  go_enter Tryz.func32, Tryz.ntmps32
  go_wp2
  repeat (go_quiet (fail); try go_wp2)
  go_ret
  exact ⟨by first | rfl | (simp; done) | (simp [*]; done), by repeat (first | exact Drawn0.refl _ | apply Drawn0.step)⟩
end Go.Proofs.YtdomcbebbhbdlaaGreatDoor.PLogsBills
namespace Go.Proofs.Lg
open Go.RowKit Go.Proofs.YtdomcbebbhbdlaaGreatDoorW.PrintWords Go.Proofs.YtdomcbebbhbdlaaGreatDoorW.PrintLast Go.Proofs.YtdomcbebbhbdlaaGreatDoorW.PrintMore
theorem within1 (n lo hi : Int) (p q : Addr) (w : World) (hp : w.cell? p = some (.int .i64 lo)) (hq : w.cell? q = some (.int .i64 hi)) :
  Calls Tryz.prog 70 #[.int .i64 n, .pointer (some p), .pointer (some q)] w fun e w' => e = .returned (.bool (decide (n < lo) || decide (hi < n))) ∧ w' = w := by
 go_enter Tryz.func70, Tryz.ntmps70
 by_cases h1 : n < lo
 ·have h1b : decide (n < lo) = true := decide_eq_true h1
  go_wp2
  go_ret
  simp [h1]
 ·have h1b : decide (n < lo) = false := decide_eq_false h1
  go_wp2
  go_ret
  simp [h1]
def inside (lo hi : Int) (l : List Int) : Bool := l.all fun n => !(decide (n < lo) || decide (hi < n))
theorem rd_nat (l : List Int) {i : Nat} (h : i < l.length) : rd l (i : Int) = l[i] := by
 simp [rd, h]
theorem inside_out {lo hi : Int} {l : List Int} {i : Nat} (h : i < l.length) (hb : (decide (rd l i < lo) || decide (hi < rd l i)) = true) : inside lo hi l = false := by
 rw [rd_nat l h] at hb
 unfold inside
 rw [List.all_eq_false]
 refine ⟨l[i], List.getElem_mem h, ?_⟩
 rw [hb]
 simp
theorem inside_step {lo hi : Int} {l : List Int} {i : Nat} (h : i < l.length) (h3 : inside lo hi (l.take i) = true) (hb : (decide (rd l i < lo) || decide (hi < rd l i)) = false) : inside lo hi (l.take (i + 1)) = true := by
 rw [rd_nat l h] at hb
 unfold inside at h3 ⊢
 rw [List.take_add_one, List.all_append, h3]
 simpa [h] using hb
theorem indexFunc (A : Option Addr) (c : Nat) (l : List Int) (lo hi : Int) (p q : Addr) (w : World) (hr : Kd.C (Kd.int .i64) w A l.length l) (hc : l.length ≤ c) (hl : l.length ≤ 1000000)
  (hp : w.cell? p = some (.int .i64 lo)) (hq : w.cell? q = some (.int .i64 hi)) :
  Calls Tryz.prog 100 #[.slice A l.length c, .func (.func 70) #[] #[.pointer (some p), .pointer (some q)]] w fun e w' => (∃ r : Int, e = .returned (.int .i64 r) ∧ decide (0 ≤ r) = !inside lo hi l) ∧ w' = w := by
 go_enter Tryz.func100, Tryz.ntmps100
 go_wp2
 go_loopg [8] (l.length + 1) (fun kq v8 w' => ∃ i : Nat, v8 = .int .i64 (i : Int) ∧ i ≤ l.length ∧ kq + i = l.length + 1 ∧ inside lo hi (l.take i) = true ∧ w' = w)
 case atStart => exact ⟨0, rfl, by omega, rfl, rfl, rfl⟩
 case round =>
  obtain ⟨i, rfl, h1, h2, h3, rfl⟩ := hrel
  by_cases hlt : i < l.length
  ·have hltb : decide ((i : Int) < (l.length : Int)) = true := decide_eq_true (by omega)
   obtain ⟨ad, rfl, hx⟩ := Kd.at_int hr (i : Int) (by omega) (by omega)
   simp only [Int.toNat_natCast] at hx
   have p128 : (0 ≤ (i : Int)) = True := eq_true (by omega)
   have q128 : ((i : Int) < (l.length : Int)) = True := eq_true (by omega)
   cases hb : (decide (rd l i < lo) || decide (hi < rd l i)) with
   | true =>
    go_wp2_with (go_at_call 70; refine (within1 (rd l i) lo hi p q _ hp hq).mono ?_; rw [hb]; rintro e w' ⟨rfl, rfl⟩)
    go_ret
    refine ⟨⟨_, rfl, ?_⟩, rfl⟩
    rw [inside_out hlt hb]
    simp
   | false =>
    go_wp2_with (go_at_call 70; refine (within1 (rd l i) lo hi p q _ hp hq).mono ?_; rw [hb]; rintro e w' ⟨rfl, rfl⟩)
    go_roundg (gk - 1)
    case measure => omega
    case rel => exact ⟨i + 1, by simp, by omega, by omega, inside_step hlt h3 hb, rfl⟩
  ·have hltb : decide ((i : Int) < (l.length : Int)) = false := decide_eq_false (by omega)
   go_wp2
   go_ret
   refine ⟨⟨_, rfl, ?_⟩, rfl⟩
   rw [List.take_of_length_le (by omega)] at h3
   rw [h3]
   rfl
theorem containsFunc (A : Option Addr) (c : Nat) (l : List Int) (lo hi : Int) (p q : Addr) (w : World) (hr : Kd.C (Kd.int .i64) w A l.length l) (hc : l.length ≤ c) (hl : l.length ≤ 1000000)
  (hp : w.cell? p = some (.int .i64 lo)) (hq : w.cell? q = some (.int .i64 hi)) :
  Calls Tryz.prog 69 #[.slice A l.length c, .func (.func 70) #[] #[.pointer (some p), .pointer (some q)]] w fun e w' => e = .returned (.bool (!inside lo hi l)) ∧ w' = w := by
 go_enter Tryz.func69, Tryz.ntmps69
 go_wp2_with (go_at_call 100; refine (indexFunc A c l lo hi p q _ hr hc hl hp hq).mono ?_; rintro e w' ⟨⟨r, rfl, hr2⟩, rfl⟩)
 go_ret
 exact ⟨by rw [← hr2]; rfl, rfl⟩
theorem within (A : Option Addr) (c : Nat) (l : List Int) (lo hi : Int) (w : World) (hr : Kd.C (Kd.int .i64) w A l.length l) (hc : l.length ≤ c) (hl : l.length ≤ 1000000) :
  Calls Tryz.prog 39 #[.int .i64 lo, .int .i64 hi, .slice A l.length c] w fun e w' => e = .returned (.bool (inside lo hi l)) ∧ Below w.heap.size w w' := by
 have HB := Aside0.mk (Below.refl w.heap.size w)
 go_enter Tryz.func39, Tryz.ntmps39
 go_wp2_with (go_at_call 69; refine (containsFunc A c l lo hi _ _ _ ((Kd.C_alloc (Kd.C_alloc hr _) _)) hc hl (by simp) (by simp)).mono ?_; rintro e w' ⟨rfl, rfl⟩)
 go_ret
 exact ⟨by simp, below_alloc (below_alloc HB.out _) _⟩
theorem conv_bytes (w : World) (b c : Nat) (xs : List Int) (hl : xs.length ≤ 1000000) (h : ∀ j, j < xs.length → w.cell? ⟨b, j, none⟩ = some (.int .u8 (xs.getD j 0))) :
  (convert 47 9 (.slice (some ⟨b, 0, none⟩) xs.length c)).run Tryz.prog w = .ok (.string (strOfNums xs)) w :=
 string_of_reads Tryz.underlying47 Tryz.underlying5 Tryz.underlying9 ⟨rfl, by omega, fun _ => ⟨_, rfl, fun j hj => by
  by_cases h0 : j = 0
  ·subst h0; simpa [Addr.add] using h 0 hj
  ·simpa [Addr.add, h0] using h j hj⟩⟩
theorem conv_byte (w : World) (b c : Nat) (x : Int) (h : w.cell? ⟨b, 0, none⟩ = some (.int .u8 x)) :
  (convert 47 9 (.slice (some ⟨b, 0, none⟩) 1 c)).run Tryz.prog w = .ok (.string (strOfNums [x])) w :=
 conv_bytes w b c [x] (by simp) fun j hj => by
  have : j = 0 := by simp at hj; omega
  subst this; simpa using h
theorem str_digit (n : Nat) : strOfNums [(48 : Int) + (n : Int)] = ⟨#[UInt8.ofNat (48 + n)]⟩ := by
 have : ((48 : Int) + (n : Int)).toNat = 48 + n := by omega
 simp [strOfNums, this]
set_option maxHeartbeats 8000000 in
set_option maxRecDepth 100000 in
theorem number_small (n : Nat) (hn : n < 10) (w : World) :
  Calls Tryz.prog 61 #[.int .i64 (n : Int)] w fun e w' => e = .returned (.string ⟨(Lib.decDigits n).toArray⟩) ∧ Below w.heap.size w w' := by
 have HB := Aside0.mk (Below.refl w.heap.size w)
 have b1 : decide ((n : Int) < -9) = false := decide_eq_false (by omega)
 have b2 : decide ((n : Int) < 0) = false := decide_eq_false (by omega)
 have b3 : decide ((n : Int) < 10) = true := decide_eq_true (by omega)
 have hcv := conv_byte (w.alloc (.cells #[.int .u8 (48 + (n : Int))] 5)) w.heap.size 1 (48 + (n : Int)) (by simp)
 go_enter Tryz.func61, Tryz.ntmps61
 go_wp2
 go_ret
 refine ⟨?_, below_alloc HB.out _⟩
 rw [Lib.decDigits, dif_pos hn]
 rw [str_digit]
 rfl
theorem decDigits_len : ∀ (u : Nat), (Lib.decDigits u).length ≤ u + 1 := by
 intro u
 induction u using Nat.strongRecOn with
 | _ u ih =>
  rw [Lib.decDigits]
  split
  ·simp
  ·have := ih (u / 10) (by omega)
   simp only [List.length_append, List.length_cons, List.length_nil]
   omega
theorem cell_after2 {w w' : World} {x : Value} {t : TypeId} (hb : Below (w.alloc (.cells #[x] t)).drew.heap.size (w.alloc (.cells #[x] t)).drew w') : w'.cell? ⟨w.heap.size, 0, none⟩ = some x := by
 rw [hb.cell (by show _ < (w.heap.push _).size; simp)]
 show (w.alloc (.cells #[x] t)).cell? _ = _
 simp
set_option maxHeartbeats 8000000 in
set_option maxRecDepth 100000 in
theorem number (n : Nat) (hn : n ≤ 1000000000) : ∀ (w : World),
  Calls Tryz.prog 61 #[.int .i64 (n : Int)] w fun e w' => e = .returned (.string ⟨(Lib.decDigits n).toArray⟩) ∧ Below w.heap.size w w' := by
 induction n using Nat.strongRecOn with
 | _ n ih =>
  intro w
  by_cases h10 : n < 10
  ·exact number_small n h10 w
  ·have HB := Aside0.mk (Below.refl w.heap.size w)
   have b1 : decide ((n : Int) < -9) = false := decide_eq_false (by omega)
   have b2 : decide ((n : Int) < 0) = false := decide_eq_false (by omega)
   have b3 : decide ((n : Int) < 10) = false := decide_eq_false (by omega)
   have hih := ih (n / 10) (by omega) (by omega)
   have he : ((n / 10 : Nat) : Int) = (n : Int) / 10 := by omega
   rw [he] at hih
   have hq : IntKind.i64.wrap ((n : Int) / 10) = (n : Int) / 10 := by rw [i64_w]; unfold wrap64; omega
   have ht : (n : Int).tmod 10 = (n : Int) % 10 := Int.tmod_eq_emod_of_nonneg (by omega)
   have hX : IntKind.u8.wrap (48 + IntKind.u8.wrap ((n : Int) % 10)) = 48 + (n : Int) % 10 := by
    rw [IntKind.wrap_u8, IntKind.wrap_u8]; omega
   have hcv : ∀ W : World, (convert 47 9 (.slice (some ⟨W.heap.size, 0, none⟩) 1 1)).run Tryz.prog (W.alloc (.cells #[.int .u8 (48 + (n : Int) % 10)] 5)) =
     .ok (.string (strOfNums [48 + (n : Int) % 10])) (W.alloc (.cells #[.int .u8 (48 + (n : Int) % 10)] 5)) := fun W => conv_byte _ _ 1 _ (by simp)
   have hln := decDigits_len (n / 10)
   have h1 : (⟨(Lib.decDigits (n / 10)).toArray⟩ : ByteArray).size = (Lib.decDigits (n / 10)).length := by simp [ByteArray.size]
   have h2 : (strOfNums [48 + (n : Int) % 10]).size = 1 := by simp [strOfNums, ByteArray.size]
   have hstr : (⟨(Lib.decDigits (n / 10)).toArray⟩ : ByteArray) ++ strOfNums [48 + (n : Int) % 10] = ⟨(Lib.decDigits n).toArray⟩ := by
    rw [show (48 : Int) + (n : Int) % 10 = 48 + ((n % 10 : Nat) : Int) by omega, str_digit]
    conv => rhs; rw [Lib.decDigits, dif_neg h10]
    apply ByteArray.ext
    simp
   have hcb : ∀ w' : World, w'.cell? ⟨w.heap.size, 0, none⟩ = some (.int .u8 (48 + (n : Int) % 10)) → (convert 47 9 (.slice (some ⟨w.heap.size, 0, none⟩) 1 1)).run Tryz.prog w' = .ok (.string (strOfNums [48 + (n : Int) % 10])) w' := fun w' h => conv_byte w' _ 1 _ h
   generalize (⟨(Lib.decDigits (n / 10)).toArray⟩ : ByteArray) = t at hih h1 hstr
   generalize strOfNums [48 + (n : Int) % 10] = d at hcv hcb h2 hstr
   have z1 : (t.size + d.size ≤ 9223372036854775807) = True := eq_true (by omega)
   have z2 : decide (t.size + d.size ≤ 9223372036854775807) = true := decide_eq_true (by omega)
   have z3 : (9223372036854775807 < t.size + d.size) = False := eq_false (by omega)
   go_enter Tryz.func61, Tryz.ntmps61
   go_upto_region 7 with (fail)
   go_region_with (go_at_call 61; refine (hih _).mono ?_; rintro e w' ⟨rfl, hb⟩; try have hcv2 := hcb w' (cell_after2 hb))
   all_goals (go_wp2; go_ret; refine ⟨rfl, ?_⟩; first | exact below_step (below_drew1 (below_alloc HB.out _)) hb | exact below_alloc (below_step (below_drew1 HB.out) hb) _)
end Go.Proofs.Lg
namespace Go.Proofs.Lg
open Go.RowKit Go.Proofs.YtdomcbebbhbdlaaGreatDoorW.PrintWords Go.Proofs.YtdomcbebbhbdlaaGreatDoorW.PrintLast Go.Proofs.YtdomcbebbhbdlaaGreatDoorW.PrintMore Go.Proofs.YtdomcbebbhbdlaaGreatDoor.PLogsBills
def wsum : Nat → List Int → Int
 | _, [] => 0
 | i, x :: xs => (i + 1) * x + wsum (i + 1) xs
def isBytes (l : List Int) : Prop := ∀ x ∈ l, 0 ≤ x ∧ x ≤ 255
theorem rd_drop {l : List Int} {i : Nat} (h : i < l.length) : l.drop i = rd l (i : Int) :: l.drop (i + 1) := by
 rw [rd_nat l h]; exact List.drop_eq_getElem_cons h
set_option maxRecDepth 100000 in
theorem logs_weigh_eq (l : List Int) (hl : l.length ≤ 5000) (hb : isBytes l) : ∀ (d i k : Nat) (x4 : Int), i + d = l.length → d < k → 0 ≤ x4 → x4 ≤ 2000000 * (i : Int) →
  logs_weigh.l0 k 673 x4 l (l.length : Int) (i : Int) = some ((x4 + wsum i (l.drop i)) % 673) := by
 intro d
 induction d with
 | zero =>
  intro i k x4 hd hk h0 h1
  obtain ⟨m, rfl⟩ : ∃ m, k = m + 1 := ⟨k - 1, by omega⟩
  simp only [logs_weigh.l0]
  rw [if_neg (by omega), if_neg (by omega), List.drop_of_length_le (by omega)]
  simp only [wsum, Int.add_zero]
  rw [Int.tmod_eq_emod_of_nonneg h0]
 | succ d ih =>
  intro i k x4 hd hk h0 h1
  obtain ⟨m, rfl⟩ : ∃ m, k = m + 1 := ⟨k - 1, by omega⟩
  have hi : i < l.length := by omega
  have hx : 0 ≤ rd l (i : Int) ∧ rd l (i : Int) ≤ 255 := by rw [rd_nat l hi]; exact hb _ (List.getElem_mem hi)
  simp only [logs_weigh.l0]
  rw [if_pos (by omega), if_pos (by omega), if_pos (by omega)]
  have w1 : wrap64 ((i : Int) + 1) = (i : Int) + 1 := by unfold wrap64; omega
  have w2 : wrap64 (rd l (i : Int)) = rd l (i : Int) := by unfold wrap64; omega
  have p1 : 0 ≤ ((i : Int) + 1) * rd l (i : Int) := Int.mul_nonneg (by omega) hx.1
  have p2 : ((i : Int) + 1) * rd l (i : Int) ≤ ((i : Int) + 1) * 255 := Int.mul_le_mul_of_nonneg_left hx.2 (by omega)
  have w3 : wrap64 (((i : Int) + 1) * rd l (i : Int)) = ((i : Int) + 1) * rd l (i : Int) := by unfold wrap64; omega
  have w4 : wrap64 (x4 + ((i : Int) + 1) * rd l (i : Int)) = x4 + ((i : Int) + 1) * rd l (i : Int) := by unfold wrap64; omega
  rw [w1, w2, w3, w4]
  have := ih (i + 1) m (x4 + ((i : Int) + 1) * rd l (i : Int)) (by omega) (by omega) (by omega) (by omega)
  rw [show (((i + 1 : Nat)) : Int) = (i : Int) + 1 by omega] at this
  rw [this, rd_drop hi]
  simp only [wsum]
  congr 2
  omega
set_option maxRecDepth 100000 in
theorem ref_weigh_eq (l : List Int) (hl : l.length ≤ 5000) (hb : isBytes l) : ∀ (d i k : Nat) (x5 : Int), i + d = l.length → d < k → 0 ≤ x5 → x5 < 673 →
  rf_Weigh.l0 k l 673 x5 (i : Int) = some ((x5 + wsum i (l.drop i)) % 673)
 | 0, i, k, x5, hd, hk, h0, h1 => by
  obtain ⟨m, rfl⟩ : ∃ m, k = m + 1 := ⟨k - 1, by omega⟩
  simp only [rf_Weigh.l0]
  rw [if_neg (by omega), List.drop_of_length_le (by omega)]
  simp only [wsum, Int.add_zero]
  congr 1; omega
 | d + 1, i, k, x5, hd, hk, h0, h1 => by
  obtain ⟨m, rfl⟩ : ∃ m, k = m + 1 := ⟨k - 1, by omega⟩
  have hi : i < l.length := by omega
  have hx : 0 ≤ rd l (i : Int) ∧ rd l (i : Int) ≤ 255 := by rw [rd_nat l hi]; exact hb _ (List.getElem_mem hi)
  simp only [rf_Weigh.l0]
  rw [if_pos (by omega), if_pos (by omega), if_neg (by omega)]
  have w1 : wrap64 ((i : Int) + 1) = (i : Int) + 1 := by unfold wrap64; omega
  have w2 : wrap64 (rd l (i : Int)) = rd l (i : Int) := by unfold wrap64; omega
  have p1 : 0 ≤ ((i : Int) + 1) * rd l (i : Int) := Int.mul_nonneg (by omega) hx.1
  have p2 : ((i : Int) + 1) * rd l (i : Int) ≤ ((i : Int) + 1) * 255 := Int.mul_le_mul_of_nonneg_left hx.2 (by omega)
  have w3 : wrap64 (((i : Int) + 1) * rd l (i : Int)) = ((i : Int) + 1) * rd l (i : Int) := by unfold wrap64; omega
  have w4 : wrap64 (x5 + ((i : Int) + 1) * rd l (i : Int)) = x5 + ((i : Int) + 1) * rd l (i : Int) := by unfold wrap64; omega
  rw [w1, w2, w3, w4, Int.tmod_eq_emod_of_nonneg (by omega)]
  have := ref_weigh_eq l hl hb d (i + 1) m ((x5 + ((i : Int) + 1) * rd l (i : Int)) % 673) (by omega) (by omega) (by omega) (by omega)
  rw [show (((i + 1 : Nat)) : Int) = (i : Int) + 1 by omega] at this
  rw [this, rd_drop hi]
  simp only [wsum]
  rw [show (x5 + (((i : Int) + 1) * rd l (i : Int) + wsum (i + 1) (List.drop (i + 1) l))) = (x5 + ((i : Int) + 1) * rd l (i : Int)) + wsum (i + 1) (List.drop (i + 1) l) by omega]
  congr 1
  omega
def ints (s : ByteArray) : List Int := s.data.toList.map fun b => (b.toNat : Int)
theorem ints_bytes (s : ByteArray) : isBytes (ints s) := by
 intro x hx
 simp only [ints, List.mem_map] at hx
 obtain ⟨b, _, rfl⟩ := hx
 have := b.toNat_lt
 omega
theorem ints_length (s : ByteArray) : (ints s).length = s.size := by unfold ints; rw [List.length_map]; rfl
def weight (s : ByteArray) : Int := wsum 0 (ints s) % 673
theorem logs_weigh_f (s : ByteArray) (hs : s.size ≤ 5000) : logs_weigh.f (s.size + 1) (ints s) 673 = some (weight s) := by
 unfold logs_weigh.f
 have := logs_weigh_eq (ints s) (by rw [ints_length]; exact hs) (ints_bytes s) s.size 0 (s.size + 1) 0 (by rw [ints_length]; omega) (by omega) (by omega) (by omega)
 simpa [weight] using this
theorem ref_weigh_f (s : ByteArray) (hs : s.size ≤ 5000) : rf_Weigh.f (s.size + 1) (ints s) 673 = some (weight s) := by
 unfold rf_Weigh.f
 have := ref_weigh_eq (ints s) (by rw [ints_length]; exact hs) (ints_bytes s) s.size 0 (s.size + 1) 0 (by rw [ints_length]; omega) (by omega) (by omega) (by omega)
 simpa [weight] using this
theorem weight_range (s : ByteArray) : 0 ≤ weight s ∧ weight s < 673 := by unfold weight; omega
theorem conv_str (w : World) (t : ByteArray) (ht : t.size ≤ 1000000) : ∃ c W1, (convert 9 47 (.string t)).run Tryz.prog w = .ok (.slice (some ⟨w.heap.size, 0, none⟩) t.size c) W1 ∧
  Kd.C (Kd.int .u8) W1 (some ⟨w.heap.size, 0, none⟩) (ints t).length (ints t) ∧ (ints t).length ≤ c ∧ Below w.heap.size w W1 := by
 refine ⟨_, _, Lib.run_convert_string_bytes w 9 47 5 t Tryz.underlying9 Tryz.underlying47 Tryz.underlying5, ?_, ?_, Lib.bytesWorld_below _ _ _⟩
 ·refine Kd.C_of_reads (enc := Value.int .u8) (d := (0 : Int)) (h1 := fun _ => rfl) ⟨rfl, by rw [ints_length]; omega, fun _ => ⟨_, rfl, fun j hj => ?_⟩⟩
  rw [ints_length] at hj
  have := Lib.bytesWorld_cell w 5 t j hj
  have e : (ints t).getD j 0 = ((t.data.toList.getD j 0).toNat : Int) := by
   have hj' : j < t.data.toList.length := by simpa using hj
   have h2 : t.data[j]? = some (t.data[j]'(by simpa using hj')) := Array.getElem?_eq_getElem _
   simp [ints, List.getD_eq_getElem?_getD, h2]
  rw [e, ← this]
  by_cases h0 : j = 0
  ·subst h0; simp [Addr.add]
  ·simp [Addr.add, h0]
 ·rw [ints_length]; exact grownCap_ge _ _ _ _
def sealOf (t : ByteArray) : ByteArray := t ++ strOfNums [97 + weight t / 26, 97 + weight t % 26] ++ ⟨#[10]⟩
set_option maxHeartbeats 8000000 in
set_option maxRecDepth 100000 in
theorem line (s : ByteArray) (hs : s.size ≤ 3000) (w : World) :
  Calls Tryz.prog 62 #[.string s] w fun e w' => e = .returned (.string (sealOf (s ++ ⟨#[32]⟩))) ∧ Below w.heap.size w w' := by
 have HB := Aside0.mk (Below.refl w.heap.size w)
 have hts : (s ++ ⟨#[32]⟩ : ByteArray).size = s.size + 1 := by simp [ByteArray.size_append]; rfl
 have y1 : (s.size + 1 ≤ 9223372036854775807) = True := eq_true (by omega)
 have y2 : (9223372036854775807 < s.size + 1) = False := eq_false (by omega)
 unfold sealOf
 obtain ⟨t, ht⟩ : ∃ t, s ++ ⟨#[32]⟩ = t := ⟨_, rfl⟩
 rw [ht] at hts ⊢
 obtain ⟨c, W1, hcv, hC, hc, hB1⟩ := conv_str w t (by omega)
 obtain ⟨q, hq⟩ : ∃ q : Nat, weight t = (q : Int) := ⟨(weight t).toNat, by have := weight_range t; omega⟩
 have hqr : q < 673 := by have := weight_range t; omega
 have hwe := ref_weigh_f t (by omega)
 rw [hq] at hwe ⊢
 have hl : (ints t).length = s.size + 1 := by rw [ints_length, hts]
 have K := rf_Weigh.calls (t.size + 1) _ c (ints t) 673 q W1 hC hc hwe
 rw [hl] at K
 have hX1 : IntKind.u8.wrap (97 + IntKind.u8.wrap ((q : Int) / 26)) = 97 + (q : Int) / 26 := by
  rw [IntKind.wrap_u8, IntKind.wrap_u8]; omega
 have ht2 : (q : Int).tmod 26 = (q : Int) % 26 := Int.tmod_eq_emod_of_nonneg (by omega)
 have hX2 : IntKind.u8.wrap (97 + IntKind.u8.wrap ((q : Int) % 26)) = 97 + (q : Int) % 26 := by
  rw [IntKind.wrap_u8, IntKind.wrap_u8]; omega
 have hd : (strOfNums [97 + (q : Int) / 26, 97 + (q : Int) % 26]).size = 2 := by simp [strOfNums, ByteArray.size]
 have hcv3 := fun (W : World) => conv_bytes (W.alloc (.cells #[.int .u8 (97 + (q : Int) / 26), .int .u8 (97 + (q : Int) % 26)] 5)) W.heap.size 2 [97 + (q : Int) / 26, 97 + (q : Int) % 26] (by simp) (fun j hj => by
  have : j = 0 ∨ j = 1 := by simp at hj; omega
  rcases this with rfl | rfl <;> simp)
 simp only [List.length_cons, List.length_nil, Nat.zero_add, Nat.reduceAdd] at hcv3
 generalize strOfNums [97 + (q : Int) / 26, 97 + (q : Int) % 26] = d at hcv3 hd ⊢
 have hcv4 : ∀ m, (convert 47 9 (.slice (some ⟨W1.heap.size, 0, none⟩) 2 2)).run Tryz.prog ((W1.drewN m).alloc (.cells #[.int .u8 (97 + (q : Int) / 26), .int .u8 (97 + (q : Int) % 26)] 5)) =
   .ok (.string d) ((W1.drewN m).alloc (.cells #[.int .u8 (97 + (q : Int) / 26), .int .u8 (97 + (q : Int) % 26)] 5)) := fun m => hcv3 (W1.drewN m)
 clear hcv3
 have z0 : (t ++ d).size = s.size + 3 := by rw [ByteArray.size_append, hts, hd]
 have z1 : (s.size + 1 + 2 ≤ 9223372036854775807) = True := eq_true (by omega)
 have z2 : (9223372036854775807 < s.size + 1 + 2) = False := eq_false (by omega)
 have z3 : (s.size + 3 + 1 ≤ 9223372036854775807) = True := eq_true (by omega)
 have z4 : (9223372036854775807 < s.size + 3 + 1) = False := eq_false (by omega)
 go_enter Tryz.func62, Tryz.ntmps62
 go_wp2_with (go_at_call 97; refine K.mono ?_; rintro e w' ⟨rfl, ⟨m, rfl⟩⟩)
 go_ret
 exact ⟨rfl, below_alloc (pw_below_drewN hB1 m) _⟩
set_option maxRecDepth 100000 in
theorem encode_ascii : ∀ k : Nat, k < 128 → Utf8.encode k = ⟨#[UInt8.ofNat k]⟩ := by decide
theorem encode_str (x : Int) (h0 : 0 ≤ x) (h : x < 128) : Utf8.encode x = strOfNums [x] := by
 obtain ⟨k, rfl⟩ : ∃ k : Nat, x = (k : Int) := ⟨x.toNat, by omega⟩
 rw [encode_ascii k (by omega)]
 simp [strOfNums]
theorem str_two (x y : Int) : strOfNums [x, y] = strOfNums [x] ++ strOfNums [y] := by
 apply ByteArray.ext
 simp [strOfNums]
def joined (xs : List ByteArray) : ByteArray := ⟨(Lib.join (xs.map (·.data.toList)) [32]).toArray⟩
set_option maxHeartbeats 8000000 in
set_option maxRecDepth 100000 in
theorem sealed (bk o c : Nat) (xs : List ByteArray) (w : World) (hcells : ∀ (j : Nat) (x : ByteArray), xs[j]? = some x → w.cell? ⟨bk, o + j, none⟩ = some (.string x)) (hbk : bk < w.heap.size)
  (hn : xs.length ≤ 3000) (hcap : xs.length ≤ c) (hlen : (joined xs).size ≤ 3000) :
  Calls Tryz.prog 84 #[.slice (some ⟨bk, o, none⟩) xs.length c] w fun e w' => e = .returned (.string (sealOf (joined xs ++ ⟨#[32]⟩))) ∧ Below w.heap.size w w' := by
 have HB := Aside0.mk (Below.refl w.heap.size w)
 have hjl : (Lib.join (List.map (fun x => x.data.toList) xs) [32]).length = (joined xs).size := by simp [joined, ByteArray.size]
 have KJ := Tryz.strings_Join bk o c xs ⟨#[32]⟩ w hcells hbk (by omega) hcap (by show (Lib.join (List.map (fun x => x.data.toList) xs) [32]).length ≤ _; omega)
 change Calls Tryz.prog 85 _ w (fun e w' => e = .returned (.string (joined xs)) ∧ _) at KJ
 generalize joined xs = s at KJ hlen ⊢
 have hts : (s ++ ⟨#[32]⟩ : ByteArray).size = s.size + 1 := by simp [ByteArray.size_append]; rfl
 have y1 : (s.size + 1 ≤ 9223372036854775807) = True := eq_true (by omega)
 have y2 : (9223372036854775807 < s.size + 1) = False := eq_false (by omega)
 unfold sealOf
 obtain ⟨t, ht⟩ : ∃ t, s ++ ⟨#[32]⟩ = t := ⟨_, rfl⟩
 rw [ht] at hts ⊢
 obtain ⟨q, hq⟩ : ∃ q : Nat, weight t = (q : Int) := ⟨(weight t).toNat, by have := weight_range t; omega⟩
 have hqr : q < 673 := by have := weight_range t; omega
 have hwe := logs_weigh_f t (by omega)
 rw [hq] at hwe ⊢
 have hl : (ints t).length = s.size + 1 := by rw [ints_length, hts]
 have hcs := fun (W : World) => conv_str W t (by omega)
 have ht2 : (q : Int).tmod 26 = (q : Int) % 26 := Int.tmod_eq_emod_of_nonneg (by omega)
 have x1 : IntKind.i64.wrap (97 + (q : Int) / 26) = 97 + (q : Int) / 26 := by rw [i64_w]; unfold wrap64; omega
 have x2 : IntKind.i64.wrap (97 + (q : Int) % 26) = 97 + (q : Int) % 26 := by rw [i64_w]; unfold wrap64; omega
 have x3 : IntKind.i32.wrap (97 + (q : Int) / 26) = 97 + (q : Int) / 26 := by rw [i32_w]; unfold wrap32; omega
 have x4 : IntKind.i32.wrap (97 + (q : Int) % 26) = 97 + (q : Int) % 26 := by rw [i32_w]; unfold wrap32; omega
 have e1 := encode_str (97 + (q : Int) / 26) (by omega) (by omega)
 have e2 := encode_str (97 + (q : Int) % 26) (by omega) (by omega)
 have d1 : (strOfNums [97 + (q : Int) / 26]).size = 1 := by simp [strOfNums, ByteArray.size]
 have d2 : (strOfNums [97 + (q : Int) % 26]).size = 1 := by simp [strOfNums, ByteArray.size]
 rw [str_two]
 generalize strOfNums [97 + (q : Int) / 26] = a1 at e1 d1 ⊢
 generalize strOfNums [97 + (q : Int) % 26] = a2 at e2 d2 ⊢
 rw [← ByteArray.append_assoc]
 have z1 : (s.size + 1 + 1 ≤ 9223372036854775807) = True := eq_true (by omega)
 have z2 : (9223372036854775807 < s.size + 1 + 1) = False := eq_false (by omega)
 have z3 : (s.size + 1 + 1 + 1 ≤ 9223372036854775807) = True := eq_true (by omega)
 have z4 : (9223372036854775807 < s.size + 1 + 1 + 1) = False := eq_false (by omega)
 have z5 : (s.size + 1 + 1 + 1 + 1 ≤ 9223372036854775807) = True := eq_true (by omega)
 have z6 : (9223372036854775807 < s.size + 1 + 1 + 1 + 1) = False := eq_false (by omega)
 have s1 : (t ++ a1).size = s.size + 1 + 1 := by rw [ByteArray.size_append, hts, d1]
 have s2 : (t ++ a1 ++ a2).size = s.size + 1 + 1 + 1 := by rw [ByteArray.size_append, s1, d2]
 go_enter Tryz.func84, Tryz.ntmps84
 go_upto_region 2 with (go_at_call 85; refine KJ.mono ?_; rintro e w' ⟨rfl, hb⟩)
 obtain ⟨c1, W1, hcv, hC, hc1, hB1⟩ := hcs w'
 have K := logs_weigh.calls (t.size + 1) _ c1 (ints t) 673 q W1 hC hc1 hwe
 rw [hl] at K
 go_upto_region 3 with (go_at_call 113; refine K.mono ?_; rintro e w2 ⟨rfl, ⟨m, rfl⟩⟩)
 clear hcs K hC hcv
 go_wp2
 go_ret
 exact ⟨rfl, pw_below_drewN (below_step hb hB1) m⟩
theorem ints_at (w : World) (xs : List Int) (hl : xs.length ≤ 1000000) (c : Array Value) (hc : ∀ j, j < xs.length → c[j]? = some (.int .i64 (xs.getD j 0))) :
  Kd.C (Kd.int .i64) (w.alloc (.cells c 3)) (some ⟨w.heap.size, 0, none⟩) xs.length xs := by
 refine Kd.C_of_reads (enc := Value.int .i64) (d := (0 : Int)) (h1 := fun _ => rfl) ⟨rfl, by omega, fun _ => ⟨_, rfl, fun j hj => ?_⟩⟩
 rw [← hc j hj]
 by_cases h0 : j = 0
 ·subst h0; simp [Addr.add]
 ·simp [Addr.add, h0]
theorem within_one (lo hi n : Int) (w : World) :
  Calls Tryz.prog 39 #[.int .i64 lo, .int .i64 hi, .slice (some ⟨w.heap.size, 0, none⟩) 1 1] (w.alloc (.cells #[.int .i64 n] 3)) fun e w' =>
   e = .returned (.bool (inside lo hi [n])) ∧ Below w.heap.size w w' := by
 refine (within (some ⟨w.heap.size, 0, none⟩) 1 [n] lo hi _ (ints_at w [n] (by simp) _ fun j hj => ?_) (by simp) (by simp)).mono ?_
 ·have : j = 0 := by simp at hj; omega
  subst this; rfl
 ·rintro e w' ⟨rfl, hb⟩
  exact ⟨rfl, below_step (below_alloc (Below.refl _ _) _) hb⟩
theorem within_two (lo hi n m : Int) (w : World) :
  Calls Tryz.prog 39 #[.int .i64 lo, .int .i64 hi, .slice (some ⟨w.heap.size, 0, none⟩) 2 2] (w.alloc (.cells #[.int .i64 n, .int .i64 m] 3)) fun e w' =>
   e = .returned (.bool (inside lo hi [n, m])) ∧ Below w.heap.size w w' := by
 refine (within (some ⟨w.heap.size, 0, none⟩) 2 [n, m] lo hi _ (ints_at w [n, m] (by simp) _ fun j hj => ?_) (by simp) (by simp)).mono ?_
 ·have : j = 0 ∨ j = 1 := by simp at hj; omega
  rcases this with rfl | rfl <;> rfl
 ·rintro e w' ⟨rfl, hb⟩
  exact ⟨rfl, below_step (below_alloc (Below.refl _ _) _) hb⟩
def sealsOk : Int → List Int → Bool
 | _, [] => true
 | b, n :: r => inside (b + 1) 99999 [n] && sealsOk n r
set_option maxHeartbeats 8000000 in
set_option maxRecDepth 100000 in
theorem isBill (num cargo tons from_ to_ : Int) (A : Option Addr) (c : Nat) (l : List Int) (w : World) (hr : Kd.C (Kd.int .i64) w A l.length l) (hc : l.length ≤ c) (hl : l.length ≤ 1000000) :
  Calls Tryz.prog 46 #[.agg #[.int .i64 num, .int .i64 cargo, .int .i64 tons, .int .i64 from_, .int .i64 to_, .slice A l.length c]] w fun e w' =>
   e = .returned (.bool (sealsOk 0 l && (inside 1 9999 [num] && (inside 0 99 [cargo] && (inside 1 100000 [tons] && (inside 0 100000 [from_, to_] && (from_ != to_ && decide (l.length ≤ 10)))))))) ∧ Below w.heap.size w w' := by
 have hu26 := Tryz.underlying26
 have HB := Aside0.mk (Below.refl w.heap.size w)
 go_enter Tryz.func46, Tryz.ntmps46
 go_wp2
 generalize hB : (w.alloc (.cells #[.int .i64 num, .int .i64 cargo, .int .i64 tons, .int .i64 from_, .int .i64 to_, .slice A l.length c] 26)) = W0
 have hcell : ∀ w' : World, Below W0.heap.size W0 w' → w'.cell? ⟨w.heap.size, 0, none⟩ = some (.int .i64 num) ∧ w'.cell? ⟨w.heap.size, 1, none⟩ = some (.int .i64 cargo) ∧ w'.cell? ⟨w.heap.size, 2, none⟩ = some (.int .i64 tons) ∧
   w'.cell? ⟨w.heap.size, 3, none⟩ = some (.int .i64 from_) ∧ w'.cell? ⟨w.heap.size, 4, none⟩ = some (.int .i64 to_) ∧ w'.cell? ⟨w.heap.size, 5, none⟩ = some (.slice A l.length c) := by
  intro w' hb
  have hlt : w.heap.size < W0.heap.size := by rw [← hB]; simp
  refine ⟨?_, ?_, ?_, ?_, ?_, ?_⟩ <;> (rw [hb.cell hlt, ← hB]; simp)
 go_loopg [3, 9] (l.length + 1) (fun kq v3 v9 wr => ∃ (i : Nat) (b : Int), v3 = .int .i64 b ∧ v9 = .int .i64 (i : Int) ∧ i ≤ l.length ∧ kq + i = l.length + 1 ∧ Aside0 (sealsOk 0 l = sealsOk b (l.drop i)) ∧ Aside0 (0 ≤ b ∧ b ≤ 99999) ∧ Aside0 (Below W0.heap.size W0 wr))
 case atStart => exact ⟨0, 0, rfl, rfl, by omega, by omega, ⟨rfl⟩, ⟨by omega⟩, ⟨Below.refl _ _⟩⟩
 case round =>
  obtain ⟨i, b, rfl, rfl, h1, h2, ⟨h3⟩, ⟨h4⟩, ⟨h5⟩⟩ := hrel
  have hbw : Below w.heap.size w wr := below_step (by rw [← hB]; exact below_alloc HB.out _) h5
  have hr' := Kd.C_below hr hbw
  by_cases hlt : i < l.length
  ·have hltb : decide ((i : Int) < (l.length : Int)) = true := decide_eq_true (by omega)
   obtain ⟨ad, rfl, hx⟩ := Kd.at_int hr' (i : Int) (by omega) (by omega)
   simp only [Int.toNat_natCast] at hx
   have p128 : (0 ≤ (i : Int)) = True := eq_true (by omega)
   have q128 : ((i : Int) < (l.length : Int)) = True := eq_true (by omega)
   have wb : IntKind.i64.wrap (b + 1) = b + 1 := by rw [i64_w]; unfold wrap64; omega
   rw [rd_drop hlt] at h3
   generalize rd l (i : Int) = n at hx h3
   cases hin : inside (b + 1) 99999 [n] with
   | false =>
    go_wp2_with (go_at_call 39; refine (within_one _ _ _ _).mono ?_; rw [hin]; rintro e w' ⟨rfl, hb⟩)
    go_ret
    refine ⟨?_, below_step hbw hb⟩
    rw [h3]
    simp [sealsOk, hin]
   | true =>
    go_wp2_with (go_at_call 39; refine (within_one _ _ _ _).mono ?_; rw [hin]; rintro e w' ⟨rfl, hb⟩)
    go_roundg (gk - 1)
    case measure => omega
    case rel => exact ⟨i + 1, n, rfl, by simp, by omega, by omega, ⟨by rw [h3]; simp [sealsOk, hin]⟩, ⟨by simp [inside] at hin; omega⟩, ⟨below_step h5 hb⟩⟩
  ·have hltb : decide ((i : Int) < (l.length : Int)) = false := decide_eq_false (by omega)
   have hall : sealsOk 0 l = true := by rw [h3, List.drop_of_length_le (by omega)]; rfl
   obtain ⟨g0, g1, g2, g3, g4, g5⟩ := hcell _ h5
   by_cases e5 : from_ = to_
   ·have f1 : (from_ == to_) = true := beq_iff_eq.2 e5
    have f2 : (from_ != to_) = false := bne_eq_false_iff_eq.2 e5
    cases e1 : inside 1 9999 [num] <;> cases e2 : inside 0 99 [cargo] <;> cases e3 : inside 1 100000 [tons] <;> cases e4 : inside 0 100000 [from_, to_]
    all_goals (go_wp2_with (go_at_call 39; (first | (with_reducible refine (within_one _ _ _ _).mono ?_) | (with_reducible refine (within_two _ _ _ _ _).mono ?_)); (try rw [e1]); (try rw [e2]); (try rw [e3]); (try rw [e4]); rintro e w' ⟨rfl, hb⟩; replace h5 := below_step h5 hb; obtain ⟨g0, g1, g2, g3, g4, g5⟩ := hcell _ h5))
    all_goals (go_ret; refine ⟨?_, below_step (by rw [← hB]; exact below_alloc HB.out _) h5⟩; rw [hall, e1, e2, e3, e4, f2]; first | rfl | (simp; done) | (simp; omega) | (simp [Int.ofNat_le]; done))
   ·have f1 : (from_ == to_) = false := beq_eq_false_iff_ne.2 e5
    have f2 : (from_ != to_) = true := bne_iff_ne.2 e5
    cases e1 : inside 1 9999 [num] <;> cases e2 : inside 0 99 [cargo] <;> cases e3 : inside 1 100000 [tons] <;> cases e4 : inside 0 100000 [from_, to_]
    all_goals (go_wp2_with (go_at_call 39; (first | (with_reducible refine (within_one _ _ _ _).mono ?_) | (with_reducible refine (within_two _ _ _ _ _).mono ?_)); (try rw [e1]); (try rw [e2]); (try rw [e3]); (try rw [e4]); rintro e w' ⟨rfl, hb⟩; replace h5 := below_step h5 hb; obtain ⟨g0, g1, g2, g3, g4, g5⟩ := hcell _ h5))
    all_goals (go_ret; refine ⟨?_, below_step (by rw [← hB]; exact below_alloc HB.out _) h5⟩; rw [hall, e1, e2, e3, e4, f2]; first | rfl | (simp; done) | (simp; omega) | (simp [Int.ofNat_le]; done))
theorem tab_at : Tryz.prog.globalNamed "internal/strconv.uint64pow10" = some 5 := by kernel_rfl
structure Base (w : World) : Prop where
 room : 8 ≤ w.heap.size
 maxLen : ∃ m, w.cell? ⟨0, 0, none⟩ = some (.int .i64 m)
 syn : ∃ tp p, w.cell? ⟨1, 0, none⟩ = some (.iface tp p)
 rng : ∃ tp p, w.cell? ⟨2, 0, none⟩ = some (.iface tp p)
 tab : Lib.TabIs Tryz.prog w "internal/strconv.uint64pow10" .u64 Lib.pow10Tab
theorem Base.below {w w' : World} {n : Nat} (h : Base w) (hb : Below n w w') (hn : 8 ≤ n) : Base w' := by
 obtain ⟨m, hm⟩ := h.maxLen
 obtain ⟨t1, p1, h1⟩ := h.syn
 obtain ⟨t2, p2, h2⟩ := h.rng
 refine ⟨Nat.le_trans h.room hb.size, ⟨m, (hb.cell (by omega : 0 < n)).trans hm⟩, ⟨t1, p1, (hb.cell (by omega : 1 < n)).trans h1⟩, ⟨t2, p2, (hb.cell (by omega : 2 < n)).trans h2⟩, ?_⟩
 have ht := h.tab
 unfold Lib.TabIs World.var? at ht ⊢
 rw [tab_at] at ht ⊢
 simp only [Option.bind_some] at ht ⊢
 rw [hb.block 5 (by omega)]
 exact ht
theorem Base.step {w w' : World} (h : Base w) (hb : Below w.heap.size w w') : Base w' := h.below hb h.room
def dec (n : Int) : ByteArray := ⟨(Lib.decDigits n.toNat).toArray⟩
theorem below_grow {w : World} (k : Nat) (os : Array Obj) : Below w.heap.size w («Sort».grow (w.drewN k) os) := by
 refine below_step (pw_below_drewN (Below.refl _ _) k) ⟨rfl, rfl, rfl, ?_, fun i hi => ?_⟩
 ·simp [«Sort».grow]
 ·exact Array.getElem?_append_left (xs := (w.drewN k).heap) hi
theorem itoa (n : Int) (h0 : 0 ≤ n) (h1 : n ≤ 1000000000) (w : World) (hB : Base w) :
  Calls Tryz.prog 83 #[.int .i64 n] w fun e w' => e = .returned (.string (dec n)) ∧ Below w.heap.size w w' := by
 refine (Tryz.strconv_Itoa n (by omega) (by omega) w hB.tab).mono ?_
 rintro e w' ⟨rfl, k, os, rfl⟩
 refine ⟨?_, below_grow k os⟩
 unfold Lib.itoa dec
 rw [if_neg (by omega)]
def commas (xs : List ByteArray) : ByteArray := ⟨(Lib.join (xs.map (·.data.toList)) [44]).toArray⟩
def sealsS (l : List Int) : List ByteArray := if l = [] then [⟨#[45]⟩] else l.map dec
def billWords (x : S26) : List ByteArray := [dec x.f0, dec x.f1, dec x.f2, dec x.f3 ++ ⟨#[62]⟩ ++ dec x.f4, commas (sealsS x.f5)]
def billS (x : S26) : ByteArray := sealOf (joined (billWords x) ++ ⟨#[32]⟩)
structure Small (x : S26) : Prop where
  a0 : 0 ≤ x.f0 ∧ x.f0 ≤ 100000
  a1 : 0 ≤ x.f1 ∧ x.f1 ≤ 100000
  a2 : 0 ≤ x.f2 ∧ x.f2 ≤ 100000
  a3 : 0 ≤ x.f3 ∧ x.f3 ≤ 100000
  a4 : 0 ≤ x.f4 ∧ x.f4 ≤ 100000
  a5 : ∀ n ∈ x.f5, 0 ≤ n ∧ n ≤ 100000
  len : x.f5.length ≤ 10
theorem decDigits_six (n : Nat) (h : n ≤ 100000) : (Lib.decDigits n).length ≤ 6 := by
  have d : ∀ m, (Lib.decDigits m).length = if m < 10 then 1 else (Lib.decDigits (m / 10)).length + 1 := by
    intro m
    rw [Lib.decDigits.eq_def]
    split <;> simp
  rw [d]; split; · omega
  rw [d]; split; · omega
  rw [d]; split; · omega
  rw [d]; split; · omega
  rw [d]; split; · omega
  rw [d]; split; · omega
  omega
theorem dec_size (n : Int) (h0 : 0 ≤ n) (h1 : n ≤ 100000) : (dec n).size ≤ 6 := by
  have := decDigits_six n.toNat (by omega)
  simpa [dec, ByteArray.size] using this
theorem join_cons (sep x y : List UInt8) (r : List (List UInt8)) : Lib.join (x :: y :: r) sep = x ++ sep ++ Lib.join (y :: r) sep := by
  unfold Lib.join
  rw [List.intercalate, List.intersperse_cons_cons, List.flatten_cons, List.flatten_cons, List.append_assoc]
  rfl
theorem join_one (sep x : List UInt8) : Lib.join [x] sep = x := by
  unfold Lib.join
  rw [List.intercalate, List.intersperse_singleton, List.flatten_cons, List.flatten_nil, List.append_nil]
theorem join_size (sep : List UInt8) : ∀ (xs : List ByteArray) (m : Nat), (∀ x ∈ xs, x.size ≤ m) → (Lib.join (xs.map (·.data.toList)) sep).length ≤ xs.length * (m + sep.length) := by
  intro xs
  induction xs with
  | nil => intro m h; exact Nat.zero_le _
  | cons x r ih =>
    intro m h
    have h1 : x.size ≤ m := h x (by simp)
    have h2 := ih m (fun y hy => h y (by simp [hy]))
    have h1' : x.data.toList.length ≤ m := h1
    cases r with
    | nil =>
      rw [List.map_cons, List.map_nil, join_one]
      have : [x].length = 1 := rfl
      rw [this]
      omega
    | cons y r =>
      have : (Lib.join ((x :: y :: r).map (·.data.toList)) sep).length = x.data.toList.length + sep.length + (Lib.join ((y :: r).map (·.data.toList)) sep).length := by
        rw [List.map_cons, List.map_cons, join_cons]
        simp only [List.length_append, List.map_cons]
      rw [this]
      have hm : (x :: y :: r).length * (m + sep.length) = (m + sep.length) + (y :: r).length * (m + sep.length) := by
        rw [List.length_cons, Nat.add_mul]; omega
      omega
theorem sealsS_size (l : List Int) (h : ∀ n ∈ l, 0 ≤ n ∧ n ≤ 100000) : ∀ x ∈ sealsS l, x.size ≤ 6 := by
  unfold sealsS
  split
  · intro x hx
    simp at hx
    subst hx
    decide
  · intro x hx
    obtain ⟨n, hn, rfl⟩ := List.mem_map.1 hx
    exact dec_size n (h n hn).1 (h n hn).2
theorem sealsS_len (l : List Int) (h : l.length ≤ 10) : (sealsS l).length ≤ 10 := by
  unfold sealsS
  split
  · simp
  · simpa using h
theorem commas_size (l : List Int) (h : ∀ n ∈ l, 0 ≤ n ∧ n ≤ 100000) (hl : l.length ≤ 10) : (commas (sealsS l)).size ≤ 70 := by
  have h1 := join_size [44] (sealsS l) 6 (sealsS_size l h)
  have h2 := sealsS_len l hl
  have h3 : (commas (sealsS l)).size = (Lib.join ((sealsS l).map (·.data.toList)) [44]).length := by simp [commas, ByteArray.size]
  rw [h3]
  simp only [List.length_singleton] at h1
  omega
theorem joined_size {x : S26} (h : Small x) : (joined (billWords x)).size ≤ 400 := by
  have h1 := join_size [32] (billWords x) 70 (by
    intro y hy
    have d0 := dec_size _ h.a0.1 h.a0.2
    have d1 := dec_size _ h.a1.1 h.a1.2
    have d2 := dec_size _ h.a2.1 h.a2.2
    have d3 := dec_size _ h.a3.1 h.a3.2
    have d4 := dec_size _ h.a4.1 h.a4.2
    have d5 := commas_size _ h.a5 h.len
    simp only [billWords, List.mem_cons, List.not_mem_nil, or_false] at hy
    rcases hy with rfl | rfl | rfl | rfl | rfl
    · omega
    · omega
    · omega
    · have hz : (⟨#[62]⟩ : ByteArray).size = 1 := rfl
      rw [ByteArray.size_append, ByteArray.size_append, hz]; omega
    · exact d5)
  have h3 : (joined (billWords x)).size = (Lib.join ((billWords x).map (·.data.toList)) [32]).length := by simp [joined, ByteArray.size]
  rw [h3]
  simp only [List.length_singleton, billWords, List.length_cons, List.length_nil] at h1 ⊢
  omega
theorem strs_of_R {w : World} {base : Nat} {ok : Nat → Prop} {v : Value} {xs : List ByteArray} (h : Kd.R Kd.string 9 w base ok v xs) (hp : 0 < xs.length) :
    ∃ g cap, v = .slice (some ⟨g, 0, none⟩) xs.length cap ∧ xs.length ≤ cap ∧ base ≤ g ∧ g < w.heap.size ∧ ∀ (j : Nat) (x : ByteArray), xs[j]? = some x → w.cell? ⟨g, 0 + j, none⟩ = some (.string x) := by
  obtain ⟨g, cap, rfl, hb, hg, _⟩ := Kd.R_form h hp
  refine ⟨g, cap, rfl, (Kd.R_reads' h).2.1, hb, hg, fun j x hj => ?_⟩
  obtain ⟨hl, hx⟩ := List.getElem?_eq_some_iff.1 hj
  have := (Kd.R_cell (d := ByteArray.empty) h (j : Int) (by omega) (by omega)).1
  rw [Nat.zero_add]
  rw [Int.toNat_natCast] at this
  rw [this]
  simp [rdOf, hj]
theorem commasC (g cap n : Nat) (xs : List ByteArray) (w : World) (hx : n = xs.length) (hc : ∀ (j : Nat) (x : ByteArray), xs[j]? = some x → w.cell? ⟨g, 0 + j, none⟩ = some (.string x)) (hg : g < w.heap.size) (hn : n ≤ 3000) (hcap : n ≤ cap) (hs : (commas xs).size ≤ 3000) :
    Calls Tryz.prog 85 #[.slice (some ⟨g, 0, none⟩) n cap, .string ⟨#[44]⟩] w fun e w' => e = .returned (.string (commas xs)) ∧ Below w.heap.size w w' := by
  subst hx
  have h3 : (commas xs).size = (Lib.join (xs.map (·.data.toList)) [44]).length := by simp [commas, ByteArray.size]
  exact Tryz.strings_Join g 0 cap xs ⟨#[44]⟩ w hc hg (by omega) hcap (by show (Lib.join (xs.map (·.data.toList)) [44]).length ≤ _; omega)
theorem sealedC (W : World) (a b c d e : ByteArray) (hs : (joined [a, b, c, d, e]).size ≤ 3000) :
    Calls Tryz.prog 84 #[.slice (some ⟨W.heap.size, 0, none⟩) 5 5] (W.alloc (.cells #[.string a, .string b, .string c, .string d, .string e] 9)) fun r w' => r = .returned (.string (sealOf (joined [a, b, c, d, e] ++ ⟨#[32]⟩))) ∧ Below (W.alloc (.cells #[.string a, .string b, .string c, .string d, .string e] 9)).heap.size (W.alloc (.cells #[.string a, .string b, .string c, .string d, .string e] 9)) w' := by
  refine (sealed W.heap.size 0 5 [a, b, c, d, e] _ (fun j x hj => ?_) (by simp) (by simp) (by simp) hs).mono ?_
  · obtain ⟨hl, hx⟩ := List.getElem?_eq_some_iff.1 hj
    have : j = 0 ∨ j = 1 ∨ j = 2 ∨ j = 3 ∨ j = 4 := by simp at hl; omega
    rcases this with rfl | rfl | rfl | rfl | rfl <;> (simp at hx; subst hx; simp)
  · rintro r w' ⟨rfl, hb⟩
    exact ⟨rfl, hb⟩
theorem Reps_one_str {W : World} {base : Nat} {ok : Nat → Prop} (x : ByteArray) : Reps (Kd.string.M W base ok) Kd.string.sz [x] [.string x] := by
  refine ⟨rfl, fun j p hj => ?_⟩
  cases j with
  | zero =>
    simp at hj
    subst hj
    exact rfl
  | succ j => simp at hj
set_option maxHeartbeats 8000000 in
set_option maxRecDepth 100000 in
theorem billLine (x : S26) (A : Option Addr) (c : Nat) (w : World) (hr : Kd.C (Kd.int .i64) w A x.f5.length x.f5) (hc : x.f5.length ≤ c) (hx : Small x) (hw : Base w) :
    Calls Tryz.prog 48 #[.agg #[.int .i64 x.f0, .int .i64 x.f1, .int .i64 x.f2, .int .i64 x.f3, .int .i64 x.f4, .slice A x.f5.length c]] w fun e w' =>
      e = .returned (.string (billS x)) ∧ Below w.heap.size w w' := by
  have hu26 := Tryz.underlying26
  have hjs := joined_size hx
  obtain ⟨a0, a1, a2, a3, a4, a5, hlen⟩ := hx
  have hcs := commas_size x.f5 a5 hlen
  have hjs3 : (joined (billWords x)).size ≤ 3000 := by omega
  clear hjs
  obtain ⟨num, cargo, tons, fr, to_, l⟩ := x
  simp only at *
  have HB := Aside0.mk (Below.refl w.heap.size w)
  go_enter Tryz.func48, Tryz.ntmps48
  go_wp2
  generalize hB : (w.alloc (.cells #[.int .i64 num, .int .i64 cargo, .int .i64 tons, .int .i64 fr, .int .i64 to_, .slice A l.length c] 26)) = W0
  have hcell : ∀ w' : World, Below W0.heap.size W0 w' → w'.cell? ⟨w.heap.size, 0, none⟩ = some (.int .i64 num) ∧ w'.cell? ⟨w.heap.size, 1, none⟩ = some (.int .i64 cargo) ∧ w'.cell? ⟨w.heap.size, 2, none⟩ = some (.int .i64 tons) ∧
      w'.cell? ⟨w.heap.size, 3, none⟩ = some (.int .i64 fr) ∧ w'.cell? ⟨w.heap.size, 4, none⟩ = some (.int .i64 to_) := by
    intro w' hb
    have hlt : w.heap.size < W0.heap.size := by rw [← hB]; simp
    refine ⟨?_, ?_, ?_, ?_, ?_⟩ <;> (rw [hb.cell hlt, ← hB]; simp)
  have hbW : Below w.heap.size w W0 := by rw [← hB]; exact below_alloc HB.out _
  have hszW : W0.heap.size = w.heap.size + 1 := by rw [← hB]; simp
  go_loopg [3, 9] (l.length + 1) (fun kq v3 v9 wr => ∃ (i : Nat), v9 = .int .i64 (i : Int) ∧ i ≤ l.length ∧ kq + i = l.length + 1 ∧ Aside0 (Kd.R Kd.string 9 wr W0.heap.size (fun _ => True) v3 ((l.take i).map dec)) ∧ Aside0 (Below W0.heap.size W0 wr))
  case atStart => exact ⟨0, rfl, by omega, by omega, ⟨Kd.R_nil _ _ _ _ _⟩, ⟨Below.refl _ _⟩⟩
  case round =>
    obtain ⟨i, rfl, h1, h2, ⟨h3⟩, ⟨h5⟩⟩ := hrel
    have hbw : Below w.heap.size w wr := below_step hbW h5
    have hr' := Kd.C_below hr hbw
    by_cases hlt : i < l.length
    · have hltb : decide ((i : Int) < (l.length : Int)) = true := decide_eq_true (by omega)
      obtain ⟨ad, rfl, hx⟩ := Kd.at_int hr' (i : Int) (by omega) (by omega)
      simp only [Int.toNat_natCast] at hx
      have p128 : (0 ≤ (i : Int)) = True := eq_true (by omega)
      have q128 : ((i : Int) < (l.length : Int)) = True := eq_true (by omega)
      have hmem : rd l (i : Int) ∈ l := by rw [rd_nat l hlt]; exact List.getElem_mem hlt
      have htk : (l.take (i + 1)).map dec = (l.take i).map dec ++ [dec (rd l (i : Int))] := by rw [List.take_succ_eq_append_getElem hlt, List.map_append, rd_nat l hlt]; rfl
      generalize rd l (i : Int) = n at hx hmem htk
      have hn := a5 n hmem
      have hwr : Base wr := hw.below hbw hw.room
      go_wp2_with (first
        | (go_at_call 83; refine (itoa n (by omega) (by omega) _ (by assumption)).mono ?_; rintro e w' ⟨rfl, hb⟩; replace h3 := Kd.R_below h3 hb; replace h5 := below_step h5 hb)
        | ((with_reducible refine gate_builtin (b := .append) (xs := #[.tmp 13, .tmp 16]) rfl ?_); at_builtin; refine Kd.R_append Kd.string (w0 := W0) W0.heap.size rfl (.tmp 13) (.tmp 16) 68 9 (.string ⟨#[]⟩) 16 rfl Tryz.underlying68 info9 rfl (by decide) (by omega) u3 ((l.take i).map dec) (dec n) [.string (dec n)] (fun _ => True) (fun _ => False) rfl rfl ?aP (fun _ hk => hk.elim) ?aF ?aO ?aB ?aS ?aL ?_
           (case aP => exact rfl); (case aF => exact (fun _ _ => trivial)); (case aO => exact h3); (case aB => exact h5); (case aS => exact h5.size); (case aL => simp only [List.length_map, List.length_take]; omega); intro v1 w1 ho hb1 hg hat))
      go_roundg (gk - 1)
      case measure => omega
      case rel => exact ⟨i + 1, by simp, by omega, by omega, ⟨by rw [htk]; exact ho⟩, ⟨hb1⟩⟩
    · have hltb : decide ((i : Int) < (l.length : Int)) = false := decide_eq_false (by omega)
      have hi : i = l.length := by omega
      subst hi
      rw [List.take_length] at h3
      by_cases hl : l = []
      · subst hl
        have hs : sealsS [] = [⟨#[45]⟩] := rfl
        obtain ⟨A3, c3, rfl⟩ := Kd.R_slice h3
        go_wp2_with (first | ((with_reducible refine gate_dst (N := 22) rfl ?_); refine Kd.R_lit Kd.string W0.heap.size 9 (w0 := W0) ?hg (N := 22) ?hd (xs := sealsS []) (inner := [.string ⟨#[45]⟩]) (ok := fun _ => True) (okp := fun _ => True) ?hr ?hp (fun _ hk => hk) trivial h5 h5.size (by simp [sealsS]) ?_; (case hd => rfl); (case hg => rfl); (case hr => first | (go_simp; done) | (go_simp; rfl)); (case hp => exact Reps_one_str _); intro v222 wq ho3 hb hg_ hnew_))
        obtain ⟨g, cap, rfl, hcap, hg, hg2, hcells⟩ := strs_of_R ho3 (by rw [hs]; simp)
        have hWW := hb
        have hkeep : ∀ (w1 w2 : World), Below w1.heap.size w1 w2 → Below wq.heap.size wq w1 → w2.cell? ⟨w.heap.size, 0, none⟩ = some (.int .i64 num) ∧ w2.cell? ⟨w.heap.size, 1, none⟩ = some (.int .i64 cargo) ∧ w2.cell? ⟨w.heap.size, 2, none⟩ = some (.int .i64 tons) ∧
            w2.cell? ⟨w.heap.size, 3, none⟩ = some (.int .i64 fr) ∧ w2.cell? ⟨w.heap.size, 4, none⟩ = some (.int .i64 to_) ∧ Below wq.heap.size wq w2 := by
          intro w1 wq hb1 hb2
          have h6 := below_step hb2 hb1
          obtain ⟨g0, g1, g2, g3, g4⟩ := hcell _ (below_step hWW h6)
          exact ⟨g0, g1, g2, g3, g4, h6⟩
        have halloc := fun (w1 : World) (o : Obj) (hb1 : Below wq.heap.size wq w1) => hkeep w1 (w1.alloc o) (below_alloc (Below.refl _ _) o) hb1
        have hdrew := fun (w1 : World) (hb1 : Below wq.heap.size wq w1) => hkeep w1 w1.drew (below_drew (Below.refl _ _)) hb1
        have hbase : ∀ w1 : World, Below wq.heap.size wq w1 → Base w1 := fun w1 hb1 => hw.step (below_step hbW (below_step hWW hb1))
        obtain ⟨g0, g1, g2, g3, g4⟩ := hcell wq hWW
        have g5 := Below.refl wq.heap.size wq
        have hcells' : ∀ w1 : World, Below wq.heap.size wq w1 → g < w1.heap.size ∧ ∀ (j : Nat) (x : ByteArray), (sealsS [])[j]? = some x → w1.cell? ⟨g, 0 + j, none⟩ = some (.string x) := fun w1 hb1 => ⟨by have := hb1.size; omega, fun j x hj => (hb1.cell hg2).trans (hcells j x hj)⟩
        have hsl10 := sealsS_len [] hlen
        have d3 := dec_size fr a3.1 a3.2
        have d4 := dec_size to_ a4.1 a4.2
        have hA : (dec fr ++ ⟨#[62]⟩ : ByteArray).size = (dec fr).size + 1 := by rw [ByteArray.size_append]; rfl
        have z3 : ((dec fr).size + 1 ≤ 9223372036854775807) = True := eq_true (by omega)
        have z4 : (9223372036854775807 < (dec fr).size + 1) = False := eq_false (by omega)
        have z5 : ((dec fr).size + 1 + (dec to_).size ≤ 9223372036854775807) = True := eq_true (by omega)
        have z6 : (9223372036854775807 < (dec fr).size + 1 + (dec to_).size) = False := eq_false (by omega)
        go_region_held3 (fun w2 => w2.cell? ⟨w.heap.size, 0, none⟩ = some (.int .i64 num) ∧ w2.cell? ⟨w.heap.size, 1, none⟩ = some (.int .i64 cargo) ∧ w2.cell? ⟨w.heap.size, 2, none⟩ = some (.int .i64 tons) ∧
            w2.cell? ⟨w.heap.size, 3, none⟩ = some (.int .i64 fr) ∧ w2.cell? ⟨w.heap.size, 4, none⟩ = some (.int .i64 to_) ∧ Below wq.heap.size wq w2)
          (first
            | (go_split_ands; first | exact hkeep _ _ hb (by assumption) | exact halloc _ _ (by assumption) | exact hdrew _ (by assumption))
            | go_keep)
          (first
            | (go_at_call 83; go_split_ands; refine (itoa _ (by omega) (by omega) _ (hbase _ (by assumption))).mono ?_; rintro e w' ⟨rfl, hb⟩)
            | (go_at_call 85; go_split_ands; refine (commasC g cap _ (sealsS []) _ rfl (hcells' _ (by assumption)).2 (hcells' _ (by assumption)).1 (by omega) hcap (by omega)).mono ?_; rintro e w' ⟨rfl, hb⟩)
            | (go_at_call 84; go_split_ands; refine (sealedC _ _ _ _ _ _ (by exact hjs3)).mono ?_; rintro e w' ⟨rfl, hb⟩))
        go_wp2
        go_ret
        go_split_ands
        exact ⟨rfl, below_step hbW (below_step hWW (by assumption))⟩
      · have : 0 < l.length := List.length_pos_iff.2 hl
        have hs : sealsS l = l.map dec := if_neg hl
        rw [← hs] at h3
        obtain ⟨g, cap, rfl, hcap, hg, hg2, hcells⟩ := strs_of_R h3 (by rw [hs]; simpa using this)
        have hsl : (sealsS l).length = l.length := by rw [hs]; simp
        obtain ⟨n, hn⟩ : ∃ n, n = (sealsS l).length := ⟨_, rfl⟩
        rw [← hn] at hcap hsl ⊢
        have z1 : ((n : Int) == 0) = false := beq_eq_false_iff_ne.2 (by omega)
        have z2 : (n == 0) = false := beq_eq_false_iff_ne.2 (by omega)
        have hsl10 : n ≤ 10 := by omega
        clear hsl h3
        have hjs4 : (joined [dec num, dec cargo, dec tons, dec fr ++ ⟨#[62]⟩ ++ dec to_, commas (sealsS l)]).size ≤ 3000 := hjs3
        clear hjs3
        obtain ⟨SS, hSS⟩ : ∃ SS, SS = sealsS l := ⟨_, rfl⟩
        rw [← hSS] at hcs hcells hn hjs4
        have hn' := Aside0.mk hn
        have hSS' := Aside0.mk hSS
        clear hn hSS hs
        go_wp2_with fail
        clear z1 z2 hltb hlt
        have hWW := h5
        have hkeep : ∀ (w1 w2 : World), Below w1.heap.size w1 w2 → Below wr.heap.size wr w1 → w2.cell? ⟨w.heap.size, 0, none⟩ = some (.int .i64 num) ∧ w2.cell? ⟨w.heap.size, 1, none⟩ = some (.int .i64 cargo) ∧ w2.cell? ⟨w.heap.size, 2, none⟩ = some (.int .i64 tons) ∧
            w2.cell? ⟨w.heap.size, 3, none⟩ = some (.int .i64 fr) ∧ w2.cell? ⟨w.heap.size, 4, none⟩ = some (.int .i64 to_) ∧ Below wr.heap.size wr w2 := by
          intro w1 w2 hb1 hb2
          have h6 := below_step hb2 hb1
          obtain ⟨g0, g1, g2, g3, g4⟩ := hcell _ (below_step hWW h6)
          exact ⟨g0, g1, g2, g3, g4, h6⟩
        have halloc := fun (w1 : World) (o : Obj) (hb1 : Below wr.heap.size wr w1) => hkeep w1 (w1.alloc o) (below_alloc (Below.refl _ _) o) hb1
        have hdrew := fun (w1 : World) (hb1 : Below wr.heap.size wr w1) => hkeep w1 w1.drew (below_drew (Below.refl _ _)) hb1
        have hbase : ∀ w1 : World, Below wr.heap.size wr w1 → Base w1 := fun w1 hb1 => hw.step (below_step hbW (below_step hWW hb1))
        obtain ⟨g0, g1, g2, g3, g4⟩ := hcell wr hWW
        have g5 := Below.refl wr.heap.size wr
        have hcells' : ∀ w1 : World, Below wr.heap.size wr w1 → g < w1.heap.size ∧ ∀ (j : Nat) (x : ByteArray), (SS)[j]? = some x → w1.cell? ⟨g, 0 + j, none⟩ = some (.string x) := fun w1 hb1 => ⟨by have := hb1.size; omega, fun j x hj => (hb1.cell hg2).trans (hcells j x hj)⟩
        have d3 := dec_size fr a3.1 a3.2
        have d4 := dec_size to_ a4.1 a4.2
        have hA : (dec fr ++ ⟨#[62]⟩ : ByteArray).size = (dec fr).size + 1 := by rw [ByteArray.size_append]; rfl
        have z3 : ((dec fr).size + 1 ≤ 9223372036854775807) = True := eq_true (by omega)
        have z4 : (9223372036854775807 < (dec fr).size + 1) = False := eq_false (by omega)
        have z5 : ((dec fr).size + 1 + (dec to_).size ≤ 9223372036854775807) = True := eq_true (by omega)
        have z6 : (9223372036854775807 < (dec fr).size + 1 + (dec to_).size) = False := eq_false (by omega)
        go_region_held3 (fun w2 => w2.cell? ⟨w.heap.size, 0, none⟩ = some (.int .i64 num) ∧ w2.cell? ⟨w.heap.size, 1, none⟩ = some (.int .i64 cargo) ∧ w2.cell? ⟨w.heap.size, 2, none⟩ = some (.int .i64 tons) ∧
            w2.cell? ⟨w.heap.size, 3, none⟩ = some (.int .i64 fr) ∧ w2.cell? ⟨w.heap.size, 4, none⟩ = some (.int .i64 to_) ∧ Below wr.heap.size wr w2)
          (first
            | (go_split_ands; first | exact hkeep _ _ hb (by assumption) | exact halloc _ _ (by assumption) | exact hdrew _ (by assumption))
            | go_keep)
          (first
            | (go_at_call 83; go_split_ands; refine (itoa _ (by omega) (by omega) _ (hbase _ (by assumption))).mono ?_; rintro e w' ⟨rfl, hb⟩)
            | (go_at_call 85; go_split_ands; refine (commasC g cap n SS _ hn'.out (hcells' _ (by assumption)).2 (hcells' _ (by assumption)).1 (by omega) hcap (by omega)).mono ?_; rintro e w' ⟨rfl, hb⟩)
            | (go_at_call 84; go_split_ands; refine (sealedC _ _ _ _ _ _ (by exact hjs4)).mono ?_; rintro e w' ⟨rfl, hb⟩))
        go_wp2
        go_ret
        go_split_ands
        refine ⟨?_, below_step hbW (below_step hWW (by assumption))⟩
        show _ = Ending.returned (.string (sealOf (joined [dec num, dec cargo, dec tons, dec fr ++ (⟨#[62]⟩ : ByteArray) ++ dec to_, commas (sealsS l)] ++ (⟨#[32]⟩ : ByteArray))))
        rw [← hSS'.out]
        rfl
theorem und103 : Tryz.prog.underlying 103 = some (.pointer 105) := by kernel_rfl
theorem und167 : Tryz.prog.underlying 167 = some .unsafePointer := by kernel_rfl
theorem und47 : Tryz.prog.underlying 47 = some (.slice 5) := by kernel_rfl
theorem und9 : Tryz.prog.underlying 9 = some .string := by kernel_rfl
theorem size105 : (Tryz.prog.info? 105).map (·.size) = some 2 := by kernel_rfl
theorem lies105 : liesAt Tryz.prog Tryz.prog.depth 105 (2 / Tryz.prog.cellsOf 105) 0 105 1 = true := by kernel_rfl
theorem infoB : (Tryz.prog.info? 5).map (fun i => (i.zero, i.size, i.bytes)) = some (some (.int .u8 0), 1, 1) := by kernel_rfl
set_option maxHeartbeats 1000000 in
set_option maxRecDepth 100000 in
theorem copyCheck_used (b : Nat) (w : World) (h0 : w.cell? ⟨b, 0, none⟩ = some (.pointer (some ⟨b, 0, none⟩))) :
  Calls Tryz.prog 88 #[.pointer (some ⟨b, 0, none⟩)] w fun e w' => e = .returned (.tuple #[]) ∧ w' = w := by
 obtain ⟨j, hj, _⟩ := Option.map_eq_some_iff.1 size105
 go_enter Tryz.func88, Tryz.ntmps88
 go_wp2
 rw [Lib.run_neq_ptr_same w _ und103 hj]
 go_wp2
 go_end0
 exact ⟨rfl, rfl⟩
set_option maxHeartbeats 1000000 in
set_option maxRecDepth 100000 in
theorem copyCheck_fresh (b : Nat) (w : World) (h0 : w.cell? ⟨b, 0, none⟩ = some (.pointer none)) (hsh : w.shape? b = some (105, 2)) (hfz : w.frozen? ⟨b, 0, none⟩ = false) :
  Calls Tryz.prog 88 #[.pointer (some ⟨b, 0, none⟩)] w fun e w' => e = .returned (.tuple #[]) ∧ w' = w.setCell ⟨b, 0, none⟩ (.pointer (some ⟨b, 0, none⟩)) := by
 obtain ⟨j, hj, hjs⟩ := Option.map_eq_some_iff.1 size105
 go_enter Tryz.func88, Tryz.ntmps88
 go_wp2
 rw [Lib.run_to_unsafe w ⟨b, 0, none⟩ und103 und167 hj (by rw [hjs]; decide) hsh (Nat.zero_lt_succ 1)]
 simp only [Result.andThen]
 rw [Oper.upon_value]
 go_wp2
 rw [run_callFunc_extern Tryz.func118 (by kernel_rfl) (by kernel_rfl) (by kernel_rfl) (e := Extern.AbiNoEscape.same) (by kernel_rfl)]
 rw [Lib.run_noEscape]
 simp only [Result.andThen]
 rw [Oper.upon_value]
 go_wp2
 rw [Lib.run_from_unsafe w ⟨b, 0, none⟩ und167 und103 hj hsh lies105]
 simp only [Result.andThen]
 rw [Oper.upon_value]
 go_wp2
 go_end0
 exact ⟨rfl, rfl⟩
theorem copyCheck (B b : Nat) (bs : List Value) (w : World) (h : Lib.IsBuilder 105 5 B b bs w) :
  Calls Tryz.prog 88 #[.pointer (some ⟨b, 0, none⟩)] w fun e w' => e = .returned (.tuple #[]) ∧ (Lib.BuilderAt 105 5 B b (.pointer (some ⟨b, 0, none⟩)) bs w' ∧ Below B w w') := by
 rcases h with h | h
 ·refine (copyCheck_fresh b w h.cell0 h.shape h.frozen0).mono ?_
  rintro e w' ⟨rfl, rfl⟩
  exact ⟨rfl, h.used _, (Below.refl B w).setCell (p := ⟨b, 0, none⟩) h.1 _⟩
 ·refine (copyCheck_used b w h.cell0).mono ?_
  rintro e w' ⟨rfl, rfl⟩
  exact ⟨rfl, h, Below.refl B _⟩
set_option maxHeartbeats 2000000 in
set_option maxRecDepth 100000 in
theorem writeString (B b : Nat) (bs : List Value) (s : ByteArray) (w : World) (h : Lib.IsBuilder 105 5 B b bs w) (hlen : bs.length + s.size ≤ 140737488355328) (hBw : B ≤ w.heap.size) :
  Calls Tryz.prog 53 #[.pointer (some ⟨b, 0, none⟩), .string s] w fun e w' => e = .returned (.tuple #[.int .i64 s.size, .nilIface]) ∧ (Lib.IsBuilder 105 5 B b (bs ++ Lib.strCells s) w' ∧ Below B w w') := by
 obtain ⟨i0, hi, hz0, hz1, hz2⟩ := info_parts infoB
 go_enter Tryz.func53, Tryz.ntmps53
 go_wp2_with (go_at_call 88; refine (copyCheck B b bs _ h).mono ?_)
 rintro e w1 ⟨rfl, h1, hb1⟩
 obtain ⟨hB, v, hbk, hown, hne⟩ := h1
 have c0 : w1.cell? ⟨b, 0, none⟩ = some (.pointer (some ⟨b, 0, none⟩)) := by rw [Lib.cell_of_heap hbk]; rfl
 have c1 : w1.cell? ⟨b, 1, none⟩ = some v := by rw [Lib.cell_of_heap hbk]; rfl
 go_wp2_with (at_builtin; refine Lib.wpList_append_own_string _ rfl _ _ 47 9 rfl B 5 i0 und47 und9 hi hz0 hz1 hz2 _ _ _ rfl hown s rfl ?c3 ?c4 ?c5 ?_)
 case c3 => unfold maxLen; omega
 case c4 => omega
 case c5 => have := hb1.size; omega
 intro v' w2 hown' hgrow _
 have hlt : b < w1.heap.size := by
  rcases Nat.lt_or_ge b w1.heap.size with h' | h'
  ·exact h'
  ·simp [Array.getElem?_eq_none h'] at hbk
 have hb2 : w2.heap[b]? = some (.cells #[.pointer (some ⟨b, 0, none⟩), v] 105 (0, 0)) := by
  rw [hgrow.block b hlt (fun e => hne e.symm)]
  exact hbk
 have d0 : w2.cell? ⟨b, 0, none⟩ = some (.pointer (some ⟨b, 0, none⟩)) := by rw [Lib.cell_of_heap hb2]; rfl
 have d1 : w2.cell? ⟨b, 1, none⟩ = some v := by rw [Lib.cell_of_heap hb2]; rfl
 have f1 : w2.frozen? ⟨b, 1, none⟩ = false := Lib.frozen_of_heap hb2 1
 obtain ⟨ao, n', cap, rfl⟩ : ∃ ao n' cap, v' = .slice ao n' cap := by
  rcases hown'.2 with ⟨hv, _⟩ | ⟨g, cap, cur, hv, _⟩
  ·exact ⟨_, _, _, hv⟩
  ·exact ⟨_, _, _, hv⟩
 go_wp2
 go_ret2
 refine ⟨rfl, .inr ?_, ?_⟩
 ·exact Lib.BuilderAt.put (T := 105) (e := 5) hB hb2 (bs' := bs ++ Lib.strCells s) (by simpa [Lib.strCells_length] using hown') (by decide)
 ·exact (hb1.grown hgrow (by have := hb1.size; omega) (fun k hk => (hown.lt k hk).1)).setCell (p := ⟨b, 1, none⟩) hB _
def paperV : Value := .agg #[.func (.func 46) #[] #[], .func (.func 47) #[] #[], .func (.func 48) #[] #[], .func (.func 49) #[] #[], .int .i64 200]
open Go.Vev in
set_option maxRecDepth 100000 in
theorem bills_runs : ((evalN Tryz.prog 100).call 23 [] (roMem Tryz.prog [])).map Prod.fst = some paperV := by kernel_rfl
open Go.Vev in
theorem vrel_code {φ : Go.Vev.Ren} {g : FuncId} {v : Value} (h : VRel φ (.func (.func g) #[] #[]) v) : v = .func (.func g) #[] #[] := by
 cases h with
 | func g h1 h2 h3 h4 =>
  rw [Array.eq_empty_of_size_eq_zero h1.symm, Array.eq_empty_of_size_eq_zero h3.symm]
open Go.Vev in
theorem bills (w : World) (hw : Base w) : Calls Tryz.prog 23 #[] w fun e w' => e = .returned paperV ∧ Below w.heap.size w w' := by
 obtain ⟨⟨v, σ'⟩, he, hv⟩ := Option.map_eq_some_iff.1 bills_runs
 simp only at hv
 subst hv
 have hs := hrel_start (P := Tryz.prog) (w := w) [] (by rw [Go.Vev.Logs.eight]; exact hw.room) (fun g cs t' hm => by simp at hm)
 refine (evalN_calls Go.Vev.Logs.ok 100 he hs (args' := #[]) .nil).mono fun e w' hq => ?_
 obtain ⟨φ', v', rfl, _, hv, _, hb⟩ := hq
 refine ⟨?_, hb⟩
 unfold paperV at hv ⊢
 cases hv with
 | agg h1 h2 =>
  rename_i c'
  have a0 := h2 0 _ (c'[0]'(by rw [← h1]; decide)) rfl (by simp)
  have a1 := h2 1 _ (c'[1]'(by rw [← h1]; decide)) rfl (by simp)
  have a2 := h2 2 _ (c'[2]'(by rw [← h1]; decide)) rfl (by simp)
  have a3 := h2 3 _ (c'[3]'(by rw [← h1]; decide)) rfl (by simp)
  have a4 := h2 4 _ (c'[4]'(by rw [← h1]; decide)) rfl (by simp)
  have e0 := vrel_code a0
  have e1 := vrel_code a1
  have e2 := vrel_code a2
  have e3 := vrel_code a3
  have e4 := vrel_int a4
  have : c' = #[.func (.func 46) #[] #[], .func (.func 47) #[] #[], .func (.func 48) #[] #[], .func (.func 49) #[] #[], .int .i64 200] := by
   refine Array.ext (by rw [← h1]) fun i hi hj => ?_
   have hi5 : i < 5 := hj
   rcases (by omega : i = 0 ∨ i = 1 ∨ i = 2 ∨ i = 3 ∨ i = 4) with rfl | rfl | rfl | rfl | rfl
   ·exact e0
   ·exact e1
   ·exact e2
   ·exact e3
   ·exact e4
  rw [this]
def isB (x : S26) : Bool :=
 sealsOk 0 x.f5 && (inside 1 9999 [x.f0] && (inside 0 99 [x.f1] && (inside 1 100000 [x.f2] && (inside 0 100000 [x.f3, x.f4] && (x.f3 != x.f4 && decide (x.f5.length ≤ 10))))))
theorem sealsOk_range : ∀ (l : List Int) (b : Int), 0 ≤ b → sealsOk b l = true → ∀ n ∈ l, b < n ∧ n ≤ 99999
 | [], _, _, _, n, h => by simp at h
 | m :: r, b, h0, h, n, hn => by
  simp only [sealsOk, Bool.and_eq_true] at h
  have hm : b + 1 ≤ m ∧ m ≤ 99999 := by simpa [inside] using h.1
  rcases List.mem_cons.1 hn with rfl | hn
  ·omega
  ·have := sealsOk_range r m (by omega) h.2 n hn
   omega
theorem small_of {x : S26} (h : isB x = true) : Small x := by
 simp only [isB, Bool.and_eq_true, inside, List.all_cons, List.all_nil, Bool.and_true, decide_eq_true_eq, Bool.not_eq_true', Bool.or_eq_false_iff, decide_eq_false_iff_not] at h
 obtain ⟨h0, h1, h2, h3, h4, h5, h6⟩ := h
 exact ⟨by omega, by omega, by omega, by omega, by omega, fun n hn => by have := sealsOk_range _ 0 (by omega) h0 n hn; omega, h6⟩
def after (p : Option Int) (n : Int) : Bool := match p with | none => true | some m => decide (m < n)
def textF : List UInt8 → Option Int → List S26 → ByteArray × Int
 | acc, _, [] => (⟨acc.toArray⟩, 0)
 | acc, p, x :: r => if isB x then (if after p x.f0 then textF (acc ++ (billS x).data.toList) (some x.f0) r else (⟨#[]⟩, 6)) else (⟨#[]⟩, 2)
theorem sealOf_size (t : ByteArray) : (sealOf t).size = t.size + 3 := by
 unfold sealOf
 rw [ByteArray.size_append, ByteArray.size_append]
 have : (strOfNums [97 + weight t / 26, 97 + weight t % 26]).size = 2 := by simp [strOfNums, ByteArray.size]
 rw [this]
 rfl
theorem billS_size {x : S26} (h : Small x) : (billS x).data.toList.length ≤ 404 := by
 have h1 := joined_size h
 have h2 : (billS x).size ≤ 404 := by
  unfold billS
  rw [sealOf_size, ByteArray.size_append]
  have : (⟨#[32]⟩ : ByteArray).size = 1 := rfl
  omega
 exact h2
theorem isBuilder_below {B b : Nat} {bs : List Value} {w w' : World} (h : Lib.IsBuilder 105 5 B b bs w) (hb : Below w.heap.size w w') : Lib.IsBuilder 105 5 B b bs w' := by
 have step : ∀ p, Lib.BuilderAt 105 5 B b p bs w → Lib.BuilderAt 105 5 B b p bs w' := by
  intro p hp
  have hlt := hp.lt
  obtain ⟨h1, v, h2, h3, h4⟩ := hp
  exact ⟨h1, v, (hb.block b hlt).trans h2, own_move h3 (fun k hk => hb.block k (own_lt h3 k hk)), h4⟩
 rcases h with h | h
 ·exact .inl (step _ h)
 ·exact .inr (step _ h)
theorem isBillC (x : S26) (b : Bool) (hb : isB x = b) (A : Option Addr) (c : Nat) (w : World) (hr : Kd.C (Kd.int .i64) w A x.f5.length x.f5) (hc : x.f5.length ≤ c) (hl : x.f5.length ≤ 1000000) :
  Calls Tryz.prog 46 #[.agg #[.int .i64 x.f0, .int .i64 x.f1, .int .i64 x.f2, .int .i64 x.f3, .int .i64 x.f4, .slice A x.f5.length c]] w fun e w' => e = .returned (.bool b) ∧ Below w.heap.size w w' := by
 subst hb
 exact isBill x.f0 x.f1 x.f2 x.f3 x.f4 A c x.f5 w hr hc hl
theorem billAfterC (y x : S26) (b : Bool) (hb : decide (y.f0 < x.f0) = b) (Ay : Option Addr) (cy : Nat) (A : Option Addr) (c : Nat) (w : World) (hry : Kd.C (Kd.int .i64) w Ay y.f5.length y.f5) (hcy : y.f5.length ≤ cy) (hr : Kd.C (Kd.int .i64) w A x.f5.length x.f5) (hc : x.f5.length ≤ c) :
  Calls Tryz.prog 47 #[.agg #[.int .i64 y.f0, .int .i64 y.f1, .int .i64 y.f2, .int .i64 y.f3, .int .i64 y.f4, .slice Ay y.f5.length cy], .agg #[.int .i64 x.f0, .int .i64 x.f1, .int .i64 x.f2, .int .i64 x.f3, .int .i64 x.f4, .slice A x.f5.length c]] w fun e w' => e = .returned (.bool b) ∧ Below w.heap.size w w' := by
 subst hb
 exact logs_billAfter.calls y.f0 y.f1 y.f2 y.f3 y.f4 Ay cy y.f5 x.f0 x.f1 x.f2 x.f3 x.f4 A c x.f5 _ w hry hcy hr hc rfl
theorem keepCell {W w' : World} {a : Addr} {v : Value} (h : W.cell? a = some v) (hb : Below W.heap.size W w') : w'.cell? a = some v := (hb.cell (xbl W _ h)).trans h
def lastN (l : List S26) (i : Nat) : Option Int := match i with | 0 => none | i + 1 => (l[i]?).map (·.f0)
set_option maxHeartbeats 8000000 in
set_option maxRecDepth 100000 in
theorem text (l : List S26) (A : Option Addr) (c : Nat) (w : World) (hr : Kd.C k26 w A l.length l) (hc : l.length ≤ c) (hseals : ∀ x ∈ l, x.f5.length ≤ 1000000) (hw : Base w) :
  Calls Tryz.prog 24 #[paperV, .slice A l.length c] w fun e w' =>
   e = .returned (if 200 < l.length then .tuple #[.string ⟨#[]⟩, .int .i64 5] else .tuple #[.string (textF [] none l).1, (.int .i64 (textF [] none l).2)]) ∧ Below w.heap.size w w' := by
 have hu26 := Tryz.underlying26
 have HB := Aside0.mk (Below.refl w.heap.size w)
 unfold paperV
 by_cases hlong : 200 < l.length
 ·rw [if_pos hlong]
  have z1 : decide ((200 : Int) < (l.length : Int)) = true := decide_eq_true (by omega)
  have z2 : decide (200 < l.length) = true := decide_eq_true hlong
  go_enter Tryz.func24, Tryz.ntmps24
  go_wp2
  go_ret2
  exact ⟨rfl, below_alloc HB.out _⟩
 ·rw [if_neg hlong]
  have z1 : decide ((200 : Int) < (l.length : Int)) = false := decide_eq_false (by omega)
  have z2 : decide (200 < l.length) = false := decide_eq_false hlong
  go_enter Tryz.func24, Tryz.ntmps24
  go_wp2_with fail
  generalize hB : (w.alloc (.cells #[.func (.func 46) #[] #[], .func (.func 47) #[] #[], .func (.func 48) #[] #[], .func (.func 49) #[] #[], .int .i64 200] 66)) = W0
  have hszW : W0.heap.size = w.heap.size + 1 := by rw [← hB]; simp
  have hbW : Below w.heap.size w W0 := by rw [← hB]; exact below_alloc HB.out _
  have hpaper : ∀ w' : World, Below (w.heap.size + 1) W0 w' → w'.cell? ⟨w.heap.size, 0, none⟩ = some (.func (.func 46) #[] #[]) ∧ w'.cell? ⟨w.heap.size, 1, none⟩ = some (.func (.func 47) #[] #[]) ∧ w'.cell? ⟨w.heap.size, 2, none⟩ = some (.func (.func 48) #[] #[]) := by
   intro w' hb
   have hlt : w.heap.size < w.heap.size + 1 := by omega
   refine ⟨?_, ?_, ?_⟩ <;> (rw [hb.cell hlt, ← hB]; simp)
  have hB0 := Lib.fresh_isBuilder 105 5 W0
  rw [hszW] at hB0
  go_loopg [16] (l.length + 1) (fun kq v16 wr => ∃ (i : Nat) (acc : List UInt8), v16 = .int .i64 (i : Int) ∧ i ≤ l.length ∧ kq + i = l.length + 1 ∧ Aside0 (textF [] none l = textF acc (lastN l i) (l.drop i)) ∧ Aside0 (acc.length ≤ 404 * i) ∧ Aside0 (Lib.IsBuilder 105 5 (w.heap.size + 1) (w.heap.size + 1) (Lib.byteCells acc) wr) ∧ Aside0 (Below (w.heap.size + 1) W0 wr))
  case atStart => exact ⟨0, [], by first | rfl | simp, by omega, by omega, ⟨rfl⟩, ⟨by simp⟩, ⟨hB0⟩, ⟨by rw [← hszW]; exact below_alloc (Below.refl _ _) _⟩⟩
  case round =>
   obtain ⟨i, acc, rfl, h1, h2, ⟨h3⟩, ⟨h4⟩, ⟨hbd⟩, ⟨h5⟩⟩ := hrel
   have hbw : Below w.heap.size w wr := below_step hbW (by rw [hszW]; exact h5)
   have hr' := Kd.C_below hr hbw
   have hwr : Base wr := hw.step hbw
   obtain ⟨p0, p1, p2⟩ := hpaper wr h5
   by_cases hlt : i < l.length
   ·have hltb : decide ((i : Int) < (l.length : Int)) = true := decide_eq_true (by omega)
    have p128 : (0 ≤ (i : Int)) = True := eq_true (by omega)
    have q128 : ((i : Int) < (l.length : Int)) = True := eq_true (by omega)
    obtain ⟨ad, A5, c5, rfl, x0, x1, x2, x3, x4, x5, hl5, hi5⟩ := at_T26 hr' (i : Int) (by omega) (by omega)
    simp only [Int.toNat_natCast] at x0 x1 x2 x3 x4 x5
    have hxm : rd_T26 l (i : Int) = l[i] := by simp [rd_T26, hlt]
    rw [hxm] at x0 x1 x2 x3 x4 x5 hl5 hi5
    have hxl : l[i].f5.length ≤ 1000000 := hseals _ (List.getElem_mem hlt)
    have hdrop : l.drop i = l[i] :: l.drop (i + 1) := List.drop_eq_getElem_cons hlt
    have hlast : lastN l (i + 1) = some l[i].f0 := by simp [lastN, hlt]
    generalize l[i] = x at x0 x1 x2 x3 x4 x5 hl5 hi5 hxl hdrop hlast
    clear hxm
    rw [hdrop] at h3
    go_upto_region 7 with fail
    generalize hB1 : (wr.alloc (.cells #[.int .i64 x.f0, .int .i64 x.f1, .int .i64 x.f2, .int .i64 x.f3, .int .i64 x.f4, .slice A5 x.f5.length c5] 26)) = W1
    have hb1 : Below wr.heap.size wr W1 := by rw [← hB1]; exact below_alloc (Below.refl _ _) _
    have hwsz : w.heap.size + 1 ≤ wr.heap.size := by rw [← hszW]; exact h5.size
    have hW1 : Below (w.heap.size + 1) W0 W1 := h5.trans (hb1.mono hwsz)
    have hbw1 : Below w.heap.size w W1 := hbw.trans (hb1.mono (by omega))
    obtain ⟨q0, q1, q2⟩ := hpaper W1 hW1
    have y0 : W1.cell? ⟨wr.heap.size, 0, none⟩ = some (.int .i64 x.f0) := by rw [← hB1]; simp
    have y1 : W1.cell? ⟨wr.heap.size, 1, none⟩ = some (.int .i64 x.f1) := by rw [← hB1]; simp
    have y2 : W1.cell? ⟨wr.heap.size, 2, none⟩ = some (.int .i64 x.f2) := by rw [← hB1]; simp
    have y3 : W1.cell? ⟨wr.heap.size, 3, none⟩ = some (.int .i64 x.f3) := by rw [← hB1]; simp
    have y4 : W1.cell? ⟨wr.heap.size, 4, none⟩ = some (.int .i64 x.f4) := by rw [← hB1]; simp
    have y5 : W1.cell? ⟨wr.heap.size, 5, none⟩ = some (.slice A5 x.f5.length c5) := by rw [← hB1]; simp
    have hiW1 := Kd.C_below hi5 hb1
    have hbd1 := isBuilder_below hbd hb1
    clear hB1 p0 p1 p2
    cases hisB : isB x with
    | false =>
     go_wp2_with (go_at_call 46; refine (isBillC x false hisB _ _ _ hiW1 hl5 hxl).mono ?_; rintro e w' ⟨rfl, hb⟩)
     go_ret2
     rw [h3, textF, hisB]
     exact ⟨rfl, hbw1.trans (hb.mono (by have := hbw1.size; omega))⟩
    | true =>
     go_upto_region 9 with (go_at_call 46; refine (isBillC x true hisB _ _ _ hiW1 hl5 hxl).mono ?_; rintro e W2 ⟨rfl, hb2⟩)
     have hW2 : Below (w.heap.size + 1) W0 W2 := hW1.trans (hb2.mono (by have := hb1.size; omega))
     have hbw2 : Below w.heap.size w W2 := hbw1.trans (hb2.mono (by have := hbw1.size; omega))
     have hiW2 := Kd.C_below hiW1 hb2
     have hbd2 := isBuilder_below hbd1 hb2
     have hbase2 : Base W2 := hw.step hbw2
     have hsz2 : w.heap.size + 1 ≤ W2.heap.size := by have := hb1.size; have := hb2.size; omega
     obtain ⟨q0, q1, q2⟩ := hpaper W2 hW2
     replace y0 := keepCell y0 hb2
     replace y1 := keepCell y1 hb2
     replace y2 := keepCell y2 hb2
     replace y3 := keepCell y3 hb2
     replace y4 := keepCell y4 hb2
     replace y5 := keepCell y5 hb2
     have hbs := billS_size (small_of hisB)
     have hbs' : (billS x).size = (billS x).data.toList.length := rfl
     have hroom : (Lib.byteCells acc).length + (billS x).size ≤ 140737488355328 := by rw [Lib.byteCells_length]; omega
     have g5 := Below.refl W2.heap.size W2
     have hBa : ∀ w3, Below W2.heap.size W2 w3 → Base w3 := fun w3 h => hbase2.step h
     by_cases hi0 : i = 0
     ·have z5 : decide ((0 : Int) < (i : Int)) = false := decide_eq_false (by omega)
      have z6 : decide (0 < i) = false := decide_eq_false (by omega)
      have hd := below_drew g5
      go_region
      go_wp2_with (first
       | (go_at_call 48; refine (billLine x _ _ _ (Kd.C_below hiW2 (by assumption)) hl5 (small_of hisB) (hBa _ (by assumption))).mono ?_; rintro e w4 ⟨rfl, hb⟩; have hb34 : Below W2.heap.size W2 w4 := below_step (by assumption) hb)
       | (go_at_call 53; refine (writeString _ _ _ _ _ (isBuilder_below hbd2 hb34) hroom (Nat.le_trans hsz2 hb34.size)).mono ?_; rintro e w5 ⟨rfl, hbd5, hb5⟩))
      go_roundg (gk - 1)
      case measure => omega
      case rel =>
       refine ⟨i + 1, acc ++ (billS x).data.toList, by first | (simp; done) | (simp; omega), by omega, by omega, ⟨?_⟩, ⟨by rw [List.length_append]; omega⟩, ⟨by rw [Lib.byteCells_append]; exact hbd5⟩, ⟨hW2.trans ((hb34.mono hsz2).trans hb5)⟩⟩
       rw [h3, textF, hisB, if_pos rfl, hlast]
       rw [if_pos (by rw [hi0]; rfl)]
     ·obtain ⟨k, hk⟩ : ∃ k, i = k + 1 := ⟨i - 1, by omega⟩
      have z5 : decide ((0 : Int) < (i : Int)) = true := decide_eq_true (by omega)
      have z6 : decide (0 < i) = true := decide_eq_true (by omega)
      have hsub : IntKind.i64.wrap ((i : Int) - 1) = (k : Int) := by rw [i64_w]; unfold wrap64; omega
      have p129 : (0 ≤ (k : Int)) = True := eq_true (by omega)
      have q129 : ((k : Int) < (l.length : Int)) = True := eq_true (by omega)
      have q130 : (k < l.length) = True := eq_true (by omega)
      obtain ⟨ad', A6, c6, hade, v0, v1, v2, v3, v4, v5, hl6, hi6⟩ := at_T26 hr' (k : Int) (by omega) (by omega)
      cases hade
      have hxk : rd_T26 l (k : Int) = l[k]'(by omega) := by simp [rd_T26, (by omega : k < l.length)]
      rw [hxk] at v0 v1 v2 v3 v4 v5 hl6 hi6
      simp only [Int.toNat_natCast] at v0 v1 v2 v3 v4 v5
      have hlk : lastN l (k + 1) = some (l[k]'(by omega)).f0 := by simp [lastN, (by omega : k < l.length)]
      rw [← hk] at hlk
      generalize l[k]'(by omega) = y at v0 v1 v2 v3 v4 v5 hl6 hi6 hlk
      have hb12 := below_step hb1 hb2
      replace v0 := keepCell v0 hb12
      replace v1 := keepCell v1 hb12
      replace v2 := keepCell v2 hb12
      replace v3 := keepCell v3 hb12
      replace v4 := keepCell v4 hb12
      replace v5 := keepCell v5 hb12
      have hi6' := Kd.C_below hi6 hb12
      have hii : (i : Int) - 1 = (k : Int) := by omega
      have hkeep : ∀ (w1 w2 : World), Below w1.heap.size w1 w2 → Below W2.heap.size W2 w1 → w2.cell? ⟨w.heap.size, 1, none⟩ = some (.func (.func 47) #[] #[]) ∧ w2.cell? ⟨w.heap.size, 2, none⟩ = some (.func (.func 48) #[] #[]) ∧ w2.cell? (ad.add (k * 6)) = some (.int .i64 y.f0) ∧ w2.cell? ⟨(ad.add (k * 6)).block, (ad.add (k * 6)).off + 1, none⟩ = some (.int .i64 y.f1) ∧ w2.cell? ⟨(ad.add (k * 6)).block, (ad.add (k * 6)).off + 2, none⟩ = some (.int .i64 y.f2) ∧ w2.cell? ⟨(ad.add (k * 6)).block, (ad.add (k * 6)).off + 3, none⟩ = some (.int .i64 y.f3) ∧ w2.cell? ⟨(ad.add (k * 6)).block, (ad.add (k * 6)).off + 4, none⟩ = some (.int .i64 y.f4) ∧ w2.cell? ⟨(ad.add (k * 6)).block, (ad.add (k * 6)).off + 5, none⟩ = some (.slice A6 y.f5.length c6) ∧ w2.cell? ⟨wr.heap.size, 0, none⟩ = some (.int .i64 x.f0) ∧ w2.cell? ⟨wr.heap.size, 1, none⟩ = some (.int .i64 x.f1) ∧ w2.cell? ⟨wr.heap.size, 2, none⟩ = some (.int .i64 x.f2) ∧ w2.cell? ⟨wr.heap.size, 3, none⟩ = some (.int .i64 x.f3) ∧ w2.cell? ⟨wr.heap.size, 4, none⟩ = some (.int .i64 x.f4) ∧ w2.cell? ⟨wr.heap.size, 5, none⟩ = some (.slice A5 x.f5.length c5) ∧ Below W2.heap.size W2 w2 := by
       intro w1 w2 hk1 hk2
       have h6 := below_step hk2 hk1
       exact ⟨keepCell q1 h6, keepCell q2 h6, keepCell v0 h6, keepCell v1 h6, keepCell v2 h6, keepCell v3 h6, keepCell v4 h6, keepCell v5 h6, keepCell y0 h6, keepCell y1 h6, keepCell y2 h6, keepCell y3 h6, keepCell y4 h6, keepCell y5 h6, h6⟩
      have halloc := fun (w1 : World) (o : Obj) (hk1 : Below W2.heap.size W2 w1) => hkeep w1 (w1.alloc o) (below_alloc (Below.refl _ _) o) hk1
      have hdrew := fun (w1 : World) (hk1 : Below W2.heap.size W2 w1) => hkeep w1 w1.drew (below_drew (Below.refl _ _)) hk1
      clear hii
      have hk' := Aside0.mk hk
      clear hxk
      clear hk hi0
      cases haf : decide (y.f0 < x.f0) with
      | false =>
       go_region_held3 (fun w2 => w2.cell? ⟨w.heap.size, 1, none⟩ = some (.func (.func 47) #[] #[]) ∧ w2.cell? ⟨w.heap.size, 2, none⟩ = some (.func (.func 48) #[] #[]) ∧ w2.cell? (ad.add (k * 6)) = some (.int .i64 y.f0) ∧ w2.cell? ⟨(ad.add (k * 6)).block, (ad.add (k * 6)).off + 1, none⟩ = some (.int .i64 y.f1) ∧ w2.cell? ⟨(ad.add (k * 6)).block, (ad.add (k * 6)).off + 2, none⟩ = some (.int .i64 y.f2) ∧ w2.cell? ⟨(ad.add (k * 6)).block, (ad.add (k * 6)).off + 3, none⟩ = some (.int .i64 y.f3) ∧ w2.cell? ⟨(ad.add (k * 6)).block, (ad.add (k * 6)).off + 4, none⟩ = some (.int .i64 y.f4) ∧ w2.cell? ⟨(ad.add (k * 6)).block, (ad.add (k * 6)).off + 5, none⟩ = some (.slice A6 y.f5.length c6) ∧ w2.cell? ⟨wr.heap.size, 0, none⟩ = some (.int .i64 x.f0) ∧ w2.cell? ⟨wr.heap.size, 1, none⟩ = some (.int .i64 x.f1) ∧ w2.cell? ⟨wr.heap.size, 2, none⟩ = some (.int .i64 x.f2) ∧ w2.cell? ⟨wr.heap.size, 3, none⟩ = some (.int .i64 x.f3) ∧ w2.cell? ⟨wr.heap.size, 4, none⟩ = some (.int .i64 x.f4) ∧ w2.cell? ⟨wr.heap.size, 5, none⟩ = some (.slice A5 x.f5.length c5) ∧ Below W2.heap.size W2 w2)
        (first
         | (go_split_ands; first | exact hkeep _ _ hb (by assumption) | exact halloc _ _ (by assumption) | exact hdrew _ (by assumption))
         | go_keep)
        (first
         | (go_at_call 47; go_split_ands; refine (billAfterC y x false haf _ _ _ _ _ (Kd.C_below hi6' (by assumption)) hl6 (Kd.C_below hiW2 (by assumption)) hl5).mono ?_; rintro e w' ⟨rfl, hb⟩))
       go_split_ands
       go_wp2
       go_ret2
       rw [h3, textF, hisB, if_pos rfl, if_neg (by rw [hlk]; simp only [after]; rw [haf]; exact Bool.false_ne_true)]
       exact ⟨rfl, hbw2.trans (Below.mono (by assumption) (by omega))⟩
      | true =>
       go_region_held3 (fun w2 => w2.cell? ⟨w.heap.size, 1, none⟩ = some (.func (.func 47) #[] #[]) ∧ w2.cell? ⟨w.heap.size, 2, none⟩ = some (.func (.func 48) #[] #[]) ∧ w2.cell? (ad.add (k * 6)) = some (.int .i64 y.f0) ∧ w2.cell? ⟨(ad.add (k * 6)).block, (ad.add (k * 6)).off + 1, none⟩ = some (.int .i64 y.f1) ∧ w2.cell? ⟨(ad.add (k * 6)).block, (ad.add (k * 6)).off + 2, none⟩ = some (.int .i64 y.f2) ∧ w2.cell? ⟨(ad.add (k * 6)).block, (ad.add (k * 6)).off + 3, none⟩ = some (.int .i64 y.f3) ∧ w2.cell? ⟨(ad.add (k * 6)).block, (ad.add (k * 6)).off + 4, none⟩ = some (.int .i64 y.f4) ∧ w2.cell? ⟨(ad.add (k * 6)).block, (ad.add (k * 6)).off + 5, none⟩ = some (.slice A6 y.f5.length c6) ∧ w2.cell? ⟨wr.heap.size, 0, none⟩ = some (.int .i64 x.f0) ∧ w2.cell? ⟨wr.heap.size, 1, none⟩ = some (.int .i64 x.f1) ∧ w2.cell? ⟨wr.heap.size, 2, none⟩ = some (.int .i64 x.f2) ∧ w2.cell? ⟨wr.heap.size, 3, none⟩ = some (.int .i64 x.f3) ∧ w2.cell? ⟨wr.heap.size, 4, none⟩ = some (.int .i64 x.f4) ∧ w2.cell? ⟨wr.heap.size, 5, none⟩ = some (.slice A5 x.f5.length c5) ∧ Below W2.heap.size W2 w2)
        (first
         | (go_split_ands; first | exact hkeep _ _ hb (by assumption) | exact halloc _ _ (by assumption) | exact hdrew _ (by assumption))
         | go_keep)
        (first
         | (go_at_call 47; go_split_ands; refine (billAfterC y x true haf _ _ _ _ _ (Kd.C_below hi6' (by assumption)) hl6 (Kd.C_below hiW2 (by assumption)) hl5).mono ?_; rintro e w' ⟨rfl, hb⟩))
       go_split_ands
       go_wp2_with (first
        | (go_at_call 48; refine (billLine x _ _ _ (Kd.C_below hiW2 (by assumption)) hl5 (small_of hisB) (hBa _ (by assumption))).mono ?_; rintro e w4 ⟨rfl, hb⟩; have hb34 : Below W2.heap.size W2 w4 := below_step (by assumption) hb)
        | (go_at_call 53; refine (writeString _ _ _ _ _ (isBuilder_below hbd2 hb34) hroom (Nat.le_trans hsz2 hb34.size)).mono ?_; rintro e w5 ⟨rfl, hbd5, hb5⟩))
       go_roundg (gk - 1)
       case measure => omega
       case rel =>
        refine ⟨i + 1, acc ++ (billS x).data.toList, by first | (simp; done) | (simp; omega), by omega, by omega, ⟨?_⟩, ⟨by rw [List.length_append]; omega⟩, ⟨by rw [Lib.byteCells_append]; exact hbd5⟩, ⟨hW2.trans ((hb34.mono hsz2).trans hb5)⟩⟩
        rw [h3, textF, hisB, if_pos rfl, hlast]
        rw [if_pos (by rw [hlk]; exact haf)]
   ·have hltb : decide ((i : Int) < (l.length : Int)) = false := decide_eq_false (by omega)
    have hi : i = l.length := by omega
    subst hi
    have hwp : w.heap.size + 1 ≤ wr.heap.size := by rw [← hszW]; exact h5.size
    go_wp2_with (go_at_call 54; refine (Tryz.Builder_String_any _ _ acc _ hbd hwp).mono ?_; rintro e w' ⟨rfl, hb⟩)
    go_ret2
    rw [h3, List.drop_length]
    exact ⟨rfl, hbw.trans (hb.mono (by omega))⟩
end Go.Proofs.Lg
namespace Go.Proofs.YtdomcbebbhbdlaaGreatDoor.PLogsBills
open Go.RowKit
abbrev Base := Go.Proofs.Lg.Base
theorem Base.step {w w' : World} (h : Base w) (hb : Below w.heap.size w w') : Base w' := Go.Proofs.Lg.Base.step h hb
def rf_Number.f (n : Int) : Option ByteArray := if 0 ≤ n ∧ n ≤ 1000000000 then some (Go.Proofs.Lg.dec n) else none
theorem rf_Number.calls (a0 : Int) (r : ByteArray) (w : World) (h : rf_Number.f a0 = some r) :
  Calls Tryz.prog 61 #[.int .i64 a0] w fun e w' => e = .returned (.string r) ∧ Below w.heap.size w w' := by
 unfold rf_Number.f at h
 by_cases hn : 0 ≤ a0 ∧ a0 ≤ 1000000000
 ·rw [if_pos hn] at h
  cases h
  obtain ⟨k, rfl⟩ : ∃ k : Nat, a0 = (k : Int) := ⟨a0.toNat, by omega⟩
  refine (Go.Proofs.Lg.number k (by omega) w).mono ?_
  rintro e w' ⟨rfl, hb⟩
  exact ⟨by unfold Go.Proofs.Lg.dec; rw [Int.toNat_natCast], hb⟩
 ·rw [if_neg hn] at h; cases h
def rf_Line.f (s : ByteArray) : Option ByteArray := if s.size ≤ 3000 then some (Go.Proofs.Lg.sealOf (s ++ ⟨#[32]⟩)) else none
theorem rf_Line.calls (a0 : ByteArray) (r : ByteArray) (w : World) (h : rf_Line.f a0 = some r) :
  Calls Tryz.prog 62 #[.string a0] w fun e w' => e = .returned (.string r) ∧ Below w.heap.size w w' := by
 unfold rf_Line.f at h
 by_cases hn : a0.size ≤ 3000
 ·rw [if_pos hn] at h
  cases h
  exact Go.Proofs.Lg.line a0 hn w
 ·rw [if_neg hn] at h; cases h
end Go.Proofs.YtdomcbebbhbdlaaGreatDoor.PLogsBills
namespace Go.Proofs.Lg
open Go.RowKit Go.Proofs.YtdomcbebbhbdlaaGreatDoorW.PrintWords Go.Proofs.YtdomcbebbhbdlaaGreatDoorW.PrintLast Go.Proofs.YtdomcbebbhbdlaaGreatDoorW.PrintMore Go.Proofs.YtdomcbebbhbdlaaGreatDoor.PLogsBills
theorem in_f (n lo hi : Int) : rf_In.f n lo hi = some (decide (lo ≤ n ∧ n ≤ hi)) := by
 unfold rf_In.f
 by_cases h : n ≥ lo
 ·rw [if_pos h]; congr 1; by_cases h2 : n ≤ hi <;> simp [h2]; omega
 ·rw [if_neg h]; congr 1; simp; omega
theorem inside_one (lo hi n : Int) : inside lo hi [n] = decide (lo ≤ n ∧ n ≤ hi) := by
 rw [Bool.eq_iff_iff]
 simp [inside]
theorem inside_two (lo hi n m : Int) : inside lo hi [n, m] = (decide (lo ≤ n ∧ n ≤ hi) && decide (lo ≤ m ∧ m ≤ hi)) := by
 rw [Bool.eq_iff_iff]
 simp [inside]
theorem inB (n lo hi : Int) (b : Bool) (hb : decide (lo ≤ n ∧ n ≤ hi) = b) (w : World) :
  Calls Tryz.prog 60 #[.int .i64 n, .int .i64 lo, .int .i64 hi] w fun e w' => e = .returned (.bool b) ∧ Drawn0 w w' :=
 rf_In.calls n lo hi b w (by rw [in_f, hb])
def prevS (l : List Int) (i : Nat) : Int := match i with | 0 => 0 | i + 1 => l.getD i 0
set_option maxHeartbeats 8000000 in
set_option maxRecDepth 100000 in
theorem refBill (num cargo tons fr to_ : Int) (A : Option Addr) (c : Nat) (l : List Int) (w : World) (hr : Kd.C (Kd.int .i64) w A l.length l) (hc : l.length ≤ c) (hl : l.length ≤ 1000000) :
  Calls Tryz.prog 26 #[.agg #[.int .i64 num, .int .i64 cargo, .int .i64 tons, .int .i64 fr, .int .i64 to_, .slice A l.length c]] w fun e w' =>
   e = .returned (.bool (sealsOk 0 l && (decide (1 ≤ num ∧ num ≤ 9999) && (decide (0 ≤ cargo ∧ cargo ≤ 99) && (decide (1 ≤ tons ∧ tons ≤ 100000) && (decide (0 ≤ fr ∧ fr ≤ 100000) && (decide (0 ≤ to_ ∧ to_ ≤ 100000) && (fr != to_ && decide (l.length ≤ 10))))))))) ∧ Below w.heap.size w w' := by
 have hu26 := Tryz.underlying26
 have HB := Aside0.mk (Below.refl w.heap.size w)
 go_enter Tryz.func26, Tryz.ntmps26
 go_upto_region 1 with fail
 generalize hB : (w.alloc (.cells #[.int .i64 num, .int .i64 cargo, .int .i64 tons, .int .i64 fr, .int .i64 to_, .slice A l.length c] 26)) = W0
 have hbW : Below w.heap.size w W0 := by rw [← hB]; exact below_alloc HB.out _
 have hA0 : W0.heap[w.heap.size]? = some (.cells #[.int .i64 num, .int .i64 cargo, .int .i64 tons, .int .i64 fr, .int .i64 to_, .slice A l.length c] 26 (0, 0)) := by rw [← hB]; exact heap_alloc_new _ _
 have hlt0 : w.heap.size < W0.heap.size := by rw [← hB]; simp
 have hcell : ∀ w' : World, Below W0.heap.size W0 w' → w'.cell? ⟨w.heap.size, 0, none⟩ = some (.int .i64 num) ∧ w'.cell? ⟨w.heap.size, 1, none⟩ = some (.int .i64 cargo) ∧ w'.cell? ⟨w.heap.size, 2, none⟩ = some (.int .i64 tons) ∧
   w'.cell? ⟨w.heap.size, 3, none⟩ = some (.int .i64 fr) ∧ w'.cell? ⟨w.heap.size, 4, none⟩ = some (.int .i64 to_) ∧ w'.cell? ⟨w.heap.size, 5, none⟩ = some (.slice A l.length c) := by
  intro w' hb
  have h := (hb.block _ hlt0).trans hA0
  refine ⟨?_, ?_, ?_, ?_, ?_, ?_⟩ <;> (rw [Lib.cell_of_heap h]; rfl)
 clear hB
 obtain ⟨g0, g1, g2, g3, g4, g5⟩ := hcell W0 (Below.refl _ _)
 generalize hall : sealsOk 0 l = S
 have bad : ∀ x : Bool, x = false → (S && x) = false := fun x h => by rw [h, Bool.and_false]
 cases e0 : decide (1 ≤ num ∧ num ≤ 9999) with
 | false =>
  go_wp2_with (go_at_call 60; (with_reducible refine (inB num 1 9999 _ e0 _).mono ?_); rintro e w' ⟨rfl, nd, rfl⟩)
  go_ret
  exact ⟨by rw [e0]; simp, pw_below_drewN hbW nd⟩
 | true =>
 cases e1 : decide (0 ≤ cargo ∧ cargo ≤ 99) with
 | false =>
  go_wp2_with (go_at_call 60; (first | (with_reducible refine (inB num 1 9999 _ e0 _).mono ?_) | (with_reducible refine (inB cargo 0 99 _ e1 _).mono ?_)); rintro e w' ⟨rfl, nd, rfl⟩)
  go_ret
  exact ⟨by rw [e1]; simp, by repeat (first | exact hbW | apply pw_below_drewN)⟩
 | true =>
 cases e2 : decide (1 ≤ tons ∧ tons ≤ 100000) with
 | false =>
  go_wp2_with (go_at_call 60; (first | (with_reducible refine (inB num 1 9999 _ e0 _).mono ?_) | (with_reducible refine (inB cargo 0 99 _ e1 _).mono ?_) | (with_reducible refine (inB tons 1 100000 _ e2 _).mono ?_)); rintro e w' ⟨rfl, nd, rfl⟩)
  go_ret
  exact ⟨by rw [e2]; simp, by repeat (first | exact hbW | apply pw_below_drewN)⟩
 | true =>
 cases e3 : decide (0 ≤ fr ∧ fr ≤ 100000) with
 | false =>
  go_wp2_with (go_at_call 60; (first | (with_reducible refine (inB num 1 9999 _ e0 _).mono ?_) | (with_reducible refine (inB cargo 0 99 _ e1 _).mono ?_) | (with_reducible refine (inB tons 1 100000 _ e2 _).mono ?_) | (with_reducible refine (inB fr 0 100000 _ e3 _).mono ?_)); rintro e w' ⟨rfl, nd, rfl⟩)
  go_ret
  exact ⟨by rw [e3]; simp, by repeat (first | exact hbW | apply pw_below_drewN)⟩
 | true =>
 cases e4 : decide (0 ≤ to_ ∧ to_ ≤ 100000) with
 | false =>
  go_wp2_with (go_at_call 60; (first | (with_reducible refine (inB num 1 9999 _ e0 _).mono ?_) | (with_reducible refine (inB cargo 0 99 _ e1 _).mono ?_) | (with_reducible refine (inB tons 1 100000 _ e2 _).mono ?_) | (with_reducible refine (inB fr 0 100000 _ e3 _).mono ?_) | (with_reducible refine (inB to_ 0 100000 _ e4 _).mono ?_)); rintro e w' ⟨rfl, nd, rfl⟩)
  go_ret
  exact ⟨by rw [e4]; simp, by repeat (first | exact hbW | apply pw_below_drewN)⟩
 | true =>
 by_cases h5 : fr = to_
 ·have f1 : (fr == to_) = true := beq_iff_eq.2 h5
  have f2 : (fr != to_) = false := bne_eq_false_iff_eq.2 h5
  clear h5
  go_wp2_with (go_at_call 60; (first | (with_reducible refine (inB num 1 9999 _ e0 _).mono ?_) | (with_reducible refine (inB cargo 0 99 _ e1 _).mono ?_) | (with_reducible refine (inB tons 1 100000 _ e2 _).mono ?_) | (with_reducible refine (inB fr 0 100000 _ e3 _).mono ?_) | (with_reducible refine (inB to_ 0 100000 _ e4 _).mono ?_)); rintro e w' ⟨rfl, nd, rfl⟩)
  go_ret
  exact ⟨by simp [f2], by repeat (first | exact hbW | apply pw_below_drewN)⟩
 have f1 : (fr == to_) = false := beq_eq_false_iff_ne.2 h5
 have f2 : (fr != to_) = true := bne_iff_ne.2 h5
 clear h5
 by_cases h6 : l.length ≤ 10
 case neg =>
  have z1 : decide ((10 : Int) < (l.length : Int)) = true := decide_eq_true (by omega)
  have z2 : decide (10 < l.length) = true := decide_eq_true (by omega)
  have z3 : decide (l.length ≤ 10) = false := decide_eq_false h6
  clear h6
  go_wp2_with (go_at_call 60; (first | (with_reducible refine (inB num 1 9999 _ e0 _).mono ?_) | (with_reducible refine (inB cargo 0 99 _ e1 _).mono ?_) | (with_reducible refine (inB tons 1 100000 _ e2 _).mono ?_) | (with_reducible refine (inB fr 0 100000 _ e3 _).mono ?_) | (with_reducible refine (inB to_ 0 100000 _ e4 _).mono ?_)); rintro e w' ⟨rfl, nd, rfl⟩)
  go_ret
  exact ⟨by simp [z3], by repeat (first | exact hbW | apply pw_below_drewN)⟩
 have z1 : decide ((10 : Int) < (l.length : Int)) = false := decide_eq_false (by omega)
 have z2 : decide (10 < l.length) = false := decide_eq_false (by omega)
 have z3 : decide (l.length ≤ 10) = true := decide_eq_true h6
 clear h6
 have HF : Aside0 (∀ b : Bool, S = b → Ending.returned (.bool b) = Ending.returned (.bool (sealsOk 0 l && (decide (1 ≤ num ∧ num ≤ 9999) && (decide (0 ≤ cargo ∧ cargo ≤ 99) && (decide (1 ≤ tons ∧ tons ≤ 100000) && (decide (0 ≤ fr ∧ fr ≤ 100000) && (decide (0 ≤ to_ ∧ to_ ≤ 100000) && (fr != to_ && decide (l.length ≤ 10)))))))))) := ⟨fun b h => by rw [hall, h, e0, e1, e2, e3, e4, f2, z3]; simp⟩
 have hprev : ∀ j, j < l.length → rd l (j : Int) = prevS l (j + 1) := fun j hj => by rw [rd_nat l hj]; simp [prevS, hj]
 go_wp2_with (go_at_call 60; (first | (with_reducible refine (inB num 1 9999 _ e0 _).mono ?_) | (with_reducible refine (inB cargo 0 99 _ e1 _).mono ?_) | (with_reducible refine (inB tons 1 100000 _ e2 _).mono ?_) | (with_reducible refine (inB fr 0 100000 _ e3 _).mono ?_) | (with_reducible refine (inB to_ 0 100000 _ e4 _).mono ?_)); rintro e w' ⟨rfl, nd, rfl⟩)
 clear e0 e1 e2 e3 e4 f1 f2 z1 z2 z3
 go_loopg [3] (l.length + 1) (fun kq v3 wr => ∃ (i : Nat), v3 = .int .i64 (i : Int) ∧ i ≤ l.length ∧ kq + i = l.length + 1 ∧ Aside0 (S = sealsOk (prevS l i) (l.drop i)) ∧ Aside0 (0 ≤ prevS l i) ∧ Aside0 (Below W0.heap.size W0 wr))
 case atStart => exact ⟨0, by first | rfl | simp, by omega, by omega, ⟨hall.symm⟩, ⟨Int.le_refl 0⟩, ⟨by repeat (first | exact Below.refl _ _ | apply pw_below_drewN)⟩⟩
 case round =>
  obtain ⟨i, rfl, h1, h2, ⟨h3⟩, ⟨h4⟩, ⟨h5⟩⟩ := hrel
  have hbw : Below w.heap.size w wr := below_step hbW h5
  have hr' := Kd.C_below hr hbw
  replace g5 := (hcell wr h5).2.2.2.2.2
  clear g0 g1 g2 g3 g4 hall
  by_cases hlt : i < l.length
  ·have hltb : decide ((i : Int) < (l.length : Int)) = true := decide_eq_true (by omega)
   obtain ⟨ad, rfl, hx⟩ := Kd.at_int hr' (i : Int) (by omega) (by omega)
   simp only [Int.toNat_natCast] at hx
   have p128 : (0 ≤ (i : Int)) = True := eq_true (by omega)
   have q128 : ((i : Int) < (l.length : Int)) = True := eq_true (by omega)
   have q129 : (i < l.length) = True := eq_true hlt
   have hd : l.drop i = rd l (i : Int) :: l.drop (i + 1) := rd_drop hlt
   have hp1 : prevS l (i + 1) = rd l (i : Int) := (hprev i hlt).symm
   rw [hd] at h3
   simp only [sealsOk] at h3
   rw [inside_one, ← hp1] at h3
   have hwr1 : IntKind.i64.wrap ((i : Int) + 1) = ((i + 1 : Nat) : Int) := by rw [i64_w]; unfold wrap64; omega
   have hprevj : ∀ j, i = j + 1 → (rd l (j : Int) = prevS l i) := fun j hj => by rw [hj]; exact hprev j (by omega)
   have hat : ∀ j, i = j + 1 → wr.cell? (ad.add j) = some (.int .i64 (prevS l i)) := fun j hj => by
    obtain ⟨ad', he', hx'⟩ := Kd.at_int hr' (j : Int) (by omega) (by omega)
    cases he'
    simp only [Int.toNat_natCast] at hx'
    rw [hx', hprevj j hj]
   clear hprevj hprev hd
   generalize hn : rd l (i : Int) = n at hx hp1
   clear hn
   rw [hp1] at h3
   have hP0 : i = 0 → prevS l i = 0 := fun h => by rw [h]; rfl
   generalize prevS l i = P at h3 h4 hat hP0
   cases e6 : decide (1 ≤ n ∧ n ≤ 99999) with
   | false =>
    have hS : S = false := by
     rw [h3, decide_eq_false (by have := of_decide_eq_false e6; omega), Bool.false_and]
    have HS := HF.out false hS
    clear h3 hat hp1
    have HS' := Aside0.mk HS
    clear HS hS
    go_wp2_with fail
    repeat (go_quiet (first | (go_at_call 60; (with_reducible refine (inB n 1 99999 false e6 _).mono ?_); rintro e w' ⟨rfl, ⟨nd, rfl⟩⟩; (try first | exact ⟨rfl, _, World.drewN_drewN _ _ _⟩ | exact ⟨rfl, _, Eq.trans (World.drewN_drewN _ _ _) (congrArg (World.drewN _) (Nat.add_assoc _ _ _))⟩))); try go_wp2)
    go_ret
    exact ⟨HS'.out, by repeat (first | exact hbw | apply pw_below_drewN | apply below_drew1 | apply below_drew)⟩
   | true =>
    have HN : Aside0 (0 ≤ n ∧ n ≤ 99999) := ⟨by have := of_decide_eq_true e6; omega⟩
    have HP := Aside0.mk hp1
    clear hp1
    by_cases hi0 : i = 0
    ·have z5 : decide ((0 : Int) < (i : Int)) = false := decide_eq_false (by omega)
     have z6 : decide (0 < i) = false := decide_eq_false (by omega)
     have HS : Aside0 (S = sealsOk (prevS l (i + 1)) (l.drop (i + 1))) := ⟨by
      rw [h3, HP.out, hP0 hi0, decide_eq_true (by have := of_decide_eq_true e6; omega), Bool.true_and]⟩
     clear h3 hat hP0 hi0
     go_wp2_with fail
     repeat (go_quiet (first | (go_at_call 60; (with_reducible refine (inB n 1 99999 true e6 _).mono ?_); rintro e w' ⟨rfl, ⟨nd, rfl⟩⟩; (try first | exact ⟨rfl, _, World.drewN_drewN _ _ _⟩ | exact ⟨rfl, _, Eq.trans (World.drewN_drewN _ _ _) (congrArg (World.drewN _) (Nat.add_assoc _ _ _))⟩))); try go_wp2)
     go_roundg (gk - 1)
     case measure => omega
     case rel => exact ⟨i + 1, by first | (simp; done) | (simp; omega), by omega, by omega, HS, ⟨by rw [HP.out]; exact HN.out.1⟩, ⟨by repeat (first | exact h5 | apply pw_below_drewN | apply below_drew1 | apply below_drew)⟩⟩
    ·obtain ⟨j, hj⟩ : ∃ j, i = j + 1 := ⟨i - 1, by omega⟩
     have z5 : decide ((0 : Int) < (i : Int)) = true := decide_eq_true (by omega)
     have z6 : decide (0 < i) = true := decide_eq_true (by omega)
     have hy := hat j hj
     have p130 : (0 ≤ (j : Int)) = True := eq_true (by omega)
     have q130 : ((j : Int) < (l.length : Int)) = True := eq_true (by omega)
     have q131 : (j < l.length) = True := eq_true (by omega)
     have hsub : IntKind.i64.wrap ((i : Int) - 1) = (j : Int) := by rw [i64_w]; unfold wrap64; omega
     clear hat hP0 hi0
     cases e7 : decide (n ≤ P) with
     | true =>
      have hS : S = false := by
       rw [h3, decide_eq_false (by have := of_decide_eq_true e7; omega), Bool.false_and]
      have HS' := Aside0.mk (HF.out false hS)
      clear h3 hS
      have hj' := Aside0.mk hj
      clear hj
      go_wp2_with fail
      repeat (go_quiet (first | (go_at_call 60; (with_reducible refine (inB n 1 99999 true e6 _).mono ?_); rintro e w' ⟨rfl, ⟨nd, rfl⟩⟩; (try first | exact ⟨rfl, _, World.drewN_drewN _ _ _⟩ | exact ⟨rfl, _, Eq.trans (World.drewN_drewN _ _ _) (congrArg (World.drewN _) (Nat.add_assoc _ _ _))⟩))); try go_wp2)
      go_ret
      exact ⟨HS'.out, by repeat (first | exact hbw | apply pw_below_drewN | apply below_drew1 | apply below_drew)⟩
     | false =>
      have HS : Aside0 (S = sealsOk (prevS l (i + 1)) (l.drop (i + 1))) := ⟨by
       rw [h3, HP.out, decide_eq_true (by have := of_decide_eq_false e7; have := of_decide_eq_true e6; omega), Bool.true_and]⟩
      clear h3
      have hj' := Aside0.mk hj
      clear hj
      go_wp2_with fail
      repeat (go_quiet (first | (go_at_call 60; (with_reducible refine (inB n 1 99999 true e6 _).mono ?_); rintro e w' ⟨rfl, ⟨nd, rfl⟩⟩; (try first | exact ⟨rfl, _, World.drewN_drewN _ _ _⟩ | exact ⟨rfl, _, Eq.trans (World.drewN_drewN _ _ _) (congrArg (World.drewN _) (Nat.add_assoc _ _ _))⟩))); try go_wp2)
      go_roundg (gk - 1)
      case measure => omega
      case rel => exact ⟨i + 1, by first | (simp; done) | (simp; omega), by omega, by omega, HS, ⟨by rw [HP.out]; exact HN.out.1⟩, ⟨by repeat (first | exact h5 | apply pw_below_drewN | apply below_drew1 | apply below_drew)⟩⟩
  ·have hltb : decide ((i : Int) < (l.length : Int)) = false := decide_eq_false (by omega)
   have hS : S = true := by rw [h3, List.drop_of_length_le (by omega)]; rfl
   have HS' := Aside0.mk (HF.out true hS)
   clear h3 hS
   go_wp2_with fail
   go_ret
   exact ⟨HS'.out, by repeat (first | exact hbw | apply pw_below_drewN | apply below_drew1 | apply below_drew)⟩
end Go.Proofs.Lg
namespace Go.Proofs.YtdomcbebbhbdlaaGreatDoor.PLogsBills
open Go.RowKit Go.Proofs.YtdomcbebbhbdlaaGreatDoorW.PrintWords
def rf_Bill.f (k : Nat) (a b c d e : Int) (l : List Int) : Option Bool := if l.length ≤ 1000000 then some (Go.Proofs.Lg.isB ⟨a, b, c, d, e, l⟩) else none
theorem rf_Bill.calls (k : Nat) (a0_0 : Int) (a0_1 : Int) (a0_2 : Int) (a0_3 : Int) (a0_4 : Int) (A0_5 : Option Addr) (c0_5 : Nat) (l0_5 : List Int) (r : Bool) (w : World) (hr0_5 : Kd.C (Kd.int .i64) w A0_5 l0_5.length l0_5) (hc0_5 : l0_5.length ≤ c0_5) (h : rf_Bill.f k a0_0 a0_1 a0_2 a0_3 a0_4 l0_5 = some r) :
  Calls Tryz.prog 26 #[.agg #[.int .i64 a0_0, .int .i64 a0_1, .int .i64 a0_2, .int .i64 a0_3, .int .i64 a0_4, .slice A0_5 l0_5.length c0_5]] w fun e w' => e = .returned (.bool r) ∧ Below w.heap.size w w' := by
 unfold rf_Bill.f at h
 by_cases hl : l0_5.length ≤ 1000000
 ·rw [if_pos hl] at h
  have h' := Option.some.inj h
  refine (Go.Proofs.Lg.refBill a0_0 a0_1 a0_2 a0_3 a0_4 A0_5 c0_5 l0_5 w hr0_5 hc0_5 hl).mono ?_
  rintro e w' ⟨rfl, hb⟩
  refine ⟨?_, hb⟩
  rw [← h']
  unfold Go.Proofs.Lg.isB
  simp only [Go.Proofs.Lg.inside_one, Go.Proofs.Lg.inside_two, Bool.and_assoc]
 ·rw [if_neg hl] at h; cases h
end Go.Proofs.YtdomcbebbhbdlaaGreatDoor.PLogsBills
