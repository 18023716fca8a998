/- The law of bills: for every input it returns true and leaves its arguments as they were. Conditions: the tables and sentinels that the card lists and ties. -/
import Derived.Test.YtdomcbebbhbdlaaGreatDoorLd
import Derived.Test.YtdomcbebbhbdlaaGreatDoorLc
import Derived.Test.YtdomcbebbhbdlaaGreatDoorLe
import Derived.Test.YtdomcbebbhbdlaaGreatDoorLa
import Derived.Lib.IndexLaws
import Derived.Test.YtdomcbebbhbdlaaGreatDoorCards
import Derived.Test.YtdomcbebbhbdlaaGreatDoorTie
import Derived.WalkKit
import Derived.ProofKit
import Derived.OpenShut
import Derived.ShutString
import Derived.ChangeOld
import Derived.SizedLaws
import Derived.Deep.DeepHandedRow
import Derived.Deep.Slices
import Derived.Lib.LaidTab
import Derived.Lib.LaidU8
import Derived.Shelf.Vars
import Derived.Lay
import Derived.MakeChecks
set_option linter.unusedSimpArgs false
set_option linter.unusedVariables false
namespace Go.Proofs.YtdomcbebbhbdlaaGreatDoor.PLogsBills
open Go.RowKit Go.Proofs.YtdomcbebbhbdlaaGreatDoorW.PrintWords Go.Proofs.YtdomcbebbhbdlaaGreatDoorW.PrintLast Go.Proofs.YtdomcbebbhbdlaaGreatDoorW.PrintMore
attribute [local go_sem] max2_int min2_int max_two min_two max_three min_three max_four min_four
mutual
def lw_LogsBills.j0 : Nat → List (S26) → ByteArray → Bool → Option (Bool)
 | 0, _, _, _ => none
 | k + 1, x0, x1, x44 => if x44 = true then ((lw_known.f).bind fun t219 => (some t219)) else (lw_LogsBills.l0 k x0 x1 0)
def lw_LogsBills.l0 : Nat → List (S26) → ByteArray → Int → Option (Bool)
 | 0, _, _, _ => none
 | k + 1, x0, x1, x5 => if x5 < (x0.length : Int) then (if 0 ≤ x5 then (if (((rd_T26 x0 x5).f5).length : Int) > 20 then ((lw_known.f).bind fun t221 => (some t221)) else (lw_LogsBills.l0 k x0 x1 (wrap64 (x5 + 1)))) else (none)) else ((lw_bills.f k x0).bind fun t222 => ((logs_WriteBills.f t222).bind fun bt225 => ((logs_ReadBills.f x1).bind fun bt227 => ((rf_WriteBills.f k x0).bind fun bt232 => ((rf_ReadBills.f k x1).bind fun bt234 => ((lw_sameBills.f k t222 x0).bind fun t239 => (if t239 = true then (if bt225.2 = bt232.2 then (if bt225.1.toList = bt232.1.toList then (if bt227.2.2 = bt234.2.2 then (if bt227.2.1 = bt234.2.1 then ((lw_sameBills.f k bt227.1 bt234.1).bind fun t240 => (if t240 = true then ((lw_known.f).bind fun t241 => (some t241)) else (some false))) else (some false)) else (some false)) else (some false)) else (some false)) else (some false))))))))
end
def lw_LogsBills.f (k : Nat) (l0 : List (S26)) (a1 : ByteArray) : Option (Bool) := if (l0.length : Int) > 30 then (if (l0.length : Int) ≤ 200 then (lw_LogsBills.j0 k l0 a1 true) else (if (l0.length : Int) > 210 then (lw_LogsBills.j0 k l0 a1 true) else (if (a1.size : Int) > 3000 then (if (a1.size : Int) ≤ 120000 then (lw_LogsBills.j0 k l0 a1 true) else (lw_LogsBills.j0 k l0 a1 (decide ((a1.size : Int) > 120100)))) else (lw_LogsBills.j0 k l0 a1 (decide ((a1.size : Int) > 120100)))))) else (if (l0.length : Int) > 210 then (lw_LogsBills.j0 k l0 a1 true) else (if (a1.size : Int) > 3000 then (if (a1.size : Int) ≤ 120000 then (lw_LogsBills.j0 k l0 a1 true) else (lw_LogsBills.j0 k l0 a1 (decide ((a1.size : Int) > 120100)))) else (lw_LogsBills.j0 k l0 a1 (decide ((a1.size : Int) > 120100)))))
set_option maxHeartbeats 8000000 in
set_option maxRecDepth 100000 in
theorem lw_LogsBills.calls (k : Nat) (A0 : Option Addr) (c0 : Nat) (l0 : List (S26)) (a1 : ByteArray) (r : Bool) (w : World) (hbase : Base w) (hr0 : Kd.C k26 w A0 l0.length l0) (hc0 : l0.length ≤ c0) (h : lw_LogsBills.f k l0 a1 = some r) (hrt : r = true) :
  Calls Tryz.prog 3 #[.slice A0 l0.length c0, .string a1] w fun e w' => e = .returned (.bool r) ∧ Below w.heap.size w w' := by
 have HRT := Aside0.mk hrt
 clear hrt
 have HR0 := Aside0.mk hr0
 have HC0 := Aside0.mk hc0
 clear hr0 hc0
 have HB := Aside0.mk (Below.refl w.heap.size w)
 have H : (if (l0.length : Int) > 30 then (if (l0.length : Int) ≤ 200 then (lw_LogsBills.j0 k l0 a1 true) else (if (l0.length : Int) > 210 then (lw_LogsBills.j0 k l0 a1 true) else (if (a1.size : Int) > 3000 then (if (a1.size : Int) ≤ 120000 then (lw_LogsBills.j0 k l0 a1 true) else (lw_LogsBills.j0 k l0 a1 (decide ((a1.size : Int) > 120100)))) else (lw_LogsBills.j0 k l0 a1 (decide ((a1.size : Int) > 120100)))))) else (if (l0.length : Int) > 210 then (lw_LogsBills.j0 k l0 a1 true) else (if (a1.size : Int) > 3000 then (if (a1.size : Int) ≤ 120000 then (lw_LogsBills.j0 k l0 a1 true) else (lw_LogsBills.j0 k l0 a1 (decide ((a1.size : Int) > 120100)))) else (lw_LogsBills.j0 k l0 a1 (decide ((a1.size : Int) > 120100)))))) = some r := h
 clear h
 have HC3 := Aside0.mk H
 clear H
 go_enter Tryz.func3, Tryz.ntmps3
 go_upto_region 1 with (fail)
 go_cut [44] (fun v44 wc => ∃ (kq : Nat) (x44_2 : Bool), v44 = .bool x44_2 ∧ Aside0 (lw_LogsBills.j0 kq l0 a1 x44_2 = some r) ∧ Aside0 (kq ≤ k) ∧ Aside0 (Below w.heap.size w wc))
 case first =>
  have H := HC3.out
  clear HC3
  by_cases c4 : (l0.length : Int) > 30
  ·rw [if_pos c4] at H
   have c4b0 : decide (30 < (l0.length : Int)) = true := decide_eq_true c4
   have c4b1 : decide (30 < l0.length) = true := decide_eq_true (by omega)
   clear c4
   (first | rw [c4b0] | (simp only [i64_w, i32_w]; rw [c4b0]) | skip)
   by_cases c5 : (l0.length : Int) ≤ 200
   ·rw [if_pos c5] at H
    have c5b0 : decide ((l0.length : Int) ≤ 200) = true := decide_eq_true c5
    have c5b1 : decide (l0.length ≤ 200) = true := decide_eq_true (by omega)
    clear c5
    have H' := Aside0.mk H
    clear H
    go_wp2
    go_meet
    case rel => exact ⟨_, (true), (by first | rfl | (simp; done) | (simp [*]; done)), H', ⟨by first | omega | exact Nat.le_refl _⟩, ⟨by repeat (first | (with_reducible first | exact HB.out | apply below_alloc | apply pw_below_drewN | apply below_drew1) | exact HB.out)⟩⟩
   ·rw [if_neg c5] at H
    have c5b0 : decide ((l0.length : Int) ≤ 200) = false := decide_eq_false c5
    have c5b1 : decide (l0.length ≤ 200) = false := decide_eq_false (by omega)
    clear c5
    by_cases c6 : (l0.length : Int) > 210
    ·rw [if_pos c6] at H
     have c6b0 : decide (210 < (l0.length : Int)) = true := decide_eq_true c6
     have c6b1 : decide (210 < l0.length) = true := decide_eq_true (by omega)
     clear c6
     have H' := Aside0.mk H
     clear H
     go_wp2
     go_meet
     case rel => exact ⟨_, (true), (by first | rfl | (simp; done) | (simp [*]; done)), H', ⟨by first | omega | exact Nat.le_refl _⟩, ⟨by repeat (first | (with_reducible first | exact HB.out | apply below_alloc | apply pw_below_drewN | apply below_drew1) | exact HB.out)⟩⟩
    ·rw [if_neg c6] at H
     have c6b0 : decide (210 < (l0.length : Int)) = false := decide_eq_false c6
     have c6b1 : decide (210 < l0.length) = false := decide_eq_false (by omega)
     clear c6
     by_cases c7 : (a1.size : Int) > 3000
     ·rw [if_pos c7] at H
      have c7b0 : decide (3000 < (a1.size : Int)) = true := decide_eq_true c7
      have c7b1 : decide (3000 < a1.size) = true := decide_eq_true (by omega)
      clear c7
      by_cases c8 : (a1.size : Int) ≤ 120000
      ·rw [if_pos c8] at H
       have c8b0 : decide ((a1.size : Int) ≤ 120000) = true := decide_eq_true c8
       have c8b1 : decide (a1.size ≤ 120000) = true := decide_eq_true (by omega)
       clear c8
       have H' := Aside0.mk H
       clear H
       go_wp2
       go_meet
       case rel => exact ⟨_, (true), (by first | rfl | (simp; done) | (simp [*]; done)), H', ⟨by first | omega | exact Nat.le_refl _⟩, ⟨by repeat (first | (with_reducible first | exact HB.out | apply below_alloc | apply pw_below_drewN | apply below_drew1) | exact HB.out)⟩⟩
      ·rw [if_neg c8] at H
       have c8b0 : decide ((a1.size : Int) ≤ 120000) = false := decide_eq_false c8
       have c8b1 : decide (a1.size ≤ 120000) = false := decide_eq_false (by omega)
       clear c8
       have H' := Aside0.mk H
       clear H
       go_wp2
       go_meet
       case rel => exact ⟨_, (decide ((a1.size : Int) > 120100)), (by first | rfl | (simp; done) | (simp [*]; done)), H', ⟨by first | omega | exact Nat.le_refl _⟩, ⟨by repeat (first | (with_reducible first | exact HB.out | apply below_alloc | apply pw_below_drewN | apply below_drew1) | exact HB.out)⟩⟩
     ·rw [if_neg c7] at H
      have c7b0 : decide (3000 < (a1.size : Int)) = false := decide_eq_false c7
      have c7b1 : decide (3000 < a1.size) = false := decide_eq_false (by omega)
      clear c7
      have H' := Aside0.mk H
      clear H
      go_wp2
      go_meet
      case rel => exact ⟨_, (decide ((a1.size : Int) > 120100)), (by first | rfl | (simp; done) | (simp [*]; done)), H', ⟨by first | omega | exact Nat.le_refl _⟩, ⟨by repeat (first | (with_reducible first | exact HB.out | apply below_alloc | apply pw_below_drewN | apply below_drew1) | exact HB.out)⟩⟩
  ·rw [if_neg c4] at H
   have c4b0 : decide (30 < (l0.length : Int)) = false := decide_eq_false c4
   have c4b1 : decide (30 < l0.length) = false := decide_eq_false (by omega)
   clear c4
   (first | rw [c4b0] | (simp only [i64_w, i32_w]; rw [c4b0]) | skip)
   by_cases c9 : (l0.length : Int) > 210
   ·rw [if_pos c9] at H
    have c9b0 : decide (210 < (l0.length : Int)) = true := decide_eq_true c9
    have c9b1 : decide (210 < l0.length) = true := decide_eq_true (by omega)
    clear c9
    have H' := Aside0.mk H
    clear H
    go_wp2
    go_meet
    case rel => exact ⟨_, (true), (by first | rfl | (simp; done) | (simp [*]; done)), H', ⟨by first | omega | exact Nat.le_refl _⟩, ⟨by repeat (first | (with_reducible first | exact HB.out | apply below_alloc | apply pw_below_drewN | apply below_drew1) | exact HB.out)⟩⟩
   ·rw [if_neg c9] at H
    have c9b0 : decide (210 < (l0.length : Int)) = false := decide_eq_false c9
    have c9b1 : decide (210 < l0.length) = false := decide_eq_false (by omega)
    clear c9
    by_cases c10 : (a1.size : Int) > 3000
    ·rw [if_pos c10] at H
     have c10b0 : decide (3000 < (a1.size : Int)) = true := decide_eq_true c10
     have c10b1 : decide (3000 < a1.size) = true := decide_eq_true (by omega)
     clear c10
     by_cases c11 : (a1.size : Int) ≤ 120000
     ·rw [if_pos c11] at H
      have c11b0 : decide ((a1.size : Int) ≤ 120000) = true := decide_eq_true c11
      have c11b1 : decide (a1.size ≤ 120000) = true := decide_eq_true (by omega)
      clear c11
      have H' := Aside0.mk H
      clear H
      go_wp2
      go_meet
      case rel => exact ⟨_, (true), (by first | rfl | (simp; done) | (simp [*]; done)), H', ⟨by first | omega | exact Nat.le_refl _⟩, ⟨by repeat (first | (with_reducible first | exact HB.out | apply below_alloc | apply pw_below_drewN | apply below_drew1) | exact HB.out)⟩⟩
     ·rw [if_neg c11] at H
      have c11b0 : decide ((a1.size : Int) ≤ 120000) = false := decide_eq_false c11
      have c11b1 : decide (a1.size ≤ 120000) = false := decide_eq_false (by omega)
      clear c11
      have H' := Aside0.mk H
      clear H
      go_wp2
      go_meet
      case rel => exact ⟨_, (decide ((a1.size : Int) > 120100)), (by first | rfl | (simp; done) | (simp [*]; done)), H', ⟨by first | omega | exact Nat.le_refl _⟩, ⟨by repeat (first | (with_reducible first | exact HB.out | apply below_alloc | apply pw_below_drewN | apply below_drew1) | exact HB.out)⟩⟩
    ·rw [if_neg c10] at H
     have c10b0 : decide (3000 < (a1.size : Int)) = false := decide_eq_false c10
     have c10b1 : decide (3000 < a1.size) = false := decide_eq_false (by omega)
     clear c10
     have H' := Aside0.mk H
     clear H
     go_wp2
     go_meet
     case rel => exact ⟨_, (decide ((a1.size : Int) > 120100)), (by first | rfl | (simp; done) | (simp [*]; done)), H', ⟨by first | omega | exact Nat.le_refl _⟩, ⟨by repeat (first | (with_reducible first | exact HB.out | apply below_alloc | apply pw_below_drewN | apply below_drew1) | exact HB.out)⟩⟩
 case rest =>
  clear HC3
  try clear c1
  try clear p2
  try clear c3
  try clear c4
  try clear c4b0
  try clear c4b1
  try clear c5
  try clear c5b0
  try clear c5b1
  try clear c6
  try clear c6b0
  try clear c6b1
  try clear c7
  try clear c7b0
  try clear c7b1
  try clear c8
  try clear c8b0
  try clear c8b1
  try clear c9
  try clear c9b0
  try clear c9b1
  try clear c10
  try clear c10b0
  try clear c10b1
  try clear c11
  try clear c11b0
  try clear c11b1
  obtain ⟨kq, x44_2, rfl, HA, HJ2, HB⟩ := hcut
  cases kq with
  | zero => exact absurd HA.out (by simp [lw_LogsBills.j0])
  | succ kj2 =>
   have H := HA.out
   clear HA
   simp only [lw_LogsBills.j0] at H
   by_cases c12 : x44_2 = true
   ·subst c12
    have H1 : ((lw_known.f).bind fun t219 => (some t219)) = some r := by rw [if_pos rfl] at H; exact H
    clear H
    have H := H1
    clear H1
    replace H := Option.bind_eq_some_iff.mp H
    obtain ⟨t219, A130, H⟩ := H
    replace H : (some t219) = some r := H
    have A13 := Aside0.mk A130
    clear A130
    obtain rfl := Option.some.inj H
    go_wp2_with (first | ((with_reducible refine gate_callee (f := 5) rfl ?_); refine goesL_ (some 45) rfl rfl Tryz.func5 (by kernel_rfl) rfl #[] rfl (by (try simp only [List.map_toArray, List.map_cons, List.map_nil]); first | done | rfl | (simp only [List.length_drop, List.length_take]; rfl)) ?_; (with_reducible refine (lw_known.calls  t219 _ ?side1 A13.out).mono ?_); (case side1 => exact Base.step hbase (by repeat (first | (with_reducible first | exact HB.out | apply below_alloc | apply pw_below_drewN | apply below_drew1) | exact HB.out))); rintro e w14 ⟨rfl, hb⟩; refine ⟨_, rfl, ?_⟩; have n0_ := Aside0.mk (below_step (by repeat (first | (with_reducible first | exact HB.out | apply below_alloc | apply pw_below_drewN | apply below_drew1) | exact HB.out)) hb); clear HB; have HB := n0_; clear n0_; (try clear hb); (try clear hb2); (try clear hk); (try clear hi)))
    go_ret
    exact ⟨by first | rfl | (simp [errW_none, errW_some] <;> rfl) | (simp [*, errW_none, errW_some] <;> rfl), by repeat (first | (with_reducible first | exact HB.out | apply below_alloc | apply pw_below_drewN | apply below_drew1) | exact HB.out)⟩
   ·replace c12 := Bool.eq_false_iff.mpr c12
    subst c12
    have H1 : (lw_LogsBills.l0 kj2 l0 a1 0) = some r := by rw [if_neg (show ¬ (false = true) by decide)] at H; exact H
    clear H
    have H := H1
    clear H1
    have H' := Aside0.mk H
    clear H
    go_wp2
    go_loopg [5] kj2 (fun kq v5 w' => ∃ (x5_2 : Int), v5 = .int .i64 x5_2 ∧ Aside0 (lw_LogsBills.l0 kq l0 a1 x5_2 = some r) ∧ Aside0 (kq ≤ kj2) ∧ Aside0 (Below w.heap.size w w'))
    case atStart => exact ⟨(0), (by first | rfl | (simp; done) | (simp [*]; done)), H', ⟨Nat.le_refl _⟩, ⟨by repeat (first | (with_reducible first | exact HB.out | apply below_alloc | apply pw_below_drewN | apply below_drew1) | exact HB.out)⟩⟩
    case round =>
     clear H'
     try clear c1
     try clear p2
     try clear c3
     try clear c4
     try clear c4b0
     try clear c4b1
     try clear c5
     try clear c5b0
     try clear c5b1
     try clear c6
     try clear c6b0
     try clear c6b1
     try clear c7
     try clear c7b0
     try clear c7b1
     try clear c8
     try clear c8b0
     try clear c8b1
     try clear c9
     try clear c9b0
     try clear c9b1
     try clear c10
     try clear c10b0
     try clear c10b1
     try clear c11
     try clear c11b0
     try clear c11b1
     try clear c12
     try clear p2
     obtain ⟨x5_2, rfl, HA, HK2, HB⟩ := hrel
     cases gk with
     | zero => exact absurd HA.out (by simp [lw_LogsBills.l0])
     | succ k2 =>
      have H := HA.out
      clear HA
      simp only [lw_LogsBills.l0] at H
      by_cases c15 : x5_2 < (l0.length : Int)
      ·rw [if_pos c15] at H
       have c15b0 : decide (x5_2 < (l0.length : Int)) = true := decide_eq_true c15
       clear c15
       by_cases c16 : 0 ≤ x5_2
       ·rw [if_pos c16] at H
        have c16b0 : decide (0 ≤ x5_2) = true := decide_eq_true c16
        clear c16
        by_cases c17 : (((rd_T26 l0 x5_2).f5).length : Int) > 20
        ·rw [if_pos c17] at H
         have c17b0 : decide (20 < (((rd_T26 l0 x5_2).f5).length : Int)) = true := decide_eq_true c17
         have c17b1 : decide (20 < ((rd_T26 l0 x5_2).f5).length) = true := decide_eq_true (by omega)
         clear c17
         replace H := Option.bind_eq_some_iff.mp H
         obtain ⟨t221, A180, H⟩ := H
         replace H : (some t221) = some r := H
         have A18 := Aside0.mk A180
         clear A180
         obtain rfl := Option.some.inj H
         have p220 : 0 ≤ (x5_2 : Int) := of_decide_eq_true (by first | (with_reducible assumption) | assumption)
         have q220 : x5_2 < (l0.length : Int) := of_decide_eq_true (by first | (with_reducible assumption) | assumption)
         obtain ⟨ad220, A220_5, c220_5, e220, hx220_0, hx220_1, hx220_2, hx220_3, hx220_4, hx220_5, hl220_5, hi220_5⟩ := at_T26 HR0.out x5_2 p220 q220
         cases e220
         replace hx220_0 := (HB.out.cell (xbl w _ hx220_0)).trans hx220_0
         replace hx220_1 := (HB.out.cell (xbl w _ hx220_1)).trans hx220_1
         replace hx220_2 := (HB.out.cell (xbl w _ hx220_2)).trans hx220_2
         replace hx220_3 := (HB.out.cell (xbl w _ hx220_3)).trans hx220_3
         replace hx220_4 := (HB.out.cell (xbl w _ hx220_4)).trans hx220_4
         replace hx220_5 := (HB.out.cell (xbl w _ hx220_5)).trans hx220_5
         have HR220_5 := Aside0.mk hi220_5
         have HC220_5 := Aside0.mk hl220_5
         clear hi220_5 hl220_5
         replace p220 := eq_true p220
         replace q220 := eq_true q220
         go_wp2_with (first | ((with_reducible refine gate_callee (f := 5) rfl ?_); refine goesL_ (some 59) rfl rfl Tryz.func5 (by kernel_rfl) rfl #[] rfl (by (try simp only [List.map_toArray, List.map_cons, List.map_nil]); first | done | rfl | (simp only [List.length_drop, List.length_take]; rfl)) ?_; (with_reducible refine (lw_known.calls  t221 _ ?side1 A18.out).mono ?_); (case side1 => exact Base.step hbase (by repeat (first | (with_reducible first | exact HB.out | apply below_alloc | apply pw_below_drewN | apply below_drew1) | exact HB.out))); rintro e w19 ⟨rfl, hb⟩; refine ⟨_, rfl, ?_⟩; have n0_ := Aside0.mk (below_step (by repeat (first | (with_reducible first | exact HB.out | apply below_alloc | apply pw_below_drewN | apply below_drew1) | exact HB.out)) hb); clear HB; have HB := n0_; clear n0_; (try clear hb); (try clear hb2); (try clear hk); (try clear hi)))
         go_ret
         exact ⟨by first | rfl | (simp [errW_none, errW_some] <;> rfl) | (simp [*, errW_none, errW_some] <;> rfl), by repeat (first | (with_reducible first | exact HB.out | apply below_alloc | apply pw_below_drewN | apply below_drew1) | exact HB.out)⟩
        ·rw [if_neg c17] at H
         have c17b0 : decide (20 < (((rd_T26 l0 x5_2).f5).length : Int)) = false := decide_eq_false c17
         have c17b1 : decide (20 < ((rd_T26 l0 x5_2).f5).length) = false := decide_eq_false (by omega)
         clear c17
         have H' := Aside0.mk H
         clear H
         have p220 : 0 ≤ (x5_2 : Int) := of_decide_eq_true (by first | (with_reducible assumption) | assumption)
         have q220 : x5_2 < (l0.length : Int) := of_decide_eq_true (by first | (with_reducible assumption) | assumption)
         obtain ⟨ad220, A220_5, c220_5, e220, hx220_0, hx220_1, hx220_2, hx220_3, hx220_4, hx220_5, hl220_5, hi220_5⟩ := at_T26 HR0.out x5_2 p220 q220
         cases e220
         replace hx220_0 := (HB.out.cell (xbl w _ hx220_0)).trans hx220_0
         replace hx220_1 := (HB.out.cell (xbl w _ hx220_1)).trans hx220_1
         replace hx220_2 := (HB.out.cell (xbl w _ hx220_2)).trans hx220_2
         replace hx220_3 := (HB.out.cell (xbl w _ hx220_3)).trans hx220_3
         replace hx220_4 := (HB.out.cell (xbl w _ hx220_4)).trans hx220_4
         replace hx220_5 := (HB.out.cell (xbl w _ hx220_5)).trans hx220_5
         have HR220_5 := Aside0.mk hi220_5
         have HC220_5 := Aside0.mk hl220_5
         clear hi220_5 hl220_5
         replace p220 := eq_true p220
         replace q220 := eq_true q220
         go_wp2
         go_roundg k2
         case measure => have := HJ2.out; have := HK2.out; omega
         case rel => exact ⟨(wrap64 (x5_2 + 1)), (by first | rfl | (simp; done) | (simp [*]; done)), H', ⟨by have := HJ2.out; have := HK2.out; omega⟩, ⟨by repeat (first | (with_reducible first | exact HB.out | apply below_alloc | apply pw_below_drewN | apply below_drew1) | exact HB.out)⟩⟩
       ·rw [if_neg c16] at H
        exact absurd H (by simp)
      ·rw [if_neg c15] at H
       have c15b0 : decide (x5_2 < (l0.length : Int)) = false := decide_eq_false c15
       clear c15
       replace H := Option.bind_eq_some_iff.mp H
       obtain ⟨t222, A200, H⟩ := H
       replace H : ((logs_WriteBills.f t222).bind fun bt225 => ((logs_ReadBills.f a1).bind fun bt227 => ((rf_WriteBills.f k2 l0).bind fun bt232 => ((rf_ReadBills.f k2 a1).bind fun bt234 => ((lw_sameBills.f k2 t222 l0).bind fun t239 => (if t239 = true then (if bt225.2 = bt232.2 then (if bt225.1.toList = bt232.1.toList then (if bt227.2.2 = bt234.2.2 then (if bt227.2.1 = bt234.2.1 then ((lw_sameBills.f k2 bt227.1 bt234.1).bind fun t240 => (if t240 = true then ((lw_known.f).bind fun t241 => (some t241)) else (some false))) else (some false)) else (some false)) else (some false)) else (some false)) else (some false))))))) = some r := H
       have A20 := Aside0.mk A200
       clear A200
       replace H := Option.bind_eq_some_iff.mp H
       obtain ⟨⟨t225, t226⟩, A210, H⟩ := H
       replace H : ((logs_ReadBills.f a1).bind fun bt227 => ((rf_WriteBills.f k2 l0).bind fun bt232 => ((rf_ReadBills.f k2 a1).bind fun bt234 => ((lw_sameBills.f k2 t222 l0).bind fun t239 => (if t239 = true then (if t226 = bt232.2 then (if t225.toList = bt232.1.toList then (if bt227.2.2 = bt234.2.2 then (if bt227.2.1 = bt234.2.1 then ((lw_sameBills.f k2 bt227.1 bt234.1).bind fun t240 => (if t240 = true then ((lw_known.f).bind fun t241 => (some t241)) else (some false))) else (some false)) else (some false)) else (some false)) else (some false)) else (some false)))))) = some r := H
       have A21 := Aside0.mk A210
       clear A210
       replace H := Option.bind_eq_some_iff.mp H
       obtain ⟨⟨t227, t228, t229⟩, A220, H⟩ := H
       replace H : ((rf_WriteBills.f k2 l0).bind fun bt232 => ((rf_ReadBills.f k2 a1).bind fun bt234 => ((lw_sameBills.f k2 t222 l0).bind fun t239 => (if t239 = true then (if t226 = bt232.2 then (if t225.toList = bt232.1.toList then (if t229 = bt234.2.2 then (if t228 = bt234.2.1 then ((lw_sameBills.f k2 t227 bt234.1).bind fun t240 => (if t240 = true then ((lw_known.f).bind fun t241 => (some t241)) else (some false))) else (some false)) else (some false)) else (some false)) else (some false)) else (some false))))) = some r := H
       have A22 := Aside0.mk A220
       clear A220
       replace H := Option.bind_eq_some_iff.mp H
       obtain ⟨⟨t232, t233⟩, A230, H⟩ := H
       replace H : ((rf_ReadBills.f k2 a1).bind fun bt234 => ((lw_sameBills.f k2 t222 l0).bind fun t239 => (if t239 = true then (if t226 = t233 then (if t225.toList = t232.toList then (if t229 = bt234.2.2 then (if t228 = bt234.2.1 then ((lw_sameBills.f k2 t227 bt234.1).bind fun t240 => (if t240 = true then ((lw_known.f).bind fun t241 => (some t241)) else (some false))) else (some false)) else (some false)) else (some false)) else (some false)) else (some false)))) = some r := H
       have A23 := Aside0.mk A230
       clear A230
       replace H := Option.bind_eq_some_iff.mp H
       obtain ⟨⟨t234, t235, t236⟩, A240, H⟩ := H
       replace H : ((lw_sameBills.f k2 t222 l0).bind fun t239 => (if t239 = true then (if t226 = t233 then (if t225.toList = t232.toList then (if t229 = t236 then (if t228 = t235 then ((lw_sameBills.f k2 t227 t234).bind fun t240 => (if t240 = true then ((lw_known.f).bind fun t241 => (some t241)) else (some false))) else (some false)) else (some false)) else (some false)) else (some false)) else (some false))) = some r := H
       have A24 := Aside0.mk A240
       clear A240
       replace H := Option.bind_eq_some_iff.mp H
       obtain ⟨t239, A250, H⟩ := H
       replace H : (if t239 = true then (if t226 = t233 then (if t225.toList = t232.toList then (if t229 = t236 then (if t228 = t235 then ((lw_sameBills.f k2 t227 t234).bind fun t240 => (if t240 = true then ((lw_known.f).bind fun t241 => (some t241)) else (some false))) else (some false)) else (some false)) else (some false)) else (some false)) else (some false)) = some r := H
       have A25 := Aside0.mk A250
       clear A250
       by_cases c26 : t239 = true
       ·subst c26
        have H1 : (if t226 = t233 then (if t225.toList = t232.toList then (if t229 = t236 then (if t228 = t235 then ((lw_sameBills.f k2 t227 t234).bind fun t240 => (if t240 = true then ((lw_known.f).bind fun t241 => (some t241)) else (some false))) else (some false)) else (some false)) else (some false)) else (some false)) = some r := by rw [if_pos rfl] at H; exact H
        clear H
        have H := H1
        clear H1
        by_cases c27 : t226 = t233
        ·rw [if_pos c27] at H
         have c27b0 : (t226 == t233) = true := beq_iff_eq.mpr c27
         have c27b1 : (t226 != t233) = false := bne_eq_false_iff_eq.mpr c27
         clear c27
         by_cases c28 : t225.toList = t232.toList
         ·rw [if_pos c28] at H
          have c28b0 : (t225.toList == t232.toList) = true := beq_iff_eq.mpr c28
          have c28b1 : (t225.toList != t232.toList) = false := bne_eq_false_iff_eq.mpr c28
          clear c28
          by_cases c29 : t229 = t236
          ·rw [if_pos c29] at H
           have c29b0 : (t229 == t236) = true := beq_iff_eq.mpr c29
           have c29b1 : (t229 != t236) = false := bne_eq_false_iff_eq.mpr c29
           clear c29
           by_cases c30 : t228 = t235
           ·rw [if_pos c30] at H
            have c30b0 : (t228 == t235) = true := beq_iff_eq.mpr c30
            have c30b1 : (t228 != t235) = false := bne_eq_false_iff_eq.mpr c30
            clear c30
            replace H := Option.bind_eq_some_iff.mp H
            obtain ⟨t240, A310, H⟩ := H
            replace H : (if t240 = true then ((lw_known.f).bind fun t241 => (some t241)) else (some false)) = some r := H
            have A31 := Aside0.mk A310
            clear A310
            by_cases c32 : t240 = true
            ·subst c32
             have H1 : ((lw_known.f).bind fun t241 => (some t241)) = some r := by rw [if_pos rfl] at H; exact H
             clear H
             have H := H1
             clear H1
             replace H := Option.bind_eq_some_iff.mp H
             obtain ⟨t241, A330, H⟩ := H
             replace H : (some t241) = some r := H
             have A33 := Aside0.mk A330
             clear A330
             obtain rfl := Option.some.inj H
             go_wp2_with (first | ((with_reducible refine gate_callee (f := 6) rfl ?_); refine goesL_ (some 61) rfl rfl Tryz.func6 (by kernel_rfl) rfl #[.slice A0 l0.length c0] rfl (by (try simp only [List.map_toArray, List.map_cons, List.map_nil]); first | done | rfl | (simp only [List.length_drop, List.length_take]; rfl)) ?_; (with_reducible refine (lw_bills.calls k2 _ _ l0 t222 _ ?side1 ?side2 A20.out).mono ?_); (case side1 => repeat (first | exact (Kd.C_below HR0.out HB.out) | (with_reducible refine Kd.C_alloc ?_ _) | (with_reducible refine Kd.C_drewN ?_ _) | (with_reducible refine Kd.C_drew ?_))); (case side2 => exact HC0.out); rintro e w34 ⟨v223, rfl, ho0, hb⟩; refine ⟨_, rfl, ?_⟩; have n0_ := Aside0.mk (Kd.S_lower ho0 (below_size (by repeat (first | (with_reducible first | exact HB.out | apply below_alloc | apply pw_below_drewN | apply below_drew1) | exact HB.out)))); have n1_ := Aside0.mk (below_step (by repeat (first | (with_reducible first | exact HB.out | apply below_alloc | apply pw_below_drewN | apply below_drew1) | exact HB.out)) hb); clear HB; have HO224 := n0_; have HB := n1_; clear n0_ n1_; (try clear hb); (try clear hb2); (try clear hk); (try clear hi); (try clear ho0); obtain ⟨Ao35, co35, eo35⟩ := Kd.S_slice HO224.out; subst eo35) | ((with_reducible refine gate_callee (f := 7) rfl ?_); refine goesL_ (some 64) rfl rfl Tryz.func7 (by kernel_rfl) rfl #[.slice Ao35 t222.length co35] rfl (by (try simp only [List.map_toArray, List.map_cons, List.map_nil]); first | done | rfl | (simp only [List.length_drop, List.length_take]; rfl)) ?_; (with_reducible refine (logs_WriteBills.calls _ _ t222 t225 t226 _ ?side3 ?side1 ?side2 A21.out).mono ?_); (case side1 => repeat (first | exact (Kd.S_reads' HO224.out).2.2 | (with_reducible refine Kd.C_alloc ?_ _) | (with_reducible refine Kd.C_drewN ?_ _) | (with_reducible refine Kd.C_drew ?_))); (case side2 => exact (Kd.S_reads' HO224.out).2.1); (case side3 => exact Base.step hbase (by repeat (first | (with_reducible first | exact HB.out | apply below_alloc | apply pw_below_drewN | apply below_drew1) | exact HB.out))); rintro e w36 ⟨rfl, hb⟩; refine ⟨_, rfl, ?_⟩; have n0_ := Aside0.mk (Kd.S_below (by (with_reducible repeat (first | apply Kd.S_alloc | apply Kd.S_drewN | apply Kd.S_drew)); exact HO224.out) hb); have n1_ := Aside0.mk (below_step (by repeat (first | (with_reducible first | exact HB.out | apply below_alloc | apply pw_below_drewN | apply below_drew1) | exact HB.out)) hb); clear HO224; clear HB; have HO224 := n0_; have HB := n1_; clear n0_ n1_; (try clear hb); (try clear hb2); (try clear hk); (try clear hi)) | ((with_reducible refine gate_callee (f := 8) rfl ?_); refine goesL_ (some 69) rfl rfl Tryz.func8 (by kernel_rfl) rfl #[.string a1] rfl (by (try simp only [List.map_toArray, List.map_cons, List.map_nil]); first | done | rfl | (simp only [List.length_drop, List.length_take]; rfl)) ?_; (with_reducible refine (logs_ReadBills.calls a1 t227 t228 t229 _ ?side1 A22.out).mono ?_); (case side1 => exact Base.step hbase (by repeat (first | (with_reducible first | exact HB.out | apply below_alloc | apply pw_below_drewN | apply below_drew1) | exact HB.out))); rintro e w37 ⟨v230, rfl, ho0, hb⟩; refine ⟨_, rfl, ?_⟩; have n0_ := Aside0.mk (Kd.S_elder' (by (with_reducible repeat (first | apply Kd.S_alloc | apply Kd.S_drewN | apply Kd.S_drew)); exact HO224.out) (Kd.S_base ho0) hb); have n1_ := Aside0.mk (Kd.S_lower (Kd.S_new' ho0 (Kd.S_lt (by (with_reducible repeat (first | apply Kd.S_alloc | apply Kd.S_drewN | apply Kd.S_drew)); exact HO224.out))) (below_size (by repeat (first | (with_reducible first | exact HB.out | apply below_alloc | apply pw_below_drewN | apply below_drew1) | exact HB.out)))); have n2_ := Aside0.mk (below_step (by repeat (first | (with_reducible first | exact HB.out | apply below_alloc | apply pw_below_drewN | apply below_drew1) | exact HB.out)) hb); clear HO224; clear HB; have HO224 := n0_; have HO231 := n1_; have HB := n2_; clear n0_ n1_ n2_; (try clear hb); (try clear hb2); (try clear hk); (try clear hi); (try clear ho0)) | ((with_reducible refine gate_callee (f := 9) rfl ?_); refine goesL_ (some 75) rfl rfl Tryz.func9 (by kernel_rfl) rfl #[.slice A0 l0.length c0] rfl (by (try simp only [List.map_toArray, List.map_cons, List.map_nil]); first | done | rfl | (simp only [List.length_drop, List.length_take]; rfl)) ?_; (with_reducible refine (rf_WriteBills.calls k2 _ _ l0 t232 t233 _ ?side1 ?side2 A23.out).mono ?_); (case side1 => repeat (first | exact (Kd.C_below HR0.out HB.out) | (with_reducible refine Kd.C_alloc ?_ _) | (with_reducible refine Kd.C_drewN ?_ _) | (with_reducible refine Kd.C_drew ?_))); (case side2 => exact HC0.out); rintro e w38 ⟨rfl, hb⟩; refine ⟨_, rfl, ?_⟩; have n0_ := Aside0.mk (Kd.S_below (by (with_reducible repeat (first | apply Kd.S_alloc | apply Kd.S_drewN | apply Kd.S_drew)); exact HO224.out) hb); have n1_ := Aside0.mk (Kd.S_below (by (with_reducible repeat (first | apply Kd.S_alloc | apply Kd.S_drewN | apply Kd.S_drew)); exact HO231.out) hb); have n2_ := Aside0.mk (below_step (by repeat (first | (with_reducible first | exact HB.out | apply below_alloc | apply pw_below_drewN | apply below_drew1) | exact HB.out)) hb); clear HO224; clear HO231; clear HB; have HO224 := n0_; have HO231 := n1_; have HB := n2_; clear n0_ n1_ n2_; (try clear hb); (try clear hb2); (try clear hk); (try clear hi)) | ((with_reducible refine gate_callee (f := 10) rfl ?_); refine goesL_ (some 80) rfl rfl Tryz.func10 (by kernel_rfl) rfl #[.string a1] rfl (by (try simp only [List.map_toArray, List.map_cons, List.map_nil]); first | done | rfl | (simp only [List.length_drop, List.length_take]; rfl)) ?_; (with_reducible refine (rf_ReadBills.calls k2 a1 t234 t235 t236 _ A24.out).mono ?_); rintro e w39 ⟨v237, rfl, ho0, hb⟩; refine ⟨_, rfl, ?_⟩; have n0_ := Aside0.mk (Kd.S_elder' (by (with_reducible repeat (first | apply Kd.S_alloc | apply Kd.S_drewN | apply Kd.S_drew)); exact HO224.out) (Kd.S_base ho0) hb); have n1_ := Aside0.mk (Kd.S_elder' (by (with_reducible repeat (first | apply Kd.S_alloc | apply Kd.S_drewN | apply Kd.S_drew)); exact HO231.out) (Kd.S_base ho0) hb); have n2_ := Aside0.mk (Kd.S_lower (Kd.S_new' (Kd.S_new' ho0 (Kd.S_lt (by (with_reducible repeat (first | apply Kd.S_alloc | apply Kd.S_drewN | apply Kd.S_drew)); exact HO224.out))) (Kd.S_lt (by (with_reducible repeat (first | apply Kd.S_alloc | apply Kd.S_drewN | apply Kd.S_drew)); exact HO231.out))) (below_size (by repeat (first | (with_reducible first | exact HB.out | apply below_alloc | apply pw_below_drewN | apply below_drew1) | exact HB.out)))); have n3_ := Aside0.mk (below_step (by repeat (first | (with_reducible first | exact HB.out | apply below_alloc | apply pw_below_drewN | apply below_drew1) | exact HB.out)) hb); clear HO224; clear HO231; clear HB; have HO224 := n0_; have HO231 := n1_; have HO238 := n2_; have HB := n3_; clear n0_ n1_ n2_ n3_; (try clear hb); (try clear hb2); (try clear hk); (try clear hi); (try clear ho0)) | ((with_reducible refine gate_callee (f := 11) rfl ?_); refine goesL_ (some 86) rfl rfl Tryz.func11 (by kernel_rfl) rfl #[.slice Ao35 t222.length co35, .slice A0 l0.length c0] rfl (by (try simp only [List.map_toArray, List.map_cons, List.map_nil]); first | done | rfl | (simp only [List.length_drop, List.length_take]; rfl)) ?_; (with_reducible refine (lw_sameBills.calls k2 _ _ t222 _ _ l0 true _ ?side1 ?side2 ?side3 ?side4 A25.out rfl).mono ?_); (case side1 => repeat (first | exact (Kd.S_reads' HO224.out).2.2 | (with_reducible refine Kd.C_alloc ?_ _) | (with_reducible refine Kd.C_drewN ?_ _) | (with_reducible refine Kd.C_drew ?_))); (case side2 => exact (Kd.S_reads' HO224.out).2.1); (case side3 => repeat (first | exact (Kd.C_below HR0.out HB.out) | (with_reducible refine Kd.C_alloc ?_ _) | (with_reducible refine Kd.C_drewN ?_ _) | (with_reducible refine Kd.C_drew ?_))); (case side4 => exact HC0.out); rintro e w40 ⟨rfl, hb⟩; refine ⟨_, rfl, ?_⟩; have n0_ := Aside0.mk (Kd.S_below (by (with_reducible repeat (first | apply Kd.S_alloc | apply Kd.S_drewN | apply Kd.S_drew)); exact HO224.out) hb); have n1_ := Aside0.mk (Kd.S_below (by (with_reducible repeat (first | apply Kd.S_alloc | apply Kd.S_drewN | apply Kd.S_drew)); exact HO231.out) hb); have n2_ := Aside0.mk (Kd.S_below (by (with_reducible repeat (first | apply Kd.S_alloc | apply Kd.S_drewN | apply Kd.S_drew)); exact HO238.out) hb); have n3_ := Aside0.mk (below_step (by repeat (first | (with_reducible first | exact HB.out | apply below_alloc | apply pw_below_drewN | apply below_drew1) | exact HB.out)) hb); clear HO224; clear HO231; clear HO238; clear HB; have HO224 := n0_; have HO231 := n1_; have HO238 := n2_; have HB := n3_; clear n0_ n1_ n2_ n3_; (try clear hb); (try clear hb2); (try clear hk); (try clear hi); obtain ⟨Ao41, co41, eo41⟩ := Kd.S_slice HO231.out; subst eo41; obtain ⟨Ao42, co42, eo42⟩ := Kd.S_slice HO238.out; subst eo42) | (go_at_call 11; (with_reducible refine (lw_sameBills.calls k2 _ _ t227 _ _ t234 true _ ?side1 ?side2 ?side3 ?side4 A31.out rfl).mono ?_); (case side1 => repeat (first | exact (Kd.S_reads' HO231.out).2.2 | (with_reducible refine Kd.C_alloc ?_ _) | (with_reducible refine Kd.C_drewN ?_ _) | (with_reducible refine Kd.C_drew ?_))); (case side2 => exact (Kd.S_reads' HO231.out).2.1); (case side3 => repeat (first | exact (Kd.S_reads' HO238.out).2.2 | (with_reducible refine Kd.C_alloc ?_ _) | (with_reducible refine Kd.C_drewN ?_ _) | (with_reducible refine Kd.C_drew ?_))); (case side4 => exact (Kd.S_reads' HO238.out).2.1); rintro e w43 ⟨rfl, hb⟩; have n0_ := Aside0.mk (Kd.S_below (by (with_reducible repeat (first | apply Kd.S_alloc | apply Kd.S_drewN | apply Kd.S_drew)); exact HO224.out) hb); have n1_ := Aside0.mk (Kd.S_below (by (with_reducible repeat (first | apply Kd.S_alloc | apply Kd.S_drewN | apply Kd.S_drew)); exact HO231.out) hb); have n2_ := Aside0.mk (Kd.S_below (by (with_reducible repeat (first | apply Kd.S_alloc | apply Kd.S_drewN | apply Kd.S_drew)); exact HO238.out) hb); have n3_ := Aside0.mk (below_step (by repeat (first | (with_reducible first | exact HB.out | apply below_alloc | apply pw_below_drewN | apply below_drew1) | exact HB.out)) hb); clear HO224; clear HO231; clear HO238; clear HB; have HO224 := n0_; have HO231 := n1_; have HO238 := n2_; have HB := n3_; clear n0_ n1_ n2_ n3_; (try clear hb); (try clear hb2); (try clear hk); (try clear hi)) | (go_at_call 5; (with_reducible refine (lw_known.calls  t241 _ ?side1 A33.out).mono ?_); (case side1 => exact Base.step hbase (by repeat (first | (with_reducible first | exact HB.out | apply below_alloc | apply pw_below_drewN | apply below_drew1) | exact HB.out))); rintro e w44 ⟨rfl, hb⟩; have n0_ := Aside0.mk (Kd.S_below (by (with_reducible repeat (first | apply Kd.S_alloc | apply Kd.S_drewN | apply Kd.S_drew)); exact HO224.out) hb); have n1_ := Aside0.mk (Kd.S_below (by (with_reducible repeat (first | apply Kd.S_alloc | apply Kd.S_drewN | apply Kd.S_drew)); exact HO231.out) hb); have n2_ := Aside0.mk (Kd.S_below (by (with_reducible repeat (first | apply Kd.S_alloc | apply Kd.S_drewN | apply Kd.S_drew)); exact HO238.out) hb); have n3_ := Aside0.mk (below_step (by repeat (first | (with_reducible first | exact HB.out | apply below_alloc | apply pw_below_drewN | apply below_drew1) | exact HB.out)) hb); clear HO224; clear HO231; clear HO238; clear HB; have HO224 := n0_; have HO231 := n1_; have HO238 := n2_; have HB := n3_; clear n0_ n1_ n2_ n3_; (try clear hb); (try clear hb2); (try clear hk); (try clear hi)))
             go_ret
             exact ⟨by first | rfl | (simp [errW_none, errW_some] <;> rfl) | (simp [*, errW_none, errW_some] <;> rfl), by repeat (first | (with_reducible first | exact HB.out | apply below_alloc | apply pw_below_drewN | apply below_drew1) | exact HB.out)⟩
            ·replace c32 := Bool.eq_false_iff.mpr c32
             subst c32
             have H1 : (some false) = some r := by rw [if_neg (show ¬ (false = true) by decide)] at H; exact H
             clear H
             have H := H1
             clear H1
             obtain rfl := Option.some.inj H
             exact absurd HRT.out (by decide)
           ·rw [if_neg c30] at H
            have c30b0 : (t228 == t235) = false := beq_eq_false_iff_ne.mpr c30
            have c30b1 : (t228 != t235) = true := bne_iff_ne.mpr c30
            obtain rfl := Option.some.inj H
            exact absurd HRT.out (by decide)
          ·rw [if_neg c29] at H
           have c29b0 : (t229 == t236) = false := beq_eq_false_iff_ne.mpr c29
           have c29b1 : (t229 != t236) = true := bne_iff_ne.mpr c29
           obtain rfl := Option.some.inj H
           exact absurd HRT.out (by decide)
         ·rw [if_neg c28] at H
          have c28b0 : (t225.toList == t232.toList) = false := beq_eq_false_iff_ne.mpr c28
          have c28b1 : (t225.toList != t232.toList) = true := bne_iff_ne.mpr c28
          obtain rfl := Option.some.inj H
          exact absurd HRT.out (by decide)
        ·rw [if_neg c27] at H
         have c27b0 : (t226 == t233) = false := beq_eq_false_iff_ne.mpr c27
         have c27b1 : (t226 != t233) = true := bne_iff_ne.mpr c27
         obtain rfl := Option.some.inj H
         exact absurd HRT.out (by decide)
       ·replace c26 := Bool.eq_false_iff.mpr c26
        subst c26
        have H1 : (some false) = some r := by rw [if_neg (show ¬ (false = true) by decide)] at H; exact H
        clear H
        have H := H1
        clear H1
        obtain rfl := Option.some.inj H
        exact absurd HRT.out (by decide)
end Go.Proofs.YtdomcbebbhbdlaaGreatDoor.PLogsBills
namespace Go.Proofs.Lg
open Go.RowKit Go.Proofs.YtdomcbebbhbdlaaGreatDoorW.PrintWords Go.Proofs.YtdomcbebbhbdlaaGreatDoorW.PrintLast Go.Proofs.YtdomcbebbhbdlaaGreatDoorW.PrintMore Go.Proofs.YtdomcbebbhbdlaaGreatDoor.PLogsBills
theorem wrap_nat {i : Nat} (h : i < 9000000000000000000) : wrap64 ((i : Int) + 1) = ((i + 1 : Nat) : Int) := by unfold wrap64; omega
theorem rdT_nat (l : List S26) {i : Nat} (h : i < l.length) : rd_T26 l (i : Int) = l[i] := by simp [rd_T26, h]
theorem ev_equal (l : List Int) (hl : l.length ≤ 1000000000000) : Ev (fun k => lw_equal.f k l l) true := by
 have key : ∀ d i, i + d = l.length → Ev (fun k => lw_equal.l0 k l l (i : Int)) true := by
  intro d
  induction d with
  | zero => intro i hi; exact Ev.step (f := fun _ => some true) (fun k => by simp only [lw_equal.l0]; rw [if_neg (by omega)]) (Ev.now true)
  | succ d ih =>
   intro i hi
   refine Ev.step (f := fun k => lw_equal.l0 k l l ((i + 1 : Nat) : Int)) (fun k => ?_) (ih (i + 1) (by omega))
   simp only [lw_equal.l0]
   rw [if_pos (by omega), if_pos (by omega), if_pos (by omega), if_pos trivial, wrap_nat (by omega)]
 refine Ev.congr (f := fun k => lw_equal.l0 k l l ((0 : Nat) : Int)) (fun k => ?_) (key l.length 0 (by omega))
 unfold lw_equal.f
 rw [if_pos rfl]
 rfl
theorem ev_same (l : List S26) (hl : l.length ≤ 1000000000000) (hs : ∀ x ∈ l, x.f5.length ≤ 1000000000000) : Ev (fun k => lw_sameBills.f k l l) true := by
 have key : ∀ d i, i + d = l.length → Ev (fun k => lw_sameBills.l0 k l l (i : Int)) true := by
  intro d
  induction d with
  | zero => intro i hi; exact Ev.step (f := fun _ => some true) (fun k => by simp only [lw_sameBills.l0]; rw [if_neg (by omega)]) (Ev.now true)
  | succ d ih =>
   intro i hi
   have hlt : i < l.length := by omega
   have hx : (rd_T26 l (i : Int)).f5.length ≤ 1000000000000 := by rw [rdT_nat l hlt]; exact hs _ (List.getElem_mem hlt)
   refine Ev.step (f := fun k => (lw_equal.f k ((rd_T26 l (i : Int)).f5) ((rd_T26 l (i : Int)).f5)).bind fun t => if t = true then lw_sameBills.l0 k l l ((i + 1 : Nat) : Int) else some false) (fun k => ?_) (Ev.bind (ev_equal _ hx) (Ev.congr (f := fun k => lw_sameBills.l0 k l l ((i + 1 : Nat) : Int)) (fun k => if_pos rfl) (ih (i + 1) (by omega))))
   simp only [lw_sameBills.l0]
   rw [if_pos (by omega), if_pos (by omega), if_pos (by omega), if_pos trivial, if_pos trivial, if_pos trivial, if_pos trivial, if_pos trivial, wrap_nat (by omega)]
 refine Ev.congr (f := fun k => lw_sameBills.l0 k l l ((0 : Nat) : Int)) (fun k => ?_) (key l.length 0 (by omega))
 unfold lw_sameBills.f
 rw [if_pos rfl]
 rfl
theorem ev_bills (l : List S26) (hl : l.length ≤ 1000000) (hs : ∀ x ∈ l, x.f5.length ≤ 1000000) : Ev (fun k => lw_bills.f k l) l := by
 have key : ∀ d i, i + d = l.length → Ev (fun k => lw_bills.l0 k l (l.take i) (i : Int)) l := by
  intro d
  induction d with
  | zero =>
   intro i hi
   have e : l.take i = l := List.take_of_length_le (by omega)
   exact Ev.step (f := fun _ => some l) (fun k => by simp only [lw_bills.l0]; rw [if_neg (by omega), e]) (Ev.now l)
  | succ d ih =>
   intro i hi
   have hlt : i < l.length := by omega
   refine Ev.step (f := fun k => lw_bills.l0 k l (l.take (i + 1)) ((i + 1 : Nat) : Int)) (fun k => ?_) (ih (i + 1) (by omega))
   have e : l.take (i + 1) = l.take i ++ [l[i]] := by rw [List.take_succ_eq_append_getElem hlt]
   have hx : l[i].f5.length ≤ 1000000 := hs _ (List.getElem_mem hlt)
   have hc : lw_ints.f l[i].f5 = some l[i].f5 := by
    unfold lw_ints.f
    simp only [Option.bind_some, List.length_nil, List.nil_append]
    rw [if_pos (by omega)]
   simp only [lw_bills.l0]
   rw [if_pos (by omega), if_pos (by omega), rdT_nat l hlt, hc]
   simp only [Option.bind_some]
   rw [if_pos (by rw [List.length_take]; omega), wrap_nat (by omega), e]
 have k0 : Ev (fun k => lw_bills.l0 k l [] 0) l := by simpa using key l.length 0 (by omega)
 unfold lw_bills.f
 exact k0
def isDig (c : UInt8) : Prop := 48 ≤ c.toNat ∧ c.toNat ≤ 57
instance (c : UInt8) : Decidable (isDig c) := inferInstanceAs (Decidable (48 ≤ c.toNat ∧ c.toNat ≤ 57))
def valN (n : Nat) (l : List UInt8) : Nat := l.foldl (fun a c => a * 10 + (c.toNat - 48)) n
theorem valN_cons (n : Nat) (c : UInt8) (l : List UInt8) : valN n (c :: l) = valN (n * 10 + (c.toNat - 48)) l := by unfold valN; rw [List.foldl_cons]
theorem valN_snoc (n : Nat) (l : List UInt8) (c : UInt8) : valN n (l ++ [c]) = valN n l * 10 + (c.toNat - 48) := by unfold valN; rw [List.foldl_append, List.foldl_cons, List.foldl_nil]
theorem valN_le : ∀ (l : List UInt8) (n : Nat), n ≤ valN n l
 | [], n => Nat.le_refl n
 | c :: r, n => by rw [valN_cons]; have := valN_le r (n * 10 + (c.toNat - 48)); omega
theorem dig_of (u : Nat) (h : u < 10) : (UInt8.ofNat (48 + u)).toNat = 48 + u := by
 rw [UInt8.toNat_ofNat']
 omega
theorem dec_dig : ∀ (u : Nat), ∀ c ∈ Lib.decDigits u, isDig c := by
 intro u
 induction u using Nat.strongRecOn with
 | _ u ih =>
  intro c hc
  rw [Lib.decDigits] at hc
  split at hc
  ·rename_i h
   rw [List.mem_singleton] at hc
   subst hc
   exact ⟨by rw [dig_of u h]; omega, by rw [dig_of u h]; omega⟩
  ·rename_i h
   rcases List.mem_append.1 hc with hc | hc
   ·exact ih (u / 10) (by omega) c hc
   ·rw [List.mem_singleton] at hc
    subst hc
    exact ⟨by rw [dig_of _ (by omega)]; omega, by rw [dig_of _ (by omega)]; omega⟩
theorem val_dec : ∀ (u : Nat), valN 0 (Lib.decDigits u) = u := by
 intro u
 induction u using Nat.strongRecOn with
 | _ u ih =>
  rw [Lib.decDigits]
  split
  ·rename_i h
   show 0 * 10 + ((UInt8.ofNat (48 + u)).toNat - 48) = u
   rw [dig_of u h]; omega
  ·rename_i h
   rw [valN_snoc, ih (u / 10) (by omega), dig_of _ (by omega)]
   omega
theorem dec_ne (u : Nat) : Lib.decDigits u ≠ [] := by
 rw [Lib.decDigits]
 split
 ·simp
 ·simp
theorem parse_ok : ∀ (l : List UInt8) (n : Nat), (∀ c ∈ l, isDig c) → valN n l < 1000000000000000000 → Lib.parseUint10 n l = .ok (valN n l)
 | [], n, _, _ => rfl
 | c :: r, n, hd, hv => by
  have hc : isDig c := hd c (by simp)
  rw [valN_cons] at hv ⊢
  have h1 := valN_le r (n * 10 + (c.toNat - 48))
  rw [Lib.parseUint10, if_pos (show 48 ≤ c.toNat ∧ c.toNat ≤ 57 from hc), if_neg (by omega), if_neg (by omega)]
  exact parse_ok r _ (fun x hx => hd x (by simp [hx])) hv
theorem atoi_dec (u : Nat) (h : u ≤ 1000000000) : Lib.atoiAll (Lib.decDigits u) = .ok (u : Int) := by
 cases e : Lib.decDigits u with
 | nil => exact absurd e (dec_ne u)
 | cons c r =>
  have hc : isDig c := dec_dig u c (by rw [e]; simp)
  have hv := val_dec u
  have hp := parse_ok (Lib.decDigits u) 0 (dec_dig u) (by rw [hv]; omega)
  rw [e] at hv hp
  rw [hv] at hp
  have n45 : ¬ c.toNat = 45 := by unfold isDig at hc; omega
  have n43 : ¬ (c.toNat = 43 ∨ c.toNat = 45) := by unfold isDig at hc; omega
  have hm : Lib.parseMag (c :: r) = .ok u := by unfold Lib.parseMag; rw [if_neg (by simp)]; exact hp
  unfold Lib.atoiAll
  simp only [if_neg n43, hm]
  rw [if_neg (by omega), if_neg (fun h => n45 h.1), if_neg n45]
theorem dec_list (n : Int) : (dec n).data.toList = Lib.decDigits n.toNat := by unfold dec; simp
theorem num_dec (n : Int) (h0 : 0 ≤ n) (h1 : n ≤ 1000000000) : numOf (dec n) = n := by
 unfold numOf
 rw [dec_list, atoi_dec n.toNat (by omega)]
 show ((n.toNat : Nat) : Int) = n
 omega
def digR : Nat → List UInt8 → Nat → Nat → Nat × Nat
 | 0, _, n, i => (n, i)
 | _ + 1, [], n, i => (n, i)
 | f + 1, c :: r, n, i => if 48 ≤ c.toNat ∧ c.toNat ≤ 57 then digR f r (n * 10 + (c.toNat - 48)) (i + 1) else (n, i)
theorem digR_app : ∀ (l rest : List UInt8) (f n i : Nat), (∀ c ∈ l, isDig c) → l.length ≤ f → digR f (l ++ rest) n i = digR (f - l.length) rest (valN n l) (i + l.length)
 | [], rest, f, n, i, _, _ => rfl
 | c :: r, rest, 0, n, i, _, hl => by simp at hl
 | c :: r, rest, f + 1, n, i, hd, hl => by
  have hc : isDig c := hd c (by simp)
  simp only [List.length_cons] at hl
  show digR (f + 1) (c :: (r ++ rest)) n i = _
  rw [digR, if_pos (show 48 ≤ c.toNat ∧ c.toNat ≤ 57 from hc), digR_app r rest f _ _ (fun x hx => hd x (by simp [hx])) (by omega), valN_cons]
  simp only [List.length_cons]
  congr 1 <;> omega
theorem digR_stop (f n i : Nat) (l : List UInt8) (h : ∀ c r, l = c :: r → ¬ isDig c) : digR f l n i = (n, i) := by
 cases f with
 | zero => cases l <;> rfl
 | succ f =>
  cases l with
  | nil => rfl
  | cons c r => rw [digR, if_neg (show ¬ (48 ≤ c.toNat ∧ c.toNat ≤ 57) from h c r rfl)]
theorem digR_dec (u : Nat) (hu : u ≤ 100000) (rest : List UInt8) (h : ∀ c r, rest = c :: r → ¬ isDig c) : digR 6 (Lib.decDigits u ++ rest) 0 0 = (u, (Lib.decDigits u).length) := by
 rw [digR_app _ _ _ _ _ (dec_dig u) (decDigits_six u hu), digR_stop _ _ _ _ h, val_dec, Nat.zero_add]
theorem bt_nat {s : ByteArray} {i : Nat} (h : i < s.size) : bt s (i : Int) = ((s.data.toList[i]'(by simpa using h)).toNat : Int) := by
 unfold bt
 rw [dif_pos (by simpa using h)]
 simp
 rfl
theorem ev_digits (s : ByteArray) : Ev (fun k => rf_Digits.f k s) (((digR 6 s.data.toList 0 0).1 : Int), ((digR 6 s.data.toList 0 0).2 : Int)) := by
 have key : ∀ f i n : Nat, i + f = 6 → i ≤ s.size → n < 10 ^ i → Ev (fun k => rf_Digits.l0 k s (n : Int) (i : Int)) (((digR f (s.data.toList.drop i) n i).1 : Int), ((digR f (s.data.toList.drop i) n i).2 : Int)) := by
  intro f
  induction f with
  | zero =>
   intro i n hi hs hn
   obtain rfl : i = 6 := by omega
   refine Ev.step (f := fun _ => some ((n : Int), ((6 : Nat) : Int))) (fun k => ?_) (Ev.now _)
   simp only [rf_Digits.l0]
   by_cases h : ((6 : Nat) : Int) < (s.size : Int)
   ·rw [if_pos h, if_neg (by omega)]
   ·rw [if_neg h]
  | succ f ih =>
   intro i n hi hs hn
   have hn6 : n < 1000000 := Nat.lt_of_lt_of_le hn (Nat.pow_le_pow_right (by omega) (by omega : i ≤ 6))
   have hp : ∀ d : Nat, d < 10 → n * 10 + d < 10 ^ (i + 1) := by
    intro d hd
    rw [Nat.pow_succ]
    generalize 10 ^ i = P at hn ⊢
    omega
   clear hn
   by_cases h : i < s.size
   ·have hd : s.data.toList.drop i = (s.data.toList[i]'(by simpa using h)) :: s.data.toList.drop (i + 1) := List.drop_eq_getElem_cons (by simpa using h)
    rw [hd, digR]
    have hb := bt_nat h
    generalize s.data.toList[i]'(by simpa using h) = c at hb ⊢
    by_cases hc : 48 ≤ c.toNat ∧ c.toNat ≤ 57
    ·rw [if_pos hc]
     refine Ev.step (f := fun k => rf_Digits.l0 k s ((n * 10 + (c.toNat - 48) : Nat) : Int) ((i + 1 : Nat) : Int)) (fun k => ?_) (ih (i + 1) _ (by omega) (by omega) (hp _ (by omega)))
     simp only [rf_Digits.l0]
     rw [if_pos (by omega), if_pos (by omega), if_pos (by omega), hb, if_pos (by omega), if_pos (by omega), wrap_nat (by omega)]
     have e : wrap64 (wrap64 (10 * (n : Int)) + ((c.toNat : Int) - 48) % 256) = ((n * 10 + (c.toNat - 48) : Nat) : Int) := by unfold wrap64; omega
     rw [e]
    ·rw [if_neg hc]
     refine Ev.step (f := fun _ => some ((n : Int), (i : Int))) (fun k => ?_) (Ev.now _)
     simp only [rf_Digits.l0]
     rw [if_pos (by omega), if_pos (by omega), if_pos (by omega), hb]
     by_cases h1 : (c.toNat : Int) ≥ 48
     ·rw [if_pos h1, if_neg (by omega)]
     ·rw [if_neg h1]
   ·have e : s.data.toList.drop i = [] := List.drop_eq_nil_of_le (by simp; omega)
    rw [e]
    refine Ev.step (f := fun _ => some ((n : Int), (i : Int))) (fun k => ?_) (Ev.now _)
    simp only [rf_Digits.l0]
    rw [if_neg (by omega)]
 exact key 6 0 0 rfl (Nat.zero_le _) (by decide)
theorem ev_bill (x : S26) (hl : x.f5.length ≤ 1000000) : Ev (fun k => rf_Bill.f k x.f0 x.f1 x.f2 x.f3 x.f4 x.f5) (isB x) := by
 refine Ev.congr (f := fun _ => some _) (fun k => ?_) (Ev.now _)
 unfold rf_Bill.f
 rw [if_pos hl]
def headS (x : S26) : ByteArray := dec x.f0 ++ ⟨#[32]⟩ ++ dec x.f1 ++ ⟨#[32]⟩ ++ dec x.f2 ++ ⟨#[32]⟩ ++ dec x.f3 ++ ⟨#[62]⟩ ++ dec x.f4 ++ ⟨#[32]⟩
def tailS : List Int → ByteArray
 | [] => ⟨#[]⟩
 | l => commas (l.map dec)
theorem tailS_one (n : Int) : tailS [n] = dec n := by
 show commas [dec n] = dec n
 unfold commas
 rw [List.map_cons, List.map_nil, join_one]
theorem tailS_snoc (l : List Int) (h : l ≠ []) (n : Int) : tailS (l ++ [n]) = tailS l ++ ⟨#[44]⟩ ++ dec n := by
 have e : ∀ m : List Int, m ≠ [] → tailS m = commas (m.map dec) := by
  intro m hm
  cases m with
  | nil => exact absurd rfl hm
  | cons a r => rfl
 rw [e _ (by simp), e l h]
 unfold commas
 rw [List.map_append, List.map_append, List.map_cons, List.map_nil, List.map_cons, List.map_nil, join_snoc _ _ _ (by simpa using h)]
 apply ByteArray.ext
 simp
theorem s1 (c : UInt8) : (⟨#[c]⟩ : ByteArray).size = 1 := rfl
theorem tailS_size (l : List Int) (h : ∀ n ∈ l, 0 ≤ n ∧ n ≤ 100000) (hl : l.length ≤ 10) : (tailS l).size ≤ 80 := by
 cases l with
 | nil => exact Nat.zero_le _
 | cons a r =>
  have h1 := join_size [44] ((a :: r).map dec) 6 (fun x hx => by obtain ⟨n, hn, rfl⟩ := List.mem_map.1 hx; have := h n hn; exact dec_size n this.1 this.2)
  have h2 : (tailS (a :: r)).size = (Lib.join (((a :: r).map dec).map (·.data.toList)) [44]).length := by simp [tailS, commas, ByteArray.size]
  rw [h2]
  simp only [List.length_map, List.length_cons, List.length_singleton, List.length_nil] at h1 hl
  omega
theorem headS_size {x : S26} (h : Small x) : (headS x).size ≤ 40 := by
 have n0 := dec_size x.f0 h.a0.1 h.a0.2
 have n1 := dec_size x.f1 h.a1.1 h.a1.2
 have n2 := dec_size x.f2 h.a2.1 h.a2.2
 have n3 := dec_size x.f3 h.a3.1 h.a3.2
 have n4 := dec_size x.f4 h.a4.1 h.a4.2
 unfold headS
 simp only [ByteArray.size_append, s1]
 omega
theorem billS_head (x : S26) : billS x = sealOf (headS x ++ (if x.f5 = [] then ⟨#[45]⟩ else tailS x.f5) ++ ⟨#[32]⟩) := by
 have e : joined (billWords x) = headS x ++ (if x.f5 = [] then ⟨#[45]⟩ else tailS x.f5) := by
  have hs : commas (sealsS x.f5) = (if x.f5 = [] then ⟨#[45]⟩ else tailS x.f5) := by
   unfold sealsS
   by_cases h : x.f5 = []
   ·rw [if_pos h, if_pos h]
    unfold commas
    rw [List.map_cons, List.map_nil, join_one]
   ·rw [if_neg h, if_neg h]
    cases hf : x.f5 with
    | nil => exact absurd hf h
    | cons a r => rfl
  unfold joined billWords headS
  rw [hs]
  generalize (if x.f5 = [] then (⟨#[45]⟩ : ByteArray) else tailS x.f5) = T
  simp only [List.map_cons, List.map_nil]
  rw [join_cons, join_cons, join_cons, join_cons, join_one]
  apply ByteArray.ext
  simp
 unfold billS
 rw [e]
theorem num_f (n : Int) (h0 : 0 ≤ n) (h1 : n ≤ 100000) : rf_Number.f n = some (dec n) := by
 unfold rf_Number.f
 rw [if_pos ⟨h0, by omega⟩]
theorem line_f (s : ByteArray) (h : s.size ≤ 3000) : rf_Line.f s = some (sealOf (s ++ ⟨#[32]⟩)) := by
 unfold rf_Line.f
 rw [if_pos h]
theorem ev_text (x : S26) (hx : Small x) : Ev (fun k => rf_BillText.f k x.f0 x.f1 x.f2 x.f3 x.f4 x.f5) (billS x) := by
 have hhs := headS_size hx
 have ⟨a0, a1, a2, a3, a4, a5, hlen⟩ := hx
 have key : ∀ d i, i + d = x.f5.length → Ev (fun k => rf_BillText.l0 k (headS x ++ tailS (x.f5.take i)) (i : Int) x.f0 x.f1 x.f2 x.f3 x.f4 x.f5) (billS x) := by
  intro d
  induction d with
  | zero =>
   intro i hi
   have hts := tailS_size x.f5 a5 hlen
   rw [List.take_of_length_le (by omega), billS_head]
   by_cases h0 : x.f5 = []
   ·rw [if_pos h0]
    refine Ev.step (f := fun _ => some _) (fun k => ?_) (Ev.now _)
    simp only [rf_BillText.l0]
    rw [if_neg (by omega), if_pos (by rw [h0]; rfl), h0]
    have e : headS x ++ tailS [] = headS x := ByteArray.append_empty
    rw [e, if_pos (by omega), line_f _ (by simp only [ByteArray.size_append, s1]; omega)]
    simp only [Option.bind_some]
   ·rw [if_neg h0]
    refine Ev.step (f := fun _ => some _) (fun k => ?_) (Ev.now _)
    simp only [rf_BillText.l0]
    have hpos : 0 < x.f5.length := List.length_pos_iff.2 h0
    rw [if_neg (by omega), if_neg (by omega), line_f _ (by simp only [ByteArray.size_append]; omega)]
    simp only [Option.bind_some]
  | succ d ih =>
   intro i hi
   have hlt : i < x.f5.length := by omega
   have hts := tailS_size (x.f5.take i) (fun n hn => a5 n (List.mem_of_mem_take hn)) (by rw [List.length_take]; omega)
   have hrd : rd x.f5 (i : Int) = x.f5[i] := rd_nat x.f5 hlt
   have hn := a5 _ (List.getElem_mem hlt)
   have hsz := dec_size _ hn.1 hn.2
   have e : x.f5.take (i + 1) = x.f5.take i ++ [x.f5[i]] := by rw [List.take_succ_eq_append_getElem hlt]
   refine Ev.step (f := fun k => rf_BillText.l0 k (headS x ++ tailS (x.f5.take (i + 1))) ((i + 1 : Nat) : Int) x.f0 x.f1 x.f2 x.f3 x.f4 x.f5) (fun k => ?_) (ih (i + 1) (by omega))
   simp only [rf_BillText.l0]
   rw [if_pos (by omega), e]
   by_cases hi0 : i = 0
   ·subst hi0
    rw [if_neg (by omega), if_pos (by omega), hrd, num_f _ hn.1 hn.2]
    simp only [Option.bind_some]
    have e0 : headS x ++ tailS (x.f5.take 0) = headS x := ByteArray.append_empty
    rw [e0, if_pos (by omega), List.take_zero, List.nil_append, tailS_one, wrap_nat (by omega)]
   ·rw [if_pos (by omega), if_pos (by simp only [ByteArray.size_append]; omega), if_pos (by omega), hrd, num_f _ hn.1 hn.2]
    simp only [Option.bind_some]
    rw [if_pos (by simp only [ByteArray.size_append, s1]; omega), wrap_nat (by omega), tailS_snoc _ (by
     intro h
     have := congrArg List.length h
     rw [List.length_take] at this
     simp only [List.length_nil] at this
     omega)]
    simp only [ByteArray.append_assoc]
 have n0 := dec_size x.f0 a0.1 a0.2
 have n1 := dec_size x.f1 a1.1 a1.2
 have n2 := dec_size x.f2 a2.1 a2.2
 have n3 := dec_size x.f3 a3.1 a3.2
 have n4 := dec_size x.f4 a4.1 a4.2
 have k0 : Ev (fun k => rf_BillText.l0 k (headS x) 0 x.f0 x.f1 x.f2 x.f3 x.f4 x.f5) (billS x) := by
  have := key x.f5.length 0 (by omega)
  have e0 : headS x ++ tailS (x.f5.take 0) = headS x := ByteArray.append_empty
  rw [e0] at this
  simpa using this
 refine Ev.congr (fun k => ?_) k0
 unfold rf_BillText.f
 rw [num_f _ a0.1 a0.2]
 simp only [Option.bind_some]
 rw [if_pos (by omega), num_f _ a1.1 a1.2]
 simp only [Option.bind_some]
 rw [if_pos (by simp only [ByteArray.size_append, s1]; omega), if_pos (by simp only [ByteArray.size_append, s1]; omega), num_f _ a2.1 a2.2]
 simp only [Option.bind_some]
 rw [if_pos (by simp only [ByteArray.size_append, s1]; omega), if_pos (by simp only [ByteArray.size_append, s1]; omega), num_f _ a3.1 a3.2]
 simp only [Option.bind_some]
 rw [if_pos (by simp only [ByteArray.size_append, s1]; omega), if_pos (by simp only [ByteArray.size_append, s1]; omega), num_f _ a4.1 a4.2]
 simp only [Option.bind_some]
 rw [if_pos (by simp only [ByteArray.size_append, s1]; omega), if_pos (by simp only [ByteArray.size_append, s1]; omega)]
 rfl
theorem ev_write (l : List S26) (hl : l.length ≤ 1000000) (hs : ∀ x ∈ l, x.f5.length ≤ 1000000) : Ev (fun k => rf_WriteBills.f k l) (writeF l) := by
 unfold writeF
 by_cases h200 : 200 < l.length
 ·rw [if_pos h200]
  refine Ev.congr (f := fun _ => some _) (fun k => ?_) (Ev.now _)
  unfold rf_WriteBills.f
  rw [if_pos (by omega)]
 ·rw [if_neg h200]
  have key : ∀ d i (acc : List UInt8), i + d = l.length → acc.length ≤ 404 * i → Ev (fun k => rf_WriteBills.l0 k l ⟨acc.toArray⟩ (i : Int)) (textF acc (lastN l i) (l.drop i)) := by
   intro d
   induction d with
   | zero =>
    intro i acc hi _
    rw [List.drop_eq_nil_of_le (by omega)]
    refine Ev.step (f := fun _ => some _) (fun k => ?_) (Ev.now _)
    simp only [rf_WriteBills.l0]
    rw [if_neg (by omega)]
    rfl
   | succ d ih =>
    intro i acc hi hacc
    have hlt : i < l.length := by omega
    have hd : l.drop i = l[i] :: l.drop (i + 1) := List.drop_eq_getElem_cons hlt
    have hrd := rdT_nat l hlt
    have hlast : lastN l (i + 1) = some l[i].f0 := by simp [lastN, hlt]
    rw [hd, textF, ← hlast]
    have hsx := hs _ (List.getElem_mem hlt)
    have next := ih (i + 1) (acc ++ (billS l[i]).data.toList) (by omega)
    have hB := ev_bill l[i] hsx
    have hT := ev_text l[i]
    have hbs : Small l[i] → (billS l[i]).data.toList.length ≤ 404 := fun hh => billS_size hh
    have hafter : after (lastN l i) l[i].f0 = if h : i = 0 then true else decide ((l[i - 1]'(by omega)).f0 < l[i].f0) := by
     cases i with
     | zero => rfl
     | succ j => simp [lastN, after, (by omega : j < l.length)]
    generalize l[i] = x at hrd next hB hT hbs hafter ⊢
    have body : ∀ k, rf_WriteBills.l0 (k + 1) l ⟨acc.toArray⟩ (i : Int) = (rf_Bill.f k x.f0 x.f1 x.f2 x.f3 x.f4 x.f5).bind fun t141 => if t141 = true then (if (i : Int) > 0 then (if 0 ≤ wrap64 ((i : Int) - 1) then (if wrap64 ((i : Int) - 1) < (l.length : Int) then (if x.f0 ≤ (rd_T26 l (wrap64 ((i : Int) - 1))).f0 then some (⟨#[]⟩, 6) else (rf_BillText.f k x.f0 x.f1 x.f2 x.f3 x.f4 x.f5).bind fun t145 => if (⟨acc.toArray⟩ : ByteArray).size + t145.size ≤ 9223372036854775807 then rf_WriteBills.l0 k l (⟨acc.toArray⟩ ++ t145) (wrap64 ((i : Int) + 1)) else none) else none) else none) else (rf_BillText.f k x.f0 x.f1 x.f2 x.f3 x.f4 x.f5).bind fun t147 => if (⟨acc.toArray⟩ : ByteArray).size + t147.size ≤ 9223372036854775807 then rf_WriteBills.l0 k l (⟨acc.toArray⟩ ++ t147) (wrap64 ((i : Int) + 1)) else none) else some (⟨#[]⟩, 2) := by
     intro k
     simp only [rf_WriteBills.l0]
     rw [if_pos (by omega), if_pos (by omega), hrd]
    refine Ev.step body ?_
    refine Ev.bind hB ?_
    cases hv : isB x with
    | false => exact Ev.congr (f := fun _ => some _) (fun k => if_neg (by simp)) (Ev.now _)
    | true =>
     have hsm := small_of hv
     have hsz := hbs hsm
     have e3 : (⟨acc.toArray⟩ : ByteArray).size = acc.length := List.size_toArray
     have e4 : (billS x).size = (billS x).data.toList.length := Array.length_toList.symm
     have e5 : (⟨acc.toArray⟩ : ByteArray) ++ billS x = ⟨(acc ++ (billS x).data.toList).toArray⟩ := by apply ByteArray.ext; simp
     have go : Ev (fun k => (rf_BillText.f k x.f0 x.f1 x.f2 x.f3 x.f4 x.f5).bind fun t145 => if (⟨acc.toArray⟩ : ByteArray).size + t145.size ≤ 9223372036854775807 then rf_WriteBills.l0 k l (⟨acc.toArray⟩ ++ t145) (wrap64 ((i : Int) + 1)) else none) (textF (acc ++ (billS x).data.toList) (lastN l (i + 1)) (l.drop (i + 1))) := by
      refine Ev.bind (hT hsm) ?_
      refine Ev.congr (fun k => ?_) (next (by rw [List.length_append]; omega))
      rw [if_pos (by omega), e5, wrap_nat (by omega)]
     simp only [if_true]
     rw [hafter]
     by_cases hi0 : i = 0
     ·rw [dif_pos hi0]
      simp only [if_true]
      refine Ev.congr (fun k => ?_) go
      rw [if_neg (by omega)]
     ·rw [dif_neg hi0]
      have hw : wrap64 ((i : Int) - 1) = ((i - 1 : Nat) : Int) := by unfold wrap64; omega
      by_cases hlt2 : (l[i - 1]'(by omega)).f0 < x.f0
      ·rw [decide_eq_true hlt2]
       simp only [if_true]
       refine Ev.congr (fun k => ?_) go
       rw [if_pos (by omega), hw, if_pos (by omega), if_pos (by omega), rdT_nat l (by omega), if_neg (by omega)]
      ·rw [decide_eq_false hlt2]
       refine Ev.congr (f := fun _ => some _) (fun k => ?_) (Ev.now _)
       rw [if_pos (by omega), hw, if_pos (by omega), if_pos (by omega), rdT_nat l (by omega), if_pos (by omega)]
       simp
  have k0 := key l.length 0 [] (by omega) (Nat.zero_le _)
  refine Ev.congr (fun k => ?_) k0
  unfold rf_WriteBills.f
  rw [if_neg (by omega)]
  rfl
def mkB (l : List UInt8) : ByteArray := ⟨l.toArray⟩
theorem mkB_list (l : List UInt8) : (mkB l).data.toList = l := by simp [mkB]
theorem list_mkB (s : ByteArray) : mkB s.data.toList = s := by apply ByteArray.ext; simp [mkB]
theorem mkB_inj {s : ByteArray} {l : List UInt8} (h : s.data.toList = l) : s = mkB l := by rw [← h, list_mkB]
theorem ba_inj {a b : ByteArray} (h : a.data.toList = b.data.toList) : a = b := by rw [mkB_inj h, list_mkB]
theorem len_list (s : ByteArray) : s.data.toList.length = s.size := Array.length_toList
theorem app_list (a b : ByteArray) : (a ++ b).data.toList = a.data.toList ++ b.data.toList := by simp
theorem extract_list (s : ByteArray) (a b : Nat) (hb : b ≤ s.size) : (s.extract a b).data.toList = (s.data.toList.drop a).take (b - a) := by
 rw [ByteArray.data_extract, Array.toList_extract, List.extract_eq_take_drop]
theorem map_mkB (ws : List ByteArray) : (ws.map (·.data.toList)).map mkB = ws := by
 rw [List.map_map]
 have : (mkB ∘ fun x : ByteArray => x.data.toList) = id := by funext x; exact list_mkB x
 rw [this, List.map_id]
theorem words_mk (s : ByteArray) : wordsOf s = (spl 32 s.data.toList).map mkB := by rw [← wordsOf_spl, map_mkB]
theorem b32 {c : UInt8} (h : c ≠ 32) : ¬ ((c.toNat : Int) = 32) := by
 intro e
 have h' : c.toNat = (32 : UInt8).toNat := by
  have : (32 : UInt8).toNat = 32 := rfl
  omega
 exact h (UInt8.toNat.inj h')
theorem b10 {c : UInt8} (h : c ≠ 10) : ¬ ((c.toNat : Int) = 10) := by
 intro e
 have h' : c.toNat = (10 : UInt8).toNat := by
  have : (10 : UInt8).toNat = 10 := rfl
  omega
 exact h (UInt8.toNat.inj h')
theorem spl_len (c : UInt8) : ∀ l : List UInt8, (spl c l).length = l.count c + 1
 | [] => rfl
 | x :: r => by
  rw [spl]
  by_cases h : x = c
  ·rw [if_pos h, List.length_cons, spl_len c r, h, List.count_cons_self]
  ·rw [if_neg h, List.count_cons_of_ne h]
   have hne := spl_ne c r
   have ih := spl_len c r
   generalize spl c r = ws at hne ih
   cases ws with
   | nil => exact absurd rfl hne
   | cons w ws => exact ih
theorem spl_app (c : UInt8) : ∀ a r : List UInt8, spl c (a ++ c :: r) = spl c a ++ spl c r
 | [], r => by
  have e : spl c (c :: r) = [] :: spl c r := by rw [spl, if_pos rfl]
  rw [List.nil_append, e]; rfl
 | x :: a, r => by
  rw [List.cons_append, spl, spl_app c a r]
  rw [spl]
  by_cases h : x = c
  ·rw [if_pos h, if_pos h]; rfl
  ·rw [if_neg h, if_neg h]
   have hne := spl_ne c a
   generalize spl c a = ws at hne
   cases ws with
   | nil => exact absurd rfl hne
   | cons w ws => rfl
theorem clean_take {c : UInt8} {l : List UInt8} {a n : Nat} (h : ∀ j, a ≤ j → j < a + n → ∀ hj : j < l.length, l[j] ≠ c) : c ∉ (l.drop a).take n := by
 intro hm
 obtain ⟨i, hi, he⟩ := List.getElem_of_mem hm
 rw [List.length_take, List.length_drop] at hi
 rw [List.getElem_take, List.getElem_drop] at he
 exact h (a + i) (by omega) (by omega) (by omega) he
theorem drop_split {l : List UInt8} {a i : Nat} (ha : a ≤ i) (hi : i < l.length) : l.drop a = (l.drop a).take (i - a) ++ l[i] :: l.drop (i + 1) := by
 have h1 : l.drop a = (l.drop a).take (i - a) ++ (l.drop a).drop (i - a) := (List.take_append_drop _ _).symm
 have h2 : (l.drop a).drop (i - a) = l[i] :: l.drop (i + 1) := by
  rw [List.drop_drop, show a + (i - a) = i by omega]
  exact List.drop_eq_getElem_cons hi
 rw [h2] at h1
 exact h1
theorem ev_words (s : ByteArray) (hs : s.size ≤ 1000000) : Ev (fun k => rf_Words.f k s) (wordsOf s) := by
 have key : ∀ d i fr (acc : List ByteArray), i + d = s.size → fr ≤ i → (∀ j, fr ≤ j → j < i → ∀ hj : j < s.data.toList.length, s.data.toList[j] ≠ 32) → acc.length ≤ i →
   Ev (fun k => rf_Words.l0 k s acc (fr : Int) (i : Int)) (acc ++ (spl 32 (s.data.toList.drop fr)).map mkB) := by
  intro d
  induction d with
  | zero =>
   intro i fr acc hi hf hcl hacc
   have hcl' : (32 : UInt8) ∉ s.data.toList.drop fr := by
    have h := clean_take (c := 32) (l := s.data.toList) (a := fr) (n := i - fr) (fun j h1 h2 hj => hcl j h1 (by omega) hj)
    rw [List.take_of_length_le (by rw [List.length_drop, len_list]; omega)] at h
    exact h
   have he : s.extract ((fr : Int)).toNat ((i : Int)).toNat = mkB (s.data.toList.drop fr) := by
    apply mkB_inj
    rw [Int.toNat_natCast, Int.toNat_natCast, extract_list _ _ _ (by omega), List.take_of_length_le (by rw [List.length_drop, len_list]; omega)]
   rw [spl_clean hcl']
   refine Ev.step (f := fun k => rf_Words.l0 k s (acc ++ [mkB (s.data.toList.drop fr)]) ((i + 1 : Nat) : Int) ((i + 1 : Nat) : Int)) (fun k => ?_) ?_
   ·simp only [rf_Words.l0]
    rw [if_pos (by omega), if_pos (by omega), if_pos (by omega), if_pos (by omega), if_pos (by omega), he, wrap_nat (by omega)]
   ·exact Ev.step (f := fun _ => some _) (fun k => by simp only [rf_Words.l0]; rw [if_neg (by omega)]; rfl) (Ev.now _)
  | succ d ih =>
   intro i fr acc hi hf hcl hacc
   have hlt : i < s.size := by omega
   have hlt' : i < s.data.toList.length := by rw [len_list]; exact hlt
   have hb := bt_nat hlt
   by_cases hc : s.data.toList[i] = 32
   ·have he : s.extract ((fr : Int)).toNat ((i : Int)).toNat = mkB ((s.data.toList.drop fr).take (i - fr)) := by
     apply mkB_inj
     rw [Int.toNat_natCast, Int.toNat_natCast, extract_list _ _ _ (by omega)]
    have hsp : spl 32 (s.data.toList.drop fr) = (s.data.toList.drop fr).take (i - fr) :: spl 32 (s.data.toList.drop (i + 1)) := by
     have h1 := drop_split (l := s.data.toList) hf hlt'
     rw [hc] at h1
     conv => lhs; rw [h1]
     exact spl_hit _ (clean_take (fun j h1 h2 hj => hcl j h1 (by omega) hj))
    have next := ih (i + 1) (i + 1) (acc ++ [mkB ((s.data.toList.drop fr).take (i - fr))]) (by omega) (Nat.le_refl _) (fun j h1 h2 => by omega) (by rw [List.length_append, List.length_singleton]; omega)
    rw [hsp, List.map_cons]
    rw [List.append_assoc] at next
    refine Ev.step (fun k => ?_) next
    simp only [rf_Words.l0]
    rw [if_pos (by omega), if_neg (by omega), if_pos (by omega), if_pos (by omega), hb, hc, if_pos (by decide), if_pos (by omega), if_pos (by omega), if_pos (by omega), he, wrap_nat (by omega)]
   ·refine Ev.step (fun k => ?_) (ih (i + 1) fr acc (by omega) (by omega) (fun j h1 h2 hj => by
     by_cases h : j = i
     ·subst h; exact hc
     ·exact hcl j h1 (by omega) hj) (by omega))
    simp only [rf_Words.l0]
    have hc' := b32 hc
    rw [if_pos (by omega), if_neg (by omega), if_pos (by omega), if_pos (by omega), hb, if_neg hc', wrap_nat (by omega)]
 have k0 := key s.size 0 0 [] (by omega) (Nat.le_refl _) (fun j h1 h2 => absurd h2 (by omega)) (Nat.zero_le _)
 rw [List.drop_zero, List.nil_append, ← words_mk] at k0
 unfold rf_Words.f
 simpa using k0
def linesR (s : ByteArray) : List ByteArray × Int :=
 if 120000 < s.size then ([], 5) else if s.data.toList ≠ [] ∧ s.data.toList.getLast? ≠ some 10 then ([], 120)
 else if 200 < s.data.toList.count 10 then ([], 5) else (((spl 10 s.data.toList).dropLast).map mkB, 0)
theorem ev_lines (s : ByteArray) (hs : s.size ≤ 1000000) : Ev (fun k => rf_Lines.f k s) (linesR s) := by
 have key : ∀ d i fr (acc : List ByteArray), i + d = s.size → fr ≤ i → (∀ j, fr ≤ j → j < i → ∀ hj : j < s.data.toList.length, s.data.toList[j] ≠ 10) → acc.length ≤ i →
   Ev (fun k => rf_Lines.l0 k s acc (fr : Int) (i : Int)) (if 200 < acc.length + (s.data.toList.drop fr).count 10 then ([], 5) else (acc ++ ((spl 10 (s.data.toList.drop fr)).dropLast).map mkB, 0)) := by
  intro d
  induction d with
  | zero =>
   intro i fr acc hi hf hcl hacc
   have hcl' : (10 : UInt8) ∉ s.data.toList.drop fr := by
    have h := clean_take (c := 10) (l := s.data.toList) (a := fr) (n := i - fr) (fun j h1 h2 hj => hcl j h1 (by omega) hj)
    rw [List.take_of_length_le (by rw [List.length_drop, len_list]; omega)] at h
    exact h
   rw [spl_clean hcl', List.count_eq_zero.2 hcl', Nat.add_zero]
   refine Ev.step (f := fun _ => some _) (fun k => ?_) (Ev.now _)
   simp only [rf_Lines.l0]
   rw [if_neg (by omega)]
   by_cases h : 200 < acc.length
   ·rw [if_pos h, if_pos (by omega)]
   ·rw [if_neg h, if_neg (by omega)]
    simp
  | succ d ih =>
   intro i fr acc hi hf hcl hacc
   have hlt : i < s.size := by omega
   have hlt' : i < s.data.toList.length := by rw [len_list]; exact hlt
   have hb := bt_nat hlt
   by_cases hc : s.data.toList[i] = 10
   ·have he : s.extract ((fr : Int)).toNat ((i : Int)).toNat = mkB ((s.data.toList.drop fr).take (i - fr)) := by
     apply mkB_inj
     rw [Int.toNat_natCast, Int.toNat_natCast, extract_list _ _ _ (by omega)]
    have hclean : (10 : UInt8) ∉ (s.data.toList.drop fr).take (i - fr) := clean_take (fun j h1 h2 hj => hcl j h1 (by omega) hj)
    have h1 := drop_split (l := s.data.toList) hf hlt'
    rw [hc] at h1
    have hsp : spl 10 (s.data.toList.drop fr) = (s.data.toList.drop fr).take (i - fr) :: spl 10 (s.data.toList.drop (i + 1)) := by
     conv => lhs; rw [h1]
     exact spl_hit _ hclean
    have hcount : (s.data.toList.drop fr).count 10 = 1 + (s.data.toList.drop (i + 1)).count 10 := by
     conv => lhs; rw [h1]
     rw [List.count_append, List.count_eq_zero.2 hclean, List.count_cons_self]
     omega
    have next := ih (i + 1) (i + 1) (acc ++ [mkB ((s.data.toList.drop fr).take (i - fr))]) (by omega) (Nat.le_refl _) (fun j h1 h2 => by omega) (by rw [List.length_append, List.length_singleton]; omega)
    have hdl : (spl 10 (s.data.toList.drop fr)).dropLast = (s.data.toList.drop fr).take (i - fr) :: (spl 10 (s.data.toList.drop (i + 1))).dropLast := by
     rw [hsp]
     exact List.dropLast_cons_of_ne_nil (spl_ne _ _)
    rw [hdl, List.map_cons, hcount]
    rw [List.append_assoc, List.length_append, List.length_singleton] at next
    rw [← Nat.add_assoc]
    refine Ev.step (fun k => ?_) next
    simp only [rf_Lines.l0]
    rw [if_pos (by omega), if_pos (by omega), hb, hc, if_pos (by decide), if_pos (by omega), if_pos (by omega), if_pos (by omega), if_pos (by omega), he, wrap_nat (by omega)]
   ·refine Ev.step (fun k => ?_) (ih (i + 1) fr acc (by omega) (by omega) (fun j h1 h2 hj => by
     by_cases h : j = i
     ·subst h; exact hc
     ·exact hcl j h1 (by omega) hj) (by omega))
    simp only [rf_Lines.l0]
    have hc' := b10 hc
    rw [if_pos (by omega), if_pos (by omega), hb, if_neg hc', wrap_nat (by omega)]
 have k0 := key s.size 0 0 [] (by omega) (Nat.le_refl _) (fun j h1 h2 => absurd h2 (by omega)) (Nat.zero_le _)
 rw [List.drop_zero, List.nil_append, List.length_nil, Nat.zero_add] at k0
 have hj : ∀ b : Bool, Ev (fun k => rf_Lines.j0 k s b) (if b then ([], 120) else if 200 < s.data.toList.count 10 then ([], 5) else (((spl 10 s.data.toList).dropLast).map mkB, 0)) := by
  intro b
  cases b with
  | true => exact Ev.step (f := fun _ => some _) (fun k => by simp only [rf_Lines.j0]; rw [if_pos trivial]; rfl) (Ev.now _)
  | false =>
   refine Ev.step (fun k => ?_) k0
   simp only [rf_Lines.j0]
   rw [if_neg (by simp)]
   rfl
 unfold linesR
 by_cases hbig : 120000 < s.size
 ·rw [if_pos hbig]
  refine Ev.congr (f := fun _ => some _) (fun k => ?_) (Ev.now _)
  unfold rf_Lines.f
  rw [if_pos (by omega)]
 ·rw [if_neg hbig]
  by_cases h0 : s.data.toList = []
  ·rw [if_neg (fun h => h.1 h0)]
   refine Ev.congr (fun k => ?_) (hj false)
   unfold rf_Lines.f
   rw [if_neg (by omega), if_pos (by rw [ByteArray.toList_eq]; exact h0)]
  ·have hpos : 0 < s.size := by rw [← len_list]; exact List.length_pos_iff.2 h0
   have hw : wrap64 ((s.size : Int) - 1) = ((s.size - 1 : Nat) : Int) := by unfold wrap64; omega
   have hlast : s.data.toList.getLast? = some (s.data.toList[s.size - 1]'(by rw [len_list]; omega)) := by
    have e1 : s.data.toList.getLast? = s.data.toList[s.size - 1]? := by rw [List.getLast?_eq_getElem?, len_list]
    rw [e1]
    exact List.getElem?_eq_getElem _
   have hb := bt_nat (s := s) (i := s.size - 1) (by omega)
   refine Ev.congr (fun k => ?_) (?_ : Ev (fun k => rf_Lines.j0 k s (bt s ((s.size - 1 : Nat) : Int) != 10)) _)
   ·unfold rf_Lines.f
    rw [if_neg (by omega), if_neg (by rw [ByteArray.toList_eq]; exact h0), hw, if_pos (by omega), if_pos (by omega)]
   ·rw [hb, hlast]
    generalize s.data.toList[s.size - 1]'(by rw [len_list]; omega) = c
    by_cases hc : c = 10
    ·subst hc
     rw [if_neg (by simp)]
     exact hj false
    ·have hc' : ((c.toNat : Int) != 10) = true := by
      rw [bne_iff_ne]
      exact b10 hc
     rw [if_pos ⟨h0, by intro h; exact hc (Option.some.inj h)⟩, hc']
     exact hj true
def checkR (x : ByteArray) : Int := if formed x then (if sealOf (x.extract 0 (x.size - 3) ++ ⟨#[32]⟩) = x ++ ⟨#[10]⟩ then 0 else 121) else 4
theorem ev_checked (x : ByteArray) (hx : x.size ≤ 1000000) : Ev (fun k => rf_Checked.f k x) (checkR x) := by
 have hj : ∀ b : Bool, (b = false → 3 ≤ x.size ∧ x.size ≤ 600) → Ev (fun k => rf_Checked.j0 k x b) (if b then 4 else if sealOf (x.extract 0 (x.size - 3) ++ ⟨#[32]⟩) = x ++ ⟨#[10]⟩ then 0 else 121) := by
  intro b hbs
  cases b with
  | true => exact Ev.step (f := fun _ => some _) (fun k => by simp only [rf_Checked.j0]; rw [if_pos trivial]; rfl) (Ev.now _)
  | false =>
   obtain ⟨h3, h6⟩ := hbs rfl
   have hw : wrap64 ((x.size : Int) - 3) = ((x.size - 3 : Nat) : Int) := by unfold wrap64; omega
   refine Ev.step (f := fun _ => some _) (fun k => ?_) (Ev.now _)
   simp only [rf_Checked.j0]
   rw [if_neg (by simp), hw, if_pos (by omega), if_pos (by omega), Int.toNat_natCast, line_f _ (by rw [ByteArray.size_extract]; omega)]
   simp only [Option.bind_some]
   rw [if_pos (by omega)]
   simp only [Bool.false_eq_true, if_false]
   by_cases h : sealOf (x.extract 0 (x.size - 3) ++ ⟨#[32]⟩) = x ++ ⟨#[10]⟩
   ·rw [if_pos h, if_pos (by rw [h])]
   ·rw [if_neg h, if_neg (fun e => h (toList_inj e))]
 unfold checkR formed rf_Checked.f
 simp only [in_f, Option.bind_some]
 by_cases h : (3 : Int) ≤ (x.size : Int) ∧ (x.size : Int) ≤ 600
 ·have hw : wrap64 ((x.size : Int) - 3) = ((x.size - 3 : Nat) : Int) := by unfold wrap64; omega
  rw [decide_eq_true h, decide_eq_true (by omega : x.size ≤ 600), decide_eq_true (by omega : 3 ≤ x.size)]
  simp only [Bool.true_and]
  refine Ev.congr (fun k => ?_) (?_ : Ev (fun k => rf_Checked.j0 k x (bt x ((x.size - 3 : Nat) : Int) != 32)) _)
  ·rw [if_pos trivial, hw, if_pos (by omega), if_pos (by omega)]
  ·by_cases hc : bt x ((x.size - 3 : Nat) : Int) = 32
   ·rw [decide_eq_true hc, hc]
    exact hj false (fun _ => by omega)
   ·have hc' : (bt x ((x.size - 3 : Nat) : Int) != 32) = true := bne_iff_ne.2 hc
    rw [decide_eq_false hc, hc']
    exact hj true (fun h => by cases h)
 ·have e : (decide (x.size ≤ 600) && (decide (3 ≤ x.size) && decide (bt x ((x.size - 3 : Nat) : Int) = 32))) = false := by
   by_cases h6 : x.size ≤ 600
   ·rw [decide_eq_false (by omega : ¬ 3 ≤ x.size)]; simp
   ·rw [decide_eq_false h6]; rfl
  rw [e, decide_eq_false h]
  simp only [Bool.false_eq_true, if_false]
  exact hj true (fun h => by cases h)
theorem index_mid (c : UInt8) : ∀ (p r : List UInt8), c ∉ p → Lib.index (p ++ c :: r) [c] = (p.length : Int)
 | [], r, _ => by
  rw [List.nil_append, Lib.index, if_pos (by simp [List.isPrefixOf])]
  rfl
 | x :: p, r, h => by
  have hx : ¬ c = x := fun e => h (by simp [e])
  have hr : c ∉ p := fun e => h (by simp [e])
  have ih := index_mid c p r hr
  rw [List.cons_append, Lib.index, ih]
  have e1 : List.isPrefixOf [c] (x :: (p ++ c :: r)) = false := by simp [List.isPrefixOf, hx]
  have e2 : (((p.length : Nat) : Int) == -1) = false := by rw [beq_eq_false_iff_ne]; omega
  rw [e1, e2]
  simp
theorem cut_mid (p r : List UInt8) (h : (62 : UInt8) ∉ p) : Lib.cut (p ++ 62 :: r) [62] = (p, r, true) := by
 unfold Lib.cut
 rw [index_mid 62 p r h, if_pos (by omega), Int.toNat_natCast]
 simp
theorem dec_free (u : Nat) (c : UInt8) (h : ¬ isDig c) : c ∉ Lib.decDigits u := fun hm => h (dec_dig u c hm)
theorem nd32 : ¬ isDig 32 := by decide
theorem nd44 : ¬ isDig 44 := by decide
theorem nd62 : ¬ isDig 62 := by decide
theorem nd45 : ¬ isDig 45 := by decide
theorem seals_words {l : List Int} (h : l ≠ []) : commas (sealsS l) = mkB (Lib.join ((l.map dec).map (·.data.toList)) [44]) := by
 unfold sealsS
 rw [if_neg h]
 rfl
theorem seal_word_ne {l : List Int} (h : l ≠ []) : commas (sealsS l) ≠ ⟨#[45]⟩ := by
 intro e
 have e' := congrArg (fun b : ByteArray => b.data.toList) e
 try simp only at e'
 rw [seals_words h, mkB_list] at e'
 cases l with
 | nil => exact h rfl
 | cons n r =>
  have hne := dec_ne n.toNat
  have hd := dec_dig n.toNat
  have hl := dec_list n
  generalize Lib.decDigits n.toNat = L at hne hd hl
  cases L with
  | nil => exact hne rfl
  | cons c t =>
   have hc : isDig c := hd c (by simp)
   have e2 : ∃ t', Lib.join (((n :: r).map dec).map (·.data.toList)) [44] = c :: t' := by
    rw [List.map_cons, List.map_cons, hl]
    cases r with
    | nil => exact ⟨t, by rw [List.map_nil, List.map_nil, join_one]⟩
    | cons m r => exact ⟨_, by rw [List.map_cons, List.map_cons, join_cons, List.cons_append, List.cons_append]⟩
   obtain ⟨t', e3⟩ := e2
   rw [e3] at e'
   have : c = 45 := (List.cons.inj e').1
   subst this
   exact nd45 hc
theorem spl_seals {l : List Int} (h : l ≠ []) : spl 44 (commas (sealsS l)).data.toList = (l.map dec).map (·.data.toList) := by
 rw [seals_words h, mkB_list]
 refine spl_join (by simpa using h) ?_
 intro w hw
 rw [List.map_map] at hw
 obtain ⟨n, hn, rfl⟩ := List.mem_map.1 hw
 show (44 : UInt8) ∉ (dec n).data.toList
 rw [dec_list]
 exact dec_free _ _ nd44
theorem pieces_mk (c : UInt8) (s : ByteArray) : piecesOf c s = (spl c s.data.toList).map mkB := by
 have h := piecesF_spl c (s.size + 1) s (by omega)
 unfold piecesOf
 rw [← h, map_mkB]
theorem read_P {x : S26} (h : Small x) : readB (billWords x) = x := by
 obtain ⟨a0, a1, a2, a3, a4, a5, hlen⟩ := h
 unfold billWords readB
 simp only
 have hcut : Lib.cut (dec x.f3 ++ ⟨#[62]⟩ ++ dec x.f4).data.toList [62] = ((dec x.f3).data.toList, (dec x.f4).data.toList, true) := by
  have e : (dec x.f3 ++ ⟨#[62]⟩ ++ dec x.f4).data.toList = (dec x.f3).data.toList ++ 62 :: (dec x.f4).data.toList := by simp
  rw [e]
  exact cut_mid _ _ (by rw [dec_list]; exact dec_free _ _ nd62)
 have hL : cutL (dec x.f3 ++ ⟨#[62]⟩ ++ dec x.f4) = dec x.f3 := by unfold cutL; rw [hcut]
 have hR : cutR (dec x.f3 ++ ⟨#[62]⟩ ++ dec x.f4) = dec x.f4 := by unfold cutR; rw [hcut]
 rw [hL, hR, num_dec _ a0.1 (by omega), num_dec _ a1.1 (by omega), num_dec _ a2.1 (by omega), num_dec _ a3.1 (by omega), num_dec _ a4.1 (by omega)]
 have hs : (if commas (sealsS x.f5) = ⟨#[45]⟩ then [] else (piecesOf 44 (commas (sealsS x.f5))).map numOf) = x.f5 := by
  by_cases h0 : x.f5 = []
  ·have e : commas (sealsS x.f5) = ⟨#[45]⟩ := by
    unfold sealsS
    rw [if_pos h0]
    unfold commas
    rw [List.map_cons, List.map_nil, join_one]
   rw [if_pos e, h0]
  ·rw [if_neg (seal_word_ne h0), pieces_mk, spl_seals h0, map_mkB, List.map_map]
   have e : ∀ n ∈ x.f5, (numOf ∘ dec) n = n := fun n hn => num_dec n (a5 n hn).1 (by have := (a5 n hn).2; omega)
   rw [List.map_congr_left e, List.map_id']
 rw [hs]
def sealsR : Nat → List UInt8 → List Int
 | 0, _ => []
 | _ + 1, [] => []
 | f + 1, c :: r => (if 0 < (digR 6 (c :: r) 0 0).2 then [((digR 6 (c :: r) 0 0).1 : Int)] else []) ++ sealsR f ((c :: r).drop ((digR 6 (c :: r) 0 0).2 + 1))
theorem sealsR_dash (f : Nat) : sealsR f [45] = [] := by
 cases f with
 | zero => rfl
 | succ f =>
  rw [sealsR]
  have e : digR 6 [45] 0 0 = (0, 0) := rfl
  rw [e]
  cases f with
  | zero => rfl
  | succ f => rfl
theorem sealsR_words : ∀ (l : List Int) (f : Nat), l ≠ [] → (∀ n ∈ l, 0 ≤ n ∧ n ≤ 100000) → (Lib.join ((l.map dec).map (·.data.toList)) [44]).length < f → sealsR f (Lib.join ((l.map dec).map (·.data.toList)) [44]) = l
 | [], _, h, _, _ => absurd rfl h
 | [n], f, _, hn, hf => by
  have h1 := hn n (by simp)
  rw [List.map_cons, List.map_nil, List.map_cons, List.map_nil, join_one, dec_list] at hf ⊢
  have hd := digR_dec n.toNat (by omega) [] (fun c r h => by cases h)
  rw [List.append_nil] at hd
  have hne := dec_ne n.toNat
  generalize Lib.decDigits n.toNat = L at hd hf hne
  cases f with
  | zero => exact absurd hf (Nat.not_lt_zero _)
  | succ f =>
   cases L with
   | nil => exact absurd rfl hne
   | cons c r =>
    rw [sealsR, hd, if_pos (by simp), List.drop_eq_nil_of_le (by simp)]
    have e : ((n.toNat : Nat) : Int) = n := by omega
    rw [e]
    cases f <;> rfl
 | n :: m :: r, f, _, hn, hf => by
  have h1 := hn n (by simp)
  have ih := sealsR_words (m :: r)
  rw [List.map_cons, List.map_cons, List.map_cons, List.map_cons, join_cons, dec_list] at hf ⊢
  rw [List.map_cons, List.map_cons] at ih
  generalize Lib.join ((dec m).data.toList :: (r.map dec).map (·.data.toList)) [44] = J at hf ih ⊢
  have hd := digR_dec n.toNat (by omega) (44 :: J) (fun c r h => by
   have := (List.cons.inj h).1
   subst this
   exact nd44)
  have hne := dec_ne n.toNat
  generalize Lib.decDigits n.toNat = L at hd hf hne ⊢
  have eJ : L ++ [44] ++ J = L ++ 44 :: J := by simp
  rw [eJ] at hf ⊢
  cases f with
  | zero => exact absurd hf (Nat.not_lt_zero _)
  | succ f =>
   cases L with
   | nil => exact absurd rfl hne
   | cons c t =>
    rw [List.cons_append] at hd hf ⊢
    rw [sealsR, hd, if_pos (by simp)]
    have e : ((n.toNat : Nat) : Int) = n := by omega
    have e2 : (c :: (t ++ 44 :: J)).drop ((c :: t).length + 1) = J := by
     have : c :: (t ++ 44 :: J) = (c :: t ++ [44]) ++ J := by simp
     rw [this]
     exact List.drop_left' (by simp)
    rw [e, e2, ih f (by simp) (fun k hk => hn k (by simp [hk])) (by simp only [List.length_cons, List.length_append] at hf; omega)]
    rfl
def parR (a b c d e : ByteArray) : S26 :=
 ⟨((digR 6 a.data.toList 0 0).1 : Int), ((digR 6 b.data.toList 0 0).1 : Int), ((digR 6 c.data.toList 0 0).1 : Int), ((digR 6 d.data.toList 0 0).1 : Int),
  ((digR 6 (d.data.toList.drop (min ((digR 6 d.data.toList 0 0).2 + 1) d.size)) 0 0).1 : Int), sealsR (e.size + 1) e.data.toList⟩
theorem dig_dec (n : Int) (h0 : 0 ≤ n) (h1 : n ≤ 100000) (rest : List UInt8) (h : ∀ c r, rest = c :: r → ¬ isDig c) : ((digR 6 ((dec n).data.toList ++ rest) 0 0).1 : Int) = n ∧ (digR 6 ((dec n).data.toList ++ rest) 0 0).2 = (dec n).size := by
 rw [dec_list, digR_dec n.toNat (by omega) rest h]
 refine ⟨?_, ?_⟩
 ·show ((n.toNat : Nat) : Int) = n
  omega
 ·rw [← len_list, dec_list]
theorem read_R {x : S26} (h : Small x) : parR (dec x.f0) (dec x.f1) (dec x.f2) (dec x.f3 ++ ⟨#[62]⟩ ++ dec x.f4) (commas (sealsS x.f5)) = x := by
 obtain ⟨a0, a1, a2, a3, a4, a5, hlen⟩ := h
 have nil : ∀ (n : Int), 0 ≤ n → n ≤ 100000 → ((digR 6 (dec n).data.toList 0 0).1 : Int) = n := by
  intro n h0 h1
  have := (dig_dec n h0 h1 [] (fun c r h => by cases h)).1
  rwa [List.append_nil] at this
 have e : (dec x.f3 ++ ⟨#[62]⟩ ++ dec x.f4).data.toList = (dec x.f3).data.toList ++ 62 :: (dec x.f4).data.toList := by simp
 obtain ⟨p1, p2⟩ := dig_dec x.f3 a3.1 a3.2 (62 :: (dec x.f4).data.toList) (fun c r h => by
  have := (List.cons.inj h).1
  subst this
  exact nd62)
 unfold parR
 rw [nil _ a0.1 a0.2, nil _ a1.1 a1.2, nil _ a2.1 a2.2, e, p1, p2]
 have hsz : (dec x.f3 ++ ⟨#[62]⟩ ++ dec x.f4).size = (dec x.f3).size + 1 + (dec x.f4).size := by simp only [ByteArray.size_append, Go.Proofs.Lg.s1]
 have e3 : ((dec x.f3).data.toList ++ 62 :: (dec x.f4).data.toList).drop (min ((dec x.f3).size + 1) (dec x.f3 ++ ⟨#[62]⟩ ++ dec x.f4).size) = (dec x.f4).data.toList := by
  rw [hsz, Nat.min_eq_left (by omega)]
  have : (dec x.f3).data.toList ++ 62 :: (dec x.f4).data.toList = ((dec x.f3).data.toList ++ [62]) ++ (dec x.f4).data.toList := by simp
  rw [this]
  exact List.drop_left' (by rw [List.length_append, len_list]; rfl)
 rw [e3, nil _ a4.1 a4.2]
 have hs : sealsR ((commas (sealsS x.f5)).size + 1) (commas (sealsS x.f5)).data.toList = x.f5 := by
  by_cases h0 : x.f5 = []
  ·have e : commas (sealsS x.f5) = ⟨#[45]⟩ := by
    unfold sealsS
    rw [if_pos h0]
    unfold commas
    rw [List.map_cons, List.map_nil, join_one]
   rw [e, h0]
   exact sealsR_dash _
  ·have hl : (commas (sealsS x.f5)).data.toList = Lib.join ((x.f5.map dec).map (·.data.toList)) [44] := by rw [seals_words h0, mkB_list]
   rw [← len_list, hl]
   exact sealsR_words x.f5 _ h0 a5 (Nat.lt_succ_self _)
 rw [hs]
theorem words_free {x : S26} : ∀ w ∈ (billWords x).map (·.data.toList), (32 : UInt8) ∉ w := by
 intro w hw
 have hdec : ∀ n : Int, (32 : UInt8) ∉ (dec n).data.toList := fun n => by rw [dec_list]; exact dec_free _ _ nd32
 unfold billWords at hw
 simp only [List.map_cons, List.map_nil, List.mem_cons, List.not_mem_nil, or_false] at hw
 rcases hw with rfl | rfl | rfl | rfl | rfl
 ·exact hdec _
 ·exact hdec _
 ·exact hdec _
 ·have e : (dec x.f3 ++ ⟨#[62]⟩ ++ dec x.f4).data.toList = (dec x.f3).data.toList ++ 62 :: (dec x.f4).data.toList := by simp
  rw [e]
  intro h
  rcases List.mem_append.1 h with h | h
  ·exact hdec _ h
  ·rcases List.mem_cons.1 h with h | h
   ·exact absurd h (by decide)
   ·exact hdec _ h
 ·by_cases h0 : x.f5 = []
  ·have e : commas (sealsS x.f5) = ⟨#[45]⟩ := by
    unfold sealsS
    rw [if_pos h0]
    unfold commas
    rw [List.map_cons, List.map_nil, join_one]
   rw [e]
   decide
  ·rw [seals_words h0, mkB_list]
   have hfree : ∀ (ws : List (List UInt8)), (∀ w ∈ ws, (32 : UInt8) ∉ w) → (32 : UInt8) ∉ Lib.join ws [44] := by
    intro ws
    induction ws with
    | nil => intro _ h; simp [Lib.join] at h
    | cons v r ih =>
     intro hv
     cases r with
     | nil => rw [join_one]; exact hv v (by simp)
     | cons u r =>
      rw [join_cons]
      intro h
      rcases List.mem_append.1 h with h | h
      ·rcases List.mem_append.1 h with h | h
       ·exact hv v (by simp) h
       ·exact absurd h (by decide)
      ·exact ih (fun w hw => hv w (by simp [hw])) h
   refine hfree _ ?_
   intro w hw
   rw [List.map_map] at hw
   obtain ⟨n, hn, rfl⟩ := List.mem_map.1 hw
   exact hdec n
theorem seal_shape (t : ByteArray) : ∃ u v : UInt8, u ≠ 32 ∧ v ≠ 32 ∧ (sealOf (t ++ ⟨#[32]⟩)).data.toList = t.data.toList ++ [32, u, v, 10] := by
 have hr := weight_range (t ++ ⟨#[32]⟩)
 unfold sealOf
 generalize weight (t ++ ⟨#[32]⟩) = q at hr
 refine ⟨UInt8.ofNat (97 + q / 26).toNat, UInt8.ofNat (97 + q % 26).toNat, ?_, ?_, ?_⟩
 ·intro h
  have h1 := congrArg UInt8.toNat h
  have h2 : (32 : UInt8).toNat = 32 := rfl
  rw [UInt8.toNat_ofNat', h2] at h1
  omega
 ·intro h
  have h1 := congrArg UInt8.toNat h
  have h2 : (32 : UInt8).toNat = 32 := rfl
  rw [UInt8.toNat_ofNat', h2] at h1
  omega
 ·simp [strOfNums]
theorem init_join {x : ByteArray} (h : (32 : UInt8) ∈ x.data.toList) : ∃ q : List UInt8, (32 : UInt8) ∉ q ∧ x.data.toList = (joined (initW x)).data.toList ++ 32 :: q ∧ wordsOf x = initW x ++ [mkB q] := by
 have hj := join_spl 32 x.data.toList
 have hlen := spl_len 32 x.data.toList
 have hc : 0 < x.data.toList.count 32 := List.count_pos_iff.2 h
 have hne : spl 32 x.data.toList ≠ [] := spl_ne 32 _
 have hcat := List.dropLast_concat_getLast hne
 have hfree := spl_free 32 x.data.toList ((spl 32 x.data.toList).getLast hne) (List.getLast_mem hne)
 have hdl : (spl 32 x.data.toList).dropLast ≠ [] := by
  intro e
  have := congrArg List.length e
  rw [List.length_dropLast, hlen] at this
  simp only [List.length_nil] at this
  omega
 generalize hq : (spl 32 x.data.toList).getLast hne = q at hcat hfree
 have hinit : initW x = ((spl 32 x.data.toList).dropLast).map mkB := by
  unfold initW
  rw [← List.dropLast_eq_take, words_mk, List.map_dropLast]
 have hjo : (joined (initW x)).data.toList = Lib.join (spl 32 x.data.toList).dropLast [32] := by
  rw [hinit]
  unfold joined
  have e : (((spl 32 x.data.toList).dropLast).map mkB).map (fun b : ByteArray => b.data.toList) = (spl 32 x.data.toList).dropLast := by
   rw [List.map_map]
   have : ((fun b : ByteArray => b.data.toList) ∘ mkB) = id := by funext l; exact mkB_list l
   rw [this, List.map_id]
  rw [e]
 refine ⟨q, hfree, ?_, ?_⟩
 ·rw [hjo]
  rw [← hcat, join_snoc _ _ _ hdl] at hj
  exact hj.symm.trans (by simp)
 ·rw [hinit, words_mk, ← hcat]
  simp
theorem formed_mem {x : ByteArray} (h : formed x = true) : (32 : UInt8) ∈ x.data.toList ∧ 3 ≤ x.size := by
 unfold formed at h
 simp only [Bool.and_eq_true, decide_eq_true_eq] at h
 obtain ⟨_, h3, h2⟩ := h
 have hb := bt_nat (s := x) (i := x.size - 3) (by omega)
 rw [hb] at h2
 refine ⟨?_, h3⟩
 have hm := List.getElem_mem (l := x.data.toList) (n := x.size - 3) (by rw [len_list]; omega)
 generalize x.data.toList[x.size - 3]'(by rw [len_list]; omega) = c at h2 hm
 have : c = 32 := by
  apply Classical.byContradiction
  intro hc
  exact b32 hc h2
 rw [← this]
 exact hm
theorem check_same {x : ByteArray} (h : formed x = true) : (sealOf (joined (initW x) ++ ⟨#[32]⟩) = x ++ ⟨#[10]⟩) ↔ (sealOf (x.extract 0 (x.size - 3) ++ ⟨#[32]⟩) = x ++ ⟨#[10]⟩) := by
 obtain ⟨hm, h3⟩ := formed_mem h
 obtain ⟨q, hq, hx, _⟩ := init_join hm
 have hlen := len_list x
 have hp' : (x.extract 0 (x.size - 3)).data.toList = x.data.toList.take (x.size - 3) := by
  rw [extract_list _ _ _ (by omega), List.drop_zero, Nat.sub_zero]
 have two : q.length = 2 → joined (initW x) = x.extract 0 (x.size - 3) := by
  intro h2
  apply ba_inj
  rw [hp']
  conv => rhs; rw [hx]
  have hl : x.size - 3 = (joined (initW x)).data.toList.length := by
   rw [← hlen, hx, List.length_append, List.length_cons, h2]
   omega
  rw [hl, List.take_left]
 constructor
 ·intro e
  obtain ⟨u, v, hu, hv, hs⟩ := seal_shape (joined (initW x))
  have e' := congrArg (fun b : ByteArray => b.data.toList) e
  try simp only at e'
  rw [hs, app_list, hx] at e'
  have hl := congrArg List.length e'
  simp only [List.length_append, List.length_cons, List.length_nil] at hl
  rw [← two (by omega)]
  exact e
 ·intro e
  obtain ⟨u, v, hu, hv, hs⟩ := seal_shape (x.extract 0 (x.size - 3))
  have e' := congrArg (fun b : ByteArray => b.data.toList) e
  try simp only at e'
  rw [hs, app_list] at e'
  have e2 : x.data.toList = (x.extract 0 (x.size - 3)).data.toList ++ [32, u, v] := by
   have : (x.extract 0 (x.size - 3)).data.toList ++ [32, u, v, 10] = ((x.extract 0 (x.size - 3)).data.toList ++ [32, u, v]) ++ [10] := by simp
   rw [this] at e'
   exact (List.append_cancel_right e').symm
  have hsp : spl 32 x.data.toList = spl 32 (x.extract 0 (x.size - 3)).data.toList ++ [[u, v]] := by
   rw [e2]
   show spl 32 ((x.extract 0 (x.size - 3)).data.toList ++ 32 :: [u, v]) = _
   rw [spl_app, spl_clean (p := [u, v]) (by simp; exact ⟨fun h => hu h.symm, fun h => hv h.symm⟩)]
  have hin : joined (initW x) = x.extract 0 (x.size - 3) := by
   apply ba_inj
   have hinit : initW x = (spl 32 (x.extract 0 (x.size - 3)).data.toList).map mkB := by
    unfold initW
    rw [← List.dropLast_eq_take, words_mk, hsp, List.map_append, List.map_cons, List.map_nil, List.dropLast_concat]
   rw [hinit]
   unfold joined
   have e : ((spl 32 (x.extract 0 (x.size - 3)).data.toList).map mkB).map (fun b : ByteArray => b.data.toList) = spl 32 (x.extract 0 (x.size - 3)).data.toList := by
    rw [List.map_map]
    have : ((fun b : ByteArray => b.data.toList) ∘ mkB) = id := by funext l; exact mkB_list l
    rw [this, List.map_id]
   rw [e, join_spl]
  rw [hin]
  exact e
theorem line_words {x : ByteArray} {y : S26} (hm : (32 : UInt8) ∈ x.data.toList) (e : billS y = x ++ ⟨#[10]⟩) : initW x = billWords y := by
 obtain ⟨q, hq, hx, _⟩ := init_join hm
 unfold billS at e
 obtain ⟨u, v, hu, hv, hs⟩ := seal_shape (joined (billWords y))
 have e' := congrArg (fun b : ByteArray => b.data.toList) e
 try simp only at e'
 rw [hs, app_list] at e'
 have e2 : x.data.toList = (joined (billWords y)).data.toList ++ [32, u, v] := by
  have : (joined (billWords y)).data.toList ++ [32, u, v, 10] = ((joined (billWords y)).data.toList ++ [32, u, v]) ++ [10] := by simp
  rw [this] at e'
  exact (List.append_cancel_right e').symm
 have hsp : spl 32 x.data.toList = spl 32 (joined (billWords y)).data.toList ++ [[u, v]] := by
  rw [e2]
  show spl 32 ((joined (billWords y)).data.toList ++ 32 :: [u, v]) = _
  rw [spl_app, spl_clean (p := [u, v]) (by simp; exact ⟨fun h => hu h.symm, fun h => hv h.symm⟩)]
 have hw : spl 32 (joined (billWords y)).data.toList = (billWords y).map (·.data.toList) := by
  unfold joined
  show spl 32 (Lib.join ((billWords y).map (·.data.toList)) [32]) = _
  exact spl_join (by simp [billWords]) words_free
 unfold initW
 rw [← List.dropLast_eq_take, words_mk, hsp, List.map_append, List.map_cons, List.map_nil, List.dropLast_concat, hw, map_mkB]
def refB (x : ByteArray) : S26 := match wordsOf x with | [a, b, c, d, e, _] => parR a b c d e | _ => z26
def lineR (x : ByteArray) : Int := if checkR x = 0 then (if isB (refB x) then (if billS (refB x) = x ++ ⟨#[10]⟩ then 0 else 4) else 4) else checkR x
theorem digR_bound : ∀ (f : Nat) (l : List UInt8) (n i : Nat), n < 10 ^ i → (digR f l n i).2 ≤ i + f ∧ (digR f l n i).1 < 10 ^ (i + f)
 | 0, l, n, i, h => by cases l <;> exact ⟨Nat.le_refl _, h⟩
 | f + 1, [], n, i, h => ⟨by show i ≤ i + (f + 1); omega, Nat.lt_of_lt_of_le h (Nat.pow_le_pow_right (by omega) (by omega))⟩
 | f + 1, c :: r, n, i, h => by
  rw [digR]
  by_cases hc : 48 ≤ c.toNat ∧ c.toNat ≤ 57
  ·rw [if_pos hc]
   have := digR_bound f r (n * 10 + (c.toNat - 48)) (i + 1) (by rw [Nat.pow_succ]; generalize 10 ^ i = P at h ⊢; omega)
   rw [show i + 1 + f = i + (f + 1) by omega] at this
   exact this
  ·rw [if_neg hc]
   exact ⟨by show i ≤ i + (f + 1); omega, Nat.lt_of_lt_of_le h (Nat.pow_le_pow_right (by omega) (by omega))⟩
theorem digR6 (l : List UInt8) : (digR 6 l 0 0).2 ≤ 6 ∧ (digR 6 l 0 0).1 < 1000000 := digR_bound 6 l 0 0 (by decide)
theorem sealsR_len : ∀ (f : Nat) (l : List UInt8), (sealsR f l).length ≤ f
 | 0, _ => Nat.le_refl 0
 | _ + 1, [] => Nat.zero_le _
 | f + 1, c :: r => by
  rw [sealsR, List.length_append]
  have := sealsR_len f ((c :: r).drop ((digR 6 (c :: r) 0 0).2 + 1))
  split <;> simp only [List.length_cons, List.length_nil] <;> omega
theorem refB_len (x : ByteArray) (hx : x.size ≤ 130000) : (refB x).f5.length ≤ 130001 := by
 have hws := words_size x
 unfold refB
 split
 ·rename_i a b c d e y h
  have he : e.size ≤ x.size := hws e (by rw [h]; simp)
  have := sealsR_len (e.size + 1) e.data.toList
  show (sealsR (e.size + 1) e.data.toList).length ≤ 130001
  omega
 ·exact Nat.zero_le _
def goR : List S26 → List ByteArray → List S26 × Int × Int
 | acc, [] => (acc, 0, 0)
 | acc, x :: r => if lineR x = 0 then (if after (lastF acc) (refB x).f0 then goR (acc ++ [refB x]) r else ([], (acc.length : Int), 6)) else ([], (acc.length : Int), lineR x)
theorem ev_j3 (X : List ByteArray) (acc : List S26) (b : Bool) (y : S26) (r : List S26 × Int × Int) (hacc : acc.length ≤ 1000000)
  (h1 : b = true → r = ([], (acc.length : Int), 4)) (h2 : b = false → after (lastF acc) y.f0 = false → r = ([], (acc.length : Int), 6))
  (h3 : b = false → after (lastF acc) y.f0 = true → Ev (fun k => rf_ReadBills.l0 k X (acc ++ [y]) ((acc.length + 1 : Nat) : Int)) r) :
  Ev (fun k => rf_ReadBills.j3 k X acc (acc.length : Int) b y.f0 y.f1 y.f2 y.f3 y.f4 y.f5) r := by
 cases b with
 | true =>
  rw [h1 rfl]
  exact Ev.step (f := fun _ => some _) (fun k => by simp only [rf_ReadBills.j3]; rw [if_pos trivial]) (Ev.now _)
 | false =>
  by_cases h0 : acc.length = 0
  ·have hnil : acc = [] := List.length_eq_zero_iff.1 h0
   have ha : after (lastF acc) y.f0 = true := by rw [hnil]; rfl
   refine Ev.step (fun k => ?_) (h3 rfl ha)
   simp only [rf_ReadBills.j3]
   rw [if_neg (by simp), if_neg (by omega), if_pos (by omega), wrap_nat (by omega)]
  ·obtain ⟨j, hj⟩ : ∃ j, acc.length = j + 1 := ⟨acc.length - 1, by omega⟩
   have hla := lastF_at hj
   have hw : wrap64 ((acc.length : Int) - 1) = (j : Int) := by unfold wrap64; omega
   by_cases hlt : (rd_T26 acc (j : Int)).f0 < y.f0
   ·have ha : after (lastF acc) y.f0 = true := by rw [hla]; exact decide_eq_true hlt
    refine Ev.step (fun k => ?_) (h3 rfl ha)
    simp only [rf_ReadBills.j3]
    rw [if_neg (by simp), if_pos (by omega), hw, if_pos (by omega), if_pos (by omega), if_neg (by omega), if_pos (by omega), wrap_nat (by omega)]
   ·have ha : after (lastF acc) y.f0 = false := by rw [hla]; exact decide_eq_false hlt
    rw [h2 rfl ha]
    refine Ev.step (f := fun _ => some _) (fun k => ?_) (Ev.now _)
    simp only [rf_ReadBills.j3]
    rw [if_neg (by simp), if_pos (by omega), hw, if_pos (by omega), if_pos (by omega), if_pos (by omega)]
theorem ev_j2 (X : List ByteArray) (acc : List S26) (y : S26) (x : ByteArray) (r : List S26 × Int × Int) (hacc : acc.length < X.length) (hX : X.length ≤ 1000000) (hx : X[acc.length] = x) (hxs : x.size ≤ 1000000) (hy : y.f5.length ≤ 1000000)
  (h1 : ¬ (isB y = true ∧ billS y = x ++ ⟨#[10]⟩) → r = ([], (acc.length : Int), 4))
  (h2 : isB y = true → billS y = x ++ ⟨#[10]⟩ → after (lastF acc) y.f0 = false → r = ([], (acc.length : Int), 6))
  (h3 : isB y = true → billS y = x ++ ⟨#[10]⟩ → after (lastF acc) y.f0 = true → Ev (fun k => rf_ReadBills.l0 k X (acc ++ [y]) ((acc.length + 1 : Nat) : Int)) r) :
  Ev (fun k => rf_ReadBills.j2 k X acc (acc.length : Int) y.f0 y.f1 y.f2 y.f3 y.f4 y.f5) r := by
 refine Ev.step (fun k => by simp only [rf_ReadBills.j2]; rfl) ?_
 refine Ev.bind (ev_bill y hy) ?_
 cases hb : isB y with
 | false =>
  simp only [Bool.false_eq_true, if_false]
  exact ev_j3 X acc true y r (by omega) (fun _ => h1 (fun h => by rw [hb] at h; exact absurd h.1 (by simp))) (fun h => by cases h) (fun h => by cases h)
 | true =>
  simp only [if_true]
  refine Ev.bind (ev_text y (small_of hb)) ?_
  have hrx : rdOf ByteArray.empty X (acc.length : Int) = x := by
   unfold rdOf
   rw [Int.toNat_natCast, List.getD_eq_getElem?_getD, List.getElem?_eq_getElem hacc, hx]
   rfl
  rw [hrx]
  refine Ev.congr (f := fun k => rf_ReadBills.j3 k X acc (acc.length : Int) ((billS y).toList != (x ++ ⟨#[10]⟩).toList) y.f0 y.f1 y.f2 y.f3 y.f4 y.f5) (fun k => ?_) ?_
  ·rw [if_pos (by omega), if_pos (by omega), if_pos (by omega)]
  ·by_cases he : billS y = x ++ ⟨#[10]⟩
   ·have hbe : ((billS y).toList != (x ++ ⟨#[10]⟩).toList) = false := by rw [he]; exact bne_self_eq_false _
    rw [hbe]
    exact ev_j3 X acc false y r (by omega) (fun h => by cases h) (fun _ => h2 hb he) (fun _ => h3 hb he)
   ·have hbe : ((billS y).toList != (x ++ ⟨#[10]⟩).toList) = true := bne_iff_ne.2 (fun h => he (toList_inj h))
    rw [hbe]
    exact ev_j3 X acc true y r (by omega) (fun _ => h1 (fun h => he h.2)) (fun h => by cases h) (fun h => by cases h)
theorem rd_words (a b c d e z : ByteArray) : rdOf ByteArray.empty [a, b, c, d, e, z] 0 = a ∧ rdOf ByteArray.empty [a, b, c, d, e, z] 1 = b ∧ rdOf ByteArray.empty [a, b, c, d, e, z] 2 = c ∧ rdOf ByteArray.empty [a, b, c, d, e, z] 3 = d ∧ rdOf ByteArray.empty [a, b, c, d, e, z] 4 = e := ⟨rfl, rfl, rfl, rfl, rfl⟩
theorem ev_l1 (X : List ByteArray) (acc : List S26) (i : Int) (a b c d e z : ByteArray) (he : e.size ≤ 1000000) (n0 n1 n2 n3 n4 : Int) (r : List S26 × Int × Int) :
  ∀ (f at_ : Nat) (ss : List Int), e.size < at_ + f → ss.length ≤ at_ → at_ ≤ 1000010 → Ev (fun k => rf_ReadBills.j2 k X acc i n0 n1 n2 n3 n4 (ss ++ sealsR f (e.data.toList.drop at_))) r →
   Ev (fun k => rf_ReadBills.l1 k X acc i [a, b, c, d, e, z] (at_ : Int) n0 n1 n2 n3 n4 ss) r := by
 obtain ⟨_, _, _, _, h4⟩ := rd_words a b c d e z
 have hl : ((([a, b, c, d, e, z] : List ByteArray).length : Nat) : Int) = 6 := rfl
 intro f
 induction f with
 | zero =>
  intro at_ ss hf hss hat hj
  have e0 : sealsR 0 (e.data.toList.drop at_) = [] := rfl
  rw [e0, List.append_nil] at hj
  refine Ev.step (fun k => ?_) hj
  simp only [rf_ReadBills.l1]
  rw [hl, if_pos (by decide), h4, if_neg (by omega)]
 | succ f ih =>
  intro at_ ss hf hss hat hj
  by_cases hlt : at_ < e.size
  ·have hne : e.data.toList.drop at_ ≠ [] := by
    intro h
    have := congrArg List.length h
    rw [List.length_drop, len_list] at this
    simp only [List.length_nil] at this
    omega
   have hx : (e.extract (at_ : Int).toNat e.size).data.toList = e.data.toList.drop at_ := by
    rw [Int.toNat_natCast, extract_list _ _ _ (Nat.le_refl _), List.take_of_length_le (by rw [List.length_drop, len_list]; omega)]
   have hd := ev_digits (e.extract (at_ : Int).toNat e.size)
   rw [hx] at hd
   obtain ⟨b1, b2⟩ := digR6 (e.data.toList.drop at_)
   have hdrop : (e.data.toList.drop at_).drop ((digR 6 (e.data.toList.drop at_) 0 0).2 + 1) = e.data.toList.drop (at_ + (digR 6 (e.data.toList.drop at_) 0 0).2 + 1) := by
    rw [List.drop_drop]
    congr 1
   have hs : sealsR (f + 1) (e.data.toList.drop at_) = (if 0 < (digR 6 (e.data.toList.drop at_) 0 0).2 then [((digR 6 (e.data.toList.drop at_) 0 0).1 : Int)] else []) ++ sealsR f (e.data.toList.drop (at_ + (digR 6 (e.data.toList.drop at_) 0 0).2 + 1)) := by
    rw [← hdrop]
    generalize e.data.toList.drop at_ = L at hne
    cases L with
    | nil => exact absurd rfl hne
    | cons c r => rfl
   rw [hs] at hj
   generalize digR 6 (e.data.toList.drop at_) 0 0 = p at hd b1 b2 hj
   obtain ⟨v, m⟩ := p
   simp only at hd b1 b2 hj
   have hw : wrap64 (wrap64 ((at_ : Int) + (m : Int)) + 1) = ((at_ + m + 1 : Nat) : Int) := by unfold wrap64; omega
   refine Ev.step (f := fun k => (rf_Digits.f k (e.extract (at_ : Int).toNat e.size)).bind fun bt => if bt.2 > 0 then (if ss.length < 17592186044416 then rf_ReadBills.l1 k X acc i [a, b, c, d, e, z] (wrap64 (wrap64 ((at_ : Int) + bt.2) + 1)) n0 n1 n2 n3 n4 (ss ++ [bt.1]) else none) else rf_ReadBills.l1 k X acc i [a, b, c, d, e, z] (wrap64 (wrap64 ((at_ : Int) + bt.2) + 1)) n0 n1 n2 n3 n4 ss) (fun k => ?_) ?_
   ·simp only [rf_ReadBills.l1]
    rw [hl, if_pos (by decide), h4, if_pos (by omega), if_pos (by omega), if_pos (by omega)]
   ·refine Ev.bind hd ?_
    simp only
    by_cases hm : 0 < m
    ·rw [if_pos hm] at hj
     refine Ev.congr (fun k => ?_) (ih (at_ + m + 1) (ss ++ [(v : Int)]) (by omega) (by rw [List.length_append, List.length_singleton]; omega) (by omega) (by rw [List.append_assoc]; exact hj))
     rw [if_pos (by omega), if_pos (by omega), hw]
    ·rw [if_neg hm, List.nil_append] at hj
     refine Ev.congr (fun k => ?_) (ih (at_ + m + 1) ss (by omega) (by omega) (by omega) hj)
     rw [if_neg (by omega), hw]
  ·have e0 : sealsR (f + 1) (e.data.toList.drop at_) = [] := by rw [List.drop_eq_nil_of_le (by rw [len_list]; omega)]; rfl
   rw [e0, List.append_nil] at hj
   refine Ev.step (fun k => ?_) hj
   simp only [rf_ReadBills.l1]
   rw [hl, if_pos (by decide), h4, if_neg (by omega)]
theorem ev_lines_loop (X : List ByteArray) (hX : X.length ≤ 1000000) (hXs : ∀ x ∈ X, x.size ≤ 130000) :
  ∀ (rest : List ByteArray) (acc : List S26), X.drop acc.length = rest → acc.length ≤ X.length → Ev (fun k => rf_ReadBills.l0 k X acc (acc.length : Int)) (goR acc rest) := by
 intro rest
 induction rest with
 | nil =>
  intro acc hd hle
  have hlen : X.length ≤ acc.length := List.drop_eq_nil_iff.1 hd
  refine Ev.step (f := fun _ => some _) (fun k => ?_) (Ev.now _)
  simp only [rf_ReadBills.l0]
  rw [if_neg (by omega)]
  rfl
 | cons x rest ih =>
  intro acc hd hle
  have hlt : acc.length < X.length := by
   apply Classical.byContradiction
   intro h
   rw [List.drop_eq_nil_of_le (by omega)] at hd
   cases hd
  have hx : X[acc.length] = x := by
   have := List.drop_eq_getElem_cons hlt
   rw [hd] at this
   exact (List.cons.inj this).1.symm
  have hrest : X.drop (acc.length + 1) = rest := by
   have := List.drop_eq_getElem_cons hlt
   rw [hd] at this
   exact (List.cons.inj this).2.symm
  have hrx : rdOf ByteArray.empty X (acc.length : Int) = x := by
   unfold rdOf
   rw [Int.toNat_natCast, List.getD_eq_getElem?_getD, List.getElem?_eq_getElem hlt, hx]
   rfl
  have hxs : x.size ≤ 130000 := hXs x (by rw [← hx]; exact List.getElem_mem hlt)
  rw [goR]
  refine Ev.step (f := fun k => (rf_Checked.f k x).bind fun t173 => _) (fun k => by
   simp only [rf_ReadBills.l0]
   rw [if_pos (by omega), if_pos (by omega), hrx]) ?_
  refine Ev.bind (ev_checked x (by omega)) ?_
  by_cases hc : checkR x = 0
  ·have hlr : lineR x = if isB (refB x) then (if billS (refB x) = x ++ ⟨#[10]⟩ then 0 else 4) else 4 := by unfold lineR; rw [if_pos hc]
   simp only [if_pos hc]
   refine Ev.bind (ev_words x (by omega)) ?_
   have tail : ∀ y : S26, y = refB x → Ev (fun k => rf_ReadBills.j2 k X acc (acc.length : Int) y.f0 y.f1 y.f2 y.f3 y.f4 y.f5) (if lineR x = 0 then (if after (lastF acc) (refB x).f0 then goR (acc ++ [refB x]) rest else ([], (acc.length : Int), 6)) else ([], (acc.length : Int), lineR x)) := by
    intro y hy
    have hyl : y.f5.length ≤ 1000000 := by rw [hy]; have := refB_len x hxs; omega
    rw [← hy] at hlr ⊢
    refine ev_j2 X acc y x _ hlt hX hx (by omega) hyl ?_ ?_ ?_
    ·intro h
     have e : lineR x = 4 := by
      rw [hlr]
      cases hb : isB y with
      | false => rfl
      | true =>
       rw [if_pos rfl, if_neg (fun he => h ⟨hb, he⟩)]
     rw [e]
     rfl
    ·intro hb he ha
     rw [hlr, hb, if_pos rfl, if_pos he, if_pos rfl, ha]
     rfl
    ·intro hb he ha
     rw [hlr, hb, if_pos rfl, if_pos he, if_pos rfl, ha, if_pos rfl]
     have := ih (acc ++ [y]) (by rw [List.length_append, List.length_singleton]; exact hrest) (by rw [List.length_append, List.length_singleton]; omega)
     rw [List.length_append, List.length_singleton] at this
     exact this
   have hws := words_size x
   by_cases h6 : ∃ a b c d e z, wordsOf x = [a, b, c, d, e, z]
   ·obtain ⟨a, b, c, d, e, z, hw⟩ := h6
    have href : refB x = parR a b c d e := by unfold refB; rw [hw]
    rw [hw] at hws ⊢
    obtain ⟨h0, h1, h2, h3, h4⟩ := rd_words a b c d e z
    have hl : ((([a, b, c, d, e, z] : List ByteArray).length : Nat) : Int) = 6 := rfl
    have hes := hws e (by simp)
    have hds := hws d (by simp)
    rw [hl]
    simp only [if_true, h0, h1, h2, h3]
    try rw [if_pos (show (0 : Int) < 6 by decide)]
    refine Ev.bind (ev_digits a) ?_
    simp only
    try rw [if_pos (show (1 : Int) < 6 by decide)]
    refine Ev.bind (ev_digits b) ?_
    simp only
    try rw [if_pos (show (2 : Int) < 6 by decide)]
    refine Ev.bind (ev_digits c) ?_
    simp only
    try rw [if_pos (show (3 : Int) < 6 by decide)]
    refine Ev.bind (ev_digits d) ?_
    simp only
    obtain ⟨b1, b2⟩ := digR6 d.data.toList
    have hmn : mn (wrap64 (((digR 6 d.data.toList 0 0).2 : Int) + 1)) (d.size : Int) = ((min ((digR 6 d.data.toList 0 0).2 + 1) d.size : Nat) : Int) := by
     rw [wrap_nat (by omega)]
     unfold mn
     split <;> omega
    have p1 : (0 : Int) ≤ ((min ((digR 6 d.data.toList 0 0).2 + 1) d.size : Nat) : Int) := Int.natCast_nonneg _
    have p2 : ((min ((digR 6 d.data.toList 0 0).2 + 1) d.size : Nat) : Int) ≤ (d.size : Int) := Int.ofNat_le.2 (Nat.min_le_right _ _)
    rw [hmn]
    simp only [if_pos p1, if_pos p2]
    have hx2 : (d.extract ((min ((digR 6 d.data.toList 0 0).2 + 1) d.size : Nat) : Int).toNat d.size).data.toList = d.data.toList.drop (min ((digR 6 d.data.toList 0 0).2 + 1) d.size) := by
     rw [Int.toNat_natCast, extract_list _ _ _ (Nat.le_refl _), List.take_of_length_le (by rw [List.length_drop, len_list]; omega)]
    have hd2 := ev_digits (d.extract ((min ((digR 6 d.data.toList 0 0).2 + 1) d.size : Nat) : Int).toNat d.size)
    rw [hx2] at hd2
    refine Ev.bind hd2 ?_
    simp only
    refine ev_l1 X acc (acc.length : Int) a b c d e z (by omega) _ _ _ _ _ _ (e.size + 1) 0 [] (by omega) (Nat.le_refl _) (by omega) ?_
    rw [List.nil_append, List.drop_zero]
    exact tail (parR a b c d e) href.symm
   ·have href : refB x = z26 := by
     unfold refB
     split
     ·rename_i a b c d e z hw
      exact absurd ⟨a, b, c, d, e, z, hw⟩ h6
     ·rfl
    have hl : ¬ (((wordsOf x).length : Int) = 6) := by
     intro h
     apply h6
     match hw : wordsOf x, h with
     | [a, b, c, d, e, z], _ => exact ⟨a, b, c, d, e, z, rfl⟩
     | [], h => simp at h
     | [_], h => simp at h
     | [_, _], h => simp at h
     | [_, _, _], h => simp at h
     | [_, _, _, _], h => simp at h
     | [_, _, _, _, _], h => simp at h
     | _ :: _ :: _ :: _ :: _ :: _ :: _ :: _, h => simp at h; omega
    simp only [if_neg hl]
    exact tail z26 href.symm
  ·have e : lineR x = checkR x := by unfold lineR; rw [if_neg hc]
   rw [e]
   simp only [if_neg hc]
   exact Ev.now _
theorem line_same (x : ByteArray) : (lineF x).2 = lineR x ∧ (lineR x = 0 → (lineF x).1 = refB x) := by
 unfold lineF lineR checkR
 by_cases hf : formed x = true
 ·rw [hf]
  simp only [if_true]
  have hcs := check_same hf
  by_cases hp : sealOf (joined (initW x) ++ ⟨#[32]⟩) = x ++ ⟨#[10]⟩
  ·have hr := hcs.1 hp
   rw [if_pos hp, if_pos hr]
   simp only [if_true]
   by_cases hy : ∃ y, isB y = true ∧ billS y = x ++ ⟨#[10]⟩
   ·obtain ⟨y, hb, he⟩ := hy
    obtain ⟨hm, h3⟩ := formed_mem hf
    have hw := line_words hm he
    obtain ⟨q, hq, hx, hwo⟩ := init_join hm
    have hP : readB (initW x) = y := by rw [hw]; exact read_P (small_of hb)
    have hR : refB x = y := by
     unfold refB
     rw [hwo, hw]
     exact read_R (small_of hb)
    rw [hP, hR, hb]
    refine ⟨?_, ?_⟩ <;> simp [he]
   ·have no : ∀ y, (if isB y = true then (if billS y = x ++ ⟨#[10]⟩ then (y, (0 : Int)) else (z26, 4)) else (z26, 4)) = (z26, 4) := by
     intro y
     by_cases h1 : isB y = true
     ·rw [if_pos h1, if_neg (fun h2 => hy ⟨y, h1, h2⟩)]
     ·rw [if_neg h1]
    have no' : ∀ y, (if isB y = true then (if billS y = x ++ ⟨#[10]⟩ then (0 : Int) else 4) else 4) = 4 := by
     intro y
     by_cases h1 : isB y = true
     ·rw [if_pos h1, if_neg (fun h2 => hy ⟨y, h1, h2⟩)]
     ·rw [if_neg h1]
    rw [no, no']
    exact ⟨rfl, fun h => absurd h (by simp)⟩
  ·have hr := fun h => hp (hcs.2 h)
   rw [if_neg hp, if_neg hr]
   exact ⟨rfl, fun h => absurd h (by simp)⟩
 ·have hf' : formed x = false := by simpa using hf
  rw [hf']
  exact ⟨rfl, fun h => absurd h (by simp)⟩
theorem go_same : ∀ (L : List ByteArray) (acc : List S26), goT acc L = goR acc (L.map trimN)
 | [], acc => rfl
 | x :: r, acc => by
  obtain ⟨h1, h2⟩ := line_same (trimN x)
  rw [List.map_cons, goT, goR, h1]
  by_cases h0 : lineR (trimN x) = 0
  ·rw [if_pos h0, if_pos h0, h2 h0, go_same r]
  ·rw [if_neg h0, if_neg h0]
theorem go_bound : ∀ (L : List ByteArray) (acc : List S26), (∀ x ∈ acc, x.f5.length ≤ 10) → (goR acc L).1.length ≤ acc.length + L.length ∧ ∀ x ∈ (goR acc L).1, x.f5.length ≤ 10
 | [], acc, h => ⟨Nat.le_refl _, h⟩
 | x :: r, acc, h => by
  rw [goR]
  have zero : (([] : List S26)).length ≤ acc.length + (x :: r).length ∧ ∀ x ∈ ([] : List S26), x.f5.length ≤ 10 := ⟨Nat.zero_le _, fun x hx => by simp at hx⟩
  by_cases h0 : lineR x = 0
  ·rw [if_pos h0]
   by_cases ha : after (lastF acc) (refB x).f0 = true
   ·rw [if_pos ha]
    have hb : isB (refB x) = true := by
     unfold lineR at h0
     by_cases hc : checkR x = 0
     ·rw [if_pos hc] at h0
      by_cases hb : isB (refB x) = true
      ·exact hb
      ·rw [if_neg hb] at h0; exact absurd h0 (by decide)
     ·rw [if_neg hc] at h0; exact absurd h0 hc
    have hlen := (small_of hb).len
    have := go_bound r (acc ++ [refB x]) (fun y hy => by
     rcases List.mem_append.1 hy with hy | hy
     ·exact h y hy
     ·rw [List.mem_singleton] at hy; subst hy; exact hlen)
    rw [List.length_append, List.length_singleton] at this
    exact ⟨by simp only [List.length_cons]; omega, this.2⟩
   ·rw [if_neg ha]; exact zero
  ·rw [if_neg h0]; exact zero
theorem things_bound (s : ByteArray) : (thingsF s).1.length ≤ s.size + 1 ∧ ∀ x ∈ (thingsF s).1, x.f5.length ≤ 10 := by
 have zero : (([] : List S26)).length ≤ s.size + 1 ∧ ∀ x ∈ ([] : List S26), x.f5.length ≤ 10 := ⟨Nat.zero_le _, fun x hx => by simp at hx⟩
 unfold thingsF
 split
 ·exact zero
 ·split
  ·exact zero
  ·split
   ·exact zero
   ·rw [go_same]
    have h := go_bound ((linesOf s).map trimN) [] (fun x hx => by simp at hx)
    have h2 := linesF_len (s.size + 1) s
    rw [List.length_map, List.length_nil] at h
    unfold linesOf at h ⊢
    exact ⟨by omega, h.2⟩
theorem trim_mk (p : List UInt8) : trimN (mkB (p ++ [10])) = mkB p := by
 unfold trimN
 rw [mkB_list]
 have e : Lib.trimSuffix (p ++ [10]) [10] = p := by
  unfold Lib.trimSuffix Lib.hasSuffix
  rw [if_pos (by simp)]
  simp
 rw [e]
 rfl
theorem lines_spl : ∀ (k : Nat) (s : ByteArray), s.size < k → (s.data.toList = [] ∨ s.data.toList.getLast? = some 10) → (linesF k s).map trimN = ((spl 10 s.data.toList).dropLast).map mkB
 | 0, s, h, _ => absurd h (Nat.not_lt_zero _)
 | k + 1, s, h, hl => by
  rw [linesF]
  by_cases h0 : s.size = 0
  ·have e : s.data.toList = [] := List.length_eq_zero_iff.1 (by rw [len_list]; exact h0)
   rw [if_pos h0, e]
   rfl
  ·rw [if_neg h0]
   have hne : s.data.toList ≠ [] := by
    intro e
    exact h0 (by rw [← len_list, e]; rfl)
   have hlast : s.data.toList.getLast? = some 10 := by rcases hl with h | h; exact absurd h hne; exact h
   have hmem : (10 : UInt8) ∈ s.data.toList := List.mem_of_getLast? hlast
   rcases index_cases s.data.toList 10 with hi | ⟨i, hi⟩
   ·exact absurd hmem (byte_none hi)
   ·have hlt := indexByte_lt hi
    obtain ⟨hs, hc⟩ := byte_split hi
    rw [hi, if_pos (by omega), Int.toNat_natCast]
    have hx : s.extract 0 (i + 1) = mkB (s.data.toList.take i ++ [10]) := by
     apply mkB_inj
     rw [extract_list _ _ _ (by omega), List.drop_zero, Nat.sub_zero]
     conv => lhs; rw [hs]
     have hl : (s.data.toList.take i).length = i := by rw [List.length_take, len_list]; omega
     have e : s.data.toList.take i ++ 10 :: s.data.toList.drop (i + 1) = (s.data.toList.take i ++ [10]) ++ s.data.toList.drop (i + 1) := by simp
     rw [e]
     exact List.take_left' (by rw [List.length_append, hl]; rfl)
    have hr : (s.extract (i + 1) s.size).data.toList = s.data.toList.drop (i + 1) := by
     rw [extract_list _ _ _ (Nat.le_refl _), List.take_of_length_le (by rw [List.length_drop, len_list]; omega)]
    have hrs : (s.extract (i + 1) s.size).size < k := by rw [ByteArray.size_extract]; omega
    have hrl : (s.extract (i + 1) s.size).data.toList = [] ∨ (s.extract (i + 1) s.size).data.toList.getLast? = some 10 := by
     rw [hr]
     by_cases hd : s.data.toList.drop (i + 1) = []
     ·exact .inl hd
     ·right
      rw [hs, List.getLast?_append, List.getLast?_cons] at hlast
      have : s.data.toList.drop (i + 1) ≠ [] := hd
      generalize s.data.toList.drop (i + 1) = R at hlast this
      cases R with
      | nil => exact absurd rfl this
      | cons c R =>
       simpa [List.getLast?_cons] using hlast
    rw [List.map_cons, hx, trim_mk, lines_spl k _ hrs hrl, hr]
    have hsp : spl 10 s.data.toList = s.data.toList.take i :: spl 10 (s.data.toList.drop (i + 1)) := by
     conv => lhs; rw [hs]
     exact spl_hit _ hc
    rw [hsp, List.dropLast_cons_of_ne_nil (spl_ne _ _), List.map_cons]
theorem suffix_last (l : List UInt8) (h : l ≠ []) : Lib.hasSuffix l [10] = decide (l.getLast? = some 10) := by
 have hc := List.dropLast_concat_getLast h
 generalize l.dropLast = p at hc
 generalize l.getLast h = c at hc
 rw [← hc]
 unfold Lib.hasSuffix
 by_cases h10 : c = 10
 ·subst h10; simp
 ·have e : List.isSuffixOf [10] (p ++ [c]) = false := by
   rw [Bool.eq_false_iff]
   intro hs
   rw [List.isSuffixOf_iff_suffix] at hs
   obtain ⟨t, ht⟩ := hs
   have := congrArg List.getLast? ht
   simp at this
   exact h10 this.symm
  rw [e]
  simp [h10]
theorem ev_read (s : ByteArray) (hs : s.size ≤ 130000) : Ev (fun k => rf_ReadBills.f k s) (thingsF s) := by
 unfold rf_ReadBills.f thingsF
 refine Ev.bind (ev_lines s (by omega)) ?_
 unfold linesR
 by_cases hbig : 120000 < s.size
 ·rw [if_pos hbig, if_pos hbig]
  exact Ev.congr (f := fun _ => some _) (fun k => if_neg (by simp)) (Ev.now _)
 ·rw [if_neg hbig, if_neg hbig]
  have hcond : (s.data.toList ≠ [] ∧ Lib.hasSuffix s.data.toList [10] = false) ↔ (s.data.toList ≠ [] ∧ s.data.toList.getLast? ≠ some 10) := by
   constructor
   ·rintro ⟨h1, h2⟩
    rw [suffix_last _ h1] at h2
    exact ⟨h1, of_decide_eq_false h2⟩
   ·rintro ⟨h1, h2⟩
    exact ⟨h1, by rw [suffix_last _ h1]; exact decide_eq_false h2⟩
  by_cases hend : s.data.toList ≠ [] ∧ s.data.toList.getLast? ≠ some 10
  ·rw [if_pos hend, if_pos (hcond.2 hend)]
   exact Ev.congr (f := fun _ => some _) (fun k => if_neg (by simp)) (Ev.now _)
  ·rw [if_neg hend, if_neg (fun h => hend (hcond.1 h))]
   unfold Lib.countByte
   by_cases hmany : 200 < s.data.toList.count 10
   ·rw [if_pos hmany, if_pos hmany]
    exact Ev.congr (f := fun _ => some _) (fun k => if_neg (by simp)) (Ev.now _)
   ·rw [if_neg hmany, if_neg hmany]
    have hl : s.data.toList = [] ∨ s.data.toList.getLast? = some 10 := by
     by_cases h1 : s.data.toList = []
     ·exact .inl h1
     ·right
      apply Classical.byContradiction
      intro h2
      exact hend ⟨h1, h2⟩
    have hL := lines_spl (s.size + 1) s (Nat.lt_succ_self _) hl
    unfold linesOf
    rw [go_same, hL]
    have hlen : (((spl 10 s.data.toList).dropLast).map mkB).length ≤ 200 := by
     rw [List.length_map, List.length_dropLast, spl_len]
     omega
    have hsz : ∀ x ∈ ((spl 10 s.data.toList).dropLast).map mkB, x.size ≤ 130000 := by
     intro x hx
     rw [← hL] at hx
     obtain ⟨y, hy, rfl⟩ := List.mem_map.1 hx
     have h1 := linesF_mem (s.size + 1) s y hy
     have h2 := trimN_size y
     omega
    simp only [if_true]
    exact ev_lines_loop _ (by omega) hsz _ [] rfl (Nat.zero_le _)
theorem ev_law (l : List S26) (s : ByteArray) : Ev (fun k => lw_LogsBills.f k l s) true := by
 have loop : l.length ≤ 210 → s.size ≤ 130000 → ∀ d i, i + d = l.length → (∀ j (h : j < l.length), j < i → l[j].f5.length ≤ 20) → Ev (fun k => lw_LogsBills.l0 k l s (i : Int)) true := by
  intro hl hs d
  induction d with
  | zero =>
   intro i hi hall
   have hseals : ∀ x ∈ l, x.f5.length ≤ 20 := by
    intro x hx
    obtain ⟨j, hj, rfl⟩ := List.getElem_of_mem hx
    exact hall j hj (by omega)
   have hs6 : ∀ x ∈ l, x.f5.length ≤ 1000000 := fun x hx => by have := hseals x hx; omega
   have hw : logs_WriteBills.f l = some (writeF l) := by
    unfold logs_WriteBills.f
    rw [if_pos (List.all_eq_true.2 fun x hx => decide_eq_true (hs6 x hx))]
   have hr : logs_ReadBills.f s = some (thingsF s) := by
    unfold logs_ReadBills.f
    rw [if_pos (by omega)]
   have hk : lw_known.f = some true := rfl
   refine Ev.step (fun k => by
    simp only [lw_LogsBills.l0]
    rw [if_neg (by omega)]) ?_
   refine Ev.bind (ev_bills l (by omega) hs6) ?_
   simp only [hw, hr, Option.bind_some]
   refine Ev.bind (ev_write l (by omega) hs6) ?_
   refine Ev.bind (ev_read s (by omega)) ?_
   refine Ev.bind (ev_same l (by omega) (fun x hx => by have := hseals x hx; omega)) ?_
   simp only [if_true]
   obtain ⟨b1, b2⟩ := things_bound s
   refine Ev.bind (ev_same (thingsF s).1 (by omega) (fun x hx => by have := b2 x hx; omega)) ?_
   simp only [if_true]
   rw [hk]
   exact Ev.now true
  | succ d ih =>
   intro i hi hall
   have hlt : i < l.length := by omega
   have hrd := rdT_nat l hlt
   by_cases h20 : l[i].f5.length ≤ 20
   ·refine Ev.step (fun k => ?_) (ih (i + 1) (by omega) (fun j hj hji => by
     by_cases h : j = i
     ·subst h; exact h20
     ·exact hall j hj (by omega)))
    simp only [lw_LogsBills.l0]
    rw [if_pos (by omega), if_pos (by omega), hrd, if_neg (by omega), wrap_nat (by omega)]
   ·refine Ev.step (f := fun _ => some true) (fun k => ?_) (Ev.now _)
    simp only [lw_LogsBills.l0]
    rw [if_pos (by omega), if_pos (by omega), hrd, if_pos (by omega)]
    rfl
 have hk : lw_known.f = some true := rfl
 have hj : ∀ b : Bool, (b = false → l.length ≤ 210 ∧ s.size ≤ 130000) → Ev (fun k => lw_LogsBills.j0 k l s b) true := by
  intro b hb
  cases b with
  | true =>
   refine Ev.step (f := fun _ => some true) (fun k => ?_) (Ev.now _)
   simp only [lw_LogsBills.j0]
   rw [if_pos trivial]
   rfl
  | false =>
   obtain ⟨h1, h2⟩ := hb rfl
   refine Ev.step (fun k => ?_) (loop h1 h2 l.length 0 (by omega) (fun j _ hj => absurd hj (Nat.not_lt_zero j)))
   simp only [lw_LogsBills.j0]
   rw [if_neg (by simp)]
   rfl
 have hs : l.length ≤ 210 → Ev (fun k => if (s.size : Int) > 3000 then (if (s.size : Int) ≤ 120000 then lw_LogsBills.j0 k l s true else lw_LogsBills.j0 k l s (decide ((s.size : Int) > 120100))) else lw_LogsBills.j0 k l s (decide ((s.size : Int) > 120100))) true := by
  intro hl
  by_cases h1 : (s.size : Int) > 3000
  ·simp only [if_pos h1]
   by_cases h2 : (s.size : Int) ≤ 120000
   ·simp only [if_pos h2]
    exact hj true (fun h => by cases h)
   ·simp only [if_neg h2]
    exact hj _ (fun h => by have := of_decide_eq_false h; omega)
  ·simp only [if_neg h1]
   exact hj _ (fun h => by have := of_decide_eq_false h; omega)
 unfold lw_LogsBills.f
 by_cases h30 : (l.length : Int) > 30
 ·simp only [if_pos h30]
  by_cases h200 : (l.length : Int) ≤ 200
  ·simp only [if_pos h200]
   exact hj true (fun h => by cases h)
  ·simp only [if_neg h200]
   by_cases h210 : (l.length : Int) > 210
   ·simp only [if_pos h210]
    exact hj true (fun h => by cases h)
   ·simp only [if_neg h210]
    exact hs (by omega)
 ·simp only [if_neg h30]
  by_cases h210 : (l.length : Int) > 210
  ·simp only [if_pos h210]
   exact hj true (fun h => by cases h)
  ·simp only [if_neg h210]
   exact hs (by omega)
theorem law_true (l : List S26) (s : ByteArray) : ∃ k, lw_LogsBills.f k l s = some true := Ev.rounds (ev_law l s)
end Go.Proofs.Lg
namespace Go.Proofs.YtdomcbebbhbdlaaGreatDoor.LogsBillsRow
open Go.ChangeShapes Go.WideShapes Go.ChangeAt Go.RowKit Go.Proofs.YtdomcbebbhbdlaaGreatDoorW.PrintWords Go.Proofs.YtdomcbebbhbdlaaGreatDoor.PLogsBills
open Go.ChangeMaps (open_string shut_string)
theorem own : ownKnob Tryz.prog.godebug = none := by kernel_rfl
theorem laidOut : laidOutB Tryz.prog = true := by kernel_rfl
theorem cells3 : Tryz.prog.cellsOf 3 = 1 := by kernel_rfl
theorem cells24 : Tryz.prog.cellsOf 24 = 1 := by kernel_rfl
theorem cells26 : Tryz.prog.cellsOf 26 = 6 := by kernel_rfl
theorem g64 : Tryz.prog.globalNamed "math/bits.deBruijn64tab" = some 7 := by kernel_rfl
theorem gTab : Tryz.prog.globalNamed "internal/strconv.uint64pow10" = some 5 := by kernel_rfl
theorem gSyn : Tryz.prog.globalNamed "strconv.ErrSyntax" = some 1 := by kernel_rfl
theorem gRng : Tryz.prog.globalNamed "strconv.ErrRange" = some 2 := by kernel_rfl
theorem plainLaid : (Rows.logsBillsRow.laid.all fun x => x.2.handleName?.isNone) = true := by kernel_rfl
theorem cells_iface {W : World} {fuel : Nat} {t : TypeId} {ms : Array (String × TypeId)} {cs : List Value} {nm : String} {d : DataW Unit} {p : List MemPlace} (hi : Tryz.prog.underlying t = some (.interface ms))
  (h : DataW.trod (fun _ => ()) Tryz.prog W 0 (fun _ => true) false fuel t cs = some (.iface nm d, p)) : ∃ u v, cs = [.iface u v] := by
 obtain ⟨f1, u, v, rfl, _, _⟩ := iface_of_trod hi h
 exact ⟨u, v, rfl⟩
theorem tTab : (Tryz.prog.globals[5]?).map (·.type) = some 212 := by kernel_rfl
theorem tSyn : (Tryz.prog.globals[1]?).map (·.type) = some 107 := by kernel_rfl
theorem tRng : (Tryz.prog.globals[2]?).map (·.type) = some 107 := by kernel_rfl
theorem cElem : Tryz.prog.cellsOf 156 = 1 := by kernel_rfl
theorem cTab : Tryz.prog.cellsOf 212 = 20 := by kernel_rfl
theorem sent_cell {W : World} {n : String} {g : Nat} {t : TypeId} {ms : Array (String × TypeId)} {nm : String} {d : DataW Unit} (hg : Tryz.prog.globalNamed n = some g) (ht : (Tryz.prog.globals[g]?).map (·.type) = some t) (hi : Tryz.prog.underlying t = some (.interface ms))
  (h : Lib.VarReads Tryz.prog W n (.iface nm d)) : ∃ u v, W.cell? ⟨g, 0, none⟩ = some (.iface u v) := by
 obtain ⟨g', t', cs, fuel, p, hg', ht', hv, hd⟩ := h
 obtain rfl := Option.some.inj (hg.symm.trans hg')
 obtain rfl := Option.some.inj (ht.symm.trans ht')
 obtain ⟨u, v, hcs⟩ := cells_iface hi hd
 refine ⟨u, v, ?_⟩
 rw [World.var?_cell hg hv 0]
 have : cs = #[.iface u v] := Array.toList_inj.1 (by rw [hcs])
 rw [this]
 rfl
theorem tab_is {W : World} (h : Lib.VarReads Tryz.prog W "internal/strconv.uint64pow10" Rows.laid_internal_strconv_uint64pow10) : Lib.TabIs Tryz.prog W "internal/strconv.uint64pow10" .u64 Lib.pow10Tab := by
 obtain ⟨g', t', cs, fuel, p, hg', ht', hv, hd⟩ := h
 obtain rfl := Option.some.inj (gTab.symm.trans hg')
 obtain rfl := Option.some.inj (tTab.symm.trans ht')
 have e : (Rows.laid_internal_strconv_uint64pow10 : DataW Unit) = Lib.tabData .u64 Lib.pow10Tab := rfl
 rw [e] at hd
 have hc := Lib.cells_of_tab Tryz.underlying212 Tryz.underlying156 cElem cTab hd
 unfold Lib.TabIs
 rw [hv]
 congr 1
 apply Array.toList_inj.1
 rw [hc]
theorem base_of {W : World} (hL : laidMetH Tryz.prog Rows.logsBillsRow.laid W) (hsh : W.ShapedOpen Tryz.prog) : Base W := by
 rw [MakeChecks.laidMetH_plain _ _ _ plainLaid] at hL
 have hsyn := Lib.laidMet.reads hL (n := "strconv.ErrSyntax") (d := Rows.laid_strconv_ErrSyntax) (by simp [Rows.logsBillsRow])
 have hrng := Lib.laidMet.reads hL (n := "strconv.ErrRange") (d := Rows.laid_strconv_ErrRange) (by simp [Rows.logsBillsRow])
 have htab := Lib.laidMet.reads hL (n := "internal/strconv.uint64pow10") (d := Rows.laid_internal_strconv_uint64pow10) (by simp [Rows.logsBillsRow])
 refine ⟨?_, Tryz.laysM143.s1_3 W hsh, sent_cell gSyn tSyn Tryz.underlying107 hsyn, sent_cell gRng tRng Tryz.underlying107 hrng, tab_is htab⟩
 have h64 := Lib.laidMet.reads hL (n := "math/bits.deBruijn64tab") (d := Rows.laid_math_bits_deBruijn64tab) (by simp [Rows.logsBillsRow])
 obtain ⟨g', t', cs, fuel, p, hg', ht', hv, hd⟩ := h64
 unfold World.var? at hv
 rw [g64, Option.bind_some] at hv
 cases hh : W.heap[7]? with
 | none => rw [hh] at hv; cases hv
 | some o =>
  have := (Array.getElem?_eq_some_iff.1 hh).1
  omega
section
variable {H : Type} {enc : TypeId × Value → H} {W : World} {sp : Nat → Bool} {held : Bool}
theorem ints_in {fuel : Nat} {cs : List Value} {x : DataW H × List MemPlace} (h : DataW.trod enc Tryz.prog W 0 sp held fuel 24 cs = some x) :
  ∃ A c l, cs = [.slice A (l : List Int).length c] ∧ l.length ≤ c ∧ (Kd.int .i64).C W A l.length l := by
 rcases open_ints Tryz.underlying24 Tryz.underlying3 cells3 h with ⟨rfl, _⟩ | ⟨a, len, cap, zs, rfl, _, hl, hm, hz, _, hcell, _⟩
 ·exact ⟨none, 0, [], rfl, Nat.le_refl _, Kd.C_nil _ _⟩
 ·have hlen : len ≤ zs.length := by rw [hz]; split <;> omega
  have hmin : (zs.take len).length = len := by rw [List.length_take]; omega
  unfold maxLen at hm
  refine ⟨some a, cap, zs.take len, by rw [hmin], by rw [hmin]; exact hl, ?_⟩
  refine Kd.C_of_reads (enc := Value.int .i64) (d := (0 : Int)) (h1 := fun _ => rfl) ⟨rfl, by rw [hmin]; omega, fun _ => ⟨a, rfl, fun j hj => ?_⟩⟩
  rw [hmin] at hj
  rw [hcell j (by omega)]
  have e : (zs.take len).getD j 0 = zs.getD j 0 := by
   rw [List.getD_eq_getElem?_getD, List.getD_eq_getElem?_getD, List.getElem?_take, if_pos hj]
  rw [e]
theorem six {α : Type} : ∀ {l : List α}, l.length = 6 → ∃ a b c d e f, l = [a, b, c, d, e, f]
 | [a, b, c, d, e, f], _ => ⟨a, b, c, d, e, f, rfl⟩
theorem bill_in {fuel : Nat} {cs : List Value} {x : DataW H × List MemPlace} (h : DataW.trod enc Tryz.prog W 0 sp held fuel 26 cs = some x) : ∃ y : S26, k26.K W y cs := by
 obtain ⟨xs, n, _, rfl, hl, hlen, hf⟩ := DataW.trod_struct Tryz.underlying26 h
 rw [cells26] at hl
 obtain ⟨v0, v1, v2, v3, v4, v5, rfl⟩ := six hl
 obtain ⟨y0, y1, y2, y3, y4, y5, rfl⟩ := six hlen
 have h0 : DataW.trod enc Tryz.prog W 0 sp held n 3 [v0] = some y0 := by
  have h := hf 0 _ rfl
  simpa [cells3] using h
 have h1 : DataW.trod enc Tryz.prog W 0 sp held n 3 [v1] = some y1 := by
  have h := hf 1 _ rfl
  simpa [cells3] using h
 have h2 : DataW.trod enc Tryz.prog W 0 sp held n 3 [v2] = some y2 := by
  have h := hf 2 _ rfl
  simpa [cells3] using h
 have h3 : DataW.trod enc Tryz.prog W 0 sp held n 3 [v3] = some y3 := by
  have h := hf 3 _ rfl
  simpa [cells3] using h
 have h4 : DataW.trod enc Tryz.prog W 0 sp held n 3 [v4] = some y4 := by
  have h := hf 4 _ rfl
  simpa [cells3] using h
 have h5 : DataW.trod enc Tryz.prog W 0 sp held n 24 [v5] = some y5 := by
  have h := hf 5 _ rfl
  simpa [cells24] using h
 obtain ⟨n0, e0, _, _⟩ := DataW.trod_int Tryz.underlying3 h0
 obtain ⟨n1, e1, _, _⟩ := DataW.trod_int Tryz.underlying3 h1
 obtain ⟨n2, e2, _, _⟩ := DataW.trod_int Tryz.underlying3 h2
 obtain ⟨n3, e3, _, _⟩ := DataW.trod_int Tryz.underlying3 h3
 obtain ⟨n4, e4, _, _⟩ := DataW.trod_int Tryz.underlying3 h4
 obtain ⟨A, c, l, e5, hc, hC⟩ := ints_in h5
 simp only [List.cons.injEq, and_true] at e0 e1 e2 e3 e4 e5
 subst e0 e1 e2 e3 e4 e5
 exact ⟨⟨n0, n1, n2, n3, n4, l⟩, k26_mk W ⟨n0, n1, n2, n3, n4, l⟩ hc hC⟩
theorem bills_in {fuel : Nat} {cs : List Value} {x : DataW H × List MemPlace} (h : DataW.trod enc Tryz.prog W 0 sp held fuel 22 cs = some x) :
  ∃ A c l, cs = [.slice A (l : List S26).length c] ∧ l.length ≤ c ∧ Kd.C k26 W A l.length l := by
 rcases Go.Deep.open_slice Tryz.underlying22 h with ⟨rfl, _⟩ | ⟨a, len, cap, m, n, D, Pl, rfl, _, hl, hm, hmm, _, hx⟩
 ·exact ⟨none, 0, [], rfl, Nat.le_refl _, Kd.C_nil _ _⟩
 ·have hlm : len ≤ m := by rw [hmm]; split <;> omega
  unfold maxLen at hm
  rw [cells26] at hx
  have key : ∀ k, k ≤ len → ∃ l : List S26, l.length = k ∧ ∀ j p, l[j]? = some p → ∃ c : List Value, c.length = 6 ∧ k26.K W p c ∧ ∀ i u, c[i]? = some u → W.cell? (a.add (j * 6 + i)) = some u := by
   intro k
   induction k with
   | zero => exact fun _ => ⟨[], rfl, fun j p hj => by simp at hj⟩
   | succ k ih =>
    intro hk
    obtain ⟨l, hlen, hall⟩ := ih (by omega)
    obtain ⟨cs', hcells, htrod⟩ := hx k (by omega)
    obtain ⟨y, hy⟩ := bill_in htrod
    obtain ⟨_, hclen, hcell⟩ := World.cells?_some hcells
    refine ⟨l ++ [y], by rw [List.length_append, hlen]; rfl, fun j p hj => ?_⟩
    by_cases hjk : j < k
    ·rw [List.getElem?_append_left (by omega)] at hj
     exact hall j p hj
    ·rw [List.getElem?_append_right (by omega)] at hj
     have hj0 : j = k := by
      have := (List.getElem?_eq_some_iff.1 hj).1
      simp only [List.length_singleton] at this
      omega
     subst hj0
     rw [hlen, Nat.sub_self] at hj
     obtain rfl := Option.some.inj hj
     refine ⟨cs', hclen, hy, fun i u hu => ?_⟩
     have hi : i < 6 := by have := (List.getElem?_eq_some_iff.1 hu).1; omega
     have h1 := (hcell i hi).trans hu
     have e : a.add (j * 6 + i) = (a.add (j * 6)).add i := by
      unfold Addr.add
      by_cases hj6 : j * 6 = 0 <;> by_cases hi0 : i = 0 <;> simp [hj6, hi0, Nat.add_assoc]
     rw [e]
     exact h1
  obtain ⟨l, hlen, hall⟩ := key len (Nat.le_refl _)
  refine ⟨some a, cap, l, by rw [hlen], by omega, ⟨rfl, by omega, fun _ => ⟨a, rfl, hall⟩⟩⟩
end
theorem reads (os : Os) {H : Type} (enc : TypeId × Value → H) : ∃ places, DataW.whole enc Tryz.prog ((World.laidAll Tryz.prog os Rows.logsBillsRow.laid).forCall (fun _ _ => 0) ⟨#[], #[.slice none 0 0, .string ByteArray.empty], []⟩).memory Tryz.f3.params.toList Rows.logsBillsSpec.vars false #[Value.slice none 0 0, Value.string ByteArray.empty].toList 8 = some ([.nil, .lit (.string [])], [], places) :=
 ⟨[], by kernel_rfl⟩
set_option maxRecDepth 100000 in
set_option maxHeartbeats 2000000 in
theorem lifted (os : Os) (started : os.Started) (H : Type) (enc : TypeId × Value → H) (F : Stop.Interp) :
  ReturnsInHanded {} Tryz.checked os 3 .any ((OpenSpec.ofChange Rows.logsBillsSpec).preRow enc Tryz.prog Tryz.f3 Rows.logsBillsRow.domain false Rows.logsBillsRow.laid) (((OpenSpec.ofChange Rows.logsBillsSpec).at F).post enc Tryz.prog Tryz.f3 false true false false) := by
 obtain ⟨places, hx⟩ := reads os enc
 refine returnsInHanded_of_row (C := Tryz.checked) (s := OpenSpec.ofChange Rows.logsBillsSpec) own started (by kernel_rfl) Tryz.func3
  (witness_row_at (enc := enc) (C := Tryz.checked) false (World.laidAll Tryz.prog os Rows.logsBillsRow.laid) #[.slice none 0 0, .string ByteArray.empty] (World.laidAll_os _ _ _) (by kernel_rfl) (by kernel_rfl) (by kernel_rfl)
   (OpenSpec.preRow_of_cond 8 hx (by kernel_rfl) (fun k hk => by cases hk) (by kernel_rfl) (laidMet_laidAll _ (by kernel_rfl) (by kernel_rfl)))) ?_
 intro W base args ds gs before hval0 hW hcnd _ hsz0 hL hsh _
 have hval : ∀ (j : Nat) t v, Tryz.f3.params[j]? = some t → args[j]? = some v → Value.okWide Tryz.prog W .any base t v := hval0
 have hbase := base_of hL hsh
 have hW' := hW
 obtain ⟨p, q, hA0, hV, rfl, hfz, hnd⟩ := hW
 have hA : DataW.TrodAll enc Tryz.prog W 0 (fun _ => true) true Tryz.f3.params.toList args.toList ds p := hA0
 rw [Tryz.params3] at hA hval
 obtain ⟨v0, vs0, d0, ds0, p0, q0, hargs, rfl, rfl, h0, r0⟩ := trodAll_cons hA
 obtain ⟨v1, vs1, d1, ds1, p1, q1, rfl, rfl, rfl, h1, r1⟩ := trodAll_cons r0
 obtain ⟨rfl, rfl, rfl⟩ := trodAll_nil r1
 obtain rfl : args = #[v0, v1] := by cases args; simp_all
 obtain ⟨rfl, rfl⟩ := trodVars_none hV
 obtain ⟨a0, len0, cap0, rfl⟩ := okWide_slice Tryz.underlying22 (hval 0 22 v0 rfl rfl)
 have k0 := h0
 have lt0 : ∀ x ∈ p0, x.block < W.heap.size := by obtain ⟨m, hm⟩ := k0; exact DataW.trod_lt m _ _ _ hm
 obtain ⟨A, c, l, e0, hc0, hC0⟩ : ∃ A c l, [Value.slice a0 len0 cap0] = [.slice A (l : List S26).length c] ∧ l.length ≤ c ∧ Kd.C k26 W A l.length l := by
  obtain ⟨fuel, hf⟩ := h0
  exact bills_in hf
 simp only [List.cons.injEq, Value.slice.injEq, and_true] at e0
 obtain ⟨rfl, rfl, rfl⟩ := e0
 obtain ⟨a1, rfl, rfl, rfl, y1⟩ := open_string Tryz.underlying9 (hval 1 9 v1 rfl rfl) h1
 obtain ⟨k, hk⟩ := Go.Proofs.Lg.law_true l a1
 refine (lw_LogsBills.calls k _ _ l a1 true W hbase hC0 hc0 hk rfl).mono fun e W' ⟨he, bel⟩ => ?_
 subst he
 exact ⟨_, rfl, _, _, _, [], _, [], hW', trodAll_mk1 (shut_bool Tryz.underlying4 _), (trodAll_cons_mk (Below.trod laidOut (by kernel_rfl) (of_decide_eq_true (by kernel_rfl)) k0 bel lt0) (trodAll_cons_mk (shut_string Tryz.underlying9 y1) trodAll_mk0)), rfl, bel.frame _, fun h => by cases h⟩
theorem said : Rows.LogsBillsSaid :=
 OpenClaim.holds_of_cond 3 Tryz.f3 rfl rfl rfl rfl rfl rfl rfl ⟨rfl, rfl, rfl, rfl, rfl⟩ rfl rfl rfl rfl rfl (by kernel_rfl) Tryz.func3 (by kernel_rfl)
  (of_decide_eq_true (by kernel_rfl)) (by unfold Func.isWrapper; first | (rw [if_pos (by decide +kernel)]; kernel_rfl) | (rw [if_neg (by decide +kernel)]; exact ⟨rfl, rfl⟩))
  (fun os started H enc _ F => by rw [OpenClaim.pre_eq_preRow]; exact lifted os started H enc F)
theorem plain (f : FuncId) (fn : Func) (hf : Tryz.pinned.checked.prog.funcNamed "thalweg/thalweglaw12.LogsBills" = some f) (hfn : Tryz.pinned.checked.prog.funcs[f]? = some fn) :
  true = Tryz.pinned.checked.prog.looks [] ∧ ∀ (j : Nat) t, fn.params[j]? = some t → Tryz.pinned.checked.prog.wantsStandIn t = false := by
 obtain rfl : f = 3 := Option.some.inj ((show Tryz.prog.funcNamed "thalweg/thalweglaw12.LogsBills" = some 3 by kernel_rfl).symm.trans hf) |>.symm
 obtain rfl : fn = Tryz.f3 := (Option.some.inj (Tryz.func3.symm.trans hfn)).symm
 refine ⟨by kernel_rfl, fun j t ht => ?_⟩
 rw [Tryz.params3] at ht
 have hm : t ∈ [22, 9] := by simpa using Array.mem_of_getElem? ht
 have hall : ([22, 9].all fun u => !Tryz.prog.wantsStandIn u) = true := by kernel_rfl
 exact (show Tryz.prog.wantsStandIn t = false by simpa using List.all_eq_true.1 hall t hm)
theorem card : Rows.LogsBillsCardSaid :=
 Claim7.holds_tied_plain_at .later [] _ _ _ _ said (fun _ h => by cases h) (by kernel_rfl) (fun _ h => by cases h) logsBills_row_tie rfl ⟨rfl, rfl⟩ (by kernel_rfl) rfl plain (by kernel_rfl)
end Go.Proofs.YtdomcbebbhbdlaaGreatDoor.LogsBillsRow
namespace Go.Proofs.YtdomcbebbhbdlaaGreatDoor
theorem logsBills_card : Rows.LogsBillsCardSaid := LogsBillsRow.card
end Go.Proofs.YtdomcbebbhbdlaaGreatDoor
