/- The law of gauge lines: for every input it returns true and leaves its arguments as they were. Conditions: the tables and sentinels that the card lists and ties. -/
import Derived.Test.YtdomcbebbhbdlaaGreatDoorGf
import Derived.Test.YtdomcbebbhbdlaaGreatDoorGg
import Derived.Test.YtdomcbebbhbdlaaGreatDoorGi
import Derived.Test.YtdomcbebbhbdlaaGreatDoorGj
import Derived.Test.YtdomcbebbhbdlaaGreatDoorGk
import Derived.Test.YtdomcbebbhbdlaaGreatDoorGh
import Derived.Test.YtdomcbebbhbdlaaGreatDoorCards
import Derived.Test.YtdomcbebbhbdlaaGreatDoorTie
import Derived.WalkKit
import Derived.ProofKit
import Derived.OpenShut
import Derived.ShutString
import Derived.ChangeOld
import Derived.SizedLaws
import Derived.Deep.DeepHandedRow
import Derived.Deep.Slices
import Derived.Lib.LaidTab
import Derived.Lib.LaidU8
import Derived.Shelf.Vars
import Derived.Lay
import Derived.MakeChecks
set_option linter.unusedSimpArgs false
set_option linter.unusedVariables false
namespace Go.Proofs.YtdomcbebbhbdlaaGreatDoor.PLogsGauges
open Go.RowKit Go.Proofs.YtdomcbebbhbdlaaGreatDoorW.PrintWords Go.Proofs.YtdomcbebbhbdlaaGreatDoorW.PrintLast Go.Proofs.YtdomcbebbhbdlaaGreatDoorW.PrintMore Go.Proofs.YtdomcbebbhbdlaaGreatDoor.PLogsBills
attribute [local go_sem] max2_int min2_int max_two min_two max_three min_three max_four min_four
mutual
def lw_LogsGauges.j0:Nat → List (S37) → ByteArray → Bool → Option (Bool)
 | 0,_,_,_=>none
 | k + 1,x0,x1,x44=>if x44=true then ((lw_known.f).bind fun t237=>(some t237)) else (lw_LogsGauges.l0 k x0 x1 0)
def lw_LogsGauges.l0:Nat → List (S37) → ByteArray → Int → Option (Bool)
 | 0,_,_,_=>none
 | k + 1,x0,x1,x5=>if x5 < (x0.length:Int) then (if 0 ≤ x5 then (if (((rd_T37 x0 x5).f2).length:Int) > 40 then ((lw_known.f).bind fun t239=>(some t239)) else (lw_LogsGauges.l0 k x0 x1 (wrap64 (x5 + 1)))) else (none)) else ((lw_gauges.f k x0).bind fun t240=>((logs_WriteGauge.f t240).bind fun bt243=>((logs_ReadGauge.f x1).bind fun bt245=>((rf_WriteGauge.f k x0).bind fun bt250=>((rf_ReadGauge.f k x1).bind fun bt252=>((lw_sameGauges.f k t240 x0).bind fun t257=>(if t257=true then (if bt243.2=bt250.2 then (if bt243.1.toList=bt250.1.toList then (if bt245.2.2=bt252.2.2 then (if bt245.2.1=bt252.2.1 then ((lw_sameGauges.f k bt245.1 bt252.1).bind fun t258=>(if t258=true then ((lw_known.f).bind fun t259=>(some t259)) else (some false))) else (some false)) else (some false)) else (some false)) else (some false)) else (some false))))))))
end
def lw_LogsGauges.f (k:Nat) (l0:List (S37)) (a1:ByteArray):Option (Bool):=if (l0.length:Int) > 30 then (if (l0.length:Int) ≤ 200 then (lw_LogsGauges.j0 k l0 a1 true) else (if (l0.length:Int) > 210 then (lw_LogsGauges.j0 k l0 a1 true) else (if (a1.size:Int) > 3000 then (if (a1.size:Int) ≤ 120000 then (lw_LogsGauges.j0 k l0 a1 true) else (lw_LogsGauges.j0 k l0 a1 (decide ((a1.size:Int) > 120100)))) else (lw_LogsGauges.j0 k l0 a1 (decide ((a1.size:Int) > 120100)))))) else (if (l0.length:Int) > 210 then (lw_LogsGauges.j0 k l0 a1 true) else (if (a1.size:Int) > 3000 then (if (a1.size:Int) ≤ 120000 then (lw_LogsGauges.j0 k l0 a1 true) else (lw_LogsGauges.j0 k l0 a1 (decide ((a1.size:Int) > 120100)))) else (lw_LogsGauges.j0 k l0 a1 (decide ((a1.size:Int) > 120100)))))
set_option maxHeartbeats 8000000 in
set_option maxRecDepth 100000 in
theorem lw_LogsGauges.calls (k:Nat) (A0:Option Addr) (c0:Nat) (l0:List (S37)) (a1:ByteArray) (r:Bool) (w:World) (hbase:Base w) (hr0:Kd.C k37 w A0 l0.length l0) (hc0:l0.length ≤ c0) (h:lw_LogsGauges.f k l0 a1=some r) (hrt:r=true) :
  Calls Tryz.prog 4 #[.slice A0 l0.length c0,.string a1] w fun e w'=>e=.returned (.bool r) ∧ Below w.heap.size w w':=by
 have HRT:=Aside0.mk hrt
 clear hrt
 have HR0:=Aside0.mk hr0
 have HC0:=Aside0.mk hc0
 clear hr0 hc0
 have HB:=Aside0.mk (Below.refl w.heap.size w)
 have H:(if (l0.length:Int) > 30 then (if (l0.length:Int) ≤ 200 then (lw_LogsGauges.j0 k l0 a1 true) else (if (l0.length:Int) > 210 then (lw_LogsGauges.j0 k l0 a1 true) else (if (a1.size:Int) > 3000 then (if (a1.size:Int) ≤ 120000 then (lw_LogsGauges.j0 k l0 a1 true) else (lw_LogsGauges.j0 k l0 a1 (decide ((a1.size:Int) > 120100)))) else (lw_LogsGauges.j0 k l0 a1 (decide ((a1.size:Int) > 120100)))))) else (if (l0.length:Int) > 210 then (lw_LogsGauges.j0 k l0 a1 true) else (if (a1.size:Int) > 3000 then (if (a1.size:Int) ≤ 120000 then (lw_LogsGauges.j0 k l0 a1 true) else (lw_LogsGauges.j0 k l0 a1 (decide ((a1.size:Int) > 120100)))) else (lw_LogsGauges.j0 k l0 a1 (decide ((a1.size:Int) > 120100))))))=some r:=h
 clear h
 have HC3:=Aside0.mk H
 clear H
 go_enter Tryz.func4,Tryz.ntmps4
 go_upto_region 1 with (fail)
 go_cut [44] (fun v44 wc=>∃ (kq:Nat) (x44_2:Bool),v44=.bool x44_2 ∧ Aside0 (lw_LogsGauges.j0 kq l0 a1 x44_2=some r) ∧ Aside0 (kq ≤ k) ∧ Aside0 (Below w.heap.size w wc))
 case first =>
  have H:=HC3.out
  clear HC3
  by_cases c4:(l0.length:Int) > 30
  ·rw [if_pos c4] at H
   have c4b0:decide (30 < (l0.length:Int))=true:=decide_eq_true c4
   have c4b1:decide (30 < l0.length)=true:=decide_eq_true (by omega)
   clear c4
   (first | rw [c4b0] | (simp only [i64_w,i32_w];rw [c4b0]) | skip)
   by_cases c5:(l0.length:Int) ≤ 200
   ·rw [if_pos c5] at H
    have c5b0:decide ((l0.length:Int) ≤ 200)=true:=decide_eq_true c5
    have c5b1:decide (l0.length ≤ 200)=true:=decide_eq_true (by omega)
    clear c5
    have H':=Aside0.mk H
    clear H
    go_wp2
    go_meet
    case rel=>exact ⟨_,(true),(by first | rfl | (simp;done) | (simp [*];done)),H',⟨by first | omega | exact Nat.le_refl _⟩,⟨by repeat (first | (with_reducible first | exact HB.out | apply below_alloc | apply pw_below_drewN | apply below_drew1) | exact HB.out)⟩⟩
   ·rw [if_neg c5] at H
    have c5b0:decide ((l0.length:Int) ≤ 200)=false:=decide_eq_false c5
    have c5b1:decide (l0.length ≤ 200)=false:=decide_eq_false (by omega)
    clear c5
    by_cases c6:(l0.length:Int) > 210
    ·rw [if_pos c6] at H
     have c6b0:decide (210 < (l0.length:Int))=true:=decide_eq_true c6
     have c6b1:decide (210 < l0.length)=true:=decide_eq_true (by omega)
     clear c6
     have H':=Aside0.mk H
     clear H
     go_wp2
     go_meet
     case rel=>exact ⟨_,(true),(by first | rfl | (simp;done) | (simp [*];done)),H',⟨by first | omega | exact Nat.le_refl _⟩,⟨by repeat (first | (with_reducible first | exact HB.out | apply below_alloc | apply pw_below_drewN | apply below_drew1) | exact HB.out)⟩⟩
    ·rw [if_neg c6] at H
     have c6b0:decide (210 < (l0.length:Int))=false:=decide_eq_false c6
     have c6b1:decide (210 < l0.length)=false:=decide_eq_false (by omega)
     clear c6
     by_cases c7:(a1.size:Int) > 3000
     ·rw [if_pos c7] at H
      have c7b0:decide (3000 < (a1.size:Int))=true:=decide_eq_true c7
      have c7b1:decide (3000 < a1.size)=true:=decide_eq_true (by omega)
      clear c7
      by_cases c8:(a1.size:Int) ≤ 120000
      ·rw [if_pos c8] at H
       have c8b0:decide ((a1.size:Int) ≤ 120000)=true:=decide_eq_true c8
       have c8b1:decide (a1.size ≤ 120000)=true:=decide_eq_true (by omega)
       clear c8
       have H':=Aside0.mk H
       clear H
       go_wp2
       go_meet
       case rel=>exact ⟨_,(true),(by first | rfl | (simp;done) | (simp [*];done)),H',⟨by first | omega | exact Nat.le_refl _⟩,⟨by repeat (first | (with_reducible first | exact HB.out | apply below_alloc | apply pw_below_drewN | apply below_drew1) | exact HB.out)⟩⟩
      ·rw [if_neg c8] at H
       have c8b0:decide ((a1.size:Int) ≤ 120000)=false:=decide_eq_false c8
       have c8b1:decide (a1.size ≤ 120000)=false:=decide_eq_false (by omega)
       clear c8
       have H':=Aside0.mk H
       clear H
       go_wp2
       go_meet
       case rel=>exact ⟨_,(decide ((a1.size:Int) > 120100)),(by first | rfl | (simp;done) | (simp [*];done)),H',⟨by first | omega | exact Nat.le_refl _⟩,⟨by repeat (first | (with_reducible first | exact HB.out | apply below_alloc | apply pw_below_drewN | apply below_drew1) | exact HB.out)⟩⟩
     ·rw [if_neg c7] at H
      have c7b0:decide (3000 < (a1.size:Int))=false:=decide_eq_false c7
      have c7b1:decide (3000 < a1.size)=false:=decide_eq_false (by omega)
      clear c7
      have H':=Aside0.mk H
      clear H
      go_wp2
      go_meet
      case rel=>exact ⟨_,(decide ((a1.size:Int) > 120100)),(by first | rfl | (simp;done) | (simp [*];done)),H',⟨by first | omega | exact Nat.le_refl _⟩,⟨by repeat (first | (with_reducible first | exact HB.out | apply below_alloc | apply pw_below_drewN | apply below_drew1) | exact HB.out)⟩⟩
  ·rw [if_neg c4] at H
   have c4b0:decide (30 < (l0.length:Int))=false:=decide_eq_false c4
   have c4b1:decide (30 < l0.length)=false:=decide_eq_false (by omega)
   clear c4
   (first | rw [c4b0] | (simp only [i64_w,i32_w];rw [c4b0]) | skip)
   by_cases c9:(l0.length:Int) > 210
   ·rw [if_pos c9] at H
    have c9b0:decide (210 < (l0.length:Int))=true:=decide_eq_true c9
    have c9b1:decide (210 < l0.length)=true:=decide_eq_true (by omega)
    clear c9
    have H':=Aside0.mk H
    clear H
    go_wp2
    go_meet
    case rel=>exact ⟨_,(true),(by first | rfl | (simp;done) | (simp [*];done)),H',⟨by first | omega | exact Nat.le_refl _⟩,⟨by repeat (first | (with_reducible first | exact HB.out | apply below_alloc | apply pw_below_drewN | apply below_drew1) | exact HB.out)⟩⟩
   ·rw [if_neg c9] at H
    have c9b0:decide (210 < (l0.length:Int))=false:=decide_eq_false c9
    have c9b1:decide (210 < l0.length)=false:=decide_eq_false (by omega)
    clear c9
    by_cases c10:(a1.size:Int) > 3000
    ·rw [if_pos c10] at H
     have c10b0:decide (3000 < (a1.size:Int))=true:=decide_eq_true c10
     have c10b1:decide (3000 < a1.size)=true:=decide_eq_true (by omega)
     clear c10
     by_cases c11:(a1.size:Int) ≤ 120000
     ·rw [if_pos c11] at H
      have c11b0:decide ((a1.size:Int) ≤ 120000)=true:=decide_eq_true c11
      have c11b1:decide (a1.size ≤ 120000)=true:=decide_eq_true (by omega)
      clear c11
      have H':=Aside0.mk H
      clear H
      go_wp2
      go_meet
      case rel=>exact ⟨_,(true),(by first | rfl | (simp;done) | (simp [*];done)),H',⟨by first | omega | exact Nat.le_refl _⟩,⟨by repeat (first | (with_reducible first | exact HB.out | apply below_alloc | apply pw_below_drewN | apply below_drew1) | exact HB.out)⟩⟩
     ·rw [if_neg c11] at H
      have c11b0:decide ((a1.size:Int) ≤ 120000)=false:=decide_eq_false c11
      have c11b1:decide (a1.size ≤ 120000)=false:=decide_eq_false (by omega)
      clear c11
      have H':=Aside0.mk H
      clear H
      go_wp2
      go_meet
      case rel=>exact ⟨_,(decide ((a1.size:Int) > 120100)),(by first | rfl | (simp;done) | (simp [*];done)),H',⟨by first | omega | exact Nat.le_refl _⟩,⟨by repeat (first | (with_reducible first | exact HB.out | apply below_alloc | apply pw_below_drewN | apply below_drew1) | exact HB.out)⟩⟩
    ·rw [if_neg c10] at H
     have c10b0:decide (3000 < (a1.size:Int))=false:=decide_eq_false c10
     have c10b1:decide (3000 < a1.size)=false:=decide_eq_false (by omega)
     clear c10
     have H':=Aside0.mk H
     clear H
     go_wp2
     go_meet
     case rel=>exact ⟨_,(decide ((a1.size:Int) > 120100)),(by first | rfl | (simp;done) | (simp [*];done)),H',⟨by first | omega | exact Nat.le_refl _⟩,⟨by repeat (first | (with_reducible first | exact HB.out | apply below_alloc | apply pw_below_drewN | apply below_drew1) | exact HB.out)⟩⟩
 case rest =>
  clear HC3
  try clear c1
  try clear p2
  try clear c4
  try clear c4b0
  try clear c4b1
  try clear c5
  try clear c5b0
  try clear c5b1
  try clear c6
  try clear c6b0
  try clear c6b1
  try clear c7
  try clear c7b0
  try clear c7b1
  try clear c8
  try clear c8b0
  try clear c8b1
  try clear c9
  try clear c9b0
  try clear c9b1
  try clear c10
  try clear c10b0
  try clear c10b1
  try clear c11
  try clear c11b0
  try clear c11b1
  obtain ⟨kq,x44_2,rfl,HA,HJ2,HB⟩:=hcut
  cases kq with
  | zero=>exact absurd HA.out (by simp [lw_LogsGauges.j0])
  | succ kj2 =>
   have H:=HA.out
   clear HA
   simp only [lw_LogsGauges.j0] at H
   by_cases c12:x44_2=true
   ·subst c12
    have H1:((lw_known.f).bind fun t237=>(some t237))=some r:=by rw [if_pos rfl] at H;exact H
    clear H
    have H:=H1
    clear H1
    replace H:=Option.bind_eq_some_iff.mp H
    obtain ⟨t237,A130,H⟩:=H
    replace H:(some t237)=some r:=H
    have A13:=Aside0.mk A130
    clear A130
    obtain rfl:=Option.some.inj H
    go_wp2_with (first | ((with_reducible refine gate_callee (f:=5) rfl ?_);refine goesL_ (some 45) rfl rfl Tryz.func5 (by kernel_rfl) rfl #[] rfl (by (try simp only [List.map_toArray,List.map_cons,List.map_nil]);first | done | rfl | (simp only [List.length_drop,List.length_take];rfl)) ?_;(with_reducible refine (lw_known.calls  t237 _ ?side1 A13.out).mono ?_);(case side1=>exact Base.step hbase (by repeat (first | (with_reducible first | exact HB.out | apply below_alloc | apply pw_below_drewN | apply below_drew1) | exact HB.out)));rintro e w14 ⟨rfl,hb⟩;refine ⟨_,rfl,?_⟩;have n0_:=Aside0.mk (below_step (by repeat (first | (with_reducible first | exact HB.out | apply below_alloc | apply pw_below_drewN | apply below_drew1) | exact HB.out)) hb);clear HB;have HB:=n0_;clear n0_;(try clear hb);(try clear hb2);(try clear hk);(try clear hi)))
    go_ret
    exact ⟨by first | rfl | (simp [errW_none,errW_some] <;> rfl) | (simp [*,errW_none,errW_some] <;> rfl),by repeat (first | (with_reducible first | exact HB.out | apply below_alloc | apply pw_below_drewN | apply below_drew1) | exact HB.out)⟩
   ·replace c12:=Bool.eq_false_iff.mpr c12
    subst c12
    have H1:(lw_LogsGauges.l0 kj2 l0 a1 0)=some r:=by rw [if_neg (show ¬ (false=true) by decide)] at H;exact H
    clear H
    have H:=H1
    clear H1
    have H':=Aside0.mk H
    clear H
    go_wp2
    go_loopg [5] kj2 (fun kq v5 w'=>∃ (x5_2:Int),v5=.int .i64 x5_2 ∧ Aside0 (lw_LogsGauges.l0 kq l0 a1 x5_2=some r) ∧ Aside0 (kq ≤ kj2) ∧ Aside0 (Below w.heap.size w w'))
    case atStart=>exact ⟨(0),(by first | rfl | (simp;done) | (simp [*];done)),H',⟨Nat.le_refl _⟩,⟨by repeat (first | (with_reducible first | exact HB.out | apply below_alloc | apply pw_below_drewN | apply below_drew1) | exact HB.out)⟩⟩
    case round =>
     clear H'
     try clear c1
     try clear p2
     try clear c4
     try clear c4b0
     try clear c4b1
     try clear c5
     try clear c5b0
     try clear c5b1
     try clear c6
     try clear c6b0
     try clear c6b1
     try clear c7
     try clear c7b0
     try clear c7b1
     try clear c8
     try clear c8b0
     try clear c8b1
     try clear c9
     try clear c9b0
     try clear c9b1
     try clear c10
     try clear c10b0
     try clear c10b1
     try clear c11
     try clear c11b0
     try clear c11b1
     try clear c12
     try clear p2
     obtain ⟨x5_2,rfl,HA,HK2,HB⟩:=hrel
     cases gk with
     | zero=>exact absurd HA.out (by simp [lw_LogsGauges.l0])
     | succ k2 =>
      have H:=HA.out
      clear HA
      simp only [lw_LogsGauges.l0] at H
      by_cases c15:x5_2 < (l0.length:Int)
      ·rw [if_pos c15] at H
       have c15b0:decide (x5_2 < (l0.length:Int))=true:=decide_eq_true c15
       clear c15
       by_cases c16:0 ≤ x5_2
       ·rw [if_pos c16] at H
        have c16b0:decide (0 ≤ x5_2)=true:=decide_eq_true c16
        clear c16
        by_cases c17:(((rd_T37 l0 x5_2).f2).length:Int) > 40
        ·rw [if_pos c17] at H
         have c17b0:decide (40 < (((rd_T37 l0 x5_2).f2).length:Int))=true:=decide_eq_true c17
         have c17b1:decide (40 < ((rd_T37 l0 x5_2).f2).length)=true:=decide_eq_true (by omega)
         clear c17
         replace H:=Option.bind_eq_some_iff.mp H
         obtain ⟨t239,A180,H⟩:=H
         replace H:(some t239)=some r:=H
         have A18:=Aside0.mk A180
         clear A180
         obtain rfl:=Option.some.inj H
         have p238:0 ≤ (x5_2:Int):=of_decide_eq_true (by first | (with_reducible assumption) | assumption)
         have q238:x5_2 < (l0.length:Int):=of_decide_eq_true (by first | (with_reducible assumption) | assumption)
         obtain ⟨ad238,A238_2,c238_2,e238,hx238_0,hx238_1,hx238_2,hl238_2,hi238_2⟩:=at_T37 HR0.out x5_2 p238 q238
         cases e238
         replace hx238_0:=(HB.out.cell (xbl w _ hx238_0)).trans hx238_0
         replace hx238_1:=(HB.out.cell (xbl w _ hx238_1)).trans hx238_1
         replace hx238_2:=(HB.out.cell (xbl w _ hx238_2)).trans hx238_2
         have HR238_2:=Aside0.mk hi238_2
         have HC238_2:=Aside0.mk hl238_2
         clear hi238_2 hl238_2
         replace p238:=eq_true p238
         replace q238:=eq_true q238
         go_wp2_with (first | ((with_reducible refine gate_callee (f:=5) rfl ?_);refine goesL_ (some 59) rfl rfl Tryz.func5 (by kernel_rfl) rfl #[] rfl (by (try simp only [List.map_toArray,List.map_cons,List.map_nil]);first | done | rfl | (simp only [List.length_drop,List.length_take];rfl)) ?_;(with_reducible refine (lw_known.calls  t239 _ ?side1 A18.out).mono ?_);(case side1=>exact Base.step hbase (by repeat (first | (with_reducible first | exact HB.out | apply below_alloc | apply pw_below_drewN | apply below_drew1) | exact HB.out)));rintro e w19 ⟨rfl,hb⟩;refine ⟨_,rfl,?_⟩;have n0_:=Aside0.mk (below_step (by repeat (first | (with_reducible first | exact HB.out | apply below_alloc | apply pw_below_drewN | apply below_drew1) | exact HB.out)) hb);clear HB;have HB:=n0_;clear n0_;(try clear hb);(try clear hb2);(try clear hk);(try clear hi)))
         go_ret
         exact ⟨by first | rfl | (simp [errW_none,errW_some] <;> rfl) | (simp [*,errW_none,errW_some] <;> rfl),by repeat (first | (with_reducible first | exact HB.out | apply below_alloc | apply pw_below_drewN | apply below_drew1) | exact HB.out)⟩
        ·rw [if_neg c17] at H
         have c17b0:decide (40 < (((rd_T37 l0 x5_2).f2).length:Int))=false:=decide_eq_false c17
         have c17b1:decide (40 < ((rd_T37 l0 x5_2).f2).length)=false:=decide_eq_false (by omega)
         clear c17
         have H':=Aside0.mk H
         clear H
         have p238:0 ≤ (x5_2:Int):=of_decide_eq_true (by first | (with_reducible assumption) | assumption)
         have q238:x5_2 < (l0.length:Int):=of_decide_eq_true (by first | (with_reducible assumption) | assumption)
         obtain ⟨ad238,A238_2,c238_2,e238,hx238_0,hx238_1,hx238_2,hl238_2,hi238_2⟩:=at_T37 HR0.out x5_2 p238 q238
         cases e238
         replace hx238_0:=(HB.out.cell (xbl w _ hx238_0)).trans hx238_0
         replace hx238_1:=(HB.out.cell (xbl w _ hx238_1)).trans hx238_1
         replace hx238_2:=(HB.out.cell (xbl w _ hx238_2)).trans hx238_2
         have HR238_2:=Aside0.mk hi238_2
         have HC238_2:=Aside0.mk hl238_2
         clear hi238_2 hl238_2
         replace p238:=eq_true p238
         replace q238:=eq_true q238
         go_wp2
         go_roundg k2
         case measure=>have:=HJ2.out;have:=HK2.out;omega
         case rel=>exact ⟨(wrap64 (x5_2 + 1)),(by first | rfl | (simp;done) | (simp [*];done)),H',⟨by have:=HJ2.out;have:=HK2.out;omega⟩,⟨by repeat (first | (with_reducible first | exact HB.out | apply below_alloc | apply pw_below_drewN | apply below_drew1) | exact HB.out)⟩⟩
       ·rw [if_neg c16] at H
        exact absurd H (by simp)
      ·rw [if_neg c15] at H
       have c15b0:decide (x5_2 < (l0.length:Int))=false:=decide_eq_false c15
       clear c15
       replace H:=Option.bind_eq_some_iff.mp H
       obtain ⟨t240,A200,H⟩:=H
       replace H:((logs_WriteGauge.f t240).bind fun bt243=>((logs_ReadGauge.f a1).bind fun bt245=>((rf_WriteGauge.f k2 l0).bind fun bt250=>((rf_ReadGauge.f k2 a1).bind fun bt252=>((lw_sameGauges.f k2 t240 l0).bind fun t257=>(if t257=true then (if bt243.2=bt250.2 then (if bt243.1.toList=bt250.1.toList then (if bt245.2.2=bt252.2.2 then (if bt245.2.1=bt252.2.1 then ((lw_sameGauges.f k2 bt245.1 bt252.1).bind fun t258=>(if t258=true then ((lw_known.f).bind fun t259=>(some t259)) else (some false))) else (some false)) else (some false)) else (some false)) else (some false)) else (some false)))))))=some r:=H
       have A20:=Aside0.mk A200
       clear A200
       replace H:=Option.bind_eq_some_iff.mp H
       obtain ⟨⟨t243,t244⟩,A210,H⟩:=H
       replace H:((logs_ReadGauge.f a1).bind fun bt245=>((rf_WriteGauge.f k2 l0).bind fun bt250=>((rf_ReadGauge.f k2 a1).bind fun bt252=>((lw_sameGauges.f k2 t240 l0).bind fun t257=>(if t257=true then (if t244=bt250.2 then (if t243.toList=bt250.1.toList then (if bt245.2.2=bt252.2.2 then (if bt245.2.1=bt252.2.1 then ((lw_sameGauges.f k2 bt245.1 bt252.1).bind fun t258=>(if t258=true then ((lw_known.f).bind fun t259=>(some t259)) else (some false))) else (some false)) else (some false)) else (some false)) else (some false)) else (some false))))))=some r:=H
       have A21:=Aside0.mk A210
       clear A210
       replace H:=Option.bind_eq_some_iff.mp H
       obtain ⟨⟨t245,t246,t247⟩,A220,H⟩:=H
       replace H:((rf_WriteGauge.f k2 l0).bind fun bt250=>((rf_ReadGauge.f k2 a1).bind fun bt252=>((lw_sameGauges.f k2 t240 l0).bind fun t257=>(if t257=true then (if t244=bt250.2 then (if t243.toList=bt250.1.toList then (if t247=bt252.2.2 then (if t246=bt252.2.1 then ((lw_sameGauges.f k2 t245 bt252.1).bind fun t258=>(if t258=true then ((lw_known.f).bind fun t259=>(some t259)) else (some false))) else (some false)) else (some false)) else (some false)) else (some false)) else (some false)))))=some r:=H
       have A22:=Aside0.mk A220
       clear A220
       replace H:=Option.bind_eq_some_iff.mp H
       obtain ⟨⟨t250,t251⟩,A230,H⟩:=H
       replace H:((rf_ReadGauge.f k2 a1).bind fun bt252=>((lw_sameGauges.f k2 t240 l0).bind fun t257=>(if t257=true then (if t244=t251 then (if t243.toList=t250.toList then (if t247=bt252.2.2 then (if t246=bt252.2.1 then ((lw_sameGauges.f k2 t245 bt252.1).bind fun t258=>(if t258=true then ((lw_known.f).bind fun t259=>(some t259)) else (some false))) else (some false)) else (some false)) else (some false)) else (some false)) else (some false))))=some r:=H
       have A23:=Aside0.mk A230
       clear A230
       replace H:=Option.bind_eq_some_iff.mp H
       obtain ⟨⟨t252,t253,t254⟩,A240,H⟩:=H
       replace H:((lw_sameGauges.f k2 t240 l0).bind fun t257=>(if t257=true then (if t244=t251 then (if t243.toList=t250.toList then (if t247=t254 then (if t246=t253 then ((lw_sameGauges.f k2 t245 t252).bind fun t258=>(if t258=true then ((lw_known.f).bind fun t259=>(some t259)) else (some false))) else (some false)) else (some false)) else (some false)) else (some false)) else (some false)))=some r:=H
       have A24:=Aside0.mk A240
       clear A240
       replace H:=Option.bind_eq_some_iff.mp H
       obtain ⟨t257,A250,H⟩:=H
       replace H:(if t257=true then (if t244=t251 then (if t243.toList=t250.toList then (if t247=t254 then (if t246=t253 then ((lw_sameGauges.f k2 t245 t252).bind fun t258=>(if t258=true then ((lw_known.f).bind fun t259=>(some t259)) else (some false))) else (some false)) else (some false)) else (some false)) else (some false)) else (some false))=some r:=H
       have A25:=Aside0.mk A250
       clear A250
       by_cases c26:t257=true
       ·subst c26
        have H1:(if t244=t251 then (if t243.toList=t250.toList then (if t247=t254 then (if t246=t253 then ((lw_sameGauges.f k2 t245 t252).bind fun t258=>(if t258=true then ((lw_known.f).bind fun t259=>(some t259)) else (some false))) else (some false)) else (some false)) else (some false)) else (some false))=some r:=by rw [if_pos rfl] at H;exact H
        clear H
        have H:=H1
        clear H1
        by_cases c27:t244=t251
        ·rw [if_pos c27] at H
         have c27b0:(t244 == t251)=true:=beq_iff_eq.mpr c27
         have c27b1:(t244 != t251)=false:=bne_eq_false_iff_eq.mpr c27
         clear c27
         by_cases c28:t243.toList=t250.toList
         ·rw [if_pos c28] at H
          have c28b0:(t243.toList == t250.toList)=true:=beq_iff_eq.mpr c28
          have c28b1:(t243.toList != t250.toList)=false:=bne_eq_false_iff_eq.mpr c28
          clear c28
          by_cases c29:t247=t254
          ·rw [if_pos c29] at H
           have c29b0:(t247 == t254)=true:=beq_iff_eq.mpr c29
           have c29b1:(t247 != t254)=false:=bne_eq_false_iff_eq.mpr c29
           clear c29
           by_cases c30:t246=t253
           ·rw [if_pos c30] at H
            have c30b0:(t246 == t253)=true:=beq_iff_eq.mpr c30
            have c30b1:(t246 != t253)=false:=bne_eq_false_iff_eq.mpr c30
            clear c30
            replace H:=Option.bind_eq_some_iff.mp H
            obtain ⟨t258,A310,H⟩:=H
            replace H:(if t258=true then ((lw_known.f).bind fun t259=>(some t259)) else (some false))=some r:=H
            have A31:=Aside0.mk A310
            clear A310
            by_cases c32:t258=true
            ·subst c32
             have H1:((lw_known.f).bind fun t259=>(some t259))=some r:=by rw [if_pos rfl] at H;exact H
             clear H
             have H:=H1
             clear H1
             replace H:=Option.bind_eq_some_iff.mp H
             obtain ⟨t259,A330,H⟩:=H
             replace H:(some t259)=some r:=H
             have A33:=Aside0.mk A330
             clear A330
             obtain rfl:=Option.some.inj H
             go_wp2_with (first | ((with_reducible refine gate_callee (f:=12) rfl ?_);refine goesL_ (some 61) rfl rfl Tryz.func12 (by kernel_rfl) rfl #[.slice A0 l0.length c0] rfl (by (try simp only [List.map_toArray,List.map_cons,List.map_nil]);first | done | rfl | (simp only [List.length_drop,List.length_take];rfl)) ?_;(with_reducible refine (lw_gauges.calls k2 _ _ l0 t240 _ ?side1 ?side2 A20.out).mono ?_);(case side1=>repeat (first | exact (Kd.C_below HR0.out HB.out) | (with_reducible refine Kd.C_alloc ?_ _) | (with_reducible refine Kd.C_drewN ?_ _) | (with_reducible refine Kd.C_drew ?_)));(case side2=>exact HC0.out);rintro e w34 ⟨v241,rfl,ho0,hb⟩;refine ⟨_,rfl,?_⟩;have n0_:=Aside0.mk (Kd.S_lower ho0 (below_size (by repeat (first | (with_reducible first | exact HB.out | apply below_alloc | apply pw_below_drewN | apply below_drew1) | exact HB.out))));have n1_:=Aside0.mk (below_step (by repeat (first | (with_reducible first | exact HB.out | apply below_alloc | apply pw_below_drewN | apply below_drew1) | exact HB.out)) hb);clear HB;have HO242:=n0_;have HB:=n1_;clear n0_ n1_;(try clear hb);(try clear hb2);(try clear hk);(try clear hi);(try clear ho0);obtain ⟨Ao35,co35,eo35⟩:=Kd.S_slice HO242.out;subst eo35) | ((with_reducible refine gate_callee (f:=13) rfl ?_);refine goesL_ (some 64) rfl rfl Tryz.func13 (by kernel_rfl) rfl #[.slice Ao35 t240.length co35] rfl (by (try simp only [List.map_toArray,List.map_cons,List.map_nil]);first | done | rfl | (simp only [List.length_drop,List.length_take];rfl)) ?_;(with_reducible refine (logs_WriteGauge.calls _ _ t240 t243 t244 _ ?side3 ?side1 ?side2 A21.out).mono ?_);(case side1=>repeat (first | exact (Kd.S_reads' HO242.out).2.2 | (with_reducible refine Kd.C_alloc ?_ _) | (with_reducible refine Kd.C_drewN ?_ _) | (with_reducible refine Kd.C_drew ?_)));(case side2=>exact (Kd.S_reads' HO242.out).2.1);(case side3=>exact Base.step hbase (by repeat (first | (with_reducible first | exact HB.out | apply below_alloc | apply pw_below_drewN | apply below_drew1) | exact HB.out)));rintro e w36 ⟨rfl,hb⟩;refine ⟨_,rfl,?_⟩;have n0_:=Aside0.mk (Kd.S_below (by (with_reducible repeat (first | apply Kd.S_alloc | apply Kd.S_drewN | apply Kd.S_drew));exact HO242.out) hb);have n1_:=Aside0.mk (below_step (by repeat (first | (with_reducible first | exact HB.out | apply below_alloc | apply pw_below_drewN | apply below_drew1) | exact HB.out)) hb);clear HO242;clear HB;have HO242:=n0_;have HB:=n1_;clear n0_ n1_;(try clear hb);(try clear hb2);(try clear hk);(try clear hi)) | ((with_reducible refine gate_callee (f:=14) rfl ?_);refine goesL_ (some 69) rfl rfl Tryz.func14 (by kernel_rfl) rfl #[.string a1] rfl (by (try simp only [List.map_toArray,List.map_cons,List.map_nil]);first | done | rfl | (simp only [List.length_drop,List.length_take];rfl)) ?_;(with_reducible refine (logs_ReadGauge.calls a1 t245 t246 t247 _ ?side1 A22.out).mono ?_);(case side1=>exact Base.step hbase (by repeat (first | (with_reducible first | exact HB.out | apply below_alloc | apply pw_below_drewN | apply below_drew1) | exact HB.out)));rintro e w37 ⟨v248,rfl,ho0,hb⟩;refine ⟨_,rfl,?_⟩;have n0_:=Aside0.mk (Kd.S_elder' (by (with_reducible repeat (first | apply Kd.S_alloc | apply Kd.S_drewN | apply Kd.S_drew));exact HO242.out) (Kd.S_base ho0) hb);have n1_:=Aside0.mk (Kd.S_lower (Kd.S_new' ho0 (Kd.S_lt (by (with_reducible repeat (first | apply Kd.S_alloc | apply Kd.S_drewN | apply Kd.S_drew));exact HO242.out))) (below_size (by repeat (first | (with_reducible first | exact HB.out | apply below_alloc | apply pw_below_drewN | apply below_drew1) | exact HB.out))));have n2_:=Aside0.mk (below_step (by repeat (first | (with_reducible first | exact HB.out | apply below_alloc | apply pw_below_drewN | apply below_drew1) | exact HB.out)) hb);clear HO242;clear HB;have HO242:=n0_;have HO249:=n1_;have HB:=n2_;clear n0_ n1_ n2_;(try clear hb);(try clear hb2);(try clear hk);(try clear hi);(try clear ho0)) | ((with_reducible refine gate_callee (f:=15) rfl ?_);refine goesL_ (some 75) rfl rfl Tryz.func15 (by kernel_rfl) rfl #[.slice A0 l0.length c0] rfl (by (try simp only [List.map_toArray,List.map_cons,List.map_nil]);first | done | rfl | (simp only [List.length_drop,List.length_take];rfl)) ?_;(with_reducible refine (rf_WriteGauge.calls k2 _ _ l0 t250 t251 _ ?side1 ?side2 A23.out).mono ?_);(case side1=>repeat (first | exact (Kd.C_below HR0.out HB.out) | (with_reducible refine Kd.C_alloc ?_ _) | (with_reducible refine Kd.C_drewN ?_ _) | (with_reducible refine Kd.C_drew ?_)));(case side2=>exact HC0.out);rintro e w38 ⟨rfl,hb⟩;refine ⟨_,rfl,?_⟩;have n0_:=Aside0.mk (Kd.S_below (by (with_reducible repeat (first | apply Kd.S_alloc | apply Kd.S_drewN | apply Kd.S_drew));exact HO242.out) hb);have n1_:=Aside0.mk (Kd.S_below (by (with_reducible repeat (first | apply Kd.S_alloc | apply Kd.S_drewN | apply Kd.S_drew));exact HO249.out) hb);have n2_:=Aside0.mk (below_step (by repeat (first | (with_reducible first | exact HB.out | apply below_alloc | apply pw_below_drewN | apply below_drew1) | exact HB.out)) hb);clear HO242;clear HO249;clear HB;have HO242:=n0_;have HO249:=n1_;have HB:=n2_;clear n0_ n1_ n2_;(try clear hb);(try clear hb2);(try clear hk);(try clear hi)) | ((with_reducible refine gate_callee (f:=16) rfl ?_);refine goesL_ (some 80) rfl rfl Tryz.func16 (by kernel_rfl) rfl #[.string a1] rfl (by (try simp only [List.map_toArray,List.map_cons,List.map_nil]);first | done | rfl | (simp only [List.length_drop,List.length_take];rfl)) ?_;(with_reducible refine (rf_ReadGauge.calls k2 a1 t252 t253 t254 _ A24.out).mono ?_);rintro e w39 ⟨v255,rfl,ho0,hb⟩;refine ⟨_,rfl,?_⟩;have n0_:=Aside0.mk (Kd.S_elder' (by (with_reducible repeat (first | apply Kd.S_alloc | apply Kd.S_drewN | apply Kd.S_drew));exact HO242.out) (Kd.S_base ho0) hb);have n1_:=Aside0.mk (Kd.S_elder' (by (with_reducible repeat (first | apply Kd.S_alloc | apply Kd.S_drewN | apply Kd.S_drew));exact HO249.out) (Kd.S_base ho0) hb);have n2_:=Aside0.mk (Kd.S_lower (Kd.S_new' (Kd.S_new' ho0 (Kd.S_lt (by (with_reducible repeat (first | apply Kd.S_alloc | apply Kd.S_drewN | apply Kd.S_drew));exact HO242.out))) (Kd.S_lt (by (with_reducible repeat (first | apply Kd.S_alloc | apply Kd.S_drewN | apply Kd.S_drew));exact HO249.out))) (below_size (by repeat (first | (with_reducible first | exact HB.out | apply below_alloc | apply pw_below_drewN | apply below_drew1) | exact HB.out))));have n3_:=Aside0.mk (below_step (by repeat (first | (with_reducible first | exact HB.out | apply below_alloc | apply pw_below_drewN | apply below_drew1) | exact HB.out)) hb);clear HO242;clear HO249;clear HB;have HO242:=n0_;have HO249:=n1_;have HO256:=n2_;have HB:=n3_;clear n0_ n1_ n2_ n3_;(try clear hb);(try clear hb2);(try clear hk);(try clear hi);(try clear ho0)) | ((with_reducible refine gate_callee (f:=17) rfl ?_);refine goesL_ (some 86) rfl rfl Tryz.func17 (by kernel_rfl) rfl #[.slice Ao35 t240.length co35,.slice A0 l0.length c0] rfl (by (try simp only [List.map_toArray,List.map_cons,List.map_nil]);first | done | rfl | (simp only [List.length_drop,List.length_take];rfl)) ?_;(with_reducible refine (lw_sameGauges.calls k2 _ _ t240 _ _ l0 true _ ?side1 ?side2 ?side3 ?side4 A25.out rfl).mono ?_);(case side1=>repeat (first | exact (Kd.S_reads' HO242.out).2.2 | (with_reducible refine Kd.C_alloc ?_ _) | (with_reducible refine Kd.C_drewN ?_ _) | (with_reducible refine Kd.C_drew ?_)));(case side2=>exact (Kd.S_reads' HO242.out).2.1);(case side3=>repeat (first | exact (Kd.C_below HR0.out HB.out) | (with_reducible refine Kd.C_alloc ?_ _) | (with_reducible refine Kd.C_drewN ?_ _) | (with_reducible refine Kd.C_drew ?_)));(case side4=>exact HC0.out);rintro e w40 ⟨rfl,hb⟩;refine ⟨_,rfl,?_⟩;have n0_:=Aside0.mk (Kd.S_below (by (with_reducible repeat (first | apply Kd.S_alloc | apply Kd.S_drewN | apply Kd.S_drew));exact HO242.out) hb);have n1_:=Aside0.mk (Kd.S_below (by (with_reducible repeat (first | apply Kd.S_alloc | apply Kd.S_drewN | apply Kd.S_drew));exact HO249.out) hb);have n2_:=Aside0.mk (Kd.S_below (by (with_reducible repeat (first | apply Kd.S_alloc | apply Kd.S_drewN | apply Kd.S_drew));exact HO256.out) hb);have n3_:=Aside0.mk (below_step (by repeat (first | (with_reducible first | exact HB.out | apply below_alloc | apply pw_below_drewN | apply below_drew1) | exact HB.out)) hb);clear HO242;clear HO249;clear HO256;clear HB;have HO242:=n0_;have HO249:=n1_;have HO256:=n2_;have HB:=n3_;clear n0_ n1_ n2_ n3_;(try clear hb);(try clear hb2);(try clear hk);(try clear hi);obtain ⟨Ao41,co41,eo41⟩:=Kd.S_slice HO249.out;subst eo41;obtain ⟨Ao42,co42,eo42⟩:=Kd.S_slice HO256.out;subst eo42) | (go_at_call 17;(with_reducible refine (lw_sameGauges.calls k2 _ _ t245 _ _ t252 true _ ?side1 ?side2 ?side3 ?side4 A31.out rfl).mono ?_);(case side1=>repeat (first | exact (Kd.S_reads' HO249.out).2.2 | (with_reducible refine Kd.C_alloc ?_ _) | (with_reducible refine Kd.C_drewN ?_ _) | (with_reducible refine Kd.C_drew ?_)));(case side2=>exact (Kd.S_reads' HO249.out).2.1);(case side3=>repeat (first | exact (Kd.S_reads' HO256.out).2.2 | (with_reducible refine Kd.C_alloc ?_ _) | (with_reducible refine Kd.C_drewN ?_ _) | (with_reducible refine Kd.C_drew ?_)));(case side4=>exact (Kd.S_reads' HO256.out).2.1);rintro e w43 ⟨rfl,hb⟩;have n0_:=Aside0.mk (Kd.S_below (by (with_reducible repeat (first | apply Kd.S_alloc | apply Kd.S_drewN | apply Kd.S_drew));exact HO242.out) hb);have n1_:=Aside0.mk (Kd.S_below (by (with_reducible repeat (first | apply Kd.S_alloc | apply Kd.S_drewN | apply Kd.S_drew));exact HO249.out) hb);have n2_:=Aside0.mk (Kd.S_below (by (with_reducible repeat (first | apply Kd.S_alloc | apply Kd.S_drewN | apply Kd.S_drew));exact HO256.out) hb);have n3_:=Aside0.mk (below_step (by repeat (first | (with_reducible first | exact HB.out | apply below_alloc | apply pw_below_drewN | apply below_drew1) | exact HB.out)) hb);clear HO242;clear HO249;clear HO256;clear HB;have HO242:=n0_;have HO249:=n1_;have HO256:=n2_;have HB:=n3_;clear n0_ n1_ n2_ n3_;(try clear hb);(try clear hb2);(try clear hk);(try clear hi)) | (go_at_call 5;(with_reducible refine (lw_known.calls  t259 _ ?side1 A33.out).mono ?_);(case side1=>exact Base.step hbase (by repeat (first | (with_reducible first | exact HB.out | apply below_alloc | apply pw_below_drewN | apply below_drew1) | exact HB.out)));rintro e w44 ⟨rfl,hb⟩;have n0_:=Aside0.mk (Kd.S_below (by (with_reducible repeat (first | apply Kd.S_alloc | apply Kd.S_drewN | apply Kd.S_drew));exact HO242.out) hb);have n1_:=Aside0.mk (Kd.S_below (by (with_reducible repeat (first | apply Kd.S_alloc | apply Kd.S_drewN | apply Kd.S_drew));exact HO249.out) hb);have n2_:=Aside0.mk (Kd.S_below (by (with_reducible repeat (first | apply Kd.S_alloc | apply Kd.S_drewN | apply Kd.S_drew));exact HO256.out) hb);have n3_:=Aside0.mk (below_step (by repeat (first | (with_reducible first | exact HB.out | apply below_alloc | apply pw_below_drewN | apply below_drew1) | exact HB.out)) hb);clear HO242;clear HO249;clear HO256;clear HB;have HO242:=n0_;have HO249:=n1_;have HO256:=n2_;have HB:=n3_;clear n0_ n1_ n2_ n3_;(try clear hb);(try clear hb2);(try clear hk);(try clear hi)))
             go_ret
             exact ⟨by first | rfl | (simp [errW_none,errW_some] <;> rfl) | (simp [*,errW_none,errW_some] <;> rfl),by repeat (first | (with_reducible first | exact HB.out | apply below_alloc | apply pw_below_drewN | apply below_drew1) | exact HB.out)⟩
            ·replace c32:=Bool.eq_false_iff.mpr c32
             subst c32
             have H1:(some false)=some r:=by rw [if_neg (show ¬ (false=true) by decide)] at H;exact H
             clear H
             have H:=H1
             clear H1
             obtain rfl:=Option.some.inj H
             exact absurd HRT.out (by decide)
           ·rw [if_neg c30] at H
            have c30b0:(t246 == t253)=false:=beq_eq_false_iff_ne.mpr c30
            have c30b1:(t246 != t253)=true:=bne_iff_ne.mpr c30
            obtain rfl:=Option.some.inj H
            exact absurd HRT.out (by decide)
          ·rw [if_neg c29] at H
           have c29b0:(t247 == t254)=false:=beq_eq_false_iff_ne.mpr c29
           have c29b1:(t247 != t254)=true:=bne_iff_ne.mpr c29
           obtain rfl:=Option.some.inj H
           exact absurd HRT.out (by decide)
         ·rw [if_neg c28] at H
          have c28b0:(t243.toList == t250.toList)=false:=beq_eq_false_iff_ne.mpr c28
          have c28b1:(t243.toList != t250.toList)=true:=bne_iff_ne.mpr c28
          obtain rfl:=Option.some.inj H
          exact absurd HRT.out (by decide)
        ·rw [if_neg c27] at H
         have c27b0:(t244 == t251)=false:=beq_eq_false_iff_ne.mpr c27
         have c27b1:(t244 != t251)=true:=bne_iff_ne.mpr c27
         obtain rfl:=Option.some.inj H
         exact absurd HRT.out (by decide)
       ·replace c26:=Bool.eq_false_iff.mpr c26
        subst c26
        have H1:(some false)=some r:=by rw [if_neg (show ¬ (false=true) by decide)] at H;exact H
        clear H
        have H:=H1
        clear H1
        obtain rfl:=Option.some.inj H
        exact absurd HRT.out (by decide)
end Go.Proofs.YtdomcbebbhbdlaaGreatDoor.PLogsGauges
namespace Go.Proofs.Lg
open Go.RowKit Go.Proofs.YtdomcbebbhbdlaaGreatDoorW.PrintWords Go.Proofs.YtdomcbebbhbdlaaGreatDoorW.PrintLast Go.Proofs.YtdomcbebbhbdlaaGreatDoorW.PrintMore Go.Proofs.YtdomcbebbhbdlaaGreatDoor.PLogsGauges Go.Proofs.YtdomcbebbhbdlaaGreatDoor
abbrev RT:=List S37 × Int × Int
theorem digR_boundG:∀ (f:Nat) (l:List UInt8) (n i:Nat),n < 10 ^ i → (digR f l n i).2 ≤ i + f ∧ (digR f l n i).1 < 10 ^ (i + f)
 | 0,l,n,i,h=>by cases l <;> exact ⟨Nat.le_refl _,h⟩
 | f + 1,[],n,i,h=>⟨by show i ≤ i + (f + 1);omega,Nat.lt_of_lt_of_le h (Nat.pow_le_pow_right (by omega) (by omega))⟩
 | f + 1,c :: r,n,i,h=>by
  rw [digR]
  by_cases hc:48 ≤ c.toNat ∧ c.toNat ≤ 57
  ·rw [if_pos hc]
   have:=digR_boundG f r (n * 10 + (c.toNat - 48)) (i + 1) (by rw [Nat.pow_succ];generalize 10 ^ i=P at h ⊢;omega)
   rw [show i + 1 + f=i + (f + 1) by omega] at this
   exact this
  ·rw [if_neg hc]
   exact ⟨by show i ≤ i + (f + 1);omega,Nat.lt_of_lt_of_le h (Nat.pow_le_pow_right (by omega) (by omega))⟩
theorem digR_range (l:List UInt8):(digR 6 l 0 0).2 ≤ 6 ∧ (digR 6 l 0 0).1 < 1000000:=digR_boundG 6 l 0 0 (by decide)
theorem digN_range (l:List UInt8):0 ≤ digN l ∧ digN l < 1000000:=by
 have:=digR_range l
 unfold digN
 omega
theorem stepN_range (l:List UInt8):-1000000 < stepN l ∧ stepN l < 1000000:=by
 cases l with
 | nil=>exact ⟨by decide,by decide⟩
 | cons c r =>
  have:=digN_range r
  show -1000000 < (if c=45 then -digN r else digN r) ∧ (if c=45 then -digN r else digN r) < 1000000
  split <;> omega
theorem ev_j3G (X:List ByteArray) (acc:List S37) (n:Int) (ws:List ByteArray) (lev i sg:Int) (t:ByteArray) (st hr:Int) (lv:List Int) (R:RT) (hl:lv.length ≤ 1000000)
  (next:Ev (fun k=>if i=0 then rf_ReadGauge.l1 k X acc n ws lev (wrap64 (i + 1)) (digN t.data.toList) hr lv else if i=1 then rf_ReadGauge.l1 k X acc n ws lev (wrap64 (i + 1)) st (digN t.data.toList) lv else rf_ReadGauge.l1 k X acc n ws (wrap64 (lev + wrap64 (sg * digN t.data.toList))) (wrap64 (i + 1)) st hr (lv ++ [wrap64 (lev + wrap64 (sg * digN t.data.toList))])) R) :
  Ev (fun k=>rf_ReadGauge.j3 k X acc n ws lev i sg t st hr lv) R:=by
 refine Ev.step (fun k=>by simp only [rf_ReadGauge.j3];rfl) (Ev.bind (ev_digits t) (Ev.congr (fun k=>?_) next))
 by_cases h0:i=0
 ·rw [if_pos h0,if_pos h0];rfl
 ·rw [if_neg h0,if_neg h0]
  by_cases h1:i=1
  ·rw [if_pos h1,if_pos h1];rfl
  ·rw [if_neg h1,if_neg h1,if_pos (by omega)];rfl
theorem l1_j2 (X:List ByteArray) (acc:List S37) (n:Int) (ws:List ByteArray) (lev:Int) (i:Nat) (st hr:Int) (lv:List Int) (w:ByteArray) (hlt:i + 1 < ws.length) (hw:ws[i]?=some w) (hws:ws.length ≤ 1000000) (k:Nat) :
  rf_ReadGauge.l1 (k + 1) X acc n ws lev (i:Int) st hr lv=if (i:Int) > 2 then rf_ReadGauge.j2 k X acc n ws lev (i:Int) 1 w (w.toList != []) st hr lv else rf_ReadGauge.j2 k X acc n ws lev (i:Int) 1 w false st hr lv:=by
 have e:rdOf ByteArray.empty ws (i:Int)=w:=by
  unfold rdOf
  rw [Int.toNat_natCast,List.getD_eq_getElem?_getD,hw]
  rfl
 have ew:wrap64 ((ws.length:Int) - 1)=((ws.length - 1:Nat):Int):=by unfold wrap64;omega
 simp only [rf_ReadGauge.l1]
 rw [ew,if_pos (by omega),if_pos (by omega),if_pos (by omega),e]
theorem ev_head (X:List ByteArray) (acc:List S37) (n:Int) (ws:List ByteArray) (lev:Int) (i:Nat) (st hr:Int) (lv:List Int) (w:ByteArray) (R:RT) (hi:i ≤ 2) (hlt:i + 1 < ws.length) (hw:ws[i]?=some w) (hws:ws.length ≤ 1000000) (hl:lv.length ≤ 1000000)
  (next:Ev (fun k=>if (i:Int)=0 then rf_ReadGauge.l1 k X acc n ws lev ((i + 1:Nat):Int) (digN w.data.toList) hr lv else if (i:Int)=1 then rf_ReadGauge.l1 k X acc n ws lev ((i + 1:Nat):Int) st (digN w.data.toList) lv else rf_ReadGauge.l1 k X acc n ws (wrap64 (lev + wrap64 (1 * digN w.data.toList))) ((i + 1:Nat):Int) st hr (lv ++ [wrap64 (lev + wrap64 (1 * digN w.data.toList))])) R) :
  Ev (fun k=>rf_ReadGauge.l1 k X acc n ws lev (i:Int) st hr lv) R:=by
 refine Ev.step (f:=fun k=>rf_ReadGauge.j2 k X acc n ws lev (i:Int) 1 w false st hr lv) (fun k=>by rw [l1_j2 X acc n ws lev i st hr lv w hlt hw hws k,if_neg (by omega)]) ?_
 refine Ev.step (f:=fun k=>rf_ReadGauge.j3 k X acc n ws lev (i:Int) 1 w st hr lv) (fun k=>by simp only [rf_ReadGauge.j2];rw [if_neg (by simp)]) ?_
 refine ev_j3G X acc n ws lev (i:Int) 1 w st hr lv R hl ?_
 rw [wrap_nat (by omega)]
 exact next
theorem ev_later (X:List ByteArray) (acc:List S37) (n:Int) (ws:List ByteArray) (lev:Int) (i:Nat) (st hr:Int) (lv:List Int) (w:ByteArray) (R:RT) (hi:2 < i) (hlt:i + 1 < ws.length) (hw:ws[i]?=some w) (hws:ws.length ≤ 1000000) (hl:lv.length ≤ 1000000)
  (hlev:-(1000000 * (i:Int)) ≤ lev ∧ lev ≤ 1000000 * (i:Int))
  (next:Ev (fun k=>rf_ReadGauge.l1 k X acc n ws (lev + stepN w.data.toList) ((i + 1:Nat):Int) st hr (lv ++ [lev + stepN w.data.toList])) R) :
  Ev (fun k=>rf_ReadGauge.l1 k X acc n ws lev (i:Int) st hr lv) R:=by
 refine Ev.step (f:=fun k=>rf_ReadGauge.j2 k X acc n ws lev (i:Int) 1 w (w.toList != []) st hr lv) (fun k=>by rw [l1_j2 X acc n ws lev i st hr lv w hlt hw hws k,if_pos (by omega)]) ?_
 have fin:∀ (sg:Int) (t:ByteArray),sg * digN t.data.toList=stepN w.data.toList → Ev (fun k=>rf_ReadGauge.j3 k X acc n ws lev (i:Int) sg t st hr lv) R:=by
  intro sg t hst
  have hr':=stepN_range w.data.toList
  refine ev_j3G X acc n ws lev (i:Int) sg t st hr lv R hl (Ev.congr (fun k=>?_) next)
  rw [if_neg (by omega),if_neg (by omega),hst,wrap_nat (by omega),show wrap64 (stepN w.data.toList)=stepN w.data.toList by unfold wrap64;omega,show wrap64 (lev + stepN w.data.toList)=lev + stepN w.data.toList by unfold wrap64;omega]
 have htl:w.toList=w.data.toList:=ByteArray.toList_eq w
 cases e:w.data.toList with
 | nil =>
  have hb:(w.toList != [])=false:=by rw [htl,e];rfl
  rw [hb]
  refine Ev.step (f:=fun k=>rf_ReadGauge.j3 k X acc n ws lev (i:Int) 1 w st hr lv) (fun k=>by simp only [rf_ReadGauge.j2];rw [if_neg (by simp)]) (fin 1 w ?_)
  rw [e]
  rfl
 | cons c r =>
  have hb:(w.toList != [])=true:=by rw [htl,e];rfl
  have hsz:w.size=r.length + 1:=by rw [← len_list,e];rfl
  have hbt:=bt_cons e
  have hx:(w.extract 1 w.size).data.toList=r:=by rw [extract_list _ _ _ (Nat.le_refl _),e,List.drop_one,List.tail_cons,hsz];exact List.take_of_length_le (by omega)
  rw [hb]
  by_cases hc:c=45
  ·refine Ev.step (f:=fun k=>rf_ReadGauge.j3 k X acc n ws lev (i:Int) (-1) (w.extract 1 w.size) st hr lv) (fun k=>?_) (fin (-1) _ ?_)
   ·simp only [rf_ReadGauge.j2]
    rw [if_pos trivial,if_pos (by omega),if_pos (by rw [hbt,hc];rfl),if_pos (by omega)]
   ·rw [hx,e]
    show -1 * digN r=if c=45 then -digN r else digN r
    rw [if_pos hc];omega
  ·refine Ev.step (f:=fun k=>rf_ReadGauge.j3 k X acc n ws lev (i:Int) 1 (w.extract 1 w.size) st hr lv) (fun k=>?_) (fin 1 _ ?_)
   ·have hne:¬ bt w 0=45:=by
     rw [hbt]
     intro h
     apply hc
     apply UInt8.toNat_inj.1
     have:(45:UInt8).toNat=45:=rfl
     omega
    simp only [rf_ReadGauge.j2]
    rw [if_pos trivial,if_pos (by omega),if_neg hne,if_pos (by omega)]
   ·rw [hx,e]
    show 1 * digN r=if c=45 then -digN r else digN r
    rw [if_neg hc];omega
theorem ev_levelsR (X:List ByteArray) (acc:List S37) (n:Int) (ws:List ByteArray) (st hr:Int) (R:RT) (hws:ws.length ≤ 1000000):∀ (r:List ByteArray) (i:Nat) (lev:Int) (lv:List Int),
  2 < i → i + r.length + 1=ws.length → (∀ j,j < r.length → ws[i + j]?=r[j]?) → lv.length ≤ i → (-(1000000 * (i:Int)) ≤ lev ∧ lev ≤ 1000000 * (i:Int)) →
  (∀ lev',Ev (fun k=>rf_ReadGauge.l1 k X acc n ws lev' ((i + r.length:Nat):Int) st hr (refL lev lv r)) R) →
  Ev (fun k=>rf_ReadGauge.l1 k X acc n ws lev (i:Int) st hr lv) R
 | [],i,lev,lv,hi,hlen,hat,hl,hlev,hE=>by have:=hE lev;simpa [refL] using this
 | w :: r,i,lev,lv,hi,hlen,hat,hl,hlev,hE=>by
  rw [List.length_cons] at hlen
  have hr':=stepN_range w.data.toList
  refine ev_later X acc n ws lev i st hr lv w R hi (by omega) (by have:=hat 0 (by simp);simpa using this) hws (by omega) hlev ?_
  refine ev_levelsR X acc n ws st hr R hws r (i + 1) _ _ (by omega) (by omega) (fun j hj=>by have:=hat (j + 1) (by rw [List.length_cons];omega);rw [← Nat.add_assoc] at this;rw [show i + 1 + j=i + j + 1 by omega,this];rfl) (by rw [List.length_append,List.length_singleton];omega) (by omega) (fun lev'=>?_)
  have:=hE lev'
  rw [List.length_cons] at this
  rw [show i + 1 + r.length=i + (r.length + 1) by omega]
  exact this
theorem ev_wordsG (X:List ByteArray) (acc:List S37) (n:Int) (ws W:List ByteArray) (z:ByteArray) (R:RT) (he:ws=W ++ [z]) (hws:ws.length ≤ 1000000)
  (hE:∀ lev,Ev (fun k=>rf_ReadGauge.l1 k X acc n ws lev (W.length:Int) (refG W).f0 (refG W).f1 (refG W).f2) R) :
  Ev (fun k=>rf_ReadGauge.l1 k X acc n ws 0 0 0 0 []) R:=by
 have hlen:ws.length=W.length + 1:=by rw [he];simp
 have hat:∀ j,j < W.length → ws[j]?=W[j]?:=fun j hj=>by rw [he,List.getElem?_append_left hj]
 have h0:Ev (fun k=>rf_ReadGauge.l1 k X acc n ws 0 ((0:Nat):Int) 0 0 []) R:=by
  match W,hlen,hat,hE with
  | [],hlen,hat,hE=>exact hE 0
  | [a],hlen,hat,hE =>
   refine ev_head X acc n ws 0 0 0 0 [] a R (by omega) (by simp only [List.length_cons,List.length_nil] at hlen;omega) (hat 0 (by simp)) hws (by simp) ?_
   exact Ev.congr (fun k=>if_pos rfl) (hE 0)
  | [a,b],hlen,hat,hE =>
   simp only [List.length_cons,List.length_nil] at hlen
   refine ev_head X acc n ws 0 0 0 0 [] a R (by omega) (by omega) (hat 0 (by simp)) hws (by simp) ?_
   refine Ev.congr (fun k=>if_pos rfl) ?_
   refine ev_head X acc n ws 0 1 (digN a.data.toList) 0 [] b R (by omega) (by omega) (hat 1 (by simp)) hws (by simp) ?_
   refine Ev.congr (fun k=>by rw [if_neg (by omega),if_pos (by omega)];rfl) (hE 0)
  | a :: b :: c :: r,hlen,hat,hE =>
   simp only [List.length_cons] at hlen
   have hc:=digN_range c.data.toList
   refine ev_head X acc n ws 0 0 0 0 [] a R (by omega) (by omega) (hat 0 (by simp)) hws (by simp) ?_
   refine Ev.congr (fun k=>if_pos rfl) ?_
   refine ev_head X acc n ws 0 1 (digN a.data.toList) 0 [] b R (by omega) (by omega) (hat 1 (by simp)) hws (by simp) ?_
   refine Ev.congr (fun k=>by rw [if_neg (by omega),if_pos (by omega)]) ?_
   refine ev_head X acc n ws 0 2 (digN a.data.toList) (digN b.data.toList) [] c R (by omega) (by omega) (hat 2 (by simp)) hws (by simp) ?_
   have hwr:wrap64 (0 + wrap64 (1 * digN c.data.toList))=digN c.data.toList:=by rw [Int.one_mul,Int.zero_add,show wrap64 (digN c.data.toList)=digN c.data.toList by unfold wrap64;omega];unfold wrap64;omega
   refine Ev.congr (fun k=>by rw [if_neg (by omega),if_neg (by omega),hwr]) ?_
   refine ev_levelsR X acc n ws (digN a.data.toList) (digN b.data.toList) R hws r 3 _ _ (by omega) (by omega) (fun j hj=>by have:=hat (3 + j) (by simp only [List.length_cons];omega);rw [this,show 3 + j=j + 1 + 1 + 1 by omega];rfl) (by simp) (by omega) (fun lev'=>?_)
   have:=hE lev'
   simp only [List.length_cons] at this
   rw [show 3 + r.length=r.length + 1 + 1 + 1 by omega]
   exact this
 exact h0
end Go.Proofs.Lg
namespace Go.Proofs.Lg
open Go.RowKit Go.Lib Go.Proofs.YtdomcbebbhbdlaaGreatDoorW.PrintWords Go.Proofs.YtdomcbebbhbdlaaGreatDoorW.PrintLast Go.Proofs.YtdomcbebbhbdlaaGreatDoorW.PrintMore Go.Proofs.YtdomcbebbhbdlaaGreatDoor.PLogsGauges Go.Proofs.YtdomcbebbhbdlaaGreatDoor
theorem refL_len:∀ (r:List ByteArray) (lev:Int) (lv:List Int),(refL lev lv r).length=lv.length + r.length
 | [],lev,lv=>rfl
 | w :: r,lev,lv=>by
  unfold refL
  rw [refL_len r,List.length_append,List.length_singleton,List.length_cons]
  omega
theorem refG_len (W:List ByteArray):(refG W).f2.length ≤ W.length:=by
 match W with
 | []=>exact Nat.le_refl _
 | [a]=>exact Nat.zero_le _
 | [a,b]=>exact Nat.zero_le _
 | a :: b :: c :: r =>
  show (refL _ _ r).length ≤ _
  rw [refL_len]
  simp only [List.length_cons,List.length_nil]
  omega
def goRG:List S37 → List ByteArray → List S37 × Int × Int
 | acc,[]=>(acc,0,0)
 | acc,x :: r=>if lineRG x=0 then (if afterG (lastFG acc) (refG (initW x)) then goRG (acc ++ [refG (initW x)]) r else ([],(acc.length:Int),6)) else ([],(acc.length:Int),lineRG x)
theorem ev_j4G (X:List ByteArray) (acc:List S37) (b:Bool) (y:S37) (r:RT) (hacc:acc.length ≤ 1000000)
  (h1:b=true → r=([],(acc.length:Int),4)) (h2:b=false → afterG (lastFG acc) y=false → r=([],(acc.length:Int),6))
  (h3:b=false → afterG (lastFG acc) y=true → Ev (fun k=>rf_ReadGauge.l0 k X (acc ++ [y]) ((acc.length + 1:Nat):Int)) r) :
  Ev (fun k=>rf_ReadGauge.j4 k X acc (acc.length:Int) b y.f0 y.f1 y.f2) r:=by
 cases b with
 | true =>
  rw [h1 rfl]
  exact Ev.step (f:=fun _=>some _) (fun k=>by simp only [rf_ReadGauge.j4];rw [if_pos trivial]) (Ev.now _)
 | false =>
  by_cases h0:acc.length=0
  ·have hnil:acc=[]:=List.length_eq_zero_iff.1 h0
   have ha:afterG (lastFG acc) y=true:=by rw [hnil];rfl
   refine Ev.step (fun k=>?_) (h3 rfl ha)
   simp only [rf_ReadGauge.j4]
   rw [if_neg (by simp),if_neg (by omega),if_pos (by omega),wrap_nat (by omega)]
  ·obtain ⟨j,hj⟩:∃ j,acc.length=j + 1:=⟨acc.length - 1,by omega⟩
   have hla:=lastFG_at hj
   have hw:wrap64 ((acc.length:Int) - 1)=(j:Int):=by unfold wrap64;omega
   have hab:afterG (lastFG acc) y=afterB (rd_T37 acc (j:Int)) y:=by rw [hla];rfl
   cases hlt:afterB (rd_T37 acc (j:Int)) y with
   | true =>
    refine Ev.step (fun k=>?_) (h3 rfl (by rw [hab,hlt]))
    simp only [rf_ReadGauge.j4]
    rw [if_neg (by simp),if_pos (by omega),hw,if_pos (by omega),if_pos (by omega),after_R,hlt,Option.bind_some,if_pos rfl,if_pos (by omega),wrap_nat (by omega)]
   | false =>
    rw [h2 rfl (by rw [hab,hlt])]
    refine Ev.step (f:=fun _=>some _) (fun k=>?_) (Ev.now _)
    simp only [rf_ReadGauge.j4]
    rw [if_neg (by simp),if_pos (by omega),hw,if_pos (by omega),if_pos (by omega),after_R,hlt,Option.bind_some,if_neg (by simp)]
theorem ev_endG (X:List ByteArray) (acc:List S37) (ws:List ByteArray) (m:Nat) (lev:Int) (y:S37) (x:ByteArray) (r:RT) (hm:ws.length=m + 1) (hws:ws.length ≤ 1000000) (hacc:acc.length < X.length) (hX:X.length ≤ 1000000) (hx:X[acc.length]=x) (hxs:x.size ≤ 1000000) (hy:y.f2.length ≤ 1000000)
  (h1:¬ (isG y=true ∧ gaugeS y=x ++ ⟨#[10]⟩) → r=([],(acc.length:Int),4))
  (h2:isG y=true → gaugeS y=x ++ ⟨#[10]⟩ → afterG (lastFG acc) y=false → r=([],(acc.length:Int),6))
  (h3:isG y=true → gaugeS y=x ++ ⟨#[10]⟩ → afterG (lastFG acc) y=true → Ev (fun k=>rf_ReadGauge.l0 k X (acc ++ [y]) ((acc.length + 1:Nat):Int)) r) :
  Ev (fun k=>rf_ReadGauge.l1 k X acc (acc.length:Int) ws lev (m:Int) y.f0 y.f1 y.f2) r:=by
 have ew:wrap64 ((ws.length:Int) - 1)=(m:Int):=by unfold wrap64;omega
 refine Ev.step (fun k=>by simp only [rf_ReadGauge.l1];rw [ew,if_neg (by omega)]) ?_
 refine Ev.bind (ev_gaugeR y hy) ?_
 cases hb:isG y with
 | false =>
  simp only [Bool.false_eq_true,if_false]
  exact ev_j4G X acc true y r (by omega) (fun _=>h1 (fun h=>by rw [hb] at h;exact absurd h.1 (by simp))) (fun h=>by cases h) (fun h=>by cases h)
 | true =>
  simp only [if_true]
  refine Ev.bind (ev_gtext y (smallG_of hb)) ?_
  have hrx:rdOf ByteArray.empty X (acc.length:Int)=x:=by
   unfold rdOf
   rw [Int.toNat_natCast,List.getD_eq_getElem?_getD,List.getElem?_eq_getElem hacc,hx]
   rfl
  rw [hrx]
  refine Ev.congr (f:=fun k=>rf_ReadGauge.j4 k X acc (acc.length:Int) ((gaugeS y).toList != (x ++ ⟨#[10]⟩).toList) y.f0 y.f1 y.f2) (fun k=>?_) ?_
  ·rw [if_pos (by omega),if_pos (by omega),if_pos (by omega)]
  ·by_cases he:gaugeS y=x ++ ⟨#[10]⟩
   ·have hbe:((gaugeS y).toList != (x ++ ⟨#[10]⟩).toList)=false:=by rw [he];exact bne_self_eq_false _
    rw [hbe]
    exact ev_j4G X acc false y r (by omega) (fun h=>by cases h) (fun _=>h2 hb he) (fun _=>h3 hb he)
   ·have hbe:((gaugeS y).toList != (x ++ ⟨#[10]⟩).toList)=true:=bne_iff_ne.2 (fun h=>he (toList_inj h))
    rw [hbe]
    exact ev_j4G X acc true y r (by omega) (fun _=>h1 (fun h=>he h.2)) (fun h=>by cases h) (fun h=>by cases h)
theorem check_form {x:ByteArray} (h:checkR x=0):formed x=true:=by
 cases e:formed x with
 | true=>rfl
 | false=>unfold checkR at h;rw [e] at h;exact absurd h (by simp)
theorem ev_linesG_loop (X:List ByteArray) (hX:X.length ≤ 1000000) (hXs:∀ x ∈ X,x.size ≤ 130000) :
  ∀ (rest:List ByteArray) (acc:List S37),X.drop acc.length=rest → acc.length ≤ X.length → Ev (fun k=>rf_ReadGauge.l0 k X acc (acc.length:Int)) (goRG acc rest):=by
 intro rest
 induction rest with
 | nil =>
  intro acc hd hle
  have hlen:X.length ≤ acc.length:=List.drop_eq_nil_iff.1 hd
  refine Ev.step (f:=fun _=>some _) (fun k=>?_) (Ev.now _)
  simp only [rf_ReadGauge.l0]
  rw [if_neg (by omega)]
  rfl
 | cons x rest ih =>
  intro acc hd hle
  have hlt:acc.length < X.length:=by
   apply Classical.byContradiction
   intro h
   rw [List.drop_eq_nil_of_le (by omega)] at hd
   cases hd
  have hx:X[acc.length]=x:=by
   have:=List.drop_eq_getElem_cons hlt
   rw [hd] at this
   exact (List.cons.inj this).1.symm
  have hrest:X.drop (acc.length + 1)=rest:=by
   have:=List.drop_eq_getElem_cons hlt
   rw [hd] at this
   exact (List.cons.inj this).2.symm
  have hrx:rdOf ByteArray.empty X (acc.length:Int)=x:=by
   unfold rdOf
   rw [Int.toNat_natCast,List.getD_eq_getElem?_getD,List.getElem?_eq_getElem hlt,hx]
   rfl
  have hxs:x.size ≤ 130000:=hXs x (by rw [← hx];exact List.getElem_mem hlt)
  rw [goRG]
  refine Ev.step (f:=fun k=>(rf_Checked.f k x).bind fun t173=>_) (fun k=>by
   simp only [rf_ReadGauge.l0]
   rw [if_pos (by omega),if_pos (by omega),hrx]) ?_
  refine Ev.bind (ev_checkedG x (by omega)) ?_
  by_cases hc:checkR x=0
  ·have hlr:lineRG x=if isG (refG (initW x)) then (if gaugeS (refG (initW x))=x ++ ⟨#[10]⟩ then 0 else 4) else 4:=by unfold lineRG;rw [if_pos hc]
   simp only [if_pos hc]
   refine Ev.bind (ev_words x (by omega)) ?_
   obtain ⟨hm,_⟩:=formed_mem (check_form hc)
   obtain ⟨q,hq,hxx,hwo⟩:=init_join hm
   have hwl:(wordsOf x).length ≤ 130001:=by
    rw [words_mk,List.length_map,spl_len]
    have:=List.count_le_length (a:=(32:UInt8)) (l:=x.data.toList)
    rw [len_list] at this
    omega
   have hwl2:(wordsOf x).length=(initW x).length + 1:=by rw [hwo];simp
   refine ev_wordsG X acc (acc.length:Int) (wordsOf x) (initW x) (mkB q) _ hwo (by omega) (fun lev=>?_)
   have hyl:(refG (initW x)).f2.length ≤ 1000000:=by have:=refG_len (initW x);omega
   generalize refG (initW x)=y at hlr hyl ⊢
   refine ev_endG X acc (wordsOf x) (initW x).length lev y x _ hwl2 (by omega) hlt hX hx (by omega) hyl ?_ ?_ ?_
   ·intro h
    have e:lineRG x=4:=by
     rw [hlr]
     cases hb:isG y with
     | false=>rfl
     | true =>
      rw [if_pos rfl,if_neg (fun he=>h ⟨hb,he⟩)]
    rw [e]
    rfl
   ·intro hb he ha
    rw [hlr,hb,if_pos rfl,if_pos he,if_pos rfl,ha]
    rfl
   ·intro hb he ha
    rw [hlr,hb,if_pos rfl,if_pos he,if_pos rfl,ha,if_pos rfl]
    have:=ih (acc ++ [y]) (by rw [List.length_append,List.length_singleton];exact hrest) (by rw [List.length_append,List.length_singleton];omega)
    rw [List.length_append,List.length_singleton] at this
    exact this
  ·have hlr:lineRG x=checkR x:=by unfold lineRG;rw [if_neg hc]
   rw [hlr,if_neg hc]
   exact Ev.congr (f:=fun _=>some _) (fun k=>if_neg hc) (Ev.now _)
theorem go_sameG:∀ (L:List ByteArray) (acc:List S37),goG acc L=goRG acc (L.map trimN)
 | [],acc=>rfl
 | x :: r,acc=>by
  obtain ⟨h1,h2⟩:=line_sameG (trimN x)
  rw [List.map_cons,goG,goRG,h1]
  by_cases h0:lineRG (trimN x)=0
  ·rw [if_pos h0,if_pos h0,h2 h0,go_sameG r]
  ·rw [if_neg h0,if_neg h0]
theorem go_boundG:∀ (L:List ByteArray) (acc:List S37),(∀ x ∈ acc,x.f2.length ≤ 24) → (goRG acc L).1.length ≤ acc.length + L.length ∧ ∀ x ∈ (goRG acc L).1,x.f2.length ≤ 24
 | [],acc,h=>⟨Nat.le_refl _,h⟩
 | x :: r,acc,h=>by
  rw [goRG]
  have zero:(([]:List S37)).length ≤ acc.length + (x :: r).length ∧ ∀ x ∈ ([]:List S37),x.f2.length ≤ 24:=⟨Nat.zero_le _,fun x hx=>by simp at hx⟩
  by_cases h0:lineRG x=0
  ·rw [if_pos h0]
   by_cases ha:afterG (lastFG acc) (refG (initW x))=true
   ·rw [if_pos ha]
    have hb:isG (refG (initW x))=true:=by
     unfold lineRG at h0
     by_cases hc:checkR x=0
     ·rw [if_pos hc] at h0
      by_cases hb:isG (refG (initW x))=true
      ·exact hb
      ·rw [if_neg hb] at h0;exact absurd h0 (by decide)
     ·rw [if_neg hc] at h0;exact absurd h0 hc
    have hlen:=(smallG_of hb).l2
    have:=go_boundG r (acc ++ [refG (initW x)]) (fun y hy=>by
     rcases List.mem_append.1 hy with hy | hy
     ·exact h y hy
     ·rw [List.mem_singleton] at hy;subst hy;exact hlen)
    rw [List.length_append,List.length_singleton] at this
    exact ⟨by simp only [List.length_cons];omega,this.2⟩
   ·rw [if_neg ha];exact zero
  ·rw [if_neg h0];exact zero
theorem things_boundG (s:ByteArray):(thingsG s).1.length ≤ s.size + 1 ∧ ∀ x ∈ (thingsG s).1,x.f2.length ≤ 24:=by
 have zero:(([]:List S37)).length ≤ s.size + 1 ∧ ∀ x ∈ ([]:List S37),x.f2.length ≤ 24:=⟨Nat.zero_le _,fun x hx=>by simp at hx⟩
 unfold thingsG
 split
 ·exact zero
 ·split
  ·exact zero
  ·split
   ·exact zero
   ·rw [go_sameG]
    have h:=go_boundG ((linesOf s).map trimN) [] (fun x hx=>by simp at hx)
    have h2:=linesF_len (s.size + 1) s
    rw [List.length_map,List.length_nil] at h
    unfold linesOf at h ⊢
    exact ⟨by omega,h.2⟩
theorem trim_mkG (p:List UInt8):trimN (mkB (p ++ [10]))=mkB p:=by
 unfold trimN
 rw [mkB_list]
 have e:Lib.trimSuffix (p ++ [10]) [10]=p:=by
  unfold Lib.trimSuffix Lib.hasSuffix
  rw [if_pos (by simp)]
  simp
 rw [e]
 rfl
theorem lines_splG:∀ (k:Nat) (s:ByteArray),s.size < k → (s.data.toList=[] ∨ s.data.toList.getLast?=some 10) → (linesF k s).map trimN=((spl 10 s.data.toList).dropLast).map mkB
 | 0,s,h,_=>absurd h (Nat.not_lt_zero _)
 | k + 1,s,h,hl=>by
  rw [linesF]
  by_cases h0:s.size=0
  ·have e:s.data.toList=[]:=List.length_eq_zero_iff.1 (by rw [len_list];exact h0)
   rw [if_pos h0,e]
   rfl
  ·rw [if_neg h0]
   have hne:s.data.toList ≠ []:=by
    intro e
    exact h0 (by rw [← len_list,e];rfl)
   have hlast:s.data.toList.getLast?=some 10:=by rcases hl with h | h;exact absurd h hne;exact h
   have hmem:(10:UInt8) ∈ s.data.toList:=List.mem_of_getLast? hlast
   rcases index_cases s.data.toList 10 with hi | ⟨i,hi⟩
   ·exact absurd hmem (byte_none hi)
   ·have hlt:=indexByte_lt hi
    obtain ⟨hs,hc⟩:=byte_split hi
    rw [hi,if_pos (by omega),Int.toNat_natCast]
    have hx:s.extract 0 (i + 1)=mkB (s.data.toList.take i ++ [10]):=by
     apply mkB_inj
     rw [extract_list _ _ _ (by omega),List.drop_zero,Nat.sub_zero]
     conv=>lhs;rw [hs]
     have hl:(s.data.toList.take i).length=i:=by rw [List.length_take,len_list];omega
     have e:s.data.toList.take i ++ 10 :: s.data.toList.drop (i + 1)=(s.data.toList.take i ++ [10]) ++ s.data.toList.drop (i + 1):=by simp
     rw [e]
     exact List.take_left' (by rw [List.length_append,hl];rfl)
    have hr:(s.extract (i + 1) s.size).data.toList=s.data.toList.drop (i + 1):=by
     rw [extract_list _ _ _ (Nat.le_refl _),List.take_of_length_le (by rw [List.length_drop,len_list];omega)]
    have hrs:(s.extract (i + 1) s.size).size < k:=by rw [ByteArray.size_extract];omega
    have hrl:(s.extract (i + 1) s.size).data.toList=[] ∨ (s.extract (i + 1) s.size).data.toList.getLast?=some 10:=by
     rw [hr]
     by_cases hd:s.data.toList.drop (i + 1)=[]
     ·exact .inl hd
     ·right
      rw [hs,List.getLast?_append,List.getLast?_cons] at hlast
      have:s.data.toList.drop (i + 1) ≠ []:=hd
      generalize s.data.toList.drop (i + 1)=R at hlast this
      cases R with
      | nil=>exact absurd rfl this
      | cons c R =>
       simpa [List.getLast?_cons] using hlast
    rw [List.map_cons,hx,trim_mkG,lines_splG k _ hrs hrl,hr]
    have hsp:spl 10 s.data.toList=s.data.toList.take i :: spl 10 (s.data.toList.drop (i + 1)):=by
     conv=>lhs;rw [hs]
     exact spl_hit _ hc
    rw [hsp,List.dropLast_cons_of_ne_nil (spl_ne _ _),List.map_cons]
theorem suffix_lastG (l:List UInt8) (h:l ≠ []):Lib.hasSuffix l [10]=decide (l.getLast?=some 10):=by
 have hc:=List.dropLast_concat_getLast h
 generalize l.dropLast=p at hc
 generalize l.getLast h=c at hc
 rw [← hc]
 unfold Lib.hasSuffix
 by_cases h10:c=10
 ·subst h10;simp
 ·have e:List.isSuffixOf [10] (p ++ [c])=false:=by
   rw [Bool.eq_false_iff]
   intro hs
   rw [List.isSuffixOf_iff_suffix] at hs
   obtain ⟨t,ht⟩:=hs
   have:=congrArg List.getLast? ht
   simp at this
   exact h10 this.symm
  rw [e]
  simp [h10]
theorem ev_readG (s:ByteArray) (hs:s.size ≤ 130000):Ev (fun k=>rf_ReadGauge.f k s) (thingsG s):=by
 unfold rf_ReadGauge.f thingsG
 refine Ev.bind (ev_lines s (by omega)) ?_
 unfold linesR
 by_cases hbig:120000 < s.size
 ·rw [if_pos hbig,if_pos hbig]
  exact Ev.congr (f:=fun _=>some _) (fun k=>if_neg (by simp)) (Ev.now _)
 ·rw [if_neg hbig,if_neg hbig]
  have hcond:(s.data.toList ≠ [] ∧ Lib.hasSuffix s.data.toList [10]=false) ↔ (s.data.toList ≠ [] ∧ s.data.toList.getLast? ≠ some 10):=by
   constructor
   ·rintro ⟨h1,h2⟩
    rw [suffix_lastG _ h1] at h2
    exact ⟨h1,of_decide_eq_false h2⟩
   ·rintro ⟨h1,h2⟩
    exact ⟨h1,by rw [suffix_lastG _ h1];exact decide_eq_false h2⟩
  by_cases hend:s.data.toList ≠ [] ∧ s.data.toList.getLast? ≠ some 10
  ·rw [if_pos hend,if_pos (hcond.2 hend)]
   exact Ev.congr (f:=fun _=>some _) (fun k=>if_neg (by simp)) (Ev.now _)
  ·rw [if_neg hend,if_neg (fun h=>hend (hcond.1 h))]
   unfold Lib.countByte
   by_cases hmany:200 < s.data.toList.count 10
   ·rw [if_pos hmany,if_pos hmany]
    exact Ev.congr (f:=fun _=>some _) (fun k=>if_neg (by simp)) (Ev.now _)
   ·rw [if_neg hmany,if_neg hmany]
    have hl:s.data.toList=[] ∨ s.data.toList.getLast?=some 10:=by
     by_cases h1:s.data.toList=[]
     ·exact .inl h1
     ·right
      apply Classical.byContradiction
      intro h2
      exact hend ⟨h1,h2⟩
    have hL:=lines_splG (s.size + 1) s (Nat.lt_succ_self _) hl
    unfold linesOf
    rw [go_sameG,hL]
    have hlen:(((spl 10 s.data.toList).dropLast).map mkB).length ≤ 200:=by
     rw [List.length_map,List.length_dropLast,spl_len]
     omega
    have hsz:∀ x ∈ ((spl 10 s.data.toList).dropLast).map mkB,x.size ≤ 130000:=by
     intro x hx
     rw [← hL] at hx
     obtain ⟨y,hy,rfl⟩:=List.mem_map.1 hx
     have h1:=linesF_mem (s.size + 1) s y hy
     have h2:=trimN_size y
     omega
    simp only [if_true]
    exact ev_linesG_loop _ (by omega) hsz _ [] rfl (Nat.zero_le _)
theorem ev_lawG (l:List S37) (s:ByteArray):Ev (fun k=>lw_LogsGauges.f k l s) true:=by
 have loop:l.length ≤ 210 → s.size ≤ 130000 → ∀ d i,i + d=l.length → (∀ j (h:j < l.length),j < i → l[j].f2.length ≤ 40) → Ev (fun k=>lw_LogsGauges.l0 k l s (i:Int)) true:=by
  intro hl hs d
  induction d with
  | zero =>
   intro i hi hall
   have hseals:∀ x ∈ l,x.f2.length ≤ 40:=by
    intro x hx
    obtain ⟨j,hj,rfl⟩:=List.getElem_of_mem hx
    exact hall j hj (by omega)
   have hs6:∀ x ∈ l,x.f2.length ≤ 1000000:=fun x hx=>by have:=hseals x hx;omega
   have hw:logs_WriteGauge.f l=some (writeG l):=by
    unfold logs_WriteGauge.f
    rw [if_pos (List.all_eq_true.2 fun x hx=>decide_eq_true (hs6 x hx))]
   have hr:logs_ReadGauge.f s=some (thingsG s):=by
    unfold logs_ReadGauge.f
    rw [if_pos (by omega)]
   have hk:lw_known.f=some true:=rfl
   refine Ev.step (fun k=>by
    simp only [lw_LogsGauges.l0]
    rw [if_neg (by omega)]) ?_
   refine Ev.bind (ev_gauges l (by omega) hs6) ?_
   simp only [hw,hr,Option.bind_some]
   refine Ev.bind (ev_writeG l (by omega) hs6) ?_
   refine Ev.bind (ev_readG s (by omega)) ?_
   refine Ev.bind (ev_sameG l (by omega) (fun x hx=>by have:=hseals x hx;omega)) ?_
   simp only [if_true]
   obtain ⟨b1,b2⟩:=things_boundG s
   refine Ev.bind (ev_sameG (thingsG s).1 (by omega) (fun x hx=>by have:=b2 x hx;omega)) ?_
   simp only [if_true]
   rw [hk]
   exact Ev.now true
  | succ d ih =>
   intro i hi hall
   have hlt:i < l.length:=by omega
   have hrd:=rdG_nat l hlt
   by_cases h40:l[i].f2.length ≤ 40
   ·refine Ev.step (fun k=>?_) (ih (i + 1) (by omega) (fun j hj hji=>by
     by_cases h:j=i
     ·subst h;exact h40
     ·exact hall j hj (by omega)))
    simp only [lw_LogsGauges.l0]
    rw [if_pos (by omega),if_pos (by omega),hrd,if_neg (by omega),wrap_nat (by omega)]
   ·refine Ev.step (f:=fun _=>some true) (fun k=>?_) (Ev.now _)
    simp only [lw_LogsGauges.l0]
    rw [if_pos (by omega),if_pos (by omega),hrd,if_pos (by omega)]
    rfl
 have hk:lw_known.f=some true:=rfl
 have hj:∀ b:Bool,(b=false → l.length ≤ 210 ∧ s.size ≤ 130000) → Ev (fun k=>lw_LogsGauges.j0 k l s b) true:=by
  intro b hb
  cases b with
  | true =>
   refine Ev.step (f:=fun _=>some true) (fun k=>?_) (Ev.now _)
   simp only [lw_LogsGauges.j0]
   rw [if_pos trivial]
   rfl
  | false =>
   obtain ⟨h1,h2⟩:=hb rfl
   refine Ev.step (fun k=>?_) (loop h1 h2 l.length 0 (by omega) (fun j _ hj=>absurd hj (Nat.not_lt_zero j)))
   simp only [lw_LogsGauges.j0]
   rw [if_neg (by simp)]
   rfl
 have hs:l.length ≤ 210 → Ev (fun k=>if (s.size:Int) > 3000 then (if (s.size:Int) ≤ 120000 then lw_LogsGauges.j0 k l s true else lw_LogsGauges.j0 k l s (decide ((s.size:Int) > 120100))) else lw_LogsGauges.j0 k l s (decide ((s.size:Int) > 120100))) true:=by
  intro hl
  by_cases h1:(s.size:Int) > 3000
  ·simp only [if_pos h1]
   by_cases h2:(s.size:Int) ≤ 120000
   ·simp only [if_pos h2]
    exact hj true (fun h=>by cases h)
   ·simp only [if_neg h2]
    exact hj _ (fun h=>by have:=of_decide_eq_false h;omega)
  ·simp only [if_neg h1]
   exact hj _ (fun h=>by have:=of_decide_eq_false h;omega)
 unfold lw_LogsGauges.f
 by_cases h30:(l.length:Int) > 30
 ·simp only [if_pos h30]
  by_cases h400:(l.length:Int) ≤ 200
  ·simp only [if_pos h400]
   exact hj true (fun h=>by cases h)
  ·simp only [if_neg h400]
   by_cases h210:(l.length:Int) > 210
   ·simp only [if_pos h210]
    exact hj true (fun h=>by cases h)
   ·simp only [if_neg h210]
    exact hs (by omega)
 ·simp only [if_neg h30]
  by_cases h210:(l.length:Int) > 210
  ·simp only [if_pos h210]
   exact hj true (fun h=>by cases h)
  ·simp only [if_neg h210]
   exact hs (by omega)
theorem law_trueG (l:List S37) (s:ByteArray):∃ k,lw_LogsGauges.f k l s=some true:=Ev.rounds (ev_lawG l s)
end Go.Proofs.Lg
namespace Go.Proofs.YtdomcbebbhbdlaaGreatDoor.LogsGaugesRow
open Go.ChangeShapes Go.WideShapes Go.ChangeAt Go.RowKit Go.Proofs.YtdomcbebbhbdlaaGreatDoorW.PrintWords Go.Proofs.YtdomcbebbhbdlaaGreatDoor.PLogsGauges
open Go.ChangeMaps (open_string shut_string)
theorem own:ownKnob Tryz.prog.godebug=none:=by kernel_rfl
theorem laidOut:laidOutB Tryz.prog=true:=by kernel_rfl
theorem cells3:Tryz.prog.cellsOf 3=1:=by kernel_rfl
theorem cells24:Tryz.prog.cellsOf 24=1:=by kernel_rfl
theorem cells37:Tryz.prog.cellsOf 37=3:=by kernel_rfl
theorem g64 : Tryz.prog.globalNamed "math/bits.deBruijn64tab" = some 7 := by kernel_rfl
theorem gTab : Tryz.prog.globalNamed "internal/strconv.uint64pow10" = some 5 := by kernel_rfl
theorem gSyn : Tryz.prog.globalNamed "strconv.ErrSyntax" = some 1 := by kernel_rfl
theorem gRng : Tryz.prog.globalNamed "strconv.ErrRange" = some 2 := by kernel_rfl
theorem plainLaid:(Rows.logsGaugesRow.laid.all fun x=>x.2.handleName?.isNone)=true:=by kernel_rfl
theorem cells_iface {W:World} {fuel:Nat} {t:TypeId} {ms:Array (String × TypeId)} {cs:List Value} {nm:String} {d:DataW Unit} {p:List MemPlace} (hi:Tryz.prog.underlying t=some (.interface ms))
  (h:DataW.trod (fun _=>()) Tryz.prog W 0 (fun _=>true) false fuel t cs=some (.iface nm d,p)):∃ u v,cs=[.iface u v]:=by
 obtain ⟨f1,u,v,rfl,_,_⟩:=iface_of_trod hi h
 exact ⟨u,v,rfl⟩
theorem tTab:(Tryz.prog.globals[5]?).map (·.type)=some 212:=by kernel_rfl
theorem tSyn:(Tryz.prog.globals[1]?).map (·.type)=some 107:=by kernel_rfl
theorem tRng:(Tryz.prog.globals[2]?).map (·.type)=some 107:=by kernel_rfl
theorem cElem:Tryz.prog.cellsOf 156=1:=by kernel_rfl
theorem cTab:Tryz.prog.cellsOf 212=20:=by kernel_rfl
theorem sent_cell {W:World} {n:String} {g:Nat} {t:TypeId} {ms:Array (String × TypeId)} {nm:String} {d:DataW Unit} (hg:Tryz.prog.globalNamed n=some g) (ht:(Tryz.prog.globals[g]?).map (·.type)=some t) (hi:Tryz.prog.underlying t=some (.interface ms))
  (h:Lib.VarReads Tryz.prog W n (.iface nm d)):∃ u v,W.cell? ⟨g,0,none⟩=some (.iface u v):=by
 obtain ⟨g',t',cs,fuel,p,hg',ht',hv,hd⟩:=h
 obtain rfl:=Option.some.inj (hg.symm.trans hg')
 obtain rfl:=Option.some.inj (ht.symm.trans ht')
 obtain ⟨u,v,hcs⟩:=cells_iface hi hd
 refine ⟨u,v,?_⟩
 rw [World.var?_cell hg hv 0]
 have:cs=#[.iface u v]:=Array.toList_inj.1 (by rw [hcs])
 rw [this]
 rfl
theorem tab_is {W : World} (h : Lib.VarReads Tryz.prog W "internal/strconv.uint64pow10" Rows.laid_internal_strconv_uint64pow10) : Lib.TabIs Tryz.prog W "internal/strconv.uint64pow10" .u64 Lib.pow10Tab := by
 obtain ⟨g',t',cs,fuel,p,hg',ht',hv,hd⟩:=h
 obtain rfl:=Option.some.inj (gTab.symm.trans hg')
 obtain rfl:=Option.some.inj (tTab.symm.trans ht')
 have e:(Rows.laid_internal_strconv_uint64pow10:DataW Unit)=Lib.tabData .u64 Lib.pow10Tab:=rfl
 rw [e] at hd
 have hc:=Lib.cells_of_tab Tryz.underlying212 Tryz.underlying156 cElem cTab hd
 unfold Lib.TabIs
 rw [hv]
 congr 1
 apply Array.toList_inj.1
 rw [hc]
theorem base_of {W:World} (hL:laidMetH Tryz.prog Rows.logsGaugesRow.laid W) (hsh:W.ShapedOpen Tryz.prog):Base W:=by
 rw [MakeChecks.laidMetH_plain _ _ _ plainLaid] at hL
 have hsyn := Lib.laidMet.reads hL (n := "strconv.ErrSyntax") (d := Rows.laid_strconv_ErrSyntax) (by simp [Rows.logsGaugesRow])
 have hrng := Lib.laidMet.reads hL (n := "strconv.ErrRange") (d := Rows.laid_strconv_ErrRange) (by simp [Rows.logsGaugesRow])
 have htab := Lib.laidMet.reads hL (n := "internal/strconv.uint64pow10") (d := Rows.laid_internal_strconv_uint64pow10) (by simp [Rows.logsGaugesRow])
 refine ⟨?_,Tryz.laysM143.s1_3 W hsh,sent_cell gSyn tSyn Tryz.underlying107 hsyn,sent_cell gRng tRng Tryz.underlying107 hrng,tab_is htab⟩
 have h64 := Lib.laidMet.reads hL (n := "math/bits.deBruijn64tab") (d := Rows.laid_math_bits_deBruijn64tab) (by simp [Rows.logsGaugesRow])
 obtain ⟨g',t',cs,fuel,p,hg',ht',hv,hd⟩:=h64
 unfold World.var? at hv
 rw [g64,Option.bind_some] at hv
 cases hh:W.heap[7]? with
 | none=>rw [hh] at hv;cases hv
 | some o =>
  have:=(Array.getElem?_eq_some_iff.1 hh).1
  omega
section
variable {H:Type} {enc:TypeId × Value → H} {W:World} {sp:Nat → Bool} {held:Bool}
theorem ints_in {fuel:Nat} {cs:List Value} {x:DataW H × List MemPlace} (h:DataW.trod enc Tryz.prog W 0 sp held fuel 24 cs=some x) :
  ∃ A c l,cs=[.slice A (l:List Int).length c] ∧ l.length ≤ c ∧ (Kd.int .i64).C W A l.length l:=by
 rcases open_ints Tryz.underlying24 Tryz.underlying3 cells3 h with ⟨rfl,_⟩ | ⟨a,len,cap,zs,rfl,_,hl,hm,hz,_,hcell,_⟩
 ·exact ⟨none,0,[],rfl,Nat.le_refl _,Kd.C_nil _ _⟩
 ·have hlen:len ≤ zs.length:=by rw [hz];split <;> omega
  have hmin:(zs.take len).length=len:=by rw [List.length_take];omega
  unfold maxLen at hm
  refine ⟨some a,cap,zs.take len,by rw [hmin],by rw [hmin];exact hl,?_⟩
  refine Kd.C_of_reads (enc:=Value.int .i64) (d:=(0:Int)) (h1:=fun _=>rfl) ⟨rfl,by rw [hmin];omega,fun _=>⟨a,rfl,fun j hj=>?_⟩⟩
  rw [hmin] at hj
  rw [hcell j (by omega)]
  have e:(zs.take len).getD j 0=zs.getD j 0:=by
   rw [List.getD_eq_getElem?_getD,List.getD_eq_getElem?_getD,List.getElem?_take,if_pos hj]
  rw [e]
theorem three {α:Type}:∀ {l:List α},l.length=3 → ∃ a b c,l=[a,b,c]
 | [a,b,c],_=>⟨a,b,c,rfl⟩
theorem gauge_in {fuel:Nat} {cs:List Value} {x:DataW H × List MemPlace} (h:DataW.trod enc Tryz.prog W 0 sp held fuel 37 cs=some x):∃ y:S37,k37.K W y cs:=by
 obtain ⟨xs,n,_,rfl,hl,hlen,hf⟩:=DataW.trod_struct Tryz.underlying37 h
 rw [cells37] at hl
 obtain ⟨v0,v1,v2,rfl⟩:=three hl
 obtain ⟨y0,y1,y2,rfl⟩:=three hlen
 have h0:DataW.trod enc Tryz.prog W 0 sp held n 3 [v0]=some y0:=by
  have h:=hf 0 _ rfl
  simpa [cells3] using h
 have h1:DataW.trod enc Tryz.prog W 0 sp held n 3 [v1]=some y1:=by
  have h:=hf 1 _ rfl
  simpa [cells3] using h
 have h2:DataW.trod enc Tryz.prog W 0 sp held n 24 [v2]=some y2:=by
  have h:=hf 2 _ rfl
  simpa [cells24] using h
 obtain ⟨n0,e0,_,_⟩:=DataW.trod_int Tryz.underlying3 h0
 obtain ⟨n1,e1,_,_⟩:=DataW.trod_int Tryz.underlying3 h1
 obtain ⟨A,c,l,e2,hc,hC⟩:=ints_in h2
 simp only [List.cons.injEq,and_true] at e0 e1 e2
 subst e0 e1 e2
 exact ⟨⟨n0,n1,l⟩,k37_mk W ⟨n0,n1,l⟩ hc hC⟩
theorem gauges_in {fuel:Nat} {cs:List Value} {x:DataW H × List MemPlace} (h:DataW.trod enc Tryz.prog W 0 sp held fuel 35 cs=some x) :
  ∃ A c l,cs=[.slice A (l:List S37).length c] ∧ l.length ≤ c ∧ Kd.C k37 W A l.length l:=by
 rcases Go.Deep.open_slice Tryz.underlying35 h with ⟨rfl,_⟩ | ⟨a,len,cap,m,n,D,Pl,rfl,_,hl,hm,hmm,_,hx⟩
 ·exact ⟨none,0,[],rfl,Nat.le_refl _,Kd.C_nil _ _⟩
 ·have hlm:len ≤ m:=by rw [hmm];split <;> omega
  unfold maxLen at hm
  rw [cells37] at hx
  have key:∀ k,k ≤ len → ∃ l:List S37,l.length=k ∧ ∀ j p,l[j]?=some p → ∃ c:List Value,c.length=3 ∧ k37.K W p c ∧ ∀ i u,c[i]?=some u → W.cell? (a.add (j * 3 + i))=some u:=by
   intro k
   induction k with
   | zero=>exact fun _=>⟨[],rfl,fun j p hj=>by simp at hj⟩
   | succ k ih =>
    intro hk
    obtain ⟨l,hlen,hall⟩:=ih (by omega)
    obtain ⟨cs',hcells,htrod⟩:=hx k (by omega)
    obtain ⟨y,hy⟩:=gauge_in htrod
    obtain ⟨_,hclen,hcell⟩:=World.cells?_some hcells
    refine ⟨l ++ [y],by rw [List.length_append,hlen];rfl,fun j p hj=>?_⟩
    by_cases hjk:j < k
    ·rw [List.getElem?_append_left (by omega)] at hj
     exact hall j p hj
    ·rw [List.getElem?_append_right (by omega)] at hj
     have hj0:j=k:=by
      have:=(List.getElem?_eq_some_iff.1 hj).1
      simp only [List.length_singleton] at this
      omega
     subst hj0
     rw [hlen,Nat.sub_self] at hj
     obtain rfl:=Option.some.inj hj
     refine ⟨cs',hclen,hy,fun i u hu=>?_⟩
     have hi:i < 3:=by have:=(List.getElem?_eq_some_iff.1 hu).1;omega
     have h1:=(hcell i hi).trans hu
     have e:a.add (j * 3 + i)=(a.add (j * 3)).add i:=by
      unfold Addr.add
      by_cases hj3:j * 3=0 <;> by_cases hi0:i=0 <;> simp [hj3,hi0,Nat.add_assoc]
     rw [e]
     exact h1
  obtain ⟨l,hlen,hall⟩:=key len (Nat.le_refl _)
  refine ⟨some a,cap,l,by rw [hlen],by omega,⟨rfl,by omega,fun _=>⟨a,rfl,hall⟩⟩⟩
end
theorem reads (os:Os) {H:Type} (enc:TypeId × Value → H):∃ places,DataW.whole enc Tryz.prog ((World.laidAll Tryz.prog os Rows.logsGaugesRow.laid).forCall (fun _ _=>0) ⟨#[],#[.slice none 0 0,.string ByteArray.empty],[]⟩).memory Tryz.f4.params.toList Rows.logsGaugesSpec.vars false #[Value.slice none 0 0,Value.string ByteArray.empty].toList 8=some ([.nil,.lit (.string [])],[],places) :=
 ⟨[],by kernel_rfl⟩
set_option maxRecDepth 100000 in
set_option maxHeartbeats 2000000 in
theorem lifted (os:Os) (started:os.Started) (H:Type) (enc:TypeId × Value → H) (F:Stop.Interp) :
  ReturnsInHanded {} Tryz.checked os 4 .any ((OpenSpec.ofChange Rows.logsGaugesSpec).preRow enc Tryz.prog Tryz.f4 Rows.logsGaugesRow.domain false Rows.logsGaugesRow.laid) (((OpenSpec.ofChange Rows.logsGaugesSpec).at F).post enc Tryz.prog Tryz.f4 false true false false):=by
 obtain ⟨places,hx⟩:=reads os enc
 refine returnsInHanded_of_row (C:=Tryz.checked) (s:=OpenSpec.ofChange Rows.logsGaugesSpec) own started (by kernel_rfl) Tryz.func4
  (witness_row_at (enc:=enc) (C:=Tryz.checked) false (World.laidAll Tryz.prog os Rows.logsGaugesRow.laid) #[.slice none 0 0,.string ByteArray.empty] (World.laidAll_os _ _ _) (by kernel_rfl) (by kernel_rfl) (by kernel_rfl)
   (OpenSpec.preRow_of_cond 8 hx (by kernel_rfl) (fun k hk=>by cases hk) (by kernel_rfl) (laidMet_laidAll _ (by kernel_rfl) (by kernel_rfl)))) ?_
 intro W base args ds gs before hval0 hW hcnd _ hsz0 hL hsh _
 have hval:∀ (j:Nat) t v,Tryz.f4.params[j]?=some t → args[j]?=some v → Value.okWide Tryz.prog W .any base t v:=hval0
 have hbase:=base_of hL hsh
 have hW':=hW
 obtain ⟨p,q,hA0,hV,rfl,hfz,hnd⟩:=hW
 have hA:DataW.TrodAll enc Tryz.prog W 0 (fun _=>true) true Tryz.f4.params.toList args.toList ds p:=hA0
 rw [Tryz.params4] at hA hval
 obtain ⟨v0,vs0,d0,ds0,p0,q0,hargs,rfl,rfl,h0,r0⟩:=trodAll_cons hA
 obtain ⟨v1,vs1,d1,ds1,p1,q1,rfl,rfl,rfl,h1,r1⟩:=trodAll_cons r0
 obtain ⟨rfl,rfl,rfl⟩:=trodAll_nil r1
 obtain rfl:args=#[v0,v1]:=by cases args;simp_all
 obtain ⟨rfl,rfl⟩:=trodVars_none hV
 obtain ⟨a0,len0,cap0,rfl⟩:=okWide_slice Tryz.underlying35 (hval 0 35 v0 rfl rfl)
 have k0:=h0
 have lt0:∀ x ∈ p0,x.block < W.heap.size:=by obtain ⟨m,hm⟩:=k0;exact DataW.trod_lt m _ _ _ hm
 obtain ⟨A,c,l,e0,hc0,hC0⟩:∃ A c l,[Value.slice a0 len0 cap0]=[.slice A (l:List S37).length c] ∧ l.length ≤ c ∧ Kd.C k37 W A l.length l:=by
  obtain ⟨fuel,hf⟩:=h0
  exact gauges_in hf
 simp only [List.cons.injEq,Value.slice.injEq,and_true] at e0
 obtain ⟨rfl,rfl,rfl⟩:=e0
 obtain ⟨a1,rfl,rfl,rfl,y1⟩:=open_string Tryz.underlying9 (hval 1 9 v1 rfl rfl) h1
 obtain ⟨k,hk⟩:=Go.Proofs.Lg.law_trueG l a1
 refine (lw_LogsGauges.calls k _ _ l a1 true W hbase hC0 hc0 hk rfl).mono fun e W' ⟨he,bel⟩=>?_
 subst he
 exact ⟨_,rfl,_,_,_,[],_,[],hW',trodAll_mk1 (shut_bool Tryz.underlying4 _),(trodAll_cons_mk (Below.trod laidOut (by kernel_rfl) (of_decide_eq_true (by kernel_rfl)) k0 bel lt0) (trodAll_cons_mk (shut_string Tryz.underlying9 y1) trodAll_mk0)),rfl,bel.frame _,fun h=>by cases h⟩
theorem said:Rows.LogsGaugesSaid :=
 OpenClaim.holds_of_cond 4 Tryz.f4 rfl rfl rfl rfl rfl rfl rfl ⟨rfl,rfl,rfl,rfl,rfl⟩ rfl rfl rfl rfl rfl (by kernel_rfl) Tryz.func4 (by kernel_rfl)
  (of_decide_eq_true (by kernel_rfl)) (by unfold Func.isWrapper;first | (rw [if_pos (by decide +kernel)];kernel_rfl) | (rw [if_neg (by decide +kernel)];exact ⟨rfl,rfl⟩))
  (fun os started H enc _ F=>by rw [OpenClaim.pre_eq_preRow];exact lifted os started H enc F)
theorem plain (f : FuncId) (fn : Func) (hf : Tryz.pinned.checked.prog.funcNamed "thalweg/thalweglaw12.LogsGauges" = some f) (hfn : Tryz.pinned.checked.prog.funcs[f]? = some fn) :
  true=Tryz.pinned.checked.prog.looks [] ∧ ∀ (j:Nat) t,fn.params[j]?=some t → Tryz.pinned.checked.prog.wantsStandIn t=false:=by
 obtain rfl : f = 4 := Option.some.inj ((show Tryz.prog.funcNamed "thalweg/thalweglaw12.LogsGauges" = some 4 by kernel_rfl).symm.trans hf) |>.symm
 obtain rfl:fn=Tryz.f4:=(Option.some.inj (Tryz.func4.symm.trans hfn)).symm
 refine ⟨by kernel_rfl,fun j t ht=>?_⟩
 rw [Tryz.params4] at ht
 have hm:t ∈ [35,9]:=by simpa using Array.mem_of_getElem? ht
 have hall:([35,9].all fun u=>!Tryz.prog.wantsStandIn u)=true:=by kernel_rfl
 exact (show Tryz.prog.wantsStandIn t=false by simpa using List.all_eq_true.1 hall t hm)
theorem card:Rows.LogsGaugesCardSaid :=
 Claim7.holds_tied_plain_at .later [] _ _ _ _ said (fun _ h=>by cases h) (by kernel_rfl) (fun _ h=>by cases h) logsGauges_row_tie rfl ⟨rfl,rfl⟩ (by kernel_rfl) rfl plain (by kernel_rfl)
end Go.Proofs.YtdomcbebbhbdlaaGreatDoor.LogsGaugesRow
namespace Go.Proofs.YtdomcbebbhbdlaaGreatDoor
theorem logsGauges_card:Rows.LogsGaugesCardSaid:=LogsGaugesRow.card
end Go.Proofs.YtdomcbebbhbdlaaGreatDoor
