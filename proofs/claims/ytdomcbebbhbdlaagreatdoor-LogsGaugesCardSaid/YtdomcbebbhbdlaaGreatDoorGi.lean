/- The document's writer. Conditions: none. -/
import Derived.Test.YtdomcbebbhbdlaaGreatDoorGf
set_option linter.unusedSimpArgs false
set_option linter.unusedVariables false
namespace Go.Proofs.YtdomcbebbhbdlaaGreatDoor.PLogsGauges
open Go.RowKit Go.Proofs.YtdomcbebbhbdlaaGreatDoorW.PrintWords Go.Proofs.YtdomcbebbhbdlaaGreatDoorW.PrintLast Go.Proofs.YtdomcbebbhbdlaaGreatDoorW.PrintMore Go.Proofs.YtdomcbebbhbdlaaGreatDoor.PLogsBills
attribute [local go_sem] max2_int min2_int max_two min_two max_three min_three max_four min_four
mutual
def rf_Gauge.j0:Nat → Bool → Int → Int → List Int → Option (Bool)
 | 0,_,_,_,_=>none
 | k + 1,x20,x154000,x154001,x154002=>if x20=true then (some false) else (rf_Gauge.l0 k 0 x154000 x154001 x154002)
def rf_Gauge.l0:Nat → Int → Int → Int → List Int → Option (Bool)
 | 0,_,_,_,_=>none
 | k + 1,x3,x154000,x154001,x154002=>if x3 < (x154002.length:Int) then (if 0 ≤ x3 then ((rf_In.f (rd x154002 x3) 0 10000).bind fun t158=>(if t158=true then (rf_Gauge.l0 k (wrap64 (x3 + 1)) x154000 x154001 x154002) else (some false))) else (none)) else (some true)
end
def rf_Gauge.f (k:Nat) (a0_0:Int) (a0_1:Int) (l0_2:List Int):Option (Bool):=(rf_In.f a0_0 0 99).bind fun t154=>(if t154=true then ((rf_In.f a0_1 0 100000).bind fun t155=>(if t155=true then ((rf_In.f (l0_2.length:Int) 1 24).bind fun t156=>(rf_Gauge.j0 k (!t156) a0_0 a0_1 l0_2)) else (rf_Gauge.j0 k true a0_0 a0_1 l0_2))) else (rf_Gauge.j0 k true a0_0 a0_1 l0_2))
set_option maxHeartbeats 8000000 in
set_option maxRecDepth 100000 in
theorem rf_Gauge.calls (k:Nat) (a0_0:Int) (a0_1:Int) (A0_2:Option Addr) (c0_2:Nat) (l0_2:List Int) (r:Bool) (w:World) (hr0_2:Kd.C (Kd.int .i64) w A0_2 l0_2.length l0_2) (hc0_2:l0_2.length ≤ c0_2) (h:rf_Gauge.f k a0_0 a0_1 l0_2=some r) :
  Calls Tryz.prog 36 #[.agg #[.int .i64 a0_0,.int .i64 a0_1,.slice A0_2 l0_2.length c0_2]] w fun e w'=>e=.returned (.bool r) ∧ Below w.heap.size w w':=by
 have hu37:=Tryz.underlying37
 have HR0_2:=Aside0.mk hr0_2
 have HC0_2:=Aside0.mk hc0_2
 clear hr0_2 hc0_2
 have HB:=Aside0.mk (Below.refl w.heap.size w)
 have H:((rf_In.f a0_0 0 99).bind fun t154=>(if t154=true then ((rf_In.f a0_1 0 100000).bind fun t155=>(if t155=true then ((rf_In.f (l0_2.length:Int) 1 24).bind fun t156=>(rf_Gauge.j0 k (!t156) a0_0 a0_1 l0_2)) else (rf_Gauge.j0 k true a0_0 a0_1 l0_2))) else (rf_Gauge.j0 k true a0_0 a0_1 l0_2)))=some r:=h
 clear h
 have HC2:=Aside0.mk H
 clear H
 go_enter Tryz.func36,Tryz.ntmps36
 go_upto_region 1 with (first | ((with_reducible refine gate_dst (N:=1) rfl ?_);(try (refine gate_guard (by rfl) ?_;dsimp only));refine box_event ?hg (N:=1) ?hd (cs:=#[.int .i64 a0_0,.int .i64 a0_1,.slice A0_2 l0_2.length c0_2]) (t:=37) ?hr ?_;(case hd=>rfl);(case hg=>rfl);(case hr=>first | (go_simp;done) | (go_simp;rfl));intro gb153 hg w3 hbox hb;have n0_:=Aside0.mk (below_step (by repeat (first | (with_reducible first | exact HB.out | apply below_alloc | apply pw_below_drewN | apply below_drew1) | exact HB.out)) hb);have n1_:=Aside0.mk (hbox);have n2_:=Aside0.mk ((by rw [hg];exact (below_size (by repeat (first | (with_reducible first | exact HB.out | apply below_alloc | apply pw_below_drewN | apply below_drew1) | exact HB.out))):w.heap.size ≤ gb153));have n3_:=Aside0.mk ((by rw [hg];exact (below_size (by repeat (first | (with_reducible first | exact HB.out | apply below_alloc | apply pw_below_drewN | apply below_drew1) | exact HB.out))):w.heap.size ≤ gb153));clear HB;have HB:=n0_;have BK153:=n1_;have GW153:=n2_;have GE153:=n3_;clear n0_ n1_ n2_ n3_;clear hb hbox hg))
 (try simp only [Act.put,xsA,xsZ,xsS])
 go_cut [20] (fun v20 wc=>∃ (kq:Nat) (x20_1:Bool),v20=.bool x20_1 ∧ Aside0 (rf_Gauge.j0 kq x20_1 a0_0 a0_1 l0_2=some r) ∧ Aside0 (kq ≤ k) ∧ Aside0 (wc.heap[gb153]?=some (.cells #[.int .i64 a0_0,.int .i64 a0_1,(.slice A0_2 l0_2.length c0_2)] 37 (0,0))) ∧ Aside0 (Below w.heap.size w wc))
 case first =>
  have H:=HC2.out
  clear HC2
  replace H:=Option.bind_eq_some_iff.mp H
  obtain ⟨t154,A40,H⟩:=H
  replace H:(if t154=true then ((rf_In.f a0_1 0 100000).bind fun t155=>(if t155=true then ((rf_In.f (l0_2.length:Int) 1 24).bind fun t156=>(rf_Gauge.j0 k (!t156) a0_0 a0_1 l0_2)) else (rf_Gauge.j0 k true a0_0 a0_1 l0_2))) else (rf_Gauge.j0 k true a0_0 a0_1 l0_2))=some r:=H
  have A4:=Aside0.mk A40
  clear A40
  by_cases c5:t154=true
  ·subst c5
   have H1:((rf_In.f a0_1 0 100000).bind fun t155=>(if t155=true then ((rf_In.f (l0_2.length:Int) 1 24).bind fun t156=>(rf_Gauge.j0 k (!t156) a0_0 a0_1 l0_2)) else (rf_Gauge.j0 k true a0_0 a0_1 l0_2)))=some r:=by rw [if_pos rfl] at H;exact H
   clear H
   have H:=H1
   clear H1
   replace H:=Option.bind_eq_some_iff.mp H
   obtain ⟨t155,A60,H⟩:=H
   replace H:(if t155=true then ((rf_In.f (l0_2.length:Int) 1 24).bind fun t156=>(rf_Gauge.j0 k (!t156) a0_0 a0_1 l0_2)) else (rf_Gauge.j0 k true a0_0 a0_1 l0_2))=some r:=H
   have A6:=Aside0.mk A60
   clear A60
   by_cases c7:t155=true
   ·subst c7
    have H1:((rf_In.f (l0_2.length:Int) 1 24).bind fun t156=>(rf_Gauge.j0 k (!t156) a0_0 a0_1 l0_2))=some r:=by rw [if_pos rfl] at H;exact H
    clear H
    have H:=H1
    clear H1
    replace H:=Option.bind_eq_some_iff.mp H
    obtain ⟨t156,A80,H⟩:=H
    replace H:(rf_Gauge.j0 k (!t156) a0_0 a0_1 l0_2)=some r:=H
    have A8:=Aside0.mk A80
    clear A80
    have H':=Aside0.mk H
    clear H
    have hcz9_0:w3.cell? ⟨gb153,0,none⟩=some (.int .i64 a0_0):=(blk_cell BK153.out 0).trans rfl
    have hcz9_1:w3.cell? ⟨gb153,1,none⟩=some (.int .i64 a0_1):=(blk_cell BK153.out 1).trans rfl
    have hcz9_2:w3.cell? ⟨gb153,2,none⟩=some (.slice A0_2 l0_2.length c0_2):=(blk_cell BK153.out 2).trans rfl
    have hfz9_0:=blk_frozen BK153.out 0
    have hfz9_1:=blk_frozen BK153.out 1
    have hfz9_2:=blk_frozen BK153.out 2
    go_wp2_with (first | ((with_reducible refine gate_callee (f:=60) rfl ?_);refine goesL_ (some 6) rfl rfl Tryz.func60 (by kernel_rfl) rfl #[.int .i64 a0_0,.int .i64 0,.int .i64 99] rfl (by (try simp only [List.map_toArray,List.map_cons,List.map_nil]);first | done | rfl | (simp only [List.length_drop,List.length_take];rfl)) ?_;(with_reducible refine (rf_In.calls a0_0 0 99 true _ A4.out).mono ?_);rintro e w' ⟨rfl,⟨nd,rfl⟩⟩;refine ⟨_,rfl,?_⟩) | (go_at_call 60;(with_reducible refine (rf_In.calls a0_1 0 100000 true _ A6.out).mono ?_);rintro e w' ⟨rfl,⟨nd,rfl⟩⟩) | (go_at_call 60;(with_reducible refine (rf_In.calls (l0_2.length:Int) 1 24 t156 _ A8.out).mono ?_);rintro e w' ⟨rfl,⟨nd,rfl⟩⟩))
    go_meet
    case rel=>exact ⟨_,(!t156),(by first | rfl | (simp;done) | (simp [*];done)),H',⟨by first | omega | exact Nat.le_refl _⟩,⟨by (with_reducible repeat (first | refine blk_drewN ?_ _ | refine blk_drew ?_ | refine blk_alloc ?_ _));exact BK153.out⟩,⟨by repeat (first | (with_reducible first | exact HB.out | apply below_alloc | apply pw_below_drewN | apply below_drew1 | refine below_set ?_ GE153.out) | exact HB.out)⟩⟩
   ·replace c7:=Bool.eq_false_iff.mpr c7
    subst c7
    have H1:(rf_Gauge.j0 k true a0_0 a0_1 l0_2)=some r:=by rw [if_neg (show ¬ (false=true) by decide)] at H;exact H
    clear H
    have H:=H1
    clear H1
    have H':=Aside0.mk H
    clear H
    have hcz10_0:w3.cell? ⟨gb153,0,none⟩=some (.int .i64 a0_0):=(blk_cell BK153.out 0).trans rfl
    have hcz10_1:w3.cell? ⟨gb153,1,none⟩=some (.int .i64 a0_1):=(blk_cell BK153.out 1).trans rfl
    have hcz10_2:w3.cell? ⟨gb153,2,none⟩=some (.slice A0_2 l0_2.length c0_2):=(blk_cell BK153.out 2).trans rfl
    have hfz10_0:=blk_frozen BK153.out 0
    have hfz10_1:=blk_frozen BK153.out 1
    have hfz10_2:=blk_frozen BK153.out 2
    go_wp2_with (first | ((with_reducible refine gate_callee (f:=60) rfl ?_);refine goesL_ (some 6) rfl rfl Tryz.func60 (by kernel_rfl) rfl #[.int .i64 a0_0,.int .i64 0,.int .i64 99] rfl (by (try simp only [List.map_toArray,List.map_cons,List.map_nil]);first | done | rfl | (simp only [List.length_drop,List.length_take];rfl)) ?_;(with_reducible refine (rf_In.calls a0_0 0 99 true _ A4.out).mono ?_);rintro e w' ⟨rfl,⟨nd,rfl⟩⟩;refine ⟨_,rfl,?_⟩) | (go_at_call 60;(with_reducible refine (rf_In.calls a0_1 0 100000 false _ A6.out).mono ?_);rintro e w' ⟨rfl,⟨nd,rfl⟩⟩))
    go_meet
    case rel=>exact ⟨_,(true),(by first | rfl | (simp;done) | (simp [*];done)),H',⟨by first | omega | exact Nat.le_refl _⟩,⟨by (with_reducible repeat (first | refine blk_drewN ?_ _ | refine blk_drew ?_ | refine blk_alloc ?_ _));exact BK153.out⟩,⟨by repeat (first | (with_reducible first | exact HB.out | apply below_alloc | apply pw_below_drewN | apply below_drew1 | refine below_set ?_ GE153.out) | exact HB.out)⟩⟩
  ·replace c5:=Bool.eq_false_iff.mpr c5
   subst c5
   have H1:(rf_Gauge.j0 k true a0_0 a0_1 l0_2)=some r:=by rw [if_neg (show ¬ (false=true) by decide)] at H;exact H
   clear H
   have H:=H1
   clear H1
   have H':=Aside0.mk H
   clear H
   have hcz11_0:w3.cell? ⟨gb153,0,none⟩=some (.int .i64 a0_0):=(blk_cell BK153.out 0).trans rfl
   have hcz11_1:w3.cell? ⟨gb153,1,none⟩=some (.int .i64 a0_1):=(blk_cell BK153.out 1).trans rfl
   have hcz11_2:w3.cell? ⟨gb153,2,none⟩=some (.slice A0_2 l0_2.length c0_2):=(blk_cell BK153.out 2).trans rfl
   have hfz11_0:=blk_frozen BK153.out 0
   have hfz11_1:=blk_frozen BK153.out 1
   have hfz11_2:=blk_frozen BK153.out 2
   go_wp2_with (first | ((with_reducible refine gate_callee (f:=60) rfl ?_);refine goesL_ (some 6) rfl rfl Tryz.func60 (by kernel_rfl) rfl #[.int .i64 a0_0,.int .i64 0,.int .i64 99] rfl (by (try simp only [List.map_toArray,List.map_cons,List.map_nil]);first | done | rfl | (simp only [List.length_drop,List.length_take];rfl)) ?_;(with_reducible refine (rf_In.calls a0_0 0 99 false _ A4.out).mono ?_);rintro e w' ⟨rfl,⟨nd,rfl⟩⟩;refine ⟨_,rfl,?_⟩))
   go_meet
   case rel=>exact ⟨_,(true),(by first | rfl | (simp;done) | (simp [*];done)),H',⟨by first | omega | exact Nat.le_refl _⟩,⟨by (with_reducible repeat (first | refine blk_drewN ?_ _ | refine blk_drew ?_ | refine blk_alloc ?_ _));exact BK153.out⟩,⟨by repeat (first | (with_reducible first | exact HB.out | apply below_alloc | apply pw_below_drewN | apply below_drew1 | refine below_set ?_ GE153.out) | exact HB.out)⟩⟩
 case rest =>
  clear HC2
  try clear p2
  try clear c3
  try clear c5
  try clear c6
  try clear c7
  try clear hcz10_0
  try clear hcz10_1
  try clear hcz10_2
  try clear hcz11_0
  try clear hcz11_1
  try clear hcz11_2
  try clear hcz9_0
  try clear hcz9_1
  try clear hcz9_2
  try clear hfz10_0
  try clear hfz10_1
  try clear hfz10_2
  try clear hfz11_0
  try clear hfz11_1
  try clear hfz11_2
  try clear hfz9_0
  try clear hfz9_1
  try clear hfz9_2
  obtain ⟨kq,x20_1,rfl,HA,HJ1,BK153,HB⟩:=hcut
  cases kq with
  | zero=>exact absurd HA.out (by simp [rf_Gauge.j0])
  | succ kj1 =>
   have H:=HA.out
   clear HA
   simp only [rf_Gauge.j0] at H
   by_cases c12:x20_1=true
   ·subst c12
    have H1:(some false)=some r:=by rw [if_pos rfl] at H;exact H
    clear H
    have H:=H1
    clear H1
    obtain rfl:=Option.some.inj H
    go_wp2
    go_ret
    exact ⟨by first | rfl | (simp [errW_none,errW_some] <;> rfl) | (simp [*,errW_none,errW_some] <;> rfl),by repeat (first | (with_reducible first | exact HB.out | apply below_alloc | apply pw_below_drewN | apply below_drew1 | refine below_set ?_ GE153.out) | exact HB.out)⟩
   ·replace c12:=Bool.eq_false_iff.mpr c12
    subst c12
    have H1:(rf_Gauge.l0 kj1 0 a0_0 a0_1 l0_2)=some r:=by rw [if_neg (show ¬ (false=true) by decide)] at H;exact H
    clear H
    have H:=H1
    clear H1
    have H':=Aside0.mk H
    clear H
    go_wp2
    go_loopg [3] kj1 (fun kq v3 w'=>∃ (x3_2:Int),v3=.int .i64 x3_2 ∧ Aside0 (rf_Gauge.l0 kq x3_2 a0_0 a0_1 l0_2=some r) ∧ Aside0 (kq ≤ kj1) ∧ Aside0 (w'.heap[gb153]?=some (.cells #[.int .i64 a0_0,.int .i64 a0_1,(.slice A0_2 l0_2.length c0_2)] 37 (0,0))) ∧ Aside0 (Below w.heap.size w w'))
    case atStart=>exact ⟨(0),(by first | rfl | (simp;done) | (simp [*];done)),H',⟨Nat.le_refl _⟩,⟨by (with_reducible repeat (first | refine blk_drewN ?_ _ | refine blk_drew ?_ | refine blk_alloc ?_ _));exact BK153.out⟩,⟨by repeat (first | (with_reducible first | exact HB.out | apply below_alloc | apply pw_below_drewN | apply below_drew1 | refine below_set ?_ GE153.out) | exact HB.out)⟩⟩
    case round =>
     clear H'
     try clear c1
     try clear p2
     try clear c3
     try clear c5
     try clear c6
     try clear c7
     try clear c12
     try clear hcz10_0
     try clear hcz10_1
     try clear hcz10_2
     try clear hcz11_0
     try clear hcz11_1
     try clear hcz11_2
     try clear hcz9_0
     try clear hcz9_1
     try clear hcz9_2
     try clear hfz10_0
     try clear hfz10_1
     try clear hfz10_2
     try clear hfz11_0
     try clear hfz11_1
     try clear hfz11_2
     try clear hfz9_0
     try clear hfz9_1
     try clear hfz9_2
     try clear p2
     obtain ⟨x3_2,rfl,HA,HK2,BK153,HB⟩:=hrel
     cases gk with
     | zero=>exact absurd HA.out (by simp [rf_Gauge.l0])
     | succ k2 =>
      have H:=HA.out
      clear HA
      simp only [rf_Gauge.l0] at H
      by_cases c13:x3_2 < (l0_2.length:Int)
      ·rw [if_pos c13] at H
       have c13b0:decide (x3_2 < (l0_2.length:Int))=true:=decide_eq_true c13
       clear c13
       by_cases c14:0 ≤ x3_2
       ·rw [if_pos c14] at H
        have c14b0:decide (0 ≤ x3_2)=true:=decide_eq_true c14
        clear c14
        replace H:=Option.bind_eq_some_iff.mp H
        obtain ⟨t158,A150,H⟩:=H
        replace H:(if t158=true then (rf_Gauge.l0 k2 (wrap64 (x3_2 + 1)) a0_0 a0_1 l0_2) else (some false))=some r:=H
        have A15:=Aside0.mk A150
        clear A150
        by_cases c16:t158=true
        ·subst c16
         have H1:(rf_Gauge.l0 k2 (wrap64 (x3_2 + 1)) a0_0 a0_1 l0_2)=some r:=by rw [if_pos rfl] at H;exact H
         clear H
         have H:=H1
         clear H1
         have H':=Aside0.mk H
         clear H
         have hcz17_0:wr.cell? ⟨gb153,0,none⟩=some (.int .i64 a0_0):=(blk_cell BK153.out 0).trans rfl
         have hcz17_1:wr.cell? ⟨gb153,1,none⟩=some (.int .i64 a0_1):=(blk_cell BK153.out 1).trans rfl
         have hcz17_2:wr.cell? ⟨gb153,2,none⟩=some (.slice A0_2 l0_2.length c0_2):=(blk_cell BK153.out 2).trans rfl
         have hfz17_0:=blk_frozen BK153.out 0
         have hfz17_1:=blk_frozen BK153.out 1
         have hfz17_2:=blk_frozen BK153.out 2
         have p157:0 ≤ (x3_2:Int):=of_decide_eq_true (by first | (with_reducible assumption) | assumption)
         have q157:x3_2 < (l0_2.length:Int):=of_decide_eq_true (by first | (with_reducible assumption) | assumption)
         obtain ⟨ad157,e157,hx157_0⟩:=Kd.at_int HR0_2.out x3_2 p157 q157
         cases e157
         replace hx157_0:=(HB.out.cell (xbl w _ hx157_0)).trans hx157_0
         replace p157:=eq_true p157
         replace q157:=eq_true q157
         go_wp2_with (first | ((with_reducible refine gate_callee (f:=60) rfl ?_);refine goesL_ (some 33) rfl rfl Tryz.func60 (by kernel_rfl) rfl #[.int .i64 (rd l0_2 x3_2),.int .i64 0,.int .i64 10000] rfl (by (try simp only [List.map_toArray,List.map_cons,List.map_nil]);first | done | rfl | (simp only [List.length_drop,List.length_take];rfl)) ?_;(with_reducible refine (rf_In.calls (rd l0_2 x3_2) 0 10000 true _ A15.out).mono ?_);rintro e w' ⟨rfl,⟨nd,rfl⟩⟩;refine ⟨_,rfl,?_⟩))
         go_roundg k2
         case measure=>have:=HJ1.out;have:=HK2.out;omega
         case rel=>exact ⟨(wrap64 (x3_2 + 1)),(by first | rfl | (simp;done) | (simp [*];done)),H',⟨by have:=HJ1.out;have:=HK2.out;omega⟩,⟨by (with_reducible repeat (first | refine blk_drewN ?_ _ | refine blk_drew ?_ | refine blk_alloc ?_ _));exact BK153.out⟩,⟨by repeat (first | (with_reducible first | exact HB.out | apply below_alloc | apply pw_below_drewN | apply below_drew1 | refine below_set ?_ GE153.out) | exact HB.out)⟩⟩
        ·replace c16:=Bool.eq_false_iff.mpr c16
         subst c16
         have H1:(some false)=some r:=by rw [if_neg (show ¬ (false=true) by decide)] at H;exact H
         clear H
         have H:=H1
         clear H1
         obtain rfl:=Option.some.inj H
         have hcz18_0:wr.cell? ⟨gb153,0,none⟩=some (.int .i64 a0_0):=(blk_cell BK153.out 0).trans rfl
         have hcz18_1:wr.cell? ⟨gb153,1,none⟩=some (.int .i64 a0_1):=(blk_cell BK153.out 1).trans rfl
         have hcz18_2:wr.cell? ⟨gb153,2,none⟩=some (.slice A0_2 l0_2.length c0_2):=(blk_cell BK153.out 2).trans rfl
         have hfz18_0:=blk_frozen BK153.out 0
         have hfz18_1:=blk_frozen BK153.out 1
         have hfz18_2:=blk_frozen BK153.out 2
         have p157:0 ≤ (x3_2:Int):=of_decide_eq_true (by first | (with_reducible assumption) | assumption)
         have q157:x3_2 < (l0_2.length:Int):=of_decide_eq_true (by first | (with_reducible assumption) | assumption)
         obtain ⟨ad157,e157,hx157_0⟩:=Kd.at_int HR0_2.out x3_2 p157 q157
         cases e157
         replace hx157_0:=(HB.out.cell (xbl w _ hx157_0)).trans hx157_0
         replace p157:=eq_true p157
         replace q157:=eq_true q157
         go_wp2_with (first | ((with_reducible refine gate_callee (f:=60) rfl ?_);refine goesL_ (some 33) rfl rfl Tryz.func60 (by kernel_rfl) rfl #[.int .i64 (rd l0_2 x3_2),.int .i64 0,.int .i64 10000] rfl (by (try simp only [List.map_toArray,List.map_cons,List.map_nil]);first | done | rfl | (simp only [List.length_drop,List.length_take];rfl)) ?_;(with_reducible refine (rf_In.calls (rd l0_2 x3_2) 0 10000 false _ A15.out).mono ?_);rintro e w' ⟨rfl,⟨nd,rfl⟩⟩;refine ⟨_,rfl,?_⟩))
         go_ret
         exact ⟨by first | rfl | (simp [errW_none,errW_some] <;> rfl) | (simp [*,errW_none,errW_some] <;> rfl),by repeat (first | (with_reducible first | exact HB.out | apply below_alloc | apply pw_below_drewN | apply below_drew1 | refine below_set ?_ GE153.out) | exact HB.out)⟩
       ·rw [if_neg c14] at H
        exact absurd H (by simp)
      ·rw [if_neg c13] at H
       have c13b0:decide (x3_2 < (l0_2.length:Int))=false:=decide_eq_false c13
       clear c13
       obtain rfl:=Option.some.inj H
       have hcz19_0:wr.cell? ⟨gb153,0,none⟩=some (.int .i64 a0_0):=(blk_cell BK153.out 0).trans rfl
       have hcz19_1:wr.cell? ⟨gb153,1,none⟩=some (.int .i64 a0_1):=(blk_cell BK153.out 1).trans rfl
       have hcz19_2:wr.cell? ⟨gb153,2,none⟩=some (.slice A0_2 l0_2.length c0_2):=(blk_cell BK153.out 2).trans rfl
       have hfz19_0:=blk_frozen BK153.out 0
       have hfz19_1:=blk_frozen BK153.out 1
       have hfz19_2:=blk_frozen BK153.out 2
       go_wp2
       go_ret
       exact ⟨by first | rfl | (simp [errW_none,errW_some] <;> rfl) | (simp [*,errW_none,errW_some] <;> rfl),by repeat (first | (with_reducible first | exact HB.out | apply below_alloc | apply pw_below_drewN | apply below_drew1 | refine below_set ?_ GE153.out) | exact HB.out)⟩
def rf_GaugeAfter.f (a0_0:Int) (a0_1:Int) (l0_2:List Int) (a1_0:Int) (a1_1:Int) (l1_2:List Int):Option (Bool):=if a1_0 > a0_0 then (some true) else (if a1_0=a0_0 then (some (decide (a1_1 ≥ (wrap64 (a0_1 + (l0_2.length:Int)))))) else (some false))
set_option maxHeartbeats 8000000 in
set_option maxRecDepth 100000 in
theorem rf_GaugeAfter.calls (a0_0:Int) (a0_1:Int) (A0_2:Option Addr) (c0_2:Nat) (l0_2:List Int) (a1_0:Int) (a1_1:Int) (A1_2:Option Addr) (c1_2:Nat) (l1_2:List Int) (r:Bool) (w:World) (hr0_2:Kd.C (Kd.int .i64) w A0_2 l0_2.length l0_2) (hc0_2:l0_2.length ≤ c0_2) (hr1_2:Kd.C (Kd.int .i64) w A1_2 l1_2.length l1_2) (hc1_2:l1_2.length ≤ c1_2) (h:rf_GaugeAfter.f a0_0 a0_1 l0_2 a1_0 a1_1 l1_2=some r) :
  Calls Tryz.prog 37 #[.agg #[.int .i64 a0_0,.int .i64 a0_1,.slice A0_2 l0_2.length c0_2],.agg #[.int .i64 a1_0,.int .i64 a1_1,.slice A1_2 l1_2.length c1_2]] w fun e w'=>e=.returned (.bool r) ∧ Below w.heap.size w w':=by
 have hu37:=Tryz.underlying37
 have HR0_2:=Aside0.mk hr0_2
 have HC0_2:=Aside0.mk hc0_2
 clear hr0_2 hc0_2
 have HR1_2:=Aside0.mk hr1_2
 have HC1_2:=Aside0.mk hc1_2
 clear hr1_2 hc1_2
 have HB:=Aside0.mk (Below.refl w.heap.size w)
 have H:(if a1_0 > a0_0 then (some true) else (if a1_0=a0_0 then (some (decide (a1_1 ≥ (wrap64 (a0_1 + (l0_2.length:Int)))))) else (some false)))=some r:=h
 clear h
 by_cases c3:a1_0 > a0_0
 ·rw [if_pos c3] at H
  have c3b0:decide (a0_0 < a1_0)=true:=decide_eq_true c3
  clear c3
  obtain rfl:=Option.some.inj H
  go_enter Tryz.func37,Tryz.ntmps37
  go_wp2_with (first | ((with_reducible refine gate_dst (N:=2) rfl ?_);(try (refine gate_guard (by rfl) ?_;dsimp only));refine box_event ?hg (N:=2) ?hd (cs:=#[.int .i64 a0_0,.int .i64 a0_1,.slice A0_2 l0_2.length c0_2]) (t:=37) ?hr ?_;(case hd=>rfl);(case hg=>rfl);(case hr=>first | (go_simp;done) | (go_simp;rfl));intro gb159 hg w4 hbox hb;have n0_:=Aside0.mk (below_step (by repeat (first | (with_reducible first | exact HB.out | apply below_alloc | apply pw_below_drewN | apply below_drew1) | exact HB.out)) hb);have n1_:=Aside0.mk (hbox);have n2_:=Aside0.mk ((by rw [hg];exact (below_size (by repeat (first | (with_reducible first | exact HB.out | apply below_alloc | apply pw_below_drewN | apply below_drew1) | exact HB.out))):w.heap.size ≤ gb159));have n3_:=Aside0.mk ((by rw [hg];exact (below_size (by repeat (first | (with_reducible first | exact HB.out | apply below_alloc | apply pw_below_drewN | apply below_drew1) | exact HB.out))):w.heap.size ≤ gb159));clear HB;have HB:=n0_;have BK159:=n1_;have GW159:=n2_;have GE159:=n3_;clear n0_ n1_ n2_ n3_;clear hb hbox hg) | ((with_reducible refine gate_dst (N:=3) rfl ?_);(try (refine gate_guard (by rfl) ?_;dsimp only));refine box_event ?hg (N:=3) ?hd (cs:=#[.int .i64 a1_0,.int .i64 a1_1,.slice A1_2 l1_2.length c1_2]) (t:=37) ?hr ?_;(case hd=>rfl);(case hg=>rfl);(case hr=>first | (go_simp;done) | (go_simp;rfl));intro gb160 hg w5 hbox hb;have n0_:=Aside0.mk (blk_below (g:=gb159) (o:=.cells #[.int .i64 a0_0,.int .i64 a0_1,.slice A0_2 l0_2.length c0_2] 37 (0,0)) (by (with_reducible repeat (first | refine blk_drewN ?_ _ | refine blk_drew ?_ | refine blk_alloc ?_ _));exact BK159.out) hb);have n1_:=Aside0.mk (below_step (by repeat (first | (with_reducible first | exact HB.out | apply below_alloc | apply pw_below_drewN | apply below_drew1 | refine below_set ?_ GE159.out) | exact HB.out)) hb);have n2_:=Aside0.mk (hbox);have n3_:=Aside0.mk ((by rw [hg];exact (below_size (by repeat (first | (with_reducible first | exact HB.out | apply below_alloc | apply pw_below_drewN | apply below_drew1 | refine below_set ?_ GE159.out) | exact HB.out))):w.heap.size ≤ gb160));have n4_:=Aside0.mk ((by rw [hg];exact (below_size (by repeat (first | (with_reducible first | exact HB.out | apply below_alloc | apply pw_below_drewN | apply below_drew1 | refine below_set ?_ GE159.out) | exact HB.out))):w.heap.size ≤ gb160));have n5_:=Aside0.mk ((by rw [hg];exact Nat.ne_of_lt (blk_lt (g:=gb159) (o:=.cells #[.int .i64 a0_0,.int .i64 a0_1,.slice A0_2 l0_2.length c0_2] 37 (0,0)) (by (with_reducible repeat (first | refine blk_drewN ?_ _ | refine blk_drew ?_ | refine blk_alloc ?_ _));exact BK159.out)):gb159 ≠ gb160));have n6_:=Aside0.mk ((by rw [hg];exact Nat.ne_of_gt (blk_lt (g:=gb159) (o:=.cells #[.int .i64 a0_0,.int .i64 a0_1,.slice A0_2 l0_2.length c0_2] 37 (0,0)) (by (with_reducible repeat (first | refine blk_drewN ?_ _ | refine blk_drew ?_ | refine blk_alloc ?_ _));exact BK159.out)):gb160 ≠ gb159));clear BK159;clear HB;have BK159:=n0_;have HB:=n1_;have BK160:=n2_;have GW160:=n3_;have GE160:=n4_;have NB159_160:=n5_;have NB160_159:=n6_;clear n0_ n1_ n2_ n3_ n4_ n5_ n6_;clear hb hbox hg;have hnb6:=NB160_159.out;have hnc6:=NB159_160.out;have hcz7_0:w5.cell? ⟨gb160,0,none⟩=some (.int .i64 a1_0):=(blk_cell BK160.out 0).trans rfl;have hcz7_1:w5.cell? ⟨gb160,1,none⟩=some (.int .i64 a1_1):=(blk_cell BK160.out 1).trans rfl;have hcz7_2:w5.cell? ⟨gb160,2,none⟩=some (.slice A1_2 l1_2.length c1_2):=(blk_cell BK160.out 2).trans rfl;have hfz7_0:=blk_frozen BK160.out 0;have hfz7_1:=blk_frozen BK160.out 1;have hfz7_2:=blk_frozen BK160.out 2;have hcz8_0:w5.cell? ⟨gb159,0,none⟩=some (.int .i64 a0_0):=(blk_cell BK159.out 0).trans rfl;have hcz8_1:w5.cell? ⟨gb159,1,none⟩=some (.int .i64 a0_1):=(blk_cell BK159.out 1).trans rfl;have hcz8_2:w5.cell? ⟨gb159,2,none⟩=some (.slice A0_2 l0_2.length c0_2):=(blk_cell BK159.out 2).trans rfl;have hfz8_0:=blk_frozen BK159.out 0;have hfz8_1:=blk_frozen BK159.out 1;have hfz8_2:=blk_frozen BK159.out 2))
  go_ret
  exact ⟨by first | rfl | (simp [errW_none,errW_some] <;> rfl) | (simp [*,errW_none,errW_some] <;> rfl),by repeat (first | (with_reducible first | exact HB.out | apply below_alloc | apply pw_below_drewN | apply below_drew1 | refine below_set ?_ GE159.out | refine below_set ?_ GE160.out) | exact HB.out)⟩
 ·rw [if_neg c3] at H
  have c3b0:decide (a0_0 < a1_0)=false:=decide_eq_false c3
  clear c3
  by_cases c9:a1_0=a0_0
  ·rw [if_pos c9] at H
   have c9b0:(a1_0 == a0_0)=true:=beq_iff_eq.mpr c9
   have c9b1:(a1_0 != a0_0)=false:=bne_eq_false_iff_eq.mpr c9
   clear c9
   obtain rfl:=Option.some.inj H
   go_enter Tryz.func37,Tryz.ntmps37
   go_wp2_with (first | ((with_reducible refine gate_dst (N:=2) rfl ?_);(try (refine gate_guard (by rfl) ?_;dsimp only));refine box_event ?hg (N:=2) ?hd (cs:=#[.int .i64 a0_0,.int .i64 a0_1,.slice A0_2 l0_2.length c0_2]) (t:=37) ?hr ?_;(case hd=>rfl);(case hg=>rfl);(case hr=>first | (go_simp;done) | (go_simp;rfl));intro gb159 hg w10 hbox hb;have n0_:=Aside0.mk (below_step (by repeat (first | (with_reducible first | exact HB.out | apply below_alloc | apply pw_below_drewN | apply below_drew1) | exact HB.out)) hb);have n1_:=Aside0.mk (hbox);have n2_:=Aside0.mk ((by rw [hg];exact (below_size (by repeat (first | (with_reducible first | exact HB.out | apply below_alloc | apply pw_below_drewN | apply below_drew1) | exact HB.out))):w.heap.size ≤ gb159));have n3_:=Aside0.mk ((by rw [hg];exact (below_size (by repeat (first | (with_reducible first | exact HB.out | apply below_alloc | apply pw_below_drewN | apply below_drew1) | exact HB.out))):w.heap.size ≤ gb159));clear HB;have HB:=n0_;have BK159:=n1_;have GW159:=n2_;have GE159:=n3_;clear n0_ n1_ n2_ n3_;clear hb hbox hg) | ((with_reducible refine gate_dst (N:=3) rfl ?_);(try (refine gate_guard (by rfl) ?_;dsimp only));refine box_event ?hg (N:=3) ?hd (cs:=#[.int .i64 a1_0,.int .i64 a1_1,.slice A1_2 l1_2.length c1_2]) (t:=37) ?hr ?_;(case hd=>rfl);(case hg=>rfl);(case hr=>first | (go_simp;done) | (go_simp;rfl));intro gb160 hg w11 hbox hb;have n0_:=Aside0.mk (blk_below (g:=gb159) (o:=.cells #[.int .i64 a0_0,.int .i64 a0_1,.slice A0_2 l0_2.length c0_2] 37 (0,0)) (by (with_reducible repeat (first | refine blk_drewN ?_ _ | refine blk_drew ?_ | refine blk_alloc ?_ _));exact BK159.out) hb);have n1_:=Aside0.mk (below_step (by repeat (first | (with_reducible first | exact HB.out | apply below_alloc | apply pw_below_drewN | apply below_drew1 | refine below_set ?_ GE159.out) | exact HB.out)) hb);have n2_:=Aside0.mk (hbox);have n3_:=Aside0.mk ((by rw [hg];exact (below_size (by repeat (first | (with_reducible first | exact HB.out | apply below_alloc | apply pw_below_drewN | apply below_drew1 | refine below_set ?_ GE159.out) | exact HB.out))):w.heap.size ≤ gb160));have n4_:=Aside0.mk ((by rw [hg];exact (below_size (by repeat (first | (with_reducible first | exact HB.out | apply below_alloc | apply pw_below_drewN | apply below_drew1 | refine below_set ?_ GE159.out) | exact HB.out))):w.heap.size ≤ gb160));have n5_:=Aside0.mk ((by rw [hg];exact Nat.ne_of_lt (blk_lt (g:=gb159) (o:=.cells #[.int .i64 a0_0,.int .i64 a0_1,.slice A0_2 l0_2.length c0_2] 37 (0,0)) (by (with_reducible repeat (first | refine blk_drewN ?_ _ | refine blk_drew ?_ | refine blk_alloc ?_ _));exact BK159.out)):gb159 ≠ gb160));have n6_:=Aside0.mk ((by rw [hg];exact Nat.ne_of_gt (blk_lt (g:=gb159) (o:=.cells #[.int .i64 a0_0,.int .i64 a0_1,.slice A0_2 l0_2.length c0_2] 37 (0,0)) (by (with_reducible repeat (first | refine blk_drewN ?_ _ | refine blk_drew ?_ | refine blk_alloc ?_ _));exact BK159.out)):gb160 ≠ gb159));clear BK159;clear HB;have BK159:=n0_;have HB:=n1_;have BK160:=n2_;have GW160:=n3_;have GE160:=n4_;have NB159_160:=n5_;have NB160_159:=n6_;clear n0_ n1_ n2_ n3_ n4_ n5_ n6_;clear hb hbox hg;have hnb12:=NB160_159.out;have hnc12:=NB159_160.out;have hcz13_0:w11.cell? ⟨gb160,0,none⟩=some (.int .i64 a1_0):=(blk_cell BK160.out 0).trans rfl;have hcz13_1:w11.cell? ⟨gb160,1,none⟩=some (.int .i64 a1_1):=(blk_cell BK160.out 1).trans rfl;have hcz13_2:w11.cell? ⟨gb160,2,none⟩=some (.slice A1_2 l1_2.length c1_2):=(blk_cell BK160.out 2).trans rfl;have hfz13_0:=blk_frozen BK160.out 0;have hfz13_1:=blk_frozen BK160.out 1;have hfz13_2:=blk_frozen BK160.out 2;have hcz14_0:w11.cell? ⟨gb159,0,none⟩=some (.int .i64 a0_0):=(blk_cell BK159.out 0).trans rfl;have hcz14_1:w11.cell? ⟨gb159,1,none⟩=some (.int .i64 a0_1):=(blk_cell BK159.out 1).trans rfl;have hcz14_2:w11.cell? ⟨gb159,2,none⟩=some (.slice A0_2 l0_2.length c0_2):=(blk_cell BK159.out 2).trans rfl;have hfz14_0:=blk_frozen BK159.out 0;have hfz14_1:=blk_frozen BK159.out 1;have hfz14_2:=blk_frozen BK159.out 2))
   go_ret
   exact ⟨by first | rfl | (simp [errW_none,errW_some] <;> rfl) | (simp [*,errW_none,errW_some] <;> rfl),by repeat (first | (with_reducible first | exact HB.out | apply below_alloc | apply pw_below_drewN | apply below_drew1 | refine below_set ?_ GE159.out | refine below_set ?_ GE160.out) | exact HB.out)⟩
  ·rw [if_neg c9] at H
   have c9b0:(a1_0 == a0_0)=false:=beq_eq_false_iff_ne.mpr c9
   have c9b1:(a1_0 != a0_0)=true:=bne_iff_ne.mpr c9
   obtain rfl:=Option.some.inj H
   go_enter Tryz.func37,Tryz.ntmps37
   go_wp2_with (first | ((with_reducible refine gate_dst (N:=2) rfl ?_);(try (refine gate_guard (by rfl) ?_;dsimp only));refine box_event ?hg (N:=2) ?hd (cs:=#[.int .i64 a0_0,.int .i64 a0_1,.slice A0_2 l0_2.length c0_2]) (t:=37) ?hr ?_;(case hd=>rfl);(case hg=>rfl);(case hr=>first | (go_simp;done) | (go_simp;rfl));intro gb159 hg w15 hbox hb;have n0_:=Aside0.mk (below_step (by repeat (first | (with_reducible first | exact HB.out | apply below_alloc | apply pw_below_drewN | apply below_drew1) | exact HB.out)) hb);have n1_:=Aside0.mk (hbox);have n2_:=Aside0.mk ((by rw [hg];exact (below_size (by repeat (first | (with_reducible first | exact HB.out | apply below_alloc | apply pw_below_drewN | apply below_drew1) | exact HB.out))):w.heap.size ≤ gb159));have n3_:=Aside0.mk ((by rw [hg];exact (below_size (by repeat (first | (with_reducible first | exact HB.out | apply below_alloc | apply pw_below_drewN | apply below_drew1) | exact HB.out))):w.heap.size ≤ gb159));clear HB;have HB:=n0_;have BK159:=n1_;have GW159:=n2_;have GE159:=n3_;clear n0_ n1_ n2_ n3_;clear hb hbox hg) | ((with_reducible refine gate_dst (N:=3) rfl ?_);(try (refine gate_guard (by rfl) ?_;dsimp only));refine box_event ?hg (N:=3) ?hd (cs:=#[.int .i64 a1_0,.int .i64 a1_1,.slice A1_2 l1_2.length c1_2]) (t:=37) ?hr ?_;(case hd=>rfl);(case hg=>rfl);(case hr=>first | (go_simp;done) | (go_simp;rfl));intro gb160 hg w16 hbox hb;have n0_:=Aside0.mk (blk_below (g:=gb159) (o:=.cells #[.int .i64 a0_0,.int .i64 a0_1,.slice A0_2 l0_2.length c0_2] 37 (0,0)) (by (with_reducible repeat (first | refine blk_drewN ?_ _ | refine blk_drew ?_ | refine blk_alloc ?_ _));exact BK159.out) hb);have n1_:=Aside0.mk (below_step (by repeat (first | (with_reducible first | exact HB.out | apply below_alloc | apply pw_below_drewN | apply below_drew1 | refine below_set ?_ GE159.out) | exact HB.out)) hb);have n2_:=Aside0.mk (hbox);have n3_:=Aside0.mk ((by rw [hg];exact (below_size (by repeat (first | (with_reducible first | exact HB.out | apply below_alloc | apply pw_below_drewN | apply below_drew1 | refine below_set ?_ GE159.out) | exact HB.out))):w.heap.size ≤ gb160));have n4_:=Aside0.mk ((by rw [hg];exact (below_size (by repeat (first | (with_reducible first | exact HB.out | apply below_alloc | apply pw_below_drewN | apply below_drew1 | refine below_set ?_ GE159.out) | exact HB.out))):w.heap.size ≤ gb160));have n5_:=Aside0.mk ((by rw [hg];exact Nat.ne_of_lt (blk_lt (g:=gb159) (o:=.cells #[.int .i64 a0_0,.int .i64 a0_1,.slice A0_2 l0_2.length c0_2] 37 (0,0)) (by (with_reducible repeat (first | refine blk_drewN ?_ _ | refine blk_drew ?_ | refine blk_alloc ?_ _));exact BK159.out)):gb159 ≠ gb160));have n6_:=Aside0.mk ((by rw [hg];exact Nat.ne_of_gt (blk_lt (g:=gb159) (o:=.cells #[.int .i64 a0_0,.int .i64 a0_1,.slice A0_2 l0_2.length c0_2] 37 (0,0)) (by (with_reducible repeat (first | refine blk_drewN ?_ _ | refine blk_drew ?_ | refine blk_alloc ?_ _));exact BK159.out)):gb160 ≠ gb159));clear BK159;clear HB;have BK159:=n0_;have HB:=n1_;have BK160:=n2_;have GW160:=n3_;have GE160:=n4_;have NB159_160:=n5_;have NB160_159:=n6_;clear n0_ n1_ n2_ n3_ n4_ n5_ n6_;clear hb hbox hg;have hnb17:=NB160_159.out;have hnc17:=NB159_160.out;have hcz18_0:w16.cell? ⟨gb160,0,none⟩=some (.int .i64 a1_0):=(blk_cell BK160.out 0).trans rfl;have hcz18_1:w16.cell? ⟨gb160,1,none⟩=some (.int .i64 a1_1):=(blk_cell BK160.out 1).trans rfl;have hcz18_2:w16.cell? ⟨gb160,2,none⟩=some (.slice A1_2 l1_2.length c1_2):=(blk_cell BK160.out 2).trans rfl;have hfz18_0:=blk_frozen BK160.out 0;have hfz18_1:=blk_frozen BK160.out 1;have hfz18_2:=blk_frozen BK160.out 2;have hcz19_0:w16.cell? ⟨gb159,0,none⟩=some (.int .i64 a0_0):=(blk_cell BK159.out 0).trans rfl;have hcz19_1:w16.cell? ⟨gb159,1,none⟩=some (.int .i64 a0_1):=(blk_cell BK159.out 1).trans rfl;have hcz19_2:w16.cell? ⟨gb159,2,none⟩=some (.slice A0_2 l0_2.length c0_2):=(blk_cell BK159.out 2).trans rfl;have hfz19_0:=blk_frozen BK159.out 0;have hfz19_1:=blk_frozen BK159.out 1;have hfz19_2:=blk_frozen BK159.out 2))
   go_ret
   exact ⟨by first | rfl | (simp [errW_none,errW_some] <;> rfl) | (simp [*,errW_none,errW_some] <;> rfl),by repeat (first | (with_reducible first | exact HB.out | apply below_alloc | apply pw_below_drewN | apply below_drew1 | refine below_set ?_ GE159.out | refine below_set ?_ GE160.out) | exact HB.out)⟩
def rf_GaugeText.l0:Nat → ByteArray → Int → Int → Int → List Int → Option (ByteArray)
 | 0,_,_,_,_,_=>none
 | k + 1,x3,x4,x162000,x162001,x162002=>if x4 < (x162002.length:Int) then (if 0 ≤ x4 then (if 0 ≤ (wrap64 (x4 - 1)) then (if (wrap64 (x4 - 1)) < (x162002.length:Int) then (if (wrap64 ((rd x162002 x4) - (rd x162002 (wrap64 (x4 - 1))))) ≥ 0 then ((rf_Number.f (wrap64 ((rd x162002 x4) - (rd x162002 (wrap64 (x4 - 1)))))).bind fun t169=>(if 2 + t169.size ≤ 9223372036854775807 then (if x3.size + ((⟨#[32,43]⟩:ByteArray) ++ t169).size ≤ 9223372036854775807 then (rf_GaugeText.l0 k (x3 ++ ((⟨#[32,43]⟩:ByteArray) ++ t169)) (wrap64 (x4 + 1)) x162000 x162001 x162002) else (none)) else (none))) else ((rf_Number.f (wrap64 ((rd x162002 x4) - (rd x162002 (wrap64 (x4 - 1)))))).bind fun t170=>(if 1 + t170.size ≤ 9223372036854775807 then (if x3.size + ((⟨#[32]⟩:ByteArray) ++ t170).size ≤ 9223372036854775807 then (rf_GaugeText.l0 k (x3 ++ ((⟨#[32]⟩:ByteArray) ++ t170)) (wrap64 (x4 + 1)) x162000 x162001 x162002) else (none)) else (none)))) else (none)) else (none)) else (none)) else ((rf_Line.f x3).bind fun t166=>(some t166))
def rf_GaugeText.f (k:Nat) (a0_0:Int) (a0_1:Int) (l0_2:List Int):Option (ByteArray):=(rf_Number.f a0_0).bind fun t162=>(if t162.size + 1 ≤ 9223372036854775807 then ((rf_Number.f a0_1).bind fun t163=>(if (t162 ++ (⟨#[32]⟩:ByteArray)).size + t163.size ≤ 9223372036854775807 then (if ((t162 ++ (⟨#[32]⟩:ByteArray)) ++ t163).size + 1 ≤ 9223372036854775807 then (if 0 < (l0_2.length:Int) then ((rf_Number.f (rd l0_2 0)).bind fun t165=>(if (((t162 ++ (⟨#[32]⟩:ByteArray)) ++ t163) ++ (⟨#[32]⟩:ByteArray)).size + t165.size ≤ 9223372036854775807 then (rf_GaugeText.l0 k ((((t162 ++ (⟨#[32]⟩:ByteArray)) ++ t163) ++ (⟨#[32]⟩:ByteArray)) ++ t165) 1 a0_0 a0_1 l0_2) else (none))) else (none)) else (none)) else (none))) else (none))
def rf_GaugeText.T1:Bool × List (List Nat × List Nat):=(true,[([],[]),([0],[0]),([1],[1]),([2],[2]),([],[]),([4],[4]),([5,2],[5]),([3,6],[3,6]),([7],[7]),([],[]),([9],[9]),([10],[10]),([11],[11]),([12,6],[12]),([8,13],[8,13]),([14,13,0,1,2,3,4,5,6,7,8,9,10,11,12,13,14],[14])])
def rf_GaugeText.B1:List Nat:=[0,1,3,7,0,16,55,127,255,0,512,1536,3584,7799,16383,32767]
theorem rf_GaugeText.tab1:rtab .any (opsOf Tryz.f38 1)=rf_GaugeText.T1:=by kernel_rfl
theorem rf_GaugeText.bits1:waitsOk rf_GaugeText.T1.2 rf_GaugeText.B1=true:=by kernel_rfl
def rf_GaugeText.T5:Bool × List (List Nat × List Nat):=(true,[([],[]),([0],[0]),([],[]),([1,2],[1,2]),([3],[3]),([],[]),([5],[5]),([],[]),([7],[7]),([6,8],[6,8]),([9],[9]),([4,10],[4,10]),([11,0,1,2,3,4,5,6,7,8,9,10,11],[11])])
def rf_GaugeText.B5:List Nat:=[0,1,0,7,15,0,32,0,128,480,992,2047,4095]
theorem rf_GaugeText.tab5:rtab .any (opsOf Tryz.f38 5)=rf_GaugeText.T5:=by kernel_rfl
theorem rf_GaugeText.bits5:waitsOk rf_GaugeText.T5.2 rf_GaugeText.B5=true:=by kernel_rfl
set_option maxHeartbeats 8000000 in
set_option maxRecDepth 100000 in
theorem rf_GaugeText.calls (k:Nat) (a0_0:Int) (a0_1:Int) (A0_2:Option Addr) (c0_2:Nat) (l0_2:List Int) (r:ByteArray) (w:World) (hr0_2:Kd.C (Kd.int .i64) w A0_2 l0_2.length l0_2) (hc0_2:l0_2.length ≤ c0_2) (h:rf_GaugeText.f k a0_0 a0_1 l0_2=some r) :
  Calls Tryz.prog 38 #[.agg #[.int .i64 a0_0,.int .i64 a0_1,.slice A0_2 l0_2.length c0_2]] w fun e w'=>e=.returned (.string r) ∧ Below w.heap.size w w':=by
 have hu37:=Tryz.underlying37
 have HR0_2:=Aside0.mk hr0_2
 have HC0_2:=Aside0.mk hc0_2
 clear hr0_2 hc0_2
 have HB:=Aside0.mk (Below.refl w.heap.size w)
 have H:((rf_Number.f a0_0).bind fun t162=>(if t162.size + 1 ≤ 9223372036854775807 then ((rf_Number.f a0_1).bind fun t163=>(if (t162 ++ (⟨#[32]⟩:ByteArray)).size + t163.size ≤ 9223372036854775807 then (if ((t162 ++ (⟨#[32]⟩:ByteArray)) ++ t163).size + 1 ≤ 9223372036854775807 then (if 0 < (l0_2.length:Int) then ((rf_Number.f (rd l0_2 0)).bind fun t165=>(if (((t162 ++ (⟨#[32]⟩:ByteArray)) ++ t163) ++ (⟨#[32]⟩:ByteArray)).size + t165.size ≤ 9223372036854775807 then (rf_GaugeText.l0 k ((((t162 ++ (⟨#[32]⟩:ByteArray)) ++ t163) ++ (⟨#[32]⟩:ByteArray)) ++ t165) 1 a0_0 a0_1 l0_2) else (none))) else (none)) else (none)) else (none))) else (none)))=some r:=h
 clear h
 replace H:=Option.bind_eq_some_iff.mp H
 obtain ⟨t162,A20,H⟩:=H
 replace H:(if t162.size + 1 ≤ 9223372036854775807 then ((rf_Number.f a0_1).bind fun t163=>(if (t162 ++ (⟨#[32]⟩:ByteArray)).size + t163.size ≤ 9223372036854775807 then (if ((t162 ++ (⟨#[32]⟩:ByteArray)) ++ t163).size + 1 ≤ 9223372036854775807 then (if 0 < (l0_2.length:Int) then ((rf_Number.f (rd l0_2 0)).bind fun t165=>(if (((t162 ++ (⟨#[32]⟩:ByteArray)) ++ t163) ++ (⟨#[32]⟩:ByteArray)).size + t165.size ≤ 9223372036854775807 then (rf_GaugeText.l0 k ((((t162 ++ (⟨#[32]⟩:ByteArray)) ++ t163) ++ (⟨#[32]⟩:ByteArray)) ++ t165) 1 a0_0 a0_1 l0_2) else (none))) else (none)) else (none)) else (none))) else (none))=some r:=H
 have A2:=Aside0.mk A20
 clear A20
 by_cases c3:t162.size + 1 ≤ 9223372036854775807
 ·rw [if_pos c3] at H
  have c3b0:=eq_true c3
  have c3b1:decide (t162.size + 1 ≤ 9223372036854775807)=true:=decide_eq_true c3
  try have c3b2:(9223372036854775807 < t162.size + 1)=False:=eq_false (Nat.not_lt.2 c3)
  replace H:=Option.bind_eq_some_iff.mp H
  obtain ⟨t163,A40,H⟩:=H
  replace H:(if (t162 ++ (⟨#[32]⟩:ByteArray)).size + t163.size ≤ 9223372036854775807 then (if ((t162 ++ (⟨#[32]⟩:ByteArray)) ++ t163).size + 1 ≤ 9223372036854775807 then (if 0 < (l0_2.length:Int) then ((rf_Number.f (rd l0_2 0)).bind fun t165=>(if (((t162 ++ (⟨#[32]⟩:ByteArray)) ++ t163) ++ (⟨#[32]⟩:ByteArray)).size + t165.size ≤ 9223372036854775807 then (rf_GaugeText.l0 k ((((t162 ++ (⟨#[32]⟩:ByteArray)) ++ t163) ++ (⟨#[32]⟩:ByteArray)) ++ t165) 1 a0_0 a0_1 l0_2) else (none))) else (none)) else (none)) else (none))=some r:=H
  have A4:=Aside0.mk A40
  clear A40
  by_cases c5:(t162 ++ (⟨#[32]⟩:ByteArray)).size + t163.size ≤ 9223372036854775807
  ·rw [if_pos c5] at H
   have c5b0:=eq_true c5
   have c5b1:decide ((t162 ++ (⟨#[32]⟩:ByteArray)).size + t163.size ≤ 9223372036854775807)=true:=decide_eq_true c5
   try have c5b2:(9223372036854775807 < (t162 ++ (⟨#[32]⟩:ByteArray)).size + t163.size)=False:=eq_false (Nat.not_lt.2 c5)
   have c5b3:(9223372036854775807 < t162.size + 1 + t163.size)=False:=eq_false (Nat.not_lt.2 (Eq.subst (motive:=fun z=>z ≤ 9223372036854775807) (show (t162 ++ (⟨#[32]⟩:ByteArray)).size + t163.size=t162.size + 1 + t163.size by simp only [ByteArray.size_append];first | done | rfl | (rw [← Nat.add_assoc];rfl)) c5))
   by_cases c6:((t162 ++ (⟨#[32]⟩:ByteArray)) ++ t163).size + 1 ≤ 9223372036854775807
   ·rw [if_pos c6] at H
    have c6b0:=eq_true c6
    have c6b1:decide (((t162 ++ (⟨#[32]⟩:ByteArray)) ++ t163).size + 1 ≤ 9223372036854775807)=true:=decide_eq_true c6
    try have c6b2:(9223372036854775807 < ((t162 ++ (⟨#[32]⟩:ByteArray)) ++ t163).size + 1)=False:=eq_false (Nat.not_lt.2 c6)
    have c6b3:(9223372036854775807 < t162.size + 1 + t163.size + 1)=False:=eq_false (Nat.not_lt.2 (Eq.subst (motive:=fun z=>z ≤ 9223372036854775807) (show ((t162 ++ (⟨#[32]⟩:ByteArray)) ++ t163).size + 1=t162.size + 1 + t163.size + 1 by simp only [ByteArray.size_append];first | done | rfl | (rw [← Nat.add_assoc];rfl)) c6))
    by_cases c7:0 < (l0_2.length:Int)
    ·rw [if_pos c7] at H
     have c7b0:decide (0 < (l0_2.length:Int))=true:=decide_eq_true c7
     have c7b1:decide (0 < l0_2.length)=true:=decide_eq_true (by omega)
     clear c7
     replace H:=Option.bind_eq_some_iff.mp H
     obtain ⟨t165,A80,H⟩:=H
     replace H:(if (((t162 ++ (⟨#[32]⟩:ByteArray)) ++ t163) ++ (⟨#[32]⟩:ByteArray)).size + t165.size ≤ 9223372036854775807 then (rf_GaugeText.l0 k ((((t162 ++ (⟨#[32]⟩:ByteArray)) ++ t163) ++ (⟨#[32]⟩:ByteArray)) ++ t165) 1 a0_0 a0_1 l0_2) else (none))=some r:=H
     have A8:=Aside0.mk A80
     clear A80
     by_cases c9:(((t162 ++ (⟨#[32]⟩:ByteArray)) ++ t163) ++ (⟨#[32]⟩:ByteArray)).size + t165.size ≤ 9223372036854775807
     ·rw [if_pos c9] at H
      have c9b0:=eq_true c9
      have c9b1:decide ((((t162 ++ (⟨#[32]⟩:ByteArray)) ++ t163) ++ (⟨#[32]⟩:ByteArray)).size + t165.size ≤ 9223372036854775807)=true:=decide_eq_true c9
      try have c9b2:(9223372036854775807 < (((t162 ++ (⟨#[32]⟩:ByteArray)) ++ t163) ++ (⟨#[32]⟩:ByteArray)).size + t165.size)=False:=eq_false (Nat.not_lt.2 c9)
      have c9b3:(9223372036854775807 < t162.size + 1 + t163.size + 1 + t165.size)=False:=eq_false (Nat.not_lt.2 (Eq.subst (motive:=fun z=>z ≤ 9223372036854775807) (show (((t162 ++ (⟨#[32]⟩:ByteArray)) ++ t163) ++ (⟨#[32]⟩:ByteArray)).size + t165.size=t162.size + 1 + t163.size + 1 + t165.size by simp only [ByteArray.size_append];first | done | rfl | (rw [← Nat.add_assoc];rfl)) c9))
      have H':=Aside0.mk H
      clear H
      go_enter Tryz.func38,Tryz.ntmps38
      try go_wp2_with (first | ((with_reducible refine gate_dst (N:=1) rfl ?_);refine box_event ?hg (N:=1) ?hd (cs:=#[.int .i64 a0_0,.int .i64 a0_1,.slice A0_2 l0_2.length c0_2]) (t:=37) ?hr ?_;(case hd=>rfl);(case hg=>rfl);(case hr=>first | (go_simp;done) | (go_simp;rfl));intro gb161 hg w10 hbox hb;have n0_:=Aside0.mk (below_step (by repeat (first | (with_reducible first | exact HB.out | apply below_alloc | apply pw_below_drewN | apply below_drew1) | exact HB.out)) hb);have n1_:=Aside0.mk (hbox);have n2_:=Aside0.mk ((by rw [hg];exact (below_size (by repeat (first | (with_reducible first | exact HB.out | apply below_alloc | apply pw_below_drewN | apply below_drew1) | exact HB.out))):w.heap.size ≤ gb161));have n3_:=Aside0.mk ((by rw [hg];exact (below_size (by repeat (first | (with_reducible first | exact HB.out | apply below_alloc | apply pw_below_drewN | apply below_drew1) | exact HB.out))):w.heap.size ≤ gb161));clear HB;have HB:=n0_;have BK161:=n1_;have GW161:=n2_;have GE161:=n3_;clear n0_ n1_ n2_ n3_;clear hb hbox hg))
      have n0_:=Aside0.mk (blk_drew BK161.out)
      have n1_:=Aside0.mk (below_drew1 HB.out)
      clear BK161
      clear HB
      have BK161:=n0_
      have HB:=n1_
      clear n0_ n1_
      have p164:0 ≤ (0:Int):=(by omega)
      have q164:0 < (l0_2.length:Int):=of_decide_eq_true (by first | (with_reducible assumption) | assumption)
      obtain ⟨ad164,e164,hx164_0⟩:=Kd.at_int HR0_2.out 0 p164 q164
      have hw164_0:=hx164_0
      (try rw [show ((0:Int)).toNat=0 from rfl] at hw164_0)
      (try rw [show 0 * 1=0 from rfl] at hw164_0)
      (try rw [Addr.add_zero'] at hw164_0)
      cases e164
      have qi164:(0 < l0_2.length)=True:=eq_true (by omega)
      (try rw [show ((0:Int)).toNat=0 from rfl] at hx164_0)
      (try rw [Addr.add_zero'] at hx164_0)
      replace hx164_0:=(HB.out.cell (xbl w _ hx164_0)).trans hx164_0
      replace p164:=eq_true p164
      replace q164:=eq_true q164
      refine start_ (n:=16) (S:=fun w'=>w'.cell? ⟨gb161,0,none⟩=some (.int .i64 a0_0) ∧ w'.cell? ⟨gb161,1,none⟩=some (.int .i64 a0_1) ∧ w'.cell? ⟨gb161,2,none⟩=some (.slice (some ad164) l0_2.length c0_2) ∧ w'.cell? ad164=some (.int .i64 (rd l0_2 0))) (ds:=[]) #[false,false,false,false,false,false,false,false,false,false,false,false,false,false,false,false] (by kernel_rfl) rfl rfl ⟨(blk_cell BK161.out 0).trans rfl,(blk_cell BK161.out 1).trans rfl,(blk_cell BK161.out 2).trans rfl,((HB.out.cell (xbl w _ hw164_0)).trans hw164_0)⟩ (fun hHeld=>?_);refine with_tabW rf_GaugeText.tab1 rf_GaugeText.bits1 (fun HT_ HW_=>?_)
      generalize w10.drew=w11 at BK161 HB hx164_0 hHeld ⊢
      refine pure_ (i:=0) (N:=some 6) (v:=?_) (a':=?_) #[true,false,false,false,false,false,false,false,false,false,false,false,false,false,false,false] rfl rfl (any_of HT_.out (by kernel_rfl)) (fun _ _ _ h=>h) (Or.inl ⟨by rfl,?_⟩) ?_ ?_
      rotate_left
      ·intro w'
       go_simp
       with_reducible rfl
      rotate_left
      ·simp only [Act.put,xsA,xsZ,xsS,i64_w,i32_w]
       rfl
      refine pure_ (i:=4) (N:=some 10) (v:=?_) (a':=?_) #[true,false,false,false,true,false,false,false,false,false,false,false,false,false,false,false] rfl rfl (any_of HT_.out (by kernel_rfl)) (fun _ _ _ h=>h) (Or.inl ⟨by rfl,?_⟩) ?_ ?_
      rotate_left
      ·intro w'
       go_simp
       with_reducible rfl
      rotate_left
      ·simp only [Act.put,xsA,xsZ,xsS,i64_w,i32_w]
       rfl
      refine pure_ (i:=9) (N:=some 15) (v:=?_) (a':=?_) #[true,false,false,false,true,false,false,false,false,true,false,false,false,false,false,false] rfl rfl (any_of HT_.out (by kernel_rfl)) (fun _ _ _ h=>h) (Or.inl ⟨by rfl,?_⟩) ?_ ?_
      rotate_left
      ·intro w'
       go_simp
       with_reducible rfl
      rotate_left
      ·simp only [Act.put,xsA,xsZ,xsS,i64_w,i32_w]
       rfl
      refine take_ (i:=1) (N:=some 7) (v:=?_) (a':=?_) #[true,true,false,false,true,false,false,false,false,true,false,false,false,false,false,false] rfl rfl (take_ofW HT_.out HW_.out (by kernel_rfl)) (fun _ _ _ h=>h) (Or.inl ⟨by rfl,?_⟩) hHeld ?_ ?_
      rotate_left
      ·rintro w' ⟨s0,s1,s2,s3⟩
       go_simp
       with_reducible rfl
      rotate_left
      ·simp only [Act.put,xsA,xsZ,xsS,i64_w,i32_w]
       rfl
      refine take_ (i:=5) (N:=some 11) (v:=?_) (a':=?_) #[true,true,false,false,true,true,false,false,false,true,false,false,false,false,false,false] rfl rfl (take_ofW HT_.out HW_.out (by kernel_rfl)) (fun _ _ _ h=>h) (Or.inl ⟨by rfl,?_⟩) hHeld ?_ ?_
      rotate_left
      ·rintro w' ⟨s0,s1,s2,s3⟩
       go_simp
       with_reducible rfl
      rotate_left
      ·simp only [Act.put,xsA,xsZ,xsS,i64_w,i32_w]
       rfl
      refine take_ (i:=10) (N:=some 16) (v:=?_) (a':=?_) #[true,true,false,false,true,true,false,false,false,true,true,false,false,false,false,false] rfl rfl (take_ofW HT_.out HW_.out (by kernel_rfl)) (fun _ _ _ h=>h) (Or.inl ⟨by rfl,?_⟩) hHeld ?_ ?_
      rotate_left
      ·rintro w' ⟨s0,s1,s2,s3⟩
       go_simp
       with_reducible rfl
      rotate_left
      ·simp only [Act.put,xsA,xsZ,xsS,i64_w,i32_w]
       rfl
      refine pure_ (i:=11) (N:=some 17) (v:=?_) (a':=?_) #[true,true,false,false,true,true,false,false,false,true,true,true,false,false,false,false] rfl rfl (any_of HT_.out (by kernel_rfl)) (fun _ _ _ h=>h) (Or.inl ⟨by rfl,?_⟩) ?_ ?_
      rotate_left
      ·intro w'
       go_simp
       with_reducible rfl
      rotate_left
      ·simp only [Act.put,xsA,xsZ,xsS,i64_w,i32_w]
       rfl
      refine take_ (i:=12) (N:=some 18) (v:=?_) (a':=?_) #[true,true,false,false,true,true,false,false,false,true,true,true,true,false,false,false] rfl rfl (take_ofW HT_.out HW_.out (by kernel_rfl)) (fun _ _ _ h=>h) (Or.inl ⟨by rfl,?_⟩) hHeld ?_ ?_
      rotate_left
      ·rintro w' ⟨s0,s1,s2,s3⟩
       go_simp
       with_reducible rfl
      rotate_left
      ·simp only [Act.put,xsA,xsZ,xsS,i64_w,i32_w]
       rfl
      refine one_ (i:=2) (N:=some 8) #[true,true,true,false,true,true,false,false,false,true,true,true,true,false,false,false] rfl rfl (one_of HT_.out (by kernel_rfl)) (by decide) (fun K hK=>?_)
      refine goes_ Tryz.func61 (by kernel_rfl) rfl #[.int .i64 a0_0] (by rfl) rfl rfl (by (try simp only [List.map_toArray,List.map_cons,List.map_nil]);first | done | rfl | (simp only [List.length_drop,List.length_take];rfl)) ?_
      with_reducible refine (rf_Number.calls a0_0 t162 _ A2.out).mono ?_
      rintro e w12 ⟨rfl,hb⟩
      refine ⟨_,rfl,?_⟩
      have n0_:=Aside0.mk (blk_below (g:=gb161) (o:=.cells #[.int .i64 a0_0,.int .i64 a0_1,.slice (some ad164) l0_2.length c0_2] 37 (0,0)) (by (with_reducible repeat (first | refine blk_drewN ?_ _ | refine blk_drew ?_ | refine blk_alloc ?_ _));exact BK161.out) hb)
      have n1_:=Aside0.mk (below_step (by repeat (first | (with_reducible first | exact HB.out | apply below_alloc | apply pw_below_drewN | apply below_drew1 | refine below_set ?_ GE161.out) | exact HB.out)) hb)
      clear BK161
      clear HB
      have BK161:=n0_
      have HB:=n1_
      clear n0_ n1_
      (try clear hb)
      (try clear hb2)
      (try clear hk)
      (try clear hi)
      refine hK.out _ _ ⟨(blk_cell BK161.out 0).trans rfl,(blk_cell BK161.out 1).trans rfl,(blk_cell BK161.out 2).trans rfl,((HB.out.cell (xbl w _ hw164_0)).trans hw164_0)⟩ (fun hHeld=>?_)
      clear hK K
      refine norm_ (a':=?_) ?_ ?_
      rotate_left
      ·show Act.put _ (some 8) _=_
       simp only [Act.put,xsA,xsZ,xsS,i64_w,i32_w]
       rfl
      refine pure_ (i:=3) (N:=some 9) (v:=?_) (a':=?_) #[true,true,true,true,true,true,false,false,false,true,true,true,true,false,false,false] rfl rfl (any_of HT_.out (by kernel_rfl)) (fun _ _ _ h=>h) (Or.inl ⟨by rfl,?_⟩) ?_ ?_
      rotate_left
      ·intro w'
       go_simp
       with_reducible rfl
      rotate_left
      ·simp only [Act.put,xsA,xsZ,xsS,i64_w,i32_w]
       rfl
      refine one_ (i:=6) (N:=some 12) #[true,true,true,true,true,true,true,false,false,true,true,true,true,false,false,false] rfl rfl (one_of HT_.out (by kernel_rfl)) (by decide) (fun K hK=>?_)
      refine goes_ Tryz.func61 (by kernel_rfl) rfl #[.int .i64 a0_1] (by rfl) rfl rfl (by (try simp only [List.map_toArray,List.map_cons,List.map_nil]);first | done | rfl | (simp only [List.length_drop,List.length_take];rfl)) ?_
      with_reducible refine (rf_Number.calls a0_1 t163 _ A4.out).mono ?_
      rintro e w13 ⟨rfl,hb⟩
      refine ⟨_,rfl,?_⟩
      have n0_:=Aside0.mk (blk_below (g:=gb161) (o:=.cells #[.int .i64 a0_0,.int .i64 a0_1,.slice (some ad164) l0_2.length c0_2] 37 (0,0)) (by (with_reducible repeat (first | refine blk_drewN ?_ _ | refine blk_drew ?_ | refine blk_alloc ?_ _));exact BK161.out) hb)
      have n1_:=Aside0.mk (below_step (by repeat (first | (with_reducible first | exact HB.out | apply below_alloc | apply pw_below_drewN | apply below_drew1 | refine below_set ?_ GE161.out) | exact HB.out)) hb)
      clear BK161
      clear HB
      have BK161:=n0_
      have HB:=n1_
      clear n0_ n1_
      (try clear hb)
      (try clear hb2)
      (try clear hk)
      (try clear hi)
      refine hK.out _ _ ⟨(blk_cell BK161.out 0).trans rfl,(blk_cell BK161.out 1).trans rfl,(blk_cell BK161.out 2).trans rfl,((HB.out.cell (xbl w _ hw164_0)).trans hw164_0)⟩ (fun hHeld=>?_)
      clear hK K
      refine norm_ (a':=?_) ?_ ?_
      rotate_left
      ·show Act.put _ (some 12) _=_
       simp only [Act.put,xsA,xsZ,xsS,i64_w,i32_w]
       rfl
      refine pure_ (i:=7) (N:=some 13) (v:=?_) (a':=?_) #[true,true,true,true,true,true,true,true,false,true,true,true,true,false,false,false] rfl rfl (any_of HT_.out (by kernel_rfl)) (fun _ _ _ h=>h) (Or.inl ⟨by rfl,?_⟩) ?_ ?_
      rotate_left
      ·intro w'
       go_simp
       with_reducible rfl
      rotate_left
      ·simp only [Act.put,xsA,xsZ,xsS,i64_w,i32_w]
       rfl
      refine pure_ (i:=8) (N:=some 14) (v:=?_) (a':=?_) #[true,true,true,true,true,true,true,true,true,true,true,true,true,false,false,false] rfl rfl (any_of HT_.out (by kernel_rfl)) (fun _ _ _ h=>h) (Or.inl ⟨by rfl,?_⟩) ?_ ?_
      rotate_left
      ·intro w'
       go_simp
       with_reducible rfl
      rotate_left
      ·simp only [Act.put,xsA,xsZ,xsS,i64_w,i32_w]
       rfl
      refine one_ (i:=13) (N:=some 19) #[true,true,true,true,true,true,true,true,true,true,true,true,true,true,false,false] rfl rfl (one_of HT_.out (by kernel_rfl)) (by decide) (fun K hK=>?_)
      refine goes_ Tryz.func61 (by kernel_rfl) rfl #[.int .i64 (rd l0_2 0)] (by rfl) rfl rfl (by (try simp only [List.map_toArray,List.map_cons,List.map_nil]);first | done | rfl | (simp only [List.length_drop,List.length_take];rfl)) ?_
      with_reducible refine (rf_Number.calls (rd l0_2 0) t165 _ A8.out).mono ?_
      rintro e w14 ⟨rfl,hb⟩
      refine ⟨_,rfl,?_⟩
      have n0_:=Aside0.mk (blk_below (g:=gb161) (o:=.cells #[.int .i64 a0_0,.int .i64 a0_1,.slice (some ad164) l0_2.length c0_2] 37 (0,0)) (by (with_reducible repeat (first | refine blk_drewN ?_ _ | refine blk_drew ?_ | refine blk_alloc ?_ _));exact BK161.out) hb)
      have n1_:=Aside0.mk (below_step (by repeat (first | (with_reducible first | exact HB.out | apply below_alloc | apply pw_below_drewN | apply below_drew1 | refine below_set ?_ GE161.out) | exact HB.out)) hb)
      clear BK161
      clear HB
      have BK161:=n0_
      have HB:=n1_
      clear n0_ n1_
      (try clear hb)
      (try clear hb2)
      (try clear hk)
      (try clear hi)
      refine hK.out _ _ ⟨(blk_cell BK161.out 0).trans rfl,(blk_cell BK161.out 1).trans rfl,(blk_cell BK161.out 2).trans rfl,((HB.out.cell (xbl w _ hw164_0)).trans hw164_0)⟩ (fun hHeld=>?_)
      clear hK K
      refine norm_ (a':=?_) ?_ ?_
      rotate_left
      ·show Act.put _ (some 19) _=_
       simp only [Act.put,xsA,xsZ,xsS,i64_w,i32_w]
       rfl
      refine pure_ (i:=14) (N:=some 20) (v:=?_) (a':=?_) #[true,true,true,true,true,true,true,true,true,true,true,true,true,true,true,false] rfl rfl (any_of HT_.out (by kernel_rfl)) (fun _ _ _ h=>h) (Or.inl ⟨by rfl,?_⟩) ?_ ?_
      rotate_left
      ·intro w'
       go_simp
       with_reducible rfl
      rotate_left
      ·simp only [Act.put,xsA,xsZ,xsS,i64_w,i32_w]
       rfl
      refine pure_ (i:=15) (N:=some 3) (v:=?_) (a':=?_) #[true,true,true,true,true,true,true,true,true,true,true,true,true,true,true,true] rfl rfl (any_of HT_.out (by kernel_rfl)) (fun _ _ _ h=>h) (Or.inl ⟨by rfl,?_⟩) ?_ ?_
      rotate_left
      ·intro w'
       go_simp
       with_reducible rfl
      rotate_left
      ·simp only [Act.put,xsA,xsZ,xsS,i64_w,i32_w]
       rfl
      refine done_ (done_of HT_.out (by kernel_rfl)) ?_
      try go_wp2
      go_loopg [3,4] k (fun kq v3 v4 w'=>∃ (x3_1:ByteArray) (x4_1:Int),v3=.string x3_1 ∧ v4=.int .i64 x4_1 ∧ Aside0 (rf_GaugeText.l0 kq x3_1 x4_1 a0_0 a0_1 l0_2=some r) ∧ Aside0 (kq ≤ k) ∧ Aside0 (w'.heap[gb161]?=some (.cells #[.int .i64 a0_0,.int .i64 a0_1,(.slice (some ad164) l0_2.length c0_2)] 37 (0,0))) ∧ Aside0 (Below w.heap.size w w'))
      case atStart=>exact ⟨((((t162 ++ (⟨#[32]⟩:ByteArray)) ++ t163) ++ (⟨#[32]⟩:ByteArray)) ++ t165),(1),(by first | rfl | (simp;done) | (simp [*];done)),(by first | rfl | (simp;done) | (simp [*];done)),H',⟨Nat.le_refl _⟩,⟨by (with_reducible repeat (first | refine blk_drewN ?_ _ | refine blk_drew ?_ | refine blk_alloc ?_ _));exact BK161.out⟩,⟨by repeat (first | (with_reducible first | exact HB.out | apply below_alloc | apply pw_below_drewN | apply below_drew1 | refine below_set ?_ GE161.out) | exact HB.out)⟩⟩
      case round =>
       clear H'
       try clear p1
       try clear q1
       try clear hx1
       try clear qi1
       try clear p2
       try clear c3
       try clear c3b0
       try clear c3b1
       try clear c3b2
       try clear c5
       try clear c5b0
       try clear c5b1
       try clear c5b2
       try clear c6
       try clear c6b0
       try clear c6b1
       try clear c6b2
       try clear c7
       try clear c7b0
       try clear c7b1
       try clear c9
       try clear c9b0
       try clear c9b1
       try clear c9b2
       try clear hx164_0
       try clear p164
       try clear q164
       obtain ⟨x3_1,x4_1,rfl,rfl,HA,HK1,BK161,HB⟩:=hrel
       cases gk with
       | zero=>exact absurd HA.out (by simp [rf_GaugeText.l0])
       | succ k1 =>
        have H:=HA.out
        clear HA
        simp only [rf_GaugeText.l0] at H
        by_cases c15:x4_1 < (l0_2.length:Int)
        ·rw [if_pos c15] at H
         have c15b0:decide (x4_1 < (l0_2.length:Int))=true:=decide_eq_true c15
         clear c15
         by_cases c16:0 ≤ x4_1
         ·rw [if_pos c16] at H
          have c16b0:decide (0 ≤ x4_1)=true:=decide_eq_true c16
          clear c16
          obtain ⟨ji17,hji17⟩:∃ j_:Int,(wrap64 (x4_1 - 1))=j_:=⟨_,rfl⟩
          replace H:(if 0 ≤ (ji17) then (if (ji17) < (l0_2.length:Int) then (if (wrap64 ((rd l0_2 x4_1) - (rd l0_2 (ji17)))) ≥ 0 then ((rf_Number.f (wrap64 ((rd l0_2 x4_1) - (rd l0_2 (ji17))))).bind fun t169=>(if 2 + t169.size ≤ 9223372036854775807 then (if x3_1.size + ((⟨#[32,43]⟩:ByteArray) ++ t169).size ≤ 9223372036854775807 then (rf_GaugeText.l0 k1 (x3_1 ++ ((⟨#[32,43]⟩:ByteArray) ++ t169)) (wrap64 (x4_1 + 1)) a0_0 a0_1 l0_2) else (none)) else (none))) else ((rf_Number.f (wrap64 ((rd l0_2 x4_1) - (rd l0_2 (ji17))))).bind fun t170=>(if 1 + t170.size ≤ 9223372036854775807 then (if x3_1.size + ((⟨#[32]⟩:ByteArray) ++ t170).size ≤ 9223372036854775807 then (rf_GaugeText.l0 k1 (x3_1 ++ ((⟨#[32]⟩:ByteArray) ++ t170)) (wrap64 (x4_1 + 1)) a0_0 a0_1 l0_2) else (none)) else (none)))) else (none)) else (none))=some r:=by first | (rw [hji17] at H;exact H) | (simp only [hji17] at H ⊢;exact H)
          have hji17w:(IntKind.i64.wrap (x4_1 - 1))=ji17:=(i64_w _).trans hji17
          by_cases c18:0 ≤ (ji17)
          ·rw [if_pos c18] at H
           have c18b0:decide (0 ≤ (ji17))=true:=decide_eq_true c18
           clear c18
           by_cases c19:(ji17) < (l0_2.length:Int)
           ·rw [if_pos c19] at H
            have c19b0:decide ((ji17) < (l0_2.length:Int))=true:=decide_eq_true c19
            clear c19
            by_cases c20:(wrap64 ((rd l0_2 x4_1) - (rd l0_2 (ji17)))) ≥ 0
            ·rw [if_pos c20] at H
             have c20b0:decide (0 ≤ (wrap64 ((rd l0_2 x4_1) - (rd l0_2 (ji17)))))=true:=decide_eq_true c20
             clear c20
             replace H:=Option.bind_eq_some_iff.mp H
             obtain ⟨t169,A210,H⟩:=H
             replace H:(if 2 + t169.size ≤ 9223372036854775807 then (if x3_1.size + ((⟨#[32,43]⟩:ByteArray) ++ t169).size ≤ 9223372036854775807 then (rf_GaugeText.l0 k1 (x3_1 ++ ((⟨#[32,43]⟩:ByteArray) ++ t169)) (wrap64 (x4_1 + 1)) a0_0 a0_1 l0_2) else (none)) else (none))=some r:=H
             have A21:=Aside0.mk A210
             clear A210
             by_cases c22:2 + t169.size ≤ 9223372036854775807
             ·rw [if_pos c22] at H
              have c22b0:=eq_true c22
              have c22b1:decide (2 + t169.size ≤ 9223372036854775807)=true:=decide_eq_true c22
              try have c22b2:(9223372036854775807 < 2 + t169.size)=False:=eq_false (Nat.not_lt.2 c22)
              by_cases c23:x3_1.size + ((⟨#[32,43]⟩:ByteArray) ++ t169).size ≤ 9223372036854775807
              ·rw [if_pos c23] at H
               have c23b0:=eq_true c23
               have c23b1:decide (x3_1.size + ((⟨#[32,43]⟩:ByteArray) ++ t169).size ≤ 9223372036854775807)=true:=decide_eq_true c23
               try have c23b2:(9223372036854775807 < x3_1.size + ((⟨#[32,43]⟩:ByteArray) ++ t169).size)=False:=eq_false (Nat.not_lt.2 c23)
               have c23b3:(9223372036854775807 < x3_1.size + 2 + t169.size)=False:=eq_false (Nat.not_lt.2 (Eq.subst (motive:=fun z=>z ≤ 9223372036854775807) (show x3_1.size + ((⟨#[32,43]⟩:ByteArray) ++ t169).size=x3_1.size + 2 + t169.size by simp only [ByteArray.size_append];first | done | rfl | (rw [← Nat.add_assoc];rfl)) c23))
               have c23b4:(9223372036854775807 < x3_1.size + (2 + t169.size))=False:=eq_false (Nat.not_lt.2 (Eq.subst (motive:=fun z=>z ≤ 9223372036854775807) (show x3_1.size + ((⟨#[32,43]⟩:ByteArray) ++ t169).size=x3_1.size + (2 + t169.size) by simp only [ByteArray.size_append];first | done | rfl) c23))
               have H':=Aside0.mk H
               clear H
               have hcz24_0:wr.cell? ⟨gb161,0,none⟩=some (.int .i64 a0_0):=(blk_cell BK161.out 0).trans rfl
               have hcz24_1:wr.cell? ⟨gb161,1,none⟩=some (.int .i64 a0_1):=(blk_cell BK161.out 1).trans rfl
               have hcz24_2:wr.cell? ⟨gb161,2,none⟩=some (.slice (some ad164) l0_2.length c0_2):=(blk_cell BK161.out 2).trans rfl
               have hfz24_0:=blk_frozen BK161.out 0
               have hfz24_1:=blk_frozen BK161.out 1
               have hfz24_2:=blk_frozen BK161.out 2
               try go_wp2
               have n0_:=Aside0.mk (blk_drew BK161.out)
               have n1_:=Aside0.mk (below_drew1 HB.out)
               clear BK161
               clear HB
               have BK161:=n0_
               have HB:=n1_
               clear n0_ n1_
               have p167:0 ≤ (x4_1:Int):=of_decide_eq_true (by first | (with_reducible assumption) | assumption)
               have q167:x4_1 < (l0_2.length:Int):=of_decide_eq_true (by first | (with_reducible assumption) | assumption)
               obtain ⟨ad167,e167,hx167_0⟩:=Kd.at_int HR0_2.out x4_1 p167 q167
               have hw167_0:=hx167_0
               obtain rfl:ad164=ad167:=(by injection e167)
               replace hx167_0:=(HB.out.cell (xbl w _ hx167_0)).trans hx167_0
               replace p167:=eq_true p167
               replace q167:=eq_true q167
               have p168:0 ≤ ((ji17):Int):=of_decide_eq_true (by first | (with_reducible assumption) | assumption)
               have q168:(ji17) < (l0_2.length:Int):=of_decide_eq_true (by first | (with_reducible assumption) | assumption)
               obtain ⟨ad168,e168,hx168_0⟩:=Kd.at_int HR0_2.out (ji17) p168 q168
               have hw168_0:=hx168_0
               obtain rfl:ad164=ad168:=(by injection e168)
               replace hx168_0:=(HB.out.cell (xbl w _ hx168_0)).trans hx168_0
               replace p168:=eq_true p168
               replace q168:=eq_true q168
               refine start_ (n:=13) (S:=fun w'=>w'.cell? ⟨gb161,0,none⟩=some (.int .i64 a0_0) ∧ w'.cell? ⟨gb161,1,none⟩=some (.int .i64 a0_1) ∧ w'.cell? ⟨gb161,2,none⟩=some (.slice (some ad164) l0_2.length c0_2) ∧ w'.cell? (ad164.add (x4_1).toNat)=some (.int .i64 (rd l0_2 x4_1)) ∧ w'.cell? (ad164.add ((ji17)).toNat)=some (.int .i64 (rd l0_2 (ji17)))) (ds:=[]) #[false,false,false,false,false,false,false,false,false,false,false,false,false] (by kernel_rfl) rfl rfl ⟨(blk_cell BK161.out 0).trans rfl,(blk_cell BK161.out 1).trans rfl,(blk_cell BK161.out 2).trans rfl,((HB.out.cell (xbl w _ hw167_0)).trans hw167_0),((HB.out.cell (xbl w _ hw168_0)).trans hw168_0)⟩ (fun hHeld=>?_);refine with_tabW rf_GaugeText.tab5 rf_GaugeText.bits5 (fun HT_ HW_=>?_)
               generalize wr.drew=w25 at BK161 HB hx167_0 hx168_0 hHeld ⊢
               refine pure_ (i:=0) (N:=some 28) (v:=?_) (a':=?_) #[true,false,false,false,false,false,false,false,false,false,false,false,false] rfl rfl (any_of HT_.out (by kernel_rfl)) (fun _ _ _ h=>h) (Or.inl ⟨by rfl,?_⟩) ?_ ?_
               rotate_left
               ·intro w'
                go_simp
                with_reducible rfl
               rotate_left
               ·simp only [Act.put,xsA,xsZ,xsS,i64_w,i32_w]
                rfl
               refine pure_ (i:=2) (N:=some 30) (v:=?_) (a':=?_) #[true,false,true,false,false,false,false,false,false,false,false,false,false] rfl rfl (any_of HT_.out (by kernel_rfl)) (fun _ _ _ h=>h) (Or.inl ⟨by rfl,?_⟩) ?_ ?_
               rotate_left
               ·intro w'
                go_simp
                with_reducible rfl
               rotate_left
               ·simp only [Act.put,xsA,xsZ,xsS,i64_w,i32_w]
                rfl
               refine pure_ (i:=5) (N:=some 33) (v:=?_) (a':=?_) #[true,false,true,false,false,true,false,false,false,false,false,false,false] rfl rfl (any_of HT_.out (by kernel_rfl)) (fun _ _ _ h=>h) (Or.inl ⟨by rfl,?_⟩) ?_ ?_
               rotate_left
               ·intro w'
                go_simp
                with_reducible rfl
               rotate_left
               ·simp only [Act.put,xsA,xsZ,xsS,i64_w,i32_w]
                rfl
               refine pure_ (i:=7) (N:=some 35) (v:=?_) (a':=?_) #[true,false,true,false,false,true,false,true,false,false,false,false,false] rfl rfl (any_of HT_.out (by kernel_rfl)) (fun _ _ _ h=>h) (Or.inl ⟨by rfl,?_⟩) ?_ ?_
               rotate_left
               ·intro w'
                go_simp
                with_reducible rfl
               rotate_left
               ·simp only [Act.put,xsA,xsZ,xsS,i64_w,i32_w]
                rfl
               refine pure_ (i:=8) (N:=some 36) (v:=?_) (a':=?_) #[true,false,true,false,false,true,false,true,true,false,false,false,false] rfl rfl (any_of HT_.out (by kernel_rfl)) (fun _ _ _ h=>h) (Or.inl ⟨by rfl,?_⟩) ?_ ?_
               rotate_left
               ·intro w'
                go_simp
                with_reducible rfl
               rotate_left
               ·simp only [Act.put,xsA,xsZ,xsS,i64_w,i32_w]
                rfl
               refine take_ (i:=1) (N:=some 29) (v:=?_) (a':=?_) #[true,true,true,false,false,true,false,true,true,false,false,false,false] rfl rfl (take_ofW HT_.out HW_.out (by kernel_rfl)) (fun _ _ _ h=>h) (Or.inl ⟨by rfl,?_⟩) hHeld ?_ ?_
               rotate_left
               ·rintro w' ⟨s0,s1,s2,s3,s4⟩
                go_simp
                with_reducible rfl
               rotate_left
               ·simp only [Act.put,xsA,xsZ,xsS,i64_w,i32_w]
                rfl
               refine pure_ (i:=3) (N:=some 31) (v:=?_) (a':=?_) #[true,true,true,true,false,true,false,true,true,false,false,false,false] rfl rfl (any_of HT_.out (by kernel_rfl)) (fun _ _ _ h=>h) (Or.inl ⟨by rfl,?_⟩) ?_ ?_
               rotate_left
               ·intro w'
                go_simp
                with_reducible rfl
               rotate_left
               ·simp only [Act.put,xsA,xsZ,xsS,i64_w,i32_w]
                rfl
               refine take_ (i:=4) (N:=some 32) (v:=?_) (a':=?_) #[true,true,true,true,true,true,false,true,true,false,false,false,false] rfl rfl (take_ofW HT_.out HW_.out (by kernel_rfl)) (fun _ _ _ h=>h) (Or.inl ⟨by rfl,?_⟩) hHeld ?_ ?_
               rotate_left
               ·rintro w' ⟨s0,s1,s2,s3,s4⟩
                go_simp
                with_reducible rfl
               rotate_left
               ·simp only [Act.put,xsA,xsZ,xsS,i64_w,i32_w]
                rfl
               refine take_ (i:=6) (N:=some 34) (v:=?_) (a':=?_) #[true,true,true,true,true,true,true,true,true,false,false,false,false] rfl rfl (take_ofW HT_.out HW_.out (by kernel_rfl)) (fun _ _ _ h=>h) (Or.inl ⟨by rfl,?_⟩) hHeld ?_ ?_
               rotate_left
               ·rintro w' ⟨s0,s1,s2,s3,s4⟩
                go_simp
                with_reducible rfl
               rotate_left
               ·simp only [Act.put,xsA,xsZ,xsS,i64_w,i32_w]
                rfl
               refine pure_ (i:=9) (N:=some 37) (v:=?_) (a':=?_) #[true,true,true,true,true,true,true,true,true,true,false,false,false] rfl rfl (any_of HT_.out (by kernel_rfl)) (fun _ _ _ h=>h) (Or.inl ⟨by rfl,?_⟩) ?_ ?_
               rotate_left
               ·intro w'
                go_simp
                with_reducible rfl
               rotate_left
               ·simp only [Act.put,xsA,xsZ,xsS,i64_w,i32_w]
                rfl
               refine take_ (i:=10) (N:=some 38) (v:=?_) (a':=?_) #[true,true,true,true,true,true,true,true,true,true,true,false,false] rfl rfl (take_ofW HT_.out HW_.out (by kernel_rfl)) (fun _ _ _ h=>h) (Or.inl ⟨by rfl,?_⟩) hHeld ?_ ?_
               rotate_left
               ·rintro w' ⟨s0,s1,s2,s3,s4⟩
                go_simp
                with_reducible rfl
               rotate_left
               ·simp only [Act.put,xsA,xsZ,xsS,i64_w,i32_w]
                rfl
               refine pure_ (i:=11) (N:=some 39) (v:=?_) (a':=?_) #[true,true,true,true,true,true,true,true,true,true,true,true,false] rfl rfl (any_of HT_.out (by kernel_rfl)) (fun _ _ _ h=>h) (Or.inl ⟨by rfl,?_⟩) ?_ ?_
               rotate_left
               ·intro w'
                go_simp
                with_reducible rfl
               rotate_left
               ·simp only [Act.put,xsA,xsZ,xsS,i64_w,i32_w]
                rfl
               refine pure_ (i:=12) (N:=some 5) (v:=?_) (a':=?_) #[true,true,true,true,true,true,true,true,true,true,true,true,true] rfl rfl (any_of HT_.out (by kernel_rfl)) (fun _ _ _ h=>h) (Or.inl ⟨by rfl,?_⟩) ?_ ?_
               rotate_left
               ·intro w'
                go_simp
                with_reducible rfl
               rotate_left
               ·simp only [Act.put,xsA,xsZ,xsS,i64_w,i32_w]
                rfl
               refine done_ (done_of HT_.out (by kernel_rfl)) ?_
               try go_wp2_with (first | ((with_reducible refine gate_callee (f:=61) rfl ?_);refine goesL_ (some 44) rfl rfl Tryz.func61 (by kernel_rfl) rfl #[.int .i64 (wrap64 ((rd l0_2 x4_1) - (rd l0_2 (ji17))))] rfl (by (try simp only [List.map_toArray,List.map_cons,List.map_nil]);first | done | (simp only [hji17];rfl) | rfl | (simp only [List.length_drop,List.length_take];rfl)) ?_;(with_reducible refine (rf_Number.calls (wrap64 ((rd l0_2 x4_1) - (rd l0_2 (ji17)))) t169 _ A21.out).mono ?_);rintro e w26 ⟨rfl,hb⟩;refine ⟨_,rfl,?_⟩;have n0_:=Aside0.mk (blk_below (g:=gb161) (o:=.cells #[.int .i64 a0_0,.int .i64 a0_1,.slice (some ad164) l0_2.length c0_2] 37 (0,0)) (by (with_reducible repeat (first | refine blk_drewN ?_ _ | refine blk_drew ?_ | refine blk_alloc ?_ _));exact BK161.out) hb);have n1_:=Aside0.mk (below_step (by repeat (first | (with_reducible first | exact HB.out | apply below_alloc | apply pw_below_drewN | apply below_drew1 | refine below_set ?_ GE161.out) | exact HB.out)) hb);clear BK161;clear HB;have BK161:=n0_;have HB:=n1_;clear n0_ n1_;(try clear hb);(try clear hb2);(try clear hk);(try clear hi)))
               go_roundg k1
               case measure=>have:=HK1.out;omega
               case rel=>exact ⟨(x3_1 ++ ((⟨#[32,43]⟩:ByteArray) ++ t169)),(wrap64 (x4_1 + 1)),(by first | rfl | (simp;done) | (simp [*];done)),(by first | rfl | (simp;done) | (simp [*];done)),H',⟨by have:=HK1.out;omega⟩,⟨by (with_reducible repeat (first | refine blk_drewN ?_ _ | refine blk_drew ?_ | refine blk_alloc ?_ _));exact BK161.out⟩,⟨by repeat (first | (with_reducible first | exact HB.out | apply below_alloc | apply pw_below_drewN | apply below_drew1 | refine below_set ?_ GE161.out) | exact HB.out)⟩⟩
              ·rw [if_neg c23] at H
               exact absurd H (by simp)
             ·rw [if_neg c22] at H
              exact absurd H (by simp)
            ·rw [if_neg c20] at H
             have c20b0:decide (0 ≤ (wrap64 ((rd l0_2 x4_1) - (rd l0_2 (ji17)))))=false:=decide_eq_false c20
             clear c20
             replace H:=Option.bind_eq_some_iff.mp H
             obtain ⟨t170,A270,H⟩:=H
             replace H:(if 1 + t170.size ≤ 9223372036854775807 then (if x3_1.size + ((⟨#[32]⟩:ByteArray) ++ t170).size ≤ 9223372036854775807 then (rf_GaugeText.l0 k1 (x3_1 ++ ((⟨#[32]⟩:ByteArray) ++ t170)) (wrap64 (x4_1 + 1)) a0_0 a0_1 l0_2) else (none)) else (none))=some r:=H
             have A27:=Aside0.mk A270
             clear A270
             by_cases c28:1 + t170.size ≤ 9223372036854775807
             ·rw [if_pos c28] at H
              have c28b0:=eq_true c28
              have c28b1:decide (1 + t170.size ≤ 9223372036854775807)=true:=decide_eq_true c28
              try have c28b2:(9223372036854775807 < 1 + t170.size)=False:=eq_false (Nat.not_lt.2 c28)
              by_cases c29:x3_1.size + ((⟨#[32]⟩:ByteArray) ++ t170).size ≤ 9223372036854775807
              ·rw [if_pos c29] at H
               have c29b0:=eq_true c29
               have c29b1:decide (x3_1.size + ((⟨#[32]⟩:ByteArray) ++ t170).size ≤ 9223372036854775807)=true:=decide_eq_true c29
               try have c29b2:(9223372036854775807 < x3_1.size + ((⟨#[32]⟩:ByteArray) ++ t170).size)=False:=eq_false (Nat.not_lt.2 c29)
               have c29b3:(9223372036854775807 < x3_1.size + 1 + t170.size)=False:=eq_false (Nat.not_lt.2 (Eq.subst (motive:=fun z=>z ≤ 9223372036854775807) (show x3_1.size + ((⟨#[32]⟩:ByteArray) ++ t170).size=x3_1.size + 1 + t170.size by simp only [ByteArray.size_append];first | done | rfl | (rw [← Nat.add_assoc];rfl)) c29))
               have c29b4:(9223372036854775807 < x3_1.size + (1 + t170.size))=False:=eq_false (Nat.not_lt.2 (Eq.subst (motive:=fun z=>z ≤ 9223372036854775807) (show x3_1.size + ((⟨#[32]⟩:ByteArray) ++ t170).size=x3_1.size + (1 + t170.size) by simp only [ByteArray.size_append];first | done | rfl) c29))
               have H':=Aside0.mk H
               clear H
               have hcz30_0:wr.cell? ⟨gb161,0,none⟩=some (.int .i64 a0_0):=(blk_cell BK161.out 0).trans rfl
               have hcz30_1:wr.cell? ⟨gb161,1,none⟩=some (.int .i64 a0_1):=(blk_cell BK161.out 1).trans rfl
               have hcz30_2:wr.cell? ⟨gb161,2,none⟩=some (.slice (some ad164) l0_2.length c0_2):=(blk_cell BK161.out 2).trans rfl
               have hfz30_0:=blk_frozen BK161.out 0
               have hfz30_1:=blk_frozen BK161.out 1
               have hfz30_2:=blk_frozen BK161.out 2
               try go_wp2
               have n0_:=Aside0.mk (blk_drew BK161.out)
               have n1_:=Aside0.mk (below_drew1 HB.out)
               clear BK161
               clear HB
               have BK161:=n0_
               have HB:=n1_
               clear n0_ n1_
               have p167:0 ≤ (x4_1:Int):=of_decide_eq_true (by first | (with_reducible assumption) | assumption)
               have q167:x4_1 < (l0_2.length:Int):=of_decide_eq_true (by first | (with_reducible assumption) | assumption)
               obtain ⟨ad167,e167,hx167_0⟩:=Kd.at_int HR0_2.out x4_1 p167 q167
               have hw167_0:=hx167_0
               obtain rfl:ad164=ad167:=(by injection e167)
               replace hx167_0:=(HB.out.cell (xbl w _ hx167_0)).trans hx167_0
               replace p167:=eq_true p167
               replace q167:=eq_true q167
               have p168:0 ≤ ((ji17):Int):=of_decide_eq_true (by first | (with_reducible assumption) | assumption)
               have q168:(ji17) < (l0_2.length:Int):=of_decide_eq_true (by first | (with_reducible assumption) | assumption)
               obtain ⟨ad168,e168,hx168_0⟩:=Kd.at_int HR0_2.out (ji17) p168 q168
               have hw168_0:=hx168_0
               obtain rfl:ad164=ad168:=(by injection e168)
               replace hx168_0:=(HB.out.cell (xbl w _ hx168_0)).trans hx168_0
               replace p168:=eq_true p168
               replace q168:=eq_true q168
               refine start_ (n:=13) (S:=fun w'=>w'.cell? ⟨gb161,0,none⟩=some (.int .i64 a0_0) ∧ w'.cell? ⟨gb161,1,none⟩=some (.int .i64 a0_1) ∧ w'.cell? ⟨gb161,2,none⟩=some (.slice (some ad164) l0_2.length c0_2) ∧ w'.cell? (ad164.add (x4_1).toNat)=some (.int .i64 (rd l0_2 x4_1)) ∧ w'.cell? (ad164.add ((ji17)).toNat)=some (.int .i64 (rd l0_2 (ji17)))) (ds:=[]) #[false,false,false,false,false,false,false,false,false,false,false,false,false] (by kernel_rfl) rfl rfl ⟨(blk_cell BK161.out 0).trans rfl,(blk_cell BK161.out 1).trans rfl,(blk_cell BK161.out 2).trans rfl,((HB.out.cell (xbl w _ hw167_0)).trans hw167_0),((HB.out.cell (xbl w _ hw168_0)).trans hw168_0)⟩ (fun hHeld=>?_);refine with_tabW rf_GaugeText.tab5 rf_GaugeText.bits5 (fun HT_ HW_=>?_)
               generalize wr.drew=w31 at BK161 HB hx167_0 hx168_0 hHeld ⊢
               refine pure_ (i:=0) (N:=some 28) (v:=?_) (a':=?_) #[true,false,false,false,false,false,false,false,false,false,false,false,false] rfl rfl (any_of HT_.out (by kernel_rfl)) (fun _ _ _ h=>h) (Or.inl ⟨by rfl,?_⟩) ?_ ?_
               rotate_left
               ·intro w'
                go_simp
                with_reducible rfl
               rotate_left
               ·simp only [Act.put,xsA,xsZ,xsS,i64_w,i32_w]
                rfl
               refine pure_ (i:=2) (N:=some 30) (v:=?_) (a':=?_) #[true,false,true,false,false,false,false,false,false,false,false,false,false] rfl rfl (any_of HT_.out (by kernel_rfl)) (fun _ _ _ h=>h) (Or.inl ⟨by rfl,?_⟩) ?_ ?_
               rotate_left
               ·intro w'
                go_simp
                with_reducible rfl
               rotate_left
               ·simp only [Act.put,xsA,xsZ,xsS,i64_w,i32_w]
                rfl
               refine pure_ (i:=5) (N:=some 33) (v:=?_) (a':=?_) #[true,false,true,false,false,true,false,false,false,false,false,false,false] rfl rfl (any_of HT_.out (by kernel_rfl)) (fun _ _ _ h=>h) (Or.inl ⟨by rfl,?_⟩) ?_ ?_
               rotate_left
               ·intro w'
                go_simp
                with_reducible rfl
               rotate_left
               ·simp only [Act.put,xsA,xsZ,xsS,i64_w,i32_w]
                rfl
               refine pure_ (i:=7) (N:=some 35) (v:=?_) (a':=?_) #[true,false,true,false,false,true,false,true,false,false,false,false,false] rfl rfl (any_of HT_.out (by kernel_rfl)) (fun _ _ _ h=>h) (Or.inl ⟨by rfl,?_⟩) ?_ ?_
               rotate_left
               ·intro w'
                go_simp
                with_reducible rfl
               rotate_left
               ·simp only [Act.put,xsA,xsZ,xsS,i64_w,i32_w]
                rfl
               refine pure_ (i:=8) (N:=some 36) (v:=?_) (a':=?_) #[true,false,true,false,false,true,false,true,true,false,false,false,false] rfl rfl (any_of HT_.out (by kernel_rfl)) (fun _ _ _ h=>h) (Or.inl ⟨by rfl,?_⟩) ?_ ?_
               rotate_left
               ·intro w'
                go_simp
                with_reducible rfl
               rotate_left
               ·simp only [Act.put,xsA,xsZ,xsS,i64_w,i32_w]
                rfl
               refine take_ (i:=1) (N:=some 29) (v:=?_) (a':=?_) #[true,true,true,false,false,true,false,true,true,false,false,false,false] rfl rfl (take_ofW HT_.out HW_.out (by kernel_rfl)) (fun _ _ _ h=>h) (Or.inl ⟨by rfl,?_⟩) hHeld ?_ ?_
               rotate_left
               ·rintro w' ⟨s0,s1,s2,s3,s4⟩
                go_simp
                with_reducible rfl
               rotate_left
               ·simp only [Act.put,xsA,xsZ,xsS,i64_w,i32_w]
                rfl
               refine pure_ (i:=3) (N:=some 31) (v:=?_) (a':=?_) #[true,true,true,true,false,true,false,true,true,false,false,false,false] rfl rfl (any_of HT_.out (by kernel_rfl)) (fun _ _ _ h=>h) (Or.inl ⟨by rfl,?_⟩) ?_ ?_
               rotate_left
               ·intro w'
                go_simp
                with_reducible rfl
               rotate_left
               ·simp only [Act.put,xsA,xsZ,xsS,i64_w,i32_w]
                rfl
               refine take_ (i:=4) (N:=some 32) (v:=?_) (a':=?_) #[true,true,true,true,true,true,false,true,true,false,false,false,false] rfl rfl (take_ofW HT_.out HW_.out (by kernel_rfl)) (fun _ _ _ h=>h) (Or.inl ⟨by rfl,?_⟩) hHeld ?_ ?_
               rotate_left
               ·rintro w' ⟨s0,s1,s2,s3,s4⟩
                go_simp
                with_reducible rfl
               rotate_left
               ·simp only [Act.put,xsA,xsZ,xsS,i64_w,i32_w]
                rfl
               refine take_ (i:=6) (N:=some 34) (v:=?_) (a':=?_) #[true,true,true,true,true,true,true,true,true,false,false,false,false] rfl rfl (take_ofW HT_.out HW_.out (by kernel_rfl)) (fun _ _ _ h=>h) (Or.inl ⟨by rfl,?_⟩) hHeld ?_ ?_
               rotate_left
               ·rintro w' ⟨s0,s1,s2,s3,s4⟩
                go_simp
                with_reducible rfl
               rotate_left
               ·simp only [Act.put,xsA,xsZ,xsS,i64_w,i32_w]
                rfl
               refine pure_ (i:=9) (N:=some 37) (v:=?_) (a':=?_) #[true,true,true,true,true,true,true,true,true,true,false,false,false] rfl rfl (any_of HT_.out (by kernel_rfl)) (fun _ _ _ h=>h) (Or.inl ⟨by rfl,?_⟩) ?_ ?_
               rotate_left
               ·intro w'
                go_simp
                with_reducible rfl
               rotate_left
               ·simp only [Act.put,xsA,xsZ,xsS,i64_w,i32_w]
                rfl
               refine take_ (i:=10) (N:=some 38) (v:=?_) (a':=?_) #[true,true,true,true,true,true,true,true,true,true,true,false,false] rfl rfl (take_ofW HT_.out HW_.out (by kernel_rfl)) (fun _ _ _ h=>h) (Or.inl ⟨by rfl,?_⟩) hHeld ?_ ?_
               rotate_left
               ·rintro w' ⟨s0,s1,s2,s3,s4⟩
                go_simp
                with_reducible rfl
               rotate_left
               ·simp only [Act.put,xsA,xsZ,xsS,i64_w,i32_w]
                rfl
               refine pure_ (i:=11) (N:=some 39) (v:=?_) (a':=?_) #[true,true,true,true,true,true,true,true,true,true,true,true,false] rfl rfl (any_of HT_.out (by kernel_rfl)) (fun _ _ _ h=>h) (Or.inl ⟨by rfl,?_⟩) ?_ ?_
               rotate_left
               ·intro w'
                go_simp
                with_reducible rfl
               rotate_left
               ·simp only [Act.put,xsA,xsZ,xsS,i64_w,i32_w]
                rfl
               refine pure_ (i:=12) (N:=some 5) (v:=?_) (a':=?_) #[true,true,true,true,true,true,true,true,true,true,true,true,true] rfl rfl (any_of HT_.out (by kernel_rfl)) (fun _ _ _ h=>h) (Or.inl ⟨by rfl,?_⟩) ?_ ?_
               rotate_left
               ·intro w'
                go_simp
                with_reducible rfl
               rotate_left
               ·simp only [Act.put,xsA,xsZ,xsS,i64_w,i32_w]
                rfl
               refine done_ (done_of HT_.out (by kernel_rfl)) ?_
               try go_wp2_with (first | ((with_reducible refine gate_callee (f:=61) rfl ?_);refine goesL_ (some 49) rfl rfl Tryz.func61 (by kernel_rfl) rfl #[.int .i64 (wrap64 ((rd l0_2 x4_1) - (rd l0_2 (ji17))))] rfl (by (try simp only [List.map_toArray,List.map_cons,List.map_nil]);first | done | (simp only [hji17];rfl) | rfl | (simp only [List.length_drop,List.length_take];rfl)) ?_;(with_reducible refine (rf_Number.calls (wrap64 ((rd l0_2 x4_1) - (rd l0_2 (ji17)))) t170 _ A27.out).mono ?_);rintro e w32 ⟨rfl,hb⟩;refine ⟨_,rfl,?_⟩;have n0_:=Aside0.mk (blk_below (g:=gb161) (o:=.cells #[.int .i64 a0_0,.int .i64 a0_1,.slice (some ad164) l0_2.length c0_2] 37 (0,0)) (by (with_reducible repeat (first | refine blk_drewN ?_ _ | refine blk_drew ?_ | refine blk_alloc ?_ _));exact BK161.out) hb);have n1_:=Aside0.mk (below_step (by repeat (first | (with_reducible first | exact HB.out | apply below_alloc | apply pw_below_drewN | apply below_drew1 | refine below_set ?_ GE161.out) | exact HB.out)) hb);clear BK161;clear HB;have BK161:=n0_;have HB:=n1_;clear n0_ n1_;(try clear hb);(try clear hb2);(try clear hk);(try clear hi)))
               go_roundg k1
               case measure=>have:=HK1.out;omega
               case rel=>exact ⟨(x3_1 ++ ((⟨#[32]⟩:ByteArray) ++ t170)),(wrap64 (x4_1 + 1)),(by first | rfl | (simp;done) | (simp [*];done)),(by first | rfl | (simp;done) | (simp [*];done)),H',⟨by have:=HK1.out;omega⟩,⟨by (with_reducible repeat (first | refine blk_drewN ?_ _ | refine blk_drew ?_ | refine blk_alloc ?_ _));exact BK161.out⟩,⟨by repeat (first | (with_reducible first | exact HB.out | apply below_alloc | apply pw_below_drewN | apply below_drew1 | refine below_set ?_ GE161.out) | exact HB.out)⟩⟩
              ·rw [if_neg c29] at H
               exact absurd H (by simp)
             ·rw [if_neg c28] at H
              exact absurd H (by simp)
           ·rw [if_neg c19] at H
            exact absurd H (by simp)
          ·rw [if_neg c18] at H
           exact absurd H (by simp)
         ·rw [if_neg c16] at H
          exact absurd H (by simp)
        ·rw [if_neg c15] at H
         have c15b0:decide (x4_1 < (l0_2.length:Int))=false:=decide_eq_false c15
         clear c15
         replace H:=Option.bind_eq_some_iff.mp H
         obtain ⟨t166,A330,H⟩:=H
         replace H:(some t166)=some r:=H
         have A33:=Aside0.mk A330
         clear A330
         obtain rfl:=Option.some.inj H
         have hcz34_0:wr.cell? ⟨gb161,0,none⟩=some (.int .i64 a0_0):=(blk_cell BK161.out 0).trans rfl
         have hcz34_1:wr.cell? ⟨gb161,1,none⟩=some (.int .i64 a0_1):=(blk_cell BK161.out 1).trans rfl
         have hcz34_2:wr.cell? ⟨gb161,2,none⟩=some (.slice (some ad164) l0_2.length c0_2):=(blk_cell BK161.out 2).trans rfl
         have hfz34_0:=blk_frozen BK161.out 0
         have hfz34_1:=blk_frozen BK161.out 1
         have hfz34_2:=blk_frozen BK161.out 2
         go_wp2_with (first | ((with_reducible refine gate_callee (f:=62) rfl ?_);refine goesL_ (some 53) rfl rfl Tryz.func62 (by kernel_rfl) rfl #[.string x3_1] rfl (by (try simp only [List.map_toArray,List.map_cons,List.map_nil]);first | done | rfl | (simp only [List.length_drop,List.length_take];rfl)) ?_;(with_reducible refine (rf_Line.calls x3_1 t166 _ A33.out).mono ?_);rintro e w35 ⟨rfl,hb⟩;refine ⟨_,rfl,?_⟩;have n0_:=Aside0.mk (blk_below (g:=gb161) (o:=.cells #[.int .i64 a0_0,.int .i64 a0_1,.slice (some ad164) l0_2.length c0_2] 37 (0,0)) (by (with_reducible repeat (first | refine blk_drewN ?_ _ | refine blk_drew ?_ | refine blk_alloc ?_ _));exact BK161.out) hb);have n1_:=Aside0.mk (below_step (by repeat (first | (with_reducible first | exact HB.out | apply below_alloc | apply pw_below_drewN | apply below_drew1 | refine below_set ?_ GE161.out) | exact HB.out)) hb);clear BK161;clear HB;have BK161:=n0_;have HB:=n1_;clear n0_ n1_;(try clear hb);(try clear hb2);(try clear hk);(try clear hi)))
         go_ret
         exact ⟨by first | rfl | (simp [errW_none,errW_some] <;> rfl) | (simp [*,errW_none,errW_some] <;> rfl),by repeat (first | (with_reducible first | exact HB.out | apply below_alloc | apply pw_below_drewN | apply below_drew1 | refine below_set ?_ GE161.out) | exact HB.out)⟩
     ·rw [if_neg c9] at H
      exact absurd H (by simp)
    ·rw [if_neg c7] at H
     exact absurd H (by simp)
   ·rw [if_neg c6] at H
    exact absurd H (by simp)
  ·rw [if_neg c5] at H
   exact absurd H (by simp)
 ·rw [if_neg c3] at H
  exact absurd H (by simp)
def rf_WriteGauge.l0:Nat → List (S37) → ByteArray → Int → Option (ByteArray × Int)
 | 0,_,_,_=>none
 | k + 1,x0,x4,x5=>if x5 < (x0.length:Int) then (if 0 ≤ x5 then ((rf_Gauge.f k ((rd_T37 x0 x5).f0) ((rd_T37 x0 x5).f1) ((rd_T37 x0 x5).f2)).bind fun t172=>(if t172=true then (if x5 > 0 then (if 0 ≤ (wrap64 (x5 - 1)) then (if (wrap64 (x5 - 1)) < (x0.length:Int) then ((rf_GaugeAfter.f ((rd_T37 x0 (wrap64 (x5 - 1))).f0) ((rd_T37 x0 (wrap64 (x5 - 1))).f1) ((rd_T37 x0 (wrap64 (x5 - 1))).f2) ((rd_T37 x0 x5).f0) ((rd_T37 x0 x5).f1) ((rd_T37 x0 x5).f2)).bind fun t175=>(if t175=true then ((rf_GaugeText.f k ((rd_T37 x0 x5).f0) ((rd_T37 x0 x5).f1) ((rd_T37 x0 x5).f2)).bind fun t177=>(if x4.size + t177.size ≤ 9223372036854775807 then (rf_WriteGauge.l0 k x0 (x4 ++ t177) (wrap64 (x5 + 1))) else (none))) else (some ((⟨#[]⟩:ByteArray),6)))) else (none)) else (none)) else ((rf_GaugeText.f k ((rd_T37 x0 x5).f0) ((rd_T37 x0 x5).f1) ((rd_T37 x0 x5).f2)).bind fun t179=>(if x4.size + t179.size ≤ 9223372036854775807 then (rf_WriteGauge.l0 k x0 (x4 ++ t179) (wrap64 (x5 + 1))) else (none)))) else (some ((⟨#[]⟩:ByteArray),2)))) else (none)) else (some (x4,0))
def rf_WriteGauge.f (k:Nat) (l0:List (S37)):Option (ByteArray × Int):=if (l0.length:Int) > 200 then (some ((⟨#[]⟩:ByteArray),5)) else (rf_WriteGauge.l0 k l0 (⟨#[]⟩:ByteArray) 0)
def rf_WriteGauge.T9:Bool × List (List Nat × List Nat):=(true,[([],[]),([0],[0]),([1],[1]),([2],[2]),([2],[2]),([4,2],[2,4]),([3,5,2],[2,3,5]),([6,2],[2,6]),([2],[2]),([2],[2]),([8,9,2],[2,8,9]),([10,2],[2,10]),([7,11,2,2],[2,7,11]),([12,2],[2,12]),([2,13],[2,13])])
def rf_WriteGauge.B9:List Nat:=[0,1,3,7,7,23,63,127,7,7,775,1799,4095,8191,16383]
theorem rf_WriteGauge.tab9:rtab .any (opsOf Tryz.f15 9)=rf_WriteGauge.T9:=by kernel_rfl
theorem rf_WriteGauge.bits9:waitsOk rf_WriteGauge.T9.2 rf_WriteGauge.B9=true:=by kernel_rfl
set_option maxHeartbeats 8000000 in
set_option maxRecDepth 100000 in
theorem rf_WriteGauge.calls (k:Nat) (A0:Option Addr) (c0:Nat) (l0:List (S37)) (r1:ByteArray) (r2:Int) (w:World) (hr0:Kd.C k37 w A0 l0.length l0) (hc0:l0.length ≤ c0) (h:rf_WriteGauge.f k l0=some (r1,r2)) :
  Calls Tryz.prog 15 #[.slice A0 l0.length c0] w fun e w'=>e=.returned (.tuple #[.string r1,.int .i64 r2]) ∧ Below w.heap.size w w':=by
 have hu37:=Tryz.underlying37
 have HR0:=Aside0.mk hr0
 have HC0:=Aside0.mk hc0
 clear hr0 hc0
 have HB:=Aside0.mk (Below.refl w.heap.size w)
 have H:(if (l0.length:Int) > 200 then (some ((⟨#[]⟩:ByteArray),5)) else (rf_WriteGauge.l0 k l0 (⟨#[]⟩:ByteArray) 0))=some (r1,r2):=h
 clear h
 by_cases c2:(l0.length:Int) > 200
 ·rw [if_pos c2] at H
  have c2b0:decide (200 < (l0.length:Int))=true:=decide_eq_true c2
  have c2b1:decide (200 < l0.length)=true:=decide_eq_true (by omega)
  clear c2
  simp only [Option.some.injEq,Prod.mk.injEq] at H
  obtain ⟨rfl,rfl⟩:=H
  go_enter Tryz.func15,Tryz.ntmps15
  go_wp2
  go_ret2
  exact ⟨by first | rfl | (simp [errW_none,errW_some] <;> rfl) | (simp [*,errW_none,errW_some] <;> rfl),by repeat (first | (with_reducible first | exact HB.out | apply below_alloc | apply pw_below_drewN | apply below_drew1) | exact HB.out)⟩
 ·rw [if_neg c2] at H
  have c2b0:decide (200 < (l0.length:Int))=false:=decide_eq_false c2
  have c2b1:decide (200 < l0.length)=false:=decide_eq_false (by omega)
  clear c2
  have H':=Aside0.mk H
  clear H
  go_enter Tryz.func15,Tryz.ntmps15
  go_wp2
  go_loopg [4,5] k (fun kq v4 v5 w'=>∃ (x4_1:ByteArray) (x5_1:Int),v4=.string x4_1 ∧ v5=.int .i64 x5_1 ∧ Aside0 (rf_WriteGauge.l0 kq l0 x4_1 x5_1=some (r1,r2)) ∧ Aside0 (kq ≤ k) ∧ Aside0 (Below w.heap.size w w'))
  case atStart=>exact ⟨((⟨#[]⟩:ByteArray)),(0),(by first | rfl | (simp;done) | (simp [*];done)),(by first | rfl | (simp;done) | (simp [*];done)),H',⟨Nat.le_refl _⟩,⟨by repeat (first | (with_reducible first | exact HB.out | apply below_alloc | apply pw_below_drewN | apply below_drew1) | exact HB.out)⟩⟩
  case round =>
   clear H'
   try clear c1
   try clear c2
   try clear c2b0
   try clear c2b1
   try clear p2
   obtain ⟨x4_1,x5_1,rfl,rfl,HA,HK1,HB⟩:=hrel
   cases gk with
   | zero=>exact absurd HA.out (by simp [rf_WriteGauge.l0])
   | succ k1 =>
    have H:=HA.out
    clear HA
    simp only [rf_WriteGauge.l0] at H
    by_cases c3:x5_1 < (l0.length:Int)
    ·rw [if_pos c3] at H
     have c3b0:decide (x5_1 < (l0.length:Int))=true:=decide_eq_true c3
     clear c3
     by_cases c4:0 ≤ x5_1
     ·rw [if_pos c4] at H
      have c4b0:decide (0 ≤ x5_1)=true:=decide_eq_true c4
      clear c4
      replace H:=Option.bind_eq_some_iff.mp H
      obtain ⟨t172,A50,H⟩:=H
      replace H:(if t172=true then (if x5_1 > 0 then (if 0 ≤ (wrap64 (x5_1 - 1)) then (if (wrap64 (x5_1 - 1)) < (l0.length:Int) then ((rf_GaugeAfter.f ((rd_T37 l0 (wrap64 (x5_1 - 1))).f0) ((rd_T37 l0 (wrap64 (x5_1 - 1))).f1) ((rd_T37 l0 (wrap64 (x5_1 - 1))).f2) ((rd_T37 l0 x5_1).f0) ((rd_T37 l0 x5_1).f1) ((rd_T37 l0 x5_1).f2)).bind fun t175=>(if t175=true then ((rf_GaugeText.f k1 ((rd_T37 l0 x5_1).f0) ((rd_T37 l0 x5_1).f1) ((rd_T37 l0 x5_1).f2)).bind fun t177=>(if x4_1.size + t177.size ≤ 9223372036854775807 then (rf_WriteGauge.l0 k1 l0 (x4_1 ++ t177) (wrap64 (x5_1 + 1))) else (none))) else (some ((⟨#[]⟩:ByteArray),6)))) else (none)) else (none)) else ((rf_GaugeText.f k1 ((rd_T37 l0 x5_1).f0) ((rd_T37 l0 x5_1).f1) ((rd_T37 l0 x5_1).f2)).bind fun t179=>(if x4_1.size + t179.size ≤ 9223372036854775807 then (rf_WriteGauge.l0 k1 l0 (x4_1 ++ t179) (wrap64 (x5_1 + 1))) else (none)))) else (some ((⟨#[]⟩:ByteArray),2)))=some (r1,r2):=H
      have A5:=Aside0.mk A50
      clear A50
      by_cases c6:t172=true
      ·subst c6
       have H1:(if x5_1 > 0 then (if 0 ≤ (wrap64 (x5_1 - 1)) then (if (wrap64 (x5_1 - 1)) < (l0.length:Int) then ((rf_GaugeAfter.f ((rd_T37 l0 (wrap64 (x5_1 - 1))).f0) ((rd_T37 l0 (wrap64 (x5_1 - 1))).f1) ((rd_T37 l0 (wrap64 (x5_1 - 1))).f2) ((rd_T37 l0 x5_1).f0) ((rd_T37 l0 x5_1).f1) ((rd_T37 l0 x5_1).f2)).bind fun t175=>(if t175=true then ((rf_GaugeText.f k1 ((rd_T37 l0 x5_1).f0) ((rd_T37 l0 x5_1).f1) ((rd_T37 l0 x5_1).f2)).bind fun t177=>(if x4_1.size + t177.size ≤ 9223372036854775807 then (rf_WriteGauge.l0 k1 l0 (x4_1 ++ t177) (wrap64 (x5_1 + 1))) else (none))) else (some ((⟨#[]⟩:ByteArray),6)))) else (none)) else (none)) else ((rf_GaugeText.f k1 ((rd_T37 l0 x5_1).f0) ((rd_T37 l0 x5_1).f1) ((rd_T37 l0 x5_1).f2)).bind fun t179=>(if x4_1.size + t179.size ≤ 9223372036854775807 then (rf_WriteGauge.l0 k1 l0 (x4_1 ++ t179) (wrap64 (x5_1 + 1))) else (none))))=some (r1,r2):=by rw [if_pos rfl] at H;exact H
       clear H
       have H:=H1
       clear H1
       by_cases c7:x5_1 > 0
       ·rw [if_pos c7] at H
        have c7b0:decide (0 < x5_1)=true:=decide_eq_true c7
        clear c7
        obtain ⟨ji8,hji8⟩:∃ j_:Int,(wrap64 (x5_1 - 1))=j_:=⟨_,rfl⟩
        replace H:(if 0 ≤ (ji8) then (if (ji8) < (l0.length:Int) then ((rf_GaugeAfter.f ((rd_T37 l0 (ji8)).f0) ((rd_T37 l0 (ji8)).f1) ((rd_T37 l0 (ji8)).f2) ((rd_T37 l0 x5_1).f0) ((rd_T37 l0 x5_1).f1) ((rd_T37 l0 x5_1).f2)).bind fun t175=>(if t175=true then ((rf_GaugeText.f k1 ((rd_T37 l0 x5_1).f0) ((rd_T37 l0 x5_1).f1) ((rd_T37 l0 x5_1).f2)).bind fun t177=>(if x4_1.size + t177.size ≤ 9223372036854775807 then (rf_WriteGauge.l0 k1 l0 (x4_1 ++ t177) (wrap64 (x5_1 + 1))) else (none))) else (some ((⟨#[]⟩:ByteArray),6)))) else (none)) else (none))=some (r1,r2):=by first | (rw [hji8] at H;exact H) | (simp only [hji8] at H ⊢;exact H)
        (try rw [hji8] at A5)
        have hji8w:(IntKind.i64.wrap (x5_1 - 1))=ji8:=(i64_w _).trans hji8
        by_cases c9:0 ≤ (ji8)
        ·rw [if_pos c9] at H
         have c9b0:decide (0 ≤ (ji8))=true:=decide_eq_true c9
         clear c9
         by_cases c10:(ji8) < (l0.length:Int)
         ·rw [if_pos c10] at H
          have c10b0:decide ((ji8) < (l0.length:Int))=true:=decide_eq_true c10
          clear c10
          replace H:=Option.bind_eq_some_iff.mp H
          obtain ⟨t175,A110,H⟩:=H
          replace H:(if t175=true then ((rf_GaugeText.f k1 ((rd_T37 l0 x5_1).f0) ((rd_T37 l0 x5_1).f1) ((rd_T37 l0 x5_1).f2)).bind fun t177=>(if x4_1.size + t177.size ≤ 9223372036854775807 then (rf_WriteGauge.l0 k1 l0 (x4_1 ++ t177) (wrap64 (x5_1 + 1))) else (none))) else (some ((⟨#[]⟩:ByteArray),6)))=some (r1,r2):=H
          have A11:=Aside0.mk A110
          clear A110
          by_cases c12:t175=true
          ·subst c12
           have H1:((rf_GaugeText.f k1 ((rd_T37 l0 x5_1).f0) ((rd_T37 l0 x5_1).f1) ((rd_T37 l0 x5_1).f2)).bind fun t177=>(if x4_1.size + t177.size ≤ 9223372036854775807 then (rf_WriteGauge.l0 k1 l0 (x4_1 ++ t177) (wrap64 (x5_1 + 1))) else (none)))=some (r1,r2):=by rw [if_pos rfl] at H;exact H
           clear H
           have H:=H1
           clear H1
           replace H:=Option.bind_eq_some_iff.mp H
           obtain ⟨t177,A130,H⟩:=H
           replace H:(if x4_1.size + t177.size ≤ 9223372036854775807 then (rf_WriteGauge.l0 k1 l0 (x4_1 ++ t177) (wrap64 (x5_1 + 1))) else (none))=some (r1,r2):=H
           have A13:=Aside0.mk A130
           clear A130
           by_cases c14:x4_1.size + t177.size ≤ 9223372036854775807
           ·rw [if_pos c14] at H
            have c14b0:=eq_true c14
            have c14b1:decide (x4_1.size + t177.size ≤ 9223372036854775807)=true:=decide_eq_true c14
            try have c14b2:(9223372036854775807 < x4_1.size + t177.size)=False:=eq_false (Nat.not_lt.2 c14)
            have H':=Aside0.mk H
            clear H
            have p171:0 ≤ (x5_1:Int):=of_decide_eq_true (by first | (with_reducible assumption) | assumption)
            have q171:x5_1 < (l0.length:Int):=of_decide_eq_true (by first | (with_reducible assumption) | assumption)
            obtain ⟨ad171,A171_2,c171_2,e171,hx171_0,hx171_1,hx171_2,hl171_2,hi171_2⟩:=at_T37 HR0.out x5_1 p171 q171
            cases e171
            replace hx171_0:=(HB.out.cell (xbl w _ hx171_0)).trans hx171_0
            replace hx171_1:=(HB.out.cell (xbl w _ hx171_1)).trans hx171_1
            replace hx171_2:=(HB.out.cell (xbl w _ hx171_2)).trans hx171_2
            have HR171_2:=Aside0.mk hi171_2
            have HC171_2:=Aside0.mk hl171_2
            clear hi171_2 hl171_2
            replace p171:=eq_true p171
            replace q171:=eq_true q171
            try go_wp2_with (first | ((with_reducible refine gate_callee (f:=36) rfl ?_);refine goesL_ (some 19) rfl rfl Tryz.func36 (by kernel_rfl) rfl #[.agg #[.int .i64 ((rd_T37 l0 x5_1).f0),.int .i64 ((rd_T37 l0 x5_1).f1),.slice A171_2 ((rd_T37 l0 x5_1).f2).length c171_2]] rfl (by (try simp only [List.map_toArray,List.map_cons,List.map_nil]);first | done | rfl | (simp only [List.length_drop,List.length_take];rfl)) ?_;(with_reducible refine (rf_Gauge.calls k1 ((rd_T37 l0 x5_1).f0) ((rd_T37 l0 x5_1).f1) _ _ ((rd_T37 l0 x5_1).f2) true _ ?side1 ?side2 A5.out).mono ?_);(case side1=>repeat (first | exact (Kd.C_below HR171_2.out HB.out) | (with_reducible refine Kd.C_alloc ?_ _) | (with_reducible refine Kd.C_drewN ?_ _) | (with_reducible refine Kd.C_drew ?_)));(case side2=>exact HC171_2.out);rintro e w15 ⟨rfl,hb⟩;refine ⟨_,rfl,?_⟩;have n0_:=Aside0.mk (below_step (by repeat (first | (with_reducible first | exact HB.out | apply below_alloc | apply pw_below_drewN | apply below_drew1) | exact HB.out)) hb);clear HB;have HB:=n0_;clear n0_;(try clear hb);(try clear hb2);(try clear hk);(try clear hi)))
            have n0_:=Aside0.mk (below_drew1 HB.out)
            clear HB
            have HB:=n0_
            clear n0_
            have p173:0 ≤ ((ji8):Int):=of_decide_eq_true (by first | (with_reducible assumption) | assumption)
            have q173:(ji8) < (l0.length:Int):=of_decide_eq_true (by first | (with_reducible assumption) | assumption)
            obtain ⟨ad173,A173_2,c173_2,e173,hx173_0,hx173_1,hx173_2,hl173_2,hi173_2⟩:=at_T37 HR0.out (ji8) p173 q173
            have hw173_2:=hx173_2
            have hw173_1:=hx173_1
            have hw173_0:=hx173_0
            obtain rfl:ad171=ad173:=(by injection e173)
            replace hx173_0:=(HB.out.cell (xbl w _ hx173_0)).trans hx173_0
            replace hx173_1:=(HB.out.cell (xbl w _ hx173_1)).trans hx173_1
            replace hx173_2:=(HB.out.cell (xbl w _ hx173_2)).trans hx173_2
            have HR173_2:=Aside0.mk hi173_2
            have HC173_2:=Aside0.mk hl173_2
            clear hi173_2 hl173_2
            replace p173:=eq_true p173
            replace q173:=eq_true q173
            have p174:0 ≤ (x5_1:Int):=of_decide_eq_true (by first | (with_reducible assumption) | assumption)
            have q174:x5_1 < (l0.length:Int):=of_decide_eq_true (by first | (with_reducible assumption) | assumption)
            obtain ⟨ad174,A174_2,c174_2,e174,hx174_0,hx174_1,hx174_2,hl174_2,hi174_2⟩:=at_T37 HR0.out x5_1 p174 q174
            have hw174_2:=hx174_2
            have hw174_1:=hx174_1
            have hw174_0:=hx174_0
            obtain rfl:ad171=ad174:=(by injection e174)
            replace hx174_0:=(HB.out.cell (xbl w _ hx174_0)).trans hx174_0
            replace hx174_1:=(HB.out.cell (xbl w _ hx174_1)).trans hx174_1
            replace hx174_2:=(HB.out.cell (xbl w _ hx174_2)).trans hx174_2
            have HR174_2:=Aside0.mk hi174_2
            have HC174_2:=Aside0.mk hl174_2
            clear hi174_2 hl174_2
            replace p174:=eq_true p174
            replace q174:=eq_true q174
            refine start_ (n:=15) (S:=fun w'=>w'.cell? (ad171.add (((ji8)).toNat * 3))=some (.int .i64 ((rd_T37 l0 (ji8)).f0)) ∧ w'.cell? ⟨(ad171.add (((ji8)).toNat * 3)).block,(ad171.add (((ji8)).toNat * 3)).off + 1,none⟩=some (.int .i64 ((rd_T37 l0 (ji8)).f1)) ∧ w'.cell? ⟨(ad171.add (((ji8)).toNat * 3)).block,(ad171.add (((ji8)).toNat * 3)).off + 2,none⟩=some (.slice A173_2 ((rd_T37 l0 (ji8)).f2).length c173_2) ∧ w'.cell? (ad171.add ((x5_1).toNat * 3))=some (.int .i64 ((rd_T37 l0 x5_1).f0)) ∧ w'.cell? ⟨(ad171.add ((x5_1).toNat * 3)).block,(ad171.add ((x5_1).toNat * 3)).off + 1,none⟩=some (.int .i64 ((rd_T37 l0 x5_1).f1)) ∧ w'.cell? ⟨(ad171.add ((x5_1).toNat * 3)).block,(ad171.add ((x5_1).toNat * 3)).off + 2,none⟩=some (.slice A174_2 ((rd_T37 l0 x5_1).f2).length c174_2)) (ds:=[]) #[false,false,false,false,false,false,false,false,false,false,false,false,false,false,false] (by kernel_rfl) rfl rfl ⟨((HB.out.cell (xbl w _ hw173_0)).trans hw173_0),((HB.out.cell (xbl w _ hw173_1)).trans hw173_1),((HB.out.cell (xbl w _ hw173_2)).trans hw173_2),((HB.out.cell (xbl w _ hw174_0)).trans hw174_0),((HB.out.cell (xbl w _ hw174_1)).trans hw174_1),((HB.out.cell (xbl w _ hw174_2)).trans hw174_2)⟩ (fun hHeld=>?_);refine with_tabW rf_WriteGauge.tab9 rf_WriteGauge.bits9 (fun HT_ HW_=>?_)
            generalize w15.drew=w16 at HB HR173_2 HR174_2 hx173_0 hx173_1 hx173_2 hx174_0 hx174_1 hx174_2 hHeld ⊢
            refine pure_ (i:=0) (N:=some 21) (v:=?_) (a':=?_) #[true,false,false,false,false,false,false,false,false,false,false,false,false,false,false] rfl rfl (any_of HT_.out (by kernel_rfl)) (fun _ _ _ h=>h) (Or.inl ⟨by rfl,?_⟩) ?_ ?_
            rotate_left
            ·intro w'
             go_simp
             with_reducible rfl
            rotate_left
            ·simp only [Act.put,xsA,xsZ,xsS,i64_w,i32_w]
             rfl
            refine pure_ (i:=1) (N:=some 22) (v:=?_) (a':=?_) #[true,true,false,false,false,false,false,false,false,false,false,false,false,false,false] rfl rfl (any_of HT_.out (by kernel_rfl)) (fun _ _ _ h=>h) (Or.inl ⟨by rfl,?_⟩) ?_ ?_
            rotate_left
            ·intro w'
             go_simp
             with_reducible rfl
            rotate_left
            ·simp only [Act.put,xsA,xsZ,xsS,i64_w,i32_w]
             rfl
            refine pure_ (i:=2) (N:=some 23) (v:=?_) (a':=?_) #[true,true,true,false,false,false,false,false,false,false,false,false,false,false,false] rfl rfl (any_of HT_.out (by kernel_rfl)) (fun _ _ _ h=>h) (Or.inl ⟨by rfl,?_⟩) ?_ ?_
            rotate_left
            ·intro w'
             go_simp
             with_reducible rfl
            rotate_left
            ·simp only [Act.put,xsA,xsZ,xsS,i64_w,i32_w]
             rfl
            refine pure_ (i:=3) (N:=some 24) (v:=?_) (a':=?_) #[true,true,true,true,false,false,false,false,false,false,false,false,false,false,false] rfl rfl (any_of HT_.out (by kernel_rfl)) (fun _ _ _ h=>h) (Or.inl ⟨by rfl,?_⟩) ?_ ?_
            rotate_left
            ·intro w'
             go_simp
             with_reducible rfl
            rotate_left
            ·simp only [Act.put,xsA,xsZ,xsS,i64_w,i32_w]
             rfl
            refine pure_ (i:=4) (N:=some 25) (v:=?_) (a':=?_) #[true,true,true,true,true,false,false,false,false,false,false,false,false,false,false] rfl rfl (any_of HT_.out (by kernel_rfl)) (fun _ _ _ h=>h) (Or.inl ⟨by rfl,?_⟩) ?_ ?_
            rotate_left
            ·intro w'
             go_simp
             with_reducible rfl
            rotate_left
            ·simp only [Act.put,xsA,xsZ,xsS,i64_w,i32_w]
             rfl
            refine pure_ (i:=5) (N:=some 26) (v:=?_) (a':=?_) #[true,true,true,true,true,true,false,false,false,false,false,false,false,false,false] rfl rfl (any_of HT_.out (by kernel_rfl)) (fun _ _ _ h=>h) (Or.inl ⟨by rfl,?_⟩) ?_ ?_
            rotate_left
            ·intro w'
             go_simp
             with_reducible rfl
            rotate_left
            ·simp only [Act.put,xsA,xsZ,xsS,i64_w,i32_w]
             rfl
            refine pure_ (i:=6) (N:=some 27) (v:=?_) (a':=?_) #[true,true,true,true,true,true,true,false,false,false,false,false,false,false,false] rfl rfl (any_of HT_.out (by kernel_rfl)) (fun _ _ _ h=>h) (Or.inl ⟨by rfl,?_⟩) ?_ ?_
            rotate_left
            ·intro w'
             go_simp
             with_reducible rfl
            rotate_left
            ·simp only [Act.put,xsA,xsZ,xsS,i64_w,i32_w]
             rfl
            refine pure_ (i:=8) (N:=some 29) (v:=?_) (a':=?_) #[true,true,true,true,true,true,true,false,true,false,false,false,false,false,false] rfl rfl (any_of HT_.out (by kernel_rfl)) (fun _ _ _ h=>h) (Or.inl ⟨by rfl,?_⟩) ?_ ?_
            rotate_left
            ·intro w'
             go_simp
             with_reducible rfl
            rotate_left
            ·simp only [Act.put,xsA,xsZ,xsS,i64_w,i32_w]
             rfl
            refine pure_ (i:=9) (N:=some 30) (v:=?_) (a':=?_) #[true,true,true,true,true,true,true,false,true,true,false,false,false,false,false] rfl rfl (any_of HT_.out (by kernel_rfl)) (fun _ _ _ h=>h) (Or.inl ⟨by rfl,?_⟩) ?_ ?_
            rotate_left
            ·intro w'
             go_simp
             with_reducible rfl
            rotate_left
            ·simp only [Act.put,xsA,xsZ,xsS,i64_w,i32_w]
             rfl
            refine pure_ (i:=10) (N:=some 31) (v:=?_) (a':=?_) #[true,true,true,true,true,true,true,false,true,true,true,false,false,false,false] rfl rfl (any_of HT_.out (by kernel_rfl)) (fun _ _ _ h=>h) (Or.inl ⟨by rfl,?_⟩) ?_ ?_
            rotate_left
            ·intro w'
             go_simp
             with_reducible rfl
            rotate_left
            ·simp only [Act.put,xsA,xsZ,xsS,i64_w,i32_w]
             rfl
            refine take_ (i:=7) (N:=some 28) (v:=?_) (a':=?_) #[true,true,true,true,true,true,true,true,true,true,true,false,false,false,false] rfl rfl (take_ofW HT_.out HW_.out (by kernel_rfl)) (fun _ _ _ h=>h) (Or.inl ⟨by rfl,?_⟩) hHeld ?_ ?_
            rotate_left
            ·rintro w' ⟨s0,s1,s2,s3,s4,s5⟩
             go_simp
             with_reducible rfl
            rotate_left
            ·simp only [Act.put,xsA,xsZ,xsS,i64_w,i32_w]
             rfl
            refine take_ (i:=11) (N:=some 32) (v:=?_) (a':=?_) #[true,true,true,true,true,true,true,true,true,true,true,true,false,false,false] rfl rfl (take_ofW HT_.out HW_.out (by kernel_rfl)) (fun _ _ _ h=>h) (Or.inl ⟨by rfl,?_⟩) hHeld ?_ ?_
            rotate_left
            ·rintro w' ⟨s0,s1,s2,s3,s4,s5⟩
             go_simp
             with_reducible rfl
            rotate_left
            ·simp only [Act.put,xsA,xsZ,xsS,i64_w,i32_w]
             rfl
            refine one_ (i:=12) (N:=some 33) #[true,true,true,true,true,true,true,true,true,true,true,true,true,false,false] rfl rfl (one_of HT_.out (by kernel_rfl)) (by decide) (fun K hK=>?_)
            refine goes_ Tryz.func37 (by kernel_rfl) rfl #[.agg #[.int .i64 ((rd_T37 l0 (ji8)).f0),.int .i64 ((rd_T37 l0 (ji8)).f1),.slice A173_2 ((rd_T37 l0 (ji8)).f2).length c173_2],.agg #[.int .i64 ((rd_T37 l0 x5_1).f0),.int .i64 ((rd_T37 l0 x5_1).f1),.slice A174_2 ((rd_T37 l0 x5_1).f2).length c174_2]] (by rfl) rfl rfl (by (try simp only [List.map_toArray,List.map_cons,List.map_nil]);first | done | (simp only [hji8];rfl) | rfl | (simp only [List.length_drop,List.length_take];rfl)) ?_
            with_reducible refine (rf_GaugeAfter.calls ((rd_T37 l0 (ji8)).f0) ((rd_T37 l0 (ji8)).f1) _ _ ((rd_T37 l0 (ji8)).f2) ((rd_T37 l0 x5_1).f0) ((rd_T37 l0 x5_1).f1) _ _ ((rd_T37 l0 x5_1).f2) true _ ?side1 ?side2 ?side3 ?side4 A11.out).mono ?_
            (case side1=>repeat (first | exact (Kd.C_below HR173_2.out HB.out) | (with_reducible refine Kd.C_alloc ?_ _) | (with_reducible refine Kd.C_drewN ?_ _) | (with_reducible refine Kd.C_drew ?_)))
            (case side2=>exact HC173_2.out)
            (case side3=>repeat (first | exact (Kd.C_below HR174_2.out HB.out) | (with_reducible refine Kd.C_alloc ?_ _) | (with_reducible refine Kd.C_drewN ?_ _) | (with_reducible refine Kd.C_drew ?_)))
            (case side4=>exact HC174_2.out)
            rintro e w17 ⟨rfl,hb⟩
            refine ⟨_,rfl,?_⟩
            have n0_:=Aside0.mk (below_step (by repeat (first | (with_reducible first | exact HB.out | apply below_alloc | apply pw_below_drewN | apply below_drew1) | exact HB.out)) hb)
            clear HB
            have HB:=n0_
            clear n0_
            (try clear hb)
            (try clear hb2)
            (try clear hk)
            (try clear hi)
            refine hK.out _ _ ⟨((HB.out.cell (xbl w _ hw173_0)).trans hw173_0),((HB.out.cell (xbl w _ hw173_1)).trans hw173_1),((HB.out.cell (xbl w _ hw173_2)).trans hw173_2),((HB.out.cell (xbl w _ hw174_0)).trans hw174_0),((HB.out.cell (xbl w _ hw174_1)).trans hw174_1),((HB.out.cell (xbl w _ hw174_2)).trans hw174_2)⟩ (fun hHeld=>?_)
            clear hK K
            refine norm_ (a':=?_) ?_ ?_
            rotate_left
            ·show Act.put _ (some 33) _=_
             simp only [Act.put,xsA,xsZ,xsS,i64_w,i32_w]
             rfl
            refine pure_ (i:=13) (N:=some 34) (v:=?_) (a':=?_) #[true,true,true,true,true,true,true,true,true,true,true,true,true,true,false] rfl rfl (any_of HT_.out (by kernel_rfl)) (fun _ _ _ h=>h) (Or.inl ⟨by rfl,?_⟩) ?_ ?_
            rotate_left
            ·intro w'
             go_simp
             with_reducible rfl
            rotate_left
            ·simp only [Act.put,xsA,xsZ,xsS,i64_w,i32_w]
             rfl
            refine pure_ (i:=14) (N:=some 35) (v:=?_) (a':=?_) #[true,true,true,true,true,true,true,true,true,true,true,true,true,true,true] rfl rfl (any_of HT_.out (by kernel_rfl)) (fun _ _ _ h=>h) (Or.inl ⟨by rfl,?_⟩) ?_ ?_
            rotate_left
            ·intro w'
             go_simp
             with_reducible rfl
            rotate_left
            ·simp only [Act.put,xsA,xsZ,xsS,i64_w,i32_w]
             rfl
            refine done_ (done_of HT_.out (by kernel_rfl)) ?_
            have p176:0 ≤ (x5_1:Int):=of_decide_eq_true (by first | (with_reducible assumption) | assumption)
            have q176:x5_1 < (l0.length:Int):=of_decide_eq_true (by first | (with_reducible assumption) | assumption)
            obtain ⟨ad176,A176_2,c176_2,e176,hx176_0,hx176_1,hx176_2,hl176_2,hi176_2⟩:=at_T37 HR0.out x5_1 p176 q176
            obtain rfl:ad171=ad176:=(by injection e176)
            have hz176:=Option.some.inj (hx176_2.symm.trans hw174_2)
            injection hz176 with hz1 hz2 hz3
            subst hz1 hz3
            replace hx176_0:=(HB.out.cell (xbl w _ hx176_0)).trans hx176_0
            replace hx176_1:=(HB.out.cell (xbl w _ hx176_1)).trans hx176_1
            replace hx176_2:=(HB.out.cell (xbl w _ hx176_2)).trans hx176_2
            have HR176_2:=Aside0.mk hi176_2
            have HC176_2:=Aside0.mk hl176_2
            clear hi176_2 hl176_2
            replace p176:=eq_true p176
            replace q176:=eq_true q176
            try go_wp2_with (first | ((with_reducible refine gate_callee (f:=38) rfl ?_);refine goesL_ (some 41) rfl rfl Tryz.func38 (by kernel_rfl) rfl #[.agg #[.int .i64 ((rd_T37 l0 x5_1).f0),.int .i64 ((rd_T37 l0 x5_1).f1),.slice A176_2 ((rd_T37 l0 x5_1).f2).length c176_2]] rfl (by (try simp only [List.map_toArray,List.map_cons,List.map_nil]);first | done | rfl | (simp only [List.length_drop,List.length_take];rfl)) ?_;(with_reducible refine (rf_GaugeText.calls k1 ((rd_T37 l0 x5_1).f0) ((rd_T37 l0 x5_1).f1) _ _ ((rd_T37 l0 x5_1).f2) t177 _ ?side1 ?side2 A13.out).mono ?_);(case side1=>repeat (first | exact (Kd.C_below HR176_2.out HB.out) | (with_reducible refine Kd.C_alloc ?_ _) | (with_reducible refine Kd.C_drewN ?_ _) | (with_reducible refine Kd.C_drew ?_)));(case side2=>exact HC176_2.out);rintro e w18 ⟨rfl,hb⟩;refine ⟨_,rfl,?_⟩;have n0_:=Aside0.mk (below_step (by repeat (first | (with_reducible first | exact HB.out | apply below_alloc | apply pw_below_drewN | apply below_drew1) | exact HB.out)) hb);clear HB;have HB:=n0_;clear n0_;(try clear hb);(try clear hb2);(try clear hk);(try clear hi)))
            go_roundg k1
            case measure=>have:=HK1.out;omega
            case rel=>exact ⟨(x4_1 ++ t177),(wrap64 (x5_1 + 1)),(by first | rfl | (simp;done) | (simp [*];done)),(by first | rfl | (simp;done) | (simp [*];done)),H',⟨by have:=HK1.out;omega⟩,⟨by repeat (first | (with_reducible first | exact HB.out | apply below_alloc | apply pw_below_drewN | apply below_drew1) | exact HB.out)⟩⟩
           ·rw [if_neg c14] at H
            exact absurd H (by simp)
          ·replace c12:=Bool.eq_false_iff.mpr c12
           subst c12
           have H1:(some ((⟨#[]⟩:ByteArray),6))=some (r1,r2):=by rw [if_neg (show ¬ (false=true) by decide)] at H;exact H
           clear H
           have H:=H1
           clear H1
           simp only [Option.some.injEq,Prod.mk.injEq] at H
           obtain ⟨rfl,rfl⟩:=H
           have p171:0 ≤ (x5_1:Int):=of_decide_eq_true (by first | (with_reducible assumption) | assumption)
           have q171:x5_1 < (l0.length:Int):=of_decide_eq_true (by first | (with_reducible assumption) | assumption)
           obtain ⟨ad171,A171_2,c171_2,e171,hx171_0,hx171_1,hx171_2,hl171_2,hi171_2⟩:=at_T37 HR0.out x5_1 p171 q171
           cases e171
           replace hx171_0:=(HB.out.cell (xbl w _ hx171_0)).trans hx171_0
           replace hx171_1:=(HB.out.cell (xbl w _ hx171_1)).trans hx171_1
           replace hx171_2:=(HB.out.cell (xbl w _ hx171_2)).trans hx171_2
           have HR171_2:=Aside0.mk hi171_2
           have HC171_2:=Aside0.mk hl171_2
           clear hi171_2 hl171_2
           replace p171:=eq_true p171
           replace q171:=eq_true q171
           try go_wp2_with (first | ((with_reducible refine gate_callee (f:=36) rfl ?_);refine goesL_ (some 19) rfl rfl Tryz.func36 (by kernel_rfl) rfl #[.agg #[.int .i64 ((rd_T37 l0 x5_1).f0),.int .i64 ((rd_T37 l0 x5_1).f1),.slice A171_2 ((rd_T37 l0 x5_1).f2).length c171_2]] rfl (by (try simp only [List.map_toArray,List.map_cons,List.map_nil]);first | done | rfl | (simp only [List.length_drop,List.length_take];rfl)) ?_;(with_reducible refine (rf_Gauge.calls k1 ((rd_T37 l0 x5_1).f0) ((rd_T37 l0 x5_1).f1) _ _ ((rd_T37 l0 x5_1).f2) true _ ?side1 ?side2 A5.out).mono ?_);(case side1=>repeat (first | exact (Kd.C_below HR171_2.out HB.out) | (with_reducible refine Kd.C_alloc ?_ _) | (with_reducible refine Kd.C_drewN ?_ _) | (with_reducible refine Kd.C_drew ?_)));(case side2=>exact HC171_2.out);rintro e w19 ⟨rfl,hb⟩;refine ⟨_,rfl,?_⟩;have n0_:=Aside0.mk (below_step (by repeat (first | (with_reducible first | exact HB.out | apply below_alloc | apply pw_below_drewN | apply below_drew1) | exact HB.out)) hb);clear HB;have HB:=n0_;clear n0_;(try clear hb);(try clear hb2);(try clear hk);(try clear hi)))
           have n0_:=Aside0.mk (below_drew1 HB.out)
           clear HB
           have HB:=n0_
           clear n0_
           have p173:0 ≤ ((ji8):Int):=of_decide_eq_true (by first | (with_reducible assumption) | assumption)
           have q173:(ji8) < (l0.length:Int):=of_decide_eq_true (by first | (with_reducible assumption) | assumption)
           obtain ⟨ad173,A173_2,c173_2,e173,hx173_0,hx173_1,hx173_2,hl173_2,hi173_2⟩:=at_T37 HR0.out (ji8) p173 q173
           have hw173_2:=hx173_2
           have hw173_1:=hx173_1
           have hw173_0:=hx173_0
           obtain rfl:ad171=ad173:=(by injection e173)
           replace hx173_0:=(HB.out.cell (xbl w _ hx173_0)).trans hx173_0
           replace hx173_1:=(HB.out.cell (xbl w _ hx173_1)).trans hx173_1
           replace hx173_2:=(HB.out.cell (xbl w _ hx173_2)).trans hx173_2
           have HR173_2:=Aside0.mk hi173_2
           have HC173_2:=Aside0.mk hl173_2
           clear hi173_2 hl173_2
           replace p173:=eq_true p173
           replace q173:=eq_true q173
           have p174:0 ≤ (x5_1:Int):=of_decide_eq_true (by first | (with_reducible assumption) | assumption)
           have q174:x5_1 < (l0.length:Int):=of_decide_eq_true (by first | (with_reducible assumption) | assumption)
           obtain ⟨ad174,A174_2,c174_2,e174,hx174_0,hx174_1,hx174_2,hl174_2,hi174_2⟩:=at_T37 HR0.out x5_1 p174 q174
           have hw174_2:=hx174_2
           have hw174_1:=hx174_1
           have hw174_0:=hx174_0
           obtain rfl:ad171=ad174:=(by injection e174)
           replace hx174_0:=(HB.out.cell (xbl w _ hx174_0)).trans hx174_0
           replace hx174_1:=(HB.out.cell (xbl w _ hx174_1)).trans hx174_1
           replace hx174_2:=(HB.out.cell (xbl w _ hx174_2)).trans hx174_2
           have HR174_2:=Aside0.mk hi174_2
           have HC174_2:=Aside0.mk hl174_2
           clear hi174_2 hl174_2
           replace p174:=eq_true p174
           replace q174:=eq_true q174
           refine start_ (n:=15) (S:=fun w'=>w'.cell? (ad171.add (((ji8)).toNat * 3))=some (.int .i64 ((rd_T37 l0 (ji8)).f0)) ∧ w'.cell? ⟨(ad171.add (((ji8)).toNat * 3)).block,(ad171.add (((ji8)).toNat * 3)).off + 1,none⟩=some (.int .i64 ((rd_T37 l0 (ji8)).f1)) ∧ w'.cell? ⟨(ad171.add (((ji8)).toNat * 3)).block,(ad171.add (((ji8)).toNat * 3)).off + 2,none⟩=some (.slice A173_2 ((rd_T37 l0 (ji8)).f2).length c173_2) ∧ w'.cell? (ad171.add ((x5_1).toNat * 3))=some (.int .i64 ((rd_T37 l0 x5_1).f0)) ∧ w'.cell? ⟨(ad171.add ((x5_1).toNat * 3)).block,(ad171.add ((x5_1).toNat * 3)).off + 1,none⟩=some (.int .i64 ((rd_T37 l0 x5_1).f1)) ∧ w'.cell? ⟨(ad171.add ((x5_1).toNat * 3)).block,(ad171.add ((x5_1).toNat * 3)).off + 2,none⟩=some (.slice A174_2 ((rd_T37 l0 x5_1).f2).length c174_2)) (ds:=[]) #[false,false,false,false,false,false,false,false,false,false,false,false,false,false,false] (by kernel_rfl) rfl rfl ⟨((HB.out.cell (xbl w _ hw173_0)).trans hw173_0),((HB.out.cell (xbl w _ hw173_1)).trans hw173_1),((HB.out.cell (xbl w _ hw173_2)).trans hw173_2),((HB.out.cell (xbl w _ hw174_0)).trans hw174_0),((HB.out.cell (xbl w _ hw174_1)).trans hw174_1),((HB.out.cell (xbl w _ hw174_2)).trans hw174_2)⟩ (fun hHeld=>?_);refine with_tabW rf_WriteGauge.tab9 rf_WriteGauge.bits9 (fun HT_ HW_=>?_)
           generalize w19.drew=w20 at HB HR173_2 HR174_2 hx173_0 hx173_1 hx173_2 hx174_0 hx174_1 hx174_2 hHeld ⊢
           refine pure_ (i:=0) (N:=some 21) (v:=?_) (a':=?_) #[true,false,false,false,false,false,false,false,false,false,false,false,false,false,false] rfl rfl (any_of HT_.out (by kernel_rfl)) (fun _ _ _ h=>h) (Or.inl ⟨by rfl,?_⟩) ?_ ?_
           rotate_left
           ·intro w'
            go_simp
            with_reducible rfl
           rotate_left
           ·simp only [Act.put,xsA,xsZ,xsS,i64_w,i32_w]
            rfl
           refine pure_ (i:=1) (N:=some 22) (v:=?_) (a':=?_) #[true,true,false,false,false,false,false,false,false,false,false,false,false,false,false] rfl rfl (any_of HT_.out (by kernel_rfl)) (fun _ _ _ h=>h) (Or.inl ⟨by rfl,?_⟩) ?_ ?_
           rotate_left
           ·intro w'
            go_simp
            with_reducible rfl
           rotate_left
           ·simp only [Act.put,xsA,xsZ,xsS,i64_w,i32_w]
            rfl
           refine pure_ (i:=2) (N:=some 23) (v:=?_) (a':=?_) #[true,true,true,false,false,false,false,false,false,false,false,false,false,false,false] rfl rfl (any_of HT_.out (by kernel_rfl)) (fun _ _ _ h=>h) (Or.inl ⟨by rfl,?_⟩) ?_ ?_
           rotate_left
           ·intro w'
            go_simp
            with_reducible rfl
           rotate_left
           ·simp only [Act.put,xsA,xsZ,xsS,i64_w,i32_w]
            rfl
           refine pure_ (i:=3) (N:=some 24) (v:=?_) (a':=?_) #[true,true,true,true,false,false,false,false,false,false,false,false,false,false,false] rfl rfl (any_of HT_.out (by kernel_rfl)) (fun _ _ _ h=>h) (Or.inl ⟨by rfl,?_⟩) ?_ ?_
           rotate_left
           ·intro w'
            go_simp
            with_reducible rfl
           rotate_left
           ·simp only [Act.put,xsA,xsZ,xsS,i64_w,i32_w]
            rfl
           refine pure_ (i:=4) (N:=some 25) (v:=?_) (a':=?_) #[true,true,true,true,true,false,false,false,false,false,false,false,false,false,false] rfl rfl (any_of HT_.out (by kernel_rfl)) (fun _ _ _ h=>h) (Or.inl ⟨by rfl,?_⟩) ?_ ?_
           rotate_left
           ·intro w'
            go_simp
            with_reducible rfl
           rotate_left
           ·simp only [Act.put,xsA,xsZ,xsS,i64_w,i32_w]
            rfl
           refine pure_ (i:=5) (N:=some 26) (v:=?_) (a':=?_) #[true,true,true,true,true,true,false,false,false,false,false,false,false,false,false] rfl rfl (any_of HT_.out (by kernel_rfl)) (fun _ _ _ h=>h) (Or.inl ⟨by rfl,?_⟩) ?_ ?_
           rotate_left
           ·intro w'
            go_simp
            with_reducible rfl
           rotate_left
           ·simp only [Act.put,xsA,xsZ,xsS,i64_w,i32_w]
            rfl
           refine pure_ (i:=6) (N:=some 27) (v:=?_) (a':=?_) #[true,true,true,true,true,true,true,false,false,false,false,false,false,false,false] rfl rfl (any_of HT_.out (by kernel_rfl)) (fun _ _ _ h=>h) (Or.inl ⟨by rfl,?_⟩) ?_ ?_
           rotate_left
           ·intro w'
            go_simp
            with_reducible rfl
           rotate_left
           ·simp only [Act.put,xsA,xsZ,xsS,i64_w,i32_w]
            rfl
           refine pure_ (i:=8) (N:=some 29) (v:=?_) (a':=?_) #[true,true,true,true,true,true,true,false,true,false,false,false,false,false,false] rfl rfl (any_of HT_.out (by kernel_rfl)) (fun _ _ _ h=>h) (Or.inl ⟨by rfl,?_⟩) ?_ ?_
           rotate_left
           ·intro w'
            go_simp
            with_reducible rfl
           rotate_left
           ·simp only [Act.put,xsA,xsZ,xsS,i64_w,i32_w]
            rfl
           refine pure_ (i:=9) (N:=some 30) (v:=?_) (a':=?_) #[true,true,true,true,true,true,true,false,true,true,false,false,false,false,false] rfl rfl (any_of HT_.out (by kernel_rfl)) (fun _ _ _ h=>h) (Or.inl ⟨by rfl,?_⟩) ?_ ?_
           rotate_left
           ·intro w'
            go_simp
            with_reducible rfl
           rotate_left
           ·simp only [Act.put,xsA,xsZ,xsS,i64_w,i32_w]
            rfl
           refine pure_ (i:=10) (N:=some 31) (v:=?_) (a':=?_) #[true,true,true,true,true,true,true,false,true,true,true,false,false,false,false] rfl rfl (any_of HT_.out (by kernel_rfl)) (fun _ _ _ h=>h) (Or.inl ⟨by rfl,?_⟩) ?_ ?_
           rotate_left
           ·intro w'
            go_simp
            with_reducible rfl
           rotate_left
           ·simp only [Act.put,xsA,xsZ,xsS,i64_w,i32_w]
            rfl
           refine take_ (i:=7) (N:=some 28) (v:=?_) (a':=?_) #[true,true,true,true,true,true,true,true,true,true,true,false,false,false,false] rfl rfl (take_ofW HT_.out HW_.out (by kernel_rfl)) (fun _ _ _ h=>h) (Or.inl ⟨by rfl,?_⟩) hHeld ?_ ?_
           rotate_left
           ·rintro w' ⟨s0,s1,s2,s3,s4,s5⟩
            go_simp
            with_reducible rfl
           rotate_left
           ·simp only [Act.put,xsA,xsZ,xsS,i64_w,i32_w]
            rfl
           refine take_ (i:=11) (N:=some 32) (v:=?_) (a':=?_) #[true,true,true,true,true,true,true,true,true,true,true,true,false,false,false] rfl rfl (take_ofW HT_.out HW_.out (by kernel_rfl)) (fun _ _ _ h=>h) (Or.inl ⟨by rfl,?_⟩) hHeld ?_ ?_
           rotate_left
           ·rintro w' ⟨s0,s1,s2,s3,s4,s5⟩
            go_simp
            with_reducible rfl
           rotate_left
           ·simp only [Act.put,xsA,xsZ,xsS,i64_w,i32_w]
            rfl
           refine one_ (i:=12) (N:=some 33) #[true,true,true,true,true,true,true,true,true,true,true,true,true,false,false] rfl rfl (one_of HT_.out (by kernel_rfl)) (by decide) (fun K hK=>?_)
           refine goes_ Tryz.func37 (by kernel_rfl) rfl #[.agg #[.int .i64 ((rd_T37 l0 (ji8)).f0),.int .i64 ((rd_T37 l0 (ji8)).f1),.slice A173_2 ((rd_T37 l0 (ji8)).f2).length c173_2],.agg #[.int .i64 ((rd_T37 l0 x5_1).f0),.int .i64 ((rd_T37 l0 x5_1).f1),.slice A174_2 ((rd_T37 l0 x5_1).f2).length c174_2]] (by rfl) rfl rfl (by (try simp only [List.map_toArray,List.map_cons,List.map_nil]);first | done | (simp only [hji8];rfl) | rfl | (simp only [List.length_drop,List.length_take];rfl)) ?_
           with_reducible refine (rf_GaugeAfter.calls ((rd_T37 l0 (ji8)).f0) ((rd_T37 l0 (ji8)).f1) _ _ ((rd_T37 l0 (ji8)).f2) ((rd_T37 l0 x5_1).f0) ((rd_T37 l0 x5_1).f1) _ _ ((rd_T37 l0 x5_1).f2) false _ ?side1 ?side2 ?side3 ?side4 A11.out).mono ?_
           (case side1=>repeat (first | exact (Kd.C_below HR173_2.out HB.out) | (with_reducible refine Kd.C_alloc ?_ _) | (with_reducible refine Kd.C_drewN ?_ _) | (with_reducible refine Kd.C_drew ?_)))
           (case side2=>exact HC173_2.out)
           (case side3=>repeat (first | exact (Kd.C_below HR174_2.out HB.out) | (with_reducible refine Kd.C_alloc ?_ _) | (with_reducible refine Kd.C_drewN ?_ _) | (with_reducible refine Kd.C_drew ?_)))
           (case side4=>exact HC174_2.out)
           rintro e w21 ⟨rfl,hb⟩
           refine ⟨_,rfl,?_⟩
           have n0_:=Aside0.mk (below_step (by repeat (first | (with_reducible first | exact HB.out | apply below_alloc | apply pw_below_drewN | apply below_drew1) | exact HB.out)) hb)
           clear HB
           have HB:=n0_
           clear n0_
           (try clear hb)
           (try clear hb2)
           (try clear hk)
           (try clear hi)
           refine hK.out _ _ ⟨((HB.out.cell (xbl w _ hw173_0)).trans hw173_0),((HB.out.cell (xbl w _ hw173_1)).trans hw173_1),((HB.out.cell (xbl w _ hw173_2)).trans hw173_2),((HB.out.cell (xbl w _ hw174_0)).trans hw174_0),((HB.out.cell (xbl w _ hw174_1)).trans hw174_1),((HB.out.cell (xbl w _ hw174_2)).trans hw174_2)⟩ (fun hHeld=>?_)
           clear hK K
           refine norm_ (a':=?_) ?_ ?_
           rotate_left
           ·show Act.put _ (some 33) _=_
            simp only [Act.put,xsA,xsZ,xsS,i64_w,i32_w]
            rfl
           refine pure_ (i:=13) (N:=some 34) (v:=?_) (a':=?_) #[true,true,true,true,true,true,true,true,true,true,true,true,true,true,false] rfl rfl (any_of HT_.out (by kernel_rfl)) (fun _ _ _ h=>h) (Or.inl ⟨by rfl,?_⟩) ?_ ?_
           rotate_left
           ·intro w'
            go_simp
            with_reducible rfl
           rotate_left
           ·simp only [Act.put,xsA,xsZ,xsS,i64_w,i32_w]
            rfl
           refine pure_ (i:=14) (N:=some 35) (v:=?_) (a':=?_) #[true,true,true,true,true,true,true,true,true,true,true,true,true,true,true] rfl rfl (any_of HT_.out (by kernel_rfl)) (fun _ _ _ h=>h) (Or.inl ⟨by rfl,?_⟩) ?_ ?_
           rotate_left
           ·intro w'
            go_simp
            with_reducible rfl
           rotate_left
           ·simp only [Act.put,xsA,xsZ,xsS,i64_w,i32_w]
            rfl
           refine done_ (done_of HT_.out (by kernel_rfl)) ?_
           try go_wp2
           go_ret2
           exact ⟨by first | rfl | (simp [errW_none,errW_some] <;> rfl) | (simp only [← hji8];first | rfl | (simp [errW_none,errW_some] <;> rfl)) | (simp [*,errW_none,errW_some] <;> rfl),by repeat (first | (with_reducible first | exact HB.out | apply below_alloc | apply pw_below_drewN | apply below_drew1) | exact HB.out)⟩
         ·rw [if_neg c10] at H
          exact absurd H (by simp)
        ·rw [if_neg c9] at H
         exact absurd H (by simp)
       ·rw [if_neg c7] at H
        have c7b0:decide (0 < x5_1)=false:=decide_eq_false c7
        clear c7
        replace H:=Option.bind_eq_some_iff.mp H
        obtain ⟨t179,A220,H⟩:=H
        replace H:(if x4_1.size + t179.size ≤ 9223372036854775807 then (rf_WriteGauge.l0 k1 l0 (x4_1 ++ t179) (wrap64 (x5_1 + 1))) else (none))=some (r1,r2):=H
        have A22:=Aside0.mk A220
        clear A220
        by_cases c23:x4_1.size + t179.size ≤ 9223372036854775807
        ·rw [if_pos c23] at H
         have c23b0:=eq_true c23
         have c23b1:decide (x4_1.size + t179.size ≤ 9223372036854775807)=true:=decide_eq_true c23
         try have c23b2:(9223372036854775807 < x4_1.size + t179.size)=False:=eq_false (Nat.not_lt.2 c23)
         have H':=Aside0.mk H
         clear H
         have p171:0 ≤ (x5_1:Int):=of_decide_eq_true (by first | (with_reducible assumption) | assumption)
         have q171:x5_1 < (l0.length:Int):=of_decide_eq_true (by first | (with_reducible assumption) | assumption)
         obtain ⟨ad171,A171_2,c171_2,e171,hx171_0,hx171_1,hx171_2,hl171_2,hi171_2⟩:=at_T37 HR0.out x5_1 p171 q171
         cases e171
         replace hx171_0:=(HB.out.cell (xbl w _ hx171_0)).trans hx171_0
         replace hx171_1:=(HB.out.cell (xbl w _ hx171_1)).trans hx171_1
         replace hx171_2:=(HB.out.cell (xbl w _ hx171_2)).trans hx171_2
         have HR171_2:=Aside0.mk hi171_2
         have HC171_2:=Aside0.mk hl171_2
         clear hi171_2 hl171_2
         replace p171:=eq_true p171
         replace q171:=eq_true q171
         try go_wp2_with (first | ((with_reducible refine gate_callee (f:=36) rfl ?_);refine goesL_ (some 19) rfl rfl Tryz.func36 (by kernel_rfl) rfl #[.agg #[.int .i64 ((rd_T37 l0 x5_1).f0),.int .i64 ((rd_T37 l0 x5_1).f1),.slice A171_2 ((rd_T37 l0 x5_1).f2).length c171_2]] rfl (by (try simp only [List.map_toArray,List.map_cons,List.map_nil]);first | done | rfl | (simp only [List.length_drop,List.length_take];rfl)) ?_;(with_reducible refine (rf_Gauge.calls k1 ((rd_T37 l0 x5_1).f0) ((rd_T37 l0 x5_1).f1) _ _ ((rd_T37 l0 x5_1).f2) true _ ?side1 ?side2 A5.out).mono ?_);(case side1=>repeat (first | exact (Kd.C_below HR171_2.out HB.out) | (with_reducible refine Kd.C_alloc ?_ _) | (with_reducible refine Kd.C_drewN ?_ _) | (with_reducible refine Kd.C_drew ?_)));(case side2=>exact HC171_2.out);rintro e w24 ⟨rfl,hb⟩;refine ⟨_,rfl,?_⟩;have n0_:=Aside0.mk (below_step (by repeat (first | (with_reducible first | exact HB.out | apply below_alloc | apply pw_below_drewN | apply below_drew1) | exact HB.out)) hb);clear HB;have HB:=n0_;clear n0_;(try clear hb);(try clear hb2);(try clear hk);(try clear hi)))
         have n0_:=Aside0.mk (below_drew1 HB.out)
         clear HB
         have HB:=n0_
         clear n0_
         refine start_ (n:=15) (S:=fun w'=>True) (ds:=[]) #[false,false,false,false,false,false,false,false,false,false,false,false,false,false,false] (by kernel_rfl) rfl rfl trivial (fun hHeld=>?_);refine with_tabW rf_WriteGauge.tab9 rf_WriteGauge.bits9 (fun HT_ HW_=>?_)
         generalize w24.drew=w25 at HB hHeld ⊢
         refine pure_ (i:=0) (N:=some 21) (v:=?_) (a':=?_) #[true,false,false,false,false,false,false,false,false,false,false,false,false,false,false] rfl rfl (any_of HT_.out (by kernel_rfl)) (fun _ _ _ h=>h) (Or.inl ⟨by rfl,?_⟩) ?_ ?_
         rotate_left
         ·intro w'
          go_simp
          with_reducible rfl
         rotate_left
         ·simp only [Act.put,xsA,xsZ,xsS,i64_w,i32_w]
          rfl
         refine pure_ (i:=1) (N:=some 22) (v:=?_) (a':=?_) #[true,true,false,false,false,false,false,false,false,false,false,false,false,false,false] rfl rfl (any_of HT_.out (by kernel_rfl)) (fun _ _ _ h=>h) (Or.inl ⟨by rfl,?_⟩) ?_ ?_
         rotate_left
         ·intro w'
          go_simp
          with_reducible rfl
         rotate_left
         ·simp only [Act.put,xsA,xsZ,xsS,i64_w,i32_w]
          rfl
         refine pure_ (i:=2) (N:=some 23) (v:=?_) (a':=?_) #[true,true,true,false,false,false,false,false,false,false,false,false,false,false,false] rfl rfl (any_of HT_.out (by kernel_rfl)) (fun _ _ _ h=>h) (Or.inl ⟨by rfl,?_⟩) ?_ ?_
         rotate_left
         ·intro w'
          go_simp
          with_reducible rfl
         rotate_left
         ·simp only [Act.put,xsA,xsZ,xsS,i64_w,i32_w]
          rfl
         refine pure_ (i:=3) (N:=some 24) (v:=undef) (a':=?_) #[true,true,true,true,false,false,false,false,false,false,false,false,false,false,false] rfl rfl (any_of HT_.out (by kernel_rfl)) (fun _ _ _ h=>h) (Or.inr ⟨by rfl,rfl⟩) ?_ ?_
         rotate_left
         ·simp only [Act.put,xsA,xsZ,xsS,i64_w,i32_w]
          rfl
         refine pure_ (i:=4) (N:=some 25) (v:=undef) (a':=?_) #[true,true,true,true,true,false,false,false,false,false,false,false,false,false,false] rfl rfl (any_of HT_.out (by kernel_rfl)) (fun _ _ _ h=>h) (Or.inr ⟨by rfl,rfl⟩) ?_ ?_
         rotate_left
         ·simp only [Act.put,xsA,xsZ,xsS,i64_w,i32_w]
          rfl
         refine pure_ (i:=5) (N:=some 26) (v:=undef) (a':=?_) #[true,true,true,true,true,true,false,false,false,false,false,false,false,false,false] rfl rfl (any_of HT_.out (by kernel_rfl)) (fun _ _ _ h=>h) (Or.inr ⟨by rfl,rfl⟩) ?_ ?_
         rotate_left
         ·simp only [Act.put,xsA,xsZ,xsS,i64_w,i32_w]
          rfl
         refine pure_ (i:=6) (N:=some 27) (v:=undef) (a':=?_) #[true,true,true,true,true,true,true,false,false,false,false,false,false,false,false] rfl rfl (any_of HT_.out (by kernel_rfl)) (fun _ _ _ h=>h) (Or.inr ⟨by rfl,rfl⟩) ?_ ?_
         rotate_left
         ·simp only [Act.put,xsA,xsZ,xsS,i64_w,i32_w]
          rfl
         refine pure_ (i:=7) (N:=some 28) (v:=undef) (a':=?_) #[true,true,true,true,true,true,true,true,false,false,false,false,false,false,false] rfl rfl (any_of HT_.out (by kernel_rfl)) (fun _ _ _ h=>h) (Or.inr ⟨by rfl,rfl⟩) ?_ ?_
         rotate_left
         ·simp only [Act.put,xsA,xsZ,xsS,i64_w,i32_w]
          rfl
         refine pure_ (i:=8) (N:=some 29) (v:=undef) (a':=?_) #[true,true,true,true,true,true,true,true,true,false,false,false,false,false,false] rfl rfl (any_of HT_.out (by kernel_rfl)) (fun _ _ _ h=>h) (Or.inr ⟨by rfl,rfl⟩) ?_ ?_
         rotate_left
         ·simp only [Act.put,xsA,xsZ,xsS,i64_w,i32_w]
          rfl
         refine pure_ (i:=9) (N:=some 30) (v:=undef) (a':=?_) #[true,true,true,true,true,true,true,true,true,true,false,false,false,false,false] rfl rfl (any_of HT_.out (by kernel_rfl)) (fun _ _ _ h=>h) (Or.inr ⟨by rfl,rfl⟩) ?_ ?_
         rotate_left
         ·simp only [Act.put,xsA,xsZ,xsS,i64_w,i32_w]
          rfl
         refine pure_ (i:=10) (N:=some 31) (v:=undef) (a':=?_) #[true,true,true,true,true,true,true,true,true,true,true,false,false,false,false] rfl rfl (any_of HT_.out (by kernel_rfl)) (fun _ _ _ h=>h) (Or.inr ⟨by rfl,rfl⟩) ?_ ?_
         rotate_left
         ·simp only [Act.put,xsA,xsZ,xsS,i64_w,i32_w]
          rfl
         refine pure_ (i:=11) (N:=some 32) (v:=undef) (a':=?_) #[true,true,true,true,true,true,true,true,true,true,true,true,false,false,false] rfl rfl (any_of HT_.out (by kernel_rfl)) (fun _ _ _ h=>h) (Or.inr ⟨by rfl,rfl⟩) ?_ ?_
         rotate_left
         ·simp only [Act.put,xsA,xsZ,xsS,i64_w,i32_w]
          rfl
         refine pure_ (i:=12) (N:=some 33) (v:=undef) (a':=?_) #[true,true,true,true,true,true,true,true,true,true,true,true,true,false,false] rfl rfl (any_of HT_.out (by kernel_rfl)) (fun _ _ _ h=>h) (Or.inr ⟨by rfl,rfl⟩) ?_ ?_
         rotate_left
         ·simp only [Act.put,xsA,xsZ,xsS,i64_w,i32_w]
          rfl
         refine pure_ (i:=13) (N:=some 34) (v:=undef) (a':=?_) #[true,true,true,true,true,true,true,true,true,true,true,true,true,true,false] rfl rfl (any_of HT_.out (by kernel_rfl)) (fun _ _ _ h=>h) (Or.inr ⟨by rfl,rfl⟩) ?_ ?_
         rotate_left
         ·simp only [Act.put,xsA,xsZ,xsS,i64_w,i32_w]
          rfl
         refine pure_ (i:=14) (N:=some 35) (v:=?_) (a':=?_) #[true,true,true,true,true,true,true,true,true,true,true,true,true,true,true] rfl rfl (any_of HT_.out (by kernel_rfl)) (fun _ _ _ h=>h) (Or.inl ⟨by rfl,?_⟩) ?_ ?_
         rotate_left
         ·intro w'
          go_simp
          with_reducible rfl
         rotate_left
         ·simp only [Act.put,xsA,xsZ,xsS,i64_w,i32_w]
          rfl
         refine done_ (done_of HT_.out (by kernel_rfl)) ?_
         have p178:0 ≤ (x5_1:Int):=of_decide_eq_true (by first | (with_reducible assumption) | assumption)
         have q178:x5_1 < (l0.length:Int):=of_decide_eq_true (by first | (with_reducible assumption) | assumption)
         obtain ⟨ad178,A178_2,c178_2,e178,hx178_0,hx178_1,hx178_2,hl178_2,hi178_2⟩:=at_T37 HR0.out x5_1 p178 q178
         obtain rfl:ad171=ad178:=(by injection e178)
         replace hx178_0:=(HB.out.cell (xbl w _ hx178_0)).trans hx178_0
         replace hx178_1:=(HB.out.cell (xbl w _ hx178_1)).trans hx178_1
         replace hx178_2:=(HB.out.cell (xbl w _ hx178_2)).trans hx178_2
         have HR178_2:=Aside0.mk hi178_2
         have HC178_2:=Aside0.mk hl178_2
         clear hi178_2 hl178_2
         replace p178:=eq_true p178
         replace q178:=eq_true q178
         try go_wp2_with (first | ((with_reducible refine gate_callee (f:=38) rfl ?_);refine goesL_ (some 41) rfl rfl Tryz.func38 (by kernel_rfl) rfl #[.agg #[.int .i64 ((rd_T37 l0 x5_1).f0),.int .i64 ((rd_T37 l0 x5_1).f1),.slice A178_2 ((rd_T37 l0 x5_1).f2).length c178_2]] rfl (by (try simp only [List.map_toArray,List.map_cons,List.map_nil]);first | done | rfl | (simp only [List.length_drop,List.length_take];rfl)) ?_;(with_reducible refine (rf_GaugeText.calls k1 ((rd_T37 l0 x5_1).f0) ((rd_T37 l0 x5_1).f1) _ _ ((rd_T37 l0 x5_1).f2) t179 _ ?side1 ?side2 A22.out).mono ?_);(case side1=>repeat (first | exact (Kd.C_below HR178_2.out HB.out) | (with_reducible refine Kd.C_alloc ?_ _) | (with_reducible refine Kd.C_drewN ?_ _) | (with_reducible refine Kd.C_drew ?_)));(case side2=>exact HC178_2.out);rintro e w26 ⟨rfl,hb⟩;refine ⟨_,rfl,?_⟩;have n0_:=Aside0.mk (below_step (by repeat (first | (with_reducible first | exact HB.out | apply below_alloc | apply pw_below_drewN | apply below_drew1) | exact HB.out)) hb);clear HB;have HB:=n0_;clear n0_;(try clear hb);(try clear hb2);(try clear hk);(try clear hi)))
         go_roundg k1
         case measure=>have:=HK1.out;omega
         case rel=>exact ⟨(x4_1 ++ t179),(wrap64 (x5_1 + 1)),(by first | rfl | (simp;done) | (simp [*];done)),(by first | rfl | (simp;done) | (simp [*];done)),H',⟨by have:=HK1.out;omega⟩,⟨by repeat (first | (with_reducible first | exact HB.out | apply below_alloc | apply pw_below_drewN | apply below_drew1) | exact HB.out)⟩⟩
        ·rw [if_neg c23] at H
         exact absurd H (by simp)
      ·replace c6:=Bool.eq_false_iff.mpr c6
       subst c6
       have H1:(some ((⟨#[]⟩:ByteArray),2))=some (r1,r2):=by rw [if_neg (show ¬ (false=true) by decide)] at H;exact H
       clear H
       have H:=H1
       clear H1
       simp only [Option.some.injEq,Prod.mk.injEq] at H
       obtain ⟨rfl,rfl⟩:=H
       have p171:0 ≤ (x5_1:Int):=of_decide_eq_true (by first | (with_reducible assumption) | assumption)
       have q171:x5_1 < (l0.length:Int):=of_decide_eq_true (by first | (with_reducible assumption) | assumption)
       obtain ⟨ad171,A171_2,c171_2,e171,hx171_0,hx171_1,hx171_2,hl171_2,hi171_2⟩:=at_T37 HR0.out x5_1 p171 q171
       cases e171
       replace hx171_0:=(HB.out.cell (xbl w _ hx171_0)).trans hx171_0
       replace hx171_1:=(HB.out.cell (xbl w _ hx171_1)).trans hx171_1
       replace hx171_2:=(HB.out.cell (xbl w _ hx171_2)).trans hx171_2
       have HR171_2:=Aside0.mk hi171_2
       have HC171_2:=Aside0.mk hl171_2
       clear hi171_2 hl171_2
       replace p171:=eq_true p171
       replace q171:=eq_true q171
       go_wp2_with (first | ((with_reducible refine gate_callee (f:=36) rfl ?_);refine goesL_ (some 19) rfl rfl Tryz.func36 (by kernel_rfl) rfl #[.agg #[.int .i64 ((rd_T37 l0 x5_1).f0),.int .i64 ((rd_T37 l0 x5_1).f1),.slice A171_2 ((rd_T37 l0 x5_1).f2).length c171_2]] rfl (by (try simp only [List.map_toArray,List.map_cons,List.map_nil]);first | done | rfl | (simp only [List.length_drop,List.length_take];rfl)) ?_;(with_reducible refine (rf_Gauge.calls k1 ((rd_T37 l0 x5_1).f0) ((rd_T37 l0 x5_1).f1) _ _ ((rd_T37 l0 x5_1).f2) false _ ?side1 ?side2 A5.out).mono ?_);(case side1=>repeat (first | exact (Kd.C_below HR171_2.out HB.out) | (with_reducible refine Kd.C_alloc ?_ _) | (with_reducible refine Kd.C_drewN ?_ _) | (with_reducible refine Kd.C_drew ?_)));(case side2=>exact HC171_2.out);rintro e w27 ⟨rfl,hb⟩;refine ⟨_,rfl,?_⟩;have n0_:=Aside0.mk (below_step (by repeat (first | (with_reducible first | exact HB.out | apply below_alloc | apply pw_below_drewN | apply below_drew1) | exact HB.out)) hb);clear HB;have HB:=n0_;clear n0_;(try clear hb);(try clear hb2);(try clear hk);(try clear hi)))
       go_ret2
       exact ⟨by first | rfl | (simp [errW_none,errW_some] <;> rfl) | (simp [*,errW_none,errW_some] <;> rfl),by repeat (first | (with_reducible first | exact HB.out | apply below_alloc | apply pw_below_drewN | apply below_drew1) | exact HB.out)⟩
     ·rw [if_neg c4] at H
      exact absurd H (by simp)
    ·rw [if_neg c3] at H
     have c3b0:decide (x5_1 < (l0.length:Int))=false:=decide_eq_false c3
     clear c3
     simp only [Option.some.injEq,Prod.mk.injEq] at H
     obtain ⟨rfl,rfl⟩:=H
     go_wp2
     go_ret2
     exact ⟨by first | rfl | (simp [errW_none,errW_some] <;> rfl) | (simp [*,errW_none,errW_some] <;> rfl),by repeat (first | (with_reducible first | exact HB.out | apply below_alloc | apply pw_below_drewN | apply below_drew1) | exact HB.out)⟩
def rf_Checked.j0:Nat → ByteArray → Bool → Option (Int)
 | 0,_,_=>none
 | k + 1,x0,x14=>if x14=true then (some 4) else (if 0 ≤ (wrap64 ((x0.size:Int) - 3)) then (if (wrap64 ((x0.size:Int) - 3)) ≤ (x0.size:Int) then ((rf_Line.f (x0.extract 0 ((wrap64 ((x0.size:Int) - 3)):Int).toNat)).bind fun t187=>(if x0.size + 1 ≤ 9223372036854775807 then (if t187.toList=(x0 ++ (⟨#[10]⟩:ByteArray)).toList then (some 0) else (some 121)) else (none))) else (none)) else (none))
def rf_Checked.f (k:Nat) (a0:ByteArray):Option (Int):=(rf_In.f (a0.size:Int) 3 600).bind fun t186=>(if t186=true then (if 0 ≤ (wrap64 ((a0.size:Int) - 3)) then (if (wrap64 ((a0.size:Int) - 3)) < (a0.size:Int) then (rf_Checked.j0 k a0 ((bt a0 (wrap64 ((a0.size:Int) - 3))) != 32)) else (none)) else (none)) else (rf_Checked.j0 k a0 true))
set_option maxHeartbeats 8000000 in
set_option maxRecDepth 100000 in
theorem rf_Checked.calls (k:Nat) (a0:ByteArray) (r:Int) (w:World) (h:rf_Checked.f k a0=some r) :
  Calls Tryz.prog 29 #[.string a0] w fun e w'=>e=.returned (.int .i64 r) ∧ Below w.heap.size w w':=by
 have HB:=Aside0.mk (Below.refl w.heap.size w)
 have H:((rf_In.f (a0.size:Int) 3 600).bind fun t186=>(if t186=true then (if 0 ≤ (wrap64 ((a0.size:Int) - 3)) then (if (wrap64 ((a0.size:Int) - 3)) < (a0.size:Int) then (rf_Checked.j0 k a0 ((bt a0 (wrap64 ((a0.size:Int) - 3))) != 32)) else (none)) else (none)) else (rf_Checked.j0 k a0 true)))=some r:=h
 clear h
 have HC2:=Aside0.mk H
 clear H
 go_enter Tryz.func29,Tryz.ntmps29
 go_upto_region 1 with (fail)
 go_cut [14] (fun v14 wc=>∃ (kq:Nat) (x14_1:Bool),v14=.bool x14_1 ∧ Aside0 (rf_Checked.j0 kq a0 x14_1=some r) ∧ Aside0 (kq ≤ k) ∧ Aside0 (Below w.heap.size w wc))
 case first =>
  have H:=HC2.out
  clear HC2
  replace H:=Option.bind_eq_some_iff.mp H
  obtain ⟨t186,A30,H⟩:=H
  replace H:(if t186=true then (if 0 ≤ (wrap64 ((a0.size:Int) - 3)) then (if (wrap64 ((a0.size:Int) - 3)) < (a0.size:Int) then (rf_Checked.j0 k a0 ((bt a0 (wrap64 ((a0.size:Int) - 3))) != 32)) else (none)) else (none)) else (rf_Checked.j0 k a0 true))=some r:=H
  have A3:=Aside0.mk A30
  clear A30
  by_cases c4:t186=true
  ·subst c4
   have H1:(if 0 ≤ (wrap64 ((a0.size:Int) - 3)) then (if (wrap64 ((a0.size:Int) - 3)) < (a0.size:Int) then (rf_Checked.j0 k a0 ((bt a0 (wrap64 ((a0.size:Int) - 3))) != 32)) else (none)) else (none))=some r:=by rw [if_pos rfl] at H;exact H
   clear H
   have H:=H1
   clear H1
   obtain ⟨ji5,hji5⟩:∃ j_:Int,(wrap64 ((a0.size:Int) - 3))=j_:=⟨_,rfl⟩
   replace H:(if 0 ≤ (ji5) then (if (ji5) < (a0.size:Int) then (rf_Checked.j0 k a0 ((bt a0 (ji5)) != 32)) else (none)) else (none))=some r:=by first | (rw [hji5] at H;exact H) | (simp only [hji5] at H ⊢;exact H)
   (try rw [hji5] at A3)
   have hji5w:(IntKind.i64.wrap ((a0.size:Int) - 3))=ji5:=(i64_w _).trans hji5
   by_cases c6:0 ≤ (ji5)
   ·rw [if_pos c6] at H
    have c6b0:decide (0 ≤ (ji5))=true:=decide_eq_true c6
    clear c6
    (first | rw [c6b0] | (simp only [i64_w,i32_w];rw [c6b0]) | skip)
    by_cases c7:(ji5) < (a0.size:Int)
    ·rw [if_pos c7] at H
     have c7b0:decide ((ji5) < (a0.size:Int))=true:=decide_eq_true c7
     clear c7
     have H':=Aside0.mk H
     clear H
     go_wp2_with (first | ((with_reducible refine gate_callee (f:=60) rfl ?_);refine goesL_ (some 5) rfl rfl Tryz.func60 (by kernel_rfl) rfl #[.int .i64 (a0.size:Int),.int .i64 3,.int .i64 600] rfl (by (try simp only [List.map_toArray,List.map_cons,List.map_nil]);first | done | rfl | (simp only [List.length_drop,List.length_take];rfl)) ?_;(with_reducible refine (rf_In.calls (a0.size:Int) 3 600 true _ A3.out).mono ?_);rintro e w' ⟨rfl,⟨nd,rfl⟩⟩;refine ⟨_,rfl,?_⟩;have p8:0 ≤ ((ji5):Int):=of_decide_eq_true (by first | (with_reducible assumption) | assumption);have q8:(ji5) < (a0.size:Int):=of_decide_eq_true (by first | (with_reducible assumption) | assumption);have hx8:=bt_at a0 (ji5);replace p8:=eq_true p8;replace q8:=eq_true q8))
     go_meet
     case rel=>exact ⟨_,(((bt a0 (ji5)) != 32)),(by first | rfl | (simp;done) | (simp only [← hji5] <;> (first | rfl | simp)) | (simp [*];done)),H',⟨by first | omega | exact Nat.le_refl _⟩,⟨by repeat (first | (with_reducible first | exact HB.out | apply below_alloc | apply pw_below_drewN | apply below_drew1) | exact HB.out)⟩⟩
    ·rw [if_neg c7] at H
     exact absurd H (by simp)
   ·rw [if_neg c6] at H
    exact absurd H (by simp)
  ·replace c4:=Bool.eq_false_iff.mpr c4
   subst c4
   have H1:(rf_Checked.j0 k a0 true)=some r:=by rw [if_neg (show ¬ (false=true) by decide)] at H;exact H
   clear H
   have H:=H1
   clear H1
   have H':=Aside0.mk H
   clear H
   go_wp2_with (first | ((with_reducible refine gate_callee (f:=60) rfl ?_);refine goesL_ (some 5) rfl rfl Tryz.func60 (by kernel_rfl) rfl #[.int .i64 (a0.size:Int),.int .i64 3,.int .i64 600] rfl (by (try simp only [List.map_toArray,List.map_cons,List.map_nil]);first | done | rfl | (simp only [List.length_drop,List.length_take];rfl)) ?_;(with_reducible refine (rf_In.calls (a0.size:Int) 3 600 false _ A3.out).mono ?_);rintro e w' ⟨rfl,⟨nd,rfl⟩⟩;refine ⟨_,rfl,?_⟩))
   go_meet
   case rel=>exact ⟨_,(true),(by first | rfl | (simp;done) | (simp [*];done)),H',⟨by first | omega | exact Nat.le_refl _⟩,⟨by repeat (first | (with_reducible first | exact HB.out | apply below_alloc | apply pw_below_drewN | apply below_drew1) | exact HB.out)⟩⟩
 case rest =>
  clear HC2
  try clear c2
  try clear p2
  try clear c4
  try clear c6
  try clear c6b0
  try clear p6
  try clear c7
  try clear c7b0
  try clear p8
  try clear q8
  try clear hx8
  try clear p8
  try clear q8
  obtain ⟨kq,x14_1,rfl,HA,HJ1,HB⟩:=hcut
  cases kq with
  | zero=>exact absurd HA.out (by simp [rf_Checked.j0])
  | succ kj1 =>
   have H:=HA.out
   clear HA
   simp only [rf_Checked.j0] at H
   by_cases c9:x14_1=true
   ·subst c9
    have H1:(some 4)=some r:=by rw [if_pos rfl] at H;exact H
    clear H
    have H:=H1
    clear H1
    obtain rfl:=Option.some.inj H
    go_wp2
    go_ret
    exact ⟨by first | rfl | (simp [errW_none,errW_some] <;> rfl) | (simp [*,errW_none,errW_some] <;> rfl),by repeat (first | (with_reducible first | exact HB.out | apply below_alloc | apply pw_below_drewN | apply below_drew1) | exact HB.out)⟩
   ·replace c9:=Bool.eq_false_iff.mpr c9
    subst c9
    have H1:(if 0 ≤ (wrap64 ((a0.size:Int) - 3)) then (if (wrap64 ((a0.size:Int) - 3)) ≤ (a0.size:Int) then ((rf_Line.f (a0.extract 0 ((wrap64 ((a0.size:Int) - 3)):Int).toNat)).bind fun t187=>(if a0.size + 1 ≤ 9223372036854775807 then (if t187.toList=(a0 ++ (⟨#[10]⟩:ByteArray)).toList then (some 0) else (some 121)) else (none))) else (none)) else (none))=some r:=by rw [if_neg (show ¬ (false=true) by decide)] at H;exact H
    clear H
    have H:=H1
    clear H1
    obtain ⟨ji10,hji10⟩:∃ j_:Int,(wrap64 ((a0.size:Int) - 3))=j_:=⟨_,rfl⟩
    replace H:(if 0 ≤ (ji10) then (if (ji10) ≤ (a0.size:Int) then ((rf_Line.f (a0.extract 0 ((ji10):Int).toNat)).bind fun t187=>(if a0.size + 1 ≤ 9223372036854775807 then (if t187.toList=(a0 ++ (⟨#[10]⟩:ByteArray)).toList then (some 0) else (some 121)) else (none))) else (none)) else (none))=some r:=by first | (rw [hji10] at H;exact H) | (simp only [hji10] at H ⊢;exact H)
    have hji10w:(IntKind.i64.wrap ((a0.size:Int) - 3))=ji10:=(i64_w _).trans hji10
    by_cases c11:0 ≤ (ji10)
    ·rw [if_pos c11] at H
     have c11b0:=eq_true c11
     have c11b1:decide (0 ≤ (ji10))=true:=decide_eq_true c11
     clear c11
     by_cases c12:(ji10) ≤ (a0.size:Int)
     ·rw [if_pos c12] at H
      have c12b0:=eq_true c12
      have c12b1:decide ((ji10) ≤ (a0.size:Int))=true:=decide_eq_true c12
      clear c12
      replace H:=Option.bind_eq_some_iff.mp H
      obtain ⟨t187,A130,H⟩:=H
      replace H:(if a0.size + 1 ≤ 9223372036854775807 then (if t187.toList=(a0 ++ (⟨#[10]⟩:ByteArray)).toList then (some 0) else (some 121)) else (none))=some r:=H
      have A13:=Aside0.mk A130
      clear A130
      by_cases c14:a0.size + 1 ≤ 9223372036854775807
      ·rw [if_pos c14] at H
       have c14b0:=eq_true c14
       have c14b1:decide (a0.size + 1 ≤ 9223372036854775807)=true:=decide_eq_true c14
       try have c14b2:(9223372036854775807 < a0.size + 1)=False:=eq_false (Nat.not_lt.2 c14)
       by_cases c15:t187.toList=(a0 ++ (⟨#[10]⟩:ByteArray)).toList
       ·rw [if_pos c15] at H
        have c15b0:(t187.toList == (a0 ++ (⟨#[10]⟩:ByteArray)).toList)=true:=beq_iff_eq.mpr c15
        have c15b1:(t187.toList != (a0 ++ (⟨#[10]⟩:ByteArray)).toList)=false:=bne_eq_false_iff_eq.mpr c15
        clear c15
        obtain rfl:=Option.some.inj H
        go_wp2_with (first | ((with_reducible refine gate_callee (f:=62) rfl ?_);refine goesL_ (some 20) rfl rfl Tryz.func62 (by kernel_rfl) rfl #[.string (a0.extract 0 ((ji10):Int).toNat)] rfl (by (try simp only [List.map_toArray,List.map_cons,List.map_nil]);first | done | (simp only [hji10];rfl) | rfl | (simp only [List.length_drop,List.length_take];rfl)) ?_;(with_reducible refine (rf_Line.calls (a0.extract 0 ((ji10):Int).toNat) t187 _ A13.out).mono ?_);rintro e w16 ⟨rfl,hb⟩;refine ⟨_,rfl,?_⟩;have n0_:=Aside0.mk (below_step (by repeat (first | (with_reducible first | exact HB.out | apply below_alloc | apply pw_below_drewN | apply below_drew1) | exact HB.out)) hb);clear HB;have HB:=n0_;clear n0_;(try clear hb);(try clear hb2);(try clear hk);(try clear hi)))
        go_ret
        exact ⟨by first | rfl | (simp [errW_none,errW_some] <;> rfl) | (simp only [← hji10];first | rfl | (simp [errW_none,errW_some] <;> rfl)) | (simp [*,errW_none,errW_some] <;> rfl),by repeat (first | (with_reducible first | exact HB.out | apply below_alloc | apply pw_below_drewN | apply below_drew1) | exact HB.out)⟩
       ·rw [if_neg c15] at H
        have c15b0:(t187.toList == (a0 ++ (⟨#[10]⟩:ByteArray)).toList)=false:=beq_eq_false_iff_ne.mpr c15
        have c15b1:(t187.toList != (a0 ++ (⟨#[10]⟩:ByteArray)).toList)=true:=bne_iff_ne.mpr c15
        obtain rfl:=Option.some.inj H
        go_wp2_with (first | ((with_reducible refine gate_callee (f:=62) rfl ?_);refine goesL_ (some 20) rfl rfl Tryz.func62 (by kernel_rfl) rfl #[.string (a0.extract 0 ((ji10):Int).toNat)] rfl (by (try simp only [List.map_toArray,List.map_cons,List.map_nil]);first | done | (simp only [hji10];rfl) | rfl | (simp only [List.length_drop,List.length_take];rfl)) ?_;(with_reducible refine (rf_Line.calls (a0.extract 0 ((ji10):Int).toNat) t187 _ A13.out).mono ?_);rintro e w17 ⟨rfl,hb⟩;refine ⟨_,rfl,?_⟩;have n0_:=Aside0.mk (below_step (by repeat (first | (with_reducible first | exact HB.out | apply below_alloc | apply pw_below_drewN | apply below_drew1) | exact HB.out)) hb);clear HB;have HB:=n0_;clear n0_;(try clear hb);(try clear hb2);(try clear hk);(try clear hi)))
        go_ret
        exact ⟨by first | rfl | (simp [errW_none,errW_some] <;> rfl) | (simp only [← hji10];first | rfl | (simp [errW_none,errW_some] <;> rfl)) | (simp [*,errW_none,errW_some] <;> rfl),by repeat (first | (with_reducible first | exact HB.out | apply below_alloc | apply pw_below_drewN | apply below_drew1) | exact HB.out)⟩
      ·rw [if_neg c14] at H
       exact absurd H (by simp)
     ·rw [if_neg c12] at H
      exact absurd H (by simp)
    ·rw [if_neg c11] at H
     exact absurd H (by simp)
end Go.Proofs.YtdomcbebbhbdlaaGreatDoor.PLogsGauges
