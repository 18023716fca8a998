/- The program's writer, and its reader of a line. Conditions: texts of at most a million bytes. -/
import Derived.Test.YtdomcbebbhbdlaaGreatDoorGf
set_option linter.unusedSimpArgs false
set_option linter.unusedVariables false
namespace Go.Proofs.YtdomcbebbhbdlaaGreatDoor.PLogsGauges
open Go.RowKit Go.Proofs.YtdomcbebbhbdlaaGreatDoorW.PrintWords Go.Proofs.YtdomcbebbhbdlaaGreatDoorW.PrintLast Go.Proofs.YtdomcbebbhbdlaaGreatDoorW.PrintMore Go.Proofs.YtdomcbebbhbdlaaGreatDoor.PLogsBills
attribute [local go_sem] max2_int min2_int max_two min_two max_three min_three max_four min_four
def logs_isGauge.f (a0_0:Int) (a0_1:Int) (l0_2:List Int):Option (Bool):=(logs_within.f 0 99 (([a0_0]:List Int))).bind fun t105=>(if t105=true then ((logs_within.f 0 100000 (([a0_1]:List Int))).bind fun t109=>(if t109=true then ((logs_within.f 1 24 (([(l0_2.length:Int)]:List Int))).bind fun t113=>(if t113=true then ((logs_within.f 0 10000 l0_2).bind fun t114=>(some t114)) else (some false))) else (some false))) else (some false))
set_option maxHeartbeats 8000000 in
set_option maxRecDepth 100000 in
theorem logs_isGauge.calls (a0_0:Int) (a0_1:Int) (A0_2:Option Addr) (c0_2:Nat) (l0_2:List Int) (r:Bool) (w:World) (hr0_2:Kd.C (Kd.int .i64) w A0_2 l0_2.length l0_2) (hc0_2:l0_2.length ≤ c0_2) (h:logs_isGauge.f a0_0 a0_1 l0_2=some r) :
  Calls Tryz.prog 63 #[.agg #[.int .i64 a0_0,.int .i64 a0_1,.slice A0_2 l0_2.length c0_2]] w fun e w'=>e=.returned (.bool r) ∧ Below w.heap.size w w':=by
 have hu37:=Tryz.underlying37
 have HR0_2:=Aside0.mk hr0_2
 have HC0_2:=Aside0.mk hc0_2
 clear hr0_2 hc0_2
 have HB:=Aside0.mk (Below.refl w.heap.size w)
 have H:((logs_within.f 0 99 (([a0_0]:List Int))).bind fun t105=>(if t105=true then ((logs_within.f 0 100000 (([a0_1]:List Int))).bind fun t109=>(if t109=true then ((logs_within.f 1 24 (([(l0_2.length:Int)]:List Int))).bind fun t113=>(if t113=true then ((logs_within.f 0 10000 l0_2).bind fun t114=>(some t114)) else (some false))) else (some false))) else (some false)))=some r:=h
 clear h
 obtain ⟨y102,hy102⟩:∃ y_:List Int,y_=(([a0_0]:List Int)):=⟨_,rfl⟩
 replace H:((logs_within.f 0 99 y102).bind fun t105=>(if t105=true then ((logs_within.f 0 100000 (([a0_1]:List Int))).bind fun t109=>(if t109=true then ((logs_within.f 1 24 (([(l0_2.length:Int)]:List Int))).bind fun t113=>(if t113=true then ((logs_within.f 0 10000 l0_2).bind fun t114=>(some t114)) else (some false))) else (some false))) else (some false)))=some r:=by first | (rw [hy102];with_reducible exact H) | (have H2_:=(Option.bind_some _ _).symm.trans H;rw [hy102];with_reducible exact H2_) | (have H2_:=(Option.bind_some _ _).symm.trans H;with_reducible exact H2_) | with_reducible exact H | (rw [hy102];exact H) | exact H
 have Ny102:=Aside0.mk hy102
 clear hy102
 replace H:=Option.bind_eq_some_iff.mp H
 obtain ⟨t105,A20,H⟩:=H
 replace H:(if t105=true then ((logs_within.f 0 100000 (([a0_1]:List Int))).bind fun t109=>(if t109=true then ((logs_within.f 1 24 (([(l0_2.length:Int)]:List Int))).bind fun t113=>(if t113=true then ((logs_within.f 0 10000 l0_2).bind fun t114=>(some t114)) else (some false))) else (some false))) else (some false))=some r:=H
 have A2:=Aside0.mk A20
 clear A20
 by_cases c3:t105=true
 ·subst c3
  have H1:((logs_within.f 0 100000 (([a0_1]:List Int))).bind fun t109=>(if t109=true then ((logs_within.f 1 24 (([(l0_2.length:Int)]:List Int))).bind fun t113=>(if t113=true then ((logs_within.f 0 10000 l0_2).bind fun t114=>(some t114)) else (some false))) else (some false)))=some r:=by rw [if_pos rfl] at H;exact H
  clear H
  have H:=H1
  clear H1
  obtain ⟨y106,hy106⟩:∃ y_:List Int,y_=(([a0_1]:List Int)):=⟨_,rfl⟩
  replace H:((logs_within.f 0 100000 y106).bind fun t109=>(if t109=true then ((logs_within.f 1 24 (([(l0_2.length:Int)]:List Int))).bind fun t113=>(if t113=true then ((logs_within.f 0 10000 l0_2).bind fun t114=>(some t114)) else (some false))) else (some false)))=some r:=by first | (rw [hy106];with_reducible exact H) | (have H2_:=(Option.bind_some _ _).symm.trans H;rw [hy106];with_reducible exact H2_) | (have H2_:=(Option.bind_some _ _).symm.trans H;with_reducible exact H2_) | with_reducible exact H | (rw [hy106];exact H) | exact H
  have Ny106:=Aside0.mk hy106
  clear hy106
  replace H:=Option.bind_eq_some_iff.mp H
  obtain ⟨t109,A40,H⟩:=H
  replace H:(if t109=true then ((logs_within.f 1 24 (([(l0_2.length:Int)]:List Int))).bind fun t113=>(if t113=true then ((logs_within.f 0 10000 l0_2).bind fun t114=>(some t114)) else (some false))) else (some false))=some r:=H
  have A4:=Aside0.mk A40
  clear A40
  by_cases c5:t109=true
  ·subst c5
   have H1:((logs_within.f 1 24 (([(l0_2.length:Int)]:List Int))).bind fun t113=>(if t113=true then ((logs_within.f 0 10000 l0_2).bind fun t114=>(some t114)) else (some false)))=some r:=by rw [if_pos rfl] at H;exact H
   clear H
   have H:=H1
   clear H1
   obtain ⟨y110,hy110⟩:∃ y_:List Int,y_=(([(l0_2.length:Int)]:List Int)):=⟨_,rfl⟩
   replace H:((logs_within.f 1 24 y110).bind fun t113=>(if t113=true then ((logs_within.f 0 10000 l0_2).bind fun t114=>(some t114)) else (some false)))=some r:=by first | (rw [hy110];with_reducible exact H) | (have H2_:=(Option.bind_some _ _).symm.trans H;rw [hy110];with_reducible exact H2_) | (have H2_:=(Option.bind_some _ _).symm.trans H;with_reducible exact H2_) | with_reducible exact H | (rw [hy110];exact H) | exact H
   have Ny110:=Aside0.mk hy110
   clear hy110
   replace H:=Option.bind_eq_some_iff.mp H
   obtain ⟨t113,A60,H⟩:=H
   replace H:(if t113=true then ((logs_within.f 0 10000 l0_2).bind fun t114=>(some t114)) else (some false))=some r:=H
   have A6:=Aside0.mk A60
   clear A60
   by_cases c7:t113=true
   ·subst c7
    have H1:((logs_within.f 0 10000 l0_2).bind fun t114=>(some t114))=some r:=by rw [if_pos rfl] at H;exact H
    clear H
    have H:=H1
    clear H1
    replace H:=Option.bind_eq_some_iff.mp H
    obtain ⟨t114,A80,H⟩:=H
    replace H:(some t114)=some r:=H
    have A8:=Aside0.mk A80
    clear A80
    obtain rfl:=Option.some.inj H
    go_enter Tryz.func63,Tryz.ntmps63
    go_wp2_with (first | ((with_reducible refine gate_dst (N:=1) rfl ?_);(try (refine gate_guard (by rfl) ?_;dsimp only));refine box_event ?hg (N:=1) ?hd (cs:=#[.int .i64 a0_0,.int .i64 a0_1,.slice A0_2 l0_2.length c0_2]) (t:=37) ?hr ?_;(case hd=>rfl);(case hg=>rfl);(case hr=>first | (go_simp;done) | (go_simp;rfl));intro gb101 hg w9 hbox hb;have n0_:=Aside0.mk (below_step (by repeat (first | (with_reducible first | exact HB.out | apply below_alloc | apply pw_below_drewN | apply below_drew1) | exact HB.out)) hb);have n1_:=Aside0.mk (hbox);have n2_:=Aside0.mk ((by rw [hg];exact (below_size (by repeat (first | (with_reducible first | exact HB.out | apply below_alloc | apply pw_below_drewN | apply below_drew1) | exact HB.out))):w.heap.size ≤ gb101));have n3_:=Aside0.mk ((by rw [hg];exact (below_size (by repeat (first | (with_reducible first | exact HB.out | apply below_alloc | apply pw_below_drewN | apply below_drew1) | exact HB.out))):w.heap.size ≤ gb101));clear HB;have HB:=n0_;have BK101:=n1_;have GW101:=n2_;have GE101:=n3_;clear n0_ n1_ n2_ n3_;clear hb hbox hg;have hcz10_0:w9.cell? ⟨gb101,0,none⟩=some (.int .i64 a0_0):=(blk_cell BK101.out 0).trans rfl;have hcz10_1:w9.cell? ⟨gb101,1,none⟩=some (.int .i64 a0_1):=(blk_cell BK101.out 1).trans rfl;have hcz10_2:w9.cell? ⟨gb101,2,none⟩=some (.slice A0_2 l0_2.length c0_2):=(blk_cell BK101.out 2).trans rfl;have hfz10_0:=blk_frozen BK101.out 0;have hfz10_1:=blk_frozen BK101.out 1;have hfz10_2:=blk_frozen BK101.out 2) | ((with_reducible refine gate_dst (N:=5) rfl ?_);(try (refine gate_guard (by rfl) ?_;dsimp only));refine Kd.R_lit (Kd.int .i64) _ 3 ?hg (N:=5) ?hd (xs:=([a0_0]:List Int)) (inner:=[.int .i64 a0_0]) (ok:=fun _=>True) (okp:=fun _=>True) ?hr ?hp (fun _ hk=>hk) trivial (Below.refl _ _) (Nat.le_refl _) (by simp) ?_;(case hd=>rfl);(case hg=>rfl);(case hr=>first | (go_simp;done) | (go_simp;rfl));(case hp=>exact (Reps.one (show Kd.M (Kd.int .i64) _ _ _ a0_0 [.int .i64 a0_0] from rfl) (Reps.none _ _)));intro v103 w11 ho12 hb hg_ hnew_;clear hg_ hnew_;(first | rw [← Ny102.out] at ho12 | (simp only [Int.reduceToNat] at ho12;rw [← Ny102.out] at ho12));have n0_:=Aside0.mk (Kd.R_lower ho12 (below_size (by repeat (first | (with_reducible first | exact HB.out | apply below_alloc | apply pw_below_drewN | apply below_drew1 | refine below_set ?_ GE101.out) | exact HB.out))));have n1_:=Aside0.mk (blk_below (g:=gb101) (o:=.cells #[.int .i64 a0_0,.int .i64 a0_1,.slice A0_2 l0_2.length c0_2] 37 (0,0)) (by (with_reducible repeat (first | refine blk_drewN ?_ _ | refine blk_drew ?_ | refine blk_alloc ?_ _));exact BK101.out) hb);have n2_:=Aside0.mk (below_step (by repeat (first | (with_reducible first | exact HB.out | apply below_alloc | apply pw_below_drewN | apply below_drew1 | refine below_set ?_ GE101.out) | exact HB.out)) hb);clear BK101;clear HB;have HO104:=n0_;have BK101:=n1_;have HB:=n2_;clear n0_ n1_ n2_;clear hb ho12;obtain ⟨Ao13,co13,eo13⟩:=Kd.R_slice HO104.out;subst eo13) | ((with_reducible refine gate_callee (f:=39) rfl ?_);refine goesL_ (some 6) rfl rfl Tryz.func39 (by kernel_rfl) rfl #[.int .i64 0,.int .i64 99,.slice Ao13 y102.length co13] rfl (by (try simp only [List.map_toArray,List.map_cons,List.map_nil]);first | done | rfl | (simp only [List.length_drop,List.length_take];rfl)) ?_;(with_reducible refine (logs_within.calls 0 99 _ _ y102 true _ ?side1 ?side2 A2.out).mono ?_);(case side1=>repeat (first | exact (Kd.R_reads' HO104.out).2.2 | (with_reducible refine Kd.C_alloc ?_ _) | (with_reducible refine Kd.C_drewN ?_ _) | (with_reducible refine Kd.C_drew ?_)));(case side2=>exact (Kd.R_reads' HO104.out).2.1);rintro e w14 ⟨rfl,hb⟩;refine ⟨_,rfl,?_⟩;have n0_:=Aside0.mk (Kd.R_below (by (with_reducible repeat (first | apply Kd.R_alloc | apply Kd.R_drewN | apply Kd.R_drew));exact HO104.out) hb);have n1_:=Aside0.mk (blk_below (g:=gb101) (o:=.cells #[.int .i64 a0_0,.int .i64 a0_1,.slice A0_2 l0_2.length c0_2] 37 (0,0)) (by (with_reducible repeat (first | refine blk_drewN ?_ _ | refine blk_drew ?_ | refine blk_alloc ?_ _));exact BK101.out) hb);have n2_:=Aside0.mk (below_step (by repeat (first | (with_reducible first | exact HB.out | apply below_alloc | apply pw_below_drewN | apply below_drew1 | refine below_set ?_ GE101.out) | exact HB.out)) hb);clear HO104;clear BK101;clear HB;have HO104:=n0_;have BK101:=n1_;have HB:=n2_;clear n0_ n1_ n2_;(try clear hb);(try clear hb2);(try clear hk);(try clear hi);have hcz15_0:w14.cell? ⟨gb101,0,none⟩=some (.int .i64 a0_0):=(blk_cell BK101.out 0).trans rfl;have hcz15_1:w14.cell? ⟨gb101,1,none⟩=some (.int .i64 a0_1):=(blk_cell BK101.out 1).trans rfl;have hcz15_2:w14.cell? ⟨gb101,2,none⟩=some (.slice A0_2 l0_2.length c0_2):=(blk_cell BK101.out 2).trans rfl;have hfz15_0:=blk_frozen BK101.out 0;have hfz15_1:=blk_frozen BK101.out 1;have hfz15_2:=blk_frozen BK101.out 2) | ((with_reducible refine gate_dst (N:=10) rfl ?_);(try (refine gate_guard (by rfl) ?_;dsimp only));refine Kd.R_lit (Kd.int .i64) _ 3 ?hg (N:=10) ?hd (xs:=([a0_1]:List Int)) (inner:=[.int .i64 a0_1]) (ok:=fun _=>True) (okp:=fun _=>True) ?hr ?hp (fun _ hk=>hk) trivial (Below.refl _ _) (Nat.le_refl _) (by simp) ?_;(case hd=>rfl);(case hg=>rfl);(case hr=>first | (go_simp;done) | (go_simp;rfl));(case hp=>exact (Reps.one (show Kd.M (Kd.int .i64) _ _ _ a0_1 [.int .i64 a0_1] from rfl) (Reps.none _ _)));intro v107 w16 ho17 hb hg_ hnew_;clear hg_ hnew_;(first | rw [← Ny106.out] at ho17 | (simp only [Int.reduceToNat] at ho17;rw [← Ny106.out] at ho17));have n0_:=Aside0.mk (Kd.R_elder' (by (with_reducible repeat (first | apply Kd.R_alloc | apply Kd.R_drewN | apply Kd.R_drew));exact HO104.out) (Kd.R_base ho17) hb);have n1_:=Aside0.mk (Kd.R_lower (Kd.R_new' ho17 (Kd.R_lt (by (with_reducible repeat (first | apply Kd.R_alloc | apply Kd.R_drewN | apply Kd.R_drew));exact HO104.out))) (below_size (by repeat (first | (with_reducible first | exact HB.out | apply below_alloc | apply pw_below_drewN | apply below_drew1 | refine below_set ?_ GE101.out) | exact HB.out))));have n2_:=Aside0.mk (blk_below (g:=gb101) (o:=.cells #[.int .i64 a0_0,.int .i64 a0_1,.slice A0_2 l0_2.length c0_2] 37 (0,0)) (by (with_reducible repeat (first | refine blk_drewN ?_ _ | refine blk_drew ?_ | refine blk_alloc ?_ _));exact BK101.out) hb);have n3_:=Aside0.mk (below_step (by repeat (first | (with_reducible first | exact HB.out | apply below_alloc | apply pw_below_drewN | apply below_drew1 | refine below_set ?_ GE101.out) | exact HB.out)) hb);clear HO104;clear BK101;clear HB;have HO104:=n0_;have HO108:=n1_;have BK101:=n2_;have HB:=n3_;clear n0_ n1_ n2_ n3_;clear hb ho17;obtain ⟨Ao18,co18,eo18⟩:=Kd.R_slice HO108.out;subst eo18) | (go_at_call 39;(with_reducible refine (logs_within.calls 0 100000 _ _ y106 true _ ?side1 ?side2 A4.out).mono ?_);(case side1=>repeat (first | exact (Kd.R_reads' HO108.out).2.2 | (with_reducible refine Kd.C_alloc ?_ _) | (with_reducible refine Kd.C_drewN ?_ _) | (with_reducible refine Kd.C_drew ?_)));(case side2=>exact (Kd.R_reads' HO108.out).2.1);rintro e w19 ⟨rfl,hb⟩;have n0_:=Aside0.mk (Kd.R_below (by (with_reducible repeat (first | apply Kd.R_alloc | apply Kd.R_drewN | apply Kd.R_drew));exact HO104.out) hb);have n1_:=Aside0.mk (Kd.R_below (by (with_reducible repeat (first | apply Kd.R_alloc | apply Kd.R_drewN | apply Kd.R_drew));exact HO108.out) hb);have n2_:=Aside0.mk (blk_below (g:=gb101) (o:=.cells #[.int .i64 a0_0,.int .i64 a0_1,.slice A0_2 l0_2.length c0_2] 37 (0,0)) (by (with_reducible repeat (first | refine blk_drewN ?_ _ | refine blk_drew ?_ | refine blk_alloc ?_ _));exact BK101.out) hb);have n3_:=Aside0.mk (below_step (by repeat (first | (with_reducible first | exact HB.out | apply below_alloc | apply pw_below_drewN | apply below_drew1 | refine below_set ?_ GE101.out) | exact HB.out)) hb);clear HO104;clear HO108;clear BK101;clear HB;have HO104:=n0_;have HO108:=n1_;have BK101:=n2_;have HB:=n3_;clear n0_ n1_ n2_ n3_;(try clear hb);(try clear hb2);(try clear hk);(try clear hi);have hcz20_0:w19.cell? ⟨gb101,0,none⟩=some (.int .i64 a0_0):=(blk_cell BK101.out 0).trans rfl;have hcz20_1:w19.cell? ⟨gb101,1,none⟩=some (.int .i64 a0_1):=(blk_cell BK101.out 1).trans rfl;have hcz20_2:w19.cell? ⟨gb101,2,none⟩=some (.slice A0_2 l0_2.length c0_2):=(blk_cell BK101.out 2).trans rfl;have hfz20_0:=blk_frozen BK101.out 0;have hfz20_1:=blk_frozen BK101.out 1;have hfz20_2:=blk_frozen BK101.out 2) | ((with_reducible refine gate_dst (N:=17) rfl ?_);(try (refine gate_guard (by rfl) ?_;dsimp only));refine Kd.R_lit (Kd.int .i64) _ 3 ?hg (N:=17) ?hd (xs:=([(l0_2.length:Int)]:List Int)) (inner:=[.int .i64 (l0_2.length:Int)]) (ok:=fun _=>True) (okp:=fun _=>True) ?hr ?hp (fun _ hk=>hk) trivial (Below.refl _ _) (Nat.le_refl _) (by simp) ?_;(case hd=>rfl);(case hg=>rfl);(case hr=>first | (go_simp;done) | (go_simp;rfl));(case hp=>exact (Reps.one (show Kd.M (Kd.int .i64) _ _ _ (l0_2.length:Int) [.int .i64 (l0_2.length:Int)] from rfl) (Reps.none _ _)));intro v111 w21 ho22 hb hg_ hnew_;clear hg_ hnew_;(first | rw [← Ny110.out] at ho22 | (simp only [Int.reduceToNat] at ho22;rw [← Ny110.out] at ho22));have n0_:=Aside0.mk (Kd.R_elder' (by (with_reducible repeat (first | apply Kd.R_alloc | apply Kd.R_drewN | apply Kd.R_drew));exact HO104.out) (Kd.R_base ho22) hb);have n1_:=Aside0.mk (Kd.R_elder' (by (with_reducible repeat (first | apply Kd.R_alloc | apply Kd.R_drewN | apply Kd.R_drew));exact HO108.out) (Kd.R_base ho22) hb);have n2_:=Aside0.mk (Kd.R_lower (Kd.R_new' (Kd.R_new' ho22 (Kd.R_lt (by (with_reducible repeat (first | apply Kd.R_alloc | apply Kd.R_drewN | apply Kd.R_drew));exact HO104.out))) (Kd.R_lt (by (with_reducible repeat (first | apply Kd.R_alloc | apply Kd.R_drewN | apply Kd.R_drew));exact HO108.out))) (below_size (by repeat (first | (with_reducible first | exact HB.out | apply below_alloc | apply pw_below_drewN | apply below_drew1 | refine below_set ?_ GE101.out) | exact HB.out))));have n3_:=Aside0.mk (blk_below (g:=gb101) (o:=.cells #[.int .i64 a0_0,.int .i64 a0_1,.slice A0_2 l0_2.length c0_2] 37 (0,0)) (by (with_reducible repeat (first | refine blk_drewN ?_ _ | refine blk_drew ?_ | refine blk_alloc ?_ _));exact BK101.out) hb);have n4_:=Aside0.mk (below_step (by repeat (first | (with_reducible first | exact HB.out | apply below_alloc | apply pw_below_drewN | apply below_drew1 | refine below_set ?_ GE101.out) | exact HB.out)) hb);clear HO104;clear HO108;clear BK101;clear HB;have HO104:=n0_;have HO108:=n1_;have HO112:=n2_;have BK101:=n3_;have HB:=n4_;clear n0_ n1_ n2_ n3_ n4_;clear hb ho22;obtain ⟨Ao23,co23,eo23⟩:=Kd.R_slice HO112.out;subst eo23) | (go_at_call 39;(with_reducible refine (logs_within.calls 1 24 _ _ y110 true _ ?side1 ?side2 A6.out).mono ?_);(case side1=>repeat (first | exact (Kd.R_reads' HO112.out).2.2 | (with_reducible refine Kd.C_alloc ?_ _) | (with_reducible refine Kd.C_drewN ?_ _) | (with_reducible refine Kd.C_drew ?_)));(case side2=>exact (Kd.R_reads' HO112.out).2.1);rintro e w24 ⟨rfl,hb⟩;have n0_:=Aside0.mk (Kd.R_below (by (with_reducible repeat (first | apply Kd.R_alloc | apply Kd.R_drewN | apply Kd.R_drew));exact HO104.out) hb);have n1_:=Aside0.mk (Kd.R_below (by (with_reducible repeat (first | apply Kd.R_alloc | apply Kd.R_drewN | apply Kd.R_drew));exact HO108.out) hb);have n2_:=Aside0.mk (Kd.R_below (by (with_reducible repeat (first | apply Kd.R_alloc | apply Kd.R_drewN | apply Kd.R_drew));exact HO112.out) hb);have n3_:=Aside0.mk (blk_below (g:=gb101) (o:=.cells #[.int .i64 a0_0,.int .i64 a0_1,.slice A0_2 l0_2.length c0_2] 37 (0,0)) (by (with_reducible repeat (first | refine blk_drewN ?_ _ | refine blk_drew ?_ | refine blk_alloc ?_ _));exact BK101.out) hb);have n4_:=Aside0.mk (below_step (by repeat (first | (with_reducible first | exact HB.out | apply below_alloc | apply pw_below_drewN | apply below_drew1 | refine below_set ?_ GE101.out) | exact HB.out)) hb);clear HO104;clear HO108;clear HO112;clear BK101;clear HB;have HO104:=n0_;have HO108:=n1_;have HO112:=n2_;have BK101:=n3_;have HB:=n4_;clear n0_ n1_ n2_ n3_ n4_;(try clear hb);(try clear hb2);(try clear hk);(try clear hi);have hcz25_0:w24.cell? ⟨gb101,0,none⟩=some (.int .i64 a0_0):=(blk_cell BK101.out 0).trans rfl;have hcz25_1:w24.cell? ⟨gb101,1,none⟩=some (.int .i64 a0_1):=(blk_cell BK101.out 1).trans rfl;have hcz25_2:w24.cell? ⟨gb101,2,none⟩=some (.slice A0_2 l0_2.length c0_2):=(blk_cell BK101.out 2).trans rfl;have hfz25_0:=blk_frozen BK101.out 0;have hfz25_1:=blk_frozen BK101.out 1;have hfz25_2:=blk_frozen BK101.out 2) | (go_at_call 39;(with_reducible refine (logs_within.calls 0 10000 _ _ l0_2 t114 _ ?side1 ?side2 A8.out).mono ?_);(case side1=>repeat (first | exact (Kd.C_below HR0_2.out HB.out) | (with_reducible refine Kd.C_alloc ?_ _) | (with_reducible refine Kd.C_drewN ?_ _) | (with_reducible refine Kd.C_drew ?_)));(case side2=>exact HC0_2.out);rintro e w26 ⟨rfl,hb⟩;have n0_:=Aside0.mk (Kd.R_below (by (with_reducible repeat (first | apply Kd.R_alloc | apply Kd.R_drewN | apply Kd.R_drew));exact HO104.out) hb);have n1_:=Aside0.mk (Kd.R_below (by (with_reducible repeat (first | apply Kd.R_alloc | apply Kd.R_drewN | apply Kd.R_drew));exact HO108.out) hb);have n2_:=Aside0.mk (Kd.R_below (by (with_reducible repeat (first | apply Kd.R_alloc | apply Kd.R_drewN | apply Kd.R_drew));exact HO112.out) hb);have n3_:=Aside0.mk (blk_below (g:=gb101) (o:=.cells #[.int .i64 a0_0,.int .i64 a0_1,.slice A0_2 l0_2.length c0_2] 37 (0,0)) (by (with_reducible repeat (first | refine blk_drewN ?_ _ | refine blk_drew ?_ | refine blk_alloc ?_ _));exact BK101.out) hb);have n4_:=Aside0.mk (below_step (by repeat (first | (with_reducible first | exact HB.out | apply below_alloc | apply pw_below_drewN | apply below_drew1 | refine below_set ?_ GE101.out) | exact HB.out)) hb);clear HO104;clear HO108;clear HO112;clear BK101;clear HB;have HO104:=n0_;have HO108:=n1_;have HO112:=n2_;have BK101:=n3_;have HB:=n4_;clear n0_ n1_ n2_ n3_ n4_;(try clear hb);(try clear hb2);(try clear hk);(try clear hi)))
    go_ret
    exact ⟨by first | rfl | (simp [errW_none,errW_some] <;> rfl) | (simp [*,errW_none,errW_some] <;> rfl),by repeat (first | (with_reducible first | exact HB.out | apply below_alloc | apply pw_below_drewN | apply below_drew1 | refine below_set ?_ GE101.out) | exact HB.out)⟩
   ·replace c7:=Bool.eq_false_iff.mpr c7
    subst c7
    have H1:(some false)=some r:=by rw [if_neg (show ¬ (false=true) by decide)] at H;exact H
    clear H
    have H:=H1
    clear H1
    obtain rfl:=Option.some.inj H
    go_enter Tryz.func63,Tryz.ntmps63
    go_wp2_with (first | ((with_reducible refine gate_dst (N:=1) rfl ?_);(try (refine gate_guard (by rfl) ?_;dsimp only));refine box_event ?hg (N:=1) ?hd (cs:=#[.int .i64 a0_0,.int .i64 a0_1,.slice A0_2 l0_2.length c0_2]) (t:=37) ?hr ?_;(case hd=>rfl);(case hg=>rfl);(case hr=>first | (go_simp;done) | (go_simp;rfl));intro gb101 hg w27 hbox hb;have n0_:=Aside0.mk (below_step (by repeat (first | (with_reducible first | exact HB.out | apply below_alloc | apply pw_below_drewN | apply below_drew1) | exact HB.out)) hb);have n1_:=Aside0.mk (hbox);have n2_:=Aside0.mk ((by rw [hg];exact (below_size (by repeat (first | (with_reducible first | exact HB.out | apply below_alloc | apply pw_below_drewN | apply below_drew1) | exact HB.out))):w.heap.size ≤ gb101));have n3_:=Aside0.mk ((by rw [hg];exact (below_size (by repeat (first | (with_reducible first | exact HB.out | apply below_alloc | apply pw_below_drewN | apply below_drew1) | exact HB.out))):w.heap.size ≤ gb101));clear HB;have HB:=n0_;have BK101:=n1_;have GW101:=n2_;have GE101:=n3_;clear n0_ n1_ n2_ n3_;clear hb hbox hg;have hcz28_0:w27.cell? ⟨gb101,0,none⟩=some (.int .i64 a0_0):=(blk_cell BK101.out 0).trans rfl;have hcz28_1:w27.cell? ⟨gb101,1,none⟩=some (.int .i64 a0_1):=(blk_cell BK101.out 1).trans rfl;have hcz28_2:w27.cell? ⟨gb101,2,none⟩=some (.slice A0_2 l0_2.length c0_2):=(blk_cell BK101.out 2).trans rfl;have hfz28_0:=blk_frozen BK101.out 0;have hfz28_1:=blk_frozen BK101.out 1;have hfz28_2:=blk_frozen BK101.out 2) | ((with_reducible refine gate_dst (N:=5) rfl ?_);(try (refine gate_guard (by rfl) ?_;dsimp only));refine Kd.R_lit (Kd.int .i64) _ 3 ?hg (N:=5) ?hd (xs:=([a0_0]:List Int)) (inner:=[.int .i64 a0_0]) (ok:=fun _=>True) (okp:=fun _=>True) ?hr ?hp (fun _ hk=>hk) trivial (Below.refl _ _) (Nat.le_refl _) (by simp) ?_;(case hd=>rfl);(case hg=>rfl);(case hr=>first | (go_simp;done) | (go_simp;rfl));(case hp=>exact (Reps.one (show Kd.M (Kd.int .i64) _ _ _ a0_0 [.int .i64 a0_0] from rfl) (Reps.none _ _)));intro v103 w29 ho30 hb hg_ hnew_;clear hg_ hnew_;(first | rw [← Ny102.out] at ho30 | (simp only [Int.reduceToNat] at ho30;rw [← Ny102.out] at ho30));have n0_:=Aside0.mk (Kd.R_lower ho30 (below_size (by repeat (first | (with_reducible first | exact HB.out | apply below_alloc | apply pw_below_drewN | apply below_drew1 | refine below_set ?_ GE101.out) | exact HB.out))));have n1_:=Aside0.mk (blk_below (g:=gb101) (o:=.cells #[.int .i64 a0_0,.int .i64 a0_1,.slice A0_2 l0_2.length c0_2] 37 (0,0)) (by (with_reducible repeat (first | refine blk_drewN ?_ _ | refine blk_drew ?_ | refine blk_alloc ?_ _));exact BK101.out) hb);have n2_:=Aside0.mk (below_step (by repeat (first | (with_reducible first | exact HB.out | apply below_alloc | apply pw_below_drewN | apply below_drew1 | refine below_set ?_ GE101.out) | exact HB.out)) hb);clear BK101;clear HB;have HO104:=n0_;have BK101:=n1_;have HB:=n2_;clear n0_ n1_ n2_;clear hb ho30;obtain ⟨Ao31,co31,eo31⟩:=Kd.R_slice HO104.out;subst eo31) | ((with_reducible refine gate_callee (f:=39) rfl ?_);refine goesL_ (some 6) rfl rfl Tryz.func39 (by kernel_rfl) rfl #[.int .i64 0,.int .i64 99,.slice Ao31 y102.length co31] rfl (by (try simp only [List.map_toArray,List.map_cons,List.map_nil]);first | done | rfl | (simp only [List.length_drop,List.length_take];rfl)) ?_;(with_reducible refine (logs_within.calls 0 99 _ _ y102 true _ ?side1 ?side2 A2.out).mono ?_);(case side1=>repeat (first | exact (Kd.R_reads' HO104.out).2.2 | (with_reducible refine Kd.C_alloc ?_ _) | (with_reducible refine Kd.C_drewN ?_ _) | (with_reducible refine Kd.C_drew ?_)));(case side2=>exact (Kd.R_reads' HO104.out).2.1);rintro e w32 ⟨rfl,hb⟩;refine ⟨_,rfl,?_⟩;have n0_:=Aside0.mk (Kd.R_below (by (with_reducible repeat (first | apply Kd.R_alloc | apply Kd.R_drewN | apply Kd.R_drew));exact HO104.out) hb);have n1_:=Aside0.mk (blk_below (g:=gb101) (o:=.cells #[.int .i64 a0_0,.int .i64 a0_1,.slice A0_2 l0_2.length c0_2] 37 (0,0)) (by (with_reducible repeat (first | refine blk_drewN ?_ _ | refine blk_drew ?_ | refine blk_alloc ?_ _));exact BK101.out) hb);have n2_:=Aside0.mk (below_step (by repeat (first | (with_reducible first | exact HB.out | apply below_alloc | apply pw_below_drewN | apply below_drew1 | refine below_set ?_ GE101.out) | exact HB.out)) hb);clear HO104;clear BK101;clear HB;have HO104:=n0_;have BK101:=n1_;have HB:=n2_;clear n0_ n1_ n2_;(try clear hb);(try clear hb2);(try clear hk);(try clear hi);have hcz33_0:w32.cell? ⟨gb101,0,none⟩=some (.int .i64 a0_0):=(blk_cell BK101.out 0).trans rfl;have hcz33_1:w32.cell? ⟨gb101,1,none⟩=some (.int .i64 a0_1):=(blk_cell BK101.out 1).trans rfl;have hcz33_2:w32.cell? ⟨gb101,2,none⟩=some (.slice A0_2 l0_2.length c0_2):=(blk_cell BK101.out 2).trans rfl;have hfz33_0:=blk_frozen BK101.out 0;have hfz33_1:=blk_frozen BK101.out 1;have hfz33_2:=blk_frozen BK101.out 2) | ((with_reducible refine gate_dst (N:=10) rfl ?_);(try (refine gate_guard (by rfl) ?_;dsimp only));refine Kd.R_lit (Kd.int .i64) _ 3 ?hg (N:=10) ?hd (xs:=([a0_1]:List Int)) (inner:=[.int .i64 a0_1]) (ok:=fun _=>True) (okp:=fun _=>True) ?hr ?hp (fun _ hk=>hk) trivial (Below.refl _ _) (Nat.le_refl _) (by simp) ?_;(case hd=>rfl);(case hg=>rfl);(case hr=>first | (go_simp;done) | (go_simp;rfl));(case hp=>exact (Reps.one (show Kd.M (Kd.int .i64) _ _ _ a0_1 [.int .i64 a0_1] from rfl) (Reps.none _ _)));intro v107 w34 ho35 hb hg_ hnew_;clear hg_ hnew_;(first | rw [← Ny106.out] at ho35 | (simp only [Int.reduceToNat] at ho35;rw [← Ny106.out] at ho35));have n0_:=Aside0.mk (Kd.R_elder' (by (with_reducible repeat (first | apply Kd.R_alloc | apply Kd.R_drewN | apply Kd.R_drew));exact HO104.out) (Kd.R_base ho35) hb);have n1_:=Aside0.mk (Kd.R_lower (Kd.R_new' ho35 (Kd.R_lt (by (with_reducible repeat (first | apply Kd.R_alloc | apply Kd.R_drewN | apply Kd.R_drew));exact HO104.out))) (below_size (by repeat (first | (with_reducible first | exact HB.out | apply below_alloc | apply pw_below_drewN | apply below_drew1 | refine below_set ?_ GE101.out) | exact HB.out))));have n2_:=Aside0.mk (blk_below (g:=gb101) (o:=.cells #[.int .i64 a0_0,.int .i64 a0_1,.slice A0_2 l0_2.length c0_2] 37 (0,0)) (by (with_reducible repeat (first | refine blk_drewN ?_ _ | refine blk_drew ?_ | refine blk_alloc ?_ _));exact BK101.out) hb);have n3_:=Aside0.mk (below_step (by repeat (first | (with_reducible first | exact HB.out | apply below_alloc | apply pw_below_drewN | apply below_drew1 | refine below_set ?_ GE101.out) | exact HB.out)) hb);clear HO104;clear BK101;clear HB;have HO104:=n0_;have HO108:=n1_;have BK101:=n2_;have HB:=n3_;clear n0_ n1_ n2_ n3_;clear hb ho35;obtain ⟨Ao36,co36,eo36⟩:=Kd.R_slice HO108.out;subst eo36) | (go_at_call 39;(with_reducible refine (logs_within.calls 0 100000 _ _ y106 true _ ?side1 ?side2 A4.out).mono ?_);(case side1=>repeat (first | exact (Kd.R_reads' HO108.out).2.2 | (with_reducible refine Kd.C_alloc ?_ _) | (with_reducible refine Kd.C_drewN ?_ _) | (with_reducible refine Kd.C_drew ?_)));(case side2=>exact (Kd.R_reads' HO108.out).2.1);rintro e w37 ⟨rfl,hb⟩;have n0_:=Aside0.mk (Kd.R_below (by (with_reducible repeat (first | apply Kd.R_alloc | apply Kd.R_drewN | apply Kd.R_drew));exact HO104.out) hb);have n1_:=Aside0.mk (Kd.R_below (by (with_reducible repeat (first | apply Kd.R_alloc | apply Kd.R_drewN | apply Kd.R_drew));exact HO108.out) hb);have n2_:=Aside0.mk (blk_below (g:=gb101) (o:=.cells #[.int .i64 a0_0,.int .i64 a0_1,.slice A0_2 l0_2.length c0_2] 37 (0,0)) (by (with_reducible repeat (first | refine blk_drewN ?_ _ | refine blk_drew ?_ | refine blk_alloc ?_ _));exact BK101.out) hb);have n3_:=Aside0.mk (below_step (by repeat (first | (with_reducible first | exact HB.out | apply below_alloc | apply pw_below_drewN | apply below_drew1 | refine below_set ?_ GE101.out) | exact HB.out)) hb);clear HO104;clear HO108;clear BK101;clear HB;have HO104:=n0_;have HO108:=n1_;have BK101:=n2_;have HB:=n3_;clear n0_ n1_ n2_ n3_;(try clear hb);(try clear hb2);(try clear hk);(try clear hi);have hcz38_0:w37.cell? ⟨gb101,0,none⟩=some (.int .i64 a0_0):=(blk_cell BK101.out 0).trans rfl;have hcz38_1:w37.cell? ⟨gb101,1,none⟩=some (.int .i64 a0_1):=(blk_cell BK101.out 1).trans rfl;have hcz38_2:w37.cell? ⟨gb101,2,none⟩=some (.slice A0_2 l0_2.length c0_2):=(blk_cell BK101.out 2).trans rfl;have hfz38_0:=blk_frozen BK101.out 0;have hfz38_1:=blk_frozen BK101.out 1;have hfz38_2:=blk_frozen BK101.out 2) | ((with_reducible refine gate_dst (N:=17) rfl ?_);(try (refine gate_guard (by rfl) ?_;dsimp only));refine Kd.R_lit (Kd.int .i64) _ 3 ?hg (N:=17) ?hd (xs:=([(l0_2.length:Int)]:List Int)) (inner:=[.int .i64 (l0_2.length:Int)]) (ok:=fun _=>True) (okp:=fun _=>True) ?hr ?hp (fun _ hk=>hk) trivial (Below.refl _ _) (Nat.le_refl _) (by simp) ?_;(case hd=>rfl);(case hg=>rfl);(case hr=>first | (go_simp;done) | (go_simp;rfl));(case hp=>exact (Reps.one (show Kd.M (Kd.int .i64) _ _ _ (l0_2.length:Int) [.int .i64 (l0_2.length:Int)] from rfl) (Reps.none _ _)));intro v111 w39 ho40 hb hg_ hnew_;clear hg_ hnew_;(first | rw [← Ny110.out] at ho40 | (simp only [Int.reduceToNat] at ho40;rw [← Ny110.out] at ho40));have n0_:=Aside0.mk (Kd.R_elder' (by (with_reducible repeat (first | apply Kd.R_alloc | apply Kd.R_drewN | apply Kd.R_drew));exact HO104.out) (Kd.R_base ho40) hb);have n1_:=Aside0.mk (Kd.R_elder' (by (with_reducible repeat (first | apply Kd.R_alloc | apply Kd.R_drewN | apply Kd.R_drew));exact HO108.out) (Kd.R_base ho40) hb);have n2_:=Aside0.mk (Kd.R_lower (Kd.R_new' (Kd.R_new' ho40 (Kd.R_lt (by (with_reducible repeat (first | apply Kd.R_alloc | apply Kd.R_drewN | apply Kd.R_drew));exact HO104.out))) (Kd.R_lt (by (with_reducible repeat (first | apply Kd.R_alloc | apply Kd.R_drewN | apply Kd.R_drew));exact HO108.out))) (below_size (by repeat (first | (with_reducible first | exact HB.out | apply below_alloc | apply pw_below_drewN | apply below_drew1 | refine below_set ?_ GE101.out) | exact HB.out))));have n3_:=Aside0.mk (blk_below (g:=gb101) (o:=.cells #[.int .i64 a0_0,.int .i64 a0_1,.slice A0_2 l0_2.length c0_2] 37 (0,0)) (by (with_reducible repeat (first | refine blk_drewN ?_ _ | refine blk_drew ?_ | refine blk_alloc ?_ _));exact BK101.out) hb);have n4_:=Aside0.mk (below_step (by repeat (first | (with_reducible first | exact HB.out | apply below_alloc | apply pw_below_drewN | apply below_drew1 | refine below_set ?_ GE101.out) | exact HB.out)) hb);clear HO104;clear HO108;clear BK101;clear HB;have HO104:=n0_;have HO108:=n1_;have HO112:=n2_;have BK101:=n3_;have HB:=n4_;clear n0_ n1_ n2_ n3_ n4_;clear hb ho40;obtain ⟨Ao41,co41,eo41⟩:=Kd.R_slice HO112.out;subst eo41) | (go_at_call 39;(with_reducible refine (logs_within.calls 1 24 _ _ y110 false _ ?side1 ?side2 A6.out).mono ?_);(case side1=>repeat (first | exact (Kd.R_reads' HO112.out).2.2 | (with_reducible refine Kd.C_alloc ?_ _) | (with_reducible refine Kd.C_drewN ?_ _) | (with_reducible refine Kd.C_drew ?_)));(case side2=>exact (Kd.R_reads' HO112.out).2.1);rintro e w42 ⟨rfl,hb⟩;have n0_:=Aside0.mk (Kd.R_below (by (with_reducible repeat (first | apply Kd.R_alloc | apply Kd.R_drewN | apply Kd.R_drew));exact HO104.out) hb);have n1_:=Aside0.mk (Kd.R_below (by (with_reducible repeat (first | apply Kd.R_alloc | apply Kd.R_drewN | apply Kd.R_drew));exact HO108.out) hb);have n2_:=Aside0.mk (Kd.R_below (by (with_reducible repeat (first | apply Kd.R_alloc | apply Kd.R_drewN | apply Kd.R_drew));exact HO112.out) hb);have n3_:=Aside0.mk (blk_below (g:=gb101) (o:=.cells #[.int .i64 a0_0,.int .i64 a0_1,.slice A0_2 l0_2.length c0_2] 37 (0,0)) (by (with_reducible repeat (first | refine blk_drewN ?_ _ | refine blk_drew ?_ | refine blk_alloc ?_ _));exact BK101.out) hb);have n4_:=Aside0.mk (below_step (by repeat (first | (with_reducible first | exact HB.out | apply below_alloc | apply pw_below_drewN | apply below_drew1 | refine below_set ?_ GE101.out) | exact HB.out)) hb);clear HO104;clear HO108;clear HO112;clear BK101;clear HB;have HO104:=n0_;have HO108:=n1_;have HO112:=n2_;have BK101:=n3_;have HB:=n4_;clear n0_ n1_ n2_ n3_ n4_;(try clear hb);(try clear hb2);(try clear hk);(try clear hi)))
    go_ret
    exact ⟨by first | rfl | (simp [errW_none,errW_some] <;> rfl) | (simp [*,errW_none,errW_some] <;> rfl),by repeat (first | (with_reducible first | exact HB.out | apply below_alloc | apply pw_below_drewN | apply below_drew1 | refine below_set ?_ GE101.out) | exact HB.out)⟩
  ·replace c5:=Bool.eq_false_iff.mpr c5
   subst c5
   have H1:(some false)=some r:=by rw [if_neg (show ¬ (false=true) by decide)] at H;exact H
   clear H
   have H:=H1
   clear H1
   obtain rfl:=Option.some.inj H
   go_enter Tryz.func63,Tryz.ntmps63
   go_wp2_with (first | ((with_reducible refine gate_dst (N:=1) rfl ?_);(try (refine gate_guard (by rfl) ?_;dsimp only));refine box_event ?hg (N:=1) ?hd (cs:=#[.int .i64 a0_0,.int .i64 a0_1,.slice A0_2 l0_2.length c0_2]) (t:=37) ?hr ?_;(case hd=>rfl);(case hg=>rfl);(case hr=>first | (go_simp;done) | (go_simp;rfl));intro gb101 hg w43 hbox hb;have n0_:=Aside0.mk (below_step (by repeat (first | (with_reducible first | exact HB.out | apply below_alloc | apply pw_below_drewN | apply below_drew1) | exact HB.out)) hb);have n1_:=Aside0.mk (hbox);have n2_:=Aside0.mk ((by rw [hg];exact (below_size (by repeat (first | (with_reducible first | exact HB.out | apply below_alloc | apply pw_below_drewN | apply below_drew1) | exact HB.out))):w.heap.size ≤ gb101));have n3_:=Aside0.mk ((by rw [hg];exact (below_size (by repeat (first | (with_reducible first | exact HB.out | apply below_alloc | apply pw_below_drewN | apply below_drew1) | exact HB.out))):w.heap.size ≤ gb101));clear HB;have HB:=n0_;have BK101:=n1_;have GW101:=n2_;have GE101:=n3_;clear n0_ n1_ n2_ n3_;clear hb hbox hg;have hcz44_0:w43.cell? ⟨gb101,0,none⟩=some (.int .i64 a0_0):=(blk_cell BK101.out 0).trans rfl;have hcz44_1:w43.cell? ⟨gb101,1,none⟩=some (.int .i64 a0_1):=(blk_cell BK101.out 1).trans rfl;have hcz44_2:w43.cell? ⟨gb101,2,none⟩=some (.slice A0_2 l0_2.length c0_2):=(blk_cell BK101.out 2).trans rfl;have hfz44_0:=blk_frozen BK101.out 0;have hfz44_1:=blk_frozen BK101.out 1;have hfz44_2:=blk_frozen BK101.out 2) | ((with_reducible refine gate_dst (N:=5) rfl ?_);(try (refine gate_guard (by rfl) ?_;dsimp only));refine Kd.R_lit (Kd.int .i64) _ 3 ?hg (N:=5) ?hd (xs:=([a0_0]:List Int)) (inner:=[.int .i64 a0_0]) (ok:=fun _=>True) (okp:=fun _=>True) ?hr ?hp (fun _ hk=>hk) trivial (Below.refl _ _) (Nat.le_refl _) (by simp) ?_;(case hd=>rfl);(case hg=>rfl);(case hr=>first | (go_simp;done) | (go_simp;rfl));(case hp=>exact (Reps.one (show Kd.M (Kd.int .i64) _ _ _ a0_0 [.int .i64 a0_0] from rfl) (Reps.none _ _)));intro v103 w45 ho46 hb hg_ hnew_;clear hg_ hnew_;(first | rw [← Ny102.out] at ho46 | (simp only [Int.reduceToNat] at ho46;rw [← Ny102.out] at ho46));have n0_:=Aside0.mk (Kd.R_lower ho46 (below_size (by repeat (first | (with_reducible first | exact HB.out | apply below_alloc | apply pw_below_drewN | apply below_drew1 | refine below_set ?_ GE101.out) | exact HB.out))));have n1_:=Aside0.mk (blk_below (g:=gb101) (o:=.cells #[.int .i64 a0_0,.int .i64 a0_1,.slice A0_2 l0_2.length c0_2] 37 (0,0)) (by (with_reducible repeat (first | refine blk_drewN ?_ _ | refine blk_drew ?_ | refine blk_alloc ?_ _));exact BK101.out) hb);have n2_:=Aside0.mk (below_step (by repeat (first | (with_reducible first | exact HB.out | apply below_alloc | apply pw_below_drewN | apply below_drew1 | refine below_set ?_ GE101.out) | exact HB.out)) hb);clear BK101;clear HB;have HO104:=n0_;have BK101:=n1_;have HB:=n2_;clear n0_ n1_ n2_;clear hb ho46;obtain ⟨Ao47,co47,eo47⟩:=Kd.R_slice HO104.out;subst eo47) | ((with_reducible refine gate_callee (f:=39) rfl ?_);refine goesL_ (some 6) rfl rfl Tryz.func39 (by kernel_rfl) rfl #[.int .i64 0,.int .i64 99,.slice Ao47 y102.length co47] rfl (by (try simp only [List.map_toArray,List.map_cons,List.map_nil]);first | done | rfl | (simp only [List.length_drop,List.length_take];rfl)) ?_;(with_reducible refine (logs_within.calls 0 99 _ _ y102 true _ ?side1 ?side2 A2.out).mono ?_);(case side1=>repeat (first | exact (Kd.R_reads' HO104.out).2.2 | (with_reducible refine Kd.C_alloc ?_ _) | (with_reducible refine Kd.C_drewN ?_ _) | (with_reducible refine Kd.C_drew ?_)));(case side2=>exact (Kd.R_reads' HO104.out).2.1);rintro e w48 ⟨rfl,hb⟩;refine ⟨_,rfl,?_⟩;have n0_:=Aside0.mk (Kd.R_below (by (with_reducible repeat (first | apply Kd.R_alloc | apply Kd.R_drewN | apply Kd.R_drew));exact HO104.out) hb);have n1_:=Aside0.mk (blk_below (g:=gb101) (o:=.cells #[.int .i64 a0_0,.int .i64 a0_1,.slice A0_2 l0_2.length c0_2] 37 (0,0)) (by (with_reducible repeat (first | refine blk_drewN ?_ _ | refine blk_drew ?_ | refine blk_alloc ?_ _));exact BK101.out) hb);have n2_:=Aside0.mk (below_step (by repeat (first | (with_reducible first | exact HB.out | apply below_alloc | apply pw_below_drewN | apply below_drew1 | refine below_set ?_ GE101.out) | exact HB.out)) hb);clear HO104;clear BK101;clear HB;have HO104:=n0_;have BK101:=n1_;have HB:=n2_;clear n0_ n1_ n2_;(try clear hb);(try clear hb2);(try clear hk);(try clear hi);have hcz49_0:w48.cell? ⟨gb101,0,none⟩=some (.int .i64 a0_0):=(blk_cell BK101.out 0).trans rfl;have hcz49_1:w48.cell? ⟨gb101,1,none⟩=some (.int .i64 a0_1):=(blk_cell BK101.out 1).trans rfl;have hcz49_2:w48.cell? ⟨gb101,2,none⟩=some (.slice A0_2 l0_2.length c0_2):=(blk_cell BK101.out 2).trans rfl;have hfz49_0:=blk_frozen BK101.out 0;have hfz49_1:=blk_frozen BK101.out 1;have hfz49_2:=blk_frozen BK101.out 2) | ((with_reducible refine gate_dst (N:=10) rfl ?_);(try (refine gate_guard (by rfl) ?_;dsimp only));refine Kd.R_lit (Kd.int .i64) _ 3 ?hg (N:=10) ?hd (xs:=([a0_1]:List Int)) (inner:=[.int .i64 a0_1]) (ok:=fun _=>True) (okp:=fun _=>True) ?hr ?hp (fun _ hk=>hk) trivial (Below.refl _ _) (Nat.le_refl _) (by simp) ?_;(case hd=>rfl);(case hg=>rfl);(case hr=>first | (go_simp;done) | (go_simp;rfl));(case hp=>exact (Reps.one (show Kd.M (Kd.int .i64) _ _ _ a0_1 [.int .i64 a0_1] from rfl) (Reps.none _ _)));intro v107 w50 ho51 hb hg_ hnew_;clear hg_ hnew_;(first | rw [← Ny106.out] at ho51 | (simp only [Int.reduceToNat] at ho51;rw [← Ny106.out] at ho51));have n0_:=Aside0.mk (Kd.R_elder' (by (with_reducible repeat (first | apply Kd.R_alloc | apply Kd.R_drewN | apply Kd.R_drew));exact HO104.out) (Kd.R_base ho51) hb);have n1_:=Aside0.mk (Kd.R_lower (Kd.R_new' ho51 (Kd.R_lt (by (with_reducible repeat (first | apply Kd.R_alloc | apply Kd.R_drewN | apply Kd.R_drew));exact HO104.out))) (below_size (by repeat (first | (with_reducible first | exact HB.out | apply below_alloc | apply pw_below_drewN | apply below_drew1 | refine below_set ?_ GE101.out) | exact HB.out))));have n2_:=Aside0.mk (blk_below (g:=gb101) (o:=.cells #[.int .i64 a0_0,.int .i64 a0_1,.slice A0_2 l0_2.length c0_2] 37 (0,0)) (by (with_reducible repeat (first | refine blk_drewN ?_ _ | refine blk_drew ?_ | refine blk_alloc ?_ _));exact BK101.out) hb);have n3_:=Aside0.mk (below_step (by repeat (first | (with_reducible first | exact HB.out | apply below_alloc | apply pw_below_drewN | apply below_drew1 | refine below_set ?_ GE101.out) | exact HB.out)) hb);clear HO104;clear BK101;clear HB;have HO104:=n0_;have HO108:=n1_;have BK101:=n2_;have HB:=n3_;clear n0_ n1_ n2_ n3_;clear hb ho51;obtain ⟨Ao52,co52,eo52⟩:=Kd.R_slice HO108.out;subst eo52) | (go_at_call 39;(with_reducible refine (logs_within.calls 0 100000 _ _ y106 false _ ?side1 ?side2 A4.out).mono ?_);(case side1=>repeat (first | exact (Kd.R_reads' HO108.out).2.2 | (with_reducible refine Kd.C_alloc ?_ _) | (with_reducible refine Kd.C_drewN ?_ _) | (with_reducible refine Kd.C_drew ?_)));(case side2=>exact (Kd.R_reads' HO108.out).2.1);rintro e w53 ⟨rfl,hb⟩;have n0_:=Aside0.mk (Kd.R_below (by (with_reducible repeat (first | apply Kd.R_alloc | apply Kd.R_drewN | apply Kd.R_drew));exact HO104.out) hb);have n1_:=Aside0.mk (Kd.R_below (by (with_reducible repeat (first | apply Kd.R_alloc | apply Kd.R_drewN | apply Kd.R_drew));exact HO108.out) hb);have n2_:=Aside0.mk (blk_below (g:=gb101) (o:=.cells #[.int .i64 a0_0,.int .i64 a0_1,.slice A0_2 l0_2.length c0_2] 37 (0,0)) (by (with_reducible repeat (first | refine blk_drewN ?_ _ | refine blk_drew ?_ | refine blk_alloc ?_ _));exact BK101.out) hb);have n3_:=Aside0.mk (below_step (by repeat (first | (with_reducible first | exact HB.out | apply below_alloc | apply pw_below_drewN | apply below_drew1 | refine below_set ?_ GE101.out) | exact HB.out)) hb);clear HO104;clear HO108;clear BK101;clear HB;have HO104:=n0_;have HO108:=n1_;have BK101:=n2_;have HB:=n3_;clear n0_ n1_ n2_ n3_;(try clear hb);(try clear hb2);(try clear hk);(try clear hi)))
   go_ret
   exact ⟨by first | rfl | (simp [errW_none,errW_some] <;> rfl) | (simp [*,errW_none,errW_some] <;> rfl),by repeat (first | (with_reducible first | exact HB.out | apply below_alloc | apply pw_below_drewN | apply below_drew1 | refine below_set ?_ GE101.out) | exact HB.out)⟩
 ·replace c3:=Bool.eq_false_iff.mpr c3
  subst c3
  have H1:(some false)=some r:=by rw [if_neg (show ¬ (false=true) by decide)] at H;exact H
  clear H
  have H:=H1
  clear H1
  obtain rfl:=Option.some.inj H
  go_enter Tryz.func63,Tryz.ntmps63
  go_wp2_with (first | ((with_reducible refine gate_dst (N:=1) rfl ?_);(try (refine gate_guard (by rfl) ?_;dsimp only));refine box_event ?hg (N:=1) ?hd (cs:=#[.int .i64 a0_0,.int .i64 a0_1,.slice A0_2 l0_2.length c0_2]) (t:=37) ?hr ?_;(case hd=>rfl);(case hg=>rfl);(case hr=>first | (go_simp;done) | (go_simp;rfl));intro gb101 hg w54 hbox hb;have n0_:=Aside0.mk (below_step (by repeat (first | (with_reducible first | exact HB.out | apply below_alloc | apply pw_below_drewN | apply below_drew1) | exact HB.out)) hb);have n1_:=Aside0.mk (hbox);have n2_:=Aside0.mk ((by rw [hg];exact (below_size (by repeat (first | (with_reducible first | exact HB.out | apply below_alloc | apply pw_below_drewN | apply below_drew1) | exact HB.out))):w.heap.size ≤ gb101));have n3_:=Aside0.mk ((by rw [hg];exact (below_size (by repeat (first | (with_reducible first | exact HB.out | apply below_alloc | apply pw_below_drewN | apply below_drew1) | exact HB.out))):w.heap.size ≤ gb101));clear HB;have HB:=n0_;have BK101:=n1_;have GW101:=n2_;have GE101:=n3_;clear n0_ n1_ n2_ n3_;clear hb hbox hg;have hcz55_0:w54.cell? ⟨gb101,0,none⟩=some (.int .i64 a0_0):=(blk_cell BK101.out 0).trans rfl;have hcz55_1:w54.cell? ⟨gb101,1,none⟩=some (.int .i64 a0_1):=(blk_cell BK101.out 1).trans rfl;have hcz55_2:w54.cell? ⟨gb101,2,none⟩=some (.slice A0_2 l0_2.length c0_2):=(blk_cell BK101.out 2).trans rfl;have hfz55_0:=blk_frozen BK101.out 0;have hfz55_1:=blk_frozen BK101.out 1;have hfz55_2:=blk_frozen BK101.out 2) | ((with_reducible refine gate_dst (N:=5) rfl ?_);(try (refine gate_guard (by rfl) ?_;dsimp only));refine Kd.R_lit (Kd.int .i64) _ 3 ?hg (N:=5) ?hd (xs:=([a0_0]:List Int)) (inner:=[.int .i64 a0_0]) (ok:=fun _=>True) (okp:=fun _=>True) ?hr ?hp (fun _ hk=>hk) trivial (Below.refl _ _) (Nat.le_refl _) (by simp) ?_;(case hd=>rfl);(case hg=>rfl);(case hr=>first | (go_simp;done) | (go_simp;rfl));(case hp=>exact (Reps.one (show Kd.M (Kd.int .i64) _ _ _ a0_0 [.int .i64 a0_0] from rfl) (Reps.none _ _)));intro v103 w56 ho57 hb hg_ hnew_;clear hg_ hnew_;(first | rw [← Ny102.out] at ho57 | (simp only [Int.reduceToNat] at ho57;rw [← Ny102.out] at ho57));have n0_:=Aside0.mk (Kd.R_lower ho57 (below_size (by repeat (first | (with_reducible first | exact HB.out | apply below_alloc | apply pw_below_drewN | apply below_drew1 | refine below_set ?_ GE101.out) | exact HB.out))));have n1_:=Aside0.mk (blk_below (g:=gb101) (o:=.cells #[.int .i64 a0_0,.int .i64 a0_1,.slice A0_2 l0_2.length c0_2] 37 (0,0)) (by (with_reducible repeat (first | refine blk_drewN ?_ _ | refine blk_drew ?_ | refine blk_alloc ?_ _));exact BK101.out) hb);have n2_:=Aside0.mk (below_step (by repeat (first | (with_reducible first | exact HB.out | apply below_alloc | apply pw_below_drewN | apply below_drew1 | refine below_set ?_ GE101.out) | exact HB.out)) hb);clear BK101;clear HB;have HO104:=n0_;have BK101:=n1_;have HB:=n2_;clear n0_ n1_ n2_;clear hb ho57;obtain ⟨Ao58,co58,eo58⟩:=Kd.R_slice HO104.out;subst eo58) | ((with_reducible refine gate_callee (f:=39) rfl ?_);refine goesL_ (some 6) rfl rfl Tryz.func39 (by kernel_rfl) rfl #[.int .i64 0,.int .i64 99,.slice Ao58 y102.length co58] rfl (by (try simp only [List.map_toArray,List.map_cons,List.map_nil]);first | done | rfl | (simp only [List.length_drop,List.length_take];rfl)) ?_;(with_reducible refine (logs_within.calls 0 99 _ _ y102 false _ ?side1 ?side2 A2.out).mono ?_);(case side1=>repeat (first | exact (Kd.R_reads' HO104.out).2.2 | (with_reducible refine Kd.C_alloc ?_ _) | (with_reducible refine Kd.C_drewN ?_ _) | (with_reducible refine Kd.C_drew ?_)));(case side2=>exact (Kd.R_reads' HO104.out).2.1);rintro e w59 ⟨rfl,hb⟩;refine ⟨_,rfl,?_⟩;have n0_:=Aside0.mk (Kd.R_below (by (with_reducible repeat (first | apply Kd.R_alloc | apply Kd.R_drewN | apply Kd.R_drew));exact HO104.out) hb);have n1_:=Aside0.mk (blk_below (g:=gb101) (o:=.cells #[.int .i64 a0_0,.int .i64 a0_1,.slice A0_2 l0_2.length c0_2] 37 (0,0)) (by (with_reducible repeat (first | refine blk_drewN ?_ _ | refine blk_drew ?_ | refine blk_alloc ?_ _));exact BK101.out) hb);have n2_:=Aside0.mk (below_step (by repeat (first | (with_reducible first | exact HB.out | apply below_alloc | apply pw_below_drewN | apply below_drew1 | refine below_set ?_ GE101.out) | exact HB.out)) hb);clear HO104;clear BK101;clear HB;have HO104:=n0_;have BK101:=n1_;have HB:=n2_;clear n0_ n1_ n2_;(try clear hb);(try clear hb2);(try clear hk);(try clear hi)))
  go_ret
  exact ⟨by first | rfl | (simp [errW_none,errW_some] <;> rfl) | (simp [*,errW_none,errW_some] <;> rfl),by repeat (first | (with_reducible first | exact HB.out | apply below_alloc | apply pw_below_drewN | apply below_drew1 | refine below_set ?_ GE101.out) | exact HB.out)⟩
def logs_gaugeAfter.f (a0_0:Int) (a0_1:Int) (l0_2:List Int) (a1_0:Int) (a1_1:Int) (l1_2:List Int):Option (Bool):=if a1_0 > a0_0 then (some true) else (if a1_0=a0_0 then (some (decide (a1_1 ≥ (wrap64 (a0_1 + (l0_2.length:Int)))))) else (some false))
set_option maxHeartbeats 8000000 in
set_option maxRecDepth 100000 in
theorem logs_gaugeAfter.calls (a0_0:Int) (a0_1:Int) (A0_2:Option Addr) (c0_2:Nat) (l0_2:List Int) (a1_0:Int) (a1_1:Int) (A1_2:Option Addr) (c1_2:Nat) (l1_2:List Int) (r:Bool) (w:World) (hr0_2:Kd.C (Kd.int .i64) w A0_2 l0_2.length l0_2) (hc0_2:l0_2.length ≤ c0_2) (hr1_2:Kd.C (Kd.int .i64) w A1_2 l1_2.length l1_2) (hc1_2:l1_2.length ≤ c1_2) (h:logs_gaugeAfter.f a0_0 a0_1 l0_2 a1_0 a1_1 l1_2=some r) :
  Calls Tryz.prog 64 #[.agg #[.int .i64 a0_0,.int .i64 a0_1,.slice A0_2 l0_2.length c0_2],.agg #[.int .i64 a1_0,.int .i64 a1_1,.slice A1_2 l1_2.length c1_2]] w fun e w'=>e=.returned (.bool r) ∧ Below w.heap.size w w':=by
 have hu37:=Tryz.underlying37
 have HR0_2:=Aside0.mk hr0_2
 have HC0_2:=Aside0.mk hc0_2
 clear hr0_2 hc0_2
 have HR1_2:=Aside0.mk hr1_2
 have HC1_2:=Aside0.mk hc1_2
 clear hr1_2 hc1_2
 have HB:=Aside0.mk (Below.refl w.heap.size w)
 have H:(if a1_0 > a0_0 then (some true) else (if a1_0=a0_0 then (some (decide (a1_1 ≥ (wrap64 (a0_1 + (l0_2.length:Int)))))) else (some false)))=some r:=h
 clear h
 by_cases c3:a1_0 > a0_0
 ·rw [if_pos c3] at H
  have c3b0:decide (a0_0 < a1_0)=true:=decide_eq_true c3
  clear c3
  obtain rfl:=Option.some.inj H
  go_enter Tryz.func64,Tryz.ntmps64
  go_wp2_with (first | ((with_reducible refine gate_dst (N:=2) rfl ?_);(try (refine gate_guard (by rfl) ?_;dsimp only));refine box_event ?hg (N:=2) ?hd (cs:=#[.int .i64 a0_0,.int .i64 a0_1,.slice A0_2 l0_2.length c0_2]) (t:=37) ?hr ?_;(case hd=>rfl);(case hg=>rfl);(case hr=>first | (go_simp;done) | (go_simp;rfl));intro gb115 hg w4 hbox hb;have n0_:=Aside0.mk (below_step (by repeat (first | (with_reducible first | exact HB.out | apply below_alloc | apply pw_below_drewN | apply below_drew1) | exact HB.out)) hb);have n1_:=Aside0.mk (hbox);have n2_:=Aside0.mk ((by rw [hg];exact (below_size (by repeat (first | (with_reducible first | exact HB.out | apply below_alloc | apply pw_below_drewN | apply below_drew1) | exact HB.out))):w.heap.size ≤ gb115));have n3_:=Aside0.mk ((by rw [hg];exact (below_size (by repeat (first | (with_reducible first | exact HB.out | apply below_alloc | apply pw_below_drewN | apply below_drew1) | exact HB.out))):w.heap.size ≤ gb115));clear HB;have HB:=n0_;have BK115:=n1_;have GW115:=n2_;have GE115:=n3_;clear n0_ n1_ n2_ n3_;clear hb hbox hg) | ((with_reducible refine gate_dst (N:=3) rfl ?_);(try (refine gate_guard (by rfl) ?_;dsimp only));refine box_event ?hg (N:=3) ?hd (cs:=#[.int .i64 a1_0,.int .i64 a1_1,.slice A1_2 l1_2.length c1_2]) (t:=37) ?hr ?_;(case hd=>rfl);(case hg=>rfl);(case hr=>first | (go_simp;done) | (go_simp;rfl));intro gb116 hg w5 hbox hb;have n0_:=Aside0.mk (blk_below (g:=gb115) (o:=.cells #[.int .i64 a0_0,.int .i64 a0_1,.slice A0_2 l0_2.length c0_2] 37 (0,0)) (by (with_reducible repeat (first | refine blk_drewN ?_ _ | refine blk_drew ?_ | refine blk_alloc ?_ _));exact BK115.out) hb);have n1_:=Aside0.mk (below_step (by repeat (first | (with_reducible first | exact HB.out | apply below_alloc | apply pw_below_drewN | apply below_drew1 | refine below_set ?_ GE115.out) | exact HB.out)) hb);have n2_:=Aside0.mk (hbox);have n3_:=Aside0.mk ((by rw [hg];exact (below_size (by repeat (first | (with_reducible first | exact HB.out | apply below_alloc | apply pw_below_drewN | apply below_drew1 | refine below_set ?_ GE115.out) | exact HB.out))):w.heap.size ≤ gb116));have n4_:=Aside0.mk ((by rw [hg];exact (below_size (by repeat (first | (with_reducible first | exact HB.out | apply below_alloc | apply pw_below_drewN | apply below_drew1 | refine below_set ?_ GE115.out) | exact HB.out))):w.heap.size ≤ gb116));have n5_:=Aside0.mk ((by rw [hg];exact Nat.ne_of_lt (blk_lt (g:=gb115) (o:=.cells #[.int .i64 a0_0,.int .i64 a0_1,.slice A0_2 l0_2.length c0_2] 37 (0,0)) (by (with_reducible repeat (first | refine blk_drewN ?_ _ | refine blk_drew ?_ | refine blk_alloc ?_ _));exact BK115.out)):gb115 ≠ gb116));have n6_:=Aside0.mk ((by rw [hg];exact Nat.ne_of_gt (blk_lt (g:=gb115) (o:=.cells #[.int .i64 a0_0,.int .i64 a0_1,.slice A0_2 l0_2.length c0_2] 37 (0,0)) (by (with_reducible repeat (first | refine blk_drewN ?_ _ | refine blk_drew ?_ | refine blk_alloc ?_ _));exact BK115.out)):gb116 ≠ gb115));clear BK115;clear HB;have BK115:=n0_;have HB:=n1_;have BK116:=n2_;have GW116:=n3_;have GE116:=n4_;have NB115_116:=n5_;have NB116_115:=n6_;clear n0_ n1_ n2_ n3_ n4_ n5_ n6_;clear hb hbox hg;have hnb6:=NB116_115.out;have hnc6:=NB115_116.out;have hcz7_0:w5.cell? ⟨gb116,0,none⟩=some (.int .i64 a1_0):=(blk_cell BK116.out 0).trans rfl;have hcz7_1:w5.cell? ⟨gb116,1,none⟩=some (.int .i64 a1_1):=(blk_cell BK116.out 1).trans rfl;have hcz7_2:w5.cell? ⟨gb116,2,none⟩=some (.slice A1_2 l1_2.length c1_2):=(blk_cell BK116.out 2).trans rfl;have hfz7_0:=blk_frozen BK116.out 0;have hfz7_1:=blk_frozen BK116.out 1;have hfz7_2:=blk_frozen BK116.out 2;have hcz8_0:w5.cell? ⟨gb115,0,none⟩=some (.int .i64 a0_0):=(blk_cell BK115.out 0).trans rfl;have hcz8_1:w5.cell? ⟨gb115,1,none⟩=some (.int .i64 a0_1):=(blk_cell BK115.out 1).trans rfl;have hcz8_2:w5.cell? ⟨gb115,2,none⟩=some (.slice A0_2 l0_2.length c0_2):=(blk_cell BK115.out 2).trans rfl;have hfz8_0:=blk_frozen BK115.out 0;have hfz8_1:=blk_frozen BK115.out 1;have hfz8_2:=blk_frozen BK115.out 2))
  go_ret
  exact ⟨by first | rfl | (simp [errW_none,errW_some] <;> rfl) | (simp [*,errW_none,errW_some] <;> rfl),by repeat (first | (with_reducible first | exact HB.out | apply below_alloc | apply pw_below_drewN | apply below_drew1 | refine below_set ?_ GE115.out | refine below_set ?_ GE116.out) | exact HB.out)⟩
 ·rw [if_neg c3] at H
  have c3b0:decide (a0_0 < a1_0)=false:=decide_eq_false c3
  clear c3
  by_cases c9:a1_0=a0_0
  ·rw [if_pos c9] at H
   have c9b0:(a1_0 == a0_0)=true:=beq_iff_eq.mpr c9
   have c9b1:(a1_0 != a0_0)=false:=bne_eq_false_iff_eq.mpr c9
   clear c9
   obtain rfl:=Option.some.inj H
   go_enter Tryz.func64,Tryz.ntmps64
   go_wp2_with (first | ((with_reducible refine gate_dst (N:=2) rfl ?_);(try (refine gate_guard (by rfl) ?_;dsimp only));refine box_event ?hg (N:=2) ?hd (cs:=#[.int .i64 a0_0,.int .i64 a0_1,.slice A0_2 l0_2.length c0_2]) (t:=37) ?hr ?_;(case hd=>rfl);(case hg=>rfl);(case hr=>first | (go_simp;done) | (go_simp;rfl));intro gb115 hg w10 hbox hb;have n0_:=Aside0.mk (below_step (by repeat (first | (with_reducible first | exact HB.out | apply below_alloc | apply pw_below_drewN | apply below_drew1) | exact HB.out)) hb);have n1_:=Aside0.mk (hbox);have n2_:=Aside0.mk ((by rw [hg];exact (below_size (by repeat (first | (with_reducible first | exact HB.out | apply below_alloc | apply pw_below_drewN | apply below_drew1) | exact HB.out))):w.heap.size ≤ gb115));have n3_:=Aside0.mk ((by rw [hg];exact (below_size (by repeat (first | (with_reducible first | exact HB.out | apply below_alloc | apply pw_below_drewN | apply below_drew1) | exact HB.out))):w.heap.size ≤ gb115));clear HB;have HB:=n0_;have BK115:=n1_;have GW115:=n2_;have GE115:=n3_;clear n0_ n1_ n2_ n3_;clear hb hbox hg) | ((with_reducible refine gate_dst (N:=3) rfl ?_);(try (refine gate_guard (by rfl) ?_;dsimp only));refine box_event ?hg (N:=3) ?hd (cs:=#[.int .i64 a1_0,.int .i64 a1_1,.slice A1_2 l1_2.length c1_2]) (t:=37) ?hr ?_;(case hd=>rfl);(case hg=>rfl);(case hr=>first | (go_simp;done) | (go_simp;rfl));intro gb116 hg w11 hbox hb;have n0_:=Aside0.mk (blk_below (g:=gb115) (o:=.cells #[.int .i64 a0_0,.int .i64 a0_1,.slice A0_2 l0_2.length c0_2] 37 (0,0)) (by (with_reducible repeat (first | refine blk_drewN ?_ _ | refine blk_drew ?_ | refine blk_alloc ?_ _));exact BK115.out) hb);have n1_:=Aside0.mk (below_step (by repeat (first | (with_reducible first | exact HB.out | apply below_alloc | apply pw_below_drewN | apply below_drew1 | refine below_set ?_ GE115.out) | exact HB.out)) hb);have n2_:=Aside0.mk (hbox);have n3_:=Aside0.mk ((by rw [hg];exact (below_size (by repeat (first | (with_reducible first | exact HB.out | apply below_alloc | apply pw_below_drewN | apply below_drew1 | refine below_set ?_ GE115.out) | exact HB.out))):w.heap.size ≤ gb116));have n4_:=Aside0.mk ((by rw [hg];exact (below_size (by repeat (first | (with_reducible first | exact HB.out | apply below_alloc | apply pw_below_drewN | apply below_drew1 | refine below_set ?_ GE115.out) | exact HB.out))):w.heap.size ≤ gb116));have n5_:=Aside0.mk ((by rw [hg];exact Nat.ne_of_lt (blk_lt (g:=gb115) (o:=.cells #[.int .i64 a0_0,.int .i64 a0_1,.slice A0_2 l0_2.length c0_2] 37 (0,0)) (by (with_reducible repeat (first | refine blk_drewN ?_ _ | refine blk_drew ?_ | refine blk_alloc ?_ _));exact BK115.out)):gb115 ≠ gb116));have n6_:=Aside0.mk ((by rw [hg];exact Nat.ne_of_gt (blk_lt (g:=gb115) (o:=.cells #[.int .i64 a0_0,.int .i64 a0_1,.slice A0_2 l0_2.length c0_2] 37 (0,0)) (by (with_reducible repeat (first | refine blk_drewN ?_ _ | refine blk_drew ?_ | refine blk_alloc ?_ _));exact BK115.out)):gb116 ≠ gb115));clear BK115;clear HB;have BK115:=n0_;have HB:=n1_;have BK116:=n2_;have GW116:=n3_;have GE116:=n4_;have NB115_116:=n5_;have NB116_115:=n6_;clear n0_ n1_ n2_ n3_ n4_ n5_ n6_;clear hb hbox hg;have hnb12:=NB116_115.out;have hnc12:=NB115_116.out;have hcz13_0:w11.cell? ⟨gb116,0,none⟩=some (.int .i64 a1_0):=(blk_cell BK116.out 0).trans rfl;have hcz13_1:w11.cell? ⟨gb116,1,none⟩=some (.int .i64 a1_1):=(blk_cell BK116.out 1).trans rfl;have hcz13_2:w11.cell? ⟨gb116,2,none⟩=some (.slice A1_2 l1_2.length c1_2):=(blk_cell BK116.out 2).trans rfl;have hfz13_0:=blk_frozen BK116.out 0;have hfz13_1:=blk_frozen BK116.out 1;have hfz13_2:=blk_frozen BK116.out 2;have hcz14_0:w11.cell? ⟨gb115,0,none⟩=some (.int .i64 a0_0):=(blk_cell BK115.out 0).trans rfl;have hcz14_1:w11.cell? ⟨gb115,1,none⟩=some (.int .i64 a0_1):=(blk_cell BK115.out 1).trans rfl;have hcz14_2:w11.cell? ⟨gb115,2,none⟩=some (.slice A0_2 l0_2.length c0_2):=(blk_cell BK115.out 2).trans rfl;have hfz14_0:=blk_frozen BK115.out 0;have hfz14_1:=blk_frozen BK115.out 1;have hfz14_2:=blk_frozen BK115.out 2))
   go_ret
   exact ⟨by first | rfl | (simp [errW_none,errW_some] <;> rfl) | (simp [*,errW_none,errW_some] <;> rfl),by repeat (first | (with_reducible first | exact HB.out | apply below_alloc | apply pw_below_drewN | apply below_drew1 | refine below_set ?_ GE115.out | refine below_set ?_ GE116.out) | exact HB.out)⟩
  ·rw [if_neg c9] at H
   have c9b0:(a1_0 == a0_0)=false:=beq_eq_false_iff_ne.mpr c9
   have c9b1:(a1_0 != a0_0)=true:=bne_iff_ne.mpr c9
   obtain rfl:=Option.some.inj H
   go_enter Tryz.func64,Tryz.ntmps64
   go_wp2_with (first | ((with_reducible refine gate_dst (N:=2) rfl ?_);(try (refine gate_guard (by rfl) ?_;dsimp only));refine box_event ?hg (N:=2) ?hd (cs:=#[.int .i64 a0_0,.int .i64 a0_1,.slice A0_2 l0_2.length c0_2]) (t:=37) ?hr ?_;(case hd=>rfl);(case hg=>rfl);(case hr=>first | (go_simp;done) | (go_simp;rfl));intro gb115 hg w15 hbox hb;have n0_:=Aside0.mk (below_step (by repeat (first | (with_reducible first | exact HB.out | apply below_alloc | apply pw_below_drewN | apply below_drew1) | exact HB.out)) hb);have n1_:=Aside0.mk (hbox);have n2_:=Aside0.mk ((by rw [hg];exact (below_size (by repeat (first | (with_reducible first | exact HB.out | apply below_alloc | apply pw_below_drewN | apply below_drew1) | exact HB.out))):w.heap.size ≤ gb115));have n3_:=Aside0.mk ((by rw [hg];exact (below_size (by repeat (first | (with_reducible first | exact HB.out | apply below_alloc | apply pw_below_drewN | apply below_drew1) | exact HB.out))):w.heap.size ≤ gb115));clear HB;have HB:=n0_;have BK115:=n1_;have GW115:=n2_;have GE115:=n3_;clear n0_ n1_ n2_ n3_;clear hb hbox hg) | ((with_reducible refine gate_dst (N:=3) rfl ?_);(try (refine gate_guard (by rfl) ?_;dsimp only));refine box_event ?hg (N:=3) ?hd (cs:=#[.int .i64 a1_0,.int .i64 a1_1,.slice A1_2 l1_2.length c1_2]) (t:=37) ?hr ?_;(case hd=>rfl);(case hg=>rfl);(case hr=>first | (go_simp;done) | (go_simp;rfl));intro gb116 hg w16 hbox hb;have n0_:=Aside0.mk (blk_below (g:=gb115) (o:=.cells #[.int .i64 a0_0,.int .i64 a0_1,.slice A0_2 l0_2.length c0_2] 37 (0,0)) (by (with_reducible repeat (first | refine blk_drewN ?_ _ | refine blk_drew ?_ | refine blk_alloc ?_ _));exact BK115.out) hb);have n1_:=Aside0.mk (below_step (by repeat (first | (with_reducible first | exact HB.out | apply below_alloc | apply pw_below_drewN | apply below_drew1 | refine below_set ?_ GE115.out) | exact HB.out)) hb);have n2_:=Aside0.mk (hbox);have n3_:=Aside0.mk ((by rw [hg];exact (below_size (by repeat (first | (with_reducible first | exact HB.out | apply below_alloc | apply pw_below_drewN | apply below_drew1 | refine below_set ?_ GE115.out) | exact HB.out))):w.heap.size ≤ gb116));have n4_:=Aside0.mk ((by rw [hg];exact (below_size (by repeat (first | (with_reducible first | exact HB.out | apply below_alloc | apply pw_below_drewN | apply below_drew1 | refine below_set ?_ GE115.out) | exact HB.out))):w.heap.size ≤ gb116));have n5_:=Aside0.mk ((by rw [hg];exact Nat.ne_of_lt (blk_lt (g:=gb115) (o:=.cells #[.int .i64 a0_0,.int .i64 a0_1,.slice A0_2 l0_2.length c0_2] 37 (0,0)) (by (with_reducible repeat (first | refine blk_drewN ?_ _ | refine blk_drew ?_ | refine blk_alloc ?_ _));exact BK115.out)):gb115 ≠ gb116));have n6_:=Aside0.mk ((by rw [hg];exact Nat.ne_of_gt (blk_lt (g:=gb115) (o:=.cells #[.int .i64 a0_0,.int .i64 a0_1,.slice A0_2 l0_2.length c0_2] 37 (0,0)) (by (with_reducible repeat (first | refine blk_drewN ?_ _ | refine blk_drew ?_ | refine blk_alloc ?_ _));exact BK115.out)):gb116 ≠ gb115));clear BK115;clear HB;have BK115:=n0_;have HB:=n1_;have BK116:=n2_;have GW116:=n3_;have GE116:=n4_;have NB115_116:=n5_;have NB116_115:=n6_;clear n0_ n1_ n2_ n3_ n4_ n5_ n6_;clear hb hbox hg;have hnb17:=NB116_115.out;have hnc17:=NB115_116.out;have hcz18_0:w16.cell? ⟨gb116,0,none⟩=some (.int .i64 a1_0):=(blk_cell BK116.out 0).trans rfl;have hcz18_1:w16.cell? ⟨gb116,1,none⟩=some (.int .i64 a1_1):=(blk_cell BK116.out 1).trans rfl;have hcz18_2:w16.cell? ⟨gb116,2,none⟩=some (.slice A1_2 l1_2.length c1_2):=(blk_cell BK116.out 2).trans rfl;have hfz18_0:=blk_frozen BK116.out 0;have hfz18_1:=blk_frozen BK116.out 1;have hfz18_2:=blk_frozen BK116.out 2;have hcz19_0:w16.cell? ⟨gb115,0,none⟩=some (.int .i64 a0_0):=(blk_cell BK115.out 0).trans rfl;have hcz19_1:w16.cell? ⟨gb115,1,none⟩=some (.int .i64 a0_1):=(blk_cell BK115.out 1).trans rfl;have hcz19_2:w16.cell? ⟨gb115,2,none⟩=some (.slice A0_2 l0_2.length c0_2):=(blk_cell BK115.out 2).trans rfl;have hfz19_0:=blk_frozen BK115.out 0;have hfz19_1:=blk_frozen BK115.out 1;have hfz19_2:=blk_frozen BK115.out 2))
   go_ret
   exact ⟨by first | rfl | (simp [errW_none,errW_some] <;> rfl) | (simp [*,errW_none,errW_some] <;> rfl),by repeat (first | (with_reducible first | exact HB.out | apply below_alloc | apply pw_below_drewN | apply below_drew1 | refine below_set ?_ GE115.out | refine below_set ?_ GE116.out) | exact HB.out)⟩
def logs_gaugeLine.l0:Nat → List ByteArray → List Int → Int → Int → Int → Int → List Int → Option (ByteArray)
 | 0,_,_,_,_,_,_,_=>none
 | k + 1,x3,x21,x22,x23,x118000,x118001,x118002=>if x23 < x22 then (if 0 ≤ x23 then (if x23 < (x21.length:Int) then (if x23 < (x118002.length:Int) then ((strconv_Itoa.f (wrap64 ((rd x21 x23) - (rd x118002 x23)))).bind fun t128=>(if 0 < (t128.size:Int) then (if (bt t128 0)=45 then (if x3.length < 8796093022208 then (logs_gaugeLine.l0 k (x3 ++ [t128]) x21 x22 (wrap64 (x23 + 1)) x118000 x118001 x118002) else (none)) else (if 1 + t128.size ≤ 9223372036854775807 then (if x3.length < 8796093022208 then (logs_gaugeLine.l0 k (x3 ++ [(⟨#[43]⟩:ByteArray) ++ t128]) x21 x22 (wrap64 (x23 + 1)) x118000 x118001 x118002) else (none)) else (none))) else (none))) else (none)) else (none)) else (none)) else ((logs_sealed.f x3).bind fun t135=>(some t135))
def logs_gaugeLine.f (k:Nat) (a0_0:Int) (a0_1:Int) (l0_2:List Int):Option (ByteArray):=(strconv_Itoa.f a0_0).bind fun t118=>((strconv_Itoa.f a0_1).bind fun t119=>(if 0 < (l0_2.length:Int) then ((strconv_Itoa.f (rd l0_2 0)).bind fun t121=>(if 1 ≤ (l0_2.length:Int) then (logs_gaugeLine.l0 k (([t118,t119,t121]:List ByteArray)) (l0_2.drop 1) ((l0_2.drop 1).length:Int) 0 a0_0 a0_1 l0_2) else (none))) else (none)))
def logs_gaugeLine.T1:Bool × List (List Nat × List Nat):=(true,[([],[]),([0],[0]),([1],[1]),([],[]),([3],[3]),([4,2],[4]),([],[]),([6],[6]),([7],[7]),([8],[8]),([9,5],[9]),([2,5,10],[2,5,10]),([11,10,0,1,2,3,4,5,6,7,8,9,10,11],[11])])
def logs_gaugeLine.B1:List Nat:=[0,1,3,0,8,31,0,64,192,448,1023,2047,4095]
theorem logs_gaugeLine.tab1:rtab .any (opsOf Tryz.f65 1)=logs_gaugeLine.T1:=by kernel_rfl
theorem logs_gaugeLine.bits1:waitsOk logs_gaugeLine.T1.2 logs_gaugeLine.B1=true:=by kernel_rfl
set_option maxHeartbeats 8000000 in
set_option maxRecDepth 100000 in
theorem logs_gaugeLine.calls (k:Nat) (a0_0:Int) (a0_1:Int) (A0_2:Option Addr) (c0_2:Nat) (l0_2:List Int) (r:ByteArray) (w:World) (hbase:Base w) (hr0_2:Kd.C (Kd.int .i64) w A0_2 l0_2.length l0_2) (hc0_2:l0_2.length ≤ c0_2) (h:logs_gaugeLine.f k a0_0 a0_1 l0_2=some r) :
  Calls Tryz.prog 65 #[.agg #[.int .i64 a0_0,.int .i64 a0_1,.slice A0_2 l0_2.length c0_2]] w fun e w'=>e=.returned (.string r) ∧ Below w.heap.size w w':=by
 have hu37:=Tryz.underlying37
 have HR0_2:=Aside0.mk hr0_2
 have HC0_2:=Aside0.mk hc0_2
 clear hr0_2 hc0_2
 have HB:=Aside0.mk (Below.refl w.heap.size w)
 have H:((strconv_Itoa.f a0_0).bind fun t118=>((strconv_Itoa.f a0_1).bind fun t119=>(if 0 < (l0_2.length:Int) then ((strconv_Itoa.f (rd l0_2 0)).bind fun t121=>(if 1 ≤ (l0_2.length:Int) then (logs_gaugeLine.l0 k (([t118,t119,t121]:List ByteArray)) (l0_2.drop 1) ((l0_2.drop 1).length:Int) 0 a0_0 a0_1 l0_2) else (none))) else (none))))=some r:=h
 clear h
 replace H:=Option.bind_eq_some_iff.mp H
 obtain ⟨t118,A20,H⟩:=H
 replace H:((strconv_Itoa.f a0_1).bind fun t119=>(if 0 < (l0_2.length:Int) then ((strconv_Itoa.f (rd l0_2 0)).bind fun t121=>(if 1 ≤ (l0_2.length:Int) then (logs_gaugeLine.l0 k (([t118,t119,t121]:List ByteArray)) (l0_2.drop 1) ((l0_2.drop 1).length:Int) 0 a0_0 a0_1 l0_2) else (none))) else (none)))=some r:=H
 have A2:=Aside0.mk A20
 clear A20
 replace H:=Option.bind_eq_some_iff.mp H
 obtain ⟨t119,A30,H⟩:=H
 replace H:(if 0 < (l0_2.length:Int) then ((strconv_Itoa.f (rd l0_2 0)).bind fun t121=>(if 1 ≤ (l0_2.length:Int) then (logs_gaugeLine.l0 k (([t118,t119,t121]:List ByteArray)) (l0_2.drop 1) ((l0_2.drop 1).length:Int) 0 a0_0 a0_1 l0_2) else (none))) else (none))=some r:=H
 have A3:=Aside0.mk A30
 clear A30
 by_cases c4:0 < (l0_2.length:Int)
 ·rw [if_pos c4] at H
  have c4b0:decide (0 < (l0_2.length:Int))=true:=decide_eq_true c4
  have c4b1:decide (0 < l0_2.length)=true:=decide_eq_true (by omega)
  clear c4
  replace H:=Option.bind_eq_some_iff.mp H
  obtain ⟨t121,A50,H⟩:=H
  replace H:(if 1 ≤ (l0_2.length:Int) then (logs_gaugeLine.l0 k (([t118,t119,t121]:List ByteArray)) (l0_2.drop 1) ((l0_2.drop 1).length:Int) 0 a0_0 a0_1 l0_2) else (none))=some r:=H
  have A5:=Aside0.mk A50
  clear A50
  obtain ⟨y122,hy122⟩:∃ y_:List ByteArray,y_=(([t118,t119,t121]:List ByteArray)):=⟨_,rfl⟩
  replace H:(if 1 ≤ (l0_2.length:Int) then (logs_gaugeLine.l0 k y122 (l0_2.drop 1) ((l0_2.drop 1).length:Int) 0 a0_0 a0_1 l0_2) else (none))=some r:=by first | (rw [hy122];with_reducible exact H) | (have H2_:=(Option.bind_some _ _).symm.trans H;rw [hy122];with_reducible exact H2_) | (have H2_:=(Option.bind_some _ _).symm.trans H;with_reducible exact H2_) | with_reducible exact H | (rw [hy122];exact H) | exact H
  have Ny122:=Aside0.mk hy122
  clear hy122
  by_cases c6:1 ≤ (l0_2.length:Int)
  ·rw [if_pos c6] at H
   have c6b0:=eq_true c6
   have c6b1:decide (1 ≤ (l0_2.length:Int))=true:=decide_eq_true c6
   clear c6
   have H':=Aside0.mk H
   clear H
   go_enter Tryz.func65,Tryz.ntmps65
   try go_wp2_with (first | ((with_reducible refine gate_dst (N:=1) rfl ?_);refine box_event ?hg (N:=1) ?hd (cs:=#[.int .i64 a0_0,.int .i64 a0_1,.slice A0_2 l0_2.length c0_2]) (t:=37) ?hr ?_;(case hd=>rfl);(case hg=>rfl);(case hr=>first | (go_simp;done) | (go_simp;rfl));intro gb117 hg w7 hbox hb;have n0_:=Aside0.mk (below_step (by repeat (first | (with_reducible first | exact HB.out | apply below_alloc | apply pw_below_drewN | apply below_drew1) | exact HB.out)) hb);have n1_:=Aside0.mk (hbox);have n2_:=Aside0.mk ((by rw [hg];exact (below_size (by repeat (first | (with_reducible first | exact HB.out | apply below_alloc | apply pw_below_drewN | apply below_drew1) | exact HB.out))):w.heap.size ≤ gb117));have n3_:=Aside0.mk ((by rw [hg];exact (below_size (by repeat (first | (with_reducible first | exact HB.out | apply below_alloc | apply pw_below_drewN | apply below_drew1) | exact HB.out))):w.heap.size ≤ gb117));clear HB;have HB:=n0_;have BK117:=n1_;have GW117:=n2_;have GE117:=n3_;clear n0_ n1_ n2_ n3_;clear hb hbox hg))
   have n0_:=Aside0.mk (blk_drew BK117.out)
   have n1_:=Aside0.mk (below_drew1 HB.out)
   clear BK117
   clear HB
   have BK117:=n0_
   have HB:=n1_
   clear n0_ n1_
   have p120:0 ≤ (0:Int):=(by omega)
   have q120:0 < (l0_2.length:Int):=of_decide_eq_true (by first | (with_reducible assumption) | assumption)
   obtain ⟨ad120,e120,hx120_0⟩:=Kd.at_int HR0_2.out 0 p120 q120
   have hw120_0:=hx120_0
   (try rw [show ((0:Int)).toNat=0 from rfl] at hw120_0)
   (try rw [show 0 * 1=0 from rfl] at hw120_0)
   (try rw [Addr.add_zero'] at hw120_0)
   cases e120
   have qi120:(0 < l0_2.length)=True:=eq_true (by omega)
   (try rw [show ((0:Int)).toNat=0 from rfl] at hx120_0)
   (try rw [Addr.add_zero'] at hx120_0)
   replace hx120_0:=(HB.out.cell (xbl w _ hx120_0)).trans hx120_0
   replace p120:=eq_true p120
   replace q120:=eq_true q120
   refine start_ (n:=13) (S:=fun w'=>w'.cell? ⟨gb117,0,none⟩=some (.int .i64 a0_0) ∧ w'.cell? ⟨gb117,1,none⟩=some (.int .i64 a0_1) ∧ w'.cell? ⟨gb117,2,none⟩=some (.slice (some ad120) l0_2.length c0_2) ∧ w'.cell? ad120=some (.int .i64 (rd l0_2 0))) (ds:=[]) #[false,false,false,false,false,false,false,false,false,false,false,false,false] (by kernel_rfl) rfl rfl ⟨(blk_cell BK117.out 0).trans rfl,(blk_cell BK117.out 1).trans rfl,(blk_cell BK117.out 2).trans rfl,((HB.out.cell (xbl w _ hw120_0)).trans hw120_0)⟩ (fun hHeld=>?_);refine with_tabW logs_gaugeLine.tab1 logs_gaugeLine.bits1 (fun HT_ HW_=>?_)
   generalize w7.drew=w8 at BK117 HB hx120_0 hHeld ⊢
   refine pure_ (i:=0) (N:=some 7) (v:=?_) (a':=?_) #[true,false,false,false,false,false,false,false,false,false,false,false,false] rfl rfl (any_of HT_.out (by kernel_rfl)) (fun _ _ _ h=>h) (Or.inl ⟨by rfl,?_⟩) ?_ ?_
   rotate_left
   ·intro w'
    go_simp
    with_reducible rfl
   rotate_left
   ·simp only [Act.put,xsA,xsZ,xsS,i64_w,i32_w]
    rfl
   refine pure_ (i:=3) (N:=some 10) (v:=?_) (a':=?_) #[true,false,false,true,false,false,false,false,false,false,false,false,false] rfl rfl (any_of HT_.out (by kernel_rfl)) (fun _ _ _ h=>h) (Or.inl ⟨by rfl,?_⟩) ?_ ?_
   rotate_left
   ·intro w'
    go_simp
    with_reducible rfl
   rotate_left
   ·simp only [Act.put,xsA,xsZ,xsS,i64_w,i32_w]
    rfl
   refine pure_ (i:=6) (N:=some 13) (v:=?_) (a':=?_) #[true,false,false,true,false,false,true,false,false,false,false,false,false] rfl rfl (any_of HT_.out (by kernel_rfl)) (fun _ _ _ h=>h) (Or.inl ⟨by rfl,?_⟩) ?_ ?_
   rotate_left
   ·intro w'
    go_simp
    with_reducible rfl
   rotate_left
   ·simp only [Act.put,xsA,xsZ,xsS,i64_w,i32_w]
    rfl
   refine take_ (i:=1) (N:=some 8) (v:=?_) (a':=?_) #[true,true,false,true,false,false,true,false,false,false,false,false,false] rfl rfl (take_ofW HT_.out HW_.out (by kernel_rfl)) (fun _ _ _ h=>h) (Or.inl ⟨by rfl,?_⟩) hHeld ?_ ?_
   rotate_left
   ·rintro w' ⟨s0,s1,s2,s3⟩
    go_simp
    with_reducible rfl
   rotate_left
   ·simp only [Act.put,xsA,xsZ,xsS,i64_w,i32_w]
    rfl
   refine take_ (i:=4) (N:=some 11) (v:=?_) (a':=?_) #[true,true,false,true,true,false,true,false,false,false,false,false,false] rfl rfl (take_ofW HT_.out HW_.out (by kernel_rfl)) (fun _ _ _ h=>h) (Or.inl ⟨by rfl,?_⟩) hHeld ?_ ?_
   rotate_left
   ·rintro w' ⟨s0,s1,s2,s3⟩
    go_simp
    with_reducible rfl
   rotate_left
   ·simp only [Act.put,xsA,xsZ,xsS,i64_w,i32_w]
    rfl
   refine take_ (i:=7) (N:=some 14) (v:=?_) (a':=?_) #[true,true,false,true,true,false,true,true,false,false,false,false,false] rfl rfl (take_ofW HT_.out HW_.out (by kernel_rfl)) (fun _ _ _ h=>h) (Or.inl ⟨by rfl,?_⟩) hHeld ?_ ?_
   rotate_left
   ·rintro w' ⟨s0,s1,s2,s3⟩
    go_simp
    with_reducible rfl
   rotate_left
   ·simp only [Act.put,xsA,xsZ,xsS,i64_w,i32_w]
    rfl
   refine pure_ (i:=8) (N:=some 15) (v:=?_) (a':=?_) #[true,true,false,true,true,false,true,true,true,false,false,false,false] rfl rfl (any_of HT_.out (by kernel_rfl)) (fun _ _ _ h=>h) (Or.inl ⟨by rfl,?_⟩) ?_ ?_
   rotate_left
   ·intro w'
    go_simp
    with_reducible rfl
   rotate_left
   ·simp only [Act.put,xsA,xsZ,xsS,i64_w,i32_w]
    rfl
   refine take_ (i:=9) (N:=some 16) (v:=?_) (a':=?_) #[true,true,false,true,true,false,true,true,true,true,false,false,false] rfl rfl (take_ofW HT_.out HW_.out (by kernel_rfl)) (fun _ _ _ h=>h) (Or.inl ⟨by rfl,?_⟩) hHeld ?_ ?_
   rotate_left
   ·rintro w' ⟨s0,s1,s2,s3⟩
    go_simp
    with_reducible rfl
   rotate_left
   ·simp only [Act.put,xsA,xsZ,xsS,i64_w,i32_w]
    rfl
   refine one_ (i:=2) (N:=some 9) #[true,true,true,true,true,false,true,true,true,true,false,false,false] rfl rfl (one_of HT_.out (by kernel_rfl)) (by decide) (fun K hK=>?_)
   refine goes_ Tryz.func83 (by kernel_rfl) rfl #[.int .i64 a0_0] (by rfl) rfl rfl (by (try simp only [List.map_toArray,List.map_cons,List.map_nil]);first | done | rfl | (simp only [List.length_drop,List.length_take];rfl)) ?_
   with_reducible refine (strconv_Itoa.calls a0_0 t118 _ ?side1 A2.out).mono ?_
   (case side1=>exact Base.step hbase (by repeat (first | (with_reducible first | exact HB.out | apply below_alloc | apply pw_below_drewN | apply below_drew1 | refine below_set ?_ GE117.out) | exact HB.out)))
   rintro e w9 ⟨rfl,hb⟩
   refine ⟨_,rfl,?_⟩
   have n0_:=Aside0.mk (blk_below (g:=gb117) (o:=.cells #[.int .i64 a0_0,.int .i64 a0_1,.slice (some ad120) l0_2.length c0_2] 37 (0,0)) (by (with_reducible repeat (first | refine blk_drewN ?_ _ | refine blk_drew ?_ | refine blk_alloc ?_ _));exact BK117.out) hb)
   have n1_:=Aside0.mk (below_step (by repeat (first | (with_reducible first | exact HB.out | apply below_alloc | apply pw_below_drewN | apply below_drew1 | refine below_set ?_ GE117.out) | exact HB.out)) hb)
   clear BK117
   clear HB
   have BK117:=n0_
   have HB:=n1_
   clear n0_ n1_
   (try clear hb)
   (try clear hb2)
   (try clear hk)
   (try clear hi)
   refine hK.out _ _ ⟨(blk_cell BK117.out 0).trans rfl,(blk_cell BK117.out 1).trans rfl,(blk_cell BK117.out 2).trans rfl,((HB.out.cell (xbl w _ hw120_0)).trans hw120_0)⟩ (fun hHeld=>?_)
   clear hK K
   refine norm_ (a':=?_) ?_ ?_
   rotate_left
   ·show Act.put _ (some 9) _=_
    simp only [Act.put,xsA,xsZ,xsS,i64_w,i32_w]
    rfl
   refine one_ (i:=5) (N:=some 12) #[true,true,true,true,true,true,true,true,true,true,false,false,false] rfl rfl (one_of HT_.out (by kernel_rfl)) (by decide) (fun K hK=>?_)
   refine goes_ Tryz.func83 (by kernel_rfl) rfl #[.int .i64 a0_1] (by rfl) rfl rfl (by (try simp only [List.map_toArray,List.map_cons,List.map_nil]);first | done | rfl | (simp only [List.length_drop,List.length_take];rfl)) ?_
   with_reducible refine (strconv_Itoa.calls a0_1 t119 _ ?side1 A3.out).mono ?_
   (case side1=>exact Base.step hbase (by repeat (first | (with_reducible first | exact HB.out | apply below_alloc | apply pw_below_drewN | apply below_drew1 | refine below_set ?_ GE117.out) | exact HB.out)))
   rintro e w10 ⟨rfl,hb⟩
   refine ⟨_,rfl,?_⟩
   have n0_:=Aside0.mk (blk_below (g:=gb117) (o:=.cells #[.int .i64 a0_0,.int .i64 a0_1,.slice (some ad120) l0_2.length c0_2] 37 (0,0)) (by (with_reducible repeat (first | refine blk_drewN ?_ _ | refine blk_drew ?_ | refine blk_alloc ?_ _));exact BK117.out) hb)
   have n1_:=Aside0.mk (below_step (by repeat (first | (with_reducible first | exact HB.out | apply below_alloc | apply pw_below_drewN | apply below_drew1 | refine below_set ?_ GE117.out) | exact HB.out)) hb)
   clear BK117
   clear HB
   have BK117:=n0_
   have HB:=n1_
   clear n0_ n1_
   (try clear hb)
   (try clear hb2)
   (try clear hk)
   (try clear hi)
   refine hK.out _ _ ⟨(blk_cell BK117.out 0).trans rfl,(blk_cell BK117.out 1).trans rfl,(blk_cell BK117.out 2).trans rfl,((HB.out.cell (xbl w _ hw120_0)).trans hw120_0)⟩ (fun hHeld=>?_)
   clear hK K
   refine norm_ (a':=?_) ?_ ?_
   rotate_left
   ·show Act.put _ (some 12) _=_
    simp only [Act.put,xsA,xsZ,xsS,i64_w,i32_w]
    rfl
   refine one_ (i:=10) (N:=some 17) #[true,true,true,true,true,true,true,true,true,true,true,false,false] rfl rfl (one_of HT_.out (by kernel_rfl)) (by decide) (fun K hK=>?_)
   refine goes_ Tryz.func83 (by kernel_rfl) rfl #[.int .i64 (rd l0_2 0)] (by rfl) rfl rfl (by (try simp only [List.map_toArray,List.map_cons,List.map_nil]);first | done | rfl | (simp only [List.length_drop,List.length_take];rfl)) ?_
   with_reducible refine (strconv_Itoa.calls (rd l0_2 0) t121 _ ?side1 A5.out).mono ?_
   (case side1=>exact Base.step hbase (by repeat (first | (with_reducible first | exact HB.out | apply below_alloc | apply pw_below_drewN | apply below_drew1 | refine below_set ?_ GE117.out) | exact HB.out)))
   rintro e w11 ⟨rfl,hb⟩
   refine ⟨_,rfl,?_⟩
   have n0_:=Aside0.mk (blk_below (g:=gb117) (o:=.cells #[.int .i64 a0_0,.int .i64 a0_1,.slice (some ad120) l0_2.length c0_2] 37 (0,0)) (by (with_reducible repeat (first | refine blk_drewN ?_ _ | refine blk_drew ?_ | refine blk_alloc ?_ _));exact BK117.out) hb)
   have n1_:=Aside0.mk (below_step (by repeat (first | (with_reducible first | exact HB.out | apply below_alloc | apply pw_below_drewN | apply below_drew1 | refine below_set ?_ GE117.out) | exact HB.out)) hb)
   clear BK117
   clear HB
   have BK117:=n0_
   have HB:=n1_
   clear n0_ n1_
   (try clear hb)
   (try clear hb2)
   (try clear hk)
   (try clear hi)
   refine hK.out _ _ ⟨(blk_cell BK117.out 0).trans rfl,(blk_cell BK117.out 1).trans rfl,(blk_cell BK117.out 2).trans rfl,((HB.out.cell (xbl w _ hw120_0)).trans hw120_0)⟩ (fun hHeld=>?_)
   clear hK K
   refine norm_ (a':=?_) ?_ ?_
   rotate_left
   ·show Act.put _ (some 17) _=_
    simp only [Act.put,xsA,xsZ,xsS,i64_w,i32_w]
    rfl
   refine one_ (i:=11) (N:=some 18) #[true,true,true,true,true,true,true,true,true,true,true,true,false] rfl rfl (one_of HT_.out (by kernel_rfl)) (by decide) (fun K hK=>?_)
   refine Kd.R_lit_step Kd.string _ 9 ?hg (N:=18) ?hd (xs:=([t118,t119,t121]:List ByteArray)) (inner:=[.string t118,.string t119,.string t121]) (ok:=fun _=>True) (okp:=fun _=>True) ?hr ?hp (fun _ hk=>hk) trivial (Below.refl _ _) (Nat.le_refl _) (by simp) ?_;(case hd=>rfl);(case hg=>rfl);(case hr=>first | (go_simp;done) | (go_simp;rfl));(case hp=>exact (Reps.one (show Kd.M Kd.string _ _ _ t118 [.string t118] from rfl) (Reps.one (show Kd.M Kd.string _ _ _ t119 [.string t119] from rfl) (Reps.one (show Kd.M Kd.string _ _ _ t121 [.string t121] from rfl) (Reps.none _ _)))))
   intro v123 w12 ho13 hb hg_ hnew_
   clear hg_ hnew_
   (first | rw [← Ny122.out] at ho13 | (simp only [Int.reduceToNat] at ho13;rw [← Ny122.out] at ho13))
   have n0_:=Aside0.mk (Kd.R_lower ho13 (below_size (by repeat (first | (with_reducible first | exact HB.out | apply below_alloc | apply pw_below_drewN | apply below_drew1 | refine below_set ?_ GE117.out) | exact HB.out))))
   have n1_:=Aside0.mk (blk_below (g:=gb117) (o:=.cells #[.int .i64 a0_0,.int .i64 a0_1,.slice (some ad120) l0_2.length c0_2] 37 (0,0)) (by (with_reducible repeat (first | refine blk_drewN ?_ _ | refine blk_drew ?_ | refine blk_alloc ?_ _));exact BK117.out) hb)
   have n2_:=Aside0.mk (below_step (by repeat (first | (with_reducible first | exact HB.out | apply below_alloc | apply pw_below_drewN | apply below_drew1 | refine below_set ?_ GE117.out) | exact HB.out)) hb)
   clear BK117
   clear HB
   have HO124:=n0_
   have BK117:=n1_
   have HB:=n2_
   clear n0_ n1_ n2_
   clear hb ho13
   refine hK.out _ _ ⟨(blk_cell BK117.out 0).trans rfl,(blk_cell BK117.out 1).trans rfl,(blk_cell BK117.out 2).trans rfl,((HB.out.cell (xbl w _ hw120_0)).trans hw120_0)⟩ (fun hHeld=>?_)
   clear hK K
   refine norm_ (a':=?_) ?_ ?_
   rotate_left
   ·show Act.put _ (some 18) _=_
    simp only [Act.put,xsA,xsZ,xsS,i64_w,i32_w]
    rfl
   refine pure_ (i:=12) (N:=some 3) (v:=?_) (a':=?_) #[true,true,true,true,true,true,true,true,true,true,true,true,true] rfl rfl (any_of HT_.out (by kernel_rfl)) (fun _ _ _ h=>h) (Or.inl ⟨by rfl,?_⟩) ?_ ?_
   rotate_left
   ·intro w'
    go_simp
    with_reducible rfl
   rotate_left
   ·simp only [Act.put,xsA,xsZ,xsS,i64_w,i32_w]
    rfl
   refine done_ (done_of HT_.out (by kernel_rfl)) ?_
   have hcz14_0:w12.cell? ⟨gb117,0,none⟩=some (.int .i64 a0_0):=(blk_cell BK117.out 0).trans rfl
   have hcz14_1:w12.cell? ⟨gb117,1,none⟩=some (.int .i64 a0_1):=(blk_cell BK117.out 1).trans rfl
   have hcz14_2:w12.cell? ⟨gb117,2,none⟩=some (.slice (some ad120) l0_2.length c0_2):=(blk_cell BK117.out 2).trans rfl
   have hfz14_0:=blk_frozen BK117.out 0
   have hfz14_1:=blk_frozen BK117.out 1
   have hfz14_2:=blk_frozen BK117.out 2
   obtain ⟨i015,hi015,_,hsz15,_⟩:=info_parts info3
   obtain ⟨A15,hcut15,hA15,hC15⟩:=print_drop_of (P:=Tryz.prog) (Value.int .i64) 0 24 3 .i64 Tryz.underlying24 hi015 hsz15 (some ad120) c0_2 l0_2 1 (by omega) (of_decide_eq_true (by first | (with_reducible assumption) | assumption)) HC0_2.out
   have HR125:=Aside0.mk (Kd.C_of_reads (h1:=fun _=>rfl) (hA15 _ (Kd.reads_of_C HR0_2.out)))
   have HC125:=Aside0.mk hC15
   clear hA15 hC15 hi015 hsz15
   try go_wp2
   go_loopg [3,23] k (fun kq v3 v23 w'=>∃ (x3_1:List ByteArray) (x23_1:Int),v23=.int .i64 x23_1 ∧ Aside0 (logs_gaugeLine.l0 kq x3_1 (l0_2.drop 1) ((l0_2.drop 1).length:Int) x23_1 a0_0 a0_1 l0_2=some r) ∧ Aside0 (kq ≤ k) ∧ Aside0 (Kd.R Kd.string 9 w' w.heap.size (fun _=>True) v3 x3_1) ∧ Aside0 (w'.heap[gb117]?=some (.cells #[.int .i64 a0_0,.int .i64 a0_1,(.slice (some ad120) l0_2.length c0_2)] 37 (0,0))) ∧ Aside0 (Below w.heap.size w w'))
   case atStart=>exact ⟨(y122),(0),(by first | rfl | (simp;done) | (simp [*];done)),H',⟨Nat.le_refl _⟩,⟨by (with_reducible repeat (first | apply Kd.R_alloc | apply Kd.R_drewN | apply Kd.R_drew));exact HO124.out⟩,⟨by (with_reducible repeat (first | refine blk_drewN ?_ _ | refine blk_drew ?_ | refine blk_alloc ?_ _));exact BK117.out⟩,⟨by repeat (first | (with_reducible first | exact HB.out | apply below_alloc | apply pw_below_drewN | apply below_drew1 | refine below_set ?_ GE117.out) | exact HB.out)⟩⟩
   case round =>
    clear H'
    try clear p1
    try clear q1
    try clear hx1
    try clear qi1
    try clear p2
    try clear c4
    try clear c4b0
    try clear c4b1
    try clear c6
    try clear c6b0
    try clear c6b1
    try clear c8
    try clear p12
    try clear q12
    try clear hx12
    try clear qi12
    try clear hcz14_0
    try clear hcz14_1
    try clear hcz14_2
    try clear hfz14_0
    try clear hfz14_1
    try clear hfz14_2
    try clear hx120_0
    try clear p120
    try clear q120
    obtain ⟨x3_1,x23_1,rfl,HA,HK1,HO_3,BK117,HB⟩:=hrel
    cases gk with
    | zero=>exact absurd HA.out (by simp [logs_gaugeLine.l0])
    | succ k1 =>
     have H:=HA.out
     clear HA
     simp only [logs_gaugeLine.l0] at H
     by_cases c16:x23_1 < ((l0_2.drop 1).length:Int)
     ·rw [if_pos c16] at H
      have c16b0:decide (x23_1 < ((l0_2.drop 1).length:Int))=true:=decide_eq_true c16
      have c16b9:decide (x23_1 < ((l0_2.length - 1:Nat):Int))=true:=by rw [← List.length_drop];exact c16b0
      have c16b9:decide (x23_1 < ((l0_2.length - 1:Nat):Int))=true:=by rw [← List.length_drop];exact c16b0
      clear c16
      by_cases c17:0 ≤ x23_1
      ·rw [if_pos c17] at H
       have c17b0:decide (0 ≤ x23_1)=true:=decide_eq_true c17
       clear c17
       by_cases c18:x23_1 < ((l0_2.drop 1).length:Int)
       ·rw [if_pos c18] at H
        have c18b0:decide (x23_1 < ((l0_2.drop 1).length:Int))=true:=decide_eq_true c18
        have c18b9:decide (x23_1 < ((l0_2.length - 1:Nat):Int))=true:=by rw [← List.length_drop];exact c18b0
        have c18b9:decide (x23_1 < ((l0_2.length - 1:Nat):Int))=true:=by rw [← List.length_drop];exact c18b0
        clear c18
        by_cases c19:x23_1 < (l0_2.length:Int)
        ·rw [if_pos c19] at H
         have c19b0:decide (x23_1 < (l0_2.length:Int))=true:=decide_eq_true c19
         clear c19
         replace H:=Option.bind_eq_some_iff.mp H
         obtain ⟨t128,A200,H⟩:=H
         replace H:(if 0 < (t128.size:Int) then (if (bt t128 0)=45 then (if x3_1.length < 8796093022208 then (logs_gaugeLine.l0 k1 (x3_1 ++ [t128]) (l0_2.drop 1) ((l0_2.drop 1).length:Int) (wrap64 (x23_1 + 1)) a0_0 a0_1 l0_2) else (none)) else (if 1 + t128.size ≤ 9223372036854775807 then (if x3_1.length < 8796093022208 then (logs_gaugeLine.l0 k1 (x3_1 ++ [(⟨#[43]⟩:ByteArray) ++ t128]) (l0_2.drop 1) ((l0_2.drop 1).length:Int) (wrap64 (x23_1 + 1)) a0_0 a0_1 l0_2) else (none)) else (none))) else (none))=some r:=H
         have A20:=Aside0.mk A200
         clear A200
         by_cases c21:0 < (t128.size:Int)
         ·rw [if_pos c21] at H
          have c21b0:decide (0 < (t128.size:Int))=true:=decide_eq_true c21
          have c21b1:decide (0 < t128.size)=true:=decide_eq_true (by omega)
          clear c21
          by_cases c23:(bt t128 0)=45
          ·rw [if_pos c23] at H
           have c23b0:((bt t128 0) == 45)=true:=beq_iff_eq.mpr c23
           have c23b1:((bt t128 0) != 45)=false:=bne_eq_false_iff_eq.mpr c23
           clear c23
           by_cases c24:x3_1.length < 8796093022208
           ·rw [if_pos c24] at H
            have LMc24:=Aside0.mk c24
            clear c24
            obtain ⟨y129,hy129⟩:∃ y_:List ByteArray,y_=(x3_1 ++ [t128]):=⟨_,rfl⟩
            replace H:(logs_gaugeLine.l0 k1 y129 (l0_2.drop 1) ((l0_2.drop 1).length:Int) (wrap64 (x23_1 + 1)) a0_0 a0_1 l0_2)=some r:=by first | (rw [hy129];with_reducible exact H) | (have H2_:=(Option.bind_some _ _).symm.trans H;rw [hy129];with_reducible exact H2_) | (have H2_:=(Option.bind_some _ _).symm.trans H;with_reducible exact H2_) | with_reducible exact H | (rw [hy129];exact H) | exact H
            have Ny129:=Aside0.mk hy129
            clear hy129
            have H':=Aside0.mk H
            clear H
            have p126:0 ≤ (x23_1:Int):=of_decide_eq_true (by first | (with_reducible assumption) | assumption)
            have q126:x23_1 < ((l0_2.drop 1).length:Int):=of_decide_eq_true (by first | (with_reducible assumption) | assumption)
            obtain ⟨ad126,e126,hx126_0⟩:=Kd.at_int HR125.out x23_1 p126 q126
            cases e126
            replace hx126_0:=(HB.out.cell (xbl w _ hx126_0)).trans hx126_0
            replace p126:=eq_true p126
            replace q126:=eq_true q126
            have q126n:(x23_1 < ((l0_2.length - 1:Nat):Int))=True:=by rw [← List.length_drop];exact q126
            have hcz25_0:wr.cell? ⟨gb117,0,none⟩=some (.int .i64 a0_0):=(blk_cell BK117.out 0).trans rfl
            have hcz25_1:wr.cell? ⟨gb117,1,none⟩=some (.int .i64 a0_1):=(blk_cell BK117.out 1).trans rfl
            have hcz25_2:wr.cell? ⟨gb117,2,none⟩=some (.slice (some ad120) l0_2.length c0_2):=(blk_cell BK117.out 2).trans rfl
            have hfz25_0:=blk_frozen BK117.out 0
            have hfz25_1:=blk_frozen BK117.out 1
            have hfz25_2:=blk_frozen BK117.out 2
            have p127:0 ≤ (x23_1:Int):=of_decide_eq_true (by first | (with_reducible assumption) | assumption)
            have q127:x23_1 < (l0_2.length:Int):=of_decide_eq_true (by first | (with_reducible assumption) | assumption)
            obtain ⟨ad127,e127,hx127_0⟩:=Kd.at_int HR0_2.out x23_1 p127 q127
            obtain rfl:ad120=ad127:=(by injection e127)
            replace hx127_0:=(HB.out.cell (xbl w _ hx127_0)).trans hx127_0
            replace p127:=eq_true p127
            replace q127:=eq_true q127
            go_wp2_with (first | ((with_reducible refine gate_callee (f:=83) rfl ?_);refine goesL_ (some 35) rfl rfl Tryz.func83 (by kernel_rfl) rfl #[.int .i64 (wrap64 ((rd l0_2.tail x23_1) - (rd l0_2 x23_1)))] rfl (by (try simp only [List.map_toArray,List.map_cons,List.map_nil]);first | done | rfl | (simp only [List.length_drop,List.length_take];rfl)) ?_;(with_reducible refine (strconv_Itoa.calls (wrap64 ((rd l0_2.tail x23_1) - (rd l0_2 x23_1))) t128 _ ?side1 (by rw [← List.drop_one];exact A20.out)).mono ?_);(case side1=>exact Base.step hbase (by repeat (first | (with_reducible first | exact HB.out | apply below_alloc | apply pw_below_drewN | apply below_drew1 | refine below_set ?_ GE117.out) | exact HB.out)));rintro e w26 ⟨rfl,hb⟩;refine ⟨_,rfl,?_⟩;have n0_:=Aside0.mk (Kd.R_below (by (with_reducible repeat (first | apply Kd.R_alloc | apply Kd.R_drewN | apply Kd.R_drew));exact HO_3.out) hb);have n1_:=Aside0.mk (blk_below (g:=gb117) (o:=.cells #[.int .i64 a0_0,.int .i64 a0_1,.slice (some ad120) l0_2.length c0_2] 37 (0,0)) (by (with_reducible repeat (first | refine blk_drewN ?_ _ | refine blk_drew ?_ | refine blk_alloc ?_ _));exact BK117.out) hb);have n2_:=Aside0.mk (below_step (by repeat (first | (with_reducible first | exact HB.out | apply below_alloc | apply pw_below_drewN | apply below_drew1 | refine below_set ?_ GE117.out) | exact HB.out)) hb);clear HO_3;clear BK117;clear HB;have HO_3:=n0_;have BK117:=n1_;have HB:=n2_;clear n0_ n1_ n2_;(try clear hb);(try clear hb2);(try clear hk);(try clear hi);have p22:0 ≤ (0:Int):=(by omega);have q22:0 < t128.size:=(by have:(0:Int) < (t128.size:Int):=of_decide_eq_true (by first | (with_reducible assumption) | assumption);omega);have hx22:∀ h:0 < t128.size,((t128[0]'h).toNat:Int)=bt t128 0:=bt_at t128 0;clear p22;have qi22:(0 < (t128.size:Int))=True:=eq_true (of_decide_eq_true (by first | (with_reducible assumption) | assumption));replace q22:=eq_true q22) | ((with_reducible refine gate_builtin (b:=.append) (xs:=#[.tmp 41,.tmp 43]) rfl ?_);at_builtin;refine Kd.R_append Kd.string (w0:=w) w.heap.size rfl (.tmp 41) (.tmp 43) 68 9 (.string ⟨#[]⟩) 16 rfl Tryz.underlying68 info9 rfl (by decide) (by omega) u3 x3_1 t128 [.string t128] (fun _=>True) (fun _=>False) rfl rfl ?aP (fun _ hk=>hk.elim) ?aF ?aO ?aB ?aS ?aL ?_;(case aP=>exact rfl);(case aB=>exact (by repeat (first | (with_reducible first | exact HB.out | apply below_alloc | apply pw_below_drewN | apply below_drew1 | refine below_set ?_ GE117.out) | exact HB.out)));(case aF=>exact (fun _ _=>trivial));(case aO=>exact (by (with_reducible repeat (first | apply Kd.R_alloc | apply Kd.R_drewN | apply Kd.R_drew));exact HO_3.out));(case aS=>exact (below_size (by repeat (first | (with_reducible first | exact HB.out | apply below_alloc | apply pw_below_drewN | apply below_drew1 | refine below_set ?_ GE117.out) | exact HB.out))));(case aL=>have:=LMc24.out;omega);intro v130 w27 ho hb hg hat;rw [← Ny129.out] at ho;have n0_:=Aside0.mk (blk_grown (g:=gb117) (o:=.cells #[.int .i64 a0_0,.int .i64 a0_1,.slice (some ad120) l0_2.length c0_2] 37 (0,0)) (by (with_reducible repeat (first | refine blk_drewN ?_ _ | refine blk_drew ?_ | refine blk_alloc ?_ _));exact BK117.out) hg (Kd.R_ne HO_3.out BK117.out (by decide)));have n1_:=Aside0.mk (hb);have n2_:=Aside0.mk (ho);clear BK117;clear HB;clear HO_3;have BK117:=n0_;have HB:=n1_;have HO131:=n2_;clear n0_ n1_ n2_;clear ho hb hg hat))
            go_roundg k1
            case measure=>have:=HK1.out;omega
            case rel=>exact ⟨(y129),(wrap64 (x23_1 + 1)),(by first | rfl | (simp;done) | (simp [*];done)),H',⟨by have:=HK1.out;omega⟩,⟨by (with_reducible repeat (first | apply Kd.R_alloc | apply Kd.R_drewN | apply Kd.R_drew));exact HO131.out⟩,⟨by (with_reducible repeat (first | refine blk_drewN ?_ _ | refine blk_drew ?_ | refine blk_alloc ?_ _));exact BK117.out⟩,⟨by repeat (first | (with_reducible first | exact HB.out | apply below_alloc | apply pw_below_drewN | apply below_drew1 | refine below_set ?_ GE117.out) | exact HB.out)⟩⟩
           ·rw [if_neg c24] at H
            exact absurd H (by simp)
          ·rw [if_neg c23] at H
           have c23b0:((bt t128 0) == 45)=false:=beq_eq_false_iff_ne.mpr c23
           have c23b1:((bt t128 0) != 45)=true:=bne_iff_ne.mpr c23
           by_cases c28:1 + t128.size ≤ 9223372036854775807
           ·rw [if_pos c28] at H
            have c28b0:=eq_true c28
            have c28b1:decide (1 + t128.size ≤ 9223372036854775807)=true:=decide_eq_true c28
            try have c28b2:(9223372036854775807 < 1 + t128.size)=False:=eq_false (Nat.not_lt.2 c28)
            by_cases c29:x3_1.length < 8796093022208
            ·rw [if_pos c29] at H
             have LMc29:=Aside0.mk c29
             clear c29
             obtain ⟨y132,hy132⟩:∃ y_:List ByteArray,y_=(x3_1 ++ [(⟨#[43]⟩:ByteArray) ++ t128]):=⟨_,rfl⟩
             replace H:(logs_gaugeLine.l0 k1 y132 (l0_2.drop 1) ((l0_2.drop 1).length:Int) (wrap64 (x23_1 + 1)) a0_0 a0_1 l0_2)=some r:=by first | (rw [hy132];with_reducible exact H) | (have H2_:=(Option.bind_some _ _).symm.trans H;rw [hy132];with_reducible exact H2_) | (have H2_:=(Option.bind_some _ _).symm.trans H;with_reducible exact H2_) | with_reducible exact H | (rw [hy132];exact H) | exact H
             have Ny132:=Aside0.mk hy132
             clear hy132
             have H':=Aside0.mk H
             clear H
             have p126:0 ≤ (x23_1:Int):=of_decide_eq_true (by first | (with_reducible assumption) | assumption)
             have q126:x23_1 < ((l0_2.drop 1).length:Int):=of_decide_eq_true (by first | (with_reducible assumption) | assumption)
             obtain ⟨ad126,e126,hx126_0⟩:=Kd.at_int HR125.out x23_1 p126 q126
             cases e126
             replace hx126_0:=(HB.out.cell (xbl w _ hx126_0)).trans hx126_0
             replace p126:=eq_true p126
             replace q126:=eq_true q126
             have q126n:(x23_1 < ((l0_2.length - 1:Nat):Int))=True:=by rw [← List.length_drop];exact q126
             have hcz30_0:wr.cell? ⟨gb117,0,none⟩=some (.int .i64 a0_0):=(blk_cell BK117.out 0).trans rfl
             have hcz30_1:wr.cell? ⟨gb117,1,none⟩=some (.int .i64 a0_1):=(blk_cell BK117.out 1).trans rfl
             have hcz30_2:wr.cell? ⟨gb117,2,none⟩=some (.slice (some ad120) l0_2.length c0_2):=(blk_cell BK117.out 2).trans rfl
             have hfz30_0:=blk_frozen BK117.out 0
             have hfz30_1:=blk_frozen BK117.out 1
             have hfz30_2:=blk_frozen BK117.out 2
             have p127:0 ≤ (x23_1:Int):=of_decide_eq_true (by first | (with_reducible assumption) | assumption)
             have q127:x23_1 < (l0_2.length:Int):=of_decide_eq_true (by first | (with_reducible assumption) | assumption)
             obtain ⟨ad127,e127,hx127_0⟩:=Kd.at_int HR0_2.out x23_1 p127 q127
             obtain rfl:ad120=ad127:=(by injection e127)
             replace hx127_0:=(HB.out.cell (xbl w _ hx127_0)).trans hx127_0
             replace p127:=eq_true p127
             replace q127:=eq_true q127
             go_wp2_with (first | ((with_reducible refine gate_callee (f:=83) rfl ?_);refine goesL_ (some 35) rfl rfl Tryz.func83 (by kernel_rfl) rfl #[.int .i64 (wrap64 ((rd l0_2.tail x23_1) - (rd l0_2 x23_1)))] rfl (by (try simp only [List.map_toArray,List.map_cons,List.map_nil]);first | done | rfl | (simp only [List.length_drop,List.length_take];rfl)) ?_;(with_reducible refine (strconv_Itoa.calls (wrap64 ((rd l0_2.tail x23_1) - (rd l0_2 x23_1))) t128 _ ?side1 (by rw [← List.drop_one];exact A20.out)).mono ?_);(case side1=>exact Base.step hbase (by repeat (first | (with_reducible first | exact HB.out | apply below_alloc | apply pw_below_drewN | apply below_drew1 | refine below_set ?_ GE117.out) | exact HB.out)));rintro e w31 ⟨rfl,hb⟩;refine ⟨_,rfl,?_⟩;have n0_:=Aside0.mk (Kd.R_below (by (with_reducible repeat (first | apply Kd.R_alloc | apply Kd.R_drewN | apply Kd.R_drew));exact HO_3.out) hb);have n1_:=Aside0.mk (blk_below (g:=gb117) (o:=.cells #[.int .i64 a0_0,.int .i64 a0_1,.slice (some ad120) l0_2.length c0_2] 37 (0,0)) (by (with_reducible repeat (first | refine blk_drewN ?_ _ | refine blk_drew ?_ | refine blk_alloc ?_ _));exact BK117.out) hb);have n2_:=Aside0.mk (below_step (by repeat (first | (with_reducible first | exact HB.out | apply below_alloc | apply pw_below_drewN | apply below_drew1 | refine below_set ?_ GE117.out) | exact HB.out)) hb);clear HO_3;clear BK117;clear HB;have HO_3:=n0_;have BK117:=n1_;have HB:=n2_;clear n0_ n1_ n2_;(try clear hb);(try clear hb2);(try clear hk);(try clear hi);have p22:0 ≤ (0:Int):=(by omega);have q22:0 < t128.size:=(by have:(0:Int) < (t128.size:Int):=of_decide_eq_true (by first | (with_reducible assumption) | assumption);omega);have hx22:∀ h:0 < t128.size,((t128[0]'h).toNat:Int)=bt t128 0:=bt_at t128 0;clear p22;have qi22:(0 < (t128.size:Int))=True:=eq_true (of_decide_eq_true (by first | (with_reducible assumption) | assumption));replace q22:=eq_true q22) | ((with_reducible refine gate_builtin (b:=.append) (xs:=#[.tmp 41,.tmp 43]) rfl ?_);at_builtin;refine Kd.R_append Kd.string (w0:=w) w.heap.size rfl (.tmp 41) (.tmp 43) 68 9 (.string ⟨#[]⟩) 16 rfl Tryz.underlying68 info9 rfl (by decide) (by omega) u3 x3_1 ((⟨#[43]⟩:ByteArray) ++ t128) [.string ((⟨#[43]⟩:ByteArray) ++ t128)] (fun _=>True) (fun _=>False) rfl rfl ?aP (fun _ hk=>hk.elim) ?aF ?aO ?aB ?aS ?aL ?_;(case aP=>exact rfl);(case aB=>exact (by repeat (first | (with_reducible first | exact HB.out | apply below_alloc | apply pw_below_drewN | apply below_drew1 | refine below_set ?_ GE117.out) | exact HB.out)));(case aF=>exact (fun _ _=>trivial));(case aO=>exact (by (with_reducible repeat (first | apply Kd.R_alloc | apply Kd.R_drewN | apply Kd.R_drew));exact HO_3.out));(case aS=>exact (below_size (by repeat (first | (with_reducible first | exact HB.out | apply below_alloc | apply pw_below_drewN | apply below_drew1 | refine below_set ?_ GE117.out) | exact HB.out))));(case aL=>have:=LMc29.out;omega);intro v133 w32 ho hb hg hat;rw [← Ny132.out] at ho;have n0_:=Aside0.mk (blk_grown (g:=gb117) (o:=.cells #[.int .i64 a0_0,.int .i64 a0_1,.slice (some ad120) l0_2.length c0_2] 37 (0,0)) (by (with_reducible repeat (first | refine blk_drewN ?_ _ | refine blk_drew ?_ | refine blk_alloc ?_ _));exact BK117.out) hg (Kd.R_ne HO_3.out BK117.out (by decide)));have n1_:=Aside0.mk (hb);have n2_:=Aside0.mk (ho);clear BK117;clear HB;clear HO_3;have BK117:=n0_;have HB:=n1_;have HO134:=n2_;clear n0_ n1_ n2_;clear ho hb hg hat))
             go_roundg k1
             case measure=>have:=HK1.out;omega
             case rel=>exact ⟨(y132),(wrap64 (x23_1 + 1)),(by first | rfl | (simp;done) | (simp [*];done)),H',⟨by have:=HK1.out;omega⟩,⟨by (with_reducible repeat (first | apply Kd.R_alloc | apply Kd.R_drewN | apply Kd.R_drew));exact HO134.out⟩,⟨by (with_reducible repeat (first | refine blk_drewN ?_ _ | refine blk_drew ?_ | refine blk_alloc ?_ _));exact BK117.out⟩,⟨by repeat (first | (with_reducible first | exact HB.out | apply below_alloc | apply pw_below_drewN | apply below_drew1 | refine below_set ?_ GE117.out) | exact HB.out)⟩⟩
            ·rw [if_neg c29] at H
             exact absurd H (by simp)
           ·rw [if_neg c28] at H
            exact absurd H (by simp)
         ·rw [if_neg c21] at H
          exact absurd H (by simp)
        ·rw [if_neg c19] at H
         exact absurd H (by simp)
       ·rw [if_neg c18] at H
        exact absurd H (by simp)
      ·rw [if_neg c17] at H
       exact absurd H (by simp)
     ·rw [if_neg c16] at H
      have c16b0:decide (x23_1 < ((l0_2.drop 1).length:Int))=false:=decide_eq_false c16
      have c16b9:decide (x23_1 < ((l0_2.length - 1:Nat):Int))=false:=by rw [← List.length_drop];exact c16b0
      have c16b9:decide (x23_1 < ((l0_2.length - 1:Nat):Int))=false:=by rw [← List.length_drop];exact c16b0
      clear c16
      replace H:=Option.bind_eq_some_iff.mp H
      obtain ⟨t135,A330,H⟩:=H
      replace H:(some t135)=some r:=H
      have A33:=Aside0.mk A330
      clear A330
      obtain rfl:=Option.some.inj H
      obtain ⟨Ao34,co34,eo34⟩:=Kd.R_slice HO_3.out
      subst eo34
      go_wp2_with (first | ((with_reducible refine gate_callee (f:=84) rfl ?_);refine goesL_ (some 47) rfl rfl Tryz.func84 (by kernel_rfl) rfl #[.slice Ao34 x3_1.length co34] rfl (by (try simp only [List.map_toArray,List.map_cons,List.map_nil]);first | done | rfl | (simp only [List.length_drop,List.length_take];rfl)) ?_;(with_reducible refine (logs_sealed.calls _ _ x3_1 t135 _ ?side1 ?side2 A33.out).mono ?_);(case side1=>repeat (first | exact (Kd.R_reads' HO_3.out).2.2 | (with_reducible refine Kd.C_alloc ?_ _) | (with_reducible refine Kd.C_drewN ?_ _) | (with_reducible refine Kd.C_drew ?_)));(case side2=>exact (Kd.R_reads' HO_3.out).2.1);rintro e w35 ⟨rfl,hb⟩;refine ⟨_,rfl,?_⟩;have n0_:=Aside0.mk (Kd.R_below (by (with_reducible repeat (first | apply Kd.R_alloc | apply Kd.R_drewN | apply Kd.R_drew));exact HO_3.out) hb);have n1_:=Aside0.mk (blk_below (g:=gb117) (o:=.cells #[.int .i64 a0_0,.int .i64 a0_1,.slice (some ad120) l0_2.length c0_2] 37 (0,0)) (by (with_reducible repeat (first | refine blk_drewN ?_ _ | refine blk_drew ?_ | refine blk_alloc ?_ _));exact BK117.out) hb);have n2_:=Aside0.mk (below_step (by repeat (first | (with_reducible first | exact HB.out | apply below_alloc | apply pw_below_drewN | apply below_drew1 | refine below_set ?_ GE117.out) | exact HB.out)) hb);clear HO_3;clear BK117;clear HB;have HO_3:=n0_;have BK117:=n1_;have HB:=n2_;clear n0_ n1_ n2_;(try clear hb);(try clear hb2);(try clear hk);(try clear hi)))
      go_ret
      exact ⟨by first | rfl | (simp [errW_none,errW_some] <;> rfl) | (simp [*,errW_none,errW_some] <;> rfl),by repeat (first | (with_reducible first | exact HB.out | apply below_alloc | apply pw_below_drewN | apply below_drew1 | refine below_set ?_ GE117.out) | exact HB.out)⟩
  ·rw [if_neg c6] at H
   exact absurd H (by simp)
 ·rw [if_neg c4] at H
  exact absurd H (by simp)
def lw_gauges.l0:Nat → List (S37) → List (S37) → Int → Option ((List (S37)))
 | 0,_,_,_=>none
 | k + 1,x0,x3,x4=>if x4 < (x0.length:Int) then (if 0 ≤ x4 then ((lw_ints.f ((rd_T37 x0 x4).f2)).bind fun t147=>(if x3.length < 3518437208883 then (lw_gauges.l0 k x0 (x3 ++ [(⟨(rd_T37 x0 x4).f0,(rd_T37 x0 x4).f1,t147⟩:S37)]) (wrap64 (x4 + 1))) else (none))) else (none)) else (some x3)
def lw_gauges.f (k:Nat) (l0:List (S37)):Option ((List (S37))):=lw_gauges.l0 k l0 (([]:List (S37))) 0
set_option maxHeartbeats 8000000 in
set_option maxRecDepth 100000 in
theorem lw_gauges.calls (k:Nat) (A0:Option Addr) (c0:Nat) (l0:List (S37)) (r:List (S37)) (w:World) (hr0:Kd.C k37 w A0 l0.length l0) (hc0:l0.length ≤ c0) (h:lw_gauges.f k l0=some r) :
  Calls Tryz.prog 12 #[.slice A0 l0.length c0] w fun e w'=>∃ v0_:Value,e=.returned (v0_) ∧ Kd.S k37 37 w' w.heap.size (fun _=>True) v0_ r ∧ Below w.heap.size w w':=by
 have hu37:=Tryz.underlying37
 have HR0:=Aside0.mk hr0
 have HC0:=Aside0.mk hc0
 clear hr0 hc0
 have HB:=Aside0.mk (Below.refl w.heap.size w)
 have H:(lw_gauges.l0 k l0 (([]:List (S37))) 0)=some r:=h
 clear h
 obtain ⟨y142,hy142⟩:∃ y_:List (S37),y_=(([]:List (S37))):=⟨_,rfl⟩
 replace H:(lw_gauges.l0 k l0 y142 0)=some r:=by first | (rw [hy142];with_reducible exact H) | (have H2_:=(Option.bind_some _ _).symm.trans H;rw [hy142];with_reducible exact H2_) | (have H2_:=(Option.bind_some _ _).symm.trans H;with_reducible exact H2_) | with_reducible exact H | (rw [hy142];exact H) | exact H
 have Ny142:=Aside0.mk hy142
 clear hy142
 have H':=Aside0.mk H
 clear H
 go_enter Tryz.func12,Tryz.ntmps12
 go_wp2_with (first | ((with_reducible refine gate_dst (N:=6) rfl ?_);refine Kd.S_lit k37 _ 37 ?hg (N:=6) ?hd (xs:=([]:List (S37))) (inner:=[]) (ok:=fun _=>True) (okp:=fun _=>True) ?hr ?hp (fun _ hk=>hk) trivial (Below.refl _ _) (Nat.le_refl _) (by simp) ?_;(case hd=>rfl);(case hg=>rfl);(case hr=>first | (go_simp;done) | (go_simp;rfl));(case hp=>exact (Reps.none _ _));intro v143 w2 ho3 hb hg_ hnew_;clear hg_ hnew_;(first | rw [← Ny142.out] at ho3 | (simp only [Int.reduceToNat] at ho3;rw [← Ny142.out] at ho3));have n0_:=Aside0.mk (Kd.S_lower ho3 (below_size (by repeat (first | (with_reducible first | exact HB.out | apply below_alloc | apply pw_below_drewN | apply below_drew1) | exact HB.out))));have n1_:=Aside0.mk (below_step (by repeat (first | (with_reducible first | exact HB.out | apply below_alloc | apply pw_below_drewN | apply below_drew1) | exact HB.out)) hb);clear HB;have HO144:=n0_;have HB:=n1_;clear n0_ n1_;clear hb ho3))
 go_loopg [3,4] k (fun kq v3 v4 w'=>∃ (x3_1:List (S37)) (x4_1:Int),v4=.int .i64 x4_1 ∧ Aside0 (lw_gauges.l0 kq l0 x3_1 x4_1=some r) ∧ Aside0 (kq ≤ k) ∧ Aside0 (Kd.S k37 37 w' w.heap.size (fun _=>True) v3 x3_1) ∧ Aside0 (Below w.heap.size w w'))
 case atStart=>exact ⟨(y142),(0),(by first | rfl | (simp;done) | (simp [*];done)),H',⟨Nat.le_refl _⟩,⟨by (with_reducible repeat (first | apply Kd.S_alloc | apply Kd.S_drewN | apply Kd.S_drew));exact HO144.out⟩,⟨by repeat (first | (with_reducible first | exact HB.out | apply below_alloc | apply pw_below_drewN | apply below_drew1) | exact HB.out)⟩⟩
 case round =>
  clear H'
  try clear c1
  try clear p2
  obtain ⟨x3_1,x4_1,rfl,HA,HK1,HO_3,HB⟩:=hrel
  cases gk with
  | zero=>exact absurd HA.out (by simp [lw_gauges.l0])
  | succ k1 =>
   have H:=HA.out
   clear HA
   simp only [lw_gauges.l0] at H
   by_cases c4:x4_1 < (l0.length:Int)
   ·rw [if_pos c4] at H
    have c4b0:decide (x4_1 < (l0.length:Int))=true:=decide_eq_true c4
    clear c4
    by_cases c5:0 ≤ x4_1
    ·rw [if_pos c5] at H
     have c5b0:decide (0 ≤ x4_1)=true:=decide_eq_true c5
     clear c5
     replace H:=Option.bind_eq_some_iff.mp H
     obtain ⟨t147,A60,H⟩:=H
     replace H:(if x3_1.length < 3518437208883 then (lw_gauges.l0 k1 l0 (x3_1 ++ [(⟨(rd_T37 l0 x4_1).f0,(rd_T37 l0 x4_1).f1,t147⟩:S37)]) (wrap64 (x4_1 + 1))) else (none))=some r:=H
     have A6:=Aside0.mk A60
     clear A60
     by_cases c7:x3_1.length < 3518437208883
     ·rw [if_pos c7] at H
      have LMc7:=Aside0.mk c7
      clear c7
      obtain ⟨y150,hy150⟩:∃ y_:List (S37),y_=(x3_1 ++ [(⟨(rd_T37 l0 x4_1).f0,(rd_T37 l0 x4_1).f1,t147⟩:S37)]):=⟨_,rfl⟩
      replace H:(lw_gauges.l0 k1 l0 y150 (wrap64 (x4_1 + 1)))=some r:=by first | (rw [hy150];with_reducible exact H) | (have H2_:=(Option.bind_some _ _).symm.trans H;rw [hy150];with_reducible exact H2_) | (have H2_:=(Option.bind_some _ _).symm.trans H;with_reducible exact H2_) | with_reducible exact H | (rw [hy150];exact H) | exact H
      have Ny150:=Aside0.mk hy150
      clear hy150
      have H':=Aside0.mk H
      clear H
      have p145:0 ≤ (x4_1:Int):=of_decide_eq_true (by first | (with_reducible assumption) | assumption)
      have q145:x4_1 < (l0.length:Int):=of_decide_eq_true (by first | (with_reducible assumption) | assumption)
      obtain ⟨ad145,A145_2,c145_2,e145,hx145_0,hx145_1,hx145_2,hl145_2,hi145_2⟩:=at_T37 HR0.out x4_1 p145 q145
      cases e145
      replace hx145_0:=(HB.out.cell (xbl w _ hx145_0)).trans hx145_0
      replace hx145_1:=(HB.out.cell (xbl w _ hx145_1)).trans hx145_1
      replace hx145_2:=(HB.out.cell (xbl w _ hx145_2)).trans hx145_2
      have HR145_2:=Aside0.mk hi145_2
      have HC145_2:=Aside0.mk hl145_2
      clear hi145_2 hl145_2
      replace p145:=eq_true p145
      replace q145:=eq_true q145
      go_wp2_with (first | ((with_reducible refine gate_dst (N:=5) rfl ?_);refine box_event ?hg (N:=5) ?hd (cs:=#[.int .i64 0,.int .i64 0,.slice none 0 0]) (t:=37) ?hr ?_;(case hd=>rfl);(case hg=>rfl);(case hr=>first | (go_simp;done) | (go_simp;rfl));intro gb146 hg w8 hbox hb;have n0_:=Aside0.mk (Kd.S_below (Kd.S_elderB (by (with_reducible repeat (first | apply Kd.S_alloc | apply Kd.S_drewN | apply Kd.S_drew));exact HO_3.out) gb146 (Nat.le_of_eq hg.symm)) hb);have n1_:=Aside0.mk (below_step (by repeat (first | (with_reducible first | exact HB.out | apply below_alloc | apply pw_below_drewN | apply below_drew1) | exact HB.out)) hb);have n2_:=Aside0.mk (hbox);have n3_:=Aside0.mk ((by rw [hg];exact (below_size (by repeat (first | (with_reducible first | exact HB.out | apply below_alloc | apply pw_below_drewN | apply below_drew1) | exact HB.out))):w.heap.size ≤ gb146));have n4_:=Aside0.mk ((by rw [hg];exact (below_size (by repeat (first | (with_reducible first | exact HB.out | apply below_alloc | apply pw_below_drewN | apply below_drew1) | exact HB.out))):w.heap.size ≤ gb146));clear HO_3;clear HB;have HO_3:=n0_;have HB:=n1_;have BK146:=n2_;have GW146:=n3_;have GE146:=n4_;clear n0_ n1_ n2_ n3_ n4_;clear hb hbox hg;have hcz9_0:w8.cell? ⟨gb146,0,none⟩=some (.int .i64 0):=(blk_cell BK146.out 0).trans rfl;have hcz9_1:w8.cell? ⟨gb146,1,none⟩=some (.int .i64 0):=(blk_cell BK146.out 1).trans rfl;have hcz9_2:w8.cell? ⟨gb146,2,none⟩=some (.slice none 0 0):=(blk_cell BK146.out 2).trans rfl;have hfz9_0:=blk_frozen BK146.out 0;have hfz9_1:=blk_frozen BK146.out 1;have hfz9_2:=blk_frozen BK146.out 2) | ((with_reducible refine gate_callee (f:=22) rfl ?_);refine goesL_ (some 19) rfl rfl Tryz.func22 (by kernel_rfl) rfl #[.slice A145_2 ((rd_T37 l0 x4_1).f2).length c145_2] rfl (by (try simp only [List.map_toArray,List.map_cons,List.map_nil]);first | done | rfl | (simp only [List.length_drop,List.length_take];rfl)) ?_;(with_reducible refine (lw_ints.calls _ _ ((rd_T37 l0 x4_1).f2) t147 _ ?side1 ?side2 A6.out).mono ?_);(case side1=>exact Kd.C_below HR145_2.out (by repeat (first | (with_reducible first | exact HB.out | apply below_alloc | apply pw_below_drewN | apply below_drew1 | refine below_set ?_ GE146.out) | exact HB.out)));(case side2=>exact HC145_2.out);rintro e w10 ⟨v148,rfl,ho0,hb⟩;refine ⟨_,rfl,?_⟩;have n0_:=Aside0.mk (Kd.S_elder' (by (with_reducible repeat (first | apply Kd.S_alloc | apply Kd.S_drewN | apply Kd.S_drew));exact (Kd.S_mono (Kd.S_far (p:=⟨gb146,2,none⟩) (Kd.S_far (p:=⟨gb146,1,none⟩) (Kd.S_far (p:=⟨gb146,0,none⟩) (Kd.S_mono HO_3.out (fun k_ hk=>(⟨hk,hk.2⟩:_ ∧ k_ ≠ gb146))) (fun _ hk=>hk.2) (.int .i64 ((rd_T37 l0 x4_1).f0))) (fun _ hk=>hk.2) (.int .i64 ((rd_T37 l0 x4_1).f1))) (fun _ hk=>hk.2) (.slice A145_2 ((rd_T37 l0 x4_1).f2).length c145_2)) (fun _ h_=>h_.1))) (Kd.R_base ho0) hb);have n1_:=Aside0.mk (Kd.R_lower ho0 (below_size (by repeat (first | (with_reducible first | exact HB.out | apply below_alloc | apply pw_below_drewN | apply below_drew1 | refine below_set ?_ GE146.out) | exact HB.out))));have n2_:=Aside0.mk (blk_below (g:=gb146) (o:=.cells #[.int .i64 ((rd_T37 l0 x4_1).f0),.int .i64 ((rd_T37 l0 x4_1).f1),.slice A145_2 ((rd_T37 l0 x4_1).f2).length c145_2] 37 (0,0)) (by (with_reducible repeat (first | refine blk_drewN ?_ _ | refine blk_drew ?_ | refine blk_alloc ?_ _));refine blk_put (cs:=#[.int .i64 ((rd_T37 l0 x4_1).f0),.int .i64 ((rd_T37 l0 x4_1).f1),.slice none 0 0]) ?_ 2 _ rfl;(with_reducible repeat (first | refine blk_drewN ?_ _ | refine blk_drew ?_ | refine blk_alloc ?_ _));refine blk_put (cs:=#[.int .i64 ((rd_T37 l0 x4_1).f0),.int .i64 0,.slice none 0 0]) ?_ 1 _ rfl;(with_reducible repeat (first | refine blk_drewN ?_ _ | refine blk_drew ?_ | refine blk_alloc ?_ _));refine blk_put (cs:=#[.int .i64 0,.int .i64 0,.slice none 0 0]) ?_ 0 _ rfl;(with_reducible repeat (first | refine blk_drewN ?_ _ | refine blk_drew ?_ | refine blk_alloc ?_ _));exact BK146.out) hb);have n3_:=Aside0.mk (below_step (by repeat (first | (with_reducible first | exact HB.out | apply below_alloc | apply pw_below_drewN | apply below_drew1 | refine below_set ?_ GE146.out) | exact HB.out)) hb);clear HO_3;clear BK146;clear HB;have HO_3:=n0_;have HO149:=n1_;have BK146:=n2_;have HB:=n3_;clear n0_ n1_ n2_ n3_;(try clear hb);(try clear hb2);(try clear hk);(try clear hi);(try clear ho0);obtain ⟨Ao11,co11,eo11⟩:=Kd.R_slice HO149.out;subst eo11;have hcz12_0:w10.cell? ⟨gb146,0,none⟩=some (.int .i64 ((rd_T37 l0 x4_1).f0)):=(blk_cell BK146.out 0).trans rfl;have hcz12_1:w10.cell? ⟨gb146,1,none⟩=some (.int .i64 ((rd_T37 l0 x4_1).f1)):=(blk_cell BK146.out 1).trans rfl;have hcz12_2:w10.cell? ⟨gb146,2,none⟩=some (.slice A145_2 ((rd_T37 l0 x4_1).f2).length c145_2):=(blk_cell BK146.out 2).trans rfl;have hfz12_0:=blk_frozen BK146.out 0;have hfz12_1:=blk_frozen BK146.out 1;have hfz12_2:=blk_frozen BK146.out 2) | ((with_reducible refine gate_store (t:=24) (p:=20) rfl ?_);refine store_event (t:=24) (p:=20) (v:=?vo_w13) (w1:=(w10.setCell ⟨gb146,2,none⟩ (.slice Ao11 t147.length co11))) ?hg ?ho ?hn ?hr ?_;(case ho=>rfl);(case hg=>rfl);(case hn=>rfl);(case hr=>first | (go_simp;done) | (go_simp;rfl));intro w13 hw;have n0_:Aside0 (Kd.S k37 37 w13 w.heap.size (fun k_=>some k_ ≠ (.slice Ao11 t147.length co11:Value).ownBlock ∧ k_ ≠ gb146) u3 x3_1):=⟨(by rw [hw];exact (by (with_reducible repeat (first | apply Kd.S_alloc | apply Kd.S_drewN | apply Kd.S_drew));exact Kd.S_mono (Kd.S_far (p:=⟨gb146,2,none⟩) (Kd.S_mono HO_3.out (fun k_ hk=>(⟨hk,hk.1.2⟩:_ ∧ k_ ≠ gb146))) (fun _ hk=>hk.2) (.slice Ao11 t147.length co11)) (fun _ hk=>⟨hk.1.2,hk.1.1.2⟩)))⟩;have n1_:Aside0 (Kd.R (Kd.int .i64) 3 w13 w.heap.size (fun _=>True) (.slice Ao11 t147.length co11) t147):=⟨(by rw [hw];exact (by (with_reducible repeat (first | apply Kd.R_alloc | apply Kd.R_drewN | apply Kd.R_drew));exact Kd.R_mono (Kd.R_far (p:=⟨gb146,2,none⟩) (Kd.R_types HO149.out BK146.out (by decide)) (fun _ hk=>hk.2) (.slice Ao11 t147.length co11)) (fun _ hk=>trivial)))⟩;have n2_:Aside0 (w13.heap[gb146]?=some (.cells #[.int .i64 ((rd_T37 l0 x4_1).f0),.int .i64 ((rd_T37 l0 x4_1).f1),.slice Ao11 t147.length co11] 37 (0,0))):=⟨(by rw [hw];exact (by (with_reducible repeat (first | refine blk_drewN ?_ _ | refine blk_drew ?_ | refine blk_alloc ?_ _));refine blk_put (cs:=#[.int .i64 ((rd_T37 l0 x4_1).f0),.int .i64 ((rd_T37 l0 x4_1).f1),.slice A145_2 ((rd_T37 l0 x4_1).f2).length c145_2]) ?_ 2 _ rfl;(with_reducible repeat (first | refine blk_drewN ?_ _ | refine blk_drew ?_ | refine blk_alloc ?_ _));exact BK146.out))⟩;have n3_:Aside0 (Below w.heap.size w w13):=⟨(by rw [hw];exact (by repeat (first | (with_reducible first | exact HB.out | apply below_alloc | apply pw_below_drewN | apply below_drew1 | refine below_set ?_ GE146.out) | exact HB.out)))⟩;clear hw;clear HO_3;clear HO149;clear BK146;clear HB;have HO_3:=n0_;have HO149:=n1_;have BK146:=n2_;have HB:=n3_;clear n0_ n1_ n2_ n3_;have hcz14_0:w13.cell? ⟨gb146,0,none⟩=some (.int .i64 ((rd_T37 l0 x4_1).f0)):=(blk_cell BK146.out 0).trans rfl;have hcz14_1:w13.cell? ⟨gb146,1,none⟩=some (.int .i64 ((rd_T37 l0 x4_1).f1)):=(blk_cell BK146.out 1).trans rfl;have hcz14_2:w13.cell? ⟨gb146,2,none⟩=some (.slice Ao11 t147.length co11):=(blk_cell BK146.out 2).trans rfl;have hfz14_0:=blk_frozen BK146.out 0;have hfz14_1:=blk_frozen BK146.out 1;have hfz14_2:=blk_frozen BK146.out 2) | ((with_reducible refine gate_builtin (b:=.append) (xs:=#[.tmp 21,.tmp 23]) rfl ?_);at_builtin;refine Kd.S_append k37 (w0:=w) w.heap.size rfl (.tmp 21) (.tmp 23) 35 37 (.agg #[(.int .i64 0),(.int .i64 0),(.slice none 0 0)]) 40 rfl Tryz.underlying35 info37 rfl (by decide) (by omega) u3 x3_1 (⟨(rd_T37 l0 x4_1).f0,(rd_T37 l0 x4_1).f1,t147⟩:S37) [.int .i64 ((rd_T37 l0 x4_1).f0),.int .i64 ((rd_T37 l0 x4_1).f1),.slice Ao11 t147.length co11] (fun k_=>k_ ≠ gb146) (fun k_=>some k_=(.slice Ao11 t147.length co11:Value).ownBlock) rfl rfl ?aP (fun k_ hk_=>((Kd.R_mono (ok':=fun k_=>((fun k_=>k_ ≠ gb146)) k_ ∧ some k_ ≠ (u3:Value).ownBlock) (Kd.R_types (Kd.R_apart' (HO149.out) (Kd.S_typed HO_3.out) (by decide)) BK146.out (by decide)) (fun k_ hk=>⟨hk.2,hk.1.2⟩))).1 k_ hk_.symm) ?aF ?aO ?aB ?aS ?aL ?_;(case aP=>exact k37_mkM _ _ _ (⟨(rd_T37 l0 x4_1).f0,(rd_T37 l0 x4_1).f1,t147⟩:S37) (Kd.R_mono (Kd.R_tight rfl (Kd.R_mono (ok':=fun k_=>((fun k_=>k_ ≠ gb146)) k_ ∧ some k_ ≠ (u3:Value).ownBlock) (Kd.R_types (Kd.R_apart' (HO149.out) (Kd.S_typed HO_3.out) (by decide)) BK146.out (by decide)) (fun k_ hk=>⟨hk.2,hk.1.2⟩))) (fun _ h_=>h_)));(case aB=>exact (by repeat (first | (with_reducible first | exact HB.out | apply below_alloc | apply pw_below_drewN | apply below_drew1 | refine below_set ?_ GE146.out) | exact HB.out)));(case aF=>exact (fun k_ hk=>Kd.freshB (g:=gb146) (o:=.cells #[.int .i64 ((rd_T37 l0 x4_1).f0),.int .i64 ((rd_T37 l0 x4_1).f1),.slice Ao11 t147.length co11] 37 (0,0)) (by (with_reducible repeat (first | refine blk_drewN ?_ _ | refine blk_drew ?_ | refine blk_alloc ?_ _));exact BK146.out) k_ hk));(case aO=>exact (by (with_reducible repeat (first | apply Kd.S_alloc | apply Kd.S_drewN | apply Kd.S_drew));exact Kd.S_mono HO_3.out (fun k_ hk=>⟨hk.2,fun e_=>hk.1 e_⟩)));(case aS=>exact (below_size (by repeat (first | (with_reducible first | exact HB.out | apply below_alloc | apply pw_below_drewN | apply below_drew1 | refine below_set ?_ GE146.out) | exact HB.out))));(case aL=>have:=LMc7.out;omega);intro v151 w15 ho hb hg hat;rw [← Ny150.out] at ho;have n0_:=Aside0.mk (blk_grown (g:=gb146) (o:=.cells #[.int .i64 ((rd_T37 l0 x4_1).f0),.int .i64 ((rd_T37 l0 x4_1).f1),.slice Ao11 t147.length co11] 37 (0,0)) (by (with_reducible repeat (first | refine blk_drewN ?_ _ | refine blk_drew ?_ | refine blk_alloc ?_ _));exact BK146.out) hg (Kd.S_away HO_3.out (fun _ hk=>hk.2)));have n1_:=Aside0.mk (hb);have n2_:=Aside0.mk (ho);clear BK146;clear HB;clear HO_3;clear HO149;have BK146:=n0_;have HB:=n1_;have HO152:=n2_;clear n0_ n1_ n2_;clear ho hb hg hat))
      go_roundg k1
      case measure=>have:=HK1.out;omega
      case rel=>exact ⟨(y150),(wrap64 (x4_1 + 1)),(by first | rfl | (simp;done) | (simp [*];done)),H',⟨by have:=HK1.out;omega⟩,⟨by (with_reducible repeat (first | apply Kd.S_alloc | apply Kd.S_drewN | apply Kd.S_drew));exact Kd.S_mono HO152.out (fun _ hk=>trivial)⟩,⟨by repeat (first | (with_reducible first | exact HB.out | apply below_alloc | apply pw_below_drewN | apply below_drew1 | refine below_set ?_ GE146.out) | exact HB.out)⟩⟩
     ·rw [if_neg c7] at H
      exact absurd H (by simp)
    ·rw [if_neg c5] at H
     exact absurd H (by simp)
   ·rw [if_neg c4] at H
    have c4b0:decide (x4_1 < (l0.length:Int))=false:=decide_eq_false c4
    clear c4
    obtain rfl:=Option.some.inj H
    go_wp2
    go_ret
    exact ⟨_,by first | rfl | (simp [errW_none,errW_some] <;> rfl) | (simp [*,errW_none,errW_some] <;> rfl),by (with_reducible repeat (first | apply Kd.S_alloc | apply Kd.S_drewN | apply Kd.S_drew));exact HO_3.out,by repeat (first | (with_reducible first | exact HB.out | apply below_alloc | apply pw_below_drewN | apply below_drew1) | exact HB.out)⟩
mutual
def logs_gauges_1.j0:Nat → List ByteArray → Bool → Int → Int → Option (Int × Int × List Int)
 | 0,_,_,_,_=>none
 | k + 1,x0,x15,x102000,x102001=>if x15=true then (some (x102000,x102001,([]:List Int))) else (if 0 < (x0.length:Int) then ((logs_number.f (rdOf ByteArray.empty x0 0)).bind fun t103=>(if 1 < (x0.length:Int) then ((logs_number.f (rdOf ByteArray.empty x0 1)).bind fun t105=>(if 2 ≤ (x0.length:Int) then (logs_gauges_1.l0 k 0 (x0.drop 2) ((x0.drop 2).length:Int) 0 t103 t105 ([]:List Int)) else (none))) else (none))) else (none))
def logs_gauges_1.l0:Nat → Int → List ByteArray → Int → Int → Int → Int → List Int → Option (Int × Int × List Int)
 | 0,_,_,_,_,_,_,_=>none
 | k + 1,x3,x28,x29,x30,x102000,x102001,x102002=>if x30 < x29 then (if 0 ≤ x30 then (if x30 < (x28.length:Int) then ((strconv_Atoi.f (rdOf ByteArray.empty x28 x30)).bind fun bt108=>(if bt108.2.isNone=true then ((logs_within.f 0 10000 (([wrap64 (x3 + bt108.1)]:List Int))).bind fun t114=>(if t114=true then (if x102002.length < 17592186044416 then (logs_gauges_1.l0 k (wrap64 (x3 + bt108.1)) x28 x29 (wrap64 (x30 + 1)) x102000 x102001 (x102002 ++ [wrap64 (x3 + bt108.1)])) else (none)) else (some (0,0,([]:List Int))))) else (some (0,0,([]:List Int))))) else (none)) else (none)) else (some (x102000,x102001,x102002))
end
def logs_gauges_1.f (k:Nat) (l0:List ByteArray):Option (Int × Int × List Int):=if (l0.length:Int) < 3 then (logs_gauges_1.j0 k l0 true 0 0) else (logs_gauges_1.j0 k l0 (decide ((l0.length:Int) > 26)) 0 0)
def logs_gauges_1.T3:Bool × List (List Nat × List Nat):=(true,[([],[]),([0],[0]),([1],[1]),([2],[2]),([],[]),([4],[4]),([5],[5]),([6,3],[6]),([0,1,2,3],[]),([8,3,7,0,1,2,3],[3,8]),([0,1,2,3,4,5,6,7,8,9],[]),([10,7,9,0,1,2,3,4,5,6,7,8,9],[7,10])])
def logs_gauges_1.B3:List Nat:=[0,1,3,7,0,16,48,127,15,511,1023,2047]
theorem logs_gauges_1.tab3:rtab .any (opsOf Tryz.f66 3)=logs_gauges_1.T3:=by kernel_rfl
theorem logs_gauges_1.bits3:waitsOk logs_gauges_1.T3.2 logs_gauges_1.B3=true:=by kernel_rfl
set_option maxHeartbeats 8000000 in
set_option maxRecDepth 100000 in
theorem logs_gauges_1.calls (k:Nat) (A0:Option Addr) (c0:Nat) (l0:List ByteArray) (r1:Int) (r2:Int) (r3:List Int) (w:World) (hbase:Base w) (hr0:Kd.C Kd.string w A0 l0.length l0) (hc0:l0.length ≤ c0) (h:logs_gauges_1.f k l0=some (r1,r2,r3)) :
  Calls Tryz.prog 66 #[.slice A0 l0.length c0] w fun e w'=>∃ v2_:Value,e=.returned (.agg #[.int .i64 r1,.int .i64 r2,v2_]) ∧ Kd.R (Kd.int .i64) 3 w' w.heap.size (fun _=>True) v2_ r3 ∧ Below w.heap.size w w':=by
 have hu37:=Tryz.underlying37
 have hu107:=Tryz.underlying107
 have HR0:=Aside0.mk hr0
 have HC0:=Aside0.mk hc0
 clear hr0 hc0
 have HB:=Aside0.mk (Below.refl w.heap.size w)
 have H:(if (l0.length:Int) < 3 then (logs_gauges_1.j0 k l0 true 0 0) else (logs_gauges_1.j0 k l0 (decide ((l0.length:Int) > 26)) 0 0))=some (r1,r2,r3):=h
 clear h
 have HC2:=Aside0.mk H
 clear H
 go_enter Tryz.func66,Tryz.ntmps66
 go_upto_region 1 with (first | ((with_reducible refine gate_dst (N:=2) rfl ?_);(try (refine gate_guard (by rfl) ?_;dsimp only));refine box_event ?hg (N:=2) ?hd (cs:=#[.int .i64 0,.int .i64 0,.slice none 0 0]) (t:=37) ?hr ?_;(case hd=>rfl);(case hg=>rfl);(case hr=>first | (go_simp;done) | (go_simp;rfl));intro gb101 hg w3 hbox hb;have n0_:=Aside0.mk (below_step (by repeat (first | (with_reducible first | exact HB.out | apply below_alloc | apply pw_below_drewN | apply below_drew1) | exact HB.out)) hb);have n1_:=Aside0.mk (hbox);have n2_:=Aside0.mk ((by rw [hg];exact (below_size (by repeat (first | (with_reducible first | exact HB.out | apply below_alloc | apply pw_below_drewN | apply below_drew1) | exact HB.out))):w.heap.size ≤ gb101));have n3_:=Aside0.mk ((by rw [hg];exact (below_size (by repeat (first | (with_reducible first | exact HB.out | apply below_alloc | apply pw_below_drewN | apply below_drew1) | exact HB.out))):w.heap.size ≤ gb101));clear HB;have HB:=n0_;have BK101:=n1_;have GW101:=n2_;have GE101:=n3_;clear n0_ n1_ n2_ n3_;clear hb hbox hg))
 (try simp only [Act.put,xsA,xsZ,xsS])
 go_cut [15] (fun v15 wc=>∃ (kq:Nat) (x15_1:Bool),v15=.bool x15_1 ∧ Aside0 (logs_gauges_1.j0 kq l0 x15_1 0 0=some (r1,r2,r3)) ∧ Aside0 (kq ≤ k) ∧ Aside0 (wc.heap[gb101]?=some (.cells #[.int .i64 0,.int .i64 0,(.slice none 0 0)] 37 (0,0))) ∧ Aside0 (Below w.heap.size w wc))
 case first =>
  have H:=HC2.out
  clear HC2
  by_cases c4:(l0.length:Int) < 3
  ·rw [if_pos c4] at H
   have c4b0:decide ((l0.length:Int) < 3)=true:=decide_eq_true c4
   have c4b1:decide (l0.length < 3)=true:=decide_eq_true (by omega)
   clear c4
   (first | rw [c4b0] | (simp only [i64_w,i32_w];rw [c4b0]) | skip)
   have H':=Aside0.mk H
   clear H
   go_wp2
   go_meet
   case rel=>exact ⟨_,(true),(by first | rfl | (simp;done) | (simp [*];done)),H',⟨by first | omega | exact Nat.le_refl _⟩,⟨by (with_reducible repeat (first | refine blk_drewN ?_ _ | refine blk_drew ?_ | refine blk_alloc ?_ _));exact BK101.out⟩,⟨by repeat (first | (with_reducible first | exact HB.out | apply below_alloc | apply pw_below_drewN | apply below_drew1 | refine below_set ?_ GE101.out) | exact HB.out)⟩⟩
  ·rw [if_neg c4] at H
   have c4b0:decide ((l0.length:Int) < 3)=false:=decide_eq_false c4
   have c4b1:decide (l0.length < 3)=false:=decide_eq_false (by omega)
   clear c4
   (first | rw [c4b0] | (simp only [i64_w,i32_w];rw [c4b0]) | skip)
   have H':=Aside0.mk H
   clear H
   go_wp2
   go_meet
   case rel=>exact ⟨_,(decide ((l0.length:Int) > 26)),(by first | rfl | (simp;done) | (simp [*];done)),H',⟨by first | omega | exact Nat.le_refl _⟩,⟨by (with_reducible repeat (first | refine blk_drewN ?_ _ | refine blk_drew ?_ | refine blk_alloc ?_ _));exact BK101.out⟩,⟨by repeat (first | (with_reducible first | exact HB.out | apply below_alloc | apply pw_below_drewN | apply below_drew1 | refine below_set ?_ GE101.out) | exact HB.out)⟩⟩
 case rest =>
  clear HC2
  try clear p2
  try clear c4
  try clear c4b0
  try clear c4b1
  obtain ⟨kq,x15_1,rfl,HA,HJ1,BK101,HB⟩:=hcut
  cases kq with
  | zero=>exact absurd HA.out (by simp [logs_gauges_1.j0])
  | succ kj1 =>
   have H:=HA.out
   clear HA
   simp only [logs_gauges_1.j0] at H
   by_cases c5:x15_1=true
   ·subst c5
    have H1:(some (0,0,([]:List Int)))=some (r1,r2,r3):=by rw [if_pos rfl] at H;exact H
    clear H
    have H:=H1
    clear H1
    simp only [Option.some.injEq,Prod.mk.injEq] at H
    obtain ⟨rfl,rfl,rfl⟩:=H
    have hcz6_0:wc.cell? ⟨gb101,0,none⟩=some (.int .i64 0):=(blk_cell BK101.out 0).trans rfl
    have hcz6_1:wc.cell? ⟨gb101,1,none⟩=some (.int .i64 0):=(blk_cell BK101.out 1).trans rfl
    have hcz6_2:wc.cell? ⟨gb101,2,none⟩=some (.slice none 0 0):=(blk_cell BK101.out 2).trans rfl
    have hfz6_0:=blk_frozen BK101.out 0
    have hfz6_1:=blk_frozen BK101.out 1
    have hfz6_2:=blk_frozen BK101.out 2
    go_wp2
    refine bodyPost_ret (results_cell_row rfl _ _ gb101 37 #[.int .i64 0,.int .i64 0,.slice none 0 0] (0,0) _ rfl (by (with_reducible repeat (first | refine blk_drewN ?_ _ | refine blk_drew ?_ | refine blk_alloc ?_ _));refine blk_put (cs:=#[.int .i64 0,.int .i64 0,.slice none 0 0]) ?_ 2 _ rfl;(with_reducible repeat (first | refine blk_drewN ?_ _ | refine blk_drew ?_ | refine blk_alloc ?_ _));refine blk_put (cs:=#[.int .i64 0,.int .i64 0,.slice none 0 0]) ?_ 1 _ rfl;(with_reducible repeat (first | refine blk_drewN ?_ _ | refine blk_drew ?_ | refine blk_alloc ?_ _));refine blk_put (cs:=#[.int .i64 0,.int .i64 0,.slice none 0 0]) ?_ 0 _ rfl;(with_reducible repeat (first | refine blk_drewN ?_ _ | refine blk_drew ?_ | refine blk_alloc ?_ _));exact BK101.out) Tryz.underlying37 rfl (by kernel_rfl)) rfl ?_
    exact ⟨_,by first | rfl | (simp [errW_none,errW_some] <;> rfl) | (simp [*,errW_none,errW_some] <;> rfl),by first | exact Kd.R_nil _ _ _ _ _ | exact Kd.N_nil _ _ _ _ _ | exact Kd.V_nil _ _ _ _ _ | exact Kd.Q_nil _ _ _ _ _ | exact Kd.S_nil _ _ _ _ _,by repeat (first | (with_reducible first | exact HB.out | apply below_alloc | apply pw_below_drewN | apply below_drew1 | refine below_set ?_ GE101.out) | exact HB.out)⟩
   ·replace c5:=Bool.eq_false_iff.mpr c5
    subst c5
    have H1:(if 0 < (l0.length:Int) then ((logs_number.f (rdOf ByteArray.empty l0 0)).bind fun t103=>(if 1 < (l0.length:Int) then ((logs_number.f (rdOf ByteArray.empty l0 1)).bind fun t105=>(if 2 ≤ (l0.length:Int) then (logs_gauges_1.l0 kj1 0 (l0.drop 2) ((l0.drop 2).length:Int) 0 t103 t105 ([]:List Int)) else (none))) else (none))) else (none))=some (r1,r2,r3):=by rw [if_neg (show ¬ (false=true) by decide)] at H;exact H
    clear H
    have H:=H1
    clear H1
    by_cases c7:0 < (l0.length:Int)
    ·rw [if_pos c7] at H
     have c7b0:decide (0 < (l0.length:Int))=true:=decide_eq_true c7
     have c7b1:decide (0 < l0.length)=true:=decide_eq_true (by omega)
     clear c7
     replace H:=Option.bind_eq_some_iff.mp H
     obtain ⟨t103,A80,H⟩:=H
     replace H:(if 1 < (l0.length:Int) then ((logs_number.f (rdOf ByteArray.empty l0 1)).bind fun t105=>(if 2 ≤ (l0.length:Int) then (logs_gauges_1.l0 kj1 0 (l0.drop 2) ((l0.drop 2).length:Int) 0 t103 t105 ([]:List Int)) else (none))) else (none))=some (r1,r2,r3):=H
     have A8:=Aside0.mk A80
     clear A80
     by_cases c9:1 < (l0.length:Int)
     ·rw [if_pos c9] at H
      have c9b0:decide (1 < (l0.length:Int))=true:=decide_eq_true c9
      have c9b1:decide (1 < l0.length)=true:=decide_eq_true (by omega)
      clear c9
      replace H:=Option.bind_eq_some_iff.mp H
      obtain ⟨t105,A100,H⟩:=H
      replace H:(if 2 ≤ (l0.length:Int) then (logs_gauges_1.l0 kj1 0 (l0.drop 2) ((l0.drop 2).length:Int) 0 t103 t105 ([]:List Int)) else (none))=some (r1,r2,r3):=H
      have A10:=Aside0.mk A100
      clear A100
      by_cases c11:2 ≤ (l0.length:Int)
      ·rw [if_pos c11] at H
       have c11b0:=eq_true c11
       have c11b1:decide (2 ≤ (l0.length:Int))=true:=decide_eq_true c11
       clear c11
       have H':=Aside0.mk H
       clear H
       try go_wp2
       have n0_:=Aside0.mk (blk_drew BK101.out)
       have n1_:=Aside0.mk (below_drew1 HB.out)
       clear BK101
       clear HB
       have BK101:=n0_
       have HB:=n1_
       clear n0_ n1_
       have p102:0 ≤ (0:Int):=(by omega)
       have q102:0 < (l0.length:Int):=of_decide_eq_true (by first | (with_reducible assumption) | assumption)
       obtain ⟨ad102,e102,hx102_0⟩:=Kd.at_string HR0.out 0 p102 q102
       have hw102_0:=hx102_0
       (try rw [show ((0:Int)).toNat=0 from rfl] at hw102_0)
       (try rw [show 0 * 1=0 from rfl] at hw102_0)
       (try rw [Addr.add_zero'] at hw102_0)
       cases e102
       have qi102:(0 < l0.length)=True:=eq_true (by omega)
       (try rw [show ((0:Int)).toNat=0 from rfl] at hx102_0)
       (try rw [Addr.add_zero'] at hx102_0)
       replace hx102_0:=(HB.out.cell (xbl w _ hx102_0)).trans hx102_0
       replace p102:=eq_true p102
       replace q102:=eq_true q102
       have p104:0 ≤ (1:Int):=(by omega)
       have q104:1 < (l0.length:Int):=of_decide_eq_true (by first | (with_reducible assumption) | assumption)
       obtain ⟨ad104,e104,hx104_0⟩:=Kd.at_string HR0.out 1 p104 q104
       have hw104_0:=hx104_0
       (try rw [show ((1:Int)).toNat=1 from rfl] at hw104_0)
       (try rw [show 1 * 1=1 from rfl] at hw104_0)
       (try simp only [Nat.reduceMul,Nat.reduceEqDiff,Go.Addr.add,↓reduceIte] at hw104_0)
       obtain rfl:ad102=ad104:=(by injection e104)
       (try simp only [show (1:Int).toNat=1 from rfl,Nat.reduceMul,Nat.reduceEqDiff,Go.Addr.add,↓reduceIte] at hx104_0)
       have qi104:(1 < l0.length)=True:=eq_true (by omega)
       (try rw [show ((1:Int)).toNat=1 from rfl] at hx104_0)
       replace hx104_0:=(HB.out.cell (xbl w _ hx104_0)).trans hx104_0
       replace p104:=eq_true p104
       replace q104:=eq_true q104
       refine start_ (n:=12) (S:=fun w'=>w'.cell? ad102=some (.string (rdOf ByteArray.empty l0 0)) ∧ w'.cell? ⟨ad102.block,ad102.off + 1,none⟩=some (.string (rdOf ByteArray.empty l0 1))) (ds:=[]) #[false,false,false,false,false,false,false,false,false,false,false,false] (by kernel_rfl) rfl rfl ⟨((HB.out.cell (xbl w _ hw102_0)).trans hw102_0),((HB.out.cell (xbl w _ hw104_0)).trans hw104_0)⟩ (fun hHeld=>?_);refine with_tabW logs_gauges_1.tab3 logs_gauges_1.bits3 (fun HT_ HW_=>?_)
       generalize wc.drew=w12 at BK101 HB hx102_0 hx104_0 hHeld ⊢
       refine pure_ (i:=0) (N:=some 17) (v:=?_) (a':=?_) #[true,false,false,false,false,false,false,false,false,false,false,false] rfl rfl (any_of HT_.out (by kernel_rfl)) (fun _ _ _ h=>h) (Or.inl ⟨by rfl,?_⟩) ?_ ?_
       rotate_left
       ·intro w'
        go_simp
        with_reducible rfl
       rotate_left
       ·simp only [Act.put,xsA,xsZ,xsS,i64_w,i32_w]
        rfl
       refine pure_ (i:=1) (N:=some 18) (v:=?_) (a':=?_) #[true,true,false,false,false,false,false,false,false,false,false,false] rfl rfl (any_of HT_.out (by kernel_rfl)) (fun _ _ _ h=>h) (Or.inl ⟨by rfl,?_⟩) ?_ ?_
       rotate_left
       ·intro w'
        go_simp
        with_reducible rfl
       rotate_left
       ·simp only [Act.put,xsA,xsZ,xsS,i64_w,i32_w]
        rfl
       refine pure_ (i:=4) (N:=some 21) (v:=?_) (a':=?_) #[true,true,false,false,true,false,false,false,false,false,false,false] rfl rfl (any_of HT_.out (by kernel_rfl)) (fun _ _ _ h=>h) (Or.inl ⟨by rfl,?_⟩) ?_ ?_
       rotate_left
       ·intro w'
        go_simp
        with_reducible rfl
       rotate_left
       ·simp only [Act.put,xsA,xsZ,xsS,i64_w,i32_w]
        rfl
       refine pure_ (i:=5) (N:=some 22) (v:=?_) (a':=?_) #[true,true,false,false,true,true,false,false,false,false,false,false] rfl rfl (any_of HT_.out (by kernel_rfl)) (fun _ _ _ h=>h) (Or.inl ⟨by rfl,?_⟩) ?_ ?_
       rotate_left
       ·intro w'
        go_simp
        with_reducible rfl
       rotate_left
       ·simp only [Act.put,xsA,xsZ,xsS,i64_w,i32_w]
        rfl
       refine take_ (i:=2) (N:=some 19) (v:=?_) (a':=?_) #[true,true,true,false,true,true,false,false,false,false,false,false] rfl rfl (take_ofW HT_.out HW_.out (by kernel_rfl)) (fun _ _ _ h=>h) (Or.inl ⟨by rfl,?_⟩) hHeld ?_ ?_
       rotate_left
       ·rintro w' ⟨s0,s1⟩
        go_simp
        with_reducible rfl
       rotate_left
       ·simp only [Act.put,xsA,xsZ,xsS,i64_w,i32_w]
        rfl
       refine take_ (i:=6) (N:=some 23) (v:=?_) (a':=?_) #[true,true,true,false,true,true,true,false,false,false,false,false] rfl rfl (take_ofW HT_.out HW_.out (by kernel_rfl)) (fun _ _ _ h=>h) (Or.inl ⟨by rfl,?_⟩) hHeld ?_ ?_
       rotate_left
       ·rintro w' ⟨s0,s1⟩
        go_simp
        with_reducible rfl
       rotate_left
       ·simp only [Act.put,xsA,xsZ,xsS,i64_w,i32_w]
        rfl
       refine one_ (i:=3) (N:=some 20) #[true,true,true,true,true,true,true,false,false,false,false,false] rfl rfl (one_of HT_.out (by kernel_rfl)) (by decide) (fun K hK=>?_)
       refine goes_ Tryz.func51 (by kernel_rfl) rfl #[.string (rdOf ByteArray.empty l0 0)] (by rfl) rfl rfl (by (try simp only [List.map_toArray,List.map_cons,List.map_nil]);first | done | rfl | (simp only [List.length_drop,List.length_take];rfl)) ?_
       with_reducible refine (logs_number.calls (rdOf ByteArray.empty l0 0) t103 _ ?side1 A8.out).mono ?_
       (case side1=>exact Base.step hbase (by repeat (first | (with_reducible first | exact HB.out | apply below_alloc | apply pw_below_drewN | apply below_drew1 | refine below_set ?_ GE101.out) | exact HB.out)))
       rintro e w13 ⟨rfl,hb⟩
       refine ⟨_,rfl,?_⟩
       have n0_:=Aside0.mk (blk_below (g:=gb101) (o:=.cells #[.int .i64 0,.int .i64 0,.slice none 0 0] 37 (0,0)) (by (with_reducible repeat (first | refine blk_drewN ?_ _ | refine blk_drew ?_ | refine blk_alloc ?_ _));exact BK101.out) hb)
       have n1_:=Aside0.mk (below_step (by repeat (first | (with_reducible first | exact HB.out | apply below_alloc | apply pw_below_drewN | apply below_drew1 | refine below_set ?_ GE101.out) | exact HB.out)) hb)
       clear BK101
       clear HB
       have BK101:=n0_
       have HB:=n1_
       clear n0_ n1_
       (try clear hb)
       (try clear hb2)
       (try clear hk)
       (try clear hi)
       refine hK.out _ _ ⟨((HB.out.cell (xbl w _ hw102_0)).trans hw102_0),((HB.out.cell (xbl w _ hw104_0)).trans hw104_0)⟩ (fun hHeld=>?_)
       clear hK K
       refine norm_ (a':=?_) ?_ ?_
       rotate_left
       ·show Act.put _ (some 20) _=_
        simp only [Act.put,xsA,xsZ,xsS,i64_w,i32_w]
        rfl
       refine pure_ (i:=8) (N:=some 25) (v:=?_) (a':=?_) #[true,true,true,true,true,true,true,false,true,false,false,false] rfl rfl (any_of HT_.out (by kernel_rfl)) (fun _ _ _ h=>h) (Or.inl ⟨by rfl,?_⟩) ?_ ?_
       rotate_left
       ·intro w'
        go_simp
        with_reducible rfl
       rotate_left
       ·simp only [Act.put,xsA,xsZ,xsS,i64_w,i32_w]
        rfl
       refine one_ (i:=7) (N:=some 24) #[true,true,true,true,true,true,true,true,true,false,false,false] rfl rfl (one_of HT_.out (by kernel_rfl)) (by decide) (fun K hK=>?_)
       refine goes_ Tryz.func51 (by kernel_rfl) rfl #[.string (rdOf ByteArray.empty l0 1)] (by rfl) rfl rfl (by (try simp only [List.map_toArray,List.map_cons,List.map_nil]);first | done | rfl | (simp only [List.length_drop,List.length_take];rfl)) ?_
       with_reducible refine (logs_number.calls (rdOf ByteArray.empty l0 1) t105 _ ?side1 A10.out).mono ?_
       (case side1=>exact Base.step hbase (by repeat (first | (with_reducible first | exact HB.out | apply below_alloc | apply pw_below_drewN | apply below_drew1 | refine below_set ?_ GE101.out) | exact HB.out)))
       rintro e w14 ⟨rfl,hb⟩
       refine ⟨_,rfl,?_⟩
       have n0_:=Aside0.mk (blk_below (g:=gb101) (o:=.cells #[.int .i64 0,.int .i64 0,.slice none 0 0] 37 (0,0)) (by (with_reducible repeat (first | refine blk_drewN ?_ _ | refine blk_drew ?_ | refine blk_alloc ?_ _));exact BK101.out) hb)
       have n1_:=Aside0.mk (below_step (by repeat (first | (with_reducible first | exact HB.out | apply below_alloc | apply pw_below_drewN | apply below_drew1 | refine below_set ?_ GE101.out) | exact HB.out)) hb)
       clear BK101
       clear HB
       have BK101:=n0_
       have HB:=n1_
       clear n0_ n1_
       (try clear hb)
       (try clear hb2)
       (try clear hk)
       (try clear hi)
       refine hK.out _ _ ⟨((HB.out.cell (xbl w _ hw102_0)).trans hw102_0),((HB.out.cell (xbl w _ hw104_0)).trans hw104_0)⟩ (fun hHeld=>?_)
       clear hK K
       refine norm_ (a':=?_) ?_ ?_
       rotate_left
       ·show Act.put _ (some 24) _=_
        simp only [Act.put,xsA,xsZ,xsS,i64_w,i32_w]
        rfl
       refine one_ (i:=9) (N:=none) #[true,true,true,true,true,true,true,true,true,true,false,false] rfl rfl (one_of HT_.out (by kernel_rfl)) (by decide) (fun K hK=>?_)
       have hs15:w14.cell? ⟨gb101,0,none⟩=some (.int .i64 0):=(blk_cell BK101.out 0).trans rfl
       have hfs15:=blk_frozen BK101.out 0
       refine skip_ (w1:=?_) (by rfl) rfl ?_ ?_
       rotate_left
       ·go_simp
        rfl
       refine hK.out _ _ ⟨((cell_far (p:=⟨gb101,_,none⟩) (by first | exact Nat.ne_of_lt (Nat.lt_of_lt_of_le (by have:=xbl _ _ hw102_0;first | rwa [add_block] at this | exact this) GW101.out) | (rw [add_block];exact Nat.ne_of_lt (Nat.lt_of_lt_of_le (by have:=xbl _ _ hw102_0;first | rwa [add_block] at this | exact this) GW101.out)) | (show (Addr.add _ _).block ≠ _;rw [add_block];exact Nat.ne_of_lt (Nat.lt_of_lt_of_le (by have:=xbl _ _ hw102_0;first | rwa [add_block] at this | exact this) GW101.out)) | (dsimp only;exact Nat.ne_of_lt (Nat.lt_of_lt_of_le (by have:=xbl _ _ hw102_0;first | rwa [add_block] at this | exact this) GW101.out))) _).trans (hHeld.1)),((cell_far (p:=⟨gb101,_,none⟩) (by first | exact Nat.ne_of_lt (Nat.lt_of_lt_of_le (by have:=xbl _ _ hw104_0;first | rwa [add_block] at this | exact this) GW101.out) | (rw [add_block];exact Nat.ne_of_lt (Nat.lt_of_lt_of_le (by have:=xbl _ _ hw104_0;first | rwa [add_block] at this | exact this) GW101.out)) | (show (Addr.add _ _).block ≠ _;rw [add_block];exact Nat.ne_of_lt (Nat.lt_of_lt_of_le (by have:=xbl _ _ hw104_0;first | rwa [add_block] at this | exact this) GW101.out)) | (dsimp only;exact Nat.ne_of_lt (Nat.lt_of_lt_of_le (by have:=xbl _ _ hw104_0;first | rwa [add_block] at this | exact this) GW101.out))) _).trans (hHeld.2))⟩ (fun hHeld=>?_)
       clear hK K
       refine pure_ (i:=10) (N:=some 26) (v:=?_) (a':=?_) #[true,true,true,true,true,true,true,true,true,true,true,false] rfl rfl (any_of HT_.out (by kernel_rfl)) (fun _ _ _ h=>h) (Or.inl ⟨by rfl,?_⟩) ?_ ?_
       rotate_left
       ·intro w'
        go_simp
        with_reducible rfl
       rotate_left
       ·simp only [Act.put,xsA,xsZ,xsS,i64_w,i32_w]
        rfl
       refine one_ (i:=11) (N:=none) #[true,true,true,true,true,true,true,true,true,true,true,true] rfl rfl (one_of HT_.out (by kernel_rfl)) (by decide) (fun K hK=>?_)
       have hs16:w14.cell? ⟨gb101,1,none⟩=some (.int .i64 0):=(blk_cell BK101.out 1).trans rfl
       have hfs16:=blk_frozen BK101.out 1
       refine skip_ (w1:=?_) (by rfl) rfl ?_ ?_
       rotate_left
       ·go_simp
        rfl
       refine hK.out _ _ ⟨((cell_far (p:=⟨gb101,_,none⟩) (by first | exact Nat.ne_of_lt (Nat.lt_of_lt_of_le (by have:=xbl _ _ hw102_0;first | rwa [add_block] at this | exact this) GW101.out) | (rw [add_block];exact Nat.ne_of_lt (Nat.lt_of_lt_of_le (by have:=xbl _ _ hw102_0;first | rwa [add_block] at this | exact this) GW101.out)) | (show (Addr.add _ _).block ≠ _;rw [add_block];exact Nat.ne_of_lt (Nat.lt_of_lt_of_le (by have:=xbl _ _ hw102_0;first | rwa [add_block] at this | exact this) GW101.out)) | (dsimp only;exact Nat.ne_of_lt (Nat.lt_of_lt_of_le (by have:=xbl _ _ hw102_0;first | rwa [add_block] at this | exact this) GW101.out))) _).trans (hHeld.1)),((cell_far (p:=⟨gb101,_,none⟩) (by first | exact Nat.ne_of_lt (Nat.lt_of_lt_of_le (by have:=xbl _ _ hw104_0;first | rwa [add_block] at this | exact this) GW101.out) | (rw [add_block];exact Nat.ne_of_lt (Nat.lt_of_lt_of_le (by have:=xbl _ _ hw104_0;first | rwa [add_block] at this | exact this) GW101.out)) | (show (Addr.add _ _).block ≠ _;rw [add_block];exact Nat.ne_of_lt (Nat.lt_of_lt_of_le (by have:=xbl _ _ hw104_0;first | rwa [add_block] at this | exact this) GW101.out)) | (dsimp only;exact Nat.ne_of_lt (Nat.lt_of_lt_of_le (by have:=xbl _ _ hw104_0;first | rwa [add_block] at this | exact this) GW101.out))) _).trans (hHeld.2))⟩ (fun hHeld=>?_)
       clear hK K
       refine done_ (done_of HT_.out (by kernel_rfl)) ?_
       obtain ⟨i017,hi017,_,hsz17,_⟩:=info_parts info9
       obtain ⟨A17,hcut17,hA17,hC17⟩:=print_drop_of (P:=Tryz.prog) Value.string (⟨#[]⟩:ByteArray) 68 9 .i64 Tryz.underlying68 hi017 hsz17 (some ad102) c0 l0 2 (by omega) (of_decide_eq_true (by first | (with_reducible assumption) | assumption)) HC0.out
       have HR106:=Aside0.mk (Kd.C_of_reads (h1:=fun _=>rfl) (hA17 _ (Kd.reads_of_C HR0.out)))
       have HC106:=Aside0.mk hC17
       clear hA17 hC17 hi017 hsz17
       try go_wp2
       go_loopg [3,30] kj1 (fun kq v3 v30 w'=>∃ (x3_2:Int) (x30_2:Int) (x102000_2:Int) (x102001_2:Int) (x102002_2:List Int) (u102002:Value),v3=.int .i64 x3_2 ∧ v30=.int .i64 x30_2 ∧ Aside0 (logs_gauges_1.l0 kq x3_2 (l0.drop 2) ((l0.drop 2).length:Int) x30_2 x102000_2 x102001_2 x102002_2=some (r1,r2,r3)) ∧ Aside0 (kq ≤ kj1) ∧ Aside0 (Kd.R (Kd.int .i64) 3 w' w.heap.size (fun _=>True) u102002 x102002_2) ∧ Aside0 (w'.heap[gb101]?=some (.cells #[.int .i64 x102000_2,.int .i64 x102001_2,u102002] 37 (0,0))) ∧ Aside0 (Below w.heap.size w w'))
       case atStart=>exact ⟨(0),(0),(t103),(t105),(([]:List Int)),(.slice none 0 0),(by first | rfl | (simp;done) | (simp [*];done)),(by first | rfl | (simp;done) | (simp [*];done)),H',⟨Nat.le_refl _⟩,⟨by first | exact Kd.R_nil _ _ _ _ _ | exact Kd.N_nil _ _ _ _ _ | exact Kd.V_nil _ _ _ _ _ | exact Kd.Q_nil _ _ _ _ _ | exact Kd.S_nil _ _ _ _ _⟩,⟨by (with_reducible repeat (first | refine blk_drewN ?_ _ | refine blk_drew ?_ | refine blk_alloc ?_ _));refine blk_put (cs:=#[.int .i64 t103,.int .i64 0,.slice none 0 0]) ?_ 1 _ rfl;(with_reducible repeat (first | refine blk_drewN ?_ _ | refine blk_drew ?_ | refine blk_alloc ?_ _));refine blk_put (cs:=#[.int .i64 0,.int .i64 0,.slice none 0 0]) ?_ 0 _ rfl;(with_reducible repeat (first | refine blk_drewN ?_ _ | refine blk_drew ?_ | refine blk_alloc ?_ _));exact BK101.out⟩,⟨by repeat (first | (with_reducible first | exact HB.out | apply below_alloc | apply pw_below_drewN | apply below_drew1 | refine below_set ?_ GE101.out) | exact HB.out)⟩⟩
       case round =>
        clear H'
        try clear c1
        try clear p1
        try clear q1
        try clear hx1
        try clear qi1
        try clear p2
        try clear c4
        try clear c4b0
        try clear c4b1
        try clear c5
        try clear c6
        try clear c7
        try clear c7b0
        try clear c7b1
        try clear c9
        try clear c9b0
        try clear c9b1
        try clear p10
        try clear q10
        try clear hx10
        try clear qi10
        try clear c11
        try clear c11b0
        try clear c11b1
        try clear hcz6_0
        try clear hcz6_1
        try clear hcz6_2
        try clear hfz6_0
        try clear hfz6_1
        try clear hfz6_2
        try clear hx102_0
        try clear hx104_0
        try clear p102
        try clear p104
        try clear p2
        try clear q102
        try clear q104
        obtain ⟨x3_2,x30_2,x102000_2,x102001_2,x102002_2,u102002,rfl,rfl,HA,HK2,HO_102002,BK101,HB⟩:=hrel
        cases gk with
        | zero=>exact absurd HA.out (by simp [logs_gauges_1.l0])
        | succ k2 =>
         have H:=HA.out
         clear HA
         simp only [logs_gauges_1.l0] at H
         by_cases c18:x30_2 < ((l0.drop 2).length:Int)
         ·rw [if_pos c18] at H
          have c18b0:decide (x30_2 < ((l0.drop 2).length:Int))=true:=decide_eq_true c18
          have c18b9:decide (x30_2 < ((l0.length - 2:Nat):Int))=true:=by rw [← List.length_drop];exact c18b0
          clear c18
          by_cases c19:0 ≤ x30_2
          ·rw [if_pos c19] at H
           have c19b0:decide (0 ≤ x30_2)=true:=decide_eq_true c19
           clear c19
           by_cases c20:x30_2 < ((l0.drop 2).length:Int)
           ·rw [if_pos c20] at H
            have c20b0:decide (x30_2 < ((l0.drop 2).length:Int))=true:=decide_eq_true c20
            have c20b9:decide (x30_2 < ((l0.length - 2:Nat):Int))=true:=by rw [← List.length_drop];exact c20b0
            clear c20
            replace H:=Option.bind_eq_some_iff.mp H
            obtain ⟨⟨t108,t109⟩,A210,H⟩:=H
            replace H:(if t109.isNone=true then ((logs_within.f 0 10000 (([wrap64 (x3_2 + t108)]:List Int))).bind fun t114=>(if t114=true then (if x102002_2.length < 17592186044416 then (logs_gauges_1.l0 k2 (wrap64 (x3_2 + t108)) (l0.drop 2) ((l0.drop 2).length:Int) (wrap64 (x30_2 + 1)) x102000_2 x102001_2 (x102002_2 ++ [wrap64 (x3_2 + t108)])) else (none)) else (some (0,0,([]:List Int))))) else (some (0,0,([]:List Int))))=some (r1,r2,r3):=H
            have A21:=Aside0.mk A210
            clear A210
            rcases t109 with _ | q110
            ·have H1:((logs_within.f 0 10000 (([wrap64 (x3_2 + t108)]:List Int))).bind fun t114=>(if t114=true then (if x102002_2.length < 17592186044416 then (logs_gauges_1.l0 k2 (wrap64 (x3_2 + t108)) (l0.drop 2) ((l0.drop 2).length:Int) (wrap64 (x30_2 + 1)) x102000_2 x102001_2 (x102002_2 ++ [wrap64 (x3_2 + t108)])) else (none)) else (some (0,0,([]:List Int)))))=some (r1,r2,r3):=by rw [if_pos (show (none:Option Int).isNone=true by rfl)] at H;exact H
             clear H
             have H:=H1
             clear H1
             try simp only [errW_none,errW_some]
             obtain ⟨y111,hy111⟩:∃ y_:List Int,y_=(([wrap64 (x3_2 + t108)]:List Int)):=⟨_,rfl⟩
             replace H:((logs_within.f 0 10000 y111).bind fun t114=>(if t114=true then (if x102002_2.length < 17592186044416 then (logs_gauges_1.l0 k2 (wrap64 (x3_2 + t108)) (l0.drop 2) ((l0.drop 2).length:Int) (wrap64 (x30_2 + 1)) x102000_2 x102001_2 (x102002_2 ++ [wrap64 (x3_2 + t108)])) else (none)) else (some (0,0,([]:List Int)))))=some (r1,r2,r3):=by first | (rw [hy111];with_reducible exact H) | (have H2_:=(Option.bind_some _ _).symm.trans H;rw [hy111];with_reducible exact H2_) | (have H2_:=(Option.bind_some _ _).symm.trans H;with_reducible exact H2_) | with_reducible exact H | (rw [hy111];exact H) | exact H
             have Ny111:=Aside0.mk hy111
             clear hy111
             replace H:=Option.bind_eq_some_iff.mp H
             obtain ⟨t114,A220,H⟩:=H
             replace H:(if t114=true then (if x102002_2.length < 17592186044416 then (logs_gauges_1.l0 k2 (wrap64 (x3_2 + t108)) (l0.drop 2) ((l0.drop 2).length:Int) (wrap64 (x30_2 + 1)) x102000_2 x102001_2 (x102002_2 ++ [wrap64 (x3_2 + t108)])) else (none)) else (some (0,0,([]:List Int))))=some (r1,r2,r3):=H
             have A22:=Aside0.mk A220
             clear A220
             by_cases c23:t114=true
             ·subst c23
              have H1:(if x102002_2.length < 17592186044416 then (logs_gauges_1.l0 k2 (wrap64 (x3_2 + t108)) (l0.drop 2) ((l0.drop 2).length:Int) (wrap64 (x30_2 + 1)) x102000_2 x102001_2 (x102002_2 ++ [wrap64 (x3_2 + t108)])) else (none))=some (r1,r2,r3):=by rw [if_pos rfl] at H;exact H
              clear H
              have H:=H1
              clear H1
              by_cases c24:x102002_2.length < 17592186044416
              ·rw [if_pos c24] at H
               have LMc24:=Aside0.mk c24
               clear c24
               obtain ⟨y115,hy115⟩:∃ y_:List Int,y_=(x102002_2 ++ [wrap64 (x3_2 + t108)]):=⟨_,rfl⟩
               replace H:(logs_gauges_1.l0 k2 (wrap64 (x3_2 + t108)) (l0.drop 2) ((l0.drop 2).length:Int) (wrap64 (x30_2 + 1)) x102000_2 x102001_2 y115)=some (r1,r2,r3):=by first | (rw [hy115];with_reducible exact H) | (have H2_:=(Option.bind_some _ _).symm.trans H;rw [hy115];with_reducible exact H2_) | (have H2_:=(Option.bind_some _ _).symm.trans H;with_reducible exact H2_) | with_reducible exact H | (rw [hy115];exact H) | exact H
               have Ny115:=Aside0.mk hy115
               clear hy115
               have H':=Aside0.mk H
               clear H
               have p107:0 ≤ (x30_2:Int):=of_decide_eq_true (by first | (with_reducible assumption) | assumption)
               have q107:x30_2 < ((l0.drop 2).length:Int):=of_decide_eq_true (by first | (with_reducible assumption) | assumption)
               obtain ⟨ad107,e107,hx107_0⟩:=Kd.at_string HR106.out x30_2 p107 q107
               cases e107
               replace hx107_0:=(HB.out.cell (xbl w _ hx107_0)).trans hx107_0
               replace p107:=eq_true p107
               replace q107:=eq_true q107
               have q107n:(x30_2 < ((l0.length - 2:Nat):Int))=True:=by rw [← List.length_drop];exact q107
               go_wp2_with (first | ((with_reducible refine gate_callee (f:=67) rfl ?_);refine goesL_ (some 36) rfl rfl Tryz.func67 (by kernel_rfl) rfl #[.string (rdOf ByteArray.empty (l0.drop 2) x30_2)] rfl (by (try simp only [List.map_toArray,List.map_cons,List.map_nil]);first | done | rfl | (simp only [List.length_drop,List.length_take];rfl)) ?_;(with_reducible refine (strconv_Atoi.calls (rdOf ByteArray.empty (l0.drop 2) x30_2) t108 none _ ?side1 A21.out).mono ?_);(case side1=>exact Base.step hbase (by repeat (first | (with_reducible first | exact HB.out | apply below_alloc | apply pw_below_drewN | apply below_drew1 | refine below_set ?_ GE101.out) | exact HB.out)));rintro e w25 ⟨rfl,hb⟩;refine ⟨_,rfl,?_⟩;have n0_:=Aside0.mk (Kd.R_below (by (with_reducible repeat (first | apply Kd.R_alloc | apply Kd.R_drewN | apply Kd.R_drew));exact HO_102002.out) hb);have n1_:=Aside0.mk (blk_below (g:=gb101) (o:=.cells #[.int .i64 x102000_2,.int .i64 x102001_2,u102002] 37 (0,0)) (by (with_reducible repeat (first | refine blk_drewN ?_ _ | refine blk_drew ?_ | refine blk_alloc ?_ _));exact BK101.out) hb);have n2_:=Aside0.mk (below_step (by repeat (first | (with_reducible first | exact HB.out | apply below_alloc | apply pw_below_drewN | apply below_drew1 | refine below_set ?_ GE101.out) | exact HB.out)) hb);clear HO_102002;clear BK101;clear HB;have HO_102002:=n0_;have BK101:=n1_;have HB:=n2_;clear n0_ n1_ n2_;(try clear hb);(try clear hb2);(try clear hk);(try clear hi);(try simp only [errW_none,errW_some])) | ((with_reducible refine gate_dst (N:=46) rfl ?_);(try (refine gate_guard (by rfl) ?_;dsimp only));refine Kd.R_lit (Kd.int .i64) _ 3 ?hg (N:=46) ?hd (xs:=([wrap64 (x3_2 + t108)]:List Int)) (inner:=[.int .i64 (wrap64 (x3_2 + t108))]) (ok:=fun _=>True) (okp:=fun _=>True) ?hr ?hp (fun _ hk=>hk) trivial (Below.refl _ _) (Nat.le_refl _) (by simp) ?_;(case hd=>rfl);(case hg=>rfl);(case hr=>first | (go_simp;done) | (go_simp;rfl));(case hp=>exact (Reps.one (show Kd.M (Kd.int .i64) _ _ _ (wrap64 (x3_2 + t108)) [.int .i64 (wrap64 (x3_2 + t108))] from rfl) (Reps.none _ _)));intro v112 w26 ho27 hb hg_ hnew_;clear hg_ hnew_;(first | rw [← Ny111.out] at ho27 | (simp only [Int.reduceToNat] at ho27;rw [← Ny111.out] at ho27));have n0_:=Aside0.mk (Kd.R_elder' (by (with_reducible repeat (first | apply Kd.R_alloc | apply Kd.R_drewN | apply Kd.R_drew));exact HO_102002.out) (Kd.R_base ho27) hb);have n1_:=Aside0.mk (Kd.R_lower (Kd.R_new' ho27 (Kd.R_lt (by (with_reducible repeat (first | apply Kd.R_alloc | apply Kd.R_drewN | apply Kd.R_drew));exact HO_102002.out))) (below_size (by repeat (first | (with_reducible first | exact HB.out | apply below_alloc | apply pw_below_drewN | apply below_drew1 | refine below_set ?_ GE101.out) | exact HB.out))));have n2_:=Aside0.mk (blk_below (g:=gb101) (o:=.cells #[.int .i64 x102000_2,.int .i64 x102001_2,u102002] 37 (0,0)) (by (with_reducible repeat (first | refine blk_drewN ?_ _ | refine blk_drew ?_ | refine blk_alloc ?_ _));exact BK101.out) hb);have n3_:=Aside0.mk (below_step (by repeat (first | (with_reducible first | exact HB.out | apply below_alloc | apply pw_below_drewN | apply below_drew1 | refine below_set ?_ GE101.out) | exact HB.out)) hb);clear HO_102002;clear BK101;clear HB;have HO_102002:=n0_;have HO113:=n1_;have BK101:=n2_;have HB:=n3_;clear n0_ n1_ n2_ n3_;clear hb ho27;obtain ⟨Ao28,co28,eo28⟩:=Kd.R_slice HO113.out;subst eo28) | (go_at_call 39;(with_reducible refine (logs_within.calls 0 10000 _ _ y111 true _ ?side1 ?side2 A22.out).mono ?_);(case side1=>repeat (first | exact (Kd.R_reads' HO113.out).2.2 | (with_reducible refine Kd.C_alloc ?_ _) | (with_reducible refine Kd.C_drewN ?_ _) | (with_reducible refine Kd.C_drew ?_)));(case side2=>exact (Kd.R_reads' HO113.out).2.1);rintro e w29 ⟨rfl,hb⟩;have n0_:=Aside0.mk (Kd.R_below (by (with_reducible repeat (first | apply Kd.R_alloc | apply Kd.R_drewN | apply Kd.R_drew));exact HO_102002.out) hb);have n1_:=Aside0.mk (Kd.R_below (by (with_reducible repeat (first | apply Kd.R_alloc | apply Kd.R_drewN | apply Kd.R_drew));exact HO113.out) hb);have n2_:=Aside0.mk (blk_below (g:=gb101) (o:=.cells #[.int .i64 x102000_2,.int .i64 x102001_2,u102002] 37 (0,0)) (by (with_reducible repeat (first | refine blk_drewN ?_ _ | refine blk_drew ?_ | refine blk_alloc ?_ _));exact BK101.out) hb);have n3_:=Aside0.mk (below_step (by repeat (first | (with_reducible first | exact HB.out | apply below_alloc | apply pw_below_drewN | apply below_drew1 | refine below_set ?_ GE101.out) | exact HB.out)) hb);clear HO_102002;clear HO113;clear BK101;clear HB;have HO_102002:=n0_;have HO113:=n1_;have BK101:=n2_;have HB:=n3_;clear n0_ n1_ n2_ n3_;(try clear hb);(try clear hb2);(try clear hk);(try clear hi);have hcz30_0:w29.cell? ⟨gb101,0,none⟩=some (.int .i64 x102000_2):=(blk_cell BK101.out 0).trans rfl;have hcz30_1:w29.cell? ⟨gb101,1,none⟩=some (.int .i64 x102001_2):=(blk_cell BK101.out 1).trans rfl;have hcz30_2:w29.cell? ⟨gb101,2,none⟩=some (u102002):=(blk_cell BK101.out 2).trans rfl;have hfz30_0:=blk_frozen BK101.out 0;have hfz30_1:=blk_frozen BK101.out 1;have hfz30_2:=blk_frozen BK101.out 2) | ((with_reducible refine gate_builtin (b:=.append) (xs:=#[.tmp 52,.tmp 54]) rfl ?_);(try (refine gate_guard (by rfl) ?_;dsimp only));at_builtin;refine Kd.R_append (Kd.int .i64) (w0:=w) w.heap.size rfl (.tmp 52) (.tmp 54) 24 3 (.int .i64 0) 8 rfl Tryz.underlying24 info3 rfl (by decide) (by omega) u102002 x102002_2 (wrap64 (x3_2 + t108)) [.int .i64 (wrap64 (x3_2 + t108))] (fun k_=>some k_ ≠ (.slice Ao28 y111.length co28:Value).ownBlock) (fun _=>False) rfl rfl ?aP (fun _ hk=>hk.elim) ?aF ?aO ?aB ?aS ?aL ?_;(case aP=>exact rfl);(case aB=>exact (by repeat (first | (with_reducible first | exact HB.out | apply below_alloc | apply pw_below_drewN | apply below_drew1 | refine below_set ?_ GE101.out) | exact HB.out)));(case aF=>exact (fun k_ hk=>Kd.fresh' (Kd.R_lt (by (with_reducible repeat (first | apply Kd.R_alloc | apply Kd.R_drewN | apply Kd.R_drew));exact HO113.out)) k_ hk));(case aO=>exact (by (with_reducible repeat (first | apply Kd.R_alloc | apply Kd.R_drewN | apply Kd.R_drew));exact Kd.R_mono HO_102002.out (fun _ hk=>hk.2)));(case aS=>exact (below_size (by repeat (first | (with_reducible first | exact HB.out | apply below_alloc | apply pw_below_drewN | apply below_drew1 | refine below_set ?_ GE101.out) | exact HB.out))));(case aL=>have:=LMc24.out;omega);intro v116 w31 ho hb hg hat;rw [← Ny115.out] at ho;have n0_:=Aside0.mk (blk_grown (g:=gb101) (o:=.cells #[.int .i64 x102000_2,.int .i64 x102001_2,u102002] 37 (0,0)) (by (with_reducible repeat (first | refine blk_drewN ?_ _ | refine blk_drew ?_ | refine blk_alloc ?_ _));exact BK101.out) hg (Kd.R_ne HO_102002.out BK101.out (by decide)));have n1_:=Aside0.mk (Kd.R_after (ok:=(fun _=>True)) (by (with_reducible repeat (first | apply Kd.R_alloc | apply Kd.R_drewN | apply Kd.R_drew));exact HO113.out) hg hat);have n2_:=Aside0.mk (hb);have n3_:=Aside0.mk (ho);clear BK101;clear HO113;clear HB;clear HO_102002;have BK101:=n0_;have HO113:=n1_;have HB:=n2_;have HO117:=n3_;clear n0_ n1_ n2_ n3_;clear ho hb hg hat;obtain ⟨Ao32,co32,eo32⟩:=Kd.R_slice HO117.out;subst eo32;have hcz33_0:w31.cell? ⟨gb101,0,none⟩=some (.int .i64 x102000_2):=(blk_cell BK101.out 0).trans rfl;have hcz33_1:w31.cell? ⟨gb101,1,none⟩=some (.int .i64 x102001_2):=(blk_cell BK101.out 1).trans rfl;have hcz33_2:w31.cell? ⟨gb101,2,none⟩=some (u102002):=(blk_cell BK101.out 2).trans rfl;have hfz33_0:=blk_frozen BK101.out 0;have hfz33_1:=blk_frozen BK101.out 1;have hfz33_2:=blk_frozen BK101.out 2))
               go_roundg k2
               case measure=>have:=HJ1.out;have:=HK2.out;omega
               case rel=>exact ⟨(wrap64 (x3_2 + t108)),(wrap64 (x30_2 + 1)),(x102000_2),(x102001_2),(y115),(.slice Ao32 y115.length co32),(by first | rfl | (simp;done) | (simp [*];done)),(by first | rfl | (simp;done) | (simp [*];done)),H',⟨by have:=HJ1.out;have:=HK2.out;omega⟩,⟨by (with_reducible repeat (first | apply Kd.R_alloc | apply Kd.R_drewN | apply Kd.R_drew));exact Kd.R_mono (Kd.R_far (p:=⟨gb101,2,none⟩) (Kd.R_types HO117.out BK101.out (by decide)) (fun _ hk=>hk.2) (.slice Ao32 y115.length co32)) (fun _ hk=>trivial)⟩,⟨by (with_reducible repeat (first | refine blk_drewN ?_ _ | refine blk_drew ?_ | refine blk_alloc ?_ _));refine blk_put (cs:=#[.int .i64 x102000_2,.int .i64 x102001_2,u102002]) ?_ 2 _ rfl;(with_reducible repeat (first | refine blk_drewN ?_ _ | refine blk_drew ?_ | refine blk_alloc ?_ _));exact BK101.out⟩,⟨by repeat (first | (with_reducible first | exact HB.out | apply below_alloc | apply pw_below_drewN | apply below_drew1 | refine below_set ?_ GE101.out) | exact HB.out)⟩⟩
              ·rw [if_neg c24] at H
               exact absurd H (by simp)
             ·replace c23:=Bool.eq_false_iff.mpr c23
              subst c23
              have H1:(some (0,0,([]:List Int)))=some (r1,r2,r3):=by rw [if_neg (show ¬ (false=true) by decide)] at H;exact H
              clear H
              have H:=H1
              clear H1
              simp only [Option.some.injEq,Prod.mk.injEq] at H
              obtain ⟨rfl,rfl,rfl⟩:=H
              have p107:0 ≤ (x30_2:Int):=of_decide_eq_true (by first | (with_reducible assumption) | assumption)
              have q107:x30_2 < ((l0.drop 2).length:Int):=of_decide_eq_true (by first | (with_reducible assumption) | assumption)
              obtain ⟨ad107,e107,hx107_0⟩:=Kd.at_string HR106.out x30_2 p107 q107
              cases e107
              replace hx107_0:=(HB.out.cell (xbl w _ hx107_0)).trans hx107_0
              replace p107:=eq_true p107
              replace q107:=eq_true q107
              have q107n:(x30_2 < ((l0.length - 2:Nat):Int))=True:=by rw [← List.length_drop];exact q107
              go_wp2_with (first | ((with_reducible refine gate_callee (f:=67) rfl ?_);refine goesL_ (some 36) rfl rfl Tryz.func67 (by kernel_rfl) rfl #[.string (rdOf ByteArray.empty (l0.drop 2) x30_2)] rfl (by (try simp only [List.map_toArray,List.map_cons,List.map_nil]);first | done | rfl | (simp only [List.length_drop,List.length_take];rfl)) ?_;(with_reducible refine (strconv_Atoi.calls (rdOf ByteArray.empty (l0.drop 2) x30_2) t108 none _ ?side1 A21.out).mono ?_);(case side1=>exact Base.step hbase (by repeat (first | (with_reducible first | exact HB.out | apply below_alloc | apply pw_below_drewN | apply below_drew1 | refine below_set ?_ GE101.out) | exact HB.out)));rintro e w34 ⟨rfl,hb⟩;refine ⟨_,rfl,?_⟩;have n0_:=Aside0.mk (Kd.R_below (by (with_reducible repeat (first | apply Kd.R_alloc | apply Kd.R_drewN | apply Kd.R_drew));exact HO_102002.out) hb);have n1_:=Aside0.mk (blk_below (g:=gb101) (o:=.cells #[.int .i64 x102000_2,.int .i64 x102001_2,u102002] 37 (0,0)) (by (with_reducible repeat (first | refine blk_drewN ?_ _ | refine blk_drew ?_ | refine blk_alloc ?_ _));exact BK101.out) hb);have n2_:=Aside0.mk (below_step (by repeat (first | (with_reducible first | exact HB.out | apply below_alloc | apply pw_below_drewN | apply below_drew1 | refine below_set ?_ GE101.out) | exact HB.out)) hb);clear HO_102002;clear BK101;clear HB;have HO_102002:=n0_;have BK101:=n1_;have HB:=n2_;clear n0_ n1_ n2_;(try clear hb);(try clear hb2);(try clear hk);(try clear hi);(try simp only [errW_none,errW_some])) | ((with_reducible refine gate_dst (N:=46) rfl ?_);(try (refine gate_guard (by rfl) ?_;dsimp only));refine Kd.R_lit (Kd.int .i64) _ 3 ?hg (N:=46) ?hd (xs:=([wrap64 (x3_2 + t108)]:List Int)) (inner:=[.int .i64 (wrap64 (x3_2 + t108))]) (ok:=fun _=>True) (okp:=fun _=>True) ?hr ?hp (fun _ hk=>hk) trivial (Below.refl _ _) (Nat.le_refl _) (by simp) ?_;(case hd=>rfl);(case hg=>rfl);(case hr=>first | (go_simp;done) | (go_simp;rfl));(case hp=>exact (Reps.one (show Kd.M (Kd.int .i64) _ _ _ (wrap64 (x3_2 + t108)) [.int .i64 (wrap64 (x3_2 + t108))] from rfl) (Reps.none _ _)));intro v112 w35 ho36 hb hg_ hnew_;clear hg_ hnew_;(first | rw [← Ny111.out] at ho36 | (simp only [Int.reduceToNat] at ho36;rw [← Ny111.out] at ho36));have n0_:=Aside0.mk (Kd.R_elder' (by (with_reducible repeat (first | apply Kd.R_alloc | apply Kd.R_drewN | apply Kd.R_drew));exact HO_102002.out) (Kd.R_base ho36) hb);have n1_:=Aside0.mk (Kd.R_lower (Kd.R_new' ho36 (Kd.R_lt (by (with_reducible repeat (first | apply Kd.R_alloc | apply Kd.R_drewN | apply Kd.R_drew));exact HO_102002.out))) (below_size (by repeat (first | (with_reducible first | exact HB.out | apply below_alloc | apply pw_below_drewN | apply below_drew1 | refine below_set ?_ GE101.out) | exact HB.out))));have n2_:=Aside0.mk (blk_below (g:=gb101) (o:=.cells #[.int .i64 x102000_2,.int .i64 x102001_2,u102002] 37 (0,0)) (by (with_reducible repeat (first | refine blk_drewN ?_ _ | refine blk_drew ?_ | refine blk_alloc ?_ _));exact BK101.out) hb);have n3_:=Aside0.mk (below_step (by repeat (first | (with_reducible first | exact HB.out | apply below_alloc | apply pw_below_drewN | apply below_drew1 | refine below_set ?_ GE101.out) | exact HB.out)) hb);clear HO_102002;clear BK101;clear HB;have HO_102002:=n0_;have HO113:=n1_;have BK101:=n2_;have HB:=n3_;clear n0_ n1_ n2_ n3_;clear hb ho36;obtain ⟨Ao37,co37,eo37⟩:=Kd.R_slice HO113.out;subst eo37) | (go_at_call 39;(with_reducible refine (logs_within.calls 0 10000 _ _ y111 false _ ?side1 ?side2 A22.out).mono ?_);(case side1=>repeat (first | exact (Kd.R_reads' HO113.out).2.2 | (with_reducible refine Kd.C_alloc ?_ _) | (with_reducible refine Kd.C_drewN ?_ _) | (with_reducible refine Kd.C_drew ?_)));(case side2=>exact (Kd.R_reads' HO113.out).2.1);rintro e w38 ⟨rfl,hb⟩;have n0_:=Aside0.mk (Kd.R_below (by (with_reducible repeat (first | apply Kd.R_alloc | apply Kd.R_drewN | apply Kd.R_drew));exact HO_102002.out) hb);have n1_:=Aside0.mk (Kd.R_below (by (with_reducible repeat (first | apply Kd.R_alloc | apply Kd.R_drewN | apply Kd.R_drew));exact HO113.out) hb);have n2_:=Aside0.mk (blk_below (g:=gb101) (o:=.cells #[.int .i64 x102000_2,.int .i64 x102001_2,u102002] 37 (0,0)) (by (with_reducible repeat (first | refine blk_drewN ?_ _ | refine blk_drew ?_ | refine blk_alloc ?_ _));exact BK101.out) hb);have n3_:=Aside0.mk (below_step (by repeat (first | (with_reducible first | exact HB.out | apply below_alloc | apply pw_below_drewN | apply below_drew1 | refine below_set ?_ GE101.out) | exact HB.out)) hb);clear HO_102002;clear HO113;clear BK101;clear HB;have HO_102002:=n0_;have HO113:=n1_;have BK101:=n2_;have HB:=n3_;clear n0_ n1_ n2_ n3_;(try clear hb);(try clear hb2);(try clear hk);(try clear hi);have hcz39_0:w38.cell? ⟨gb101,0,none⟩=some (.int .i64 x102000_2):=(blk_cell BK101.out 0).trans rfl;have hcz39_1:w38.cell? ⟨gb101,1,none⟩=some (.int .i64 x102001_2):=(blk_cell BK101.out 1).trans rfl;have hcz39_2:w38.cell? ⟨gb101,2,none⟩=some (u102002):=(blk_cell BK101.out 2).trans rfl;have hfz39_0:=blk_frozen BK101.out 0;have hfz39_1:=blk_frozen BK101.out 1;have hfz39_2:=blk_frozen BK101.out 2))
              refine bodyPost_ret (results_cell_row rfl _ _ gb101 37 #[.int .i64 0,.int .i64 0,.slice none 0 0] (0,0) _ rfl (by (with_reducible repeat (first | refine blk_drewN ?_ _ | refine blk_drew ?_ | refine blk_alloc ?_ _));refine blk_put (cs:=#[.int .i64 0,.int .i64 0,u102002]) ?_ 2 _ rfl;(with_reducible repeat (first | refine blk_drewN ?_ _ | refine blk_drew ?_ | refine blk_alloc ?_ _));refine blk_put (cs:=#[.int .i64 0,.int .i64 x102001_2,u102002]) ?_ 1 _ rfl;(with_reducible repeat (first | refine blk_drewN ?_ _ | refine blk_drew ?_ | refine blk_alloc ?_ _));refine blk_put (cs:=#[.int .i64 x102000_2,.int .i64 x102001_2,u102002]) ?_ 0 _ rfl;(with_reducible repeat (first | refine blk_drewN ?_ _ | refine blk_drew ?_ | refine blk_alloc ?_ _));exact BK101.out) Tryz.underlying37 rfl (by kernel_rfl)) rfl ?_
              exact ⟨_,by first | rfl | (simp [errW_none,errW_some] <;> rfl) | (simp [*,errW_none,errW_some] <;> rfl),by first | exact Kd.R_nil _ _ _ _ _ | exact Kd.N_nil _ _ _ _ _ | exact Kd.V_nil _ _ _ _ _ | exact Kd.Q_nil _ _ _ _ _ | exact Kd.S_nil _ _ _ _ _,by repeat (first | (with_reducible first | exact HB.out | apply below_alloc | apply pw_below_drewN | apply below_drew1 | refine below_set ?_ GE101.out) | exact HB.out)⟩
            ·have H1:(some (0,0,([]:List Int)))=some (r1,r2,r3):=by rw [if_neg (show ¬ (some q110).isNone=true by simp)] at H;exact H
             clear H
             have H:=H1
             clear H1
             try simp only [errW_none,errW_some]
             simp only [Option.some.injEq,Prod.mk.injEq] at H
             obtain ⟨rfl,rfl,rfl⟩:=H
             have p107:0 ≤ (x30_2:Int):=of_decide_eq_true (by first | (with_reducible assumption) | assumption)
             have q107:x30_2 < ((l0.drop 2).length:Int):=of_decide_eq_true (by first | (with_reducible assumption) | assumption)
             obtain ⟨ad107,e107,hx107_0⟩:=Kd.at_string HR106.out x30_2 p107 q107
             cases e107
             replace hx107_0:=(HB.out.cell (xbl w _ hx107_0)).trans hx107_0
             replace p107:=eq_true p107
             replace q107:=eq_true q107
             have q107n:(x30_2 < ((l0.length - 2:Nat):Int))=True:=by rw [← List.length_drop];exact q107
             go_wp2_with (first | ((with_reducible refine gate_callee (f:=67) rfl ?_);refine goesL_ (some 36) rfl rfl Tryz.func67 (by kernel_rfl) rfl #[.string (rdOf ByteArray.empty (l0.drop 2) x30_2)] rfl (by (try simp only [List.map_toArray,List.map_cons,List.map_nil]);first | done | rfl | (simp only [List.length_drop,List.length_take];rfl)) ?_;(with_reducible refine (strconv_Atoi.callsE (rdOf ByteArray.empty (l0.drop 2) x30_2) t108 q110 _ ?side1 A21.out).mono ?_);(case side1=>exact Base.step hbase (by repeat (first | (with_reducible first | exact HB.out | apply below_alloc | apply pw_below_drewN | apply below_drew1 | refine below_set ?_ GE101.out) | exact HB.out)));rintro e w40 ⟨NE_,rfl,hb⟩;refine ⟨_,rfl,?_⟩;have n0_:=Aside0.mk (Kd.R_below (by (with_reducible repeat (first | apply Kd.R_alloc | apply Kd.R_drewN | apply Kd.R_drew));exact HO_102002.out) hb);have n1_:=Aside0.mk (blk_below (g:=gb101) (o:=.cells #[.int .i64 x102000_2,.int .i64 x102001_2,u102002] 37 (0,0)) (by (with_reducible repeat (first | refine blk_drewN ?_ _ | refine blk_drew ?_ | refine blk_alloc ?_ _));exact BK101.out) hb);have n2_:=Aside0.mk (below_step (by repeat (first | (with_reducible first | exact HB.out | apply below_alloc | apply pw_below_drewN | apply below_drew1 | refine below_set ?_ GE101.out) | exact HB.out)) hb);clear HO_102002;clear BK101;clear HB;have HO_102002:=n0_;have BK101:=n1_;have HB:=n2_;clear n0_ n1_ n2_;(try clear hb);(try clear hb2);(try clear hk);(try clear hi);(try simp only [errW_none,errW_some]);have hcz41_0:w40.cell? ⟨gb101,0,none⟩=some (.int .i64 x102000_2):=(blk_cell BK101.out 0).trans rfl;have hcz41_1:w40.cell? ⟨gb101,1,none⟩=some (.int .i64 x102001_2):=(blk_cell BK101.out 1).trans rfl;have hcz41_2:w40.cell? ⟨gb101,2,none⟩=some (u102002):=(blk_cell BK101.out 2).trans rfl;have hfz41_0:=blk_frozen BK101.out 0;have hfz41_1:=blk_frozen BK101.out 1;have hfz41_2:=blk_frozen BK101.out 2))
             refine bodyPost_ret (results_cell_row rfl _ _ gb101 37 #[.int .i64 0,.int .i64 0,.slice none 0 0] (0,0) _ rfl (by (with_reducible repeat (first | refine blk_drewN ?_ _ | refine blk_drew ?_ | refine blk_alloc ?_ _));refine blk_put (cs:=#[.int .i64 0,.int .i64 0,u102002]) ?_ 2 _ rfl;(with_reducible repeat (first | refine blk_drewN ?_ _ | refine blk_drew ?_ | refine blk_alloc ?_ _));refine blk_put (cs:=#[.int .i64 0,.int .i64 x102001_2,u102002]) ?_ 1 _ rfl;(with_reducible repeat (first | refine blk_drewN ?_ _ | refine blk_drew ?_ | refine blk_alloc ?_ _));refine blk_put (cs:=#[.int .i64 x102000_2,.int .i64 x102001_2,u102002]) ?_ 0 _ rfl;(with_reducible repeat (first | refine blk_drewN ?_ _ | refine blk_drew ?_ | refine blk_alloc ?_ _));exact BK101.out) Tryz.underlying37 rfl (by kernel_rfl)) rfl ?_
             exact ⟨_,by first | rfl | (simp [errW_none,errW_some] <;> rfl) | (simp [*,errW_none,errW_some] <;> rfl),by first | exact Kd.R_nil _ _ _ _ _ | exact Kd.N_nil _ _ _ _ _ | exact Kd.V_nil _ _ _ _ _ | exact Kd.Q_nil _ _ _ _ _ | exact Kd.S_nil _ _ _ _ _,by repeat (first | (with_reducible first | exact HB.out | apply below_alloc | apply pw_below_drewN | apply below_drew1 | refine below_set ?_ GE101.out) | exact HB.out)⟩
           ·rw [if_neg c20] at H
            exact absurd H (by simp)
          ·rw [if_neg c19] at H
           exact absurd H (by simp)
         ·rw [if_neg c18] at H
          have c18b0:decide (x30_2 < ((l0.drop 2).length:Int))=false:=decide_eq_false c18
          have c18b9:decide (x30_2 < ((l0.length - 2:Nat):Int))=false:=by rw [← List.length_drop];exact c18b0
          clear c18
          simp only [Option.some.injEq,Prod.mk.injEq] at H
          obtain ⟨rfl,rfl,rfl⟩:=H
          have hcz42_0:wr.cell? ⟨gb101,0,none⟩=some (.int .i64 x102000_2):=(blk_cell BK101.out 0).trans rfl
          have hcz42_1:wr.cell? ⟨gb101,1,none⟩=some (.int .i64 x102001_2):=(blk_cell BK101.out 1).trans rfl
          have hcz42_2:wr.cell? ⟨gb101,2,none⟩=some (u102002):=(blk_cell BK101.out 2).trans rfl
          have hfz42_0:=blk_frozen BK101.out 0
          have hfz42_1:=blk_frozen BK101.out 1
          have hfz42_2:=blk_frozen BK101.out 2
          obtain ⟨Ao43,co43,eo43⟩:=Kd.R_slice HO_102002.out
          subst eo43
          go_wp2
          refine bodyPost_ret (results_cell_row rfl _ _ gb101 37 #[.int .i64 x102000_2,.int .i64 x102001_2,.slice Ao43 x102002_2.length co43] (0,0) _ rfl (by (with_reducible repeat (first | refine blk_drewN ?_ _ | refine blk_drew ?_ | refine blk_alloc ?_ _));refine blk_put (cs:=#[.int .i64 x102000_2,.int .i64 x102001_2,.slice Ao43 x102002_2.length co43]) ?_ 2 _ rfl;(with_reducible repeat (first | refine blk_drewN ?_ _ | refine blk_drew ?_ | refine blk_alloc ?_ _));refine blk_put (cs:=#[.int .i64 x102000_2,.int .i64 x102001_2,.slice Ao43 x102002_2.length co43]) ?_ 1 _ rfl;(with_reducible repeat (first | refine blk_drewN ?_ _ | refine blk_drew ?_ | refine blk_alloc ?_ _));refine blk_put (cs:=#[.int .i64 x102000_2,.int .i64 x102001_2,.slice Ao43 x102002_2.length co43]) ?_ 0 _ rfl;(with_reducible repeat (first | refine blk_drewN ?_ _ | refine blk_drew ?_ | refine blk_alloc ?_ _));exact BK101.out) Tryz.underlying37 rfl (by kernel_rfl)) rfl ?_
          exact ⟨_,by first | rfl | (simp [errW_none,errW_some] <;> rfl) | (simp [*,errW_none,errW_some] <;> rfl),by (with_reducible repeat (first | apply Kd.R_alloc | apply Kd.R_drewN | apply Kd.R_drew));exact Kd.R_mono (Kd.R_far (p:=⟨gb101,2,none⟩) (Kd.R_far (p:=⟨gb101,1,none⟩) (Kd.R_far (p:=⟨gb101,0,none⟩) (Kd.R_types HO_102002.out BK101.out (by decide)) (fun _ hk=>hk.2) (.int .i64 x102000_2)) (fun _ hk=>hk.2) (.int .i64 x102001_2)) (fun _ hk=>hk.2) (.slice Ao43 x102002_2.length co43)) (fun _ hk=>trivial),by repeat (first | (with_reducible first | exact HB.out | apply below_alloc | apply pw_below_drewN | apply below_drew1 | refine below_set ?_ GE101.out) | exact HB.out)⟩
      ·rw [if_neg c11] at H
       exact absurd H (by simp)
     ·rw [if_neg c9] at H
      exact absurd H (by simp)
    ·rw [if_neg c7] at H
     exact absurd H (by simp)
end Go.Proofs.YtdomcbebbhbdlaaGreatDoor.PLogsGauges
namespace Go.Proofs.Lg
open Go.RowKit Go.Proofs.YtdomcbebbhbdlaaGreatDoorW.PrintWords Go.Proofs.YtdomcbebbhbdlaaGreatDoorW.PrintLast Go.Proofs.YtdomcbebbhbdlaaGreatDoorW.PrintMore Go.Proofs.YtdomcbebbhbdlaaGreatDoor.PLogsGauges
def isG (x:S37):Bool:=inside 0 99 [x.f0] && (inside 0 100000 [x.f1] && (inside 1 24 [(x.f2.length:Int)] && inside 0 10000 x.f2))
def afterB (y x:S37):Bool:=decide (x.f0 > y.f0) || (decide (x.f0=y.f0) && decide (x.f1 ≥ wrap64 (y.f1 + (y.f2.length:Int))))
def sgn (d:Int):ByteArray:=if d < 0 then sdec d else ⟨#[43]⟩ ++ sdec d
def diffs:Int → List Int → List ByteArray
 | _,[]=>[]
 | a,b :: r=>sgn (b - a) :: diffs b r
def levelW:List Int → List ByteArray
 | []=>[]
 | a :: r=>sdec a :: diffs a r
def gaugeW (x:S37):List ByteArray:=sdec x.f0 :: sdec x.f1 :: levelW x.f2
def gaugeS (x:S37):ByteArray:=sealOf (joined (gaugeW x) ++ ⟨#[32]⟩)
structure SmallG (x:S37):Prop where
 a0:0 ≤ x.f0 ∧ x.f0 ≤ 99
 a1:0 ≤ x.f1 ∧ x.f1 ≤ 100000
 a2:∀ n ∈ x.f2,0 ≤ n ∧ n ≤ 10000
 l1:1 ≤ x.f2.length
 l2:x.f2.length ≤ 24
theorem inside_all {lo hi:Int} {l:List Int} (h:inside lo hi l=true):∀ n ∈ l,lo ≤ n ∧ n ≤ hi:=by
 intro n hn
 have:=List.all_eq_true.1 h n hn
 simp only [Bool.not_eq_true',Bool.or_eq_false_iff,decide_eq_false_iff_not] at this
 omega
theorem inside_of {lo hi:Int} {l:List Int} (h:∀ n ∈ l,lo ≤ n ∧ n ≤ hi):inside lo hi l=true:=by
 refine List.all_eq_true.2 fun n hn=>?_
 have:=h n hn
 simp only [Bool.not_eq_true',Bool.or_eq_false_iff,decide_eq_false_iff_not]
 omega
theorem smallG_of {x:S37} (h:isG x=true):SmallG x:=by
 simp only [isG,Bool.and_eq_true] at h
 obtain ⟨h0,h1,h2,h3⟩:=h
 have b0:=inside_all h0 _ (List.mem_singleton.2 rfl)
 have b1:=inside_all h1 _ (List.mem_singleton.2 rfl)
 have b2:=inside_all h2 _ (List.mem_singleton.2 rfl)
 exact ⟨b0,b1,inside_all h3,by omega,by omega⟩
theorem isGauge_f (x:S37) (hl:x.f2.length ≤ 1000000):logs_isGauge.f x.f0 x.f1 x.f2=some (isG x):=by
 unfold logs_isGauge.f logs_within.f isG
 rw [if_pos (by simp),if_pos (by simp),if_pos (by simp),if_pos hl]
 simp only [Option.bind_some]
 cases inside 0 99 [x.f0] <;> cases inside 0 100000 [x.f1] <;> cases inside 1 24 [(x.f2.length:Int)] <;> rfl
theorem gaugeAfter_f (y x:S37):logs_gaugeAfter.f y.f0 y.f1 y.f2 x.f0 x.f1 x.f2=some (afterB y x):=by
 unfold logs_gaugeAfter.f afterB
 by_cases h1:x.f0 > y.f0
 ·rw [if_pos h1];simp [h1]
 ·rw [if_neg h1]
  by_cases h2:x.f0=y.f0
  ·rw [if_pos h2];simp [h2]
  ·rw [if_neg h2];simp [h1,h2]
theorem decDigits_d (m:Nat):(Lib.decDigits m).length=if m < 10 then 1 else (Lib.decDigits (m / 10)).length + 1:=by
 rw [Lib.decDigits.eq_def]
 split <;> simp
theorem sdec_size {n:Int} (h0:-100000 ≤ n) (h1:n ≤ 100000):1 ≤ (sdec n).size ∧ (sdec n).size ≤ 7:=by
 have e:(sdec n).size=(Lib.itoa n).length:=ba_len _
 rw [e]
 unfold Lib.itoa
 have p:∀ m,1 ≤ (Lib.decDigits m).length:=fun m=>by rw [decDigits_d];split <;> omega
 split
 ·have a:=decDigits_six n.natAbs (by omega)
  have b:=p n.natAbs
  rw [List.length_cons];omega
 ·have a:=decDigits_six n.toNat (by omega)
  have b:=p n.toNat
  omega
theorem dig_first (m:Nat):∃ (c:UInt8) (r:List UInt8),Lib.decDigits m=c :: r ∧ 48 ≤ c.toNat ∧ c.toNat ≤ 57:=by
 induction m using Nat.strongRecOn with
 | _ m ih =>
  rw [Lib.decDigits.eq_def]
  split
  ·rename_i h
   refine ⟨_,_,rfl,?_⟩
   rw [UInt8.toNat_ofNat']
   omega
  ·rename_i h
   obtain ⟨c,r,e,h1,h2⟩:=ih (m / 10) (by omega)
   exact ⟨c,_,by rw [e,List.cons_append],h1,h2⟩
theorem bt_cons {s:ByteArray} {c:UInt8} {r:List UInt8} (h:s.data.toList=c :: r):bt s 0=(c.toNat:Int):=by
 have hs:s.size=r.length + 1:=by
  have:s.data.toList.length=s.size:=Array.length_toList
  rw [← this,h];rfl
 unfold bt
 rw [dif_pos (show (0:Int).toNat < s.size by rw [hs];exact Nat.succ_pos _)]
 have:s.data.toList[0]?=some c:=by rw [h];rfl
 have h2:s.data[0]?=some c:=by rw [← Array.getElem?_toList];exact this
 obtain ⟨hh,e⟩:=Array.getElem?_eq_some_iff.1 h2
 show ((s.data[0].toNat:Nat):Int)=_
 rw [e]
theorem sdec_list (n:Int):(sdec n).data.toList=Lib.itoa n:=by simp [sdec]
theorem bt_neg {n:Int} (h:n < 0):bt (sdec n) 0=45:=by
 rw [bt_cons (c:=45) (r:=Lib.decDigits n.natAbs) (by rw [sdec_list];unfold Lib.itoa;rw [if_pos h])]
 rfl
theorem bt_pos {n:Int} (h:¬ n < 0):¬ bt (sdec n) 0=45:=by
 obtain ⟨c,r,e,h1,h2⟩:=dig_first n.toNat
 rw [bt_cons (c:=c) (r:=r) (by rw [sdec_list];unfold Lib.itoa;rw [if_neg h,e])]
 omega
theorem itoa_f {n:Int} (h0:-100000 ≤ n) (h1:n ≤ 100000):strconv_Itoa.f n=some (sdec n):=if_pos (by omega)
theorem rd_at {l pre r:List Int} {a:Int} (h:l=pre ++ a :: r):rd l (pre.length:Int)=a:=by
 subst h
 unfold rd
 simp
theorem gl_loop (l:List Int) (hl:l.length ≤ 24) (hn:∀ n ∈ l,0 ≤ n ∧ n ≤ 10000) (f0 f1:Int):∀ (r pre:List Int) (a:Int) (acc:List ByteArray),l=pre ++ a :: r → acc.length ≤ 3 + pre.length →
  ∃ k,logs_gaugeLine.l0 k acc (l.drop 1) ((l.drop 1).length:Int) (pre.length:Int) f0 f1 l=logs_sealed.f (acc ++ diffs a r)
 | [],pre,a,acc,h,hacc=>by
  refine ⟨1,?_⟩
  have hlen:l.length=pre.length + 1:=by rw [h];simp
  simp only [logs_gaugeLine.l0]
  rw [if_neg (by rw [List.length_drop];omega),diffs,List.append_nil]
  cases logs_sealed.f acc <;> rfl
 | b :: r,pre,a,acc,h,hacc=>by
  have hlen:l.length=pre.length + r.length + 2:=by rw [h];simp;omega
  obtain ⟨k,hk⟩:=gl_loop l hl hn f0 f1 r (pre ++ [a]) b (acc ++ [sgn (b - a)]) (by rw [h];simp) (by rw [List.length_append,List.length_append,List.length_singleton,List.length_singleton];omega)
  refine ⟨k + 1,?_⟩
  have ha:=hn a (by rw [h];simp)
  have hb:=hn b (by rw [h];simp)
  have e1:rd (l.drop 1) (pre.length:Int)=b:=by
   have:=rd_at (l:=l) (pre:=pre ++ [a]) (a:=b) (r:=r) (by rw [h];simp)
   rw [← this]
   unfold rd
   rw [Int.toNat_natCast,Int.toNat_natCast,List.getD_eq_getElem?_getD,List.getD_eq_getElem?_getD,List.getElem?_drop,List.length_append,List.length_singleton,Nat.add_comm]
  have e2:rd l (pre.length:Int)=a:=rd_at h
  have e3:wrap64 (b - a)=b - a:=by unfold wrap64;omega
  have e4:wrap64 ((pre.length:Int) + 1)=((pre ++ [a]).length:Int):=by rw [List.length_append,List.length_singleton];unfold wrap64;omega
  have hs:=sdec_size (n:=b - a) (by omega) (by omega)
  simp only [logs_gaugeLine.l0]
  rw [if_pos (by rw [List.length_drop];omega),if_pos (by omega),if_pos (by rw [List.length_drop];omega),if_pos (by omega),e1,e2,e3,itoa_f (by omega) (by omega),Option.bind_some,if_pos (by omega),e4]
  rw [List.append_assoc,List.singleton_append] at hk
  rw [show diffs a (b :: r)=sgn (b - a) :: diffs b r from rfl]
  by_cases hneg:b - a < 0
  ·rw [if_pos (bt_neg hneg),if_pos (by omega)]
   rw [show sgn (b - a)=sdec (b - a) from if_pos hneg] at hk ⊢
   exact hk
  ·rw [if_neg (bt_pos hneg),if_pos (by omega),if_pos (by omega)]
   rw [show sgn (b - a)=⟨#[43]⟩ ++ sdec (b - a) from if_neg hneg] at hk ⊢
   exact hk
theorem diffs_small (m:Nat):∀ (r:List Int) (a:Int),(0 ≤ a ∧ a ≤ 10000) → (∀ n ∈ r,0 ≤ n ∧ n ≤ 10000) → (∀ x ∈ diffs a r,x.size ≤ 8) ∧ (diffs a r).length=r.length
 | [],a,ha,hr=>⟨by simp [diffs],rfl⟩
 | b :: r,a,ha,hr=>by
  have hb:=hr b (by simp)
  obtain ⟨h1,h2⟩:=diffs_small m r b hb (fun n hn=>hr n (by simp [hn]))
  have hs:=sdec_size (n:=b - a) (by omega) (by omega)
  refine ⟨fun x hx=>?_,by simp only [diffs,List.length_cons];omega⟩
  simp only [diffs,List.mem_cons] at hx
  rcases hx with rfl | hx
  ·unfold sgn
   split
   ·omega
   ·rw [ByteArray.size_append]
    have:(⟨#[43]⟩:ByteArray).size=1:=rfl
    omega
  ·exact h1 x hx
theorem gaugeW_small {x:S37} (h:SmallG x):(∀ y ∈ gaugeW x,y.size ≤ 8) ∧ (gaugeW x).length=x.f2.length + 2:=by
 obtain ⟨a0,a1,a2,l1,l2⟩:=h
 have s0:=sdec_size (n:=x.f0) (by omega) (by omega)
 have s1:=sdec_size (n:=x.f1) (by omega) (by omega)
 unfold gaugeW
 cases e:x.f2 with
 | nil=>rw [e] at l1;simp at l1
 | cons a r =>
  rw [e] at a2
  have ha:=a2 a (by simp)
  have s2:=sdec_size (n:=a) (by omega) (by omega)
  obtain ⟨d1,d2⟩:=diffs_small 0 r a ha (fun n hn=>a2 n (by simp [hn]))
  refine ⟨fun y hy=>?_,by simp only [levelW,List.length_cons];omega⟩
  simp only [levelW,List.mem_cons] at hy
  rcases hy with rfl | rfl | rfl | hy
  ·omega
  ·omega
  ·omega
  ·exact d1 y hy
theorem gauge_size {x:S37} (h:SmallG x):(joined (gaugeW x)).size ≤ 400:=by
 obtain ⟨h1,h2⟩:=gaugeW_small h
 have h3:=join_size [32] (gaugeW x) 8 h1
 have h4:(joined (gaugeW x)).size=(Lib.join ((gaugeW x).map (·.data.toList)) [32]).length:=ba_len _
 rw [h4]
 have l2:=h.l2
 have:(gaugeW x).length * (8 + [(32:UInt8)].length) ≤ 26 * 9:=Nat.mul_le_mul (by omega) (by simp)
 omega
theorem gaugeS_size {x:S37} (h:SmallG x):(gaugeS x).data.toList.length ≤ 404:=by
 have h1:=gauge_size h
 have h2:(gaugeS x).size ≤ 404:=by
  unfold gaugeS
  rw [sealOf_size,ByteArray.size_append]
  have:(⟨#[32]⟩:ByteArray).size=1:=rfl
  omega
 exact h2
theorem sealed_f {x:S37} (h:SmallG x):logs_sealed.f (gaugeW x)=some (gaugeS x):=by
 have h1:=gauge_size h
 have h2:=(gaugeW_small h).2
 have l2:=h.l2
 unfold logs_sealed.f gaugeS
 rw [if_pos ⟨by omega,by omega,by omega⟩]
theorem gaugeLine_f {x:S37} (h:SmallG x):∃ k,logs_gaugeLine.f k x.f0 x.f1 x.f2=some (gaugeS x):=by
 have hs:=sealed_f h
 obtain ⟨a0,a1,a2,l1,l2⟩:=h
 cases e:x.f2 with
 | nil=>rw [e] at l1;simp at l1
 | cons a r =>
  rw [e] at a2 l1 l2
  have ha:=a2 a (by simp)
  obtain ⟨k,hk⟩:=gl_loop (a :: r) l2 a2 x.f0 x.f1 r [] a [sdec x.f0,sdec x.f1,sdec a] rfl (by simp)
  refine ⟨k,?_⟩
  unfold logs_gaugeLine.f
  rw [itoa_f (by omega) (by omega),Option.bind_some,itoa_f (by omega) (by omega),Option.bind_some,if_pos (by simp only [List.length_cons];omega),show rd (a :: r) 0=a from rfl,itoa_f (by omega) (by omega),Option.bind_some,if_pos (by simp only [List.length_cons];omega)]
  rw [← hs]
  unfold gaugeW
  rw [e]
  exact hk
theorem isGaugeC (x:S37) (b:Bool) (hb:isG x=b) (A:Option Addr) (c:Nat) (w:World) (hr:Kd.C (Kd.int .i64) w A x.f2.length x.f2) (hc:x.f2.length ≤ c) (hl:x.f2.length ≤ 1000000) :
  Calls Tryz.prog 63 #[.agg #[.int .i64 x.f0,.int .i64 x.f1,.slice A x.f2.length c]] w fun e w'=>e=.returned (.bool b) ∧ Below w.heap.size w w':=by
 subst hb
 exact logs_isGauge.calls x.f0 x.f1 A c x.f2 _ w hr hc (isGauge_f x hl)
theorem gaugeAfterC (y x:S37) (b:Bool) (hb:afterB y x=b) (Ay:Option Addr) (cy:Nat) (A:Option Addr) (c:Nat) (w:World) (hry:Kd.C (Kd.int .i64) w Ay y.f2.length y.f2) (hcy:y.f2.length ≤ cy) (hr:Kd.C (Kd.int .i64) w A x.f2.length x.f2) (hc:x.f2.length ≤ c) :
  Calls Tryz.prog 64 #[.agg #[.int .i64 y.f0,.int .i64 y.f1,.slice Ay y.f2.length cy],.agg #[.int .i64 x.f0,.int .i64 x.f1,.slice A x.f2.length c]] w fun e w'=>e=.returned (.bool b) ∧ Below w.heap.size w w':=by
 subst hb
 exact logs_gaugeAfter.calls y.f0 y.f1 Ay cy y.f2 x.f0 x.f1 A c x.f2 _ w hry hcy hr hc (gaugeAfter_f y x)
theorem gaugeLine (x:S37) (A:Option Addr) (c:Nat) (w:World) (hr:Kd.C (Kd.int .i64) w A x.f2.length x.f2) (hc:x.f2.length ≤ c) (hx:SmallG x) (hw:Base w) :
  Calls Tryz.prog 65 #[.agg #[.int .i64 x.f0,.int .i64 x.f1,.slice A x.f2.length c]] w fun e w'=>e=.returned (.string (gaugeS x)) ∧ Below w.heap.size w w':=by
 obtain ⟨k,hk⟩:=gaugeLine_f hx
 exact logs_gaugeLine.calls k x.f0 x.f1 A c x.f2 _ w hw hr hc hk
def paperG:Value:=.agg #[.func (.func 63) #[] #[],.func (.func 64) #[] #[],.func (.func 65) #[] #[],.func (.func 66) #[] #[],.int .i64 200]
open Go.Vev in
set_option maxRecDepth 100000 in
theorem gauges_runs:((evalN Tryz.prog 100).call 33 [] (roMem Tryz.prog [])).map Prod.fst=some paperG:=by kernel_rfl
open Go.Vev in
theorem gauges (w:World) (hw:Base w):Calls Tryz.prog 33 #[] w fun e w'=>e=.returned paperG ∧ Below w.heap.size w w':=by
 obtain ⟨⟨v,σ'⟩,he,hv⟩:=Option.map_eq_some_iff.1 gauges_runs
 simp only at hv
 subst hv
 have hs:=hrel_start (P:=Tryz.prog) (w:=w) [] (by rw [Go.Vev.Logs.eight];exact hw.room) (fun g cs t' hm=>by simp at hm)
 refine (evalN_calls Go.Vev.Logs.ok 100 he hs (args':=#[]) .nil).mono fun e w' hq=>?_
 obtain ⟨φ',v',rfl,_,hv,_,hb⟩:=hq
 refine ⟨?_,hb⟩
 unfold paperG at hv ⊢
 cases hv with
 | agg h1 h2 =>
  rename_i c'
  have a0:=h2 0 _ (c'[0]'(by rw [← h1];decide)) rfl (by simp)
  have a1:=h2 1 _ (c'[1]'(by rw [← h1];decide)) rfl (by simp)
  have a2:=h2 2 _ (c'[2]'(by rw [← h1];decide)) rfl (by simp)
  have a3:=h2 3 _ (c'[3]'(by rw [← h1];decide)) rfl (by simp)
  have a4:=h2 4 _ (c'[4]'(by rw [← h1];decide)) rfl (by simp)
  have e0:=vrel_code a0
  have e1:=vrel_code a1
  have e2:=vrel_code a2
  have e3:=vrel_code a3
  have e4:=vrel_int a4
  have:c'=#[.func (.func 63) #[] #[],.func (.func 64) #[] #[],.func (.func 65) #[] #[],.func (.func 66) #[] #[],.int .i64 200]:=by
   refine Array.ext (by rw [← h1]) fun i hi hj=>?_
   have hi5:i < 5:=hj
   rcases (by omega:i=0 ∨ i=1 ∨ i=2 ∨ i=3 ∨ i=4) with rfl | rfl | rfl | rfl | rfl
   ·exact e0
   ·exact e1
   ·exact e2
   ·exact e3
   ·exact e4
  rw [this]
def afterG (p:Option S37) (x:S37):Bool:=match p with | none=>true | some y=>afterB y x
def textG:List UInt8 → Option S37 → List S37 → ByteArray × Int
 | acc,_,[]=>(⟨acc.toArray⟩,0)
 | acc,p,x :: r=>if isG x then (if afterG p x then textG (acc ++ (gaugeS x).data.toList) (some x) r else (⟨#[]⟩,6)) else (⟨#[]⟩,2)
def lastG (l:List S37) (i:Nat):Option S37:=match i with | 0=>none | i + 1=>l[i]?
set_option maxHeartbeats 8000000 in
set_option maxRecDepth 100000 in
theorem textT (l:List S37) (A:Option Addr) (c:Nat) (w:World) (hr:Kd.C k37 w A l.length l) (hc:l.length ≤ c) (hseals:∀ x ∈ l,x.f2.length ≤ 1000000) (hw:Base w) :
  Calls Tryz.prog 34 #[paperG,.slice A l.length c] w fun e w' =>
   e=.returned (if 200 < l.length then .tuple #[.string ⟨#[]⟩,.int .i64 5] else .tuple #[.string (textG [] none l).1,(.int .i64 (textG [] none l).2)]) ∧ Below w.heap.size w w':=by
 have hu37:=Tryz.underlying37
 have HB:=Aside0.mk (Below.refl w.heap.size w)
 unfold paperG
 by_cases hlong:200 < l.length
 ·rw [if_pos hlong]
  have z1:decide ((200:Int) < (l.length:Int))=true:=decide_eq_true (by omega)
  have z2:decide (200 < l.length)=true:=decide_eq_true hlong
  go_enter Tryz.func34,Tryz.ntmps34
  go_wp2
  go_ret2
  exact ⟨rfl,below_alloc HB.out _⟩
 ·rw [if_neg hlong]
  have z1:decide ((200:Int) < (l.length:Int))=false:=decide_eq_false (by omega)
  have z2:decide (200 < l.length)=false:=decide_eq_false hlong
  go_enter Tryz.func34,Tryz.ntmps34
  go_wp2_with fail
  generalize hB:(w.alloc (.cells #[.func (.func 63) #[] #[],.func (.func 64) #[] #[],.func (.func 65) #[] #[],.func (.func 66) #[] #[],.int .i64 200] 81))=W0
  have hszW:W0.heap.size=w.heap.size + 1:=by rw [← hB];simp
  have hbW:Below w.heap.size w W0:=by rw [← hB];exact below_alloc HB.out _
  have hpaper:∀ w':World,Below (w.heap.size + 1) W0 w' → w'.cell? ⟨w.heap.size,0,none⟩=some (.func (.func 63) #[] #[]) ∧ w'.cell? ⟨w.heap.size,1,none⟩=some (.func (.func 64) #[] #[]) ∧ w'.cell? ⟨w.heap.size,2,none⟩=some (.func (.func 65) #[] #[]):=by
   intro w' hb
   have hlt:w.heap.size < w.heap.size + 1:=by omega
   refine ⟨?_,?_,?_⟩ <;> (rw [hb.cell hlt,← hB];simp)
  have hB0:=Lib.fresh_isBuilder 105 5 W0
  rw [hszW] at hB0
  go_loopg [16] (l.length + 1) (fun kq v16 wr=>∃ (i:Nat) (acc:List UInt8),v16=.int .i64 (i:Int) ∧ i ≤ l.length ∧ kq + i=l.length + 1 ∧ Aside0 (textG [] none l=textG acc (lastG l i) (l.drop i)) ∧ Aside0 (acc.length ≤ 404 * i) ∧ Aside0 (Lib.IsBuilder 105 5 (w.heap.size + 1) (w.heap.size + 1) (Lib.byteCells acc) wr) ∧ Aside0 (Below (w.heap.size + 1) W0 wr))
  case atStart=>exact ⟨0,[],by first | rfl | simp,by omega,by omega,⟨rfl⟩,⟨by simp⟩,⟨hB0⟩,⟨by rw [← hszW];exact below_alloc (Below.refl _ _) _⟩⟩
  case round =>
   obtain ⟨i,acc,rfl,h1,h2,⟨h3⟩,⟨h4⟩,⟨hbd⟩,⟨h5⟩⟩:=hrel
   have hbw:Below w.heap.size w wr:=below_step hbW (by rw [hszW];exact h5)
   have hr':=Kd.C_below hr hbw
   have hwr:Base wr:=hw.step hbw
   obtain ⟨p0,p1,p2⟩:=hpaper wr h5
   by_cases hlt:i < l.length
   ·have hltb:decide ((i:Int) < (l.length:Int))=true:=decide_eq_true (by omega)
    have p128:(0 ≤ (i:Int))=True:=eq_true (by omega)
    have q128:((i:Int) < (l.length:Int))=True:=eq_true (by omega)
    obtain ⟨ad,A5,c5,rfl,x0,x1,x5,hl5,hi5⟩:=at_T37 hr' (i:Int) (by omega) (by omega)
    simp only [Int.toNat_natCast] at x0 x1 x5
    have hxm:rd_T37 l (i:Int)=l[i]:=by simp [rd_T37,hlt]
    rw [hxm] at x0 x1 x5 hl5 hi5
    have hxl:l[i].f2.length ≤ 1000000:=hseals _ (List.getElem_mem hlt)
    have hdrop:l.drop i=l[i] :: l.drop (i + 1):=List.drop_eq_getElem_cons hlt
    have hlast:lastG l (i + 1)=some l[i]:=by simp [lastG,hlt]
    generalize l[i]=x at x0 x1 x5 hl5 hi5 hxl hdrop hlast
    clear hxm
    rw [hdrop] at h3
    go_upto_region 7 with fail
    generalize hB1:(wr.alloc (.cells #[.int .i64 x.f0,.int .i64 x.f1,.slice A5 x.f2.length c5] 37))=W1
    have hb1:Below wr.heap.size wr W1:=by rw [← hB1];exact below_alloc (Below.refl _ _) _
    have hwsz:w.heap.size + 1 ≤ wr.heap.size:=by rw [← hszW];exact h5.size
    have hW1:Below (w.heap.size + 1) W0 W1:=h5.trans (hb1.mono hwsz)
    have hbw1:Below w.heap.size w W1:=hbw.trans (hb1.mono (by omega))
    obtain ⟨q0,q1,q2⟩:=hpaper W1 hW1
    have y0:W1.cell? ⟨wr.heap.size,0,none⟩=some (.int .i64 x.f0):=by rw [← hB1];simp
    have y1:W1.cell? ⟨wr.heap.size,1,none⟩=some (.int .i64 x.f1):=by rw [← hB1];simp
    have y5:W1.cell? ⟨wr.heap.size,2,none⟩=some (.slice A5 x.f2.length c5):=by rw [← hB1];simp
    have hiW1:=Kd.C_below hi5 hb1
    have hbd1:=isBuilder_below hbd hb1
    clear hB1 p0 p1 p2
    cases hisG:isG x with
    | false =>
     go_wp2_with (go_at_call 63;refine (isGaugeC x false hisG _ _ _ hiW1 hl5 hxl).mono ?_;rintro e w' ⟨rfl,hb⟩)
     go_ret2
     rw [h3,textG,hisG]
     exact ⟨rfl,hbw1.trans (hb.mono (by have:=hbw1.size;omega))⟩
    | true =>
     go_upto_region 9 with (go_at_call 63;refine (isGaugeC x true hisG _ _ _ hiW1 hl5 hxl).mono ?_;rintro e W2 ⟨rfl,hb2⟩)
     have hW2:Below (w.heap.size + 1) W0 W2:=hW1.trans (hb2.mono (by have:=hb1.size;omega))
     have hbw2:Below w.heap.size w W2:=hbw1.trans (hb2.mono (by have:=hbw1.size;omega))
     have hiW2:=Kd.C_below hiW1 hb2
     have hbd2:=isBuilder_below hbd1 hb2
     have hbase2:Base W2:=hw.step hbw2
     have hsz2:w.heap.size + 1 ≤ W2.heap.size:=by have:=hb1.size;have:=hb2.size;omega
     obtain ⟨q0,q1,q2⟩:=hpaper W2 hW2
     replace y0:=keepCell y0 hb2
     replace y1:=keepCell y1 hb2
     replace y5:=keepCell y5 hb2
     have hbs:=gaugeS_size (smallG_of hisG)
     have hbs':(gaugeS x).size=(gaugeS x).data.toList.length:=rfl
     have hroom:(Lib.byteCells acc).length + (gaugeS x).size ≤ 140737488355328:=by rw [Lib.byteCells_length];omega
     have g5:=Below.refl W2.heap.size W2
     have hBa:∀ w3,Below W2.heap.size W2 w3 → Base w3:=fun w3 h=>hbase2.step h
     by_cases hi0:i=0
     ·have z5:decide ((0:Int) < (i:Int))=false:=decide_eq_false (by omega)
      have z6:decide (0 < i)=false:=decide_eq_false (by omega)
      have hd:=below_drew g5
      go_region
      go_wp2_with (first
       | (go_at_call 65;refine (gaugeLine x _ _ _ (Kd.C_below hiW2 (by assumption)) hl5 (smallG_of hisG) (hBa _ (by assumption))).mono ?_;rintro e w4 ⟨rfl,hb⟩;have hb34:Below W2.heap.size W2 w4:=below_step (by assumption) hb)
       | (go_at_call 53;refine (writeString _ _ _ _ _ (isBuilder_below hbd2 hb34) hroom (Nat.le_trans hsz2 hb34.size)).mono ?_;rintro e w5 ⟨rfl,hbd5,hb5⟩))
      go_roundg (gk - 1)
      case measure=>omega
      case rel =>
       refine ⟨i + 1,acc ++ (gaugeS x).data.toList,by first | (simp;done) | (simp;omega),by omega,by omega,⟨?_⟩,⟨by rw [List.length_append];omega⟩,⟨by rw [Lib.byteCells_append];exact hbd5⟩,⟨hW2.trans ((hb34.mono hsz2).trans hb5)⟩⟩
       rw [h3,textG,hisG,if_pos rfl,hlast]
       rw [if_pos (by rw [hi0];rfl)]
     ·obtain ⟨k,hk⟩:∃ k,i=k + 1:=⟨i - 1,by omega⟩
      have z5:decide ((0:Int) < (i:Int))=true:=decide_eq_true (by omega)
      have z6:decide (0 < i)=true:=decide_eq_true (by omega)
      have hsub:IntKind.i64.wrap ((i:Int) - 1)=(k:Int):=by rw [i64_w];unfold wrap64;omega
      have p129:(0 ≤ (k:Int))=True:=eq_true (by omega)
      have q129:((k:Int) < (l.length:Int))=True:=eq_true (by omega)
      have q130:(k < l.length)=True:=eq_true (by omega)
      obtain ⟨ad',A6,c6,hade,v0,v1,v5,hl6,hi6⟩:=at_T37 hr' (k:Int) (by omega) (by omega)
      cases hade
      have hxk:rd_T37 l (k:Int)=l[k]'(by omega):=by simp [rd_T37,(by omega:k < l.length)]
      rw [hxk] at v0 v1 v5 hl6 hi6
      simp only [Int.toNat_natCast] at v0 v1 v5
      have hlk:lastG l (k + 1)=some (l[k]'(by omega)):=by simp [lastG,(by omega:k < l.length)]
      rw [← hk] at hlk
      generalize l[k]'(by omega)=y at v0 v1 v5 hl6 hi6 hlk
      have hb12:=below_step hb1 hb2
      replace v0:=keepCell v0 hb12
      replace v1:=keepCell v1 hb12
      replace v5:=keepCell v5 hb12
      have hi6':=Kd.C_below hi6 hb12
      have hii:(i:Int) - 1=(k:Int):=by omega
      have hkeep:∀ (w1 w2:World),Below w1.heap.size w1 w2 → Below W2.heap.size W2 w1 → w2.cell? ⟨w.heap.size,1,none⟩=some (.func (.func 64) #[] #[]) ∧ w2.cell? ⟨w.heap.size,2,none⟩=some (.func (.func 65) #[] #[]) ∧ w2.cell? (ad.add (k * 3))=some (.int .i64 y.f0) ∧ w2.cell? ⟨(ad.add (k * 3)).block,(ad.add (k * 3)).off + 1,none⟩=some (.int .i64 y.f1) ∧ w2.cell? ⟨(ad.add (k * 3)).block,(ad.add (k * 3)).off + 2,none⟩=some (.slice A6 y.f2.length c6) ∧ w2.cell? ⟨wr.heap.size,0,none⟩=some (.int .i64 x.f0) ∧ w2.cell? ⟨wr.heap.size,1,none⟩=some (.int .i64 x.f1) ∧ w2.cell? ⟨wr.heap.size,2,none⟩=some (.slice A5 x.f2.length c5) ∧ Below W2.heap.size W2 w2:=by
       intro w1 w2 hk1 hk2
       have h6:=below_step hk2 hk1
       exact ⟨keepCell q1 h6,keepCell q2 h6,keepCell v0 h6,keepCell v1 h6,keepCell v5 h6,keepCell y0 h6,keepCell y1 h6,keepCell y5 h6,h6⟩
      have halloc:=fun (w1:World) (o:Obj) (hk1:Below W2.heap.size W2 w1)=>hkeep w1 (w1.alloc o) (below_alloc (Below.refl _ _) o) hk1
      have hdrew:=fun (w1:World) (hk1:Below W2.heap.size W2 w1)=>hkeep w1 w1.drew (below_drew (Below.refl _ _)) hk1
      clear hii
      have hk':=Aside0.mk hk
      clear hxk
      clear hk hi0
      cases haf:afterB y x with
      | false =>
       go_region_held3 (fun w2=>w2.cell? ⟨w.heap.size,1,none⟩=some (.func (.func 64) #[] #[]) ∧ w2.cell? ⟨w.heap.size,2,none⟩=some (.func (.func 65) #[] #[]) ∧ w2.cell? (ad.add (k * 3))=some (.int .i64 y.f0) ∧ w2.cell? ⟨(ad.add (k * 3)).block,(ad.add (k * 3)).off + 1,none⟩=some (.int .i64 y.f1) ∧ w2.cell? ⟨(ad.add (k * 3)).block,(ad.add (k * 3)).off + 2,none⟩=some (.slice A6 y.f2.length c6) ∧ w2.cell? ⟨wr.heap.size,0,none⟩=some (.int .i64 x.f0) ∧ w2.cell? ⟨wr.heap.size,1,none⟩=some (.int .i64 x.f1) ∧ w2.cell? ⟨wr.heap.size,2,none⟩=some (.slice A5 x.f2.length c5) ∧ Below W2.heap.size W2 w2)
        (first
         | (go_split_ands;first | exact hkeep _ _ hb (by assumption) | exact halloc _ _ (by assumption) | exact hdrew _ (by assumption))
         | go_keep)
        (first
         | (go_at_call 64;go_split_ands;refine (gaugeAfterC y x false haf _ _ _ _ _ (Kd.C_below hi6' (by assumption)) hl6 (Kd.C_below hiW2 (by assumption)) hl5).mono ?_;rintro e w' ⟨rfl,hb⟩))
       go_split_ands
       go_wp2
       go_ret2
       rw [h3,textG,hisG,if_pos rfl,if_neg (by rw [hlk];simp only [afterG];rw [haf];exact Bool.false_ne_true)]
       exact ⟨rfl,hbw2.trans (Below.mono (by assumption) (by omega))⟩
      | true =>
       go_region_held3 (fun w2=>w2.cell? ⟨w.heap.size,1,none⟩=some (.func (.func 64) #[] #[]) ∧ w2.cell? ⟨w.heap.size,2,none⟩=some (.func (.func 65) #[] #[]) ∧ w2.cell? (ad.add (k * 3))=some (.int .i64 y.f0) ∧ w2.cell? ⟨(ad.add (k * 3)).block,(ad.add (k * 3)).off + 1,none⟩=some (.int .i64 y.f1) ∧ w2.cell? ⟨(ad.add (k * 3)).block,(ad.add (k * 3)).off + 2,none⟩=some (.slice A6 y.f2.length c6) ∧ w2.cell? ⟨wr.heap.size,0,none⟩=some (.int .i64 x.f0) ∧ w2.cell? ⟨wr.heap.size,1,none⟩=some (.int .i64 x.f1) ∧ w2.cell? ⟨wr.heap.size,2,none⟩=some (.slice A5 x.f2.length c5) ∧ Below W2.heap.size W2 w2)
        (first
         | (go_split_ands;first | exact hkeep _ _ hb (by assumption) | exact halloc _ _ (by assumption) | exact hdrew _ (by assumption))
         | go_keep)
        (first
         | (go_at_call 64;go_split_ands;refine (gaugeAfterC y x true haf _ _ _ _ _ (Kd.C_below hi6' (by assumption)) hl6 (Kd.C_below hiW2 (by assumption)) hl5).mono ?_;rintro e w' ⟨rfl,hb⟩))
       go_split_ands
       go_wp2_with (first
        | (go_at_call 65;refine (gaugeLine x _ _ _ (Kd.C_below hiW2 (by assumption)) hl5 (smallG_of hisG) (hBa _ (by assumption))).mono ?_;rintro e w4 ⟨rfl,hb⟩;have hb34:Below W2.heap.size W2 w4:=below_step (by assumption) hb)
        | (go_at_call 53;refine (writeString _ _ _ _ _ (isBuilder_below hbd2 hb34) hroom (Nat.le_trans hsz2 hb34.size)).mono ?_;rintro e w5 ⟨rfl,hbd5,hb5⟩))
       go_roundg (gk - 1)
       case measure=>omega
       case rel =>
        refine ⟨i + 1,acc ++ (gaugeS x).data.toList,by first | (simp;done) | (simp;omega),by omega,by omega,⟨?_⟩,⟨by rw [List.length_append];omega⟩,⟨by rw [Lib.byteCells_append];exact hbd5⟩,⟨hW2.trans ((hb34.mono hsz2).trans hb5)⟩⟩
        rw [h3,textG,hisG,if_pos rfl,hlast]
        rw [if_pos (by rw [hlk];exact haf)]
   ·have hltb:decide ((i:Int) < (l.length:Int))=false:=decide_eq_false (by omega)
    have hi:i=l.length:=by omega
    subst hi
    have hwp:w.heap.size + 1 ≤ wr.heap.size:=by rw [← hszW];exact h5.size
    go_wp2_with (go_at_call 54;refine (Tryz.Builder_String_any _ _ acc _ hbd hwp).mono ?_;rintro e w' ⟨rfl,hb⟩)
    go_ret2
    rw [h3,List.drop_length]
    exact ⟨rfl,hbw.trans (hb.mono (by omega))⟩
end Go.Proofs.Lg
namespace Go.Proofs.Lg
open Go.RowKit Go.Lib Go.Proofs.YtdomcbebbhbdlaaGreatDoorW.PrintWords Go.Proofs.YtdomcbebbhbdlaaGreatDoorW.PrintLast Go.Proofs.YtdomcbebbhbdlaaGreatDoorW.PrintMore Go.Proofs.YtdomcbebbhbdlaaGreatDoor.PLogsGauges
def readL (st hr:Int):Int → List Int → List ByteArray → S37
 | _,acc,[]=>⟨st,hr,acc⟩
 | lev,acc,w :: r=>if (atoiR w).2.isNone=true then (if inside 0 10000 [wrap64 (lev + (atoiR w).1)]=true then readL st hr (wrap64 (lev + (atoiR w).1)) (acc ++ [wrap64 (lev + (atoiR w).1)]) r else z37) else z37
def readG (ws:List ByteArray):S37 :=
 if ws.length < 3 then z37 else if ws.length > 26 then z37 else readL (numOf (rdOf ByteArray.empty ws 0)) (numOf (rdOf ByteArray.empty ws 1)) 0 [] (ws.drop 2)
theorem readL_len (st hr:Int):∀ (r:List ByteArray) (lev:Int) (acc:List Int),(readL st hr lev acc r).f2.length ≤ acc.length + r.length
 | [],lev,acc=>Nat.le_refl _
 | w :: r,lev,acc=>by
  unfold readL
  split
  ·split
   ·have:=readL_len st hr r (wrap64 (lev + (atoiR w).1)) (acc ++ [wrap64 (lev + (atoiR w).1)])
    rw [List.length_append,List.length_singleton] at this
    rw [List.length_cons];omega
   ·exact Nat.zero_le _
  ·exact Nat.zero_le _
theorem readG_len (ws:List ByteArray):(readG ws).f2.length ≤ 24:=by
 unfold readG
 split
 ·exact Nat.zero_le _
 ·split
  ·exact Nat.zero_le _
  ·have:=readL_len (numOf (rdOf ByteArray.empty ws 0)) (numOf (rdOf ByteArray.empty ws 1)) (ws.drop 2) 0 []
   rw [List.length_drop] at this
   simp only [List.length_nil] at this
   omega
theorem rdOf_at {l pre r:List ByteArray} {a:ByteArray} (h:l=pre ++ a :: r):rdOf ByteArray.empty l (pre.length:Int)=a:=by
 subst h
 unfold rdOf
 simp
theorem rl_loop (st hr:Int) (l:List ByteArray) (hl:l.length ≤ 24) (hs:∀ x ∈ l,x.size ≤ 1000000):∀ (r pre:List ByteArray) (lev:Int) (acc:List Int),l=pre ++ r → acc.length ≤ pre.length →
  ∃ k,logs_gauges_1.l0 k lev l (l.length:Int) (pre.length:Int) st hr acc=some ((readL st hr lev acc r).f0,(readL st hr lev acc r).f1,(readL st hr lev acc r).f2)
 | [],pre,lev,acc,h,hacc=>by
  refine ⟨1,?_⟩
  have:l.length=pre.length:=by rw [h];simp
  simp only [logs_gauges_1.l0]
  rw [if_neg (by omega)]
  rfl
 | w :: r,pre,lev,acc,h,hacc=>by
  have hlen:l.length=pre.length + r.length + 1:=by rw [h];simp;omega
  obtain ⟨k,hk⟩:=rl_loop st hr l hl hs r (pre ++ [w]) (wrap64 (lev + (atoiR w).1)) (acc ++ [wrap64 (lev + (atoiR w).1)]) (by rw [h];simp) (by rw [List.length_append,List.length_append,List.length_singleton,List.length_singleton];omega)
  refine ⟨k + 1,?_⟩
  have e1:rdOf ByteArray.empty l (pre.length:Int)=w:=rdOf_at h
  have e2:strconv_Atoi.f w=some (atoiR w):=if_pos (hs w (by rw [h];simp))
  have e4:wrap64 ((pre.length:Int) + 1)=((pre ++ [w]).length:Int):=by rw [List.length_append,List.length_singleton];unfold wrap64;omega
  have e5:∀ n,logs_within.f 0 10000 [n]=some (inside 0 10000 [n]):=fun n=>if_pos (by simp)
  have e6:readL st hr lev acc (w :: r)=if (atoiR w).2.isNone=true then (if inside 0 10000 [wrap64 (lev + (atoiR w).1)]=true then readL st hr (wrap64 (lev + (atoiR w).1)) (acc ++ [wrap64 (lev + (atoiR w).1)]) r else z37) else z37:=rfl
  simp only [logs_gauges_1.l0]
  rw [if_pos (by omega),if_pos (by omega),if_pos (by omega),e1,e2,Option.bind_some,e5,Option.bind_some,e4,hk,e6]
  by_cases h1:(atoiR w).2.isNone=true
  ·rw [if_pos h1,if_pos h1]
   by_cases h2:inside 0 10000 [wrap64 (lev + (atoiR w).1)]=true
   ·rw [if_pos h2,if_pos h2,if_pos (by omega)]
   ·rw [if_neg h2,if_neg h2];rfl
  ·rw [if_neg h1,if_neg h1];rfl
theorem readG_f (ws:List ByteArray) (hs:∀ x ∈ ws,x.size ≤ 1000000):∃ k,logs_gauges_1.f k ws=some ((readG ws).f0,(readG ws).f1,(readG ws).f2):=by
 unfold readG
 by_cases h1:ws.length < 3
 ·refine ⟨1,?_⟩
  unfold logs_gauges_1.f
  rw [if_pos (by omega),if_pos h1]
  rfl
 ·rw [if_neg h1]
  by_cases h2:ws.length > 26
  ·refine ⟨1,?_⟩
   unfold logs_gauges_1.f
   rw [if_neg (by omega),if_pos h2,decide_eq_true (by omega)]
   rfl
  ·rw [if_neg h2]
   have hdl:(ws.drop 2).length=ws.length - 2:=List.length_drop
   obtain ⟨k,hk⟩:=rl_loop (numOf (rdOf ByteArray.empty ws 0)) (numOf (rdOf ByteArray.empty ws 1)) (ws.drop 2) (by omega) (fun x hx=>hs x (List.mem_of_mem_drop hx)) (ws.drop 2) [] 0 [] rfl (Nat.le_refl _)
   refine ⟨k + 1,?_⟩
   have hm:∀ i:Nat,i < ws.length → (rdOf ByteArray.empty ws (i:Int)).size ≤ 1000000:=by
    intro i hi
    have:rdOf ByteArray.empty ws (i:Int)=ws[i]:=by unfold rdOf;simp [hi]
    rw [this]
    exact hs _ (List.getElem_mem hi)
   have e0:logs_number.f (rdOf ByteArray.empty ws 0)=some (numOf (rdOf ByteArray.empty ws 0)):=if_pos (hm 0 (by omega))
   have e1:logs_number.f (rdOf ByteArray.empty ws 1)=some (numOf (rdOf ByteArray.empty ws 1)):=if_pos (hm 1 (by omega))
   unfold logs_gauges_1.f
   rw [if_neg (by omega),decide_eq_false (by omega)]
   simp only [logs_gauges_1.j0]
   rw [if_neg (by decide),if_pos (by omega),e0,Option.bind_some,if_pos (by omega),e1,Option.bind_some,if_pos (by omega)]
   exact hk
theorem readGaugeN (bk k c:Nat) (xs:List ByteArray) (W:World) (hn:k=xs.length) (hk:k ≤ 1000000) (hcells:∀ (j:Nat) (x:ByteArray),xs[j]?=some x → W.cell? ⟨bk,j,none⟩=some (.string x)) (hc:k ≤ c) (hsz:∀ x ∈ xs,x.size ≤ 1000000) (hw:Base W) (y:S37) (hy:readG xs=y) :
  Calls Tryz.prog 66 #[.slice (some ⟨bk,0,none⟩) k c] W fun e w'=>∃ A n c',e=.returned (.agg #[.int .i64 y.f0,.int .i64 y.f1,.slice A n c']) ∧
   Kd.R (Kd.int .i64) 3 w' W.heap.size (fun _=>True) (.slice A n c') y.f2 ∧ Below W.heap.size W w':=by
 subst hn
 subst hy
 have hC:Kd.C Kd.string W (some ⟨bk,0,none⟩) xs.length xs:=by
  refine Kd.C_of_reads (enc:=Value.string) (d:=ByteArray.empty) (h1:=fun _=>rfl) ⟨rfl,by omega,fun _=>⟨_,rfl,fun j hj=>?_⟩⟩
  have hx:xs[j]?=some (xs.getD j ByteArray.empty):=by simp [hj]
  by_cases h0:j=0
  ·subst h0;exact hcells 0 _ hx
  ·have:=hcells j _ hx
   simpa [Addr.add,h0] using this
 obtain ⟨k,hk⟩:=readG_f xs hsz
 refine (logs_gauges_1.calls k _ c xs _ _ _ W hw hC hc hk).mono ?_
 rintro e w' ⟨v,rfl,hR,hb⟩
 obtain ⟨A,c',rfl⟩:=Kd.R_slice hR
 exact ⟨_,_,_,rfl,hR,hb⟩
theorem row_sets3 {b:Nat} {t:TypeId} {w:World} (h:HasRow b t 3 w) (v0 v1 v2:Value):(((w.setCell ⟨b,0,none⟩ v0).setCell ⟨b,1,none⟩ v1).setCell ⟨b,2,none⟩ v2).heap[b]?=some (.cells #[v0,v1,v2] t (0,0)):=by
 obtain ⟨cs,h1,h2⟩:=h
 have s0:=set_row (j:=0) h1 v0
 have s1:=set_row (j:=1) s0 v1
 have s2:=set_row (j:=2) s1 v2
 rw [s2]
 congr 2
 obtain ⟨c⟩:=cs
 match c,h2 with
 | [_,_,_],_=>rfl
theorem same_row3 {b:Nat} {w:World} {n0 n1:Int} {v:Value} (h:w.heap[b]?=some (.cells #[.int .i64 n0,.int .i64 n1,v] 37 (0,0))) :
  (((w.setCell ⟨b,0,none⟩ (.int .i64 n0)).setCell ⟨b,1,none⟩ (.int .i64 n1)).setCell ⟨b,2,none⟩ v).heap[b]? =
   some (.cells #[.int .i64 n0,.int .i64 n1,v] 37 (0,0)):=row_sets3 ⟨_,h,rfl⟩ _ _ _
theorem below_sets3 {b B:Nat} {w W:World} {v0 v1 v2:Value} (hB:B ≤ b) (h:Below B w W) :
  Below B w (((W.setCell ⟨b,0,none⟩ v0).setCell ⟨b,1,none⟩ v1).setCell ⟨b,2,none⟩ v2) :=
 ((h.setCell (p:=⟨b,0,none⟩) hB _).setCell (p:=⟨b,1,none⟩) hB _).setCell (p:=⟨b,2,none⟩) hB _
theorem row3 {b:Nat} {W:World} {v0 v1 v2:Value} {t:TypeId} (h:W.heap[b]?=some (.cells #[v0,v1,v2] t (0,0))) :
  W.cell? ⟨b,0,none⟩=some v0 ∧ W.cell? ⟨b,1,none⟩=some v1 ∧ W.cell? ⟨b,2,none⟩=some v2 ∧
   W.frozen? ⟨b,0,none⟩=false ∧ W.frozen? ⟨b,1,none⟩=false ∧ W.frozen? ⟨b,2,none⟩=false:=by
 refine ⟨?_,?_,?_,Lib.frozen_of_heap h 0,Lib.frozen_of_heap h 1,Lib.frozen_of_heap h 2⟩ <;> (rw [Lib.cell_of_heap h];rfl)
theorem far_sets3 {b base:Nat} {W:World} {v0 v1 v2 v:Value} {l:List Int} (hb:b < base) (hR:Kd.R (Kd.int .i64) 3 W base (fun _=>True) v l) :
  Kd.R (Kd.int .i64) 3 (((W.setCell ⟨b,0,none⟩ v0).setCell ⟨b,1,none⟩ v1).setCell ⟨b,2,none⟩ v2) base (fun _=>True) v l:=by
 have h0:Kd.R (Kd.int .i64) 3 W base (fun k=>k ≠ b) v l:=Kd.R_mono (Kd.R_bound hR) (fun k hk=>by have:=hk.2.1;omega)
 have hok:∀ k,k ≠ b → k ≠ b:=fun _ h=>h
 exact Kd.R_mono (Kd.R_far (Kd.R_far (Kd.R_far h0 (p:=⟨b,0,none⟩) hok v0) (p:=⟨b,1,none⟩) hok v1) (p:=⟨b,2,none⟩) hok v2) (fun _ _=>trivial)
def lineG (s:ByteArray):S37 × Int :=
 if formed s then
  if sealOf (joined (initW s) ++ ⟨#[32]⟩)=s ++ ⟨#[10]⟩ then
   if isG (readG (initW s)) then if gaugeS (readG (initW s))=s ++ ⟨#[10]⟩ then (readG (initW s),0) else (z37,4) else (z37,4)
  else (z37,121)
 else (z37,4)
set_option maxHeartbeats 4000000 in
set_option maxRecDepth 100000 in
theorem lineCG (s:ByteArray) (hs:s.size ≤ 1000000) (w:World) (hw:Base w) :
  Calls Tryz.prog 68 #[paperG,.string s] w fun e w'=>∃ x v,e=.returned (.tuple #[.agg #[.int .i64 x.f0,.int .i64 x.f1,v],.int .i64 (lineG s).2]) ∧
   Kd.R (Kd.int .i64) 3 w' w.heap.size (fun _=>True) v x.f2 ∧ ((lineG s).2=0 → x=(lineG s).1) ∧ Below w.heap.size w w':=by
 have hu37:=Tryz.underlying37
 unfold paperG
 obtain ⟨k,hk⟩:∃ k,(wordsOf s).length=k + 1:=⟨countB s ⟨#[32]⟩,wordsOf_len s⟩
 have hkc:IntKind.i64.wrap (k:Int)=(k:Int):=by
  have h1:=wordsOf_len s
  have h2:=count_le s.data.toList [32]
  have h3:s.data.toList.length=s.size:=rfl
  have h4:k ≤ s.size + 1:=by
   have:countB s ⟨#[32]⟩ ≤ s.data.toList.length + 1:=h2
   omega
  rw [i64_w];unfold wrap64;omega
 have p1:(0 ≤ (k:Int))=True:=eq_true (by omega)
 go_enter Tryz.func68,Tryz.ntmps68
 go_upto_region 1 with fail
 obtain ⟨hsz0,hb0,hP0,hA0⟩:=two_boxes w #[.func (.func 63) #[] #[],.func (.func 64) #[] #[],.func (.func 65) #[] #[],.func (.func 66) #[] #[],.int .i64 200] #[.int .i64 0,.int .i64 0,.slice none 0 0] 81 37
 obtain ⟨W0,hW0⟩:∃ W0,((w.alloc (.cells #[.func (.func 63) #[] #[],.func (.func 64) #[] #[],.func (.func 65) #[] #[],.func (.func 66) #[] #[],.int .i64 200] 81)).alloc (.cells #[.int .i64 0,.int .i64 0,.slice none 0 0] 37))=W0:=⟨_,rfl⟩
 rw [hW0] at hsz0 hb0 hP0 hA0 ⊢
 clear hW0
 have hw0:Base W0:=hw.step hb0
 go_upto_region 2 with (go_at_call 95;refine (splitC s hs k hk _ hw0).mono ?_;rintro e w' ⟨rfl,rfl⟩)
 have hb1:Below W0.heap.size W0 (W0.alloc (.cells ((wordsOf s).map Value.string).toArray 9)):=below_alloc (Below.refl _ _) _
 have hcells:∀ (j:Nat) (x:ByteArray),(initW s)[j]?=some x → (W0.alloc (.cells ((wordsOf s).map Value.string).toArray 9)).cell? ⟨W0.heap.size,j,none⟩=some (.string x):=by
  intro j x hj
  rw [Lib.cell_of_heap (heap_alloc_new _ _)]
  unfold initW at hj
  obtain ⟨hl,hx⟩:=List.getElem?_eq_some_iff.1 hj
  rw [List.getElem_take] at hx
  have hl':j < (wordsOf s).length:=by rw [List.length_take] at hl;omega
  simp [hl',hx]
 have hinit:(initW s).length=k:=by unfold initW;rw [List.length_take];omega
 have hjs:=words_init s
 have hsz1:(W0.alloc (.cells ((wordsOf s).map Value.string).toArray 9)).heap.size=w.heap.size + 3:=by rw [World.size_alloc,hsz0]
 obtain ⟨W1,hW1⟩:∃ W1,W0.alloc (.cells ((wordsOf s).map Value.string).toArray 9)=W1:=⟨_,rfl⟩
 rw [hW1] at hb1 hcells hsz1 ⊢
 clear hW1
 have hP1:=(hb1.block w.heap.size (by omega)).trans hP0
 have hA1:=(hb1.block (w.heap.size + 1) (by omega)).trans hA0
 have hw1:Base W1:=hw0.step hb1
 have hbw1:Below w.heap.size w W1:=hb0.trans (hb1.mono (by omega))
 rw [hsz0] at hcells
 clear hk
 have b0:W1.cell? ⟨w.heap.size + 1,0,none⟩=some (.int .i64 0):=by rw [Lib.cell_of_heap hA1];rfl
 have b1:W1.cell? ⟨w.heap.size + 1,1,none⟩=some (.int .i64 0):=by rw [Lib.cell_of_heap hA1];rfl
 have b2:W1.cell? ⟨w.heap.size + 1,2,none⟩=some (.slice none 0 0):=by rw [Lib.cell_of_heap hA1];rfl
 have f0:W1.frozen? ⟨w.heap.size + 1,0,none⟩=false:=Lib.frozen_of_heap hA1 0
 have f1:W1.frozen? ⟨w.heap.size + 1,1,none⟩=false:=Lib.frozen_of_heap hA1 1
 have f2:W1.frozen? ⟨w.heap.size + 1,2,none⟩=false:=Lib.frozen_of_heap hA1 2
 by_cases g1:600 < s.size
 ·have hform:lineG s=(z37,4):=by unfold lineG formed;rw [decide_eq_false (by omega)];rfl
  have z1:decide ((600:Int) < (s.size:Int))=true:=decide_eq_true (by omega)
  have z2:decide (600 < s.size)=true:=decide_eq_true g1
  go_wp2
  refine bodyPost_ret (results_cell_row_tmp rfl _ _ (w.heap.size + 1) 37 _ (0,0) _ rfl (same_row3 hA1) hu37 rfl (by kernel_rfl)) rfl ?_
  rw [hform]
  exact ⟨z37,_,rfl,Kd.R_nil _ _ _ _ _,fun h=>by simp at h,below_sets3 (by omega) hbw1⟩
 by_cases g2:s.size < 3
 ·have hform:lineG s=(z37,4):=by unfold lineG formed;rw [decide_eq_false (by omega:¬ 3 ≤ s.size)];simp
  have z1:decide ((600:Int) < (s.size:Int))=false:=decide_eq_false (by omega)
  have z2:decide (600 < s.size)=false:=decide_eq_false g1
  have z3:decide ((s.size:Int) < 3)=true:=decide_eq_true (by omega)
  have z4:decide (s.size < 3)=true:=decide_eq_true g2
  go_wp2
  refine bodyPost_ret (results_cell_row_tmp rfl _ _ (w.heap.size + 1) 37 _ (0,0) _ rfl (same_row3 hA1) hu37 rfl (by kernel_rfl)) rfl ?_
  rw [hform]
  exact ⟨z37,_,rfl,Kd.R_nil _ _ _ _ _,fun h=>by simp at h,below_sets3 (by omega) hbw1⟩
 obtain ⟨m,hm⟩:∃ m,s.size - 3=m:=⟨_,rfl⟩
 have hsub:IntKind.i64.wrap ((s.size:Int) - 3)=(m:Int):=by rw [i64_w];unfold wrap64;omega
 have z1:decide ((600:Int) < (s.size:Int))=false:=decide_eq_false (by omega)
 have z2:decide (600 < s.size)=false:=decide_eq_false g1
 have z3:decide ((s.size:Int) < 3)=false:=decide_eq_false (by omega)
 have z4:decide (s.size < 3)=false:=decide_eq_false g2
 have p2:(0 ≤ (m:Int))=True:=eq_true (by omega)
 have p3:((m:Int) < (s.size:Int))=True:=eq_true (by omega)
 have p4:(m < s.size)=True:=eq_true (by omega)
 have hbt:=bt_at s (m:Int)
 have hrange:=bt_range s (m:Int)
 simp only [Int.toNat_natCast] at hbt
 by_cases g3:bt s (m:Int)=32
 ·have z5:(bt s (m:Int) != 32)=false:=bne_eq_false_iff_eq.2 g3
  have z6:(bt s (m:Int) == 32)=true:=beq_iff_eq.2 g3
  have hf:formed s=true:=by unfold formed;rw [hm,decide_eq_true (by omega:s.size ≤ 600),decide_eq_true (by omega:3 ≤ s.size),decide_eq_true g3];rfl
  go_upto_region 5 with fail
  clear z1 z2 z3 z4 p2 p3 p4 hsub hbt hrange z5 z6
  obtain ⟨S1,hS1⟩:∃ S1,sealOf (joined (initW s) ++ ⟨#[32]⟩)=S1:=⟨_,rfl⟩
  obtain ⟨xs,hxs⟩:∃ xs,initW s=xs:=⟨_,rfl⟩
  have hsS:=Aside0.mk hS1
  have hxS:=Aside0.mk hxs
  have hjx:(joined xs).size ≤ 3000:=by rw [← hxs];exact Nat.le_trans hjs (by omega)
  have hK:=sealedN (w.heap.size + 2) (k + 1) k xs W1 (by rw [← hxs];exact hinit.symm) (by rw [← hxs];exact hcells) (by omega) (by have:=wordsOf_len s;have h2:=count_le s.data.toList [32];have:countB s ⟨#[32]⟩ ≤ s.size + 1:=h2;have:(initW s).length ≤ (wordsOf s).length:=by { unfold initW;rw [List.length_take];omega };omega) (by omega) hjx S1 (by rw [← hxs];exact hS1)
  have hwsz:∀ x ∈ xs,x.size ≤ 1000000:=by
   intro x hx
   rw [← hxs] at hx
   have:=words_size s x (List.mem_of_mem_take hx)
   omega
  have hlenx:xs.length=k:=by rw [← hxs];exact hinit
  have hcx:∀ (j:Nat) (x:ByteArray),xs[j]?=some x → W1.cell? ⟨w.heap.size + 2,j,none⟩=some (.string x):=by rw [← hxs];exact hcells
  clear hS1 hxs hjs hcells hinit
  have s1:(s.size + 1 ≤ 9223372036854775807)=True:=eq_true (by omega)
  have s2:(9223372036854775807 < s.size + 1)=False:=eq_false (by omega)
  have p5:((k:Int) ≤ (k:Int) + 1)=True:=eq_true (by omega)
  have p6:(k ≤ k + 1)=True:=eq_true (by omega)
  by_cases g4:S1=s ++ ⟨#[10]⟩
  ·have q1:(S1.toList == (s ++ ⟨#[10]⟩:ByteArray).toList)=true:=beq_iff_eq.2 (by rw [g4])
   clear b0 b1 b2 f0 f1 f2
   go_upto_region 7 with (go_at_call 84;refine hK.mono ?_;rintro e W2 ⟨rfl,hb⟩)
   clear hK
   have hA2:=(hb.block (w.heap.size + 1) (by omega)).trans hA1
   have hP2:=(hb.block w.heap.size (by omega)).trans hP1
   have hbw2:Below w.heap.size w W2:=hbw1.trans (hb.mono (by omega))
   have hw2:Base W2:=hw1.step hb
   have hcx2:∀ (j:Nat) (x:ByteArray),xs[j]?=some x → W2.cell? ⟨w.heap.size + 2,j,none⟩=some (.string x):=fun j x hj=>keepCell (hcx j x hj) hb
   have hsz2:w.heap.size + 3 ≤ W2.heap.size:=by have:=hb.size;omega
   obtain ⟨y,hy⟩:∃ y,readG xs=y:=⟨_,rfl⟩
   have hyS:=Aside0.mk hy
   have hcall:Calls Tryz.prog 66 #[.slice (some ⟨w.heap.size + 2,0,none⟩) k (k + 1)] W2.drew _:=readGaugeN (w.heap.size + 2) k (k + 1) xs W2.drew hlenx.symm (by have:=wordsOf_len s;have h2:=count_le s.data.toList [32];have:countB s ⟨#[32]⟩ ≤ s.size + 1:=h2;have:(initW s).length ≤ (wordsOf s).length:=by { unfold initW;rw [List.length_take];omega };have h9:(initW s).length=xs.length:=by { rw [hxS.out] };omega) hcx2 (by omega) hwsz (hw2.step (below_drew (Below.refl _ _))) y hy
   clear hy
   have p3:W2.cell? ⟨w.heap.size,3,none⟩=some (.func (.func 66) #[] #[]):=by rw [Lib.cell_of_heap hP2];rfl
   go_cut [43] from 38 to 43 (fun s43 W3=>∃ A n c',W3.heap[w.heap.size + 1]?=some (.cells #[.int .i64 y.f0,.int .i64 y.f1,.slice A n c'] 37 (0,0)) ∧ Kd.R (Kd.int .i64) 3 W3 (w.heap.size + 3) (fun _=>True) (.slice A n c') y.f2 ∧ Below (w.heap.size + 1) W2 W3 ∧ w.heap.size + 3 ≤ W3.heap.size)
   case first =>
    have hrow:HasRow (w.heap.size + 1) 37 3 W2:=⟨_,hA2,rfl⟩
    have hSS:∀ w2:World,HasRow (w.heap.size + 1) 37 3 w2 → Below (w.heap.size + 1) W2 w2 → w2.cell? ⟨w.heap.size,3,none⟩=some (.func (.func 66) #[] #[]) ∧ w2.cell? ⟨w.heap.size + 1,0,none⟩=some (cv w2 (w.heap.size + 1) 0) ∧ w2.cell? ⟨w.heap.size + 1,1,none⟩=some (cv w2 (w.heap.size + 1) 1) ∧ w2.cell? ⟨w.heap.size + 1,2,none⟩=some (cv w2 (w.heap.size + 1) 2) ∧ w2.frozen? ⟨w.heap.size + 1,0,none⟩=false ∧ w2.frozen? ⟨w.heap.size + 1,1,none⟩=false ∧ w2.frozen? ⟨w.heap.size + 1,2,none⟩=false ∧ HasRow (w.heap.size + 1) 37 3 w2 ∧ Below (w.heap.size + 1) W2 w2 :=
     fun w2 hr2 h6=>⟨(h6.cell (p:=⟨w.heap.size,3,none⟩) (by show w.heap.size < w.heap.size + 1;omega)).trans p3,hr2.cell 0 (by omega),hr2.cell 1 (by omega),hr2.cell 2 (by omega),hr2.frozen 0,hr2.frozen 1,hr2.frozen 2,hr2,h6⟩
    have hstart:=hSS W2.drew hrow (below_drew (Below.refl _ _))
    have hcall2:∀ w2:World,Below W2.drew.heap.size W2.drew w2 → w2.cell? ⟨w.heap.size,3,none⟩=some (.func (.func 66) #[] #[]) ∧ w2.cell? ⟨w.heap.size + 1,0,none⟩=some (cv w2 (w.heap.size + 1) 0) ∧ w2.cell? ⟨w.heap.size + 1,1,none⟩=some (cv w2 (w.heap.size + 1) 1) ∧ w2.cell? ⟨w.heap.size + 1,2,none⟩=some (cv w2 (w.heap.size + 1) 2) ∧ w2.frozen? ⟨w.heap.size + 1,0,none⟩=false ∧ w2.frozen? ⟨w.heap.size + 1,1,none⟩=false ∧ w2.frozen? ⟨w.heap.size + 1,2,none⟩=false ∧ HasRow (w.heap.size + 1) 37 3 w2 ∧ Below (w.heap.size + 1) W2 w2:=fun w2 hb=>hSS w2 (HasRow.below (w:=W2.drew) hrow hb) ((below_drew (Below.refl _ _)).trans (hb.mono (by show w.heap.size + 1 ≤ W2.heap.size;omega)))
    have hstore:∀ (w1:World) (v0 v1 v2:Value),HasRow (w.heap.size + 1) 37 3 w1 → Below (w.heap.size + 1) W2 w1 → ∀ w2,w2=(((w1.setCell ⟨w.heap.size + 1,0,none⟩ v0).setCell ⟨w.heap.size + 1,1,none⟩ v1).setCell ⟨w.heap.size + 1,2,none⟩ v2) → w2.cell? ⟨w.heap.size,3,none⟩=some (.func (.func 66) #[] #[]) ∧ w2.cell? ⟨w.heap.size + 1,0,none⟩=some (cv w2 (w.heap.size + 1) 0) ∧ w2.cell? ⟨w.heap.size + 1,1,none⟩=some (cv w2 (w.heap.size + 1) 1) ∧ w2.cell? ⟨w.heap.size + 1,2,none⟩=some (cv w2 (w.heap.size + 1) 2) ∧ w2.frozen? ⟨w.heap.size + 1,0,none⟩=false ∧ w2.frozen? ⟨w.heap.size + 1,1,none⟩=false ∧ w2.frozen? ⟨w.heap.size + 1,2,none⟩=false ∧ HasRow (w.heap.size + 1) 37 3 w2 ∧ Below (w.heap.size + 1) W2 w2:=by
     rintro w1 v0 v1 v2 hr1 h6 w2 rfl
     exact hSS _ (((hr1.set 0 _).set 1 _).set 2 _) (below_sets3 (Nat.le_refl _) h6)
    go_region_held3 (fun w2=>w2.cell? ⟨w.heap.size,3,none⟩=some (.func (.func 66) #[] #[]) ∧ w2.cell? ⟨w.heap.size + 1,0,none⟩=some (cv w2 (w.heap.size + 1) 0) ∧ w2.cell? ⟨w.heap.size + 1,1,none⟩=some (cv w2 (w.heap.size + 1) 1) ∧ w2.cell? ⟨w.heap.size + 1,2,none⟩=some (cv w2 (w.heap.size + 1) 2) ∧ w2.frozen? ⟨w.heap.size + 1,0,none⟩=false ∧ w2.frozen? ⟨w.heap.size + 1,1,none⟩=false ∧ w2.frozen? ⟨w.heap.size + 1,2,none⟩=false ∧ HasRow (w.heap.size + 1) 37 3 w2 ∧ Below (w.heap.size + 1) W2 w2)
     (first
      | with_reducible exact hstart
      | with_reducible exact hcall2 _ hb
      | (go_split_ands;with_reducible exact hstore _ _ _ _ (by with_reducible assumption) (by with_reducible assumption) _ rfl))
     (first
      | (go_at_call 66;refine hcall.mono ?_;rintro e w' ⟨A,n,c',rfl,hR,hb⟩))
    go_split_ands
    all_goals (go_wp2_with fail;go_meet)
    have hsz':w.heap.size + 3 ≤ W2.drew.heap.size:=hsz2
    have hsz'':=hb.size
    refine ⟨A,n,c',row_sets3 (HasRow.below (w:=W2.drew) hrow hb) _ _ _,Kd.R_lower (far_sets3 (by omega) hR) hsz',by with_reducible assumption,?_⟩
    exact Nat.le_trans (Nat.le_trans hsz' hsz'') (below_sets3 (B:=0) (Nat.zero_le _) (Below.refl 0 w')).size
   case rest =>
    obtain ⟨A,n,c',hA3,hR3,hb3,hsz3⟩:=hcut
    obtain ⟨hn,hnc,hC3⟩:=Kd.R_reads' hR3
    subst hn
    have hP3:=(hb3.block w.heap.size (by omega)).trans hP2
    have hbw3:Below w.heap.size w wc:=hbw2.trans (hb3.mono (by omega))
    have hw3:Base wc:=hw.step hbw3
    obtain ⟨b0,b1,b2,f0,f1,f2⟩:=row3 hA3
    have p0:wc.cell? ⟨w.heap.size,0,none⟩=some (.func (.func 63) #[] #[]):=by rw [Lib.cell_of_heap hP3];rfl
    have p2:wc.cell? ⟨w.heap.size,2,none⟩=some (.func (.func 65) #[] #[]):=by rw [Lib.cell_of_heap hP3];rfl
    have hyl:y.f2.length ≤ 1000000:=by
     have:=readG_len xs
     rw [hyS.out] at this
     omega
    have hlf:lineG s=if isG y then if gaugeS y=s ++ ⟨#[10]⟩ then (y,0) else (z37,4) else (z37,4):=by
     unfold lineG
     rw [if_pos hf,hsS.out,if_pos g4,hxS.out,hyS.out]
    cases hisG:isG y with
    | false =>
     rw [hisG] at hlf
     go_wp2_with (go_at_call 63;refine (isGaugeC y false hisG _ _ _ hC3 hnc hyl).mono ?_;rintro e W4 ⟨rfl,hb4⟩;have hA4:=(hb4.block (w.heap.size + 1) (by omega)).trans hA3;obtain ⟨b0,b1,b2,f0,f1,f2⟩:=row3 hA4)
     refine bodyPost_ret (results_cell_row_tmp rfl _ _ (w.heap.size + 1) 37 _ (0,0) _ rfl (same_row3 hA4) hu37 rfl (by kernel_rfl)) rfl ?_
     rw [hlf]
     exact ⟨y,_,rfl,Kd.R_lower (far_sets3 (by omega) (Kd.R_below hR3 hb4)) (by omega),fun h=>by simp at h,below_sets3 (by omega) (hbw3.trans (hb4.mono (by omega)))⟩
    | true =>
     rw [hisG] at hlf
     by_cases g6:gaugeS y=s ++ ⟨#[10]⟩
     ·rw [if_pos rfl,if_pos g6] at hlf
      have q2:((gaugeS y).toList == (s ++ ⟨#[10]⟩:ByteArray).toList)=true:=beq_iff_eq.2 (by rw [g6])
      go_wp2_with (first
       | (go_at_call 63;refine (isGaugeC y true hisG _ _ _ hC3 hnc hyl).mono ?_;rintro e W4 ⟨rfl,hb4⟩;have hA4:=(hb4.block (w.heap.size + 1) (by omega)).trans hA3;have p2':=keepCell p2 hb4;have hw4:=hw3.step hb4;have hC4:=Kd.C_below hC3 hb4;obtain ⟨b0,b1,b2,f0,f1,f2⟩:=row3 hA4)
       | (go_at_call 65;refine (gaugeLine y _ _ _ hC4 hnc (smallG_of hisG) hw4).mono ?_;rintro e W5 ⟨rfl,hb5⟩;have hA5:=(hb5.block (w.heap.size + 1) (by have:=hb4.size;omega)).trans hA4;obtain ⟨b0,b1,b2,f0,f1,f2⟩:=row3 hA5))
      refine bodyPost_ret (results_cell_row_tmp rfl _ _ (w.heap.size + 1) 37 _ (0,0) _ rfl (same_row3 hA5) hu37 rfl (by kernel_rfl)) rfl ?_
      rw [hlf]
      exact ⟨y,_,rfl,Kd.R_lower (far_sets3 (by omega) (Kd.R_below (Kd.R_below hR3 hb4) hb5)) (by omega),fun _=>rfl,below_sets3 (by omega) ((hbw3.trans (hb4.mono (by omega))).trans (hb5.mono (by have:=hb4.size;omega)))⟩
     ·rw [if_pos rfl,if_neg g6] at hlf
      have q2:((gaugeS y).toList == (s ++ ⟨#[10]⟩:ByteArray).toList)=false:=beq_eq_false_iff_ne.2 (fun h=>g6 (toList_inj h))
      go_wp2_with (first
       | (go_at_call 63;refine (isGaugeC y true hisG _ _ _ hC3 hnc hyl).mono ?_;rintro e W4 ⟨rfl,hb4⟩;have hA4:=(hb4.block (w.heap.size + 1) (by omega)).trans hA3;have p2':=keepCell p2 hb4;have hw4:=hw3.step hb4;have hC4:=Kd.C_below hC3 hb4;obtain ⟨b0,b1,b2,f0,f1,f2⟩:=row3 hA4)
       | (go_at_call 65;refine (gaugeLine y _ _ _ hC4 hnc (smallG_of hisG) hw4).mono ?_;rintro e W5 ⟨rfl,hb5⟩;have hA5:=(hb5.block (w.heap.size + 1) (by have:=hb4.size;omega)).trans hA4;obtain ⟨b0,b1,b2,f0,f1,f2⟩:=row3 hA5))
      refine bodyPost_ret (results_cell_row_tmp rfl _ _ (w.heap.size + 1) 37 _ (0,0) _ rfl (same_row3 hA5) hu37 rfl (by kernel_rfl)) rfl ?_
      rw [hlf]
      exact ⟨y,_,rfl,Kd.R_lower (far_sets3 (by omega) (Kd.R_below (Kd.R_below hR3 hb4) hb5)) (by omega),fun h=>by simp at h,below_sets3 (by omega) ((hbw3.trans (hb4.mono (by omega))).trans (hb5.mono (by have:=hb4.size;omega)))⟩
  ·have q1:(S1.toList == (s ++ ⟨#[10]⟩:ByteArray).toList)=false:=beq_eq_false_iff_ne.2 (fun h=>g4 (toList_inj h))
   have hform:lineG s=(z37,121):=by unfold lineG;rw [if_pos hf,if_neg (by rw [hxS.out,← hxS.out,hsS.out];exact g4)]
   clear b0 b1 b2 f0 f1 f2
   go_wp2_with (go_at_call 84;refine hK.mono ?_;rintro e W2 ⟨rfl,hb⟩;have hA2:=(hb.block (w.heap.size + 1) (by omega)).trans hA1;obtain ⟨b0,b1,b2,f0,f1,f2⟩:=row3 hA2)
   refine bodyPost_ret (results_cell_row_tmp rfl _ _ (w.heap.size + 1) 37 _ (0,0) _ rfl (same_row3 hA2) hu37 rfl (by kernel_rfl)) rfl ?_
   rw [hform]
   exact ⟨z37,_,rfl,Kd.R_nil _ _ _ _ _,fun h=>by simp at h,below_sets3 (by omega) (hbw1.trans (hb.mono (by omega)))⟩
 ·have z5:(bt s (m:Int) != 32)=true:=bne_iff_ne.2 g3
  have z6:(bt s (m:Int) == 32)=false:=beq_eq_false_iff_ne.2 g3
  have hform:lineG s=(z37,4):=by unfold lineG formed;rw [hm,decide_eq_false g3];simp
  go_wp2
  refine bodyPost_ret (results_cell_row_tmp rfl _ _ (w.heap.size + 1) 37 _ (0,0) _ rfl (same_row3 hA1) hu37 rfl (by kernel_rfl)) rfl ?_
  rw [hform]
  exact ⟨z37,_,rfl,Kd.R_nil _ _ _ _ _,fun h=>by simp at h,below_sets3 (by omega) hbw1⟩
end Go.Proofs.Lg
