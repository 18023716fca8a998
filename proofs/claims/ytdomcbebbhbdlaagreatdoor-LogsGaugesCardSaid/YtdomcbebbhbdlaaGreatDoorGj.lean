/- The document's reader. Conditions: none. -/
import Derived.Test.YtdomcbebbhbdlaaGreatDoorGf
import Derived.Test.YtdomcbebbhbdlaaGreatDoorGi
set_option linter.unusedSimpArgs false
set_option linter.unusedVariables false
namespace Go.Proofs.YtdomcbebbhbdlaaGreatDoor.PLogsGauges
open Go.RowKit Go.Proofs.YtdomcbebbhbdlaaGreatDoorW.PrintWords Go.Proofs.YtdomcbebbhbdlaaGreatDoorW.PrintLast Go.Proofs.YtdomcbebbhbdlaaGreatDoorW.PrintMore Go.Proofs.YtdomcbebbhbdlaaGreatDoor.PLogsBills
attribute [local go_sem] max2_int min2_int max_two min_two max_three min_three max_four min_four
mutual
def rf_ReadGauge.l0:Nat → List ByteArray → List (S37) → Int → Option ((List (S37)) × Int × Int)
 | 0,_,_,_=>none
 | k + 1,x5,x7,x8=>if x8 < (x5.length:Int) then (if 0 ≤ x8 then ((rf_Checked.f k (rdOf ByteArray.empty x5 x8)).bind fun t205=>(if t205=0 then ((rf_Words.f k (rdOf ByteArray.empty x5 x8)).bind fun t207=>(rf_ReadGauge.l1 k x5 x7 x8 t207 0 0 0 0 ([]:List Int))) else (some (([]:List (S37)),x8,t205)))) else (none)) else (some (x7,0,0))
def rf_ReadGauge.l1:Nat → List ByteArray → List (S37) → Int → List ByteArray → Int → Int → Int → Int → List Int → Option ((List (S37)) × Int × Int)
 | 0,_,_,_,_,_,_,_,_,_=>none
 | k + 1,x5,x7,x8,x10,x12,x13,x211000,x211001,x211002=>if x13 < (wrap64 ((x10.length:Int) - 1)) then (if 0 ≤ x13 then (if x13 < (x10.length:Int) then (if x13 > 2 then (rf_ReadGauge.j2 k x5 x7 x8 x10 x12 x13 1 (rdOf ByteArray.empty x10 x13) ((rdOf ByteArray.empty x10 x13).toList != ([]:List UInt8)) x211000 x211001 x211002) else (rf_ReadGauge.j2 k x5 x7 x8 x10 x12 x13 1 (rdOf ByteArray.empty x10 x13) false x211000 x211001 x211002)) else (none)) else (none)) else ((rf_Gauge.f k x211000 x211001 x211002).bind fun t217=>(if t217=true then ((rf_GaugeText.f k x211000 x211001 x211002).bind fun t218=>(if 0 ≤ x8 then (if x8 < (x5.length:Int) then (if (rdOf ByteArray.empty x5 x8).size + 1 ≤ 9223372036854775807 then (rf_ReadGauge.j4 k x5 x7 x8 (t218.toList != ((rdOf ByteArray.empty x5 x8) ++ (⟨#[10]⟩:ByteArray)).toList) x211000 x211001 x211002) else (none)) else (none)) else (none))) else (rf_ReadGauge.j4 k x5 x7 x8 true x211000 x211001 x211002)))
def rf_ReadGauge.j2:Nat → List ByteArray → List (S37) → Int → List ByteArray → Int → Int → Int → ByteArray → Bool → Int → Int → List Int → Option ((List (S37)) × Int × Int)
 | 0,_,_,_,_,_,_,_,_,_,_,_,_=>none
 | k + 1,x5,x7,x8,x10,x12,x13,x14,x15,x64,x211000,x211001,x211002=>if x64=true then (if 0 < (x15.size:Int) then (if (bt x15 0)=45 then (if 1 ≤ (x15.size:Int) then (rf_ReadGauge.j3 k x5 x7 x8 x10 x12 x13 (-1) (x15.extract 1 x15.size) x211000 x211001 x211002) else (none)) else (if 1 ≤ (x15.size:Int) then (rf_ReadGauge.j3 k x5 x7 x8 x10 x12 x13 x14 (x15.extract 1 x15.size) x211000 x211001 x211002) else (none))) else (none)) else (rf_ReadGauge.j3 k x5 x7 x8 x10 x12 x13 x14 x15 x211000 x211001 x211002)
def rf_ReadGauge.j3:Nat → List ByteArray → List (S37) → Int → List ByteArray → Int → Int → Int → ByteArray → Int → Int → List Int → Option ((List (S37)) × Int × Int)
 | 0,_,_,_,_,_,_,_,_,_,_,_=>none
 | k + 1,x5,x7,x8,x10,x12,x13,x14,x15,x211000,x211001,x211002=>(rf_Digits.f k x15).bind fun bt212=>(if x13=0 then (rf_ReadGauge.l1 k x5 x7 x8 x10 x12 (wrap64 (x13 + 1)) bt212.1 x211001 x211002) else (if x13=1 then (rf_ReadGauge.l1 k x5 x7 x8 x10 x12 (wrap64 (x13 + 1)) x211000 bt212.1 x211002) else (if x211002.length < 17592186044416 then (rf_ReadGauge.l1 k x5 x7 x8 x10 (wrap64 (x12 + (wrap64 (x14 * bt212.1)))) (wrap64 (x13 + 1)) x211000 x211001 (x211002 ++ [wrap64 (x12 + (wrap64 (x14 * bt212.1)))])) else (none))))
def rf_ReadGauge.j4:Nat → List ByteArray → List (S37) → Int → Bool → Int → Int → List Int → Option ((List (S37)) × Int × Int)
 | 0,_,_,_,_,_,_,_=>none
 | k + 1,x5,x7,x8,x106,x211000,x211001,x211002=>if x106=true then (some (([]:List (S37)),x8,4)) else (if x8 > 0 then (if 0 ≤ (wrap64 (x8 - 1)) then (if (wrap64 (x8 - 1)) < (x7.length:Int) then ((rf_GaugeAfter.f ((rd_T37 x7 (wrap64 (x8 - 1))).f0) ((rd_T37 x7 (wrap64 (x8 - 1))).f1) ((rd_T37 x7 (wrap64 (x8 - 1))).f2) x211000 x211001 x211002).bind fun t221=>(if t221=true then (if x7.length < 3518437208883 then (rf_ReadGauge.l0 k x5 (x7 ++ [(⟨x211000,x211001,x211002⟩:S37)]) (wrap64 (x8 + 1))) else (none)) else (some (([]:List (S37)),x8,6)))) else (none)) else (none)) else (if x7.length < 3518437208883 then (rf_ReadGauge.l0 k x5 (x7 ++ [(⟨x211000,x211001,x211002⟩:S37)]) (wrap64 (x8 + 1))) else (none)))
end
def rf_ReadGauge.f (k:Nat) (a0:ByteArray):Option ((List (S37)) × Int × Int):=(rf_Lines.f k a0).bind fun bt197=>(if bt197.2=0 then (rf_ReadGauge.l0 k bt197.1 (([]:List (S37))) 0) else (some (([]:List (S37)),0,bt197.2)))
def rf_ReadGauge.T28:Bool × List (List Nat × List Nat):=(true,[([],[]),([0],[0]),([1],[1]),([2,1],[2]),([3],[3]),([4,3,3],[3,4]),([3],[3]),([3],[3]),([6,7,3],[3,6,7]),([8,3],[3,8]),([9,3],[3,9]),([5,10,3],[3,5,10]),([3,11],[3,11])])
def rf_ReadGauge.B28:List Nat:=[0,1,3,7,15,31,15,15,207,463,975,2047,4095]
theorem rf_ReadGauge.tab28:rtab .any (opsOf Tryz.f16 28)=rf_ReadGauge.T28:=by kernel_rfl
theorem rf_ReadGauge.bits28:waitsOk rf_ReadGauge.T28.2 rf_ReadGauge.B28=true:=by kernel_rfl
def rf_ReadGauge.T30:Bool × List (List Nat × List Nat):=(true,[([],[]),([0],[0]),([1],[1]),([2],[2]),([2],[2]),([4,2],[2,4]),([3,5,2],[2,3,5]),([6,2],[2,6]),([2],[2]),([7,8,2,2],[2,7,8]),([9,2],[2,9]),([2,10],[2,10])])
def rf_ReadGauge.B30:List Nat:=[0,1,3,7,7,23,63,127,7,511,1023,2047]
theorem rf_ReadGauge.tab30:rtab .any (opsOf Tryz.f16 30)=rf_ReadGauge.T30:=by kernel_rfl
theorem rf_ReadGauge.bits30:waitsOk rf_ReadGauge.T30.2 rf_ReadGauge.B30=true:=by kernel_rfl
set_option maxHeartbeats 8000000 in
set_option maxRecDepth 100000 in
theorem rf_ReadGauge.calls (k:Nat) (a0:ByteArray) (r1:List (S37)) (r2:Int) (r3:Int) (w:World) (h:rf_ReadGauge.f k a0=some (r1,r2,r3)) :
  Calls Tryz.prog 16 #[.string a0] w fun e w'=>∃ v0_:Value,e=.returned (.tuple #[v0_,.int .i64 r2,.int .i64 r3]) ∧ Kd.S k37 37 w' w.heap.size (fun _=>True) v0_ r1 ∧ Below w.heap.size w w':=by
 have hu37:=Tryz.underlying37
 have HB:=Aside0.mk (Below.refl w.heap.size w)
 have H:((rf_Lines.f k a0).bind fun bt197=>(if bt197.2=0 then (rf_ReadGauge.l0 k bt197.1 (([]:List (S37))) 0) else (some (([]:List (S37)),0,bt197.2))))=some (r1,r2,r3):=h
 clear h
 replace H:=Option.bind_eq_some_iff.mp H
 obtain ⟨⟨t197,t198⟩,A20,H⟩:=H
 replace H:(if t198=0 then (rf_ReadGauge.l0 k t197 (([]:List (S37))) 0) else (some (([]:List (S37)),0,t198)))=some (r1,r2,r3):=H
 have A2:=Aside0.mk A20
 clear A20
 by_cases c3:t198=0
 ·rw [if_pos c3] at H
  have c3b0:(t198 == 0)=true:=beq_iff_eq.mpr c3
  have c3b1:(t198 != 0)=false:=bne_eq_false_iff_eq.mpr c3
  clear c3
  obtain ⟨y201,hy201⟩:∃ y_:List (S37),y_=(([]:List (S37))):=⟨_,rfl⟩
  replace H:(rf_ReadGauge.l0 k t197 y201 0)=some (r1,r2,r3):=by first | (rw [hy201];with_reducible exact H) | (have H2_:=(Option.bind_some _ _).symm.trans H;rw [hy201];with_reducible exact H2_) | (have H2_:=(Option.bind_some _ _).symm.trans H;with_reducible exact H2_) | with_reducible exact H | (rw [hy201];exact H) | exact H
  have Ny201:=Aside0.mk hy201
  clear hy201
  have H':=Aside0.mk H
  clear H
  go_enter Tryz.func16,Tryz.ntmps16
  go_wp2_with (first | ((with_reducible refine gate_callee (f:=28) rfl ?_);refine goesL_ (some 20) rfl rfl Tryz.func28 (by kernel_rfl) rfl #[.string a0] rfl (by (try simp only [List.map_toArray,List.map_cons,List.map_nil]);first | done | rfl | (simp only [List.length_drop,List.length_take];rfl)) ?_;(with_reducible refine (rf_Lines.calls k a0 t197 t198 _ A2.out).mono ?_);rintro e w4 ⟨v199,rfl,ho0,hb⟩;refine ⟨_,rfl,?_⟩;have n0_:=Aside0.mk (Kd.R_lower ho0 (below_size (by repeat (first | (with_reducible first | exact HB.out | apply below_alloc | apply pw_below_drewN | apply below_drew1) | exact HB.out))));have n1_:=Aside0.mk (below_step (by repeat (first | (with_reducible first | exact HB.out | apply below_alloc | apply pw_below_drewN | apply below_drew1) | exact HB.out)) hb);clear HB;have HO200:=n0_;have HB:=n1_;clear n0_ n1_;(try clear hb);(try clear hb2);(try clear hk);(try clear hi);(try clear ho0)) | ((with_reducible refine gate_dst (N:=26) rfl ?_);refine Kd.S_lit k37 _ 37 ?hg (N:=26) ?hd (xs:=([]:List (S37))) (inner:=[]) (ok:=fun _=>True) (okp:=fun _=>True) ?hr ?hp (fun _ hk=>hk) trivial (Below.refl _ _) (Nat.le_refl _) (by simp) ?_;(case hd=>rfl);(case hg=>rfl);(case hr=>first | (go_simp;done) | (go_simp;rfl));(case hp=>exact (Reps.none _ _));intro v202 w5 ho6 hb hg_ hnew_;clear hg_ hnew_;(first | rw [← Ny201.out] at ho6 | (simp only [Int.reduceToNat] at ho6;rw [← Ny201.out] at ho6));have n0_:=Aside0.mk (Kd.R_below (by (with_reducible repeat (first | apply Kd.R_alloc | apply Kd.R_drewN | apply Kd.R_drew));exact HO200.out) hb);have n1_:=Aside0.mk (Kd.S_lower ho6 (below_size (by repeat (first | (with_reducible first | exact HB.out | apply below_alloc | apply pw_below_drewN | apply below_drew1) | exact HB.out))));have n2_:=Aside0.mk (below_step (by repeat (first | (with_reducible first | exact HB.out | apply below_alloc | apply pw_below_drewN | apply below_drew1) | exact HB.out)) hb);clear HO200;clear HB;have HO200:=n0_;have HO203:=n1_;have HB:=n2_;clear n0_ n1_ n2_;clear hb ho6))
  go_loopg [7,8] k (fun kq v7 v8 w'=>∃ (x7_1:List (S37)) (x8_1:Int),v8=.int .i64 x8_1 ∧ Aside0 (rf_ReadGauge.l0 kq t197 x7_1 x8_1=some (r1,r2,r3)) ∧ Aside0 (kq ≤ k) ∧ Aside0 (Kd.R Kd.string 9 w' w.heap.size (fun _=>True) v199 t197) ∧ Aside0 (Kd.S k37 37 w' w.heap.size (fun _=>True) v7 x7_1) ∧ Aside0 (Below w.heap.size w w'))
  case atStart=>exact ⟨(y201),(0),(by first | rfl | (simp;done) | (simp [*];done)),H',⟨Nat.le_refl _⟩,⟨by (with_reducible repeat (first | apply Kd.R_alloc | apply Kd.R_drewN | apply Kd.R_drew));exact HO200.out⟩,⟨by (with_reducible repeat (first | apply Kd.S_alloc | apply Kd.S_drewN | apply Kd.S_drew));exact HO203.out⟩,⟨by repeat (first | (with_reducible first | exact HB.out | apply below_alloc | apply pw_below_drewN | apply below_drew1) | exact HB.out)⟩⟩
  case round =>
   clear H'
   try clear c1
   try clear c2
   try clear p2
   try clear c3
   try clear c3b0
   try clear c3b1
   obtain ⟨x7_1,x8_1,rfl,HA,HK1,HO_5,HO_7,HB⟩:=hrel
   cases gk with
   | zero=>exact absurd HA.out (by simp [rf_ReadGauge.l0])
   | succ k1 =>
    have H:=HA.out
    clear HA
    simp only [rf_ReadGauge.l0] at H
    by_cases c7:x8_1 < (t197.length:Int)
    ·rw [if_pos c7] at H
     have c7b0:decide (x8_1 < (t197.length:Int))=true:=decide_eq_true c7
     clear c7
     by_cases c8:0 ≤ x8_1
     ·rw [if_pos c8] at H
      have c8b0:decide (0 ≤ x8_1)=true:=decide_eq_true c8
      clear c8
      replace H:=Option.bind_eq_some_iff.mp H
      obtain ⟨t205,A90,H⟩:=H
      replace H:(if t205=0 then ((rf_Words.f k1 (rdOf ByteArray.empty t197 x8_1)).bind fun t207=>(rf_ReadGauge.l1 k1 t197 x7_1 x8_1 t207 0 0 0 0 ([]:List Int))) else (some (([]:List (S37)),x8_1,t205)))=some (r1,r2,r3):=H
      have A9:=Aside0.mk A90
      clear A90
      by_cases c10:t205=0
      ·rw [if_pos c10] at H
       have c10b0:(t205 == 0)=true:=beq_iff_eq.mpr c10
       have c10b1:(t205 != 0)=false:=bne_eq_false_iff_eq.mpr c10
       clear c10
       replace H:=Option.bind_eq_some_iff.mp H
       obtain ⟨t207,A110,H⟩:=H
       replace H:(rf_ReadGauge.l1 k1 t197 x7_1 x8_1 t207 0 0 0 0 ([]:List Int))=some (r1,r2,r3):=H
       have A11:=Aside0.mk A110
       clear A110
       have H':=Aside0.mk H
       clear H
       obtain ⟨Ao12,co12,eo12⟩:=Kd.R_slice HO_5.out
       subst eo12
       have p204:0 ≤ (x8_1:Int):=of_decide_eq_true (by first | (with_reducible assumption) | assumption)
       have q204:x8_1 < (t197.length:Int):=of_decide_eq_true (by first | (with_reducible assumption) | assumption)
       obtain ⟨ad204,e204,hx204_0⟩:=Kd.at_string (Kd.R_reads' HO_5.out).2.2 x8_1 p204 q204
       cases e204
       replace p204:=eq_true p204
       replace q204:=eq_true q204
       go_wp2_with (first | ((with_reducible refine gate_callee (f:=29) rfl ?_);refine goesL_ (some 37) rfl rfl Tryz.func29 (by kernel_rfl) rfl #[.string (rdOf ByteArray.empty t197 x8_1)] rfl (by (try simp only [List.map_toArray,List.map_cons,List.map_nil]);first | done | rfl | (simp only [List.length_drop,List.length_take];rfl)) ?_;(with_reducible refine (rf_Checked.calls k1 (rdOf ByteArray.empty t197 x8_1) t205 _ A9.out).mono ?_);rintro e w13 ⟨rfl,hb⟩;refine ⟨_,rfl,?_⟩;have n0_:=Aside0.mk (Kd.R_below (by (with_reducible repeat (first | apply Kd.R_alloc | apply Kd.R_drewN | apply Kd.R_drew));exact HO_5.out) hb);have n1_:=Aside0.mk (Kd.S_below (by (with_reducible repeat (first | apply Kd.S_alloc | apply Kd.S_drewN | apply Kd.S_drew));exact HO_7.out) hb);have n2_:=Aside0.mk (below_step (by repeat (first | (with_reducible first | exact HB.out | apply below_alloc | apply pw_below_drewN | apply below_drew1) | exact HB.out)) hb);clear HO_5;clear HO_7;clear HB;have HO_5:=n0_;have HO_7:=n1_;have HB:=n2_;clear n0_ n1_ n2_;(try clear hb);(try clear hb2);(try clear hk);(try clear hi);have p206:0 ≤ (x8_1:Int):=of_decide_eq_true (by first | (with_reducible assumption) | assumption);have q206:x8_1 < (t197.length:Int):=of_decide_eq_true (by first | (with_reducible assumption) | assumption);obtain ⟨ad206,e206,hx206_0⟩:=Kd.at_string (Kd.R_reads' HO_5.out).2.2 x8_1 p206 q206;obtain rfl:ad204=ad206:=(by injection e206);replace p206:=eq_true p206;replace q206:=eq_true q206) | ((with_reducible refine gate_callee (f:=30) rfl ?_);refine goesL_ (some 46) rfl rfl Tryz.func30 (by kernel_rfl) rfl #[.string (rdOf ByteArray.empty t197 x8_1)] rfl (by (try simp only [List.map_toArray,List.map_cons,List.map_nil]);first | done | rfl | (simp only [List.length_drop,List.length_take];rfl)) ?_;(with_reducible refine (rf_Words.calls k1 (rdOf ByteArray.empty t197 x8_1) t207 _ A11.out).mono ?_);rintro e w14 ⟨v208,rfl,ho0,hb⟩;refine ⟨_,rfl,?_⟩;have n0_:=Aside0.mk (Kd.R_elder' (by (with_reducible repeat (first | apply Kd.R_alloc | apply Kd.R_drewN | apply Kd.R_drew));exact HO_5.out) (Kd.R_base ho0) hb);have n1_:=Aside0.mk (Kd.S_below (by (with_reducible repeat (first | apply Kd.S_alloc | apply Kd.S_drewN | apply Kd.S_drew));exact HO_7.out) hb);have n2_:=Aside0.mk (Kd.R_lower (Kd.R_new' ho0 (Kd.R_lt (by (with_reducible repeat (first | apply Kd.R_alloc | apply Kd.R_drewN | apply Kd.R_drew));exact HO_5.out))) (below_size (by repeat (first | (with_reducible first | exact HB.out | apply below_alloc | apply pw_below_drewN | apply below_drew1) | exact HB.out))));have n3_:=Aside0.mk (below_step (by repeat (first | (with_reducible first | exact HB.out | apply below_alloc | apply pw_below_drewN | apply below_drew1) | exact HB.out)) hb);clear HO_5;clear HO_7;clear HB;have HO_5:=n0_;have HO_7:=n1_;have HO209:=n2_;have HB:=n3_;clear n0_ n1_ n2_ n3_;(try clear hb);(try clear hb2);(try clear hk);(try clear hi);(try clear ho0)) | ((with_reducible refine gate_dst (N:=11) rfl ?_);refine box_event ?hg (N:=11) ?hd (cs:=#[.int .i64 0,.int .i64 0,.slice none 0 0]) (t:=37) ?hr ?_;(case hd=>rfl);(case hg=>rfl);(case hr=>first | (go_simp;done) | (go_simp;rfl));intro gb210 hg w15 hbox hb;have n0_:=Aside0.mk (Kd.R_below (by (with_reducible repeat (first | apply Kd.R_alloc | apply Kd.R_drewN | apply Kd.R_drew));exact HO_5.out) hb);have n1_:=Aside0.mk (Kd.S_below (Kd.S_elderB (by (with_reducible repeat (first | apply Kd.S_alloc | apply Kd.S_drewN | apply Kd.S_drew));exact HO_7.out) gb210 (Nat.le_of_eq hg.symm)) hb);have n2_:=Aside0.mk (Kd.R_below (by (with_reducible repeat (first | apply Kd.R_alloc | apply Kd.R_drewN | apply Kd.R_drew));exact HO209.out) hb);have n3_:=Aside0.mk (below_step (by repeat (first | (with_reducible first | exact HB.out | apply below_alloc | apply pw_below_drewN | apply below_drew1) | exact HB.out)) hb);have n4_:=Aside0.mk (hbox);have n5_:=Aside0.mk ((by rw [hg];exact (below_size (by repeat (first | (with_reducible first | exact HB.out | apply below_alloc | apply pw_below_drewN | apply below_drew1) | exact HB.out))):w.heap.size ≤ gb210));have n6_:=Aside0.mk ((by rw [hg];exact (below_size (by repeat (first | (with_reducible first | exact HB.out | apply below_alloc | apply pw_below_drewN | apply below_drew1) | exact HB.out))):w.heap.size ≤ gb210));clear HO_5;clear HO_7;clear HO209;clear HB;have HO_5:=n0_;have HO_7:=n1_;have HO209:=n2_;have HB:=n3_;have BK210:=n4_;have GW210:=n5_;have GE210:=n6_;clear n0_ n1_ n2_ n3_ n4_ n5_ n6_;clear hb hbox hg;have hcz16_0:w15.cell? ⟨gb210,0,none⟩=some (.int .i64 0):=(blk_cell BK210.out 0).trans rfl;have hcz16_1:w15.cell? ⟨gb210,1,none⟩=some (.int .i64 0):=(blk_cell BK210.out 1).trans rfl;have hcz16_2:w15.cell? ⟨gb210,2,none⟩=some (.slice none 0 0):=(blk_cell BK210.out 2).trans rfl;have hfz16_0:=blk_frozen BK210.out 0;have hfz16_1:=blk_frozen BK210.out 1;have hfz16_2:=blk_frozen BK210.out 2))
       go_loopg [12,13] k1 (fun kq v12 v13 w'=>∃ (x12_2:Int) (x13_2:Int) (x211000_2:Int) (x211001_2:Int) (x211002_2:List Int) (u211002:Value),v12=.int .i64 x12_2 ∧ v13=.int .i64 x13_2 ∧ Aside0 (rf_ReadGauge.l1 kq t197 x7_1 x8_1 t207 x12_2 x13_2 x211000_2 x211001_2 x211002_2=some (r1,r2,r3)) ∧ Aside0 (kq ≤ k1) ∧ Aside0 (Kd.R Kd.string 9 w' w.heap.size (fun k_=>some k_ ≠ (v208:Value).ownBlock) (.slice (some ad204) t197.length co12) t197) ∧ Aside0 (Kd.S k37 37 w' w.heap.size (fun k_=>some k_ ≠ (u211002:Value).ownBlock ∧ k_ ≠ gb210) u7 x7_1) ∧ Aside0 (Kd.R Kd.string 9 w' w.heap.size (fun k_=>some k_ ≠ ((.slice (some ad204) t197.length co12):Value).ownBlock) v208 t207) ∧ Aside0 (Kd.R (Kd.int .i64) 3 w' w.heap.size (fun _=>True) u211002 x211002_2) ∧ Aside0 (w'.heap[gb210]?=some (.cells #[.int .i64 x211000_2,.int .i64 x211001_2,u211002] 37 (0,0))) ∧ Aside0 (Below w.heap.size w w'))
       case atStart=>exact ⟨(0),(0),(0),(0),(([]:List Int)),(.slice none 0 0),(by first | rfl | (simp;done) | (simp [*];done)),(by first | rfl | (simp;done) | (simp [*];done)),H',⟨Nat.le_refl _⟩,⟨by (with_reducible repeat (first | apply Kd.R_alloc | apply Kd.R_drewN | apply Kd.R_drew));exact Kd.R_mono (Kd.R_far (p:=⟨gb210,2,none⟩) (Kd.R_far (p:=⟨gb210,1,none⟩) (Kd.R_far (p:=⟨gb210,0,none⟩) (Kd.R_types HO_5.out BK210.out (by decide)) (fun _ hk=>hk.2) (.int .i64 0)) (fun _ hk=>hk.2) (.int .i64 0)) (fun _ hk=>hk.2) (.slice none 0 0)) (fun _ hk=>hk.1.2)⟩,⟨by (with_reducible repeat (first | apply Kd.S_alloc | apply Kd.S_drewN | apply Kd.S_drew));exact Kd.S_mono (Kd.S_far (p:=⟨gb210,2,none⟩) (Kd.S_far (p:=⟨gb210,1,none⟩) (Kd.S_far (p:=⟨gb210,0,none⟩) (Kd.S_mono HO_7.out (fun k_ hk=>(⟨hk,hk.2⟩:_ ∧ k_ ≠ gb210))) (fun _ hk=>hk.2) (.int .i64 0)) (fun _ hk=>hk.2) (.int .i64 0)) (fun _ hk=>hk.2) (.slice none 0 0)) (fun _ hk=>⟨(by simp [Value.ownBlock]),hk.1.2⟩)⟩,⟨by (with_reducible repeat (first | apply Kd.R_alloc | apply Kd.R_drewN | apply Kd.R_drew));exact Kd.R_mono (Kd.R_far (p:=⟨gb210,2,none⟩) (Kd.R_far (p:=⟨gb210,1,none⟩) (Kd.R_far (p:=⟨gb210,0,none⟩) (Kd.R_types HO209.out BK210.out (by decide)) (fun _ hk=>hk.2) (.int .i64 0)) (fun _ hk=>hk.2) (.int .i64 0)) (fun _ hk=>hk.2) (.slice none 0 0)) (fun _ hk=>hk.1.2)⟩,⟨by first | exact Kd.R_nil _ _ _ _ _ | exact Kd.N_nil _ _ _ _ _ | exact Kd.V_nil _ _ _ _ _ | exact Kd.Q_nil _ _ _ _ _ | exact Kd.S_nil _ _ _ _ _⟩,⟨by (with_reducible repeat (first | refine blk_drewN ?_ _ | refine blk_drew ?_ | refine blk_alloc ?_ _));refine blk_put (cs:=#[.int .i64 0,.int .i64 0,.slice none 0 0]) ?_ 2 _ rfl;(with_reducible repeat (first | refine blk_drewN ?_ _ | refine blk_drew ?_ | refine blk_alloc ?_ _));refine blk_put (cs:=#[.int .i64 0,.int .i64 0,.slice none 0 0]) ?_ 1 _ rfl;(with_reducible repeat (first | refine blk_drewN ?_ _ | refine blk_drew ?_ | refine blk_alloc ?_ _));refine blk_put (cs:=#[.int .i64 0,.int .i64 0,.slice none 0 0]) ?_ 0 _ rfl;(with_reducible repeat (first | refine blk_drewN ?_ _ | refine blk_drew ?_ | refine blk_alloc ?_ _));exact BK210.out⟩,⟨by repeat (first | (with_reducible first | exact HB.out | apply below_alloc | apply pw_below_drewN | apply below_drew1 | refine below_set ?_ GE210.out) | exact HB.out)⟩⟩
       case round =>
        clear H'
        try clear c1
        try clear c2
        try clear p2
        try clear q2
        try clear hx2
        try clear c3
        try clear c3b0
        try clear c3b1
        try clear c7
        try clear c7b0
        try clear c8
        try clear c8b0
        try clear c10
        try clear c10b0
        try clear c10b1
        try clear c16
        try clear hcz16_0
        try clear hcz16_1
        try clear hcz16_2
        try clear hfz16_0
        try clear hfz16_1
        try clear hfz16_2
        try clear hx204_0
        try clear hx206_0
        try clear p2
        try clear p204
        try clear p206
        try clear q204
        try clear q206
        obtain ⟨x12_2,x13_2,x211000_2,x211001_2,x211002_2,u211002,rfl,rfl,HA,HK2,HO_5,HO_7,HO_10,HO_211002,BK210,HB⟩:=hrel
        cases gk with
        | zero=>exact absurd HA.out (by simp [rf_ReadGauge.l1])
        | succ k2 =>
         have H:=HA.out
         clear HA
         simp only [rf_ReadGauge.l1] at H
         by_cases c17:x13_2 < (wrap64 ((t207.length:Int) - 1))
         ·rw [if_pos c17] at H
          have c17b0:decide (x13_2 < (wrap64 ((t207.length:Int) - 1)))=true:=decide_eq_true c17
          clear c17
          by_cases c18:0 ≤ x13_2
          ·rw [if_pos c18] at H
           have c18b0:decide (0 ≤ x13_2)=true:=decide_eq_true c18
           clear c18
           by_cases c19:x13_2 < (t207.length:Int)
           ·rw [if_pos c19] at H
            have c19b0:decide (x13_2 < (t207.length:Int))=true:=decide_eq_true c19
            clear c19
            have HC20:=Aside0.mk H
            clear H
            obtain ⟨Ao21,co21,eo21⟩:=Kd.R_slice HO_10.out
            subst eo21
            try go_wp2
            have n0_:=Aside0.mk (Kd.R_drew HO_5.out)
            have n1_:=Aside0.mk (Kd.S_drew HO_7.out)
            have n2_:=Aside0.mk (Kd.R_drew HO_10.out)
            have n3_:=Aside0.mk (Kd.R_drew HO_211002.out)
            have n4_:=Aside0.mk (blk_drew BK210.out)
            have n5_:=Aside0.mk (below_drew1 HB.out)
            clear HO_5
            clear HO_7
            clear HO_10
            clear HO_211002
            clear BK210
            clear HB
            have HO_5:=n0_
            have HO_7:=n1_
            have HO_10:=n2_
            have HO_211002:=n3_
            have BK210:=n4_
            have HB:=n5_
            clear n0_ n1_ n2_ n3_ n4_ n5_
            have p211:0 ≤ (x13_2:Int):=of_decide_eq_true (by first | (with_reducible assumption) | assumption)
            have q211:x13_2 < (t207.length:Int):=of_decide_eq_true (by first | (with_reducible assumption) | assumption)
            obtain ⟨ad211,e211,hx211_0⟩:=Kd.at_string (Kd.R_reads' HO_10.out).2.2 x13_2 p211 q211
            cases e211
            replace p211:=eq_true p211
            replace q211:=eq_true q211
            refine start_ (n:=6) (S:=fun w'=>w'.cell? (ad211.add (x13_2).toNat)=some (.string (rdOf ByteArray.empty t207 x13_2))) (ds:=[]) #[false,false,false,false,false,false] (by kernel_rfl) rfl rfl (hx211_0) (fun hHeld=>?_)
            generalize wr.drew=w22 at HO_5 HO_7 HO_10 HO_211002 BK210 HB hx211_0 hHeld ⊢
            refine pure_ (i:=0) (N:=some 55) (v:=?_) (a':=?_) #[true,false,false,false,false,false] rfl rfl (by kernel_rfl) (fun _ _ _ h=>h) (Or.inl ⟨by rfl,?_⟩) ?_ ?_
            rotate_left
            ·intro w'
             go_simp
             with_reducible rfl
            rotate_left
            ·simp only [Act.put,xsA,xsZ,xsS,i64_w,i32_w]
             rfl
            refine pure_ (i:=1) (N:=some 56) (v:=?_) (a':=?_) #[true,true,false,false,false,false] rfl rfl (by kernel_rfl) (fun _ _ _ h=>h) (Or.inl ⟨by rfl,?_⟩) ?_ ?_
            rotate_left
            ·intro w'
             go_simp
             with_reducible rfl
            rotate_left
            ·simp only [Act.put,xsA,xsZ,xsS,i64_w,i32_w]
             rfl
            refine pure_ (i:=2) (N:=some 57) (v:=?_) (a':=?_) #[true,true,true,false,false,false] rfl rfl (by kernel_rfl) (fun _ _ _ h=>h) (Or.inl ⟨by rfl,?_⟩) ?_ ?_
            rotate_left
            ·intro w'
             go_simp
             with_reducible rfl
            rotate_left
            ·simp only [Act.put,xsA,xsZ,xsS,i64_w,i32_w]
             rfl
            refine pure_ (i:=4) (N:=some 14) (v:=?_) (a':=?_) #[true,true,true,false,true,false] rfl rfl (by kernel_rfl) (fun _ _ _ h=>h) (Or.inl ⟨by rfl,?_⟩) ?_ ?_
            rotate_left
            ·intro w'
             go_simp
             with_reducible rfl
            rotate_left
            ·simp only [Act.put,xsA,xsZ,xsS,i64_w,i32_w]
             rfl
            refine take_ (i:=3) (N:=some 58) (v:=?_) (a':=?_) #[true,true,true,true,true,false] rfl rfl (by kernel_rfl) (fun _ _ _ h=>h) (Or.inl ⟨by rfl,?_⟩) hHeld ?_ ?_
            rotate_left
            ·intro w' s0
             go_simp
             with_reducible rfl
            rotate_left
            ·simp only [Act.put,xsA,xsZ,xsS,i64_w,i32_w]
             rfl
            refine pure_ (i:=5) (N:=some 15) (v:=?_) (a':=?_) #[true,true,true,true,true,true] rfl rfl (by kernel_rfl) (fun _ _ _ h=>h) (Or.inl ⟨by rfl,?_⟩) ?_ ?_
            rotate_left
            ·intro w'
             go_simp
             with_reducible rfl
            rotate_left
            ·simp only [Act.put,xsA,xsZ,xsS,i64_w,i32_w]
             rfl
            refine done_ (by kernel_rfl) ?_
            go_upto_region 17 with (fail)
            go_cut [64] (fun v64 wc=>∃ (kq:Nat) (x64_19:Bool),v64=.bool x64_19 ∧ Aside0 (rf_ReadGauge.j2 kq t197 x7_1 x8_1 t207 x12_2 x13_2 1 (rdOf ByteArray.empty t207 x13_2) x64_19 x211000_2 x211001_2 x211002_2=some (r1,r2,r3)) ∧ Aside0 (kq ≤ k2) ∧ Aside0 (Kd.R Kd.string 9 wc w.heap.size (fun k_=>some k_ ≠ ((.slice (some ad211) t207.length co21):Value).ownBlock) (.slice (some ad204) t197.length co12) t197) ∧ Aside0 (Kd.S k37 37 wc w.heap.size (fun k_=>some k_ ≠ (u211002:Value).ownBlock ∧ k_ ≠ gb210) u7 x7_1) ∧ Aside0 (Kd.R Kd.string 9 wc w.heap.size (fun k_=>some k_ ≠ ((.slice (some ad204) t197.length co12):Value).ownBlock) (.slice (some ad211) t207.length co21) t207) ∧ Aside0 (Kd.R (Kd.int .i64) 3 wc w.heap.size (fun _=>True) u211002 x211002_2) ∧ Aside0 (wc.heap[gb210]?=some (.cells #[.int .i64 x211000_2,.int .i64 x211001_2,u211002] 37 (0,0))) ∧ Aside0 (Below w.heap.size w wc))
            case first =>
             have H:=HC20.out
             clear HC20
             by_cases c23:x13_2 > 2
             ·rw [if_pos c23] at H
              have c23b0:decide (2 < x13_2)=true:=decide_eq_true c23
              clear c23
              (first | rw [c23b0] | (simp only [i64_w,i32_w];rw [c23b0]) | skip)
              have H':=Aside0.mk H
              clear H
              go_wp2
              go_meet
              case rel=>exact ⟨_,(((rdOf ByteArray.empty t207 x13_2).toList != ([]:List UInt8))),(by first | rfl | (simp;done) | (simp [*];done) | (simp;generalize (rdOf ByteArray.empty t207 x13_2).toList=z_;cases z_ <;> rfl)),H',⟨by have:=HK1.out;have:=HK2.out;first | omega | exact Nat.le_refl _⟩,⟨by (with_reducible repeat (first | apply Kd.R_alloc | apply Kd.R_drewN | apply Kd.R_drew));exact HO_5.out⟩,⟨by (with_reducible repeat (first | apply Kd.S_alloc | apply Kd.S_drewN | apply Kd.S_drew));exact HO_7.out⟩,⟨by (with_reducible repeat (first | apply Kd.R_alloc | apply Kd.R_drewN | apply Kd.R_drew));exact HO_10.out⟩,⟨by (with_reducible repeat (first | apply Kd.R_alloc | apply Kd.R_drewN | apply Kd.R_drew));exact HO_211002.out⟩,⟨by (with_reducible repeat (first | refine blk_drewN ?_ _ | refine blk_drew ?_ | refine blk_alloc ?_ _));exact BK210.out⟩,⟨by repeat (first | (with_reducible first | exact HB.out | apply below_alloc | apply pw_below_drewN | apply below_drew1 | refine below_set ?_ GE210.out) | exact HB.out)⟩⟩
             ·rw [if_neg c23] at H
              have c23b0:decide (2 < x13_2)=false:=decide_eq_false c23
              clear c23
              (first | rw [c23b0] | (simp only [i64_w,i32_w];rw [c23b0]) | skip)
              have H':=Aside0.mk H
              clear H
              go_wp2
              go_meet
              case rel=>exact ⟨_,(false),(by first | rfl | (simp;done) | (simp [*];done)),H',⟨by have:=HK1.out;have:=HK2.out;first | omega | exact Nat.le_refl _⟩,⟨by (with_reducible repeat (first | apply Kd.R_alloc | apply Kd.R_drewN | apply Kd.R_drew));exact HO_5.out⟩,⟨by (with_reducible repeat (first | apply Kd.S_alloc | apply Kd.S_drewN | apply Kd.S_drew));exact HO_7.out⟩,⟨by (with_reducible repeat (first | apply Kd.R_alloc | apply Kd.R_drewN | apply Kd.R_drew));exact HO_10.out⟩,⟨by (with_reducible repeat (first | apply Kd.R_alloc | apply Kd.R_drewN | apply Kd.R_drew));exact HO_211002.out⟩,⟨by (with_reducible repeat (first | refine blk_drewN ?_ _ | refine blk_drew ?_ | refine blk_alloc ?_ _));exact BK210.out⟩,⟨by repeat (first | (with_reducible first | exact HB.out | apply below_alloc | apply pw_below_drewN | apply below_drew1 | refine below_set ?_ GE210.out) | exact HB.out)⟩⟩
            case rest =>
             clear HC20
             try clear c1
             try clear c2
             try clear p2
             try clear q2
             try clear hx2
             try clear c3
             try clear c3b0
             try clear c3b1
             try clear p6
             try clear c7
             try clear c7b0
             try clear c8
             try clear c8b0
             try clear c10
             try clear c10b0
             try clear c10b1
             try clear c16
             try clear c17
             try clear c17b0
             try clear c18
             try clear c18b0
             try clear c19
             try clear c19b0
             try clear p20
             try clear q20
             try clear hx20
             try clear p21
             try clear q21
             try clear hx21
             try clear c23
             try clear c23b0
             try clear hcz16_0
             try clear hcz16_1
             try clear hcz16_2
             try clear hfz16_0
             try clear hfz16_1
             try clear hfz16_2
             try clear hx204_0
             try clear hx206_0
             try clear hx211_0
             try clear p2
             try clear p204
             try clear p206
             try clear p211
             try clear q2
             try clear q204
             try clear q206
             try clear q211
             obtain ⟨kq,x64_19,rfl,HA,HJ19,HO_5,HO_7,HO_10,HO_211002,BK210,HB⟩:=hcut
             cases kq with
             | zero=>exact absurd HA.out (by simp [rf_ReadGauge.j2])
             | succ kj19 =>
              have H:=HA.out
              clear HA
              simp only [rf_ReadGauge.j2] at H
              have HC24:=Aside0.mk H
              clear H
              go_upto_if 64 with (fail)
              go_cut [14,15] (fun v14 v15 wc=>∃ (kq:Nat) (x14_23:Int) (x15_23:ByteArray),v14=.int .i64 x14_23 ∧ v15=.string x15_23 ∧ Aside0 (rf_ReadGauge.j3 kq t197 x7_1 x8_1 t207 x12_2 x13_2 x14_23 x15_23 x211000_2 x211001_2 x211002_2=some (r1,r2,r3)) ∧ Aside0 (kq ≤ kj19) ∧ Aside0 (Kd.R Kd.string 9 wc w.heap.size (fun k_=>some k_ ≠ ((.slice (some ad211) t207.length co21):Value).ownBlock) (.slice (some ad204) t197.length co12) t197) ∧ Aside0 (Kd.S k37 37 wc w.heap.size (fun k_=>some k_ ≠ (u211002:Value).ownBlock ∧ k_ ≠ gb210) u7 x7_1) ∧ Aside0 (Kd.R Kd.string 9 wc w.heap.size (fun k_=>some k_ ≠ ((.slice (some ad204) t197.length co12):Value).ownBlock) (.slice (some ad211) t207.length co21) t207) ∧ Aside0 (Kd.R (Kd.int .i64) 3 wc w.heap.size (fun _=>True) u211002 x211002_2) ∧ Aside0 (wc.heap[gb210]?=some (.cells #[.int .i64 x211000_2,.int .i64 x211001_2,u211002] 37 (0,0))) ∧ Aside0 (Below w.heap.size w wc))
              case first =>
               have H:=HC24.out
               clear HC24
               by_cases c25:x64_19=true
               ·subst c25
                have H1:(if 0 < ((rdOf ByteArray.empty t207 x13_2).size:Int) then (if (bt (rdOf ByteArray.empty t207 x13_2) 0)=45 then (if 1 ≤ ((rdOf ByteArray.empty t207 x13_2).size:Int) then (rf_ReadGauge.j3 kj19 t197 x7_1 x8_1 t207 x12_2 x13_2 (-1) ((rdOf ByteArray.empty t207 x13_2).extract 1 (rdOf ByteArray.empty t207 x13_2).size) x211000_2 x211001_2 x211002_2) else (none)) else (if 1 ≤ ((rdOf ByteArray.empty t207 x13_2).size:Int) then (rf_ReadGauge.j3 kj19 t197 x7_1 x8_1 t207 x12_2 x13_2 1 ((rdOf ByteArray.empty t207 x13_2).extract 1 (rdOf ByteArray.empty t207 x13_2).size) x211000_2 x211001_2 x211002_2) else (none))) else (none))=some (r1,r2,r3):=by rw [if_pos rfl] at H;exact H
                clear H
                have H:=H1
                clear H1
                by_cases c26:0 < ((rdOf ByteArray.empty t207 x13_2).size:Int)
                ·rw [if_pos c26] at H
                 have c26b0:decide (0 < ((rdOf ByteArray.empty t207 x13_2).size:Int))=true:=decide_eq_true c26
                 have c26b1:decide (0 < (rdOf ByteArray.empty t207 x13_2).size)=true:=decide_eq_true (by omega)
                 clear c26
                 (first | rw [c26b0] | (simp only [i64_w,i32_w];rw [c26b0]) | skip)
                 by_cases c28:(bt (rdOf ByteArray.empty t207 x13_2) 0)=45
                 ·rw [if_pos c28] at H
                  have c28b0:((bt (rdOf ByteArray.empty t207 x13_2) 0) == 45)=true:=beq_iff_eq.mpr c28
                  have c28b1:((bt (rdOf ByteArray.empty t207 x13_2) 0) != 45)=false:=bne_eq_false_iff_eq.mpr c28
                  clear c28
                  by_cases c29:1 ≤ ((rdOf ByteArray.empty t207 x13_2).size:Int)
                  ·rw [if_pos c29] at H
                   have c29b0:=eq_true c29
                   have c29b1:decide (1 ≤ ((rdOf ByteArray.empty t207 x13_2).size:Int))=true:=decide_eq_true c29
                   clear c29
                   have H':=Aside0.mk H
                   clear H
                   have p27:0 ≤ (0:Int):=(by omega)
                   have q27:0 < (rdOf ByteArray.empty t207 x13_2).size:=(by have:(0:Int) < ((rdOf ByteArray.empty t207 x13_2).size:Int):=of_decide_eq_true (by first | (with_reducible assumption) | assumption);omega)
                   have hx27:∀ h:0 < (rdOf ByteArray.empty t207 x13_2).size,(((rdOf ByteArray.empty t207 x13_2)[0]'h).toNat:Int)=bt (rdOf ByteArray.empty t207 x13_2) 0:=bt_at (rdOf ByteArray.empty t207 x13_2) 0
                   clear p27
                   have qi27:(0 < ((rdOf ByteArray.empty t207 x13_2).size:Int))=True:=eq_true (of_decide_eq_true (by first | (with_reducible assumption) | assumption))
                   replace q27:=eq_true q27
                   go_wp2
                   go_meet
                   case rel=>exact ⟨_,((-1)),((rdOf ByteArray.empty t207 x13_2).extract 1 (rdOf ByteArray.empty t207 x13_2).size),(by first | rfl | (simp;done) | (simp [*];done)),(by first | rfl | (simp;done) | (simp [*];done)),H',⟨by have:=HK1.out;have:=HK2.out;have:=HJ19.out;first | omega | exact Nat.le_refl _⟩,⟨by (with_reducible repeat (first | apply Kd.R_alloc | apply Kd.R_drewN | apply Kd.R_drew));exact HO_5.out⟩,⟨by (with_reducible repeat (first | apply Kd.S_alloc | apply Kd.S_drewN | apply Kd.S_drew));exact HO_7.out⟩,⟨by (with_reducible repeat (first | apply Kd.R_alloc | apply Kd.R_drewN | apply Kd.R_drew));exact HO_10.out⟩,⟨by (with_reducible repeat (first | apply Kd.R_alloc | apply Kd.R_drewN | apply Kd.R_drew));exact HO_211002.out⟩,⟨by (with_reducible repeat (first | refine blk_drewN ?_ _ | refine blk_drew ?_ | refine blk_alloc ?_ _));exact BK210.out⟩,⟨by repeat (first | (with_reducible first | exact HB.out | apply below_alloc | apply pw_below_drewN | apply below_drew1 | refine below_set ?_ GE210.out) | exact HB.out)⟩⟩
                  ·rw [if_neg c29] at H
                   exact absurd H (by simp)
                 ·rw [if_neg c28] at H
                  have c28b0:((bt (rdOf ByteArray.empty t207 x13_2) 0) == 45)=false:=beq_eq_false_iff_ne.mpr c28
                  have c28b1:((bt (rdOf ByteArray.empty t207 x13_2) 0) != 45)=true:=bne_iff_ne.mpr c28
                  by_cases c30:1 ≤ ((rdOf ByteArray.empty t207 x13_2).size:Int)
                  ·rw [if_pos c30] at H
                   have c30b0:=eq_true c30
                   have c30b1:decide (1 ≤ ((rdOf ByteArray.empty t207 x13_2).size:Int))=true:=decide_eq_true c30
                   clear c30
                   have H':=Aside0.mk H
                   clear H
                   have p27:0 ≤ (0:Int):=(by omega)
                   have q27:0 < (rdOf ByteArray.empty t207 x13_2).size:=(by have:(0:Int) < ((rdOf ByteArray.empty t207 x13_2).size:Int):=of_decide_eq_true (by first | (with_reducible assumption) | assumption);omega)
                   have hx27:∀ h:0 < (rdOf ByteArray.empty t207 x13_2).size,(((rdOf ByteArray.empty t207 x13_2)[0]'h).toNat:Int)=bt (rdOf ByteArray.empty t207 x13_2) 0:=bt_at (rdOf ByteArray.empty t207 x13_2) 0
                   clear p27
                   have qi27:(0 < ((rdOf ByteArray.empty t207 x13_2).size:Int))=True:=eq_true (of_decide_eq_true (by first | (with_reducible assumption) | assumption))
                   replace q27:=eq_true q27
                   go_wp2
                   go_meet
                   case rel=>exact ⟨_,(1),((rdOf ByteArray.empty t207 x13_2).extract 1 (rdOf ByteArray.empty t207 x13_2).size),(by first | rfl | (simp;done) | (simp [*];done)),(by first | rfl | (simp;done) | (simp [*];done)),H',⟨by have:=HK1.out;have:=HK2.out;have:=HJ19.out;first | omega | exact Nat.le_refl _⟩,⟨by (with_reducible repeat (first | apply Kd.R_alloc | apply Kd.R_drewN | apply Kd.R_drew));exact HO_5.out⟩,⟨by (with_reducible repeat (first | apply Kd.S_alloc | apply Kd.S_drewN | apply Kd.S_drew));exact HO_7.out⟩,⟨by (with_reducible repeat (first | apply Kd.R_alloc | apply Kd.R_drewN | apply Kd.R_drew));exact HO_10.out⟩,⟨by (with_reducible repeat (first | apply Kd.R_alloc | apply Kd.R_drewN | apply Kd.R_drew));exact HO_211002.out⟩,⟨by (with_reducible repeat (first | refine blk_drewN ?_ _ | refine blk_drew ?_ | refine blk_alloc ?_ _));exact BK210.out⟩,⟨by repeat (first | (with_reducible first | exact HB.out | apply below_alloc | apply pw_below_drewN | apply below_drew1 | refine below_set ?_ GE210.out) | exact HB.out)⟩⟩
                  ·rw [if_neg c30] at H
                   exact absurd H (by simp)
                ·rw [if_neg c26] at H
                 exact absurd H (by simp)
               ·replace c25:=Bool.eq_false_iff.mpr c25
                subst c25
                have H1:(rf_ReadGauge.j3 kj19 t197 x7_1 x8_1 t207 x12_2 x13_2 1 (rdOf ByteArray.empty t207 x13_2) x211000_2 x211001_2 x211002_2)=some (r1,r2,r3):=by rw [if_neg (show ¬ (false=true) by decide)] at H;exact H
                clear H
                have H:=H1
                clear H1
                have H':=Aside0.mk H
                clear H
                go_wp2
                go_meet
                case rel=>exact ⟨_,(1),((rdOf ByteArray.empty t207 x13_2)),(by first | rfl | (simp;done) | (simp [*];done)),(by first | rfl | (simp;done) | (simp [*];done)),H',⟨by have:=HK1.out;have:=HK2.out;have:=HJ19.out;first | omega | exact Nat.le_refl _⟩,⟨by (with_reducible repeat (first | apply Kd.R_alloc | apply Kd.R_drewN | apply Kd.R_drew));exact HO_5.out⟩,⟨by (with_reducible repeat (first | apply Kd.S_alloc | apply Kd.S_drewN | apply Kd.S_drew));exact HO_7.out⟩,⟨by (with_reducible repeat (first | apply Kd.R_alloc | apply Kd.R_drewN | apply Kd.R_drew));exact HO_10.out⟩,⟨by (with_reducible repeat (first | apply Kd.R_alloc | apply Kd.R_drewN | apply Kd.R_drew));exact HO_211002.out⟩,⟨by (with_reducible repeat (first | refine blk_drewN ?_ _ | refine blk_drew ?_ | refine blk_alloc ?_ _));exact BK210.out⟩,⟨by repeat (first | (with_reducible first | exact HB.out | apply below_alloc | apply pw_below_drewN | apply below_drew1 | refine below_set ?_ GE210.out) | exact HB.out)⟩⟩
              case rest =>
               clear HC24
               try clear c1
               try clear c2
               try clear p2
               try clear q2
               try clear hx2
               try clear qi2
               try clear c3
               try clear c3b0
               try clear c3b1
               try clear p6
               try clear c7
               try clear c7b0
               try clear c8
               try clear c8b0
               try clear c10
               try clear c10b0
               try clear c10b1
               try clear c16
               try clear c17
               try clear c17b0
               try clear c18
               try clear c18b0
               try clear c19
               try clear c19b0
               try clear p20
               try clear q20
               try clear hx20
               try clear p21
               try clear q21
               try clear hx21
               try clear c23
               try clear c23b0
               try clear c25
               try clear c26
               try clear c26b0
               try clear c26b1
               try clear p27
               try clear q27
               try clear hx27
               try clear qi27
               try clear c28
               try clear c28b0
               try clear c28b1
               try clear c29
               try clear c29b0
               try clear c29b1
               try clear c30
               try clear c30b0
               try clear c30b1
               try clear hcz16_0
               try clear hcz16_1
               try clear hcz16_2
               try clear hfz16_0
               try clear hfz16_1
               try clear hfz16_2
               try clear hx204_0
               try clear hx206_0
               try clear hx211_0
               try clear p2
               try clear p20
               try clear p204
               try clear p206
               try clear p21
               try clear p211
               try clear p27
               try clear p6
               try clear q2
               try clear q20
               try clear q204
               try clear q206
               try clear q21
               try clear q211
               try clear q27
               obtain ⟨kq,x14_23,x15_23,rfl,rfl,HA,HJ23,HO_5,HO_7,HO_10,HO_211002,BK210,HB⟩:=hcut
               cases kq with
               | zero=>exact absurd HA.out (by simp [rf_ReadGauge.j3])
               | succ kj23 =>
                have H:=HA.out
                clear HA
                simp only [rf_ReadGauge.j3] at H
                replace H:=Option.bind_eq_some_iff.mp H
                obtain ⟨⟨t212,t213⟩,A310,H⟩:=H
                replace H:(if x13_2=0 then (rf_ReadGauge.l1 kj23 t197 x7_1 x8_1 t207 x12_2 (wrap64 (x13_2 + 1)) t212 x211001_2 x211002_2) else (if x13_2=1 then (rf_ReadGauge.l1 kj23 t197 x7_1 x8_1 t207 x12_2 (wrap64 (x13_2 + 1)) x211000_2 t212 x211002_2) else (if x211002_2.length < 17592186044416 then (rf_ReadGauge.l1 kj23 t197 x7_1 x8_1 t207 (wrap64 (x12_2 + (wrap64 (x14_23 * t212)))) (wrap64 (x13_2 + 1)) x211000_2 x211001_2 (x211002_2 ++ [wrap64 (x12_2 + (wrap64 (x14_23 * t212)))])) else (none))))=some (r1,r2,r3):=H
                have A31:=Aside0.mk A310
                clear A310
                by_cases c32:x13_2=0
                ·rw [if_pos c32] at H
                 have c32b0:(x13_2 == 0)=true:=beq_iff_eq.mpr c32
                 have c32b1:(x13_2 != 0)=false:=bne_eq_false_iff_eq.mpr c32
                 clear c32
                 have H':=Aside0.mk H
                 clear H
                 go_wp2_with (first | ((with_reducible refine gate_callee (f:=31) rfl ?_);refine goesL_ (some 72) rfl rfl Tryz.func31 (by kernel_rfl) rfl #[.string x15_23] rfl (by (try simp only [List.map_toArray,List.map_cons,List.map_nil]);first | done | rfl | (simp only [List.length_drop,List.length_take];rfl)) ?_;(with_reducible refine (rf_Digits.calls kj23 x15_23 t212 t213 _ A31.out).mono ?_);rintro e w' ⟨rfl,⟨nd,rfl⟩⟩;refine ⟨_,rfl,?_⟩;(try (rw [drewN_self wc];generalize hq_:World.drewN wc _=wc;have n0_:Aside0 (Kd.R Kd.string 9 wc w.heap.size (fun k_=>some k_ ≠ (.slice (some ad204) t197.length co12:Value).ownBlock) (.slice (some ad211) t207.length co21) t207):=⟨by rw [← hq_];exact (by (with_reducible repeat (first | apply Kd.R_alloc | apply Kd.R_drewN | apply Kd.R_drew));exact HO_10.out)⟩;have n1_:Aside0 (Kd.R (Kd.int .i64) 3 wc w.heap.size (fun _=>True) u211002 x211002_2):=⟨by rw [← hq_];exact (by (with_reducible repeat (first | apply Kd.R_alloc | apply Kd.R_drewN | apply Kd.R_drew));exact HO_211002.out)⟩;have n2_:Aside0 (Kd.R Kd.string 9 wc w.heap.size (fun k_=>some k_ ≠ (.slice (some ad211) t207.length co21:Value).ownBlock) (.slice (some ad204) t197.length co12) t197):=⟨by rw [← hq_];exact (by (with_reducible repeat (first | apply Kd.R_alloc | apply Kd.R_drewN | apply Kd.R_drew));exact HO_5.out)⟩;have n3_:Aside0 (Kd.S k37 37 wc w.heap.size (fun k_=>some k_ ≠ (u211002:Value).ownBlock ∧ k_ ≠ gb210) u7 x7_1):=⟨by rw [← hq_];exact (by (with_reducible repeat (first | apply Kd.S_alloc | apply Kd.S_drewN | apply Kd.S_drew));exact HO_7.out)⟩;have n4_:Aside0 (wc.heap[gb210]?=some (.cells #[.int .i64 x211000_2,.int .i64 x211001_2,u211002] 37 (0,0))):=⟨by rw [← hq_];exact (by (with_reducible repeat (first | refine blk_drewN ?_ _ | refine blk_drew ?_ | refine blk_alloc ?_ _));exact BK210.out)⟩;have n5_:Aside0 (Below w.heap.size w wc):=⟨by rw [← hq_];exact (by repeat (first | (with_reducible first | exact HB.out | apply below_alloc | apply pw_below_drewN | apply below_drew1 | refine below_set ?_ GE210.out) | exact HB.out))⟩;clear HO_10 HO_211002 HO_5 HO_7 BK210 HB hq_;have HO_10:=n0_;have HO_211002:=n1_;have HO_5:=n2_;have HO_7:=n3_;have BK210:=n4_;have HB:=n5_;clear n0_ n1_ n2_ n3_ n4_ n5_));have hcz33_0:wc.cell? ⟨gb210,0,none⟩=some (.int .i64 x211000_2):=(blk_cell BK210.out 0).trans rfl;have hcz33_1:wc.cell? ⟨gb210,1,none⟩=some (.int .i64 x211001_2):=(blk_cell BK210.out 1).trans rfl;have hcz33_2:wc.cell? ⟨gb210,2,none⟩=some (u211002):=(blk_cell BK210.out 2).trans rfl;have hfz33_0:=blk_frozen BK210.out 0;have hfz33_1:=blk_frozen BK210.out 1;have hfz33_2:=blk_frozen BK210.out 2))
                 go_roundg kj23
                 case measure=>have:=HK1.out;have:=HK2.out;have:=HJ19.out;have:=HJ23.out;omega
                 case rel=>exact ⟨(x12_2),(wrap64 (x13_2 + 1)),(t212),(x211001_2),(x211002_2),(u211002),(by first | rfl | (simp;done) | (simp [*];done)),(by first | rfl | (simp;done) | (simp [*];done)),H',⟨by have:=HK1.out;have:=HK2.out;have:=HJ19.out;have:=HJ23.out;omega⟩,⟨by (with_reducible repeat (first | apply Kd.R_alloc | apply Kd.R_drewN | apply Kd.R_drew));exact Kd.R_mono (Kd.R_far (p:=⟨gb210,0,none⟩) (Kd.R_types HO_5.out BK210.out (by decide)) (fun _ hk=>hk.2) (.int .i64 t212)) (fun _ hk=>hk.1)⟩,⟨by (with_reducible repeat (first | apply Kd.S_alloc | apply Kd.S_drewN | apply Kd.S_drew));exact Kd.S_mono (Kd.S_far (p:=⟨gb210,0,none⟩) (Kd.S_mono HO_7.out (fun k_ hk=>(⟨hk,hk.2⟩:_ ∧ k_ ≠ gb210))) (fun _ hk=>hk.2) (.int .i64 t212)) (fun _ hk=>⟨hk.1.1,hk.1.2⟩)⟩,⟨by (with_reducible repeat (first | apply Kd.R_alloc | apply Kd.R_drewN | apply Kd.R_drew));exact Kd.R_mono (Kd.R_far (p:=⟨gb210,0,none⟩) (Kd.R_types HO_10.out BK210.out (by decide)) (fun _ hk=>hk.2) (.int .i64 t212)) (fun _ hk=>hk.1)⟩,⟨by (with_reducible repeat (first | apply Kd.R_alloc | apply Kd.R_drewN | apply Kd.R_drew));exact Kd.R_mono (Kd.R_far (p:=⟨gb210,0,none⟩) (Kd.R_types HO_211002.out BK210.out (by decide)) (fun _ hk=>hk.2) (.int .i64 t212)) (fun _ hk=>trivial)⟩,⟨by (with_reducible repeat (first | refine blk_drewN ?_ _ | refine blk_drew ?_ | refine blk_alloc ?_ _));refine blk_put (cs:=#[.int .i64 x211000_2,.int .i64 x211001_2,u211002]) ?_ 0 _ rfl;(with_reducible repeat (first | refine blk_drewN ?_ _ | refine blk_drew ?_ | refine blk_alloc ?_ _));exact BK210.out⟩,⟨by repeat (first | (with_reducible first | exact HB.out | apply below_alloc | apply pw_below_drewN | apply below_drew1 | refine below_set ?_ GE210.out) | exact HB.out)⟩⟩
                ·rw [if_neg c32] at H
                 have c32b0:(x13_2 == 0)=false:=beq_eq_false_iff_ne.mpr c32
                 have c32b1:(x13_2 != 0)=true:=bne_iff_ne.mpr c32
                 by_cases c34:x13_2=1
                 ·rw [if_pos c34] at H
                  have c34b0:(x13_2 == 1)=true:=beq_iff_eq.mpr c34
                  have c34b1:(x13_2 != 1)=false:=bne_eq_false_iff_eq.mpr c34
                  clear c34
                  have H':=Aside0.mk H
                  clear H
                  go_wp2_with (first | ((with_reducible refine gate_callee (f:=31) rfl ?_);refine goesL_ (some 72) rfl rfl Tryz.func31 (by kernel_rfl) rfl #[.string x15_23] rfl (by (try simp only [List.map_toArray,List.map_cons,List.map_nil]);first | done | rfl | (simp only [List.length_drop,List.length_take];rfl)) ?_;(with_reducible refine (rf_Digits.calls kj23 x15_23 t212 t213 _ A31.out).mono ?_);rintro e w' ⟨rfl,⟨nd,rfl⟩⟩;refine ⟨_,rfl,?_⟩;(try (rw [drewN_self wc];generalize hq_:World.drewN wc _=wc;have n0_:Aside0 (Kd.R Kd.string 9 wc w.heap.size (fun k_=>some k_ ≠ (.slice (some ad204) t197.length co12:Value).ownBlock) (.slice (some ad211) t207.length co21) t207):=⟨by rw [← hq_];exact (by (with_reducible repeat (first | apply Kd.R_alloc | apply Kd.R_drewN | apply Kd.R_drew));exact HO_10.out)⟩;have n1_:Aside0 (Kd.R (Kd.int .i64) 3 wc w.heap.size (fun _=>True) u211002 x211002_2):=⟨by rw [← hq_];exact (by (with_reducible repeat (first | apply Kd.R_alloc | apply Kd.R_drewN | apply Kd.R_drew));exact HO_211002.out)⟩;have n2_:Aside0 (Kd.R Kd.string 9 wc w.heap.size (fun k_=>some k_ ≠ (.slice (some ad211) t207.length co21:Value).ownBlock) (.slice (some ad204) t197.length co12) t197):=⟨by rw [← hq_];exact (by (with_reducible repeat (first | apply Kd.R_alloc | apply Kd.R_drewN | apply Kd.R_drew));exact HO_5.out)⟩;have n3_:Aside0 (Kd.S k37 37 wc w.heap.size (fun k_=>some k_ ≠ (u211002:Value).ownBlock ∧ k_ ≠ gb210) u7 x7_1):=⟨by rw [← hq_];exact (by (with_reducible repeat (first | apply Kd.S_alloc | apply Kd.S_drewN | apply Kd.S_drew));exact HO_7.out)⟩;have n4_:Aside0 (wc.heap[gb210]?=some (.cells #[.int .i64 x211000_2,.int .i64 x211001_2,u211002] 37 (0,0))):=⟨by rw [← hq_];exact (by (with_reducible repeat (first | refine blk_drewN ?_ _ | refine blk_drew ?_ | refine blk_alloc ?_ _));exact BK210.out)⟩;have n5_:Aside0 (Below w.heap.size w wc):=⟨by rw [← hq_];exact (by repeat (first | (with_reducible first | exact HB.out | apply below_alloc | apply pw_below_drewN | apply below_drew1 | refine below_set ?_ GE210.out) | exact HB.out))⟩;clear HO_10 HO_211002 HO_5 HO_7 BK210 HB hq_;have HO_10:=n0_;have HO_211002:=n1_;have HO_5:=n2_;have HO_7:=n3_;have BK210:=n4_;have HB:=n5_;clear n0_ n1_ n2_ n3_ n4_ n5_));have hcz35_0:wc.cell? ⟨gb210,0,none⟩=some (.int .i64 x211000_2):=(blk_cell BK210.out 0).trans rfl;have hcz35_1:wc.cell? ⟨gb210,1,none⟩=some (.int .i64 x211001_2):=(blk_cell BK210.out 1).trans rfl;have hcz35_2:wc.cell? ⟨gb210,2,none⟩=some (u211002):=(blk_cell BK210.out 2).trans rfl;have hfz35_0:=blk_frozen BK210.out 0;have hfz35_1:=blk_frozen BK210.out 1;have hfz35_2:=blk_frozen BK210.out 2))
                  go_roundg kj23
                  case measure=>have:=HK1.out;have:=HK2.out;have:=HJ19.out;have:=HJ23.out;omega
                  case rel=>exact ⟨(x12_2),(wrap64 (x13_2 + 1)),(x211000_2),(t212),(x211002_2),(u211002),(by first | rfl | (simp;done) | (simp [*];done)),(by first | rfl | (simp;done) | (simp [*];done)),H',⟨by have:=HK1.out;have:=HK2.out;have:=HJ19.out;have:=HJ23.out;omega⟩,⟨by (with_reducible repeat (first | apply Kd.R_alloc | apply Kd.R_drewN | apply Kd.R_drew));exact Kd.R_mono (Kd.R_far (p:=⟨gb210,1,none⟩) (Kd.R_types HO_5.out BK210.out (by decide)) (fun _ hk=>hk.2) (.int .i64 t212)) (fun _ hk=>hk.1)⟩,⟨by (with_reducible repeat (first | apply Kd.S_alloc | apply Kd.S_drewN | apply Kd.S_drew));exact Kd.S_mono (Kd.S_far (p:=⟨gb210,1,none⟩) (Kd.S_mono HO_7.out (fun k_ hk=>(⟨hk,hk.2⟩:_ ∧ k_ ≠ gb210))) (fun _ hk=>hk.2) (.int .i64 t212)) (fun _ hk=>⟨hk.1.1,hk.1.2⟩)⟩,⟨by (with_reducible repeat (first | apply Kd.R_alloc | apply Kd.R_drewN | apply Kd.R_drew));exact Kd.R_mono (Kd.R_far (p:=⟨gb210,1,none⟩) (Kd.R_types HO_10.out BK210.out (by decide)) (fun _ hk=>hk.2) (.int .i64 t212)) (fun _ hk=>hk.1)⟩,⟨by (with_reducible repeat (first | apply Kd.R_alloc | apply Kd.R_drewN | apply Kd.R_drew));exact Kd.R_mono (Kd.R_far (p:=⟨gb210,1,none⟩) (Kd.R_types HO_211002.out BK210.out (by decide)) (fun _ hk=>hk.2) (.int .i64 t212)) (fun _ hk=>trivial)⟩,⟨by (with_reducible repeat (first | refine blk_drewN ?_ _ | refine blk_drew ?_ | refine blk_alloc ?_ _));refine blk_put (cs:=#[.int .i64 x211000_2,.int .i64 x211001_2,u211002]) ?_ 1 _ rfl;(with_reducible repeat (first | refine blk_drewN ?_ _ | refine blk_drew ?_ | refine blk_alloc ?_ _));exact BK210.out⟩,⟨by repeat (first | (with_reducible first | exact HB.out | apply below_alloc | apply pw_below_drewN | apply below_drew1 | refine below_set ?_ GE210.out) | exact HB.out)⟩⟩
                 ·rw [if_neg c34] at H
                  have c34b0:(x13_2 == 1)=false:=beq_eq_false_iff_ne.mpr c34
                  have c34b1:(x13_2 != 1)=true:=bne_iff_ne.mpr c34
                  by_cases c36:x211002_2.length < 17592186044416
                  ·rw [if_pos c36] at H
                   have LMc36:=Aside0.mk c36
                   clear c36
                   obtain ⟨y214,hy214⟩:∃ y_:List Int,y_=(x211002_2 ++ [wrap64 (x12_2 + (wrap64 (x14_23 * t212)))]):=⟨_,rfl⟩
                   replace H:(rf_ReadGauge.l1 kj23 t197 x7_1 x8_1 t207 (wrap64 (x12_2 + (wrap64 (x14_23 * t212)))) (wrap64 (x13_2 + 1)) x211000_2 x211001_2 y214)=some (r1,r2,r3):=by first | (rw [hy214];with_reducible exact H) | (have H2_:=(Option.bind_some _ _).symm.trans H;rw [hy214];with_reducible exact H2_) | (have H2_:=(Option.bind_some _ _).symm.trans H;with_reducible exact H2_) | with_reducible exact H | (rw [hy214];exact H) | exact H
                   have Ny214:=Aside0.mk hy214
                   clear hy214
                   have H':=Aside0.mk H
                   clear H
                   go_wp2_with (first | ((with_reducible refine gate_callee (f:=31) rfl ?_);refine goesL_ (some 72) rfl rfl Tryz.func31 (by kernel_rfl) rfl #[.string x15_23] rfl (by (try simp only [List.map_toArray,List.map_cons,List.map_nil]);first | done | rfl | (simp only [List.length_drop,List.length_take];rfl)) ?_;(with_reducible refine (rf_Digits.calls kj23 x15_23 t212 t213 _ A31.out).mono ?_);rintro e w' ⟨rfl,⟨nd,rfl⟩⟩;refine ⟨_,rfl,?_⟩;(try (rw [drewN_self wc];generalize hq_:World.drewN wc _=wc;have n0_:Aside0 (Kd.R Kd.string 9 wc w.heap.size (fun k_=>some k_ ≠ (.slice (some ad204) t197.length co12:Value).ownBlock) (.slice (some ad211) t207.length co21) t207):=⟨by rw [← hq_];exact (by (with_reducible repeat (first | apply Kd.R_alloc | apply Kd.R_drewN | apply Kd.R_drew));exact HO_10.out)⟩;have n1_:Aside0 (Kd.R (Kd.int .i64) 3 wc w.heap.size (fun _=>True) u211002 x211002_2):=⟨by rw [← hq_];exact (by (with_reducible repeat (first | apply Kd.R_alloc | apply Kd.R_drewN | apply Kd.R_drew));exact HO_211002.out)⟩;have n2_:Aside0 (Kd.R Kd.string 9 wc w.heap.size (fun k_=>some k_ ≠ (.slice (some ad211) t207.length co21:Value).ownBlock) (.slice (some ad204) t197.length co12) t197):=⟨by rw [← hq_];exact (by (with_reducible repeat (first | apply Kd.R_alloc | apply Kd.R_drewN | apply Kd.R_drew));exact HO_5.out)⟩;have n3_:Aside0 (Kd.S k37 37 wc w.heap.size (fun k_=>some k_ ≠ (u211002:Value).ownBlock ∧ k_ ≠ gb210) u7 x7_1):=⟨by rw [← hq_];exact (by (with_reducible repeat (first | apply Kd.S_alloc | apply Kd.S_drewN | apply Kd.S_drew));exact HO_7.out)⟩;have n4_:Aside0 (wc.heap[gb210]?=some (.cells #[.int .i64 x211000_2,.int .i64 x211001_2,u211002] 37 (0,0))):=⟨by rw [← hq_];exact (by (with_reducible repeat (first | refine blk_drewN ?_ _ | refine blk_drew ?_ | refine blk_alloc ?_ _));exact BK210.out)⟩;have n5_:Aside0 (Below w.heap.size w wc):=⟨by rw [← hq_];exact (by repeat (first | (with_reducible first | exact HB.out | apply below_alloc | apply pw_below_drewN | apply below_drew1 | refine below_set ?_ GE210.out) | exact HB.out))⟩;clear HO_10 HO_211002 HO_5 HO_7 BK210 HB hq_;have HO_10:=n0_;have HO_211002:=n1_;have HO_5:=n2_;have HO_7:=n3_;have BK210:=n4_;have HB:=n5_;clear n0_ n1_ n2_ n3_ n4_ n5_));have hcz37_0:wc.cell? ⟨gb210,0,none⟩=some (.int .i64 x211000_2):=(blk_cell BK210.out 0).trans rfl;have hcz37_1:wc.cell? ⟨gb210,1,none⟩=some (.int .i64 x211001_2):=(blk_cell BK210.out 1).trans rfl;have hcz37_2:wc.cell? ⟨gb210,2,none⟩=some (u211002):=(blk_cell BK210.out 2).trans rfl;have hfz37_0:=blk_frozen BK210.out 0;have hfz37_1:=blk_frozen BK210.out 1;have hfz37_2:=blk_frozen BK210.out 2) | ((with_reducible refine gate_builtin (b:=.append) (xs:=#[.tmp 89,.tmp 91]) rfl ?_);at_builtin;refine Kd.R_append (Kd.int .i64) (w0:=w) w.heap.size rfl (.tmp 89) (.tmp 91) 24 3 (.int .i64 0) 8 rfl Tryz.underlying24 info3 rfl (by decide) (by omega) u211002 x211002_2 (wrap64 (x12_2 + (wrap64 (x14_23 * t212)))) [.int .i64 (wrap64 (x12_2 + (wrap64 (x14_23 * t212))))] (fun _=>True) (fun _=>False) rfl rfl ?aP (fun _ hk=>hk.elim) ?aF ?aO ?aB ?aS ?aL ?_;(case aP=>exact rfl);(case aB=>exact (by repeat (first | (with_reducible first | exact HB.out | apply below_alloc | apply pw_below_drewN | apply below_drew1 | refine below_set ?_ GE210.out) | exact HB.out)));(case aF=>exact (fun _ _=>trivial));(case aO=>exact (by (with_reducible repeat (first | apply Kd.R_alloc | apply Kd.R_drewN | apply Kd.R_drew));exact HO_211002.out));(case aS=>exact (below_size (by repeat (first | (with_reducible first | exact HB.out | apply below_alloc | apply pw_below_drewN | apply below_drew1 | refine below_set ?_ GE210.out) | exact HB.out))));(case aL=>have:=LMc36.out;omega);intro v215 w38 ho hb hg hat;rw [← Ny214.out] at ho;have n0_:=Aside0.mk (Kd.R_over' (by (with_reducible repeat (first | apply Kd.R_alloc | apply Kd.R_drewN | apply Kd.R_drew));exact HO_5.out) (Kd.R_typed (by (with_reducible repeat (first | apply Kd.R_alloc | apply Kd.R_drewN | apply Kd.R_drew));exact HO_211002.out)) (by decide) hg);have n1_:=Aside0.mk (Kd.S_after (ok:=(fun k_=>k_ ≠ gb210)) (by (with_reducible repeat (first | apply Kd.S_alloc | apply Kd.S_drewN | apply Kd.S_drew));exact Kd.S_mono HO_7.out (fun _ hk=>⟨hk.2,hk.1⟩)) hg hat);have n2_:=Aside0.mk (Kd.R_over' (by (with_reducible repeat (first | apply Kd.R_alloc | apply Kd.R_drewN | apply Kd.R_drew));exact HO_10.out) (Kd.R_typed (by (with_reducible repeat (first | apply Kd.R_alloc | apply Kd.R_drewN | apply Kd.R_drew));exact HO_211002.out)) (by decide) hg);have n3_:=Aside0.mk (blk_grown (g:=gb210) (o:=.cells #[.int .i64 x211000_2,.int .i64 x211001_2,u211002] 37 (0,0)) (by (with_reducible repeat (first | refine blk_drewN ?_ _ | refine blk_drew ?_ | refine blk_alloc ?_ _));exact BK210.out) hg (Kd.R_ne HO_211002.out BK210.out (by decide)));have n4_:=Aside0.mk (hb);have n5_:=Aside0.mk (ho);clear HO_5;clear HO_7;clear HO_10;clear BK210;clear HB;clear HO_211002;have HO_5:=n0_;have HO_7:=n1_;have HO_10:=n2_;have BK210:=n3_;have HB:=n4_;have HO216:=n5_;clear n0_ n1_ n2_ n3_ n4_ n5_;clear ho hb hg hat;obtain ⟨Ao39,co39,eo39⟩:=Kd.R_slice HO216.out;subst eo39;have hcz40_0:w38.cell? ⟨gb210,0,none⟩=some (.int .i64 x211000_2):=(blk_cell BK210.out 0).trans rfl;have hcz40_1:w38.cell? ⟨gb210,1,none⟩=some (.int .i64 x211001_2):=(blk_cell BK210.out 1).trans rfl;have hcz40_2:w38.cell? ⟨gb210,2,none⟩=some (u211002):=(blk_cell BK210.out 2).trans rfl;have hfz40_0:=blk_frozen BK210.out 0;have hfz40_1:=blk_frozen BK210.out 1;have hfz40_2:=blk_frozen BK210.out 2))
                   go_roundg kj23
                   case measure=>have:=HK1.out;have:=HK2.out;have:=HJ19.out;have:=HJ23.out;omega
                   case rel=>exact ⟨(wrap64 (x12_2 + (wrap64 (x14_23 * t212)))),(wrap64 (x13_2 + 1)),(x211000_2),(x211001_2),(y214),(.slice Ao39 y214.length co39),(by first | rfl | (simp;done) | (simp [*];done)),(by first | rfl | (simp;done) | (simp [*];done)),H',⟨by have:=HK1.out;have:=HK2.out;have:=HJ19.out;have:=HJ23.out;omega⟩,⟨by (with_reducible repeat (first | apply Kd.R_alloc | apply Kd.R_drewN | apply Kd.R_drew));exact Kd.R_mono (Kd.R_far (p:=⟨gb210,2,none⟩) (Kd.R_types HO_5.out BK210.out (by decide)) (fun _ hk=>hk.2) (.slice Ao39 y214.length co39)) (fun _ hk=>hk.1)⟩,⟨by (with_reducible repeat (first | apply Kd.S_alloc | apply Kd.S_drewN | apply Kd.S_drew));exact Kd.S_mono (Kd.S_far (p:=⟨gb210,2,none⟩) (Kd.S_mono HO_7.out (fun k_ hk=>(⟨hk,hk.1⟩:_ ∧ k_ ≠ gb210))) (fun _ hk=>hk.2) (.slice Ao39 y214.length co39)) (fun _ hk=>⟨hk.1.2,hk.1.1⟩)⟩,⟨by (with_reducible repeat (first | apply Kd.R_alloc | apply Kd.R_drewN | apply Kd.R_drew));exact Kd.R_mono (Kd.R_far (p:=⟨gb210,2,none⟩) (Kd.R_types HO_10.out BK210.out (by decide)) (fun _ hk=>hk.2) (.slice Ao39 y214.length co39)) (fun _ hk=>hk.1)⟩,⟨by (with_reducible repeat (first | apply Kd.R_alloc | apply Kd.R_drewN | apply Kd.R_drew));exact Kd.R_mono (Kd.R_far (p:=⟨gb210,2,none⟩) (Kd.R_types HO216.out BK210.out (by decide)) (fun _ hk=>hk.2) (.slice Ao39 y214.length co39)) (fun _ hk=>trivial)⟩,⟨by (with_reducible repeat (first | refine blk_drewN ?_ _ | refine blk_drew ?_ | refine blk_alloc ?_ _));refine blk_put (cs:=#[.int .i64 x211000_2,.int .i64 x211001_2,u211002]) ?_ 2 _ rfl;(with_reducible repeat (first | refine blk_drewN ?_ _ | refine blk_drew ?_ | refine blk_alloc ?_ _));exact BK210.out⟩,⟨by repeat (first | (with_reducible first | exact HB.out | apply below_alloc | apply pw_below_drewN | apply below_drew1 | refine below_set ?_ GE210.out) | exact HB.out)⟩⟩
                  ·rw [if_neg c36] at H
                   exact absurd H (by simp)
           ·rw [if_neg c19] at H
            exact absurd H (by simp)
          ·rw [if_neg c18] at H
           exact absurd H (by simp)
         ·rw [if_neg c17] at H
          have c17b0:decide (x13_2 < (wrap64 ((t207.length:Int) - 1)))=false:=decide_eq_false c17
          clear c17
          have HC41:=Aside0.mk H
          clear H
          obtain ⟨Ao42,co42,eo42⟩:=Kd.R_slice HO_10.out
          subst eo42
          go_upto_region 28 with (fail)
          go_cut [106] (fun v106 wc=>∃ (kq:Nat) (x106_40:Bool),v106=.bool x106_40 ∧ Aside0 (rf_ReadGauge.j4 kq t197 x7_1 x8_1 x106_40 x211000_2 x211001_2 x211002_2=some (r1,r2,r3)) ∧ Aside0 (kq ≤ k2) ∧ Aside0 (Kd.R Kd.string 9 wc w.heap.size (fun _=>True) (.slice (some ad204) t197.length co12) t197) ∧ Aside0 (Kd.S k37 37 wc w.heap.size (fun k_=>some k_ ≠ (u211002:Value).ownBlock ∧ k_ ≠ gb210) u7 x7_1) ∧ Aside0 (Kd.R (Kd.int .i64) 3 wc w.heap.size (fun _=>True) u211002 x211002_2) ∧ Aside0 (wc.heap[gb210]?=some (.cells #[.int .i64 x211000_2,.int .i64 x211001_2,u211002] 37 (0,0))) ∧ Aside0 (Below w.heap.size w wc))
          case first =>
           have H:=HC41.out
           clear HC41
           replace H:=Option.bind_eq_some_iff.mp H
           obtain ⟨t217,A430,H⟩:=H
           replace H:(if t217=true then ((rf_GaugeText.f k2 x211000_2 x211001_2 x211002_2).bind fun t218=>(if 0 ≤ x8_1 then (if x8_1 < (t197.length:Int) then (if (rdOf ByteArray.empty t197 x8_1).size + 1 ≤ 9223372036854775807 then (rf_ReadGauge.j4 k2 t197 x7_1 x8_1 (t218.toList != ((rdOf ByteArray.empty t197 x8_1) ++ (⟨#[10]⟩:ByteArray)).toList) x211000_2 x211001_2 x211002_2) else (none)) else (none)) else (none))) else (rf_ReadGauge.j4 k2 t197 x7_1 x8_1 true x211000_2 x211001_2 x211002_2))=some (r1,r2,r3):=H
           have A43:=Aside0.mk A430
           clear A430
           by_cases c44:t217=true
           ·subst c44
            have H1:((rf_GaugeText.f k2 x211000_2 x211001_2 x211002_2).bind fun t218=>(if 0 ≤ x8_1 then (if x8_1 < (t197.length:Int) then (if (rdOf ByteArray.empty t197 x8_1).size + 1 ≤ 9223372036854775807 then (rf_ReadGauge.j4 k2 t197 x7_1 x8_1 (t218.toList != ((rdOf ByteArray.empty t197 x8_1) ++ (⟨#[10]⟩:ByteArray)).toList) x211000_2 x211001_2 x211002_2) else (none)) else (none)) else (none)))=some (r1,r2,r3):=by rw [if_pos rfl] at H;exact H
            clear H
            have H:=H1
            clear H1
            replace H:=Option.bind_eq_some_iff.mp H
            obtain ⟨t218,A450,H⟩:=H
            replace H:(if 0 ≤ x8_1 then (if x8_1 < (t197.length:Int) then (if (rdOf ByteArray.empty t197 x8_1).size + 1 ≤ 9223372036854775807 then (rf_ReadGauge.j4 k2 t197 x7_1 x8_1 (t218.toList != ((rdOf ByteArray.empty t197 x8_1) ++ (⟨#[10]⟩:ByteArray)).toList) x211000_2 x211001_2 x211002_2) else (none)) else (none)) else (none))=some (r1,r2,r3):=H
            have A45:=Aside0.mk A450
            clear A450
            by_cases c46:0 ≤ x8_1
            ·rw [if_pos c46] at H
             have c46b0:decide (0 ≤ x8_1)=true:=decide_eq_true c46
             clear c46
             (first | rw [c46b0] | (simp only [i64_w,i32_w];rw [c46b0]) | skip)
             by_cases c47:x8_1 < (t197.length:Int)
             ·rw [if_pos c47] at H
              have c47b0:decide (x8_1 < (t197.length:Int))=true:=decide_eq_true c47
              clear c47
              by_cases c48:(rdOf ByteArray.empty t197 x8_1).size + 1 ≤ 9223372036854775807
              ·rw [if_pos c48] at H
               have c48b0:=eq_true c48
               have c48b1:decide ((rdOf ByteArray.empty t197 x8_1).size + 1 ≤ 9223372036854775807)=true:=decide_eq_true c48
               try have c48b2:(9223372036854775807 < (rdOf ByteArray.empty t197 x8_1).size + 1)=False:=eq_false (Nat.not_lt.2 c48)
               have H':=Aside0.mk H
               clear H
               try go_wp2
               have n0_:=Aside0.mk (Kd.R_drew HO_5.out)
               have n1_:=Aside0.mk (Kd.S_drew HO_7.out)
               have n2_:=Aside0.mk (Kd.R_drew HO_10.out)
               have n3_:=Aside0.mk (Kd.R_drew HO_211002.out)
               have n4_:=Aside0.mk (blk_drew BK210.out)
               have n5_:=Aside0.mk (below_drew1 HB.out)
               clear HO_5
               clear HO_7
               clear HO_10
               clear HO_211002
               clear BK210
               clear HB
               have HO_5:=n0_
               have HO_7:=n1_
               have HO_10:=n2_
               have HO_211002:=n3_
               have BK210:=n4_
               have HB:=n5_
               clear n0_ n1_ n2_ n3_ n4_ n5_
               obtain ⟨Ao50,co50,eo50⟩:=Kd.R_slice HO_211002.out
               (first | subst eo50 | (injection eo50 with f1_ f2_ f3_;have f4_:=f1_.symm;have f5_:=f3_.symm;clear f1_ f2_ f3_;subst f4_;subst f5_))
               have p219:0 ≤ (x8_1:Int):=of_decide_eq_true (by first | (with_reducible assumption) | assumption)
               have q219:x8_1 < (t197.length:Int):=of_decide_eq_true (by first | (with_reducible assumption) | assumption)
               obtain ⟨ad219,e219,hx219_0⟩:=Kd.at_string (Kd.R_reads' HO_5.out).2.2 x8_1 p219 q219
               obtain rfl:ad204=ad219:=(by injection e219)
               replace p219:=eq_true p219
               replace q219:=eq_true q219
               refine start_ (n:=13) (S:=fun w'=>w'.cell? ⟨gb210,0,none⟩=some (.int .i64 x211000_2) ∧ w'.cell? ⟨gb210,1,none⟩=some (.int .i64 x211001_2) ∧ w'.cell? ⟨gb210,2,none⟩=some (.slice Ao50 x211002_2.length co50) ∧ w'.cell? (ad204.add (x8_1).toNat)=some (.string (rdOf ByteArray.empty t197 x8_1))) (ds:=[]) #[false,false,false,false,false,false,false,false,false,false,false,false,false] (by kernel_rfl) rfl rfl ⟨(blk_cell BK210.out 0).trans rfl,(blk_cell BK210.out 1).trans rfl,(blk_cell BK210.out 2).trans rfl,hx219_0⟩ (fun hHeld=>?_);refine with_tabW rf_ReadGauge.tab28 rf_ReadGauge.bits28 (fun HT_ HW_=>?_)
               generalize wr.drew=w49 at HO_5 HO_7 HO_10 HO_211002 BK210 HB hx219_0 hHeld ⊢
               refine take_ (i:=0) (N:=some 94) (v:=?_) (a':=?_) #[true,false,false,false,false,false,false,false,false,false,false,false,false] rfl rfl (take_ofW HT_.out HW_.out (by kernel_rfl)) (fun _ _ _ h=>h) (Or.inl ⟨by rfl,?_⟩) hHeld ?_ ?_
               rotate_left
               ·rintro w' ⟨s0,s1,s2,s3⟩
                go_simp
                with_reducible rfl
               rotate_left
               ·simp only [Act.put,xsA,xsZ,xsS,i64_w,i32_w]
                rfl
               refine one_ (i:=1) (N:=some 95) #[true,true,false,false,false,false,false,false,false,false,false,false,false] rfl rfl (one_of HT_.out (by kernel_rfl)) (by decide) (fun K hK=>?_)
               refine goes_ Tryz.func36 (by kernel_rfl) rfl #[.agg #[.int .i64 x211000_2,.int .i64 x211001_2,.slice Ao50 x211002_2.length co50]] (by rfl) rfl rfl (by (try simp only [List.map_toArray,List.map_cons,List.map_nil]);first | done | rfl | (simp only [List.length_drop,List.length_take];rfl)) ?_
               with_reducible refine (rf_Gauge.calls k2 x211000_2 x211001_2 _ _ x211002_2 true _ ?side1 ?side2 A43.out).mono ?_
               (case side1=>repeat (first | exact (Kd.R_reads' HO_211002.out).2.2 | (with_reducible refine Kd.C_alloc ?_ _) | (with_reducible refine Kd.C_drewN ?_ _) | (with_reducible refine Kd.C_drew ?_)))
               (case side2=>exact (Kd.R_reads' HO_211002.out).2.1)
               rintro e w51 ⟨rfl,hb⟩
               have HS3_:=(hb.cell (xbl _ _ (hHeld.2.2.2))).trans (hHeld.2.2.2)
               refine ⟨_,rfl,?_⟩
               have n0_:=Aside0.mk (Kd.R_below (by (with_reducible repeat (first | apply Kd.R_alloc | apply Kd.R_drewN | apply Kd.R_drew));exact HO_5.out) hb)
               have n1_:=Aside0.mk (Kd.S_below (by (with_reducible repeat (first | apply Kd.S_alloc | apply Kd.S_drewN | apply Kd.S_drew));exact HO_7.out) hb)
               have n2_:=Aside0.mk (Kd.R_below (by (with_reducible repeat (first | apply Kd.R_alloc | apply Kd.R_drewN | apply Kd.R_drew));exact HO_10.out) hb)
               have n3_:=Aside0.mk (Kd.R_below (by (with_reducible repeat (first | apply Kd.R_alloc | apply Kd.R_drewN | apply Kd.R_drew));exact HO_211002.out) hb)
               have n4_:=Aside0.mk (blk_below (g:=gb210) (o:=.cells #[.int .i64 x211000_2,.int .i64 x211001_2,.slice Ao50 x211002_2.length co50] 37 (0,0)) (by (with_reducible repeat (first | refine blk_drewN ?_ _ | refine blk_drew ?_ | refine blk_alloc ?_ _));exact BK210.out) hb)
               have n5_:=Aside0.mk (below_step (by repeat (first | (with_reducible first | exact HB.out | apply below_alloc | apply pw_below_drewN | apply below_drew1 | refine below_set ?_ GE210.out) | exact HB.out)) hb)
               clear HO_5
               clear HO_7
               clear HO_10
               clear HO_211002
               clear BK210
               clear HB
               have HO_5:=n0_
               have HO_7:=n1_
               have HO_10:=n2_
               have HO_211002:=n3_
               have BK210:=n4_
               have HB:=n5_
               clear n0_ n1_ n2_ n3_ n4_ n5_
               (try clear hb)
               (try clear hb2)
               (try clear hk)
               (try clear hi)
               refine hK.out _ _ ⟨(blk_cell BK210.out 0).trans rfl,(blk_cell BK210.out 1).trans rfl,(blk_cell BK210.out 2).trans rfl,HS3_⟩ (fun hHeld=>?_)
               clear hK K
               refine norm_ (a':=?_) ?_ ?_
               rotate_left
               ·show Act.put _ (some 95) _=_
                simp only [Act.put,xsA,xsZ,xsS,i64_w,i32_w]
                rfl
               refine pure_ (i:=2) (N:=some 96) (v:=?_) (a':=?_) #[true,true,true,false,false,false,false,false,false,false,false,false,false] rfl rfl (any_of HT_.out (by kernel_rfl)) (fun _ _ _ h=>h) (Or.inl ⟨by rfl,?_⟩) ?_ ?_
               rotate_left
               ·intro w'
                go_simp
                with_reducible rfl
               rotate_left
               ·simp only [Act.put,xsA,xsZ,xsS,i64_w,i32_w]
                rfl
               refine pure_ (i:=3) (N:=some 97) (v:=?_) (a':=?_) #[true,true,true,true,false,false,false,false,false,false,false,false,false] rfl rfl (any_of HT_.out (by kernel_rfl)) (fun _ _ _ h=>h) (Or.inl ⟨by rfl,?_⟩) ?_ ?_
               rotate_left
               ·intro w'
                go_simp
                with_reducible rfl
               rotate_left
               ·simp only [Act.put,xsA,xsZ,xsS,i64_w,i32_w]
                rfl
               refine pure_ (i:=6) (N:=some 100) (v:=?_) (a':=?_) #[true,true,true,true,false,false,true,false,false,false,false,false,false] rfl rfl (any_of HT_.out (by kernel_rfl)) (fun _ _ _ h=>h) (Or.inl ⟨by rfl,?_⟩) ?_ ?_
               rotate_left
               ·intro w'
                go_simp
                with_reducible rfl
               rotate_left
               ·simp only [Act.put,xsA,xsZ,xsS,i64_w,i32_w]
                rfl
               refine pure_ (i:=7) (N:=some 101) (v:=?_) (a':=?_) #[true,true,true,true,false,false,true,true,false,false,false,false,false] rfl rfl (any_of HT_.out (by kernel_rfl)) (fun _ _ _ h=>h) (Or.inl ⟨by rfl,?_⟩) ?_ ?_
               rotate_left
               ·intro w'
                go_simp
                with_reducible rfl
               rotate_left
               ·simp only [Act.put,xsA,xsZ,xsS,i64_w,i32_w]
                rfl
               refine pure_ (i:=8) (N:=some 102) (v:=?_) (a':=?_) #[true,true,true,true,false,false,true,true,true,false,false,false,false] rfl rfl (any_of HT_.out (by kernel_rfl)) (fun _ _ _ h=>h) (Or.inl ⟨by rfl,?_⟩) ?_ ?_
               rotate_left
               ·intro w'
                go_simp
                with_reducible rfl
               rotate_left
               ·simp only [Act.put,xsA,xsZ,xsS,i64_w,i32_w]
                rfl
               refine take_ (i:=4) (N:=some 98) (v:=?_) (a':=?_) #[true,true,true,true,true,false,true,true,true,false,false,false,false] rfl rfl (take_ofW HT_.out HW_.out (by kernel_rfl)) (fun _ _ _ h=>h) (Or.inl ⟨by rfl,?_⟩) hHeld ?_ ?_
               rotate_left
               ·rintro w' ⟨s0,s1,s2,s3⟩
                go_simp
                with_reducible rfl
               rotate_left
               ·simp only [Act.put,xsA,xsZ,xsS,i64_w,i32_w]
                rfl
               refine take_ (i:=9) (N:=some 103) (v:=?_) (a':=?_) #[true,true,true,true,true,false,true,true,true,true,false,false,false] rfl rfl (take_ofW HT_.out HW_.out (by kernel_rfl)) (fun _ _ _ h=>h) (Or.inl ⟨by rfl,?_⟩) hHeld ?_ ?_
               rotate_left
               ·rintro w' ⟨s0,s1,s2,s3⟩
                go_simp
                with_reducible rfl
               rotate_left
               ·simp only [Act.put,xsA,xsZ,xsS,i64_w,i32_w]
                rfl
               refine pure_ (i:=10) (N:=some 104) (v:=?_) (a':=?_) #[true,true,true,true,true,false,true,true,true,true,true,false,false] rfl rfl (any_of HT_.out (by kernel_rfl)) (fun _ _ _ h=>h) (Or.inl ⟨by rfl,?_⟩) ?_ ?_
               rotate_left
               ·intro w'
                go_simp
                with_reducible rfl
               rotate_left
               ·simp only [Act.put,xsA,xsZ,xsS,i64_w,i32_w]
                rfl
               refine one_ (i:=5) (N:=some 99) #[true,true,true,true,true,true,true,true,true,true,true,false,false] rfl rfl (one_of HT_.out (by kernel_rfl)) (by decide) (fun K hK=>?_)
               refine goes_ Tryz.func38 (by kernel_rfl) rfl #[.agg #[.int .i64 x211000_2,.int .i64 x211001_2,.slice Ao50 x211002_2.length co50]] (by rfl) rfl rfl (by (try simp only [List.map_toArray,List.map_cons,List.map_nil]);first | done | rfl | (simp only [List.length_drop,List.length_take];rfl)) ?_
               with_reducible refine (rf_GaugeText.calls k2 x211000_2 x211001_2 _ _ x211002_2 t218 _ ?side1 ?side2 A45.out).mono ?_
               (case side1=>repeat (first | exact (Kd.R_reads' HO_211002.out).2.2 | (with_reducible refine Kd.C_alloc ?_ _) | (with_reducible refine Kd.C_drewN ?_ _) | (with_reducible refine Kd.C_drew ?_)))
               (case side2=>exact (Kd.R_reads' HO_211002.out).2.1)
               rintro e w52 ⟨rfl,hb⟩
               have HS3_:=(hb.cell (xbl _ _ (hHeld.2.2.2))).trans (hHeld.2.2.2)
               refine ⟨_,rfl,?_⟩
               have n0_:=Aside0.mk (Kd.R_below (by (with_reducible repeat (first | apply Kd.R_alloc | apply Kd.R_drewN | apply Kd.R_drew));exact HO_5.out) hb)
               have n1_:=Aside0.mk (Kd.S_below (by (with_reducible repeat (first | apply Kd.S_alloc | apply Kd.S_drewN | apply Kd.S_drew));exact HO_7.out) hb)
               have n2_:=Aside0.mk (Kd.R_below (by (with_reducible repeat (first | apply Kd.R_alloc | apply Kd.R_drewN | apply Kd.R_drew));exact HO_10.out) hb)
               have n3_:=Aside0.mk (Kd.R_below (by (with_reducible repeat (first | apply Kd.R_alloc | apply Kd.R_drewN | apply Kd.R_drew));exact HO_211002.out) hb)
               have n4_:=Aside0.mk (blk_below (g:=gb210) (o:=.cells #[.int .i64 x211000_2,.int .i64 x211001_2,.slice Ao50 x211002_2.length co50] 37 (0,0)) (by (with_reducible repeat (first | refine blk_drewN ?_ _ | refine blk_drew ?_ | refine blk_alloc ?_ _));exact BK210.out) hb)
               have n5_:=Aside0.mk (below_step (by repeat (first | (with_reducible first | exact HB.out | apply below_alloc | apply pw_below_drewN | apply below_drew1 | refine below_set ?_ GE210.out) | exact HB.out)) hb)
               clear HO_5
               clear HO_7
               clear HO_10
               clear HO_211002
               clear BK210
               clear HB
               have HO_5:=n0_
               have HO_7:=n1_
               have HO_10:=n2_
               have HO_211002:=n3_
               have BK210:=n4_
               have HB:=n5_
               clear n0_ n1_ n2_ n3_ n4_ n5_
               (try clear hb)
               (try clear hb2)
               (try clear hk)
               (try clear hi)
               refine hK.out _ _ ⟨(blk_cell BK210.out 0).trans rfl,(blk_cell BK210.out 1).trans rfl,(blk_cell BK210.out 2).trans rfl,HS3_⟩ (fun hHeld=>?_)
               clear hK K
               refine norm_ (a':=?_) ?_ ?_
               rotate_left
               ·show Act.put _ (some 99) _=_
                simp only [Act.put,xsA,xsZ,xsS,i64_w,i32_w]
                rfl
               refine pure_ (i:=11) (N:=some 105) (v:=?_) (a':=?_) #[true,true,true,true,true,true,true,true,true,true,true,true,false] rfl rfl (any_of HT_.out (by kernel_rfl)) (fun _ _ _ h=>h) (Or.inl ⟨by rfl,?_⟩) ?_ ?_
               rotate_left
               ·intro w'
                go_simp
                with_reducible rfl
               rotate_left
               ·simp only [Act.put,xsA,xsZ,xsS,i64_w,i32_w]
                rfl
               refine pure_ (i:=12) (N:=some 106) (v:=?_) (a':=?_) #[true,true,true,true,true,true,true,true,true,true,true,true,true] rfl rfl (any_of HT_.out (by kernel_rfl)) (fun _ _ _ h=>h) (Or.inl ⟨by rfl,?_⟩) ?_ ?_
               rotate_left
               ·intro w'
                go_simp
                with_reducible rfl
               rotate_left
               ·simp only [Act.put,xsA,xsZ,xsS,i64_w,i32_w]
                rfl
               refine done_ (done_of HT_.out (by kernel_rfl)) ?_
               try go_wp2
               go_meet
               case rel=>exact ⟨_,((t218.toList != ((rdOf ByteArray.empty t197 x8_1) ++ (⟨#[10]⟩:ByteArray)).toList)),(by first | rfl | (simp;done) | (simp [*];done)),H',⟨by have:=HK1.out;have:=HK2.out;first | omega | exact Nat.le_refl _⟩,⟨by (with_reducible repeat (first | apply Kd.R_alloc | apply Kd.R_drewN | apply Kd.R_drew));exact Kd.R_mono HO_5.out (fun _ hk=>trivial)⟩,⟨by (with_reducible repeat (first | apply Kd.S_alloc | apply Kd.S_drewN | apply Kd.S_drew));exact HO_7.out⟩,⟨by (with_reducible repeat (first | apply Kd.R_alloc | apply Kd.R_drewN | apply Kd.R_drew));exact HO_211002.out⟩,⟨by (with_reducible repeat (first | refine blk_drewN ?_ _ | refine blk_drew ?_ | refine blk_alloc ?_ _));exact BK210.out⟩,⟨by repeat (first | (with_reducible first | exact HB.out | apply below_alloc | apply pw_below_drewN | apply below_drew1 | refine below_set ?_ GE210.out) | exact HB.out)⟩⟩
              ·rw [if_neg c48] at H
               exact absurd H (by simp)
             ·rw [if_neg c47] at H
              exact absurd H (by simp)
            ·rw [if_neg c46] at H
             exact absurd H (by simp)
           ·replace c44:=Bool.eq_false_iff.mpr c44
            subst c44
            have H1:(rf_ReadGauge.j4 k2 t197 x7_1 x8_1 true x211000_2 x211001_2 x211002_2)=some (r1,r2,r3):=by rw [if_neg (show ¬ (false=true) by decide)] at H;exact H
            clear H
            have H:=H1
            clear H1
            have H':=Aside0.mk H
            clear H
            try go_wp2
            have n0_:=Aside0.mk (Kd.R_drew HO_5.out)
            have n1_:=Aside0.mk (Kd.S_drew HO_7.out)
            have n2_:=Aside0.mk (Kd.R_drew HO_10.out)
            have n3_:=Aside0.mk (Kd.R_drew HO_211002.out)
            have n4_:=Aside0.mk (blk_drew BK210.out)
            have n5_:=Aside0.mk (below_drew1 HB.out)
            clear HO_5
            clear HO_7
            clear HO_10
            clear HO_211002
            clear BK210
            clear HB
            have HO_5:=n0_
            have HO_7:=n1_
            have HO_10:=n2_
            have HO_211002:=n3_
            have BK210:=n4_
            have HB:=n5_
            clear n0_ n1_ n2_ n3_ n4_ n5_
            obtain ⟨Ao54,co54,eo54⟩:=Kd.R_slice HO_211002.out
            (first | subst eo54 | (injection eo54 with f1_ f2_ f3_;have f4_:=f1_.symm;have f5_:=f3_.symm;clear f1_ f2_ f3_;subst f4_;subst f5_))
            refine start_ (n:=13) (S:=fun w'=>w'.cell? ⟨gb210,0,none⟩=some (.int .i64 x211000_2) ∧ w'.cell? ⟨gb210,1,none⟩=some (.int .i64 x211001_2) ∧ w'.cell? ⟨gb210,2,none⟩=some (.slice Ao54 x211002_2.length co54)) (ds:=[]) #[false,false,false,false,false,false,false,false,false,false,false,false,false] (by kernel_rfl) rfl rfl ⟨(blk_cell BK210.out 0).trans rfl,(blk_cell BK210.out 1).trans rfl,(blk_cell BK210.out 2).trans rfl⟩ (fun hHeld=>?_);refine with_tabW rf_ReadGauge.tab28 rf_ReadGauge.bits28 (fun HT_ HW_=>?_)
            generalize wr.drew=w53 at HO_5 HO_7 HO_10 HO_211002 BK210 HB hHeld ⊢
            refine take_ (i:=0) (N:=some 94) (v:=?_) (a':=?_) #[true,false,false,false,false,false,false,false,false,false,false,false,false] rfl rfl (take_ofW HT_.out HW_.out (by kernel_rfl)) (fun _ _ _ h=>h) (Or.inl ⟨by rfl,?_⟩) hHeld ?_ ?_
            rotate_left
            ·rintro w' ⟨s0,s1,s2⟩
             go_simp
             with_reducible rfl
            rotate_left
            ·simp only [Act.put,xsA,xsZ,xsS,i64_w,i32_w]
             rfl
            refine one_ (i:=1) (N:=some 95) #[true,true,false,false,false,false,false,false,false,false,false,false,false] rfl rfl (one_of HT_.out (by kernel_rfl)) (by decide) (fun K hK=>?_)
            refine goes_ Tryz.func36 (by kernel_rfl) rfl #[.agg #[.int .i64 x211000_2,.int .i64 x211001_2,.slice Ao54 x211002_2.length co54]] (by rfl) rfl rfl (by (try simp only [List.map_toArray,List.map_cons,List.map_nil]);first | done | rfl | (simp only [List.length_drop,List.length_take];rfl)) ?_
            with_reducible refine (rf_Gauge.calls k2 x211000_2 x211001_2 _ _ x211002_2 false _ ?side1 ?side2 A43.out).mono ?_
            (case side1=>repeat (first | exact (Kd.R_reads' HO_211002.out).2.2 | (with_reducible refine Kd.C_alloc ?_ _) | (with_reducible refine Kd.C_drewN ?_ _) | (with_reducible refine Kd.C_drew ?_)))
            (case side2=>exact (Kd.R_reads' HO_211002.out).2.1)
            rintro e w55 ⟨rfl,hb⟩
            refine ⟨_,rfl,?_⟩
            have n0_:=Aside0.mk (Kd.R_below (by (with_reducible repeat (first | apply Kd.R_alloc | apply Kd.R_drewN | apply Kd.R_drew));exact HO_5.out) hb)
            have n1_:=Aside0.mk (Kd.S_below (by (with_reducible repeat (first | apply Kd.S_alloc | apply Kd.S_drewN | apply Kd.S_drew));exact HO_7.out) hb)
            have n2_:=Aside0.mk (Kd.R_below (by (with_reducible repeat (first | apply Kd.R_alloc | apply Kd.R_drewN | apply Kd.R_drew));exact HO_10.out) hb)
            have n3_:=Aside0.mk (Kd.R_below (by (with_reducible repeat (first | apply Kd.R_alloc | apply Kd.R_drewN | apply Kd.R_drew));exact HO_211002.out) hb)
            have n4_:=Aside0.mk (blk_below (g:=gb210) (o:=.cells #[.int .i64 x211000_2,.int .i64 x211001_2,.slice Ao54 x211002_2.length co54] 37 (0,0)) (by (with_reducible repeat (first | refine blk_drewN ?_ _ | refine blk_drew ?_ | refine blk_alloc ?_ _));exact BK210.out) hb)
            have n5_:=Aside0.mk (below_step (by repeat (first | (with_reducible first | exact HB.out | apply below_alloc | apply pw_below_drewN | apply below_drew1 | refine below_set ?_ GE210.out) | exact HB.out)) hb)
            clear HO_5
            clear HO_7
            clear HO_10
            clear HO_211002
            clear BK210
            clear HB
            have HO_5:=n0_
            have HO_7:=n1_
            have HO_10:=n2_
            have HO_211002:=n3_
            have BK210:=n4_
            have HB:=n5_
            clear n0_ n1_ n2_ n3_ n4_ n5_
            (try clear hb)
            (try clear hb2)
            (try clear hk)
            (try clear hi)
            refine hK.out _ _ ⟨(blk_cell BK210.out 0).trans rfl,(blk_cell BK210.out 1).trans rfl,(blk_cell BK210.out 2).trans rfl⟩ (fun hHeld=>?_)
            clear hK K
            refine norm_ (a':=?_) ?_ ?_
            rotate_left
            ·show Act.put _ (some 95) _=_
             simp only [Act.put,xsA,xsZ,xsS,i64_w,i32_w]
             rfl
            refine pure_ (i:=2) (N:=some 96) (v:=?_) (a':=?_) #[true,true,true,false,false,false,false,false,false,false,false,false,false] rfl rfl (any_of HT_.out (by kernel_rfl)) (fun _ _ _ h=>h) (Or.inl ⟨by rfl,?_⟩) ?_ ?_
            rotate_left
            ·intro w'
             go_simp
             with_reducible rfl
            rotate_left
            ·simp only [Act.put,xsA,xsZ,xsS,i64_w,i32_w]
             rfl
            refine pure_ (i:=3) (N:=some 97) (v:=?_) (a':=?_) #[true,true,true,true,false,false,false,false,false,false,false,false,false] rfl rfl (any_of HT_.out (by kernel_rfl)) (fun _ _ _ h=>h) (Or.inl ⟨by rfl,?_⟩) ?_ ?_
            rotate_left
            ·intro w'
             go_simp
             with_reducible rfl
            rotate_left
            ·simp only [Act.put,xsA,xsZ,xsS,i64_w,i32_w]
             rfl
            refine pure_ (i:=4) (N:=some 98) (v:=undef) (a':=?_) #[true,true,true,true,true,false,false,false,false,false,false,false,false] rfl rfl (any_of HT_.out (by kernel_rfl)) (fun _ _ _ h=>h) (Or.inr ⟨by rfl,rfl⟩) ?_ ?_
            rotate_left
            ·simp only [Act.put,xsA,xsZ,xsS,i64_w,i32_w]
             rfl
            refine pure_ (i:=5) (N:=some 99) (v:=undef) (a':=?_) #[true,true,true,true,true,true,false,false,false,false,false,false,false] rfl rfl (any_of HT_.out (by kernel_rfl)) (fun _ _ _ h=>h) (Or.inr ⟨by rfl,rfl⟩) ?_ ?_
            rotate_left
            ·simp only [Act.put,xsA,xsZ,xsS,i64_w,i32_w]
             rfl
            refine pure_ (i:=6) (N:=some 100) (v:=undef) (a':=?_) #[true,true,true,true,true,true,true,false,false,false,false,false,false] rfl rfl (any_of HT_.out (by kernel_rfl)) (fun _ _ _ h=>h) (Or.inr ⟨by rfl,rfl⟩) ?_ ?_
            rotate_left
            ·simp only [Act.put,xsA,xsZ,xsS,i64_w,i32_w]
             rfl
            refine pure_ (i:=7) (N:=some 101) (v:=undef) (a':=?_) #[true,true,true,true,true,true,true,true,false,false,false,false,false] rfl rfl (any_of HT_.out (by kernel_rfl)) (fun _ _ _ h=>h) (Or.inr ⟨by rfl,rfl⟩) ?_ ?_
            rotate_left
            ·simp only [Act.put,xsA,xsZ,xsS,i64_w,i32_w]
             rfl
            refine pure_ (i:=8) (N:=some 102) (v:=undef) (a':=?_) #[true,true,true,true,true,true,true,true,true,false,false,false,false] rfl rfl (any_of HT_.out (by kernel_rfl)) (fun _ _ _ h=>h) (Or.inr ⟨by rfl,rfl⟩) ?_ ?_
            rotate_left
            ·simp only [Act.put,xsA,xsZ,xsS,i64_w,i32_w]
             rfl
            refine pure_ (i:=9) (N:=some 103) (v:=undef) (a':=?_) #[true,true,true,true,true,true,true,true,true,true,false,false,false] rfl rfl (any_of HT_.out (by kernel_rfl)) (fun _ _ _ h=>h) (Or.inr ⟨by rfl,rfl⟩) ?_ ?_
            rotate_left
            ·simp only [Act.put,xsA,xsZ,xsS,i64_w,i32_w]
             rfl
            refine pure_ (i:=10) (N:=some 104) (v:=undef) (a':=?_) #[true,true,true,true,true,true,true,true,true,true,true,false,false] rfl rfl (any_of HT_.out (by kernel_rfl)) (fun _ _ _ h=>h) (Or.inr ⟨by rfl,rfl⟩) ?_ ?_
            rotate_left
            ·simp only [Act.put,xsA,xsZ,xsS,i64_w,i32_w]
             rfl
            refine pure_ (i:=11) (N:=some 105) (v:=undef) (a':=?_) #[true,true,true,true,true,true,true,true,true,true,true,true,false] rfl rfl (any_of HT_.out (by kernel_rfl)) (fun _ _ _ h=>h) (Or.inr ⟨by rfl,rfl⟩) ?_ ?_
            rotate_left
            ·simp only [Act.put,xsA,xsZ,xsS,i64_w,i32_w]
             rfl
            refine pure_ (i:=12) (N:=some 106) (v:=?_) (a':=?_) #[true,true,true,true,true,true,true,true,true,true,true,true,true] rfl rfl (any_of HT_.out (by kernel_rfl)) (fun _ _ _ h=>h) (Or.inl ⟨by rfl,?_⟩) ?_ ?_
            rotate_left
            ·intro w'
             go_simp
             with_reducible rfl
            rotate_left
            ·simp only [Act.put,xsA,xsZ,xsS,i64_w,i32_w]
             rfl
            refine done_ (done_of HT_.out (by kernel_rfl)) ?_
            try go_wp2
            go_meet
            case rel=>exact ⟨_,(true),(by first | rfl | (simp;done) | (simp [*];done)),H',⟨by have:=HK1.out;have:=HK2.out;first | omega | exact Nat.le_refl _⟩,⟨by (with_reducible repeat (first | apply Kd.R_alloc | apply Kd.R_drewN | apply Kd.R_drew));exact Kd.R_mono HO_5.out (fun _ hk=>trivial)⟩,⟨by (with_reducible repeat (first | apply Kd.S_alloc | apply Kd.S_drewN | apply Kd.S_drew));exact HO_7.out⟩,⟨by (with_reducible repeat (first | apply Kd.R_alloc | apply Kd.R_drewN | apply Kd.R_drew));exact HO_211002.out⟩,⟨by (with_reducible repeat (first | refine blk_drewN ?_ _ | refine blk_drew ?_ | refine blk_alloc ?_ _));exact BK210.out⟩,⟨by repeat (first | (with_reducible first | exact HB.out | apply below_alloc | apply pw_below_drewN | apply below_drew1 | refine below_set ?_ GE210.out) | exact HB.out)⟩⟩
          case rest =>
           clear HC41
           try clear c1
           try clear c2
           try clear p2
           try clear q2
           try clear hx2
           try clear qi2
           try clear c3
           try clear c3b0
           try clear c3b1
           try clear c4
           try clear p6
           try clear c7
           try clear c7b0
           try clear c8
           try clear c8b0
           try clear c10
           try clear c10b0
           try clear c10b1
           try clear c16
           try clear c17
           try clear c17b0
           try clear c18
           try clear c18b0
           try clear c19
           try clear c19b0
           try clear p20
           try clear q20
           try clear hx20
           try clear p21
           try clear q21
           try clear hx21
           try clear c23
           try clear c23b0
           try clear c25
           try clear c26
           try clear c26b0
           try clear c26b1
           try clear p27
           try clear q27
           try clear hx27
           try clear qi27
           try clear c28
           try clear c28b0
           try clear c28b1
           try clear c29
           try clear c29b0
           try clear c29b1
           try clear c30
           try clear c30b0
           try clear c30b1
           try clear c31
           try clear c32
           try clear c32b0
           try clear c32b1
           try clear c34
           try clear c34b0
           try clear c34b1
           try clear c36
           try clear c38
           try clear c44
           try clear c46
           try clear c46b0
           try clear c47
           try clear c47b0
           try clear c48
           try clear c48b0
           try clear c48b1
           try clear c48b2
           try clear hcz16_0
           try clear hcz16_1
           try clear hcz16_2
           try clear hcz33_0
           try clear hcz33_1
           try clear hcz33_2
           try clear hcz35_0
           try clear hcz35_1
           try clear hcz35_2
           try clear hcz37_0
           try clear hcz37_1
           try clear hcz37_2
           try clear hcz40_0
           try clear hcz40_1
           try clear hcz40_2
           try clear hfz16_0
           try clear hfz16_1
           try clear hfz16_2
           try clear hfz33_0
           try clear hfz33_1
           try clear hfz33_2
           try clear hfz35_0
           try clear hfz35_1
           try clear hfz35_2
           try clear hfz37_0
           try clear hfz37_1
           try clear hfz37_2
           try clear hfz40_0
           try clear hfz40_1
           try clear hfz40_2
           try clear hx204_0
           try clear hx206_0
           try clear hx211_0
           try clear hx219_0
           try clear p2
           try clear p20
           try clear p204
           try clear p206
           try clear p21
           try clear p211
           try clear p219
           try clear p27
           try clear p6
           try clear q2
           try clear q20
           try clear q204
           try clear q206
           try clear q21
           try clear q211
           try clear q219
           try clear q27
           obtain ⟨kq,x106_40,rfl,HA,HJ40,HO_5,HO_7,HO_211002,BK210,HB⟩:=hcut
           cases kq with
           | zero=>exact absurd HA.out (by simp [rf_ReadGauge.j4])
           | succ kj40 =>
            have H:=HA.out
            clear HA
            simp only [rf_ReadGauge.j4] at H
            by_cases c56:x106_40=true
            ·subst c56
             have H1:(some (([]:List (S37)),x8_1,4))=some (r1,r2,r3):=by rw [if_pos rfl] at H;exact H
             clear H
             have H:=H1
             clear H1
             simp only [Option.some.injEq,Prod.mk.injEq] at H
             obtain ⟨rfl,rfl,rfl⟩:=H
             go_wp2
             go_ret3
             exact ⟨_,by first | rfl | (simp [errW_none,errW_some] <;> rfl) | (simp [*,errW_none,errW_some] <;> rfl),by first | exact Kd.S_nil _ _ _ _ _ | exact Kd.N_nil _ _ _ _ _ | exact Kd.V_nil _ _ _ _ _ | exact Kd.Q_nil _ _ _ _ _ | exact Kd.R_nil _ _ _ _ _,by repeat (first | (with_reducible first | exact HB.out | apply below_alloc | apply pw_below_drewN | apply below_drew1 | refine below_set ?_ GE210.out) | exact HB.out)⟩
            ·replace c56:=Bool.eq_false_iff.mpr c56
             subst c56
             have H1:(if x8_1 > 0 then (if 0 ≤ (wrap64 (x8_1 - 1)) then (if (wrap64 (x8_1 - 1)) < (x7_1.length:Int) then ((rf_GaugeAfter.f ((rd_T37 x7_1 (wrap64 (x8_1 - 1))).f0) ((rd_T37 x7_1 (wrap64 (x8_1 - 1))).f1) ((rd_T37 x7_1 (wrap64 (x8_1 - 1))).f2) x211000_2 x211001_2 x211002_2).bind fun t221=>(if t221=true then (if x7_1.length < 3518437208883 then (rf_ReadGauge.l0 kj40 t197 (x7_1 ++ [(⟨x211000_2,x211001_2,x211002_2⟩:S37)]) (wrap64 (x8_1 + 1))) else (none)) else (some (([]:List (S37)),x8_1,6)))) else (none)) else (none)) else (if x7_1.length < 3518437208883 then (rf_ReadGauge.l0 kj40 t197 (x7_1 ++ [(⟨x211000_2,x211001_2,x211002_2⟩:S37)]) (wrap64 (x8_1 + 1))) else (none)))=some (r1,r2,r3):=by rw [if_neg (show ¬ (false=true) by decide)] at H;exact H
             clear H
             have H:=H1
             clear H1
             by_cases c57:x8_1 > 0
             ·rw [if_pos c57] at H
              have c57b0:decide (0 < x8_1)=true:=decide_eq_true c57
              clear c57
              obtain ⟨ji58,hji58⟩:∃ j_:Int,(wrap64 (x8_1 - 1))=j_:=⟨_,rfl⟩
              replace H:(if 0 ≤ (ji58) then (if (ji58) < (x7_1.length:Int) then ((rf_GaugeAfter.f ((rd_T37 x7_1 (ji58)).f0) ((rd_T37 x7_1 (ji58)).f1) ((rd_T37 x7_1 (ji58)).f2) x211000_2 x211001_2 x211002_2).bind fun t221=>(if t221=true then (if x7_1.length < 3518437208883 then (rf_ReadGauge.l0 kj40 t197 (x7_1 ++ [(⟨x211000_2,x211001_2,x211002_2⟩:S37)]) (wrap64 (x8_1 + 1))) else (none)) else (some (([]:List (S37)),x8_1,6)))) else (none)) else (none))=some (r1,r2,r3):=by first | (rw [hji58] at H;exact H) | (simp only [hji58] at H ⊢;exact H)
              have hji58w:(IntKind.i64.wrap (x8_1 - 1))=ji58:=(i64_w _).trans hji58
              by_cases c59:0 ≤ (ji58)
              ·rw [if_pos c59] at H
               have c59b0:decide (0 ≤ (ji58))=true:=decide_eq_true c59
               clear c59
               by_cases c60:(ji58) < (x7_1.length:Int)
               ·rw [if_pos c60] at H
                have c60b0:decide ((ji58) < (x7_1.length:Int))=true:=decide_eq_true c60
                clear c60
                replace H:=Option.bind_eq_some_iff.mp H
                obtain ⟨t221,A610,H⟩:=H
                replace H:(if t221=true then (if x7_1.length < 3518437208883 then (rf_ReadGauge.l0 kj40 t197 (x7_1 ++ [(⟨x211000_2,x211001_2,x211002_2⟩:S37)]) (wrap64 (x8_1 + 1))) else (none)) else (some (([]:List (S37)),x8_1,6)))=some (r1,r2,r3):=H
                have A61:=Aside0.mk A610
                clear A610
                by_cases c62:t221=true
                ·subst c62
                 have H1:(if x7_1.length < 3518437208883 then (rf_ReadGauge.l0 kj40 t197 (x7_1 ++ [(⟨x211000_2,x211001_2,x211002_2⟩:S37)]) (wrap64 (x8_1 + 1))) else (none))=some (r1,r2,r3):=by rw [if_pos rfl] at H;exact H
                 clear H
                 have H:=H1
                 clear H1
                 by_cases c63:x7_1.length < 3518437208883
                 ·rw [if_pos c63] at H
                  have LMc63:=Aside0.mk c63
                  clear c63
                  obtain ⟨y222,hy222⟩:∃ y_:List (S37),y_=(x7_1 ++ [(⟨x211000_2,x211001_2,x211002_2⟩:S37)]):=⟨_,rfl⟩
                  replace H:(rf_ReadGauge.l0 kj40 t197 y222 (wrap64 (x8_1 + 1)))=some (r1,r2,r3):=by first | (rw [hy222];with_reducible exact H) | (have H2_:=(Option.bind_some _ _).symm.trans H;rw [hy222];with_reducible exact H2_) | (have H2_:=(Option.bind_some _ _).symm.trans H;with_reducible exact H2_) | with_reducible exact H | (rw [hy222];exact H) | exact H
                  have Ny222:=Aside0.mk hy222
                  clear hy222
                  have H':=Aside0.mk H
                  clear H
                  try go_wp2
                  have n0_:=Aside0.mk (Kd.R_drew HO_5.out)
                  have n1_:=Aside0.mk (Kd.S_drew HO_7.out)
                  have n2_:=Aside0.mk (Kd.R_drew HO_211002.out)
                  have n3_:=Aside0.mk (blk_drew BK210.out)
                  have n4_:=Aside0.mk (below_drew1 HB.out)
                  clear HO_5
                  clear HO_7
                  clear HO_211002
                  clear BK210
                  clear HB
                  have HO_5:=n0_
                  have HO_7:=n1_
                  have HO_211002:=n2_
                  have BK210:=n3_
                  have HB:=n4_
                  clear n0_ n1_ n2_ n3_ n4_
                  obtain ⟨Ao65,co65,eo65⟩:=Kd.S_slice HO_7.out
                  (first | subst eo65 | (injection eo65 with f1_ f2_ f3_;have f4_:=f1_.symm;have f5_:=f3_.symm;clear f1_ f2_ f3_;subst f4_;subst f5_))
                  have p220:0 ≤ ((ji58):Int):=of_decide_eq_true (by first | (with_reducible assumption) | assumption)
                  have q220:(ji58) < (x7_1.length:Int):=of_decide_eq_true (by first | (with_reducible assumption) | assumption)
                  obtain ⟨ad220,A220_2,c220_2,e220,hx220_0,hx220_1,hx220_2,hl220_2,hi220_2⟩:=at_T37 (Kd.S_reads' HO_7.out).2.2 (ji58) p220 q220
                  cases e220
                  obtain ⟨ce220,hce220,hMe220,hcc220⟩:=Kd.S_get HO_7.out z37 (ji58) p220 (by first | exact q220 | exact of_decide_eq_true (by first | (with_reducible assumption) | assumption) | (have e_:=(Kd.S_reads' HO_7.out).1;omega))
                  obtain ⟨ve220_2,rfl,ge220_2⟩:=k37_openM hMe220
                  have hv220_2:=hcc220 2 _ rfl
                  rw [add_field _ _ 2 (by omega)] at hv220_2
                  replace hv220_2:=Option.some.inj (hv220_2.symm.trans hx220_2)
                  rw [hv220_2] at ge220_2
                  have HL220_2:=Aside0.mk (show Kd.R (Kd.int .i64) 3 _ _ _ _ ((rd_T37 x7_1 (ji58)).f2) from ge220_2)
                  clear hv220_2 ge220_2
                  clear hcc220 hce220
                  have HR220_2:=Aside0.mk hi220_2
                  have HC220_2:=Aside0.mk hl220_2
                  clear hi220_2 hl220_2
                  replace p220:=eq_true p220
                  replace q220:=eq_true q220
                  obtain ⟨Ao66,co66,eo66⟩:=Kd.R_slice HO_211002.out
                  (first | subst eo66 | (injection eo66 with f1_ f2_ f3_;have f4_:=f1_.symm;have f5_:=f3_.symm;clear f1_ f2_ f3_;subst f4_;subst f5_))
                  refine start_ (n:=12) (S:=fun w'=>w'.cell? ⟨gb210,0,none⟩=some (.int .i64 x211000_2) ∧ w'.cell? ⟨gb210,1,none⟩=some (.int .i64 x211001_2) ∧ w'.cell? ⟨gb210,2,none⟩=some (.slice Ao66 x211002_2.length co66) ∧ w'.cell? (ad220.add (((ji58)).toNat * 3))=some (.int .i64 ((rd_T37 x7_1 (ji58)).f0)) ∧ w'.cell? ⟨(ad220.add (((ji58)).toNat * 3)).block,(ad220.add (((ji58)).toNat * 3)).off + 1,none⟩=some (.int .i64 ((rd_T37 x7_1 (ji58)).f1)) ∧ w'.cell? ⟨(ad220.add (((ji58)).toNat * 3)).block,(ad220.add (((ji58)).toNat * 3)).off + 2,none⟩=some (.slice A220_2 ((rd_T37 x7_1 (ji58)).f2).length c220_2)) (ds:=[]) #[false,false,false,false,false,false,false,false,false,false,false,false] (by kernel_rfl) rfl rfl ⟨(blk_cell BK210.out 0).trans rfl,(blk_cell BK210.out 1).trans rfl,(blk_cell BK210.out 2).trans rfl,hx220_0,hx220_1,hx220_2⟩ (fun hHeld=>?_);refine with_tabW rf_ReadGauge.tab30 rf_ReadGauge.bits30 (fun HT_ HW_=>?_)
                  generalize wc.drew=w64 at HO_5 HO_7 HO_211002 BK210 HB HL220_2 HR220_2 hx220_0 hx220_1 hx220_2 hHeld ⊢
                  refine pure_ (i:=0) (N:=some 108) (v:=?_) (a':=?_) #[true,false,false,false,false,false,false,false,false,false,false,false] rfl rfl (any_of HT_.out (by kernel_rfl)) (fun _ _ _ h=>h) (Or.inl ⟨by rfl,?_⟩) ?_ ?_
                  rotate_left
                  ·intro w'
                   go_simp
                   with_reducible rfl
                  rotate_left
                  ·simp only [Act.put,xsA,xsZ,xsS,i64_w,i32_w]
                   rfl
                  refine pure_ (i:=1) (N:=some 109) (v:=?_) (a':=?_) #[true,true,false,false,false,false,false,false,false,false,false,false] rfl rfl (any_of HT_.out (by kernel_rfl)) (fun _ _ _ h=>h) (Or.inl ⟨by rfl,?_⟩) ?_ ?_
                  rotate_left
                  ·intro w'
                   go_simp
                   with_reducible rfl
                  rotate_left
                  ·simp only [Act.put,xsA,xsZ,xsS,i64_w,i32_w]
                   rfl
                  refine pure_ (i:=2) (N:=some 110) (v:=?_) (a':=?_) #[true,true,true,false,false,false,false,false,false,false,false,false] rfl rfl (any_of HT_.out (by kernel_rfl)) (fun _ _ _ h=>h) (Or.inl ⟨by rfl,?_⟩) ?_ ?_
                  rotate_left
                  ·intro w'
                   go_simp
                   with_reducible rfl
                  rotate_left
                  ·simp only [Act.put,xsA,xsZ,xsS,i64_w,i32_w]
                   rfl
                  refine pure_ (i:=3) (N:=some 111) (v:=?_) (a':=?_) #[true,true,true,true,false,false,false,false,false,false,false,false] rfl rfl (any_of HT_.out (by kernel_rfl)) (fun _ _ _ h=>h) (Or.inl ⟨by rfl,?_⟩) ?_ ?_
                  rotate_left
                  ·intro w'
                   go_simp
                   with_reducible rfl
                  rotate_left
                  ·simp only [Act.put,xsA,xsZ,xsS,i64_w,i32_w]
                   rfl
                  refine pure_ (i:=4) (N:=some 112) (v:=?_) (a':=?_) #[true,true,true,true,true,false,false,false,false,false,false,false] rfl rfl (any_of HT_.out (by kernel_rfl)) (fun _ _ _ h=>h) (Or.inl ⟨by rfl,?_⟩) ?_ ?_
                  rotate_left
                  ·intro w'
                   go_simp
                   with_reducible rfl
                  rotate_left
                  ·simp only [Act.put,xsA,xsZ,xsS,i64_w,i32_w]
                   rfl
                  refine pure_ (i:=5) (N:=some 113) (v:=?_) (a':=?_) #[true,true,true,true,true,true,false,false,false,false,false,false] rfl rfl (any_of HT_.out (by kernel_rfl)) (fun _ _ _ h=>h) (Or.inl ⟨by rfl,?_⟩) ?_ ?_
                  rotate_left
                  ·intro w'
                   go_simp
                   with_reducible rfl
                  rotate_left
                  ·simp only [Act.put,xsA,xsZ,xsS,i64_w,i32_w]
                   rfl
                  refine pure_ (i:=6) (N:=some 114) (v:=?_) (a':=?_) #[true,true,true,true,true,true,true,false,false,false,false,false] rfl rfl (any_of HT_.out (by kernel_rfl)) (fun _ _ _ h=>h) (Or.inl ⟨by rfl,?_⟩) ?_ ?_
                  rotate_left
                  ·intro w'
                   go_simp
                   with_reducible rfl
                  rotate_left
                  ·simp only [Act.put,xsA,xsZ,xsS,i64_w,i32_w]
                   rfl
                  refine take_ (i:=7) (N:=some 115) (v:=?_) (a':=?_) #[true,true,true,true,true,true,true,true,false,false,false,false] rfl rfl (take_ofW HT_.out HW_.out (by kernel_rfl)) (fun _ _ _ h=>h) (Or.inl ⟨by rfl,?_⟩) hHeld ?_ ?_
                  rotate_left
                  ·rintro w' ⟨s0,s1,s2,s3,s4,s5⟩
                   go_simp
                   with_reducible rfl
                  rotate_left
                  ·simp only [Act.put,xsA,xsZ,xsS,i64_w,i32_w]
                   rfl
                  refine take_ (i:=8) (N:=some 116) (v:=?_) (a':=?_) #[true,true,true,true,true,true,true,true,true,false,false,false] rfl rfl (take_ofW HT_.out HW_.out (by kernel_rfl)) (fun _ _ _ h=>h) (Or.inl ⟨by rfl,?_⟩) hHeld ?_ ?_
                  rotate_left
                  ·rintro w' ⟨s0,s1,s2,s3,s4,s5⟩
                   go_simp
                   with_reducible rfl
                  rotate_left
                  ·simp only [Act.put,xsA,xsZ,xsS,i64_w,i32_w]
                   rfl
                  refine one_ (i:=9) (N:=some 117) #[true,true,true,true,true,true,true,true,true,true,false,false] rfl rfl (one_of HT_.out (by kernel_rfl)) (by decide) (fun K hK=>?_)
                  refine goes_ Tryz.func37 (by kernel_rfl) rfl #[.agg #[.int .i64 ((rd_T37 x7_1 (ji58)).f0),.int .i64 ((rd_T37 x7_1 (ji58)).f1),.slice A220_2 ((rd_T37 x7_1 (ji58)).f2).length c220_2],.agg #[.int .i64 x211000_2,.int .i64 x211001_2,.slice Ao66 x211002_2.length co66]] (by rfl) rfl rfl (by (try simp only [List.map_toArray,List.map_cons,List.map_nil]);first | done | (simp only [hji58];rfl) | rfl | (simp only [List.length_drop,List.length_take];rfl)) ?_
                  with_reducible refine (rf_GaugeAfter.calls ((rd_T37 x7_1 (ji58)).f0) ((rd_T37 x7_1 (ji58)).f1) _ _ ((rd_T37 x7_1 (ji58)).f2) x211000_2 x211001_2 _ _ x211002_2 true _ ?side1 ?side2 ?side3 ?side4 A61.out).mono ?_
                  (case side1=>repeat (first | exact (by repeat (first | (with_reducible exact HR220_2.out) | (with_reducible refine Kd.C_alloc ?_ _) | (with_reducible refine Kd.C_drewN ?_ _) | (with_reducible refine Kd.C_drew ?_) | exact HR220_2.out)) | (with_reducible refine Kd.C_alloc ?_ _) | (with_reducible refine Kd.C_drewN ?_ _) | (with_reducible refine Kd.C_drew ?_)))
                  (case side2=>exact HC220_2.out)
                  (case side3=>repeat (first | exact (Kd.R_reads' HO_211002.out).2.2 | (with_reducible refine Kd.C_alloc ?_ _) | (with_reducible refine Kd.C_drewN ?_ _) | (with_reducible refine Kd.C_drew ?_)))
                  (case side4=>exact (Kd.R_reads' HO_211002.out).2.1)
                  rintro e w67 ⟨rfl,hb⟩
                  have HS3_:=(hb.cell (xbl _ _ (hHeld.2.2.2.1))).trans (hHeld.2.2.2.1)
                  have HS4_:=(hb.cell (xbl _ _ (hHeld.2.2.2.2.1))).trans (hHeld.2.2.2.2.1)
                  have HS5_:=(hb.cell (xbl _ _ (hHeld.2.2.2.2.2))).trans (hHeld.2.2.2.2.2)
                  refine ⟨_,rfl,?_⟩
                  have n0_:=Aside0.mk (Kd.R_below (by (with_reducible repeat (first | apply Kd.R_alloc | apply Kd.R_drewN | apply Kd.R_drew));exact HO_5.out) hb)
                  have n1_:=Aside0.mk (Kd.S_below (by (with_reducible repeat (first | apply Kd.S_alloc | apply Kd.S_drewN | apply Kd.S_drew));exact HO_7.out) hb)
                  have n2_:=Aside0.mk (Kd.R_below (by (with_reducible repeat (first | apply Kd.R_alloc | apply Kd.R_drewN | apply Kd.R_drew));exact HO_211002.out) hb)
                  have n3_:=Aside0.mk (Kd.R_below (by (with_reducible repeat (first | apply Kd.R_alloc | apply Kd.R_drewN | apply Kd.R_drew));exact HL220_2.out) hb)
                  have n4_:=Aside0.mk (blk_below (g:=gb210) (o:=.cells #[.int .i64 x211000_2,.int .i64 x211001_2,.slice Ao66 x211002_2.length co66] 37 (0,0)) (by (with_reducible repeat (first | refine blk_drewN ?_ _ | refine blk_drew ?_ | refine blk_alloc ?_ _));exact BK210.out) hb)
                  have n5_:=Aside0.mk (Kd.C_below (by repeat (first | (with_reducible exact HR220_2.out) | (with_reducible refine Kd.C_alloc ?_ _) | (with_reducible refine Kd.C_drewN ?_ _) | (with_reducible refine Kd.C_drew ?_) | exact HR220_2.out)) hb)
                  have n6_:=Aside0.mk (below_step (by repeat (first | (with_reducible first | exact HB.out | apply below_alloc | apply pw_below_drewN | apply below_drew1 | refine below_set ?_ GE210.out) | exact HB.out)) hb)
                  clear HO_5
                  clear HO_7
                  clear HO_211002
                  clear HL220_2
                  clear BK210
                  clear HR220_2
                  clear HB
                  have HO_5:=n0_
                  have HO_7:=n1_
                  have HO_211002:=n2_
                  have HL220_2:=n3_
                  have BK210:=n4_
                  have HR220_2:=n5_
                  have HB:=n6_
                  clear n0_ n1_ n2_ n3_ n4_ n5_ n6_
                  (try clear hb)
                  (try clear hb2)
                  (try clear hk)
                  (try clear hi)
                  refine hK.out _ _ ⟨(blk_cell BK210.out 0).trans rfl,(blk_cell BK210.out 1).trans rfl,(blk_cell BK210.out 2).trans rfl,HS3_,HS4_,HS5_⟩ (fun hHeld=>?_)
                  clear hK K
                  refine norm_ (a':=?_) ?_ ?_
                  rotate_left
                  ·show Act.put _ (some 117) _=_
                   simp only [Act.put,xsA,xsZ,xsS,i64_w,i32_w]
                   rfl
                  refine pure_ (i:=10) (N:=some 118) (v:=?_) (a':=?_) #[true,true,true,true,true,true,true,true,true,true,true,false] rfl rfl (any_of HT_.out (by kernel_rfl)) (fun _ _ _ h=>h) (Or.inl ⟨by rfl,?_⟩) ?_ ?_
                  rotate_left
                  ·intro w'
                   go_simp
                   with_reducible rfl
                  rotate_left
                  ·simp only [Act.put,xsA,xsZ,xsS,i64_w,i32_w]
                   rfl
                  refine pure_ (i:=11) (N:=some 119) (v:=?_) (a':=?_) #[true,true,true,true,true,true,true,true,true,true,true,true] rfl rfl (any_of HT_.out (by kernel_rfl)) (fun _ _ _ h=>h) (Or.inl ⟨by rfl,?_⟩) ?_ ?_
                  rotate_left
                  ·intro w'
                   go_simp
                   with_reducible rfl
                  rotate_left
                  ·simp only [Act.put,xsA,xsZ,xsS,i64_w,i32_w]
                   rfl
                  refine done_ (done_of HT_.out (by kernel_rfl)) ?_
                  have hcz68_0:w67.cell? ⟨gb210,0,none⟩=some (.int .i64 x211000_2):=(blk_cell BK210.out 0).trans rfl
                  have hcz68_1:w67.cell? ⟨gb210,1,none⟩=some (.int .i64 x211001_2):=(blk_cell BK210.out 1).trans rfl
                  have hcz68_2:w67.cell? ⟨gb210,2,none⟩=some (.slice Ao66 x211002_2.length co66):=(blk_cell BK210.out 2).trans rfl
                  have hfz68_0:=blk_frozen BK210.out 0
                  have hfz68_1:=blk_frozen BK210.out 1
                  have hfz68_2:=blk_frozen BK210.out 2
                  try go_wp2_with (first | ((with_reducible refine gate_builtin (b:=.append) (xs:=#[.tmp 121,.tmp 123]) rfl ?_);at_builtin;refine Kd.S_append k37 (w0:=w) w.heap.size rfl (.tmp 121) (.tmp 123) 35 37 (.agg #[(.int .i64 0),(.int .i64 0),(.slice none 0 0)]) 40 rfl Tryz.underlying35 info37 rfl (by decide) (by omega) (.slice (some ad220) x7_1.length co65) x7_1 (⟨x211000_2,x211001_2,x211002_2⟩:S37) [.int .i64 x211000_2,.int .i64 x211001_2,.slice Ao66 x211002_2.length co66] (fun k_=>k_ ≠ gb210) (fun k_=>some k_=(.slice Ao66 x211002_2.length co66:Value).ownBlock) rfl rfl ?aP (fun k_ hk_=>((Kd.R_mono (ok':=fun k_=>((fun k_=>k_ ≠ gb210)) k_ ∧ some k_ ≠ (.slice (some ad220) x7_1.length co65:Value).ownBlock) (Kd.R_types (Kd.R_apart' (HO_211002.out) (Kd.S_typed HO_7.out) (by decide)) BK210.out (by decide)) (fun k_ hk=>⟨hk.2,hk.1.2⟩))).1 k_ hk_.symm) ?aF ?aO ?aB ?aS ?aL ?_;(case aP=>exact k37_mkM _ _ _ (⟨x211000_2,x211001_2,x211002_2⟩:S37) (Kd.R_mono (Kd.R_tight rfl (Kd.R_mono (ok':=fun k_=>((fun k_=>k_ ≠ gb210)) k_ ∧ some k_ ≠ (.slice (some ad220) x7_1.length co65:Value).ownBlock) (Kd.R_types (Kd.R_apart' (HO_211002.out) (Kd.S_typed HO_7.out) (by decide)) BK210.out (by decide)) (fun k_ hk=>⟨hk.2,hk.1.2⟩))) (fun _ h_=>h_)));(case aB=>exact (by repeat (first | (with_reducible first | exact HB.out | apply below_alloc | apply pw_below_drewN | apply below_drew1 | refine below_set ?_ GE210.out) | exact HB.out)));(case aF=>exact (fun k_ hk=>Kd.freshB (g:=gb210) (o:=.cells #[.int .i64 x211000_2,.int .i64 x211001_2,.slice Ao66 x211002_2.length co66] 37 (0,0)) (by (with_reducible repeat (first | refine blk_drewN ?_ _ | refine blk_drew ?_ | refine blk_alloc ?_ _));exact BK210.out) k_ hk));(case aO=>exact (by (with_reducible repeat (first | apply Kd.S_alloc | apply Kd.S_drewN | apply Kd.S_drew));exact Kd.S_mono HO_7.out (fun k_ hk=>⟨hk.2,fun e_=>hk.1 e_⟩)));(case aS=>exact (below_size (by repeat (first | (with_reducible first | exact HB.out | apply below_alloc | apply pw_below_drewN | apply below_drew1 | refine below_set ?_ GE210.out) | exact HB.out))));(case aL=>have:=LMc63.out;omega);intro v223 w69 ho hb hg hat;rw [← Ny222.out] at ho;have n0_:=Aside0.mk (Kd.R_over' (by (with_reducible repeat (first | apply Kd.R_alloc | apply Kd.R_drewN | apply Kd.R_drew));exact HO_5.out) (Kd.S_typed (by (with_reducible repeat (first | apply Kd.S_alloc | apply Kd.S_drewN | apply Kd.S_drew));exact HO_7.out)) (by decide) hg);have n1_:=Aside0.mk (blk_grown (g:=gb210) (o:=.cells #[.int .i64 x211000_2,.int .i64 x211001_2,.slice Ao66 x211002_2.length co66] 37 (0,0)) (by (with_reducible repeat (first | refine blk_drewN ?_ _ | refine blk_drew ?_ | refine blk_alloc ?_ _));exact BK210.out) hg (Kd.S_away HO_7.out (fun _ hk=>hk.2)));have n2_:=Aside0.mk (Kd.R_after (ok:=(fun k_=>some k_ ≠ (.slice Ao66 x211002_2.length co66:Value).ownBlock ∧ k_ ≠ gb210)) (by (with_reducible repeat (first | apply Kd.R_alloc | apply Kd.R_drewN | apply Kd.R_drew));exact HL220_2.out) hg hat);have n3_:=Aside0.mk (hb);have n4_:=Aside0.mk (ho);clear HO_5;clear BK210;clear HL220_2;clear HB;clear HO_7;clear HO_211002;have HO_5:=n0_;have BK210:=n1_;have HL220_2:=n2_;have HB:=n3_;have HO224:=n4_;clear n0_ n1_ n2_ n3_ n4_;clear ho hb hg hat))
                  go_roundg kj40
                  case measure=>have:=HK1.out;have:=HK2.out;have:=HJ40.out;omega
                  case rel=>exact ⟨(y222),(wrap64 (x8_1 + 1)),(by first | rfl | (simp;done) | (simp [*];done)),H',⟨by have:=HK1.out;have:=HK2.out;have:=HJ40.out;omega⟩,⟨by (with_reducible repeat (first | apply Kd.R_alloc | apply Kd.R_drewN | apply Kd.R_drew));exact HO_5.out⟩,⟨by (with_reducible repeat (first | apply Kd.S_alloc | apply Kd.S_drewN | apply Kd.S_drew));exact Kd.S_mono HO224.out (fun _ hk=>trivial)⟩,⟨by repeat (first | (with_reducible first | exact HB.out | apply below_alloc | apply pw_below_drewN | apply below_drew1 | refine below_set ?_ GE210.out) | exact HB.out)⟩⟩
                 ·rw [if_neg c63] at H
                  exact absurd H (by simp)
                ·replace c62:=Bool.eq_false_iff.mpr c62
                 subst c62
                 have H1:(some (([]:List (S37)),x8_1,6))=some (r1,r2,r3):=by rw [if_neg (show ¬ (false=true) by decide)] at H;exact H
                 clear H
                 have H:=H1
                 clear H1
                 simp only [Option.some.injEq,Prod.mk.injEq] at H
                 obtain ⟨rfl,rfl,rfl⟩:=H
                 try go_wp2
                 have n0_:=Aside0.mk (Kd.R_drew HO_5.out)
                 have n1_:=Aside0.mk (Kd.S_drew HO_7.out)
                 have n2_:=Aside0.mk (Kd.R_drew HO_211002.out)
                 have n3_:=Aside0.mk (blk_drew BK210.out)
                 have n4_:=Aside0.mk (below_drew1 HB.out)
                 clear HO_5
                 clear HO_7
                 clear HO_211002
                 clear BK210
                 clear HB
                 have HO_5:=n0_
                 have HO_7:=n1_
                 have HO_211002:=n2_
                 have BK210:=n3_
                 have HB:=n4_
                 clear n0_ n1_ n2_ n3_ n4_
                 obtain ⟨Ao71,co71,eo71⟩:=Kd.S_slice HO_7.out
                 (first | subst eo71 | (injection eo71 with f1_ f2_ f3_;have f4_:=f1_.symm;have f5_:=f3_.symm;clear f1_ f2_ f3_;subst f4_;subst f5_))
                 have p220:0 ≤ ((ji58):Int):=of_decide_eq_true (by first | (with_reducible assumption) | assumption)
                 have q220:(ji58) < (x7_1.length:Int):=of_decide_eq_true (by first | (with_reducible assumption) | assumption)
                 obtain ⟨ad220,A220_2,c220_2,e220,hx220_0,hx220_1,hx220_2,hl220_2,hi220_2⟩:=at_T37 (Kd.S_reads' HO_7.out).2.2 (ji58) p220 q220
                 cases e220
                 obtain ⟨ce220,hce220,hMe220,hcc220⟩:=Kd.S_get HO_7.out z37 (ji58) p220 (by first | exact q220 | exact of_decide_eq_true (by first | (with_reducible assumption) | assumption) | (have e_:=(Kd.S_reads' HO_7.out).1;omega))
                 obtain ⟨ve220_2,rfl,ge220_2⟩:=k37_openM hMe220
                 have hv220_2:=hcc220 2 _ rfl
                 rw [add_field _ _ 2 (by omega)] at hv220_2
                 replace hv220_2:=Option.some.inj (hv220_2.symm.trans hx220_2)
                 rw [hv220_2] at ge220_2
                 have HL220_2:=Aside0.mk (show Kd.R (Kd.int .i64) 3 _ _ _ _ ((rd_T37 x7_1 (ji58)).f2) from ge220_2)
                 clear hv220_2 ge220_2
                 clear hcc220 hce220
                 have HR220_2:=Aside0.mk hi220_2
                 have HC220_2:=Aside0.mk hl220_2
                 clear hi220_2 hl220_2
                 replace p220:=eq_true p220
                 replace q220:=eq_true q220
                 obtain ⟨Ao72,co72,eo72⟩:=Kd.R_slice HO_211002.out
                 (first | subst eo72 | (injection eo72 with f1_ f2_ f3_;have f4_:=f1_.symm;have f5_:=f3_.symm;clear f1_ f2_ f3_;subst f4_;subst f5_))
                 refine start_ (n:=12) (S:=fun w'=>w'.cell? ⟨gb210,0,none⟩=some (.int .i64 x211000_2) ∧ w'.cell? ⟨gb210,1,none⟩=some (.int .i64 x211001_2) ∧ w'.cell? ⟨gb210,2,none⟩=some (.slice Ao72 x211002_2.length co72) ∧ w'.cell? (ad220.add (((ji58)).toNat * 3))=some (.int .i64 ((rd_T37 x7_1 (ji58)).f0)) ∧ w'.cell? ⟨(ad220.add (((ji58)).toNat * 3)).block,(ad220.add (((ji58)).toNat * 3)).off + 1,none⟩=some (.int .i64 ((rd_T37 x7_1 (ji58)).f1)) ∧ w'.cell? ⟨(ad220.add (((ji58)).toNat * 3)).block,(ad220.add (((ji58)).toNat * 3)).off + 2,none⟩=some (.slice A220_2 ((rd_T37 x7_1 (ji58)).f2).length c220_2)) (ds:=[]) #[false,false,false,false,false,false,false,false,false,false,false,false] (by kernel_rfl) rfl rfl ⟨(blk_cell BK210.out 0).trans rfl,(blk_cell BK210.out 1).trans rfl,(blk_cell BK210.out 2).trans rfl,hx220_0,hx220_1,hx220_2⟩ (fun hHeld=>?_);refine with_tabW rf_ReadGauge.tab30 rf_ReadGauge.bits30 (fun HT_ HW_=>?_)
                 generalize wc.drew=w70 at HO_5 HO_7 HO_211002 BK210 HB HL220_2 HR220_2 hx220_0 hx220_1 hx220_2 hHeld ⊢
                 refine pure_ (i:=0) (N:=some 108) (v:=?_) (a':=?_) #[true,false,false,false,false,false,false,false,false,false,false,false] rfl rfl (any_of HT_.out (by kernel_rfl)) (fun _ _ _ h=>h) (Or.inl ⟨by rfl,?_⟩) ?_ ?_
                 rotate_left
                 ·intro w'
                  go_simp
                  with_reducible rfl
                 rotate_left
                 ·simp only [Act.put,xsA,xsZ,xsS,i64_w,i32_w]
                  rfl
                 refine pure_ (i:=1) (N:=some 109) (v:=?_) (a':=?_) #[true,true,false,false,false,false,false,false,false,false,false,false] rfl rfl (any_of HT_.out (by kernel_rfl)) (fun _ _ _ h=>h) (Or.inl ⟨by rfl,?_⟩) ?_ ?_
                 rotate_left
                 ·intro w'
                  go_simp
                  with_reducible rfl
                 rotate_left
                 ·simp only [Act.put,xsA,xsZ,xsS,i64_w,i32_w]
                  rfl
                 refine pure_ (i:=2) (N:=some 110) (v:=?_) (a':=?_) #[true,true,true,false,false,false,false,false,false,false,false,false] rfl rfl (any_of HT_.out (by kernel_rfl)) (fun _ _ _ h=>h) (Or.inl ⟨by rfl,?_⟩) ?_ ?_
                 rotate_left
                 ·intro w'
                  go_simp
                  with_reducible rfl
                 rotate_left
                 ·simp only [Act.put,xsA,xsZ,xsS,i64_w,i32_w]
                  rfl
                 refine pure_ (i:=3) (N:=some 111) (v:=?_) (a':=?_) #[true,true,true,true,false,false,false,false,false,false,false,false] rfl rfl (any_of HT_.out (by kernel_rfl)) (fun _ _ _ h=>h) (Or.inl ⟨by rfl,?_⟩) ?_ ?_
                 rotate_left
                 ·intro w'
                  go_simp
                  with_reducible rfl
                 rotate_left
                 ·simp only [Act.put,xsA,xsZ,xsS,i64_w,i32_w]
                  rfl
                 refine pure_ (i:=4) (N:=some 112) (v:=?_) (a':=?_) #[true,true,true,true,true,false,false,false,false,false,false,false] rfl rfl (any_of HT_.out (by kernel_rfl)) (fun _ _ _ h=>h) (Or.inl ⟨by rfl,?_⟩) ?_ ?_
                 rotate_left
                 ·intro w'
                  go_simp
                  with_reducible rfl
                 rotate_left
                 ·simp only [Act.put,xsA,xsZ,xsS,i64_w,i32_w]
                  rfl
                 refine pure_ (i:=5) (N:=some 113) (v:=?_) (a':=?_) #[true,true,true,true,true,true,false,false,false,false,false,false] rfl rfl (any_of HT_.out (by kernel_rfl)) (fun _ _ _ h=>h) (Or.inl ⟨by rfl,?_⟩) ?_ ?_
                 rotate_left
                 ·intro w'
                  go_simp
                  with_reducible rfl
                 rotate_left
                 ·simp only [Act.put,xsA,xsZ,xsS,i64_w,i32_w]
                  rfl
                 refine pure_ (i:=6) (N:=some 114) (v:=?_) (a':=?_) #[true,true,true,true,true,true,true,false,false,false,false,false] rfl rfl (any_of HT_.out (by kernel_rfl)) (fun _ _ _ h=>h) (Or.inl ⟨by rfl,?_⟩) ?_ ?_
                 rotate_left
                 ·intro w'
                  go_simp
                  with_reducible rfl
                 rotate_left
                 ·simp only [Act.put,xsA,xsZ,xsS,i64_w,i32_w]
                  rfl
                 refine take_ (i:=7) (N:=some 115) (v:=?_) (a':=?_) #[true,true,true,true,true,true,true,true,false,false,false,false] rfl rfl (take_ofW HT_.out HW_.out (by kernel_rfl)) (fun _ _ _ h=>h) (Or.inl ⟨by rfl,?_⟩) hHeld ?_ ?_
                 rotate_left
                 ·rintro w' ⟨s0,s1,s2,s3,s4,s5⟩
                  go_simp
                  with_reducible rfl
                 rotate_left
                 ·simp only [Act.put,xsA,xsZ,xsS,i64_w,i32_w]
                  rfl
                 refine take_ (i:=8) (N:=some 116) (v:=?_) (a':=?_) #[true,true,true,true,true,true,true,true,true,false,false,false] rfl rfl (take_ofW HT_.out HW_.out (by kernel_rfl)) (fun _ _ _ h=>h) (Or.inl ⟨by rfl,?_⟩) hHeld ?_ ?_
                 rotate_left
                 ·rintro w' ⟨s0,s1,s2,s3,s4,s5⟩
                  go_simp
                  with_reducible rfl
                 rotate_left
                 ·simp only [Act.put,xsA,xsZ,xsS,i64_w,i32_w]
                  rfl
                 refine one_ (i:=9) (N:=some 117) #[true,true,true,true,true,true,true,true,true,true,false,false] rfl rfl (one_of HT_.out (by kernel_rfl)) (by decide) (fun K hK=>?_)
                 refine goes_ Tryz.func37 (by kernel_rfl) rfl #[.agg #[.int .i64 ((rd_T37 x7_1 (ji58)).f0),.int .i64 ((rd_T37 x7_1 (ji58)).f1),.slice A220_2 ((rd_T37 x7_1 (ji58)).f2).length c220_2],.agg #[.int .i64 x211000_2,.int .i64 x211001_2,.slice Ao72 x211002_2.length co72]] (by rfl) rfl rfl (by (try simp only [List.map_toArray,List.map_cons,List.map_nil]);first | done | (simp only [hji58];rfl) | rfl | (simp only [List.length_drop,List.length_take];rfl)) ?_
                 with_reducible refine (rf_GaugeAfter.calls ((rd_T37 x7_1 (ji58)).f0) ((rd_T37 x7_1 (ji58)).f1) _ _ ((rd_T37 x7_1 (ji58)).f2) x211000_2 x211001_2 _ _ x211002_2 false _ ?side1 ?side2 ?side3 ?side4 A61.out).mono ?_
                 (case side1=>repeat (first | exact (by repeat (first | (with_reducible exact HR220_2.out) | (with_reducible refine Kd.C_alloc ?_ _) | (with_reducible refine Kd.C_drewN ?_ _) | (with_reducible refine Kd.C_drew ?_) | exact HR220_2.out)) | (with_reducible refine Kd.C_alloc ?_ _) | (with_reducible refine Kd.C_drewN ?_ _) | (with_reducible refine Kd.C_drew ?_)))
                 (case side2=>exact HC220_2.out)
                 (case side3=>repeat (first | exact (Kd.R_reads' HO_211002.out).2.2 | (with_reducible refine Kd.C_alloc ?_ _) | (with_reducible refine Kd.C_drewN ?_ _) | (with_reducible refine Kd.C_drew ?_)))
                 (case side4=>exact (Kd.R_reads' HO_211002.out).2.1)
                 rintro e w73 ⟨rfl,hb⟩
                 have HS3_:=(hb.cell (xbl _ _ (hHeld.2.2.2.1))).trans (hHeld.2.2.2.1)
                 have HS4_:=(hb.cell (xbl _ _ (hHeld.2.2.2.2.1))).trans (hHeld.2.2.2.2.1)
                 have HS5_:=(hb.cell (xbl _ _ (hHeld.2.2.2.2.2))).trans (hHeld.2.2.2.2.2)
                 refine ⟨_,rfl,?_⟩
                 have n0_:=Aside0.mk (Kd.R_below (by (with_reducible repeat (first | apply Kd.R_alloc | apply Kd.R_drewN | apply Kd.R_drew));exact HO_5.out) hb)
                 have n1_:=Aside0.mk (Kd.S_below (by (with_reducible repeat (first | apply Kd.S_alloc | apply Kd.S_drewN | apply Kd.S_drew));exact HO_7.out) hb)
                 have n2_:=Aside0.mk (Kd.R_below (by (with_reducible repeat (first | apply Kd.R_alloc | apply Kd.R_drewN | apply Kd.R_drew));exact HO_211002.out) hb)
                 have n3_:=Aside0.mk (Kd.R_below (by (with_reducible repeat (first | apply Kd.R_alloc | apply Kd.R_drewN | apply Kd.R_drew));exact HL220_2.out) hb)
                 have n4_:=Aside0.mk (blk_below (g:=gb210) (o:=.cells #[.int .i64 x211000_2,.int .i64 x211001_2,.slice Ao72 x211002_2.length co72] 37 (0,0)) (by (with_reducible repeat (first | refine blk_drewN ?_ _ | refine blk_drew ?_ | refine blk_alloc ?_ _));exact BK210.out) hb)
                 have n5_:=Aside0.mk (Kd.C_below (by repeat (first | (with_reducible exact HR220_2.out) | (with_reducible refine Kd.C_alloc ?_ _) | (with_reducible refine Kd.C_drewN ?_ _) | (with_reducible refine Kd.C_drew ?_) | exact HR220_2.out)) hb)
                 have n6_:=Aside0.mk (below_step (by repeat (first | (with_reducible first | exact HB.out | apply below_alloc | apply pw_below_drewN | apply below_drew1 | refine below_set ?_ GE210.out) | exact HB.out)) hb)
                 clear HO_5
                 clear HO_7
                 clear HO_211002
                 clear HL220_2
                 clear BK210
                 clear HR220_2
                 clear HB
                 have HO_5:=n0_
                 have HO_7:=n1_
                 have HO_211002:=n2_
                 have HL220_2:=n3_
                 have BK210:=n4_
                 have HR220_2:=n5_
                 have HB:=n6_
                 clear n0_ n1_ n2_ n3_ n4_ n5_ n6_
                 (try clear hb)
                 (try clear hb2)
                 (try clear hk)
                 (try clear hi)
                 refine hK.out _ _ ⟨(blk_cell BK210.out 0).trans rfl,(blk_cell BK210.out 1).trans rfl,(blk_cell BK210.out 2).trans rfl,HS3_,HS4_,HS5_⟩ (fun hHeld=>?_)
                 clear hK K
                 refine norm_ (a':=?_) ?_ ?_
                 rotate_left
                 ·show Act.put _ (some 117) _=_
                  simp only [Act.put,xsA,xsZ,xsS,i64_w,i32_w]
                  rfl
                 refine pure_ (i:=10) (N:=some 118) (v:=?_) (a':=?_) #[true,true,true,true,true,true,true,true,true,true,true,false] rfl rfl (any_of HT_.out (by kernel_rfl)) (fun _ _ _ h=>h) (Or.inl ⟨by rfl,?_⟩) ?_ ?_
                 rotate_left
                 ·intro w'
                  go_simp
                  with_reducible rfl
                 rotate_left
                 ·simp only [Act.put,xsA,xsZ,xsS,i64_w,i32_w]
                  rfl
                 refine pure_ (i:=11) (N:=some 119) (v:=?_) (a':=?_) #[true,true,true,true,true,true,true,true,true,true,true,true] rfl rfl (any_of HT_.out (by kernel_rfl)) (fun _ _ _ h=>h) (Or.inl ⟨by rfl,?_⟩) ?_ ?_
                 rotate_left
                 ·intro w'
                  go_simp
                  with_reducible rfl
                 rotate_left
                 ·simp only [Act.put,xsA,xsZ,xsS,i64_w,i32_w]
                  rfl
                 refine done_ (done_of HT_.out (by kernel_rfl)) ?_
                 try go_wp2
                 go_ret3
                 exact ⟨_,by first | rfl | (simp [errW_none,errW_some] <;> rfl) | (simp only [← hji58];first | rfl | (simp [errW_none,errW_some] <;> rfl)) | (simp [*,errW_none,errW_some] <;> rfl),by first | exact Kd.S_nil _ _ _ _ _ | exact Kd.N_nil _ _ _ _ _ | exact Kd.V_nil _ _ _ _ _ | exact Kd.Q_nil _ _ _ _ _ | exact Kd.R_nil _ _ _ _ _,by repeat (first | (with_reducible first | exact HB.out | apply below_alloc | apply pw_below_drewN | apply below_drew1 | refine below_set ?_ GE210.out) | exact HB.out)⟩
               ·rw [if_neg c60] at H
                exact absurd H (by simp)
              ·rw [if_neg c59] at H
               exact absurd H (by simp)
             ·rw [if_neg c57] at H
              have c57b0:decide (0 < x8_1)=false:=decide_eq_false c57
              clear c57
              by_cases c74:x7_1.length < 3518437208883
              ·rw [if_pos c74] at H
               have LMc74:=Aside0.mk c74
               clear c74
               obtain ⟨y225,hy225⟩:∃ y_:List (S37),y_=(x7_1 ++ [(⟨x211000_2,x211001_2,x211002_2⟩:S37)]):=⟨_,rfl⟩
               replace H:(rf_ReadGauge.l0 kj40 t197 y225 (wrap64 (x8_1 + 1)))=some (r1,r2,r3):=by first | (rw [hy225];with_reducible exact H) | (have H2_:=(Option.bind_some _ _).symm.trans H;rw [hy225];with_reducible exact H2_) | (have H2_:=(Option.bind_some _ _).symm.trans H;with_reducible exact H2_) | with_reducible exact H | (rw [hy225];exact H) | exact H
               have Ny225:=Aside0.mk hy225
               clear hy225
               have H':=Aside0.mk H
               clear H
               try go_wp2
               have n0_:=Aside0.mk (Kd.R_drew HO_5.out)
               have n1_:=Aside0.mk (Kd.S_drew HO_7.out)
               have n2_:=Aside0.mk (Kd.R_drew HO_211002.out)
               have n3_:=Aside0.mk (blk_drew BK210.out)
               have n4_:=Aside0.mk (below_drew1 HB.out)
               clear HO_5
               clear HO_7
               clear HO_211002
               clear BK210
               clear HB
               have HO_5:=n0_
               have HO_7:=n1_
               have HO_211002:=n2_
               have BK210:=n3_
               have HB:=n4_
               clear n0_ n1_ n2_ n3_ n4_
               refine start_ (n:=12) (S:=fun w'=>True) (ds:=[]) #[false,false,false,false,false,false,false,false,false,false,false,false] (by kernel_rfl) rfl rfl trivial (fun hHeld=>?_);refine with_tabW rf_ReadGauge.tab30 rf_ReadGauge.bits30 (fun HT_ HW_=>?_)
               generalize wc.drew=w75 at HO_5 HO_7 HO_211002 BK210 HB hHeld ⊢
               refine pure_ (i:=0) (N:=some 108) (v:=?_) (a':=?_) #[true,false,false,false,false,false,false,false,false,false,false,false] rfl rfl (any_of HT_.out (by kernel_rfl)) (fun _ _ _ h=>h) (Or.inl ⟨by rfl,?_⟩) ?_ ?_
               rotate_left
               ·intro w'
                go_simp
                with_reducible rfl
               rotate_left
               ·simp only [Act.put,xsA,xsZ,xsS,i64_w,i32_w]
                rfl
               refine pure_ (i:=1) (N:=some 109) (v:=?_) (a':=?_) #[true,true,false,false,false,false,false,false,false,false,false,false] rfl rfl (any_of HT_.out (by kernel_rfl)) (fun _ _ _ h=>h) (Or.inl ⟨by rfl,?_⟩) ?_ ?_
               rotate_left
               ·intro w'
                go_simp
                with_reducible rfl
               rotate_left
               ·simp only [Act.put,xsA,xsZ,xsS,i64_w,i32_w]
                rfl
               refine pure_ (i:=2) (N:=some 110) (v:=?_) (a':=?_) #[true,true,true,false,false,false,false,false,false,false,false,false] rfl rfl (any_of HT_.out (by kernel_rfl)) (fun _ _ _ h=>h) (Or.inl ⟨by rfl,?_⟩) ?_ ?_
               rotate_left
               ·intro w'
                go_simp
                with_reducible rfl
               rotate_left
               ·simp only [Act.put,xsA,xsZ,xsS,i64_w,i32_w]
                rfl
               refine pure_ (i:=3) (N:=some 111) (v:=undef) (a':=?_) #[true,true,true,true,false,false,false,false,false,false,false,false] rfl rfl (any_of HT_.out (by kernel_rfl)) (fun _ _ _ h=>h) (Or.inr ⟨by rfl,rfl⟩) ?_ ?_
               rotate_left
               ·simp only [Act.put,xsA,xsZ,xsS,i64_w,i32_w]
                rfl
               refine pure_ (i:=4) (N:=some 112) (v:=undef) (a':=?_) #[true,true,true,true,true,false,false,false,false,false,false,false] rfl rfl (any_of HT_.out (by kernel_rfl)) (fun _ _ _ h=>h) (Or.inr ⟨by rfl,rfl⟩) ?_ ?_
               rotate_left
               ·simp only [Act.put,xsA,xsZ,xsS,i64_w,i32_w]
                rfl
               refine pure_ (i:=5) (N:=some 113) (v:=undef) (a':=?_) #[true,true,true,true,true,true,false,false,false,false,false,false] rfl rfl (any_of HT_.out (by kernel_rfl)) (fun _ _ _ h=>h) (Or.inr ⟨by rfl,rfl⟩) ?_ ?_
               rotate_left
               ·simp only [Act.put,xsA,xsZ,xsS,i64_w,i32_w]
                rfl
               refine pure_ (i:=6) (N:=some 114) (v:=undef) (a':=?_) #[true,true,true,true,true,true,true,false,false,false,false,false] rfl rfl (any_of HT_.out (by kernel_rfl)) (fun _ _ _ h=>h) (Or.inr ⟨by rfl,rfl⟩) ?_ ?_
               rotate_left
               ·simp only [Act.put,xsA,xsZ,xsS,i64_w,i32_w]
                rfl
               refine pure_ (i:=7) (N:=some 115) (v:=undef) (a':=?_) #[true,true,true,true,true,true,true,true,false,false,false,false] rfl rfl (any_of HT_.out (by kernel_rfl)) (fun _ _ _ h=>h) (Or.inr ⟨by rfl,rfl⟩) ?_ ?_
               rotate_left
               ·simp only [Act.put,xsA,xsZ,xsS,i64_w,i32_w]
                rfl
               refine pure_ (i:=8) (N:=some 116) (v:=undef) (a':=?_) #[true,true,true,true,true,true,true,true,true,false,false,false] rfl rfl (any_of HT_.out (by kernel_rfl)) (fun _ _ _ h=>h) (Or.inr ⟨by rfl,rfl⟩) ?_ ?_
               rotate_left
               ·simp only [Act.put,xsA,xsZ,xsS,i64_w,i32_w]
                rfl
               refine pure_ (i:=9) (N:=some 117) (v:=undef) (a':=?_) #[true,true,true,true,true,true,true,true,true,true,false,false] rfl rfl (any_of HT_.out (by kernel_rfl)) (fun _ _ _ h=>h) (Or.inr ⟨by rfl,rfl⟩) ?_ ?_
               rotate_left
               ·simp only [Act.put,xsA,xsZ,xsS,i64_w,i32_w]
                rfl
               refine pure_ (i:=10) (N:=some 118) (v:=undef) (a':=?_) #[true,true,true,true,true,true,true,true,true,true,true,false] rfl rfl (any_of HT_.out (by kernel_rfl)) (fun _ _ _ h=>h) (Or.inr ⟨by rfl,rfl⟩) ?_ ?_
               rotate_left
               ·simp only [Act.put,xsA,xsZ,xsS,i64_w,i32_w]
                rfl
               refine pure_ (i:=11) (N:=some 119) (v:=?_) (a':=?_) #[true,true,true,true,true,true,true,true,true,true,true,true] rfl rfl (any_of HT_.out (by kernel_rfl)) (fun _ _ _ h=>h) (Or.inl ⟨by rfl,?_⟩) ?_ ?_
               rotate_left
               ·intro w'
                go_simp
                with_reducible rfl
               rotate_left
               ·simp only [Act.put,xsA,xsZ,xsS,i64_w,i32_w]
                rfl
               refine done_ (done_of HT_.out (by kernel_rfl)) ?_
               have hcz76_0:w75.cell? ⟨gb210,0,none⟩=some (.int .i64 x211000_2):=(blk_cell BK210.out 0).trans rfl
               have hcz76_1:w75.cell? ⟨gb210,1,none⟩=some (.int .i64 x211001_2):=(blk_cell BK210.out 1).trans rfl
               have hcz76_2:w75.cell? ⟨gb210,2,none⟩=some (u211002):=(blk_cell BK210.out 2).trans rfl
               have hfz76_0:=blk_frozen BK210.out 0
               have hfz76_1:=blk_frozen BK210.out 1
               have hfz76_2:=blk_frozen BK210.out 2
               obtain ⟨Ao78,co78,eo78⟩:=Kd.R_slice HO_211002.out
               subst eo78
               try go_wp2_with (first | ((with_reducible refine gate_builtin (b:=.append) (xs:=#[.tmp 121,.tmp 123]) rfl ?_);at_builtin;refine Kd.S_append k37 (w0:=w) w.heap.size rfl (.tmp 121) (.tmp 123) 35 37 (.agg #[(.int .i64 0),(.int .i64 0),(.slice none 0 0)]) 40 rfl Tryz.underlying35 info37 rfl (by decide) (by omega) u7 x7_1 (⟨x211000_2,x211001_2,x211002_2⟩:S37) [.int .i64 x211000_2,.int .i64 x211001_2,.slice Ao78 x211002_2.length co78] (fun k_=>k_ ≠ gb210) (fun k_=>some k_=(.slice Ao78 x211002_2.length co78:Value).ownBlock) rfl rfl ?aP (fun k_ hk_=>((Kd.R_mono (ok':=fun k_=>((fun k_=>k_ ≠ gb210)) k_ ∧ some k_ ≠ (u7:Value).ownBlock) (Kd.R_types (Kd.R_apart' (HO_211002.out) (Kd.S_typed HO_7.out) (by decide)) BK210.out (by decide)) (fun k_ hk=>⟨hk.2,hk.1.2⟩))).1 k_ hk_.symm) ?aF ?aO ?aB ?aS ?aL ?_;(case aP=>exact k37_mkM _ _ _ (⟨x211000_2,x211001_2,x211002_2⟩:S37) (Kd.R_mono (Kd.R_tight rfl (Kd.R_mono (ok':=fun k_=>((fun k_=>k_ ≠ gb210)) k_ ∧ some k_ ≠ (u7:Value).ownBlock) (Kd.R_types (Kd.R_apart' (HO_211002.out) (Kd.S_typed HO_7.out) (by decide)) BK210.out (by decide)) (fun k_ hk=>⟨hk.2,hk.1.2⟩))) (fun _ h_=>h_)));(case aB=>exact (by repeat (first | (with_reducible first | exact HB.out | apply below_alloc | apply pw_below_drewN | apply below_drew1 | refine below_set ?_ GE210.out) | exact HB.out)));(case aF=>exact (fun k_ hk=>Kd.freshB (g:=gb210) (o:=.cells #[.int .i64 x211000_2,.int .i64 x211001_2,.slice Ao78 x211002_2.length co78] 37 (0,0)) (by (with_reducible repeat (first | refine blk_drewN ?_ _ | refine blk_drew ?_ | refine blk_alloc ?_ _));exact BK210.out) k_ hk));(case aO=>exact (by (with_reducible repeat (first | apply Kd.S_alloc | apply Kd.S_drewN | apply Kd.S_drew));exact Kd.S_mono HO_7.out (fun k_ hk=>⟨hk.2,fun e_=>hk.1 e_⟩)));(case aS=>exact (below_size (by repeat (first | (with_reducible first | exact HB.out | apply below_alloc | apply pw_below_drewN | apply below_drew1 | refine below_set ?_ GE210.out) | exact HB.out))));(case aL=>have:=LMc74.out;omega);intro v226 w77 ho hb hg hat;rw [← Ny225.out] at ho;have n0_:=Aside0.mk (Kd.R_over' (by (with_reducible repeat (first | apply Kd.R_alloc | apply Kd.R_drewN | apply Kd.R_drew));exact HO_5.out) (Kd.S_typed (by (with_reducible repeat (first | apply Kd.S_alloc | apply Kd.S_drewN | apply Kd.S_drew));exact HO_7.out)) (by decide) hg);have n1_:=Aside0.mk (blk_grown (g:=gb210) (o:=.cells #[.int .i64 x211000_2,.int .i64 x211001_2,.slice Ao78 x211002_2.length co78] 37 (0,0)) (by (with_reducible repeat (first | refine blk_drewN ?_ _ | refine blk_drew ?_ | refine blk_alloc ?_ _));exact BK210.out) hg (Kd.S_away HO_7.out (fun _ hk=>hk.2)));have n2_:=Aside0.mk (hb);have n3_:=Aside0.mk (ho);clear HO_5;clear BK210;clear HB;clear HO_7;clear HO_211002;have HO_5:=n0_;have BK210:=n1_;have HB:=n2_;have HO227:=n3_;clear n0_ n1_ n2_ n3_;clear ho hb hg hat))
               go_roundg kj40
               case measure=>have:=HK1.out;have:=HK2.out;have:=HJ40.out;omega
               case rel=>exact ⟨(y225),(wrap64 (x8_1 + 1)),(by first | rfl | (simp;done) | (simp [*];done)),H',⟨by have:=HK1.out;have:=HK2.out;have:=HJ40.out;omega⟩,⟨by (with_reducible repeat (first | apply Kd.R_alloc | apply Kd.R_drewN | apply Kd.R_drew));exact HO_5.out⟩,⟨by (with_reducible repeat (first | apply Kd.S_alloc | apply Kd.S_drewN | apply Kd.S_drew));exact Kd.S_mono HO227.out (fun _ hk=>trivial)⟩,⟨by repeat (first | (with_reducible first | exact HB.out | apply below_alloc | apply pw_below_drewN | apply below_drew1 | refine below_set ?_ GE210.out) | exact HB.out)⟩⟩
              ·rw [if_neg c74] at H
               exact absurd H (by simp)
      ·rw [if_neg c10] at H
       have c10b0:(t205 == 0)=false:=beq_eq_false_iff_ne.mpr c10
       have c10b1:(t205 != 0)=true:=bne_iff_ne.mpr c10
       simp only [Option.some.injEq,Prod.mk.injEq] at H
       obtain ⟨rfl,rfl,rfl⟩:=H
       obtain ⟨Ao79,co79,eo79⟩:=Kd.R_slice HO_5.out
       subst eo79
       have p204:0 ≤ (x8_1:Int):=of_decide_eq_true (by first | (with_reducible assumption) | assumption)
       have q204:x8_1 < (t197.length:Int):=of_decide_eq_true (by first | (with_reducible assumption) | assumption)
       obtain ⟨ad204,e204,hx204_0⟩:=Kd.at_string (Kd.R_reads' HO_5.out).2.2 x8_1 p204 q204
       cases e204
       replace p204:=eq_true p204
       replace q204:=eq_true q204
       go_wp2_with (first | ((with_reducible refine gate_callee (f:=29) rfl ?_);refine goesL_ (some 37) rfl rfl Tryz.func29 (by kernel_rfl) rfl #[.string (rdOf ByteArray.empty t197 x8_1)] rfl (by (try simp only [List.map_toArray,List.map_cons,List.map_nil]);first | done | rfl | (simp only [List.length_drop,List.length_take];rfl)) ?_;(with_reducible refine (rf_Checked.calls k1 (rdOf ByteArray.empty t197 x8_1) t205 _ A9.out).mono ?_);rintro e w80 ⟨rfl,hb⟩;refine ⟨_,rfl,?_⟩;have n0_:=Aside0.mk (Kd.R_below (by (with_reducible repeat (first | apply Kd.R_alloc | apply Kd.R_drewN | apply Kd.R_drew));exact HO_5.out) hb);have n1_:=Aside0.mk (Kd.S_below (by (with_reducible repeat (first | apply Kd.S_alloc | apply Kd.S_drewN | apply Kd.S_drew));exact HO_7.out) hb);have n2_:=Aside0.mk (below_step (by repeat (first | (with_reducible first | exact HB.out | apply below_alloc | apply pw_below_drewN | apply below_drew1) | exact HB.out)) hb);clear HO_5;clear HO_7;clear HB;have HO_5:=n0_;have HO_7:=n1_;have HB:=n2_;clear n0_ n1_ n2_;(try clear hb);(try clear hb2);(try clear hk);(try clear hi)))
       go_ret3
       exact ⟨_,by first | rfl | (simp [errW_none,errW_some] <;> rfl) | (simp [*,errW_none,errW_some] <;> rfl),by first | exact Kd.S_nil _ _ _ _ _ | exact Kd.N_nil _ _ _ _ _ | exact Kd.V_nil _ _ _ _ _ | exact Kd.Q_nil _ _ _ _ _ | exact Kd.R_nil _ _ _ _ _,by repeat (first | (with_reducible first | exact HB.out | apply below_alloc | apply pw_below_drewN | apply below_drew1) | exact HB.out)⟩
     ·rw [if_neg c8] at H
      exact absurd H (by simp)
    ·rw [if_neg c7] at H
     have c7b0:decide (x8_1 < (t197.length:Int))=false:=decide_eq_false c7
     clear c7
     simp only [Option.some.injEq,Prod.mk.injEq] at H
     obtain ⟨rfl,rfl,rfl⟩:=H
     obtain ⟨Ao81,co81,eo81⟩:=Kd.R_slice HO_5.out
     subst eo81
     go_wp2
     go_ret3
     exact ⟨_,by first | rfl | (simp [errW_none,errW_some] <;> rfl) | (simp [*,errW_none,errW_some] <;> rfl),by (with_reducible repeat (first | apply Kd.S_alloc | apply Kd.S_drewN | apply Kd.S_drew));exact HO_7.out,by repeat (first | (with_reducible first | exact HB.out | apply below_alloc | apply pw_below_drewN | apply below_drew1) | exact HB.out)⟩
 ·rw [if_neg c3] at H
  have c3b0:(t198 == 0)=false:=beq_eq_false_iff_ne.mpr c3
  have c3b1:(t198 != 0)=true:=bne_iff_ne.mpr c3
  simp only [Option.some.injEq,Prod.mk.injEq] at H
  obtain ⟨rfl,rfl,rfl⟩:=H
  go_enter Tryz.func16,Tryz.ntmps16
  go_wp2_with (first | ((with_reducible refine gate_callee (f:=28) rfl ?_);refine goesL_ (some 20) rfl rfl Tryz.func28 (by kernel_rfl) rfl #[.string a0] rfl (by (try simp only [List.map_toArray,List.map_cons,List.map_nil]);first | done | rfl | (simp only [List.length_drop,List.length_take];rfl)) ?_;(with_reducible refine (rf_Lines.calls k a0 t197 t198 _ A2.out).mono ?_);rintro e w82 ⟨v199,rfl,ho0,hb⟩;refine ⟨_,rfl,?_⟩;have n0_:=Aside0.mk (Kd.R_lower ho0 (below_size (by repeat (first | (with_reducible first | exact HB.out | apply below_alloc | apply pw_below_drewN | apply below_drew1) | exact HB.out))));have n1_:=Aside0.mk (below_step (by repeat (first | (with_reducible first | exact HB.out | apply below_alloc | apply pw_below_drewN | apply below_drew1) | exact HB.out)) hb);clear HB;have HO200:=n0_;have HB:=n1_;clear n0_ n1_;(try clear hb);(try clear hb2);(try clear hk);(try clear hi);(try clear ho0)))
  go_ret3
  exact ⟨_,by first | rfl | (simp [errW_none,errW_some] <;> rfl) | (simp [*,errW_none,errW_some] <;> rfl),by first | exact Kd.S_nil _ _ _ _ _ | exact Kd.N_nil _ _ _ _ _ | exact Kd.V_nil _ _ _ _ _ | exact Kd.Q_nil _ _ _ _ _ | exact Kd.R_nil _ _ _ _ _,by repeat (first | (with_reducible first | exact HB.out | apply below_alloc | apply pw_below_drewN | apply below_drew1) | exact HB.out)⟩
end Go.Proofs.YtdomcbebbhbdlaaGreatDoor.PLogsGauges
