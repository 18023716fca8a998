/- Functions of the law, of the program and of the document's answer: contracts. Conditions: those that each states. -/
import Derived.Test.YtdomcbebbhbdlaaGreatDoorGb
import Derived.Lib.ItoaNum
import Derived.Deep.RegionWith
import Derived.Lib.AtoiErrMem
import Derived.Test.YtdomcbebbhbdlaaGreatDoorGe
import Derived.Deep.RegionHeld3
import Derived.Test.YtdomcbebbhbdlaaGreatDoorVb
import Derived.Lib.Builder
import Derived.Lib.AppendStr
import Derived.Lib.UnsafeStr
import Derived.Laws.Externs
import Derived.RangeFuncNested
import Derived.RangeFuncBound
import Derived.RangeFuncCalls
import Derived.RangeFuncLeaves
import Derived.RangeFuncKeeps
import Derived.OwnWalkIn
import Derived.TacticsInMore
import Derived.LoopNIn
import Derived.LoopIn
import Derived.RangeFuncBox
import Derived.Deep.CutRange
import Derived.Shelf.RegionOpen
import Derived.Lib.PathFns
import Derived.Lib.SplitLaws
import Derived.Laws.ResultCell
import Derived.Test.YtdomcbebbhbdlaaGreatDoorGa
set_option linter.unusedSimpArgs false
set_option linter.unusedVariables false
namespace Go.Proofs.YtdomcbebbhbdlaaGreatDoor.PLogsBills
open Go.RowKit Go.Proofs.YtdomcbebbhbdlaaGreatDoorW.PrintWords Go.Proofs.YtdomcbebbhbdlaaGreatDoorW.PrintLast Go.Proofs.YtdomcbebbhbdlaaGreatDoorW.PrintMore
attribute [local go_sem] max2_int min2_int max_two min_two max_three min_three max_four min_four
def logs_weigh.l0:Nat → Int → Int → List Int → Int → Int → Option (Int)
 | 0,_,_,_,_,_=>none
 | k + 1,x1,x4,x7,x8,x9=>if x9 < x8 then (if 0 ≤ x9 then (if x9 < (x7.length:Int) then (logs_weigh.l0 k x1 (wrap64 (x4 + (wrap64 ((wrap64 (x9 + 1)) * (wrap64 (rd x7 x9)))))) x7 x8 (wrap64 (x9 + 1))) else (none)) else (none)) else (if x1=0 then (none) else (some (Int.tmod x4 x1)))
def logs_weigh.f (k:Nat) (l0:List Int) (a1:Int):Option (Int):=logs_weigh.l0 k a1 0 l0 (l0.length:Int) 0
set_option maxHeartbeats 8000000 in
set_option maxRecDepth 100000 in
theorem logs_weigh.calls (k:Nat) (A0:Option Addr) (c0:Nat) (l0:List Int) (a1:Int) (r:Int) (w:World) (hr0:Kd.C (Kd.int .u8) w A0 l0.length l0) (hc0:l0.length ≤ c0) (h:logs_weigh.f k l0 a1=some r) :
  Calls Tryz.prog 113 #[.slice A0 l0.length c0,.int .i64 a1] w fun e w'=>e=.returned (.int .i64 r) ∧ Drawn0 w w':=by
 have HR0:=Aside0.mk hr0
 have HC0:=Aside0.mk hc0
 clear hr0 hc0
 have H:(logs_weigh.l0 k a1 0 l0 (l0.length:Int) 0)=some r:=h
 clear h
 have H':=Aside0.mk H
 clear H
 go_enter Tryz.func113,Tryz.ntmps113
 go_wp2
 go_loopg [4,9] k (fun kq v4 v9 w'=>∃ (x4_1:Int) (x9_1:Int),v4=.int .i64 x4_1 ∧ v9=.int .i64 x9_1 ∧ Aside0 (logs_weigh.l0 kq a1 x4_1 l0 (l0.length:Int) x9_1=some r) ∧ Aside0 (kq ≤ k) ∧ Drawn0 w w')
 case atStart=>exact ⟨(0),(0),(by first | rfl | (simp;done) | (simp [*];done)),(by first | rfl | (simp;done) | (simp [*];done)),H',⟨Nat.le_refl _⟩,by repeat (first | exact Drawn0.refl _ | apply Drawn0.step)⟩
 case round =>
  clear H'
  try clear c1
  try clear p2
  obtain ⟨x4_1,x9_1,rfl,rfl,HA,HK1,⟨m1,rfl⟩⟩:=hrel
  cases gk with
  | zero=>exact absurd HA.out (by simp [logs_weigh.l0])
  | succ k1 =>
   have H:=HA.out
   clear HA
   simp only [logs_weigh.l0] at H
   by_cases c3:x9_1 < (l0.length:Int)
   ·rw [if_pos c3] at H
    have c3b0:decide (x9_1 < (l0.length:Int))=true:=decide_eq_true c3
    clear c3
    by_cases c4:0 ≤ x9_1
    ·rw [if_pos c4] at H
     have c4b0:decide (0 ≤ x9_1)=true:=decide_eq_true c4
     clear c4
     by_cases c5:x9_1 < (l0.length:Int)
     ·rw [if_pos c5] at H
      have c5b0:decide (x9_1 < (l0.length:Int))=true:=decide_eq_true c5
      clear c5
      have H':=Aside0.mk H
      clear H
      have p128:0 ≤ (x9_1:Int):=of_decide_eq_true (by first | (with_reducible assumption) | assumption)
      have q128:x9_1 < (l0.length:Int):=of_decide_eq_true (by first | (with_reducible assumption) | assumption)
      obtain ⟨ad128,e128,hx128_0⟩:=Kd.at_int HR0.out x9_1 p128 q128
      cases e128
      replace p128:=eq_true p128
      replace q128:=eq_true q128
      go_wp2
      go_roundg k1
      case measure=>have:=HK1.out;omega
      case rel=>exact ⟨(wrap64 (x4_1 + (wrap64 ((wrap64 (x9_1 + 1)) * (wrap64 (rd l0 x9_1)))))),(wrap64 (x9_1 + 1)),(by first | rfl | (simp;done) | (simp [*];done)),(by first | rfl | (simp;done) | (simp [*];done)),H',⟨by have:=HK1.out;omega⟩,by repeat (first | exact Drawn0.refl _ | apply Drawn0.step)⟩
     ·rw [if_neg c5] at H
      exact absurd H (by simp)
    ·rw [if_neg c4] at H
     exact absurd H (by simp)
   ·rw [if_neg c3] at H
    have c3b0:decide (x9_1 < (l0.length:Int))=false:=decide_eq_false c3
    clear c3
    by_cases c6:a1=0
    ·rw [if_pos c6] at H
     exact absurd H (by simp)
    ·rw [if_neg c6] at H
     have c6b0:(a1 == 0)=false:=beq_eq_false_iff_ne.mpr c6
     have c6b1:(a1 != 0)=true:=bne_iff_ne.mpr c6
     obtain rfl:=Option.some.inj H
     go_wp2
     go_ret
     exact ⟨by first | rfl | (simp;done) | (simp [*];done),by repeat (first | exact Drawn0.refl _ | apply Drawn0.step)⟩
def lw_ints.f (l0:List Int):Option (List Int):=(some (([]:List Int):List Int)).bind fun y156=>(if y156.length + l0.length < 17592186044416 then (some (y156 ++ l0)) else (none))
set_option maxHeartbeats 8000000 in
set_option maxRecDepth 100000 in
theorem lw_ints.calls (A0:Option Addr) (c0:Nat) (l0:List Int) (r:List Int) (w:World) (hr0:Kd.C (Kd.int .i64) w A0 l0.length l0) (hc0:l0.length ≤ c0) (h:lw_ints.f l0=some r) :
  Calls Tryz.prog 22 #[.slice A0 l0.length c0] w fun e w'=>∃ v0_:Value,e=.returned (v0_) ∧ Kd.R (Kd.int .i64) 3 w' w.heap.size (fun _=>True) v0_ r ∧ Below w.heap.size w w':=by
 have HR0:=Aside0.mk hr0
 have HC0:=Aside0.mk hc0
 clear hr0 hc0
 have HB:=Aside0.mk (Below.refl w.heap.size w)
 have H:((some (([]:List Int):List Int)).bind fun y156=>(if y156.length + l0.length < 17592186044416 then (some (y156 ++ l0)) else (none)))=some r:=h
 clear h
 obtain ⟨y156,hy156⟩:∃ y_:List Int,y_=(([]:List Int)):=⟨_,rfl⟩
 replace H:(if y156.length + l0.length < 17592186044416 then (some (y156 ++ l0)) else (none))=some r:=by first | (rw [hy156];with_reducible exact H) | (have H2_:=(Option.bind_some _ _).symm.trans H;rw [hy156];with_reducible exact H2_) | (have H2_:=(Option.bind_some _ _).symm.trans H;with_reducible exact H2_) | with_reducible exact H | (rw [hy156];exact H) | exact H
 have Ny156:=Aside0.mk hy156
 clear hy156
 by_cases c2:y156.length + l0.length < 17592186044416
 ·rw [if_pos c2] at H
  have LMc2:=Aside0.mk c2
  clear c2
  obtain ⟨y159,hy159⟩:∃ y_:List Int,y_=(y156 ++ l0):=⟨_,rfl⟩
  replace H:(some y159)=some r:=by first | (rw [hy159];with_reducible exact H) | (have H2_:=(Option.bind_some _ _).symm.trans H;rw [hy159];with_reducible exact H2_) | (have H2_:=(Option.bind_some _ _).symm.trans H;with_reducible exact H2_) | with_reducible exact H | (rw [hy159];exact H) | exact H
  have Ny159:=Aside0.mk hy159
  clear hy159
  obtain rfl:=Option.some.inj H
  go_enter Tryz.func22,Tryz.ntmps22
  go_wp2_with (first | ((with_reducible refine gate_dst (N:=3) rfl ?_);refine Kd.R_lit (Kd.int .i64) _ 3 ?hg (N:=3) ?hd (xs:=([]:List Int)) (inner:=[]) (ok:=fun _=>True) (okp:=fun _=>True) ?hr ?hp (fun _ hk=>hk) trivial (Below.refl _ _) (Nat.le_refl _) (by simp) ?_;(case hd=>rfl);(case hg=>rfl);(case hr=>first | (go_simp;done) | (go_simp;rfl));(case hp=>exact (Reps.none _ _));intro v157 w3 ho4 hb hg_ hnew_;clear hg_ hnew_;(first | rw [← Ny156.out] at ho4 | (simp only [Int.reduceToNat] at ho4;rw [← Ny156.out] at ho4));have n0_:=Aside0.mk (Kd.R_lower ho4 (below_size (by repeat (first | (with_reducible first | exact HB.out | apply below_alloc | apply pw_below_drewN | apply below_drew1) | exact HB.out))));have n1_:=Aside0.mk (below_step (by repeat (first | (with_reducible first | exact HB.out | apply below_alloc | apply pw_below_drewN | apply below_drew1) | exact HB.out)) hb);clear HB;have HO158:=n0_;have HB:=n1_;clear n0_ n1_;clear hb ho4) | ((with_reducible refine gate_builtin (b:=.append) (xs:=#[.tmp 3,.tmp 4]) rfl ?_);at_builtin;refine Kd.R_append_rows (Kd.int .i64) (w0:=w) w.heap.size rfl (.tmp 3) (.tmp 4) 24 3 (.int .i64 0) 8 rfl Tryz.underlying24 info3 rfl (by decide) (by omega) v157 y156 l0 _ _ _ (fun _=>True) (fun _=>False) rfl rfl ?aO ?aR (fun _ _ h=>h) (fun _ h=>h.elim) ?aF ?aB ?aS ?aL ?_;(case aR=>repeat (first | exact (Kd.C_below HR0.out HB.out) | (with_reducible refine Kd.C_alloc ?_ _) | (with_reducible refine Kd.C_drewN ?_ _) | (with_reducible refine Kd.C_drew ?_)));(case aB=>exact (by repeat (first | (with_reducible first | exact HB.out | apply below_alloc | apply pw_below_drewN | apply below_drew1) | exact HB.out)));(case aF=>exact (fun _ _=>trivial));(case aO=>exact (by (with_reducible repeat (first | apply Kd.R_alloc | apply Kd.R_drewN | apply Kd.R_drew));exact HO158.out));(case aS=>exact (below_size (by repeat (first | (with_reducible first | exact HB.out | apply below_alloc | apply pw_below_drewN | apply below_drew1) | exact HB.out))));(case aL=>have:=LMc2.out;omega);intro v160 w5 ho hb hg hat;rw [← Ny159.out] at ho;have n0_:=Aside0.mk (hb);have n1_:=Aside0.mk (ho);clear HB;clear HO158;have HB:=n0_;have HO161:=n1_;clear n0_ n1_;clear ho hb hg hat))
  go_ret
  exact ⟨_,by first | rfl | (simp [errW_none,errW_some] <;> rfl) | (simp [*,errW_none,errW_some] <;> rfl),by (with_reducible repeat (first | apply Kd.R_alloc | apply Kd.R_drewN | apply Kd.R_drew));exact HO161.out,by repeat (first | (with_reducible first | exact HB.out | apply below_alloc | apply pw_below_drewN | apply below_drew1) | exact HB.out)⟩
 ·rw [if_neg c2] at H
  exact absurd H (by simp)
def rf_In.f (a0:Int) (a1:Int) (a2:Int):Option (Bool):=if a0 ≥ a1 then (some (decide (a0 ≤ a2))) else (some false)
set_option maxHeartbeats 8000000 in
set_option maxRecDepth 100000 in
theorem rf_In.calls (a0:Int) (a1:Int) (a2:Int) (r:Bool) (w:World) (h:rf_In.f a0 a1 a2=some r) :
  Calls Tryz.prog 60 #[.int .i64 a0,.int .i64 a1,.int .i64 a2] w fun e w'=>e=.returned (.bool r) ∧ Drawn0 w w':=by
 have H:(if a0 ≥ a1 then (some (decide (a0 ≤ a2))) else (some false))=some r:=h
 clear h
 by_cases c4:a0 ≥ a1
 ·rw [if_pos c4] at H
  have c4b0:decide (a1 ≤ a0)=true:=decide_eq_true c4
  clear c4
  obtain rfl:=Option.some.inj H
  go_enter Tryz.func60,Tryz.ntmps60
  go_wp2
  go_ret
  exact ⟨by first | rfl | (simp;done) | (simp [*];done),by repeat (first | exact Drawn0.refl _ | apply Drawn0.step)⟩
 ·rw [if_neg c4] at H
  have c4b0:decide (a1 ≤ a0)=false:=decide_eq_false c4
  clear c4
  obtain rfl:=Option.some.inj H
  go_enter Tryz.func60,Tryz.ntmps60
  go_wp2
  go_ret
  exact ⟨by first | rfl | (simp;done) | (simp [*];done),by repeat (first | exact Drawn0.refl _ | apply Drawn0.step)⟩
def rf_Weigh.l0:Nat → List Int → Int → Int → Int → Option (Int)
 | 0,_,_,_,_=>none
 | k + 1,x0,x1,x5,x6=>if x6 < (x0.length:Int) then (if 0 ≤ x6 then (if x1=0 then (none) else (rf_Weigh.l0 k x0 x1 (Int.tmod (wrap64 (x5 + (wrap64 ((wrap64 (x6 + 1)) * (wrap64 (rd x0 x6)))))) x1) (wrap64 (x6 + 1)))) else (none)) else (some x5)
def rf_Weigh.f (k:Nat) (l0:List Int) (a1:Int):Option (Int):=rf_Weigh.l0 k l0 a1 0 0
set_option maxHeartbeats 8000000 in
set_option maxRecDepth 100000 in
theorem rf_Weigh.calls (k:Nat) (A0:Option Addr) (c0:Nat) (l0:List Int) (a1:Int) (r:Int) (w:World) (hr0:Kd.C (Kd.int .u8) w A0 l0.length l0) (hc0:l0.length ≤ c0) (h:rf_Weigh.f k l0 a1=some r) :
  Calls Tryz.prog 97 #[.slice A0 l0.length c0,.int .i64 a1] w fun e w'=>e=.returned (.int .i64 r) ∧ Drawn0 w w':=by
 have HR0:=Aside0.mk hr0
 have HC0:=Aside0.mk hc0
 clear hr0 hc0
 have H:(rf_Weigh.l0 k l0 a1 0 0)=some r:=h
 clear h
 have H':=Aside0.mk H
 clear H
 go_enter Tryz.func97,Tryz.ntmps97
 go_wp2
 go_loopg [5,6] k (fun kq v5 v6 w'=>∃ (x5_1:Int) (x6_1:Int),v5=.int .i64 x5_1 ∧ v6=.int .i64 x6_1 ∧ Aside0 (rf_Weigh.l0 kq l0 a1 x5_1 x6_1=some r) ∧ Aside0 (kq ≤ k) ∧ Drawn0 w w')
 case atStart=>exact ⟨(0),(0),(by first | rfl | (simp;done) | (simp [*];done)),(by first | rfl | (simp;done) | (simp [*];done)),H',⟨Nat.le_refl _⟩,by repeat (first | exact Drawn0.refl _ | apply Drawn0.step)⟩
 case round =>
  clear H'
  try clear p2
  obtain ⟨x5_1,x6_1,rfl,rfl,HA,HK1,⟨m1,rfl⟩⟩:=hrel
  cases gk with
  | zero=>exact absurd HA.out (by simp [rf_Weigh.l0])
  | succ k1 =>
   have H:=HA.out
   clear HA
   simp only [rf_Weigh.l0] at H
   by_cases c3:x6_1 < (l0.length:Int)
   ·rw [if_pos c3] at H
    have c3b0:decide (x6_1 < (l0.length:Int))=true:=decide_eq_true c3
    clear c3
    by_cases c4:0 ≤ x6_1
    ·rw [if_pos c4] at H
     have c4b0:decide (0 ≤ x6_1)=true:=decide_eq_true c4
     clear c4
     by_cases c5:a1=0
     ·rw [if_pos c5] at H
      exact absurd H (by simp)
     ·rw [if_neg c5] at H
      have c5b0:(a1 == 0)=false:=beq_eq_false_iff_ne.mpr c5
      have c5b1:(a1 != 0)=true:=bne_iff_ne.mpr c5
      have H':=Aside0.mk H
      clear H
      have p198:0 ≤ (x6_1:Int):=of_decide_eq_true (by first | (with_reducible assumption) | assumption)
      have q198:x6_1 < (l0.length:Int):=of_decide_eq_true (by first | (with_reducible assumption) | assumption)
      obtain ⟨ad198,e198,hx198_0⟩:=Kd.at_int HR0.out x6_1 p198 q198
      cases e198
      replace p198:=eq_true p198
      replace q198:=eq_true q198
      go_wp2
      go_roundg k1
      case measure=>have:=HK1.out;omega
      case rel=>exact ⟨(Int.tmod (wrap64 (x5_1 + (wrap64 ((wrap64 (x6_1 + 1)) * (wrap64 (rd l0 x6_1)))))) a1),(wrap64 (x6_1 + 1)),(by first | rfl | (simp;done) | (simp [*];done)),(by first | rfl | (simp;done) | (simp [*];done)),H',⟨by have:=HK1.out;omega⟩,by repeat (first | exact Drawn0.refl _ | apply Drawn0.step)⟩
    ·rw [if_neg c4] at H
     exact absurd H (by simp)
   ·rw [if_neg c3] at H
    have c3b0:decide (x6_1 < (l0.length:Int))=false:=decide_eq_false c3
    clear c3
    obtain rfl:=Option.some.inj H
    go_wp2
    go_ret
    exact ⟨by first | rfl | (simp;done) | (simp [*];done),by repeat (first | exact Drawn0.refl _ | apply Drawn0.step)⟩
mutual
def rf_Lines.j0:Nat → ByteArray → Bool → Option (List ByteArray × Int)
 | 0,_,_=>none
 | k + 1,x0,x20=>if x20=true then (some (([]:List ByteArray),120)) else (rf_Lines.l0 k x0 (([]:List ByteArray)) 0 0)
def rf_Lines.l0:Nat → ByteArray → List ByteArray → Int → Int → Option (List ByteArray × Int)
 | 0,_,_,_,_=>none
 | k + 1,x0,x4,x6,x7=>if x7 < (x0.size:Int) then (if 0 ≤ x7 then (if (bt x0 x7)=10 then (if 0 ≤ x6 then (if x6 ≤ x7 then (if x7 ≤ (x0.size:Int) then (if x4.length < 8796093022208 then (rf_Lines.l0 k x0 (x4 ++ [x0.extract (x6:Int).toNat (x7:Int).toNat]) (wrap64 (x7 + 1)) (wrap64 (x7 + 1))) else (none)) else (none)) else (none)) else (none)) else (rf_Lines.l0 k x0 x4 x6 (wrap64 (x7 + 1)))) else (none)) else (if (x4.length:Int) > 200 then (some (([]:List ByteArray),5)) else (some (x4,0)))
end
def rf_Lines.f (k:Nat) (a0:ByteArray):Option (List ByteArray × Int):=if (a0.size:Int) > 120000 then (some (([]:List ByteArray),5)) else (if a0.toList=([]:List UInt8) then (rf_Lines.j0 k a0 false) else (if 0 ≤ (wrap64 ((a0.size:Int) - 1)) then (if (wrap64 ((a0.size:Int) - 1)) < (a0.size:Int) then (rf_Lines.j0 k a0 ((bt a0 (wrap64 ((a0.size:Int) - 1))) != 10)) else (none)) else (none)))
set_option maxHeartbeats 8000000 in
set_option maxRecDepth 100000 in
theorem rf_Lines.calls (k:Nat) (a0:ByteArray) (r1:List ByteArray) (r2:Int) (w:World) (h:rf_Lines.f k a0=some (r1,r2)) :
  Calls Tryz.prog 28 #[.string a0] w fun e w'=>∃ v0_:Value,e=.returned (.tuple #[v0_,.int .i64 r2]) ∧ Kd.R Kd.string 9 w' w.heap.size (fun _=>True) v0_ r1 ∧ Below w.heap.size w w':=by
 have HB:=Aside0.mk (Below.refl w.heap.size w)
 have H:(if (a0.size:Int) > 120000 then (some (([]:List ByteArray),5)) else (if a0.toList=([]:List UInt8) then (rf_Lines.j0 k a0 false) else (if 0 ≤ (wrap64 ((a0.size:Int) - 1)) then (if (wrap64 ((a0.size:Int) - 1)) < (a0.size:Int) then (rf_Lines.j0 k a0 ((bt a0 (wrap64 ((a0.size:Int) - 1))) != 10)) else (none)) else (none))))=some (r1,r2):=h
 clear h
 by_cases c2:(a0.size:Int) > 120000
 ·rw [if_pos c2] at H
  have c2b0:decide (120000 < (a0.size:Int))=true:=decide_eq_true c2
  have c2b1:decide (120000 < a0.size)=true:=decide_eq_true (by omega)
  clear c2
  simp only [Option.some.injEq,Prod.mk.injEq] at H
  obtain ⟨rfl,rfl⟩:=H
  go_enter Tryz.func28,Tryz.ntmps28
  go_wp2
  go_ret2
  exact ⟨_,by first | rfl | (simp [errW_none,errW_some] <;> rfl) | (simp [*,errW_none,errW_some] <;> rfl),by first | exact Kd.R_nil _ _ _ _ _ | exact Kd.N_nil _ _ _ _ _ | exact Kd.V_nil _ _ _ _ _ | exact Kd.Q_nil _ _ _ _ _ | exact Kd.S_nil _ _ _ _ _,by repeat (first | (with_reducible first | exact HB.out | apply below_alloc | apply pw_below_drewN | apply below_drew1) | exact HB.out)⟩
 ·rw [if_neg c2] at H
  have c2b0:decide (120000 < (a0.size:Int))=false:=decide_eq_false c2
  have c2b1:decide (120000 < a0.size)=false:=decide_eq_false (by omega)
  clear c2
  have HC3:=Aside0.mk H
  clear H
  go_enter Tryz.func28,Tryz.ntmps28
  go_upto_region 3 with (fail)
  go_cut [20] (fun v20 wc=>∃ (kq:Nat) (x20_2:Bool),v20=.bool x20_2 ∧ Aside0 (rf_Lines.j0 kq a0 x20_2=some (r1,r2)) ∧ Aside0 (kq ≤ k) ∧ Aside0 (Below w.heap.size w wc))
  case first =>
   have H:=HC3.out
   clear HC3
   by_cases c4:a0.toList=([]:List UInt8)
   ·rw [if_pos c4] at H
    have c4b0:(a0.toList == ([]:List UInt8))=true:=beq_iff_eq.mpr c4
    have c4b1:(a0.toList != ([]:List UInt8))=false:=bne_eq_false_iff_eq.mpr c4
    clear c4
    (first | rw [c4b0] | (simp only [i64_w,i32_w];rw [c4b0]) | skip)
    have H':=Aside0.mk H
    clear H
    go_wp2
    go_meet
    case rel=>exact ⟨_,(false),(by first | rfl | (simp;done) | (simp [*];done)),H',⟨by first | omega | exact Nat.le_refl _⟩,⟨by repeat (first | (with_reducible first | exact HB.out | apply below_alloc | apply pw_below_drewN | apply below_drew1) | exact HB.out)⟩⟩
   ·rw [if_neg c4] at H
    have c4b0:(a0.toList == ([]:List UInt8))=false:=beq_eq_false_iff_ne.mpr c4
    have c4b1:(a0.toList != ([]:List UInt8))=true:=bne_iff_ne.mpr c4
    (first | rw [c4b0] | (simp only [i64_w,i32_w];rw [c4b0]) | skip)
    obtain ⟨ji5,hji5⟩:∃ j_:Int,(wrap64 ((a0.size:Int) - 1))=j_:=⟨_,rfl⟩
    replace H:(if 0 ≤ (ji5) then (if (ji5) < (a0.size:Int) then (rf_Lines.j0 k a0 ((bt a0 (ji5)) != 10)) else (none)) else (none))=some (r1,r2):=by first | (rw [hji5] at H;exact H) | (simp only [hji5] at H ⊢;exact H)
    have hji5w:(IntKind.i64.wrap ((a0.size:Int) - 1))=ji5:=(i64_w _).trans hji5
    by_cases c6:0 ≤ (ji5)
    ·rw [if_pos c6] at H
     have c6b0:decide (0 ≤ (ji5))=true:=decide_eq_true c6
     clear c6
     by_cases c7:(ji5) < (a0.size:Int)
     ·rw [if_pos c7] at H
      have c7b0:decide ((ji5) < (a0.size:Int))=true:=decide_eq_true c7
      clear c7
      have H':=Aside0.mk H
      clear H
      have p8:0 ≤ ((ji5):Int):=of_decide_eq_true (by first | (with_reducible assumption) | assumption)
      have q8:(ji5) < (a0.size:Int):=of_decide_eq_true (by first | (with_reducible assumption) | assumption)
      have hx8:=bt_at a0 (ji5)
      replace p8:=eq_true p8
      replace q8:=eq_true q8
      go_wp2
      go_meet
      case rel=>exact ⟨_,(((bt a0 (ji5)) != 10)),(by first | rfl | (simp;done) | (simp only [← hji5] <;> (first | rfl | simp)) | (simp [*];done)),H',⟨by first | omega | exact Nat.le_refl _⟩,⟨by repeat (first | (with_reducible first | exact HB.out | apply below_alloc | apply pw_below_drewN | apply below_drew1) | exact HB.out)⟩⟩
     ·rw [if_neg c7] at H
      exact absurd H (by simp)
    ·rw [if_neg c6] at H
     exact absurd H (by simp)
  case rest =>
   clear HC3
   try clear c2
   try clear c2b0
   try clear c2b1
   try clear p2
   try clear c4
   try clear c4b0
   try clear c4b1
   try clear c6
   try clear c6b0
   try clear p6
   try clear c7
   try clear c7b0
   try clear p8
   try clear q8
   try clear hx8
   try clear p8
   try clear q8
   obtain ⟨kq,x20_2,rfl,HA,HJ2,HB⟩:=hcut
   cases kq with
   | zero=>exact absurd HA.out (by simp [rf_Lines.j0])
   | succ kj2 =>
    have H:=HA.out
    clear HA
    simp only [rf_Lines.j0] at H
    by_cases c9:x20_2=true
    ·subst c9
     have H1:(some (([]:List ByteArray),120))=some (r1,r2):=by rw [if_pos rfl] at H;exact H
     clear H
     have H:=H1
     clear H1
     simp only [Option.some.injEq,Prod.mk.injEq] at H
     obtain ⟨rfl,rfl⟩:=H
     go_wp2
     go_ret2
     exact ⟨_,by first | rfl | (simp [errW_none,errW_some] <;> rfl) | (simp [*,errW_none,errW_some] <;> rfl),by first | exact Kd.R_nil _ _ _ _ _ | exact Kd.N_nil _ _ _ _ _ | exact Kd.V_nil _ _ _ _ _ | exact Kd.Q_nil _ _ _ _ _ | exact Kd.S_nil _ _ _ _ _,by repeat (first | (with_reducible first | exact HB.out | apply below_alloc | apply pw_below_drewN | apply below_drew1) | exact HB.out)⟩
    ·replace c9:=Bool.eq_false_iff.mpr c9
     subst c9
     have H1:(rf_Lines.l0 kj2 a0 (([]:List ByteArray)) 0 0)=some (r1,r2):=by rw [if_neg (show ¬ (false=true) by decide)] at H;exact H
     clear H
     have H:=H1
     clear H1
     obtain ⟨y214,hy214⟩:∃ y_:List ByteArray,y_=(([]:List ByteArray)):=⟨_,rfl⟩
     replace H:(rf_Lines.l0 kj2 a0 y214 0 0)=some (r1,r2):=by first | (rw [hy214];with_reducible exact H) | (have H2_:=(Option.bind_some _ _).symm.trans H;rw [hy214];with_reducible exact H2_) | (have H2_:=(Option.bind_some _ _).symm.trans H;with_reducible exact H2_) | with_reducible exact H | (rw [hy214];exact H) | exact H
     have Ny214:=Aside0.mk hy214
     clear hy214
     have H':=Aside0.mk H
     clear H
     go_wp2_with (first | ((with_reducible refine gate_dst (N:=21) rfl ?_);(try (refine gate_guard (by rfl) ?_;dsimp only));refine Kd.R_lit Kd.string _ 9 ?hg (N:=21) ?hd (xs:=([]:List ByteArray)) (inner:=[]) (ok:=fun _=>True) (okp:=fun _=>True) ?hr ?hp (fun _ hk=>hk) trivial (Below.refl _ _) (Nat.le_refl _) (by simp) ?_;(case hd=>rfl);(case hg=>rfl);(case hr=>first | (go_simp;done) | (go_simp;rfl));(case hp=>exact (Reps.none _ _));intro v215 w10 ho11 hb hg_ hnew_;clear hg_ hnew_;(first | rw [← Ny214.out] at ho11 | (simp only [Int.reduceToNat] at ho11;rw [← Ny214.out] at ho11));have n0_:=Aside0.mk (Kd.R_lower ho11 (below_size (by repeat (first | (with_reducible first | exact HB.out | apply below_alloc | apply pw_below_drewN | apply below_drew1) | exact HB.out))));have n1_:=Aside0.mk (below_step (by repeat (first | (with_reducible first | exact HB.out | apply below_alloc | apply pw_below_drewN | apply below_drew1) | exact HB.out)) hb);clear HB;have HO216:=n0_;have HB:=n1_;clear n0_ n1_;clear hb ho11))
     go_loopg [4,6,7] kj2 (fun kq v4 v6 v7 w'=>∃ (x4_2:List ByteArray) (x6_2:Int) (x7_2:Int),v6=.int .i64 x6_2 ∧ v7=.int .i64 x7_2 ∧ Aside0 (rf_Lines.l0 kq a0 x4_2 x6_2 x7_2=some (r1,r2)) ∧ Aside0 (kq ≤ kj2) ∧ Aside0 (Kd.R Kd.string 9 w' w.heap.size (fun _=>True) v4 x4_2) ∧ Aside0 (Below w.heap.size w w'))
     case atStart=>exact ⟨(y214),(0),(0),(by first | rfl | (simp;done) | (simp [*];done)),(by first | rfl | (simp;done) | (simp [*];done)),H',⟨Nat.le_refl _⟩,⟨by (with_reducible repeat (first | apply Kd.R_alloc | apply Kd.R_drewN | apply Kd.R_drew));exact HO216.out⟩,⟨by repeat (first | (with_reducible first | exact HB.out | apply below_alloc | apply pw_below_drewN | apply below_drew1) | exact HB.out)⟩⟩
     case round =>
      clear H'
      try clear c2
      try clear c2b0
      try clear c2b1
      try clear p2
      try clear c4
      try clear c4b0
      try clear c4b1
      try clear c6
      try clear c6b0
      try clear p6
      try clear c7
      try clear c7b0
      try clear p8
      try clear q8
      try clear hx8
      try clear c9
      try clear p2
      try clear p6
      try clear p8
      try clear q8
      obtain ⟨x4_2,x6_2,x7_2,rfl,rfl,HA,HK2,HO_4,HB⟩:=hrel
      cases gk with
      | zero=>exact absurd HA.out (by simp [rf_Lines.l0])
      | succ k2 =>
       have H:=HA.out
       clear HA
       simp only [rf_Lines.l0] at H
       by_cases c12:x7_2 < (a0.size:Int)
       ·rw [if_pos c12] at H
        have c12b0:decide (x7_2 < (a0.size:Int))=true:=decide_eq_true c12
        clear c12
        by_cases c13:0 ≤ x7_2
        ·rw [if_pos c13] at H
         have c13b0:decide (0 ≤ x7_2)=true:=decide_eq_true c13
         clear c13
         by_cases c15:(bt a0 x7_2)=10
         ·rw [if_pos c15] at H
          have c15b0:((bt a0 x7_2) == 10)=true:=beq_iff_eq.mpr c15
          have c15b1:((bt a0 x7_2) != 10)=false:=bne_eq_false_iff_eq.mpr c15
          clear c15
          by_cases c16:0 ≤ x6_2
          ·rw [if_pos c16] at H
           have c16b0:=eq_true c16
           have c16b1:decide (0 ≤ x6_2)=true:=decide_eq_true c16
           clear c16
           by_cases c17:x6_2 ≤ x7_2
           ·rw [if_pos c17] at H
            have c17b0:=eq_true c17
            have c17b1:decide (x6_2 ≤ x7_2)=true:=decide_eq_true c17
            clear c17
            by_cases c18:x7_2 ≤ (a0.size:Int)
            ·rw [if_pos c18] at H
             have c18b0:=eq_true c18
             have c18b1:decide (x7_2 ≤ (a0.size:Int))=true:=decide_eq_true c18
             clear c18
             by_cases c19:x4_2.length < 8796093022208
             ·rw [if_pos c19] at H
              have LMc19:=Aside0.mk c19
              clear c19
              obtain ⟨y217,hy217⟩:∃ y_:List ByteArray,y_=(x4_2 ++ [a0.extract (x6_2:Int).toNat (x7_2:Int).toNat]):=⟨_,rfl⟩
              replace H:(rf_Lines.l0 k2 a0 y217 (wrap64 (x7_2 + 1)) (wrap64 (x7_2 + 1)))=some (r1,r2):=by first | (rw [hy217];with_reducible exact H) | (have H2_:=(Option.bind_some _ _).symm.trans H;rw [hy217];with_reducible exact H2_) | (have H2_:=(Option.bind_some _ _).symm.trans H;with_reducible exact H2_) | with_reducible exact H | (rw [hy217];exact H) | exact H
              have Ny217:=Aside0.mk hy217
              clear hy217
              have H':=Aside0.mk H
              clear H
              have p14:0 ≤ (x7_2:Int):=of_decide_eq_true (by first | (with_reducible assumption) | assumption)
              have q14:x7_2 < (a0.size:Int):=of_decide_eq_true (by first | (with_reducible assumption) | assumption)
              have hx14:=bt_at a0 x7_2
              replace p14:=eq_true p14
              replace q14:=eq_true q14
              go_wp2_with (first | ((with_reducible refine gate_builtin (b:=.append) (xs:=#[.tmp 36,.tmp 38]) rfl ?_);(try (refine gate_guard (by rfl) ?_;dsimp only));at_builtin;refine Kd.R_append Kd.string (w0:=w) w.heap.size rfl (.tmp 36) (.tmp 38) 68 9 (.string ⟨#[]⟩) 16 rfl Tryz.underlying68 info9 rfl (by decide) (by omega) u4 x4_2 (a0.extract (x6_2:Int).toNat (x7_2:Int).toNat) [.string (a0.extract (x6_2:Int).toNat (x7_2:Int).toNat)] (fun _=>True) (fun _=>False) rfl rfl ?aP (fun _ hk=>hk.elim) ?aF ?aO ?aB ?aS ?aL ?_;(case aP=>exact rfl);(case aB=>exact (by repeat (first | (with_reducible first | exact HB.out | apply below_alloc | apply pw_below_drewN | apply below_drew1) | exact HB.out)));(case aF=>exact (fun _ _=>trivial));(case aO=>exact (by (with_reducible repeat (first | apply Kd.R_alloc | apply Kd.R_drewN | apply Kd.R_drew));exact HO_4.out));(case aS=>exact (below_size (by repeat (first | (with_reducible first | exact HB.out | apply below_alloc | apply pw_below_drewN | apply below_drew1) | exact HB.out))));(case aL=>have:=LMc19.out;omega);intro v218 w20 ho hb hg hat;rw [← Ny217.out] at ho;have n0_:=Aside0.mk (hb);have n1_:=Aside0.mk (ho);clear HB;clear HO_4;have HB:=n0_;have HO219:=n1_;clear n0_ n1_;clear ho hb hg hat))
              go_roundg k2
              case measure=>have:=HJ2.out;have:=HK2.out;omega
              case rel=>exact ⟨(y217),(wrap64 (x7_2 + 1)),(wrap64 (x7_2 + 1)),(by first | rfl | (simp;done) | (simp [*];done)),(by first | rfl | (simp;done) | (simp [*];done)),H',⟨by have:=HJ2.out;have:=HK2.out;omega⟩,⟨by (with_reducible repeat (first | apply Kd.R_alloc | apply Kd.R_drewN | apply Kd.R_drew));exact HO219.out⟩,⟨by repeat (first | (with_reducible first | exact HB.out | apply below_alloc | apply pw_below_drewN | apply below_drew1) | exact HB.out)⟩⟩
             ·rw [if_neg c19] at H
              exact absurd H (by simp)
            ·rw [if_neg c18] at H
             exact absurd H (by simp)
           ·rw [if_neg c17] at H
            exact absurd H (by simp)
          ·rw [if_neg c16] at H
           exact absurd H (by simp)
         ·rw [if_neg c15] at H
          have c15b0:((bt a0 x7_2) == 10)=false:=beq_eq_false_iff_ne.mpr c15
          have c15b1:((bt a0 x7_2) != 10)=true:=bne_iff_ne.mpr c15
          have H':=Aside0.mk H
          clear H
          have p14:0 ≤ (x7_2:Int):=of_decide_eq_true (by first | (with_reducible assumption) | assumption)
          have q14:x7_2 < (a0.size:Int):=of_decide_eq_true (by first | (with_reducible assumption) | assumption)
          have hx14:=bt_at a0 x7_2
          replace p14:=eq_true p14
          replace q14:=eq_true q14
          go_wp2
          go_roundg k2
          case measure=>have:=HJ2.out;have:=HK2.out;omega
          case rel=>exact ⟨(x4_2),(x6_2),(wrap64 (x7_2 + 1)),(by first | rfl | (simp;done) | (simp [*];done)),(by first | rfl | (simp;done) | (simp [*];done)),H',⟨by have:=HJ2.out;have:=HK2.out;omega⟩,⟨by (with_reducible repeat (first | apply Kd.R_alloc | apply Kd.R_drewN | apply Kd.R_drew));exact HO_4.out⟩,⟨by repeat (first | (with_reducible first | exact HB.out | apply below_alloc | apply pw_below_drewN | apply below_drew1) | exact HB.out)⟩⟩
        ·rw [if_neg c13] at H
         exact absurd H (by simp)
       ·rw [if_neg c12] at H
        have c12b0:decide (x7_2 < (a0.size:Int))=false:=decide_eq_false c12
        clear c12
        by_cases c21:(x4_2.length:Int) > 200
        ·rw [if_pos c21] at H
         have c21b0:decide (200 < (x4_2.length:Int))=true:=decide_eq_true c21
         have c21b1:decide (200 < x4_2.length)=true:=decide_eq_true (by omega)
         clear c21
         simp only [Option.some.injEq,Prod.mk.injEq] at H
         obtain ⟨rfl,rfl⟩:=H
         obtain ⟨Ao22,co22,eo22⟩:=Kd.R_slice HO_4.out
         subst eo22
         go_wp2
         go_ret2
         exact ⟨_,by first | rfl | (simp [errW_none,errW_some] <;> rfl) | (simp [*,errW_none,errW_some] <;> rfl),by first | exact Kd.R_nil _ _ _ _ _ | exact Kd.N_nil _ _ _ _ _ | exact Kd.V_nil _ _ _ _ _ | exact Kd.Q_nil _ _ _ _ _ | exact Kd.S_nil _ _ _ _ _,by repeat (first | (with_reducible first | exact HB.out | apply below_alloc | apply pw_below_drewN | apply below_drew1) | exact HB.out)⟩
        ·rw [if_neg c21] at H
         have c21b0:decide (200 < (x4_2.length:Int))=false:=decide_eq_false c21
         have c21b1:decide (200 < x4_2.length)=false:=decide_eq_false (by omega)
         clear c21
         simp only [Option.some.injEq,Prod.mk.injEq] at H
         obtain ⟨rfl,rfl⟩:=H
         obtain ⟨Ao23,co23,eo23⟩:=Kd.R_slice HO_4.out
         subst eo23
         go_wp2
         go_ret2
         exact ⟨_,by first | rfl | (simp [errW_none,errW_some] <;> rfl) | (simp [*,errW_none,errW_some] <;> rfl),by (with_reducible repeat (first | apply Kd.R_alloc | apply Kd.R_drewN | apply Kd.R_drew));exact HO_4.out,by repeat (first | (with_reducible first | exact HB.out | apply below_alloc | apply pw_below_drewN | apply below_drew1) | exact HB.out)⟩
def rf_Words.l0:Nat → ByteArray → List ByteArray → Int → Int → Option (List ByteArray)
 | 0,_,_,_,_=>none
 | k + 1,x0,x3,x4,x5=>if x5 ≤ (x0.size:Int) then (if x5=(x0.size:Int) then (if 0 ≤ x4 then (if x4 ≤ x5 then (if x3.length < 8796093022208 then (rf_Words.l0 k x0 (x3 ++ [x0.extract (x4:Int).toNat (x5:Int).toNat]) (wrap64 (x5 + 1)) (wrap64 (x5 + 1))) else (none)) else (none)) else (none)) else (if 0 ≤ x5 then (if x5 < (x0.size:Int) then (if (bt x0 x5)=32 then (if 0 ≤ x4 then (if x4 ≤ x5 then (if x3.length < 8796093022208 then (rf_Words.l0 k x0 (x3 ++ [x0.extract (x4:Int).toNat (x5:Int).toNat]) (wrap64 (x5 + 1)) (wrap64 (x5 + 1))) else (none)) else (none)) else (none)) else (rf_Words.l0 k x0 x3 x4 (wrap64 (x5 + 1)))) else (none)) else (none))) else (some x3)
def rf_Words.f (k:Nat) (a0:ByteArray):Option (List ByteArray):=rf_Words.l0 k a0 (([]:List ByteArray)) 0 0
set_option maxHeartbeats 8000000 in
set_option maxRecDepth 100000 in
theorem rf_Words.calls (k:Nat) (a0:ByteArray) (r:List ByteArray) (w:World) (h:rf_Words.f k a0=some r) :
  Calls Tryz.prog 30 #[.string a0] w fun e w'=>∃ v0_:Value,e=.returned (v0_) ∧ Kd.R Kd.string 9 w' w.heap.size (fun _=>True) v0_ r ∧ Below w.heap.size w w':=by
 have HB:=Aside0.mk (Below.refl w.heap.size w)
 have H:(rf_Words.l0 k a0 (([]:List ByteArray)) 0 0)=some r:=h
 clear h
 obtain ⟨y221,hy221⟩:∃ y_:List ByteArray,y_=(([]:List ByteArray)):=⟨_,rfl⟩
 replace H:(rf_Words.l0 k a0 y221 0 0)=some r:=by first | (rw [hy221];with_reducible exact H) | (have H2_:=(Option.bind_some _ _).symm.trans H;rw [hy221];with_reducible exact H2_) | (have H2_:=(Option.bind_some _ _).symm.trans H;with_reducible exact H2_) | with_reducible exact H | (rw [hy221];exact H) | exact H
 have Ny221:=Aside0.mk hy221
 clear hy221
 have H':=Aside0.mk H
 clear H
 go_enter Tryz.func30,Tryz.ntmps30
 go_wp2_with (first | ((with_reducible refine gate_dst (N:=6) rfl ?_);refine Kd.R_lit Kd.string _ 9 ?hg (N:=6) ?hd (xs:=([]:List ByteArray)) (inner:=[]) (ok:=fun _=>True) (okp:=fun _=>True) ?hr ?hp (fun _ hk=>hk) trivial (Below.refl _ _) (Nat.le_refl _) (by simp) ?_;(case hd=>rfl);(case hg=>rfl);(case hr=>first | (go_simp;done) | (go_simp;rfl));(case hp=>exact (Reps.none _ _));intro v222 w2 ho3 hb hg_ hnew_;clear hg_ hnew_;(first | rw [← Ny221.out] at ho3 | (simp only [Int.reduceToNat] at ho3;rw [← Ny221.out] at ho3));have n0_:=Aside0.mk (Kd.R_lower ho3 (below_size (by repeat (first | (with_reducible first | exact HB.out | apply below_alloc | apply pw_below_drewN | apply below_drew1) | exact HB.out))));have n1_:=Aside0.mk (below_step (by repeat (first | (with_reducible first | exact HB.out | apply below_alloc | apply pw_below_drewN | apply below_drew1) | exact HB.out)) hb);clear HB;have HO223:=n0_;have HB:=n1_;clear n0_ n1_;clear hb ho3))
 go_loopg [3,4,5] k (fun kq v3 v4 v5 w'=>∃ (x3_1:List ByteArray) (x4_1:Int) (x5_1:Int),v4=.int .i64 x4_1 ∧ v5=.int .i64 x5_1 ∧ Aside0 (rf_Words.l0 kq a0 x3_1 x4_1 x5_1=some r) ∧ Aside0 (kq ≤ k) ∧ Aside0 (Kd.R Kd.string 9 w' w.heap.size (fun _=>True) v3 x3_1) ∧ Aside0 (Below w.heap.size w w'))
 case atStart=>exact ⟨(y221),(0),(0),(by first | rfl | (simp;done) | (simp [*];done)),(by first | rfl | (simp;done) | (simp [*];done)),H',⟨Nat.le_refl _⟩,⟨by (with_reducible repeat (first | apply Kd.R_alloc | apply Kd.R_drewN | apply Kd.R_drew));exact HO223.out⟩,⟨by repeat (first | (with_reducible first | exact HB.out | apply below_alloc | apply pw_below_drewN | apply below_drew1) | exact HB.out)⟩⟩
 case round =>
  clear H'
  try clear p2
  try clear c3
  obtain ⟨x3_1,x4_1,x5_1,rfl,rfl,HA,HK1,HO_3,HB⟩:=hrel
  cases gk with
  | zero=>exact absurd HA.out (by simp [rf_Words.l0])
  | succ k1 =>
   have H:=HA.out
   clear HA
   simp only [rf_Words.l0] at H
   by_cases c4:x5_1 ≤ (a0.size:Int)
   ·rw [if_pos c4] at H
    have c4b0:decide (x5_1 ≤ (a0.size:Int))=true:=decide_eq_true c4
    clear c4
    by_cases c5:x5_1=(a0.size:Int)
    ·rw [if_pos c5] at H
     have c5b0:(x5_1 == (a0.size:Int))=true:=beq_iff_eq.mpr c5
     have c5b1:(x5_1 != (a0.size:Int))=false:=bne_eq_false_iff_eq.mpr c5
     clear c5
     by_cases c6:0 ≤ x4_1
     ·rw [if_pos c6] at H
      have c6b0:=eq_true c6
      have c6b1:decide (0 ≤ x4_1)=true:=decide_eq_true c6
      clear c6
      by_cases c7:x4_1 ≤ x5_1
      ·rw [if_pos c7] at H
       have c7b0:=eq_true c7
       have c7b1:decide (x4_1 ≤ x5_1)=true:=decide_eq_true c7
       clear c7
       have c8b0:=eq_true (of_decide_eq_true (by first | (with_reducible assumption) | assumption):x5_1 ≤ (a0.size:Int))
       by_cases c9:x3_1.length < 8796093022208
       ·rw [if_pos c9] at H
        have LMc9:=Aside0.mk c9
        clear c9
        obtain ⟨y224,hy224⟩:∃ y_:List ByteArray,y_=(x3_1 ++ [a0.extract (x4_1:Int).toNat (x5_1:Int).toNat]):=⟨_,rfl⟩
        replace H:(rf_Words.l0 k1 a0 y224 (wrap64 (x5_1 + 1)) (wrap64 (x5_1 + 1)))=some r:=by first | (rw [hy224];with_reducible exact H) | (have H2_:=(Option.bind_some _ _).symm.trans H;rw [hy224];with_reducible exact H2_) | (have H2_:=(Option.bind_some _ _).symm.trans H;with_reducible exact H2_) | with_reducible exact H | (rw [hy224];exact H) | exact H
        have Ny224:=Aside0.mk hy224
        clear hy224
        have H':=Aside0.mk H
        clear H
        go_wp2_with (first | ((with_reducible refine gate_builtin (b:=.append) (xs:=#[.tmp 23,.tmp 28]) rfl ?_);at_builtin;refine Kd.R_append Kd.string (w0:=w) w.heap.size rfl (.tmp 23) (.tmp 28) 68 9 (.string ⟨#[]⟩) 16 rfl Tryz.underlying68 info9 rfl (by decide) (by omega) u3 x3_1 (a0.extract (x4_1:Int).toNat (x5_1:Int).toNat) [.string (a0.extract (x4_1:Int).toNat (x5_1:Int).toNat)] (fun _=>True) (fun _=>False) rfl rfl ?aP (fun _ hk=>hk.elim) ?aF ?aO ?aB ?aS ?aL ?_;(case aP=>exact rfl);(case aB=>exact (by repeat (first | (with_reducible first | exact HB.out | apply below_alloc | apply pw_below_drewN | apply below_drew1) | exact HB.out)));(case aF=>exact (fun _ _=>trivial));(case aO=>exact (by (with_reducible repeat (first | apply Kd.R_alloc | apply Kd.R_drewN | apply Kd.R_drew));exact HO_3.out));(case aS=>exact (below_size (by repeat (first | (with_reducible first | exact HB.out | apply below_alloc | apply pw_below_drewN | apply below_drew1) | exact HB.out))));(case aL=>have:=LMc9.out;omega);intro v225 w10 ho hb hg hat;rw [← Ny224.out] at ho;have n0_:=Aside0.mk (hb);have n1_:=Aside0.mk (ho);clear HB;clear HO_3;have HB:=n0_;have HO226:=n1_;clear n0_ n1_;clear ho hb hg hat))
        go_roundg k1
        case measure=>have:=HK1.out;omega
        case rel=>exact ⟨(y224),(wrap64 (x5_1 + 1)),(wrap64 (x5_1 + 1)),(by first | rfl | (simp;done) | (simp [*];done)),(by first | rfl | (simp;done) | (simp [*];done)),H',⟨by have:=HK1.out;omega⟩,⟨by (with_reducible repeat (first | apply Kd.R_alloc | apply Kd.R_drewN | apply Kd.R_drew));exact HO226.out⟩,⟨by repeat (first | (with_reducible first | exact HB.out | apply below_alloc | apply pw_below_drewN | apply below_drew1) | exact HB.out)⟩⟩
       ·rw [if_neg c9] at H
        exact absurd H (by simp)
      ·rw [if_neg c7] at H
       exact absurd H (by simp)
     ·rw [if_neg c6] at H
      exact absurd H (by simp)
    ·rw [if_neg c5] at H
     have c5b0:(x5_1 == (a0.size:Int))=false:=beq_eq_false_iff_ne.mpr c5
     have c5b1:(x5_1 != (a0.size:Int))=true:=bne_iff_ne.mpr c5
     by_cases c11:0 ≤ x5_1
     ·rw [if_pos c11] at H
      have c11b0:decide (0 ≤ x5_1)=true:=decide_eq_true c11
      clear c11
      by_cases c12:x5_1 < (a0.size:Int)
      ·rw [if_pos c12] at H
       have c12b0:decide (x5_1 < (a0.size:Int))=true:=decide_eq_true c12
       clear c12
       by_cases c14:(bt a0 x5_1)=32
       ·rw [if_pos c14] at H
        have c14b0:((bt a0 x5_1) == 32)=true:=beq_iff_eq.mpr c14
        have c14b1:((bt a0 x5_1) != 32)=false:=bne_eq_false_iff_eq.mpr c14
        clear c14
        by_cases c15:0 ≤ x4_1
        ·rw [if_pos c15] at H
         have c15b0:=eq_true c15
         have c15b1:decide (0 ≤ x4_1)=true:=decide_eq_true c15
         clear c15
         by_cases c16:x4_1 ≤ x5_1
         ·rw [if_pos c16] at H
          have c16b0:=eq_true c16
          have c16b1:decide (x4_1 ≤ x5_1)=true:=decide_eq_true c16
          clear c16
          have c17b0:=eq_true (of_decide_eq_true (by first | (with_reducible assumption) | assumption):x5_1 ≤ (a0.size:Int))
          by_cases c18:x3_1.length < 8796093022208
          ·rw [if_pos c18] at H
           have LMc18:=Aside0.mk c18
           clear c18
           obtain ⟨y227,hy227⟩:∃ y_:List ByteArray,y_=(x3_1 ++ [a0.extract (x4_1:Int).toNat (x5_1:Int).toNat]):=⟨_,rfl⟩
           replace H:(rf_Words.l0 k1 a0 y227 (wrap64 (x5_1 + 1)) (wrap64 (x5_1 + 1)))=some r:=by first | (rw [hy227];with_reducible exact H) | (have H2_:=(Option.bind_some _ _).symm.trans H;rw [hy227];with_reducible exact H2_) | (have H2_:=(Option.bind_some _ _).symm.trans H;with_reducible exact H2_) | with_reducible exact H | (rw [hy227];exact H) | exact H
           have Ny227:=Aside0.mk hy227
           clear hy227
           have H':=Aside0.mk H
           clear H
           have p13:0 ≤ (x5_1:Int):=of_decide_eq_true (by first | (with_reducible assumption) | assumption)
           have q13:x5_1 < (a0.size:Int):=of_decide_eq_true (by first | (with_reducible assumption) | assumption)
           have hx13:=bt_at a0 x5_1
           replace p13:=eq_true p13
           replace q13:=eq_true q13
           go_wp2_with (first | ((with_reducible refine gate_builtin (b:=.append) (xs:=#[.tmp 23,.tmp 28]) rfl ?_);at_builtin;refine Kd.R_append Kd.string (w0:=w) w.heap.size rfl (.tmp 23) (.tmp 28) 68 9 (.string ⟨#[]⟩) 16 rfl Tryz.underlying68 info9 rfl (by decide) (by omega) u3 x3_1 (a0.extract (x4_1:Int).toNat (x5_1:Int).toNat) [.string (a0.extract (x4_1:Int).toNat (x5_1:Int).toNat)] (fun _=>True) (fun _=>False) rfl rfl ?aP (fun _ hk=>hk.elim) ?aF ?aO ?aB ?aS ?aL ?_;(case aP=>exact rfl);(case aB=>exact (by repeat (first | (with_reducible first | exact HB.out | apply below_alloc | apply pw_below_drewN | apply below_drew1) | exact HB.out)));(case aF=>exact (fun _ _=>trivial));(case aO=>exact (by (with_reducible repeat (first | apply Kd.R_alloc | apply Kd.R_drewN | apply Kd.R_drew));exact HO_3.out));(case aS=>exact (below_size (by repeat (first | (with_reducible first | exact HB.out | apply below_alloc | apply pw_below_drewN | apply below_drew1) | exact HB.out))));(case aL=>have:=LMc18.out;omega);intro v228 w19 ho hb hg hat;rw [← Ny227.out] at ho;have n0_:=Aside0.mk (hb);have n1_:=Aside0.mk (ho);clear HB;clear HO_3;have HB:=n0_;have HO229:=n1_;clear n0_ n1_;clear ho hb hg hat))
           go_roundg k1
           case measure=>have:=HK1.out;omega
           case rel=>exact ⟨(y227),(wrap64 (x5_1 + 1)),(wrap64 (x5_1 + 1)),(by first | rfl | (simp;done) | (simp [*];done)),(by first | rfl | (simp;done) | (simp [*];done)),H',⟨by have:=HK1.out;omega⟩,⟨by (with_reducible repeat (first | apply Kd.R_alloc | apply Kd.R_drewN | apply Kd.R_drew));exact HO229.out⟩,⟨by repeat (first | (with_reducible first | exact HB.out | apply below_alloc | apply pw_below_drewN | apply below_drew1) | exact HB.out)⟩⟩
          ·rw [if_neg c18] at H
           exact absurd H (by simp)
         ·rw [if_neg c16] at H
          exact absurd H (by simp)
        ·rw [if_neg c15] at H
         exact absurd H (by simp)
       ·rw [if_neg c14] at H
        have c14b0:((bt a0 x5_1) == 32)=false:=beq_eq_false_iff_ne.mpr c14
        have c14b1:((bt a0 x5_1) != 32)=true:=bne_iff_ne.mpr c14
        have H':=Aside0.mk H
        clear H
        have p13:0 ≤ (x5_1:Int):=of_decide_eq_true (by first | (with_reducible assumption) | assumption)
        have q13:x5_1 < (a0.size:Int):=of_decide_eq_true (by first | (with_reducible assumption) | assumption)
        have hx13:=bt_at a0 x5_1
        replace p13:=eq_true p13
        replace q13:=eq_true q13
        go_wp2
        go_roundg k1
        case measure=>have:=HK1.out;omega
        case rel=>exact ⟨(x3_1),(x4_1),(wrap64 (x5_1 + 1)),(by first | rfl | (simp;done) | (simp [*];done)),(by first | rfl | (simp;done) | (simp [*];done)),H',⟨by have:=HK1.out;omega⟩,⟨by (with_reducible repeat (first | apply Kd.R_alloc | apply Kd.R_drewN | apply Kd.R_drew));exact HO_3.out⟩,⟨by repeat (first | (with_reducible first | exact HB.out | apply below_alloc | apply pw_below_drewN | apply below_drew1) | exact HB.out)⟩⟩
      ·rw [if_neg c12] at H
       exact absurd H (by simp)
     ·rw [if_neg c11] at H
      exact absurd H (by simp)
   ·rw [if_neg c4] at H
    have c4b0:decide (x5_1 ≤ (a0.size:Int))=false:=decide_eq_false c4
    clear c4
    obtain rfl:=Option.some.inj H
    go_wp2
    go_ret
    exact ⟨_,by first | rfl | (simp [errW_none,errW_some] <;> rfl) | (simp [*,errW_none,errW_some] <;> rfl),by (with_reducible repeat (first | apply Kd.R_alloc | apply Kd.R_drewN | apply Kd.R_drew));exact HO_3.out,by repeat (first | (with_reducible first | exact HB.out | apply below_alloc | apply pw_below_drewN | apply below_drew1) | exact HB.out)⟩
def rf_Digits.l0:Nat → ByteArray → Int → Int → Option (Int × Int)
 | 0,_,_,_=>none
 | k + 1,x0,x4,x5=>if x5 < (x0.size:Int) then (if x5 < 6 then (if 0 ≤ x5 then (if (bt x0 x5) ≥ 48 then (if (bt x0 x5) ≤ 57 then (rf_Digits.l0 k x0 (wrap64 ((wrap64 (10 * x4)) + (((bt x0 x5) - 48) % 256))) (wrap64 (x5 + 1))) else (some (x4,x5))) else (some (x4,x5))) else (none)) else (some (x4,x5))) else (some (x4,x5))
def rf_Digits.f (k:Nat) (a0:ByteArray):Option (Int × Int):=rf_Digits.l0 k a0 0 0
set_option maxHeartbeats 8000000 in
set_option maxRecDepth 100000 in
theorem rf_Digits.calls (k:Nat) (a0:ByteArray) (r1:Int) (r2:Int) (w:World) (h:rf_Digits.f k a0=some (r1,r2)) :
  Calls Tryz.prog 31 #[.string a0] w fun e w'=>e=.returned (.tuple #[.int .i64 r1,.int .i64 r2]) ∧ Drawn0 w w':=by
 have H:(rf_Digits.l0 k a0 0 0)=some (r1,r2):=h
 clear h
 have H':=Aside0.mk H
 clear H
 go_enter Tryz.func31,Tryz.ntmps31
 go_wp2
 go_loopg [4,5] k (fun kq v4 v5 w'=>∃ (x4_1:Int) (x5_1:Int),v4=.int .i64 x4_1 ∧ v5=.int .i64 x5_1 ∧ Aside0 (rf_Digits.l0 kq a0 x4_1 x5_1=some (r1,r2)) ∧ Aside0 (kq ≤ k) ∧ Drawn0 w w')
 case atStart=>exact ⟨(0),(0),(by first | rfl | (simp;done) | (simp [*];done)),(by first | rfl | (simp;done) | (simp [*];done)),H',⟨Nat.le_refl _⟩,by repeat (first | exact Drawn0.refl _ | apply Drawn0.step)⟩
 case round =>
  clear H'
  obtain ⟨x4_1,x5_1,rfl,rfl,HA,HK1,⟨m1,rfl⟩⟩:=hrel
  cases gk with
  | zero=>exact absurd HA.out (by simp [rf_Digits.l0])
  | succ k1 =>
   have H:=HA.out
   clear HA
   simp only [rf_Digits.l0] at H
   by_cases c2:x5_1 < (a0.size:Int)
   ·rw [if_pos c2] at H
    have c2b0:decide (x5_1 < (a0.size:Int))=true:=decide_eq_true c2
    clear c2
    by_cases c3:x5_1 < 6
    ·rw [if_pos c3] at H
     have c3b0:decide (x5_1 < 6)=true:=decide_eq_true c3
     clear c3
     by_cases c4:0 ≤ x5_1
     ·rw [if_pos c4] at H
      have c4b0:decide (0 ≤ x5_1)=true:=decide_eq_true c4
      clear c4
      by_cases c6:(bt a0 x5_1) ≥ 48
      ·rw [if_pos c6] at H
       have c6b0:decide (48 ≤ (bt a0 x5_1))=true:=decide_eq_true c6
       clear c6
       by_cases c8:(bt a0 x5_1) ≤ 57
       ·rw [if_pos c8] at H
        have c8b0:decide ((bt a0 x5_1) ≤ 57)=true:=decide_eq_true c8
        clear c8
        have H':=Aside0.mk H
        clear H
        have p5:0 ≤ (x5_1:Int):=of_decide_eq_true (by first | (with_reducible assumption) | assumption)
        have q5:x5_1 < (a0.size:Int):=of_decide_eq_true (by first | (with_reducible assumption) | assumption)
        have hx5:=bt_at a0 x5_1
        replace p5:=eq_true p5
        replace q5:=eq_true q5
        have p7:0 ≤ (x5_1:Int):=of_decide_eq_true (by first | (with_reducible assumption) | assumption)
        have q7:x5_1 < (a0.size:Int):=of_decide_eq_true (by first | (with_reducible assumption) | assumption)
        have hx7:=bt_at a0 x5_1
        replace p7:=eq_true p7
        replace q7:=eq_true q7
        have p9:0 ≤ (x5_1:Int):=of_decide_eq_true (by first | (with_reducible assumption) | assumption)
        have q9:x5_1 < (a0.size:Int):=of_decide_eq_true (by first | (with_reducible assumption) | assumption)
        have hx9:=bt_at a0 x5_1
        replace p9:=eq_true p9
        replace q9:=eq_true q9
        go_wp2
        go_roundg k1
        case measure=>have:=HK1.out;omega
        case rel=>exact ⟨(wrap64 ((wrap64 (10 * x4_1)) + (((bt a0 x5_1) - 48) % 256))),(wrap64 (x5_1 + 1)),(by first | rfl | (simp;done) | (simp [*];done)),(by first | rfl | (simp;done) | (simp [*];done)),H',⟨by have:=HK1.out;omega⟩,by repeat (first | exact Drawn0.refl _ | apply Drawn0.step)⟩
       ·rw [if_neg c8] at H
        have c8b0:decide ((bt a0 x5_1) ≤ 57)=false:=decide_eq_false c8
        clear c8
        simp only [Option.some.injEq,Prod.mk.injEq] at H
        obtain ⟨rfl,rfl⟩:=H
        have p5:0 ≤ (x5_1:Int):=of_decide_eq_true (by first | (with_reducible assumption) | assumption)
        have q5:x5_1 < (a0.size:Int):=of_decide_eq_true (by first | (with_reducible assumption) | assumption)
        have hx5:=bt_at a0 x5_1
        replace p5:=eq_true p5
        replace q5:=eq_true q5
        have p7:0 ≤ (x5_1:Int):=of_decide_eq_true (by first | (with_reducible assumption) | assumption)
        have q7:x5_1 < (a0.size:Int):=of_decide_eq_true (by first | (with_reducible assumption) | assumption)
        have hx7:=bt_at a0 x5_1
        replace p7:=eq_true p7
        replace q7:=eq_true q7
        go_wp2
        go_ret2
        exact ⟨by first | rfl | (simp;done) | (simp [*];done),by repeat (first | exact Drawn0.refl _ | apply Drawn0.step)⟩
      ·rw [if_neg c6] at H
       have c6b0:decide (48 ≤ (bt a0 x5_1))=false:=decide_eq_false c6
       clear c6
       simp only [Option.some.injEq,Prod.mk.injEq] at H
       obtain ⟨rfl,rfl⟩:=H
       have p5:0 ≤ (x5_1:Int):=of_decide_eq_true (by first | (with_reducible assumption) | assumption)
       have q5:x5_1 < (a0.size:Int):=of_decide_eq_true (by first | (with_reducible assumption) | assumption)
       have hx5:=bt_at a0 x5_1
       replace p5:=eq_true p5
       replace q5:=eq_true q5
       go_wp2
       go_ret2
       exact ⟨by first | rfl | (simp;done) | (simp [*];done),by repeat (first | exact Drawn0.refl _ | apply Drawn0.step)⟩
     ·rw [if_neg c4] at H
      exact absurd H (by simp)
    ·rw [if_neg c3] at H
     have c3b0:decide (x5_1 < 6)=false:=decide_eq_false c3
     clear c3
     simp only [Option.some.injEq,Prod.mk.injEq] at H
     obtain ⟨rfl,rfl⟩:=H
     go_wp2
     go_ret2
     exact ⟨by first | rfl | (simp;done) | (simp [*];done),by repeat (first | exact Drawn0.refl _ | apply Drawn0.step)⟩
   ·rw [if_neg c2] at H
    have c2b0:decide (x5_1 < (a0.size:Int))=false:=decide_eq_false c2
    clear c2
    simp only [Option.some.injEq,Prod.mk.injEq] at H
    obtain ⟨rfl,rfl⟩:=H
    go_wp2
    go_ret2
    exact ⟨by first | rfl | (simp;done) | (simp [*];done),by repeat (first | exact Drawn0.refl _ | apply Drawn0.step)⟩
def lw_equal.l0:Nat → List Int → List Int → Int → Option (Bool)
 | 0,_,_,_=>none
 | k + 1,x0,x1,x5=>if x5 < (x0.length:Int) then (if 0 ≤ x5 then (if x5 < (x1.length:Int) then (if (rd x0 x5)=(rd x1 x5) then (lw_equal.l0 k x0 x1 (wrap64 (x5 + 1))) else (some false)) else (none)) else (none)) else (some true)
def lw_equal.f (k:Nat) (l0:List Int) (l1:List Int):Option (Bool):=if (l0.length:Int)=(l1.length:Int) then (lw_equal.l0 k l0 l1 0) else (some false)
set_option maxHeartbeats 8000000 in
set_option maxRecDepth 100000 in
theorem lw_equal.calls (k:Nat) (A0:Option Addr) (c0:Nat) (l0:List Int) (A1:Option Addr) (c1:Nat) (l1:List Int) (r:Bool) (w:World) (hr0:Kd.C (Kd.int .i64) w A0 l0.length l0) (hc0:l0.length ≤ c0) (hr1:Kd.C (Kd.int .i64) w A1 l1.length l1) (hc1:l1.length ≤ c1) (h:lw_equal.f k l0 l1=some r) :
  Calls Tryz.prog 32 #[.slice A0 l0.length c0,.slice A1 l1.length c1] w fun e w'=>e=.returned (.bool r) ∧ Drawn0 w w':=by
 have HR0:=Aside0.mk hr0
 have HC0:=Aside0.mk hc0
 clear hr0 hc0
 have HR1:=Aside0.mk hr1
 have HC1:=Aside0.mk hc1
 clear hr1 hc1
 have H:(if (l0.length:Int)=(l1.length:Int) then (lw_equal.l0 k l0 l1 0) else (some false))=some r:=h
 clear h
 by_cases c3:(l0.length:Int)=(l1.length:Int)
 ·rw [if_pos c3] at H
  have c3b0:((l0.length:Int) == (l1.length:Int))=true:=beq_iff_eq.mpr c3
  have c3b1:((l0.length:Int) != (l1.length:Int))=false:=bne_eq_false_iff_eq.mpr c3
  have c3b2:(l0.length == l1.length)=true:=by first | simpa using c3 | (simp at c3 ⊢;omega)
  clear c3
  have H':=Aside0.mk H
  clear H
  go_enter Tryz.func32,Tryz.ntmps32
  go_wp2
  repeat (go_quiet (fail);try go_wp2)
  go_loopg [5] k (fun kq v5 w'=>∃ (x5_1:Int),v5=.int .i64 x5_1 ∧ Aside0 (lw_equal.l0 kq l0 l1 x5_1=some r) ∧ Aside0 (kq ≤ k) ∧ Drawn0 w w')
  case atStart=>exact ⟨(0),(by first | rfl | (simp;done) | (simp [*];done)),H',⟨Nat.le_refl _⟩,by repeat (first | exact Drawn0.refl _ | apply Drawn0.step)⟩
  case round =>
   clear H'
   try clear c1
   try clear p2
   try clear c3
   try clear c3b0
   try clear c3b1
   try clear c3b2
   obtain ⟨x5_1,rfl,HA,HK1,⟨m1,rfl⟩⟩:=hrel
   cases gk with
   | zero=>exact absurd HA.out (by simp [lw_equal.l0])
   | succ k1 =>
    have H:=HA.out
    clear HA
    simp only [lw_equal.l0] at H
    by_cases c4:x5_1 < (l0.length:Int)
    ·rw [if_pos c4] at H
     have c4b0:decide (x5_1 < (l0.length:Int))=true:=decide_eq_true c4
     clear c4
     by_cases c5:0 ≤ x5_1
     ·rw [if_pos c5] at H
      have c5b0:decide (0 ≤ x5_1)=true:=decide_eq_true c5
      clear c5
      by_cases c6:x5_1 < (l1.length:Int)
      ·rw [if_pos c6] at H
       have c6b0:decide (x5_1 < (l1.length:Int))=true:=decide_eq_true c6
       clear c6
       by_cases c7:(rd l0 x5_1)=(rd l1 x5_1)
       ·rw [if_pos c7] at H
        have c7b0:((rd l0 x5_1) == (rd l1 x5_1))=true:=beq_iff_eq.mpr c7
        have c7b1:((rd l0 x5_1) != (rd l1 x5_1))=false:=bne_eq_false_iff_eq.mpr c7
        clear c7
        have H':=Aside0.mk H
        clear H
        have p238:0 ≤ (x5_1:Int):=of_decide_eq_true (by first | (with_reducible assumption) | assumption)
        have q238:x5_1 < (l0.length:Int):=of_decide_eq_true (by first | (with_reducible assumption) | assumption)
        obtain ⟨ad238,e238,hx238_0⟩:=Kd.at_int HR0.out x5_1 p238 q238
        cases e238
        replace p238:=eq_true p238
        replace q238:=eq_true q238
        have p239:0 ≤ (x5_1:Int):=of_decide_eq_true (by first | (with_reducible assumption) | assumption)
        have q239:x5_1 < (l1.length:Int):=of_decide_eq_true (by first | (with_reducible assumption) | assumption)
        obtain ⟨ad239,e239,hx239_0⟩:=Kd.at_int HR1.out x5_1 p239 q239
        cases e239
        replace p239:=eq_true p239
        replace q239:=eq_true q239
        go_wp2
        repeat (go_quiet (fail);try go_wp2)
        go_roundg k1
        case measure=>have:=HK1.out;omega
        case rel=>exact ⟨(wrap64 (x5_1 + 1)),(by first | rfl | (simp;done) | (simp [*];done)),H',⟨by have:=HK1.out;omega⟩,by repeat (first | exact Drawn0.refl _ | apply Drawn0.step)⟩
       ·rw [if_neg c7] at H
        have c7b0:((rd l0 x5_1) == (rd l1 x5_1))=false:=beq_eq_false_iff_ne.mpr c7
        have c7b1:((rd l0 x5_1) != (rd l1 x5_1))=true:=bne_iff_ne.mpr c7
        obtain rfl:=Option.some.inj H
        have p238:0 ≤ (x5_1:Int):=of_decide_eq_true (by first | (with_reducible assumption) | assumption)
        have q238:x5_1 < (l0.length:Int):=of_decide_eq_true (by first | (with_reducible assumption) | assumption)
        obtain ⟨ad238,e238,hx238_0⟩:=Kd.at_int HR0.out x5_1 p238 q238
        cases e238
        replace p238:=eq_true p238
        replace q238:=eq_true q238
        have p239:0 ≤ (x5_1:Int):=of_decide_eq_true (by first | (with_reducible assumption) | assumption)
        have q239:x5_1 < (l1.length:Int):=of_decide_eq_true (by first | (with_reducible assumption) | assumption)
        obtain ⟨ad239,e239,hx239_0⟩:=Kd.at_int HR1.out x5_1 p239 q239
        cases e239
        replace p239:=eq_true p239
        replace q239:=eq_true q239
        go_wp2
        repeat (go_quiet (fail);try go_wp2)
        go_ret
        exact ⟨by first | rfl | (simp;done) | (simp [*];done),by repeat (first | exact Drawn0.refl _ | apply Drawn0.step)⟩
      ·rw [if_neg c6] at H
       exact absurd H (by simp)
     ·rw [if_neg c5] at H
      exact absurd H (by simp)
    ·rw [if_neg c4] at H
     have c4b0:decide (x5_1 < (l0.length:Int))=false:=decide_eq_false c4
     clear c4
     obtain rfl:=Option.some.inj H
     go_wp2
     repeat (go_quiet (fail);try go_wp2)
     go_ret
     exact ⟨by first | rfl | (simp;done) | (simp [*];done),by repeat (first | exact Drawn0.refl _ | apply Drawn0.step)⟩
 ·rw [if_neg c3] at H
  have c3b0:((l0.length:Int) == (l1.length:Int))=false:=beq_eq_false_iff_ne.mpr c3
  have c3b1:((l0.length:Int) != (l1.length:Int))=true:=bne_iff_ne.mpr c3
  have c3b2:(l0.length == l1.length)=false:=by first | simpa using c3 | (simp at c3 ⊢;omega)
  obtain rfl:=Option.some.inj H
  go_enter Tryz.func32,Tryz.ntmps32
  go_wp2
  repeat (go_quiet (fail);try go_wp2)
  go_ret
  exact ⟨by first | rfl | (simp;done) | (simp [*];done),by repeat (first | exact Drawn0.refl _ | apply Drawn0.step)⟩
end Go.Proofs.YtdomcbebbhbdlaaGreatDoor.PLogsBills
namespace Go.Proofs.Lg
open Go.RowKit Go.Proofs.YtdomcbebbhbdlaaGreatDoorW.PrintWords Go.Proofs.YtdomcbebbhbdlaaGreatDoorW.PrintLast Go.Proofs.YtdomcbebbhbdlaaGreatDoorW.PrintMore
theorem within1 (n lo hi:Int) (p q:Addr) (w:World) (hp:w.cell? p=some (.int .i64 lo)) (hq:w.cell? q=some (.int .i64 hi)) :
  Calls Tryz.prog 70 #[.int .i64 n,.pointer (some p),.pointer (some q)] w fun e w'=>e=.returned (.bool (decide (n < lo) || decide (hi < n))) ∧ w'=w:=by
 go_enter Tryz.func70,Tryz.ntmps70
 by_cases h1:n < lo
 ·have h1b:decide (n < lo)=true:=decide_eq_true h1
  go_wp2
  go_ret
  simp [h1]
 ·have h1b:decide (n < lo)=false:=decide_eq_false h1
  go_wp2
  go_ret
  simp [h1]
def inside (lo hi:Int) (l:List Int):Bool:=l.all fun n=>!(decide (n < lo) || decide (hi < n))
theorem rd_nat (l:List Int) {i:Nat} (h:i < l.length):rd l (i:Int)=l[i]:=by
 simp [rd,h]
theorem inside_out {lo hi:Int} {l:List Int} {i:Nat} (h:i < l.length) (hb:(decide (rd l i < lo) || decide (hi < rd l i))=true):inside lo hi l=false:=by
 rw [rd_nat l h] at hb
 unfold inside
 rw [List.all_eq_false]
 refine ⟨l[i],List.getElem_mem h,?_⟩
 rw [hb]
 simp
theorem inside_step {lo hi:Int} {l:List Int} {i:Nat} (h:i < l.length) (h3:inside lo hi (l.take i)=true) (hb:(decide (rd l i < lo) || decide (hi < rd l i))=false):inside lo hi (l.take (i + 1))=true:=by
 rw [rd_nat l h] at hb
 unfold inside at h3 ⊢
 rw [List.take_add_one,List.all_append,h3]
 simpa [h] using hb
theorem indexFunc (A:Option Addr) (c:Nat) (l:List Int) (lo hi:Int) (p q:Addr) (w:World) (hr:Kd.C (Kd.int .i64) w A l.length l) (hc:l.length ≤ c) (hl:l.length ≤ 1000000)
  (hp:w.cell? p=some (.int .i64 lo)) (hq:w.cell? q=some (.int .i64 hi)) :
  Calls Tryz.prog 100 #[.slice A l.length c,.func (.func 70) #[] #[.pointer (some p),.pointer (some q)]] w fun e w'=>(∃ r:Int,e=.returned (.int .i64 r) ∧ decide (0 ≤ r)=!inside lo hi l) ∧ w'=w:=by
 go_enter Tryz.func100,Tryz.ntmps100
 go_wp2
 go_loopg [8] (l.length + 1) (fun kq v8 w'=>∃ i:Nat,v8=.int .i64 (i:Int) ∧ i ≤ l.length ∧ kq + i=l.length + 1 ∧ inside lo hi (l.take i)=true ∧ w'=w)
 case atStart=>exact ⟨0,rfl,by omega,rfl,rfl,rfl⟩
 case round =>
  obtain ⟨i,rfl,h1,h2,h3,rfl⟩:=hrel
  by_cases hlt:i < l.length
  ·have hltb:decide ((i:Int) < (l.length:Int))=true:=decide_eq_true (by omega)
   obtain ⟨ad,rfl,hx⟩:=Kd.at_int hr (i:Int) (by omega) (by omega)
   simp only [Int.toNat_natCast] at hx
   have p128:(0 ≤ (i:Int))=True:=eq_true (by omega)
   have q128:((i:Int) < (l.length:Int))=True:=eq_true (by omega)
   cases hb:(decide (rd l i < lo) || decide (hi < rd l i)) with
   | true =>
    go_wp2_with (go_at_call 70;refine (within1 (rd l i) lo hi p q _ hp hq).mono ?_;rw [hb];rintro e w' ⟨rfl,rfl⟩)
    go_ret
    refine ⟨⟨_,rfl,?_⟩,rfl⟩
    rw [inside_out hlt hb]
    simp
   | false =>
    go_wp2_with (go_at_call 70;refine (within1 (rd l i) lo hi p q _ hp hq).mono ?_;rw [hb];rintro e w' ⟨rfl,rfl⟩)
    go_roundg (gk - 1)
    case measure=>omega
    case rel=>exact ⟨i + 1,by simp,by omega,by omega,inside_step hlt h3 hb,rfl⟩
  ·have hltb:decide ((i:Int) < (l.length:Int))=false:=decide_eq_false (by omega)
   go_wp2
   go_ret
   refine ⟨⟨_,rfl,?_⟩,rfl⟩
   rw [List.take_of_length_le (by omega)] at h3
   rw [h3]
   rfl
theorem containsFunc (A:Option Addr) (c:Nat) (l:List Int) (lo hi:Int) (p q:Addr) (w:World) (hr:Kd.C (Kd.int .i64) w A l.length l) (hc:l.length ≤ c) (hl:l.length ≤ 1000000)
  (hp:w.cell? p=some (.int .i64 lo)) (hq:w.cell? q=some (.int .i64 hi)) :
  Calls Tryz.prog 69 #[.slice A l.length c,.func (.func 70) #[] #[.pointer (some p),.pointer (some q)]] w fun e w'=>e=.returned (.bool (!inside lo hi l)) ∧ w'=w:=by
 go_enter Tryz.func69,Tryz.ntmps69
 go_wp2_with (go_at_call 100;refine (indexFunc A c l lo hi p q _ hr hc hl hp hq).mono ?_;rintro e w' ⟨⟨r,rfl,hr2⟩,rfl⟩)
 go_ret
 exact ⟨by rw [← hr2];rfl,rfl⟩
theorem within (A:Option Addr) (c:Nat) (l:List Int) (lo hi:Int) (w:World) (hr:Kd.C (Kd.int .i64) w A l.length l) (hc:l.length ≤ c) (hl:l.length ≤ 1000000) :
  Calls Tryz.prog 39 #[.int .i64 lo,.int .i64 hi,.slice A l.length c] w fun e w'=>e=.returned (.bool (inside lo hi l)) ∧ Below w.heap.size w w':=by
 have HB:=Aside0.mk (Below.refl w.heap.size w)
 go_enter Tryz.func39,Tryz.ntmps39
 go_wp2_with (go_at_call 69;refine (containsFunc A c l lo hi _ _ _ ((Kd.C_alloc (Kd.C_alloc hr _) _)) hc hl (by simp) (by simp)).mono ?_;rintro e w' ⟨rfl,rfl⟩)
 go_ret
 exact ⟨by simp,below_alloc (below_alloc HB.out _) _⟩
theorem conv_bytes (w:World) (b c:Nat) (xs:List Int) (hl:xs.length ≤ 1000000) (h:∀ j,j < xs.length → w.cell? ⟨b,j,none⟩=some (.int .u8 (xs.getD j 0))) :
  (convert 47 9 (.slice (some ⟨b,0,none⟩) xs.length c)).run Tryz.prog w=.ok (.string (strOfNums xs)) w :=
 string_of_reads Tryz.underlying47 Tryz.underlying5 Tryz.underlying9 ⟨rfl,by omega,fun _=>⟨_,rfl,fun j hj=>by
  by_cases h0:j=0
  ·subst h0;simpa [Addr.add] using h 0 hj
  ·simpa [Addr.add,h0] using h j hj⟩⟩
theorem conv_byte (w:World) (b c:Nat) (x:Int) (h:w.cell? ⟨b,0,none⟩=some (.int .u8 x)) :
  (convert 47 9 (.slice (some ⟨b,0,none⟩) 1 c)).run Tryz.prog w=.ok (.string (strOfNums [x])) w :=
 conv_bytes w b c [x] (by simp) fun j hj=>by
  have:j=0:=by simp at hj;omega
  subst this;simpa using h
theorem str_digit (n:Nat):strOfNums [(48:Int) + (n:Int)]=⟨#[UInt8.ofNat (48 + n)]⟩:=by
 have:((48:Int) + (n:Int)).toNat=48 + n:=by omega
 simp [strOfNums,this]
set_option maxHeartbeats 8000000 in
set_option maxRecDepth 100000 in
theorem number_small (n:Nat) (hn:n < 10) (w:World) :
  Calls Tryz.prog 61 #[.int .i64 (n:Int)] w fun e w'=>e=.returned (.string ⟨(Lib.decDigits n).toArray⟩) ∧ Below w.heap.size w w':=by
 have HB:=Aside0.mk (Below.refl w.heap.size w)
 have b1:decide ((n:Int) < -9)=false:=decide_eq_false (by omega)
 have b2:decide ((n:Int) < 0)=false:=decide_eq_false (by omega)
 have b3:decide ((n:Int) < 10)=true:=decide_eq_true (by omega)
 have hcv:=conv_byte (w.alloc (.cells #[.int .u8 (48 + (n:Int))] 5)) w.heap.size 1 (48 + (n:Int)) (by simp)
 go_enter Tryz.func61,Tryz.ntmps61
 go_wp2
 go_ret
 refine ⟨?_,below_alloc HB.out _⟩
 rw [Lib.decDigits,dif_pos hn]
 rw [str_digit]
 rfl
theorem decDigits_len:∀ (u:Nat),(Lib.decDigits u).length ≤ u + 1:=by
 intro u
 induction u using Nat.strongRecOn with
 | _ u ih =>
  rw [Lib.decDigits]
  split
  ·simp
  ·have:=ih (u / 10) (by omega)
   simp only [List.length_append,List.length_cons,List.length_nil]
   omega
theorem cell_after2 {w w':World} {x:Value} {t:TypeId} (hb:Below (w.alloc (.cells #[x] t)).drew.heap.size (w.alloc (.cells #[x] t)).drew w'):w'.cell? ⟨w.heap.size,0,none⟩=some x:=by
 rw [hb.cell (by show _ < (w.heap.push _).size;simp)]
 show (w.alloc (.cells #[x] t)).cell? _=_
 simp
set_option maxHeartbeats 8000000 in
set_option maxRecDepth 100000 in
theorem number (n:Nat) (hn:n ≤ 1000000000):∀ (w:World),
  Calls Tryz.prog 61 #[.int .i64 (n:Int)] w fun e w'=>e=.returned (.string ⟨(Lib.decDigits n).toArray⟩) ∧ Below w.heap.size w w':=by
 induction n using Nat.strongRecOn with
 | _ n ih =>
  intro w
  by_cases h10:n < 10
  ·exact number_small n h10 w
  ·have HB:=Aside0.mk (Below.refl w.heap.size w)
   have b1:decide ((n:Int) < -9)=false:=decide_eq_false (by omega)
   have b2:decide ((n:Int) < 0)=false:=decide_eq_false (by omega)
   have b3:decide ((n:Int) < 10)=false:=decide_eq_false (by omega)
   have hih:=ih (n / 10) (by omega) (by omega)
   have he:((n / 10:Nat):Int)=(n:Int) / 10:=by omega
   rw [he] at hih
   have hq:IntKind.i64.wrap ((n:Int) / 10)=(n:Int) / 10:=by rw [i64_w];unfold wrap64;omega
   have ht:(n:Int).tmod 10=(n:Int) % 10:=Int.tmod_eq_emod_of_nonneg (by omega)
   have hX:IntKind.u8.wrap (48 + IntKind.u8.wrap ((n:Int) % 10))=48 + (n:Int) % 10:=by
    rw [IntKind.wrap_u8,IntKind.wrap_u8];omega
   have hcv:∀ W:World,(convert 47 9 (.slice (some ⟨W.heap.size,0,none⟩) 1 1)).run Tryz.prog (W.alloc (.cells #[.int .u8 (48 + (n:Int) % 10)] 5)) =
     .ok (.string (strOfNums [48 + (n:Int) % 10])) (W.alloc (.cells #[.int .u8 (48 + (n:Int) % 10)] 5)):=fun W=>conv_byte _ _ 1 _ (by simp)
   have hln:=decDigits_len (n / 10)
   have h1:(⟨(Lib.decDigits (n / 10)).toArray⟩:ByteArray).size=(Lib.decDigits (n / 10)).length:=by simp [ByteArray.size]
   have h2:(strOfNums [48 + (n:Int) % 10]).size=1:=by simp [strOfNums,ByteArray.size]
   have hstr:(⟨(Lib.decDigits (n / 10)).toArray⟩:ByteArray) ++ strOfNums [48 + (n:Int) % 10]=⟨(Lib.decDigits n).toArray⟩:=by
    rw [show (48:Int) + (n:Int) % 10=48 + ((n % 10:Nat):Int) by omega,str_digit]
    conv=>rhs;rw [Lib.decDigits,dif_neg h10]
    apply ByteArray.ext
    simp
   have hcb:∀ w':World,w'.cell? ⟨w.heap.size,0,none⟩=some (.int .u8 (48 + (n:Int) % 10)) → (convert 47 9 (.slice (some ⟨w.heap.size,0,none⟩) 1 1)).run Tryz.prog w'=.ok (.string (strOfNums [48 + (n:Int) % 10])) w':=fun w' h=>conv_byte w' _ 1 _ h
   generalize (⟨(Lib.decDigits (n / 10)).toArray⟩:ByteArray)=t at hih h1 hstr
   generalize strOfNums [48 + (n:Int) % 10]=d at hcv hcb h2 hstr
   have z1:(t.size + d.size ≤ 9223372036854775807)=True:=eq_true (by omega)
   have z2:decide (t.size + d.size ≤ 9223372036854775807)=true:=decide_eq_true (by omega)
   have z3:(9223372036854775807 < t.size + d.size)=False:=eq_false (by omega)
   go_enter Tryz.func61,Tryz.ntmps61
   go_upto_region 7 with (fail)
   go_region_with (go_at_call 61;refine (hih _).mono ?_;rintro e w' ⟨rfl,hb⟩;try have hcv2:=hcb w' (cell_after2 hb))
   all_goals (go_wp2;go_ret;refine ⟨rfl,?_⟩;first | exact below_step (below_drew1 (below_alloc HB.out _)) hb | exact below_alloc (below_step (below_drew1 HB.out) hb) _)
end Go.Proofs.Lg
namespace Go.Proofs.Lg
open Go.RowKit Go.Proofs.YtdomcbebbhbdlaaGreatDoorW.PrintWords Go.Proofs.YtdomcbebbhbdlaaGreatDoorW.PrintLast Go.Proofs.YtdomcbebbhbdlaaGreatDoorW.PrintMore Go.Proofs.YtdomcbebbhbdlaaGreatDoor.PLogsBills
def wsum:Nat → List Int → Int
 | _,[]=>0
 | i,x :: xs=>(i + 1) * x + wsum (i + 1) xs
def isBytes (l:List Int):Prop:=∀ x ∈ l,0 ≤ x ∧ x ≤ 255
theorem rd_drop {l:List Int} {i:Nat} (h:i < l.length):l.drop i=rd l (i:Int) :: l.drop (i + 1):=by
 rw [rd_nat l h];exact List.drop_eq_getElem_cons h
set_option maxRecDepth 100000 in
theorem logs_weigh_eq (l:List Int) (hl:l.length ≤ 5000) (hb:isBytes l):∀ (d i k:Nat) (x4:Int),i + d=l.length → d < k → 0 ≤ x4 → x4 ≤ 2000000 * (i:Int) →
  logs_weigh.l0 k 673 x4 l (l.length:Int) (i:Int)=some ((x4 + wsum i (l.drop i)) % 673):=by
 intro d
 induction d with
 | zero =>
  intro i k x4 hd hk h0 h1
  obtain ⟨m,rfl⟩:∃ m,k=m + 1:=⟨k - 1,by omega⟩
  simp only [logs_weigh.l0]
  rw [if_neg (by omega),if_neg (by omega),List.drop_of_length_le (by omega)]
  simp only [wsum,Int.add_zero]
  rw [Int.tmod_eq_emod_of_nonneg h0]
 | succ d ih =>
  intro i k x4 hd hk h0 h1
  obtain ⟨m,rfl⟩:∃ m,k=m + 1:=⟨k - 1,by omega⟩
  have hi:i < l.length:=by omega
  have hx:0 ≤ rd l (i:Int) ∧ rd l (i:Int) ≤ 255:=by rw [rd_nat l hi];exact hb _ (List.getElem_mem hi)
  simp only [logs_weigh.l0]
  rw [if_pos (by omega),if_pos (by omega),if_pos (by omega)]
  have w1:wrap64 ((i:Int) + 1)=(i:Int) + 1:=by unfold wrap64;omega
  have w2:wrap64 (rd l (i:Int))=rd l (i:Int):=by unfold wrap64;omega
  have p1:0 ≤ ((i:Int) + 1) * rd l (i:Int):=Int.mul_nonneg (by omega) hx.1
  have p2:((i:Int) + 1) * rd l (i:Int) ≤ ((i:Int) + 1) * 255:=Int.mul_le_mul_of_nonneg_left hx.2 (by omega)
  have w3:wrap64 (((i:Int) + 1) * rd l (i:Int))=((i:Int) + 1) * rd l (i:Int):=by unfold wrap64;omega
  have w4:wrap64 (x4 + ((i:Int) + 1) * rd l (i:Int))=x4 + ((i:Int) + 1) * rd l (i:Int):=by unfold wrap64;omega
  rw [w1,w2,w3,w4]
  have:=ih (i + 1) m (x4 + ((i:Int) + 1) * rd l (i:Int)) (by omega) (by omega) (by omega) (by omega)
  rw [show (((i + 1:Nat)):Int)=(i:Int) + 1 by omega] at this
  rw [this,rd_drop hi]
  simp only [wsum]
  congr 2
  omega
set_option maxRecDepth 100000 in
theorem ref_weigh_eq (l:List Int) (hl:l.length ≤ 5000) (hb:isBytes l):∀ (d i k:Nat) (x5:Int),i + d=l.length → d < k → 0 ≤ x5 → x5 < 673 →
  rf_Weigh.l0 k l 673 x5 (i:Int)=some ((x5 + wsum i (l.drop i)) % 673)
 | 0,i,k,x5,hd,hk,h0,h1=>by
  obtain ⟨m,rfl⟩:∃ m,k=m + 1:=⟨k - 1,by omega⟩
  simp only [rf_Weigh.l0]
  rw [if_neg (by omega),List.drop_of_length_le (by omega)]
  simp only [wsum,Int.add_zero]
  congr 1;omega
 | d + 1,i,k,x5,hd,hk,h0,h1=>by
  obtain ⟨m,rfl⟩:∃ m,k=m + 1:=⟨k - 1,by omega⟩
  have hi:i < l.length:=by omega
  have hx:0 ≤ rd l (i:Int) ∧ rd l (i:Int) ≤ 255:=by rw [rd_nat l hi];exact hb _ (List.getElem_mem hi)
  simp only [rf_Weigh.l0]
  rw [if_pos (by omega),if_pos (by omega),if_neg (by omega)]
  have w1:wrap64 ((i:Int) + 1)=(i:Int) + 1:=by unfold wrap64;omega
  have w2:wrap64 (rd l (i:Int))=rd l (i:Int):=by unfold wrap64;omega
  have p1:0 ≤ ((i:Int) + 1) * rd l (i:Int):=Int.mul_nonneg (by omega) hx.1
  have p2:((i:Int) + 1) * rd l (i:Int) ≤ ((i:Int) + 1) * 255:=Int.mul_le_mul_of_nonneg_left hx.2 (by omega)
  have w3:wrap64 (((i:Int) + 1) * rd l (i:Int))=((i:Int) + 1) * rd l (i:Int):=by unfold wrap64;omega
  have w4:wrap64 (x5 + ((i:Int) + 1) * rd l (i:Int))=x5 + ((i:Int) + 1) * rd l (i:Int):=by unfold wrap64;omega
  rw [w1,w2,w3,w4,Int.tmod_eq_emod_of_nonneg (by omega)]
  have:=ref_weigh_eq l hl hb d (i + 1) m ((x5 + ((i:Int) + 1) * rd l (i:Int)) % 673) (by omega) (by omega) (by omega) (by omega)
  rw [show (((i + 1:Nat)):Int)=(i:Int) + 1 by omega] at this
  rw [this,rd_drop hi]
  simp only [wsum]
  rw [show (x5 + (((i:Int) + 1) * rd l (i:Int) + wsum (i + 1) (List.drop (i + 1) l)))=(x5 + ((i:Int) + 1) * rd l (i:Int)) + wsum (i + 1) (List.drop (i + 1) l) by omega]
  congr 1
  omega
def ints (s:ByteArray):List Int:=s.data.toList.map fun b=>(b.toNat:Int)
theorem ints_bytes (s:ByteArray):isBytes (ints s):=by
 intro x hx
 simp only [ints,List.mem_map] at hx
 obtain ⟨b,_,rfl⟩:=hx
 have:=b.toNat_lt
 omega
theorem ints_length (s:ByteArray):(ints s).length=s.size:=by unfold ints;rw [List.length_map];rfl
def weight (s:ByteArray):Int:=wsum 0 (ints s) % 673
theorem logs_weigh_f (s:ByteArray) (hs:s.size ≤ 5000):logs_weigh.f (s.size + 1) (ints s) 673=some (weight s):=by
 unfold logs_weigh.f
 have:=logs_weigh_eq (ints s) (by rw [ints_length];exact hs) (ints_bytes s) s.size 0 (s.size + 1) 0 (by rw [ints_length];omega) (by omega) (by omega) (by omega)
 simpa [weight] using this
theorem ref_weigh_f (s:ByteArray) (hs:s.size ≤ 5000):rf_Weigh.f (s.size + 1) (ints s) 673=some (weight s):=by
 unfold rf_Weigh.f
 have:=ref_weigh_eq (ints s) (by rw [ints_length];exact hs) (ints_bytes s) s.size 0 (s.size + 1) 0 (by rw [ints_length];omega) (by omega) (by omega) (by omega)
 simpa [weight] using this
theorem weight_range (s:ByteArray):0 ≤ weight s ∧ weight s < 673:=by unfold weight;omega
theorem conv_str (w:World) (t:ByteArray) (ht:t.size ≤ 1000000):∃ c W1,(convert 9 47 (.string t)).run Tryz.prog w=.ok (.slice (some ⟨w.heap.size,0,none⟩) t.size c) W1 ∧
  Kd.C (Kd.int .u8) W1 (some ⟨w.heap.size,0,none⟩) (ints t).length (ints t) ∧ (ints t).length ≤ c ∧ Below w.heap.size w W1:=by
 refine ⟨_,_,Lib.run_convert_string_bytes w 9 47 5 t Tryz.underlying9 Tryz.underlying47 Tryz.underlying5,?_,?_,Lib.bytesWorld_below _ _ _⟩
 ·refine Kd.C_of_reads (enc:=Value.int .u8) (d:=(0:Int)) (h1:=fun _=>rfl) ⟨rfl,by rw [ints_length];omega,fun _=>⟨_,rfl,fun j hj=>?_⟩⟩
  rw [ints_length] at hj
  have:=Lib.bytesWorld_cell w 5 t j hj
  have e:(ints t).getD j 0=((t.data.toList.getD j 0).toNat:Int):=by
   have hj':j < t.data.toList.length:=by simpa using hj
   have h2:t.data[j]?=some (t.data[j]'(by simpa using hj')):=Array.getElem?_eq_getElem _
   simp [ints,List.getD_eq_getElem?_getD,h2]
  rw [e,← this]
  by_cases h0:j=0
  ·subst h0;simp [Addr.add]
  ·simp [Addr.add,h0]
 ·rw [ints_length];exact grownCap_ge _ _ _ _
def sealOf (t:ByteArray):ByteArray:=t ++ strOfNums [97 + weight t / 26,97 + weight t % 26] ++ ⟨#[10]⟩
set_option maxHeartbeats 8000000 in
set_option maxRecDepth 100000 in
theorem line (s:ByteArray) (hs:s.size ≤ 3000) (w:World) :
  Calls Tryz.prog 62 #[.string s] w fun e w'=>e=.returned (.string (sealOf (s ++ ⟨#[32]⟩))) ∧ Below w.heap.size w w':=by
 have HB:=Aside0.mk (Below.refl w.heap.size w)
 have hts:(s ++ ⟨#[32]⟩:ByteArray).size=s.size + 1:=by simp [ByteArray.size_append];rfl
 have y1:(s.size + 1 ≤ 9223372036854775807)=True:=eq_true (by omega)
 have y2:(9223372036854775807 < s.size + 1)=False:=eq_false (by omega)
 unfold sealOf
 obtain ⟨t,ht⟩:∃ t,s ++ ⟨#[32]⟩=t:=⟨_,rfl⟩
 rw [ht] at hts ⊢
 obtain ⟨c,W1,hcv,hC,hc,hB1⟩:=conv_str w t (by omega)
 obtain ⟨q,hq⟩:∃ q:Nat,weight t=(q:Int):=⟨(weight t).toNat,by have:=weight_range t;omega⟩
 have hqr:q < 673:=by have:=weight_range t;omega
 have hwe:=ref_weigh_f t (by omega)
 rw [hq] at hwe ⊢
 have hl:(ints t).length=s.size + 1:=by rw [ints_length,hts]
 have K:=rf_Weigh.calls (t.size + 1) _ c (ints t) 673 q W1 hC hc hwe
 rw [hl] at K
 have hX1:IntKind.u8.wrap (97 + IntKind.u8.wrap ((q:Int) / 26))=97 + (q:Int) / 26:=by
  rw [IntKind.wrap_u8,IntKind.wrap_u8];omega
 have ht2:(q:Int).tmod 26=(q:Int) % 26:=Int.tmod_eq_emod_of_nonneg (by omega)
 have hX2:IntKind.u8.wrap (97 + IntKind.u8.wrap ((q:Int) % 26))=97 + (q:Int) % 26:=by
  rw [IntKind.wrap_u8,IntKind.wrap_u8];omega
 have hd:(strOfNums [97 + (q:Int) / 26,97 + (q:Int) % 26]).size=2:=by simp [strOfNums,ByteArray.size]
 have hcv3:=fun (W:World)=>conv_bytes (W.alloc (.cells #[.int .u8 (97 + (q:Int) / 26),.int .u8 (97 + (q:Int) % 26)] 5)) W.heap.size 2 [97 + (q:Int) / 26,97 + (q:Int) % 26] (by simp) (fun j hj=>by
  have:j=0 ∨ j=1:=by simp at hj;omega
  rcases this with rfl | rfl <;> simp)
 simp only [List.length_cons,List.length_nil,Nat.zero_add,Nat.reduceAdd] at hcv3
 generalize strOfNums [97 + (q:Int) / 26,97 + (q:Int) % 26]=d at hcv3 hd ⊢
 have hcv4:∀ m,(convert 47 9 (.slice (some ⟨W1.heap.size,0,none⟩) 2 2)).run Tryz.prog ((W1.drewN m).alloc (.cells #[.int .u8 (97 + (q:Int) / 26),.int .u8 (97 + (q:Int) % 26)] 5)) =
   .ok (.string d) ((W1.drewN m).alloc (.cells #[.int .u8 (97 + (q:Int) / 26),.int .u8 (97 + (q:Int) % 26)] 5)):=fun m=>hcv3 (W1.drewN m)
 clear hcv3
 have z0:(t ++ d).size=s.size + 3:=by rw [ByteArray.size_append,hts,hd]
 have z1:(s.size + 1 + 2 ≤ 9223372036854775807)=True:=eq_true (by omega)
 have z2:(9223372036854775807 < s.size + 1 + 2)=False:=eq_false (by omega)
 have z3:(s.size + 3 + 1 ≤ 9223372036854775807)=True:=eq_true (by omega)
 have z4:(9223372036854775807 < s.size + 3 + 1)=False:=eq_false (by omega)
 go_enter Tryz.func62,Tryz.ntmps62
 go_wp2_with (go_at_call 97;refine K.mono ?_;rintro e w' ⟨rfl,⟨m,rfl⟩⟩)
 go_ret
 exact ⟨rfl,below_alloc (pw_below_drewN hB1 m) _⟩
set_option maxRecDepth 100000 in
theorem encode_ascii:∀ k:Nat,k < 128 → Utf8.encode k=⟨#[UInt8.ofNat k]⟩:=by decide
theorem encode_str (x:Int) (h0:0 ≤ x) (h:x < 128):Utf8.encode x=strOfNums [x]:=by
 obtain ⟨k,rfl⟩:∃ k:Nat,x=(k:Int):=⟨x.toNat,by omega⟩
 rw [encode_ascii k (by omega)]
 simp [strOfNums]
theorem str_two (x y:Int):strOfNums [x,y]=strOfNums [x] ++ strOfNums [y]:=by
 apply ByteArray.ext
 simp [strOfNums]
def joined (xs:List ByteArray):ByteArray:=⟨(Lib.join (xs.map (·.data.toList)) [32]).toArray⟩
set_option maxHeartbeats 8000000 in
set_option maxRecDepth 100000 in
theorem sealed (bk o c:Nat) (xs:List ByteArray) (w:World) (hcells:∀ (j:Nat) (x:ByteArray),xs[j]?=some x → w.cell? ⟨bk,o + j,none⟩=some (.string x)) (hbk:bk < w.heap.size)
  (hn:xs.length ≤ 3000) (hcap:xs.length ≤ c) (hlen:(joined xs).size ≤ 3000) :
  Calls Tryz.prog 84 #[.slice (some ⟨bk,o,none⟩) xs.length c] w fun e w'=>e=.returned (.string (sealOf (joined xs ++ ⟨#[32]⟩))) ∧ Below w.heap.size w w':=by
 have HB:=Aside0.mk (Below.refl w.heap.size w)
 have hjl:(Lib.join (List.map (fun x=>x.data.toList) xs) [32]).length=(joined xs).size:=by simp [joined,ByteArray.size]
 have KJ:=Tryz.strings_Join bk o c xs ⟨#[32]⟩ w hcells hbk (by omega) hcap (by show (Lib.join (List.map (fun x=>x.data.toList) xs) [32]).length ≤ _;omega)
 change Calls Tryz.prog 85 _ w (fun e w'=>e=.returned (.string (joined xs)) ∧ _) at KJ
 generalize joined xs=s at KJ hlen ⊢
 have hts:(s ++ ⟨#[32]⟩:ByteArray).size=s.size + 1:=by simp [ByteArray.size_append];rfl
 have y1:(s.size + 1 ≤ 9223372036854775807)=True:=eq_true (by omega)
 have y2:(9223372036854775807 < s.size + 1)=False:=eq_false (by omega)
 unfold sealOf
 obtain ⟨t,ht⟩:∃ t,s ++ ⟨#[32]⟩=t:=⟨_,rfl⟩
 rw [ht] at hts ⊢
 obtain ⟨q,hq⟩:∃ q:Nat,weight t=(q:Int):=⟨(weight t).toNat,by have:=weight_range t;omega⟩
 have hqr:q < 673:=by have:=weight_range t;omega
 have hwe:=logs_weigh_f t (by omega)
 rw [hq] at hwe ⊢
 have hl:(ints t).length=s.size + 1:=by rw [ints_length,hts]
 have hcs:=fun (W:World)=>conv_str W t (by omega)
 have ht2:(q:Int).tmod 26=(q:Int) % 26:=Int.tmod_eq_emod_of_nonneg (by omega)
 have x1:IntKind.i64.wrap (97 + (q:Int) / 26)=97 + (q:Int) / 26:=by rw [i64_w];unfold wrap64;omega
 have x2:IntKind.i64.wrap (97 + (q:Int) % 26)=97 + (q:Int) % 26:=by rw [i64_w];unfold wrap64;omega
 have x3:IntKind.i32.wrap (97 + (q:Int) / 26)=97 + (q:Int) / 26:=by rw [i32_w];unfold wrap32;omega
 have x4:IntKind.i32.wrap (97 + (q:Int) % 26)=97 + (q:Int) % 26:=by rw [i32_w];unfold wrap32;omega
 have e1:=encode_str (97 + (q:Int) / 26) (by omega) (by omega)
 have e2:=encode_str (97 + (q:Int) % 26) (by omega) (by omega)
 have d1:(strOfNums [97 + (q:Int) / 26]).size=1:=by simp [strOfNums,ByteArray.size]
 have d2:(strOfNums [97 + (q:Int) % 26]).size=1:=by simp [strOfNums,ByteArray.size]
 rw [str_two]
 generalize strOfNums [97 + (q:Int) / 26]=a1 at e1 d1 ⊢
 generalize strOfNums [97 + (q:Int) % 26]=a2 at e2 d2 ⊢
 rw [← ByteArray.append_assoc]
 have z1:(s.size + 1 + 1 ≤ 9223372036854775807)=True:=eq_true (by omega)
 have z2:(9223372036854775807 < s.size + 1 + 1)=False:=eq_false (by omega)
 have z3:(s.size + 1 + 1 + 1 ≤ 9223372036854775807)=True:=eq_true (by omega)
 have z4:(9223372036854775807 < s.size + 1 + 1 + 1)=False:=eq_false (by omega)
 have z5:(s.size + 1 + 1 + 1 + 1 ≤ 9223372036854775807)=True:=eq_true (by omega)
 have z6:(9223372036854775807 < s.size + 1 + 1 + 1 + 1)=False:=eq_false (by omega)
 have s1:(t ++ a1).size=s.size + 1 + 1:=by rw [ByteArray.size_append,hts,d1]
 have s2:(t ++ a1 ++ a2).size=s.size + 1 + 1 + 1:=by rw [ByteArray.size_append,s1,d2]
 go_enter Tryz.func84,Tryz.ntmps84
 go_upto_region 2 with (go_at_call 85;refine KJ.mono ?_;rintro e w' ⟨rfl,hb⟩)
 obtain ⟨c1,W1,hcv,hC,hc1,hB1⟩:=hcs w'
 have K:=logs_weigh.calls (t.size + 1) _ c1 (ints t) 673 q W1 hC hc1 hwe
 rw [hl] at K
 go_upto_region 3 with (go_at_call 113;refine K.mono ?_;rintro e w2 ⟨rfl,⟨m,rfl⟩⟩)
 clear hcs K hC hcv
 go_wp2
 go_ret
 exact ⟨rfl,pw_below_drewN (below_step hb hB1) m⟩
theorem tab_at : Tryz.prog.globalNamed "internal/strconv.uint64pow10" = some 5 := by kernel_rfl
structure Base (w:World):Prop where
 room:8 ≤ w.heap.size
 maxLen:∃ m,w.cell? ⟨0,0,none⟩=some (.int .i64 m)
 syn:∃ tp p,w.cell? ⟨1,0,none⟩=some (.iface tp p)
 rng:∃ tp p,w.cell? ⟨2,0,none⟩=some (.iface tp p)
 tab : Lib.TabIs Tryz.prog w "internal/strconv.uint64pow10" .u64 Lib.pow10Tab
theorem Base.below {w w':World} {n:Nat} (h:Base w) (hb:Below n w w') (hn:8 ≤ n):Base w':=by
 obtain ⟨m,hm⟩:=h.maxLen
 obtain ⟨t1,p1,h1⟩:=h.syn
 obtain ⟨t2,p2,h2⟩:=h.rng
 refine ⟨Nat.le_trans h.room hb.size,⟨m,(hb.cell (by omega:0 < n)).trans hm⟩,⟨t1,p1,(hb.cell (by omega:1 < n)).trans h1⟩,⟨t2,p2,(hb.cell (by omega:2 < n)).trans h2⟩,?_⟩
 have ht:=h.tab
 unfold Lib.TabIs World.var? at ht ⊢
 rw [tab_at] at ht ⊢
 simp only [Option.bind_some] at ht ⊢
 rw [hb.block 5 (by omega)]
 exact ht
theorem Base.step {w w':World} (h:Base w) (hb:Below w.heap.size w w'):Base w':=h.below hb h.room
def dec (n:Int):ByteArray:=⟨(Lib.decDigits n.toNat).toArray⟩
theorem below_grow {w:World} (k:Nat) (os:Array Obj):Below w.heap.size w («Sort».grow (w.drewN k) os):=by
 refine below_step (pw_below_drewN (Below.refl _ _) k) ⟨rfl,rfl,rfl,?_,fun i hi=>?_⟩
 ·simp [«Sort».grow]
 ·exact Array.getElem?_append_left (xs:=(w.drewN k).heap) hi
theorem decDigits_six (n:Nat) (h:n ≤ 100000):(Lib.decDigits n).length ≤ 6:=by
 have d:∀ m,(Lib.decDigits m).length=if m < 10 then 1 else (Lib.decDigits (m / 10)).length + 1:=by
  intro m
  rw [Lib.decDigits.eq_def]
  split <;> simp
 rw [d];split;· omega
 rw [d];split;· omega
 rw [d];split;· omega
 rw [d];split;· omega
 rw [d];split;· omega
 rw [d];split;· omega
 omega
theorem join_cons (sep x y:List UInt8) (r:List (List UInt8)):Lib.join (x :: y :: r) sep=x ++ sep ++ Lib.join (y :: r) sep:=by
 unfold Lib.join
 rw [List.intercalate,List.intersperse_cons_cons,List.flatten_cons,List.flatten_cons,List.append_assoc]
 rfl
theorem join_one (sep x:List UInt8):Lib.join [x] sep=x:=by
 unfold Lib.join
 rw [List.intercalate,List.intersperse_singleton,List.flatten_cons,List.flatten_nil,List.append_nil]
theorem join_size (sep:List UInt8):∀ (xs:List ByteArray) (m:Nat),(∀ x ∈ xs,x.size ≤ m) → (Lib.join (xs.map (·.data.toList)) sep).length ≤ xs.length * (m + sep.length):=by
 intro xs
 induction xs with
 | nil=>intro m h;exact Nat.zero_le _
 | cons x r ih =>
  intro m h
  have h1:x.size ≤ m:=h x (by simp)
  have h2:=ih m (fun y hy=>h y (by simp [hy]))
  have h1':x.data.toList.length ≤ m:=h1
  cases r with
  | nil =>
   rw [List.map_cons,List.map_nil,join_one]
   have:[x].length=1:=rfl
   rw [this]
   omega
  | cons y r =>
   have:(Lib.join ((x :: y :: r).map (·.data.toList)) sep).length=x.data.toList.length + sep.length + (Lib.join ((y :: r).map (·.data.toList)) sep).length:=by
    rw [List.map_cons,List.map_cons,join_cons]
    simp only [List.length_append,List.map_cons]
   rw [this]
   have hm:(x :: y :: r).length * (m + sep.length)=(m + sep.length) + (y :: r).length * (m + sep.length):=by
    rw [List.length_cons,Nat.add_mul];omega
   omega
theorem und103:Tryz.prog.underlying 103=some (.pointer 105):=by kernel_rfl
theorem und167:Tryz.prog.underlying 167=some .unsafePointer:=by kernel_rfl
theorem und47:Tryz.prog.underlying 47=some (.slice 5):=by kernel_rfl
theorem und9:Tryz.prog.underlying 9=some .string:=by kernel_rfl
theorem size105:(Tryz.prog.info? 105).map (·.size)=some 2:=by kernel_rfl
theorem lies105:liesAt Tryz.prog Tryz.prog.depth 105 (2 / Tryz.prog.cellsOf 105) 0 105 1=true:=by kernel_rfl
theorem infoB:(Tryz.prog.info? 5).map (fun i=>(i.zero,i.size,i.bytes))=some (some (.int .u8 0),1,1):=by kernel_rfl
set_option maxHeartbeats 1000000 in
set_option maxRecDepth 100000 in
theorem copyCheck_used (b:Nat) (w:World) (h0:w.cell? ⟨b,0,none⟩=some (.pointer (some ⟨b,0,none⟩))) :
  Calls Tryz.prog 88 #[.pointer (some ⟨b,0,none⟩)] w fun e w'=>e=.returned (.tuple #[]) ∧ w'=w:=by
 obtain ⟨j,hj,_⟩:=Option.map_eq_some_iff.1 size105
 go_enter Tryz.func88,Tryz.ntmps88
 go_wp2
 rw [Lib.run_neq_ptr_same w _ und103 hj]
 go_wp2
 go_end0
 exact ⟨rfl,rfl⟩
set_option maxHeartbeats 1000000 in
set_option maxRecDepth 100000 in
theorem copyCheck_fresh (b:Nat) (w:World) (h0:w.cell? ⟨b,0,none⟩=some (.pointer none)) (hsh:w.shape? b=some (105,2)) (hfz:w.frozen? ⟨b,0,none⟩=false) :
  Calls Tryz.prog 88 #[.pointer (some ⟨b,0,none⟩)] w fun e w'=>e=.returned (.tuple #[]) ∧ w'=w.setCell ⟨b,0,none⟩ (.pointer (some ⟨b,0,none⟩)):=by
 obtain ⟨j,hj,hjs⟩:=Option.map_eq_some_iff.1 size105
 go_enter Tryz.func88,Tryz.ntmps88
 go_wp2
 rw [Lib.run_to_unsafe w ⟨b,0,none⟩ und103 und167 hj (by rw [hjs];decide) hsh (Nat.zero_lt_succ 1)]
 simp only [Result.andThen]
 rw [Oper.upon_value]
 go_wp2
 rw [run_callFunc_extern Tryz.func118 (by kernel_rfl) (by kernel_rfl) (by kernel_rfl) (e:=Extern.AbiNoEscape.same) (by kernel_rfl)]
 rw [Lib.run_noEscape]
 simp only [Result.andThen]
 rw [Oper.upon_value]
 go_wp2
 rw [Lib.run_from_unsafe w ⟨b,0,none⟩ und167 und103 hj hsh lies105]
 simp only [Result.andThen]
 rw [Oper.upon_value]
 go_wp2
 go_end0
 exact ⟨rfl,rfl⟩
theorem copyCheck (B b:Nat) (bs:List Value) (w:World) (h:Lib.IsBuilder 105 5 B b bs w) :
  Calls Tryz.prog 88 #[.pointer (some ⟨b,0,none⟩)] w fun e w'=>e=.returned (.tuple #[]) ∧ (Lib.BuilderAt 105 5 B b (.pointer (some ⟨b,0,none⟩)) bs w' ∧ Below B w w'):=by
 rcases h with h | h
 ·refine (copyCheck_fresh b w h.cell0 h.shape h.frozen0).mono ?_
  rintro e w' ⟨rfl,rfl⟩
  exact ⟨rfl,h.used _,(Below.refl B w).setCell (p:=⟨b,0,none⟩) h.1 _⟩
 ·refine (copyCheck_used b w h.cell0).mono ?_
  rintro e w' ⟨rfl,rfl⟩
  exact ⟨rfl,h,Below.refl B _⟩
set_option maxHeartbeats 2000000 in
set_option maxRecDepth 100000 in
theorem writeString (B b:Nat) (bs:List Value) (s:ByteArray) (w:World) (h:Lib.IsBuilder 105 5 B b bs w) (hlen:bs.length + s.size ≤ 140737488355328) (hBw:B ≤ w.heap.size) :
  Calls Tryz.prog 53 #[.pointer (some ⟨b,0,none⟩),.string s] w fun e w'=>e=.returned (.tuple #[.int .i64 s.size,.nilIface]) ∧ (Lib.IsBuilder 105 5 B b (bs ++ Lib.strCells s) w' ∧ Below B w w'):=by
 obtain ⟨i0,hi,hz0,hz1,hz2⟩:=info_parts infoB
 go_enter Tryz.func53,Tryz.ntmps53
 go_wp2_with (go_at_call 88;refine (copyCheck B b bs _ h).mono ?_)
 rintro e w1 ⟨rfl,h1,hb1⟩
 obtain ⟨hB,v,hbk,hown,hne⟩:=h1
 have c0:w1.cell? ⟨b,0,none⟩=some (.pointer (some ⟨b,0,none⟩)):=by rw [Lib.cell_of_heap hbk];rfl
 have c1:w1.cell? ⟨b,1,none⟩=some v:=by rw [Lib.cell_of_heap hbk];rfl
 go_wp2_with (at_builtin;refine Lib.wpList_append_own_string _ rfl _ _ 47 9 rfl B 5 i0 und47 und9 hi hz0 hz1 hz2 _ _ _ rfl hown s rfl ?c3 ?c4 ?c5 ?_)
 case c3=>unfold maxLen;omega
 case c4=>omega
 case c5=>have:=hb1.size;omega
 intro v' w2 hown' hgrow _
 have hlt:b < w1.heap.size:=by
  rcases Nat.lt_or_ge b w1.heap.size with h' | h'
  ·exact h'
  ·simp [Array.getElem?_eq_none h'] at hbk
 have hb2:w2.heap[b]?=some (.cells #[.pointer (some ⟨b,0,none⟩),v] 105 (0,0)):=by
  rw [hgrow.block b hlt (fun e=>hne e.symm)]
  exact hbk
 have d0:w2.cell? ⟨b,0,none⟩=some (.pointer (some ⟨b,0,none⟩)):=by rw [Lib.cell_of_heap hb2];rfl
 have d1:w2.cell? ⟨b,1,none⟩=some v:=by rw [Lib.cell_of_heap hb2];rfl
 have f1:w2.frozen? ⟨b,1,none⟩=false:=Lib.frozen_of_heap hb2 1
 obtain ⟨ao,n',cap,rfl⟩:∃ ao n' cap,v'=.slice ao n' cap:=by
  rcases hown'.2 with ⟨hv,_⟩ | ⟨g,cap,cur,hv,_⟩
  ·exact ⟨_,_,_,hv⟩
  ·exact ⟨_,_,_,hv⟩
 go_wp2
 go_ret2
 refine ⟨rfl,.inr ?_,?_⟩
 ·exact Lib.BuilderAt.put (T:=105) (e:=5) hB hb2 (bs':=bs ++ Lib.strCells s) (by simpa [Lib.strCells_length] using hown') (by decide)
 ·exact (hb1.grown hgrow (by have:=hb1.size;omega) (fun k hk=>(hown.lt k hk).1)).setCell (p:=⟨b,1,none⟩) hB _
open Go.Vev in
theorem vrel_code {φ:Go.Vev.Ren} {g:FuncId} {v:Value} (h:VRel φ (.func (.func g) #[] #[]) v):v=.func (.func g) #[] #[]:=by
 cases h with
 | func g h1 h2 h3 h4 =>
  rw [Array.eq_empty_of_size_eq_zero h1.symm,Array.eq_empty_of_size_eq_zero h3.symm]
def after (p:Option Int) (n:Int):Bool:=match p with | none=>true | some m=>decide (m < n)
theorem sealOf_size (t:ByteArray):(sealOf t).size=t.size + 3:=by
 unfold sealOf
 rw [ByteArray.size_append,ByteArray.size_append]
 have:(strOfNums [97 + weight t / 26,97 + weight t % 26]).size=2:=by simp [strOfNums,ByteArray.size]
 rw [this]
 rfl
theorem isBuilder_below {B b:Nat} {bs:List Value} {w w':World} (h:Lib.IsBuilder 105 5 B b bs w) (hb:Below w.heap.size w w'):Lib.IsBuilder 105 5 B b bs w':=by
 have step:∀ p,Lib.BuilderAt 105 5 B b p bs w → Lib.BuilderAt 105 5 B b p bs w':=by
  intro p hp
  have hlt:=hp.lt
  obtain ⟨h1,v,h2,h3,h4⟩:=hp
  exact ⟨h1,v,(hb.block b hlt).trans h2,own_move h3 (fun k hk=>hb.block k (own_lt h3 k hk)),h4⟩
 rcases h with h | h
 ·exact .inl (step _ h)
 ·exact .inr (step _ h)
theorem keepCell {W w':World} {a:Addr} {v:Value} (h:W.cell? a=some v) (hb:Below W.heap.size W w'):w'.cell? a=some v:=(hb.cell (xbl W _ h)).trans h
theorem in_f (n lo hi:Int):rf_In.f n lo hi=some (decide (lo ≤ n ∧ n ≤ hi)):=by
 unfold rf_In.f
 by_cases h:n ≥ lo
 ·rw [if_pos h];congr 1;by_cases h2:n ≤ hi <;> simp [h2];omega
 ·rw [if_neg h];congr 1;simp;omega
end Go.Proofs.Lg
namespace Go.Proofs.YtdomcbebbhbdlaaGreatDoor.PLogsBills
open Go.RowKit Go.Proofs.YtdomcbebbhbdlaaGreatDoorW.PrintWords
end Go.Proofs.YtdomcbebbhbdlaaGreatDoor.PLogsBills
namespace Go.Proofs.Lg
open Go.RowKit Go.Proofs.YtdomcbebbhbdlaaGreatDoorW.PrintWords Go.Proofs.YtdomcbebbhbdlaaGreatDoorW.PrintLast Go.Proofs.YtdomcbebbhbdlaaGreatDoorW.PrintMore
theorem ba_len (l:List UInt8):(⟨l.toArray⟩:ByteArray).size=l.length:=List.size_toArray
set_option maxHeartbeats 8000000 in
set_option maxRecDepth 100000 in
theorem number_neg (m:Nat) (h1:1 ≤ m) (hm:m ≤ 1000000):∀ (w:World),
  Calls Tryz.prog 61 #[.int .i64 (-(m:Int))] w fun e w'=>e=.returned (.string ⟨(45 :: Lib.decDigits m).toArray⟩) ∧ Below w.heap.size w w':=by
 induction m using Nat.strongRecOn with
 | _ m ih =>
  intro w
  have HB:=Aside0.mk (Below.refl w.heap.size w)
  have b2:decide (-(m:Int) < 0)=true:=decide_eq_true (by omega)
  by_cases h10:m < 10
  ·have b1:decide (-(m:Int) < -9)=false:=decide_eq_false (by omega)
   have hneg:IntKind.i64.wrap (-(-(m:Int)))=(m:Int):=by rw [i64_w];unfold wrap64;omega
   have hnum:=number m (by omega)
   have hl:=decDigits_len m
   have hs:=ba_len (Lib.decDigits m)
   have hstr:(⟨#[45]⟩:ByteArray) ++ ⟨(Lib.decDigits m).toArray⟩=⟨(45 :: Lib.decDigits m).toArray⟩:=by apply ByteArray.ext;simp
   generalize (⟨(Lib.decDigits m).toArray⟩:ByteArray)=t at hnum hs hstr
   have z1:(1 + t.size ≤ 9223372036854775807)=True:=eq_true (by omega)
   have z3:(9223372036854775807 < 1 + t.size)=False:=eq_false (by omega)
   go_enter Tryz.func61,Tryz.ntmps61
   go_wp2_with (go_at_call 61;refine (hnum _).mono ?_;rintro e w' ⟨rfl,hb⟩)
   go_ret
   exact ⟨by rw [← hstr];rfl,hb⟩
  ·have b1:decide (-(m:Int) < -9)=true:=decide_eq_true (by omega)
   have hih:=ih (m / 10) (by omega) (by omega) (by omega)
   have hnum:=number (m % 10) (by omega)
   have hq:IntKind.i64.wrap ((-(m:Int)).tdiv 10)=-((m / 10:Nat):Int):=by rw [Int.neg_tdiv,i64_w];unfold wrap64;rw [Int.tdiv_eq_ediv_of_nonneg (by omega)];omega
   have hr:(-(m:Int)).tmod 10=-((m % 10:Nat):Int):=by rw [Int.neg_tmod,Int.tmod_eq_emod_of_nonneg (by omega)];omega
   have hr2:IntKind.i64.wrap (-(-((m % 10:Nat):Int)))=((m % 10:Nat):Int):=by rw [i64_w];unfold wrap64;omega
   have l1:=decDigits_len (m / 10)
   have l2:=decDigits_len (m % 10)
   have s1:=ba_len (45 :: Lib.decDigits (m / 10))
   have s2:=ba_len (Lib.decDigits (m % 10))
   simp only [List.length_cons] at s1
   have hstr:(⟨(45 :: Lib.decDigits (m / 10)).toArray⟩:ByteArray) ++ ⟨(Lib.decDigits (m % 10)).toArray⟩=⟨(45 :: Lib.decDigits m).toArray⟩:=by
    conv=>rhs;rw [Lib.decDigits,dif_neg h10]
    rw [show Lib.decDigits (m % 10)=[UInt8.ofNat (48 + m % 10)] from by rw [Lib.decDigits,dif_pos (by omega)]]
    apply ByteArray.ext
    simp
   generalize (⟨(45 :: Lib.decDigits (m / 10)).toArray⟩:ByteArray)=t at hih s1 hstr
   generalize (⟨(Lib.decDigits (m % 10)).toArray⟩:ByteArray)=d at hnum s2 hstr
   have e1:((m / 10:Nat):Int)=(m:Int) / 10:=by omega
   have e2:((m % 10:Nat):Int)=(m:Int) % 10:=by omega
   rw [e1] at hih hq
   rw [e2] at hnum hr hr2
   have z1:(t.size + d.size ≤ 9223372036854775807)=True:=eq_true (by omega)
   have z3:(9223372036854775807 < t.size + d.size)=False:=eq_false (by omega)
   clear ih e1 e2
   go_enter Tryz.func61,Tryz.ntmps61
   go_wp2_with (go_at_call 61;(first | ((with_reducible refine (hih _).mono ?_);rintro e w1 ⟨rfl,hb1⟩;have HB1:=Aside0.mk hb1;clear hb1) | ((with_reducible refine (hnum _).mono ?_);rintro e w2 ⟨rfl,hb2⟩;have HB2:=Aside0.mk hb2;clear hb2)))
   go_ret
   exact ⟨by rw [← hstr];rfl,below_step HB1.out HB2.out⟩
end Go.Proofs.Lg
namespace Go.Proofs.Lg
open Go.RowKit Go.Proofs.YtdomcbebbhbdlaaGreatDoorW.PrintWords Go.Proofs.YtdomcbebbhbdlaaGreatDoorW.PrintLast Go.Proofs.YtdomcbebbhbdlaaGreatDoorW.PrintMore Go.Proofs.YtdomcbebbhbdlaaGreatDoor.PLogsBills
def numOf (s:ByteArray):Int:=match Lib.atoiAll s.data.toList with | .ok v=>v | _=>-1
theorem atoi (s:ByteArray) (hs:s.size ≤ 1000000) (w:World) (hw:Base w) :
  Calls Tryz.prog 67 #[.string s] w fun e w'=>(∃ v a,e=.returned (.tuple #[.int .i64 v,a]) ∧ ((a=.nilIface ∧ numOf s=v) ∨ (∃ q,a=.iface 173 (.pointer (some q)) ∧ numOf s=-1))) ∧ Below w.heap.size w w':=by
 cases h:Lib.atoiAll s.data.toList with
 | ok v =>
  refine (Tryz.strconv_Atoi_ok s (by omega) v h w).mono ?_
  rintro e w' ⟨rfl,hw'⟩
  refine ⟨⟨v,_,rfl,.inl ⟨rfl,by unfold numOf;rw [h]⟩⟩,?_⟩
  rcases hw' with rfl | ⟨t,rfl⟩
  ·exact Below.refl _ _
  ·exact bytes_below (Below.refl _ _) (Nat.le_refl _) 5 t
 | range =>
  obtain ⟨tp,p,hc⟩:=hw.rng
  refine (Tryz.strconv_Atoi_range s (by omega) h _ w hc (.inr ⟨_,_,rfl⟩)).mono ?_
  rintro e w' ⟨N,rfl,h1,h2,h3⟩
  exact ⟨⟨_,_,rfl,.inr ⟨_,rfl,by unfold numOf;rw [h]⟩⟩,h3⟩
 | _ =>
  obtain ⟨tp,p,hc⟩:=hw.syn
  refine (Tryz.strconv_Atoi_syntax s (by omega) h _ w hc (.inr ⟨_,_,rfl⟩)).mono ?_
  rintro e w' ⟨N,rfl,h1,h2,h3⟩
  exact ⟨⟨_,_,rfl,.inr ⟨_,rfl,by unfold numOf;rw [h]⟩⟩,h3⟩
set_option maxHeartbeats 8000000 in
set_option maxRecDepth 100000 in
theorem number51 (s:ByteArray) (hs:s.size ≤ 1000000) (w:World) (hw:Base w) :
  Calls Tryz.prog 51 #[.string s] w fun e w'=>e=.returned (.int .i64 (numOf s)) ∧ Below w.heap.size w w':=by
 go_enter Tryz.func51,Tryz.ntmps51
 go_upto_region 2 with (go_at_call 67;refine (atoi s hs _ hw).mono ?_;rintro e w' ⟨⟨v,a,rfl,ha⟩,hb⟩)
 rcases ha with ⟨rfl,hn⟩ | ⟨q,rfl,hn⟩
 ·go_wp2
  go_ret
  exact ⟨by rw [hn];rfl,hb⟩
 ·go_wp2
  go_ret
  exact ⟨by rw [hn];rfl,hb⟩
end Go.Proofs.Lg
namespace Go.Proofs.Lg
open Go.RowKit
theorem grown_none_alloc2 (w:World) (o o':Obj):w.grownBy ((w.alloc o).alloc o') none:=by
 have h:Below w.heap.size w ((w.alloc o).alloc o'):=((Below.refl _ w).alloc (Nat.le_refl _) o).alloc (by simp) o'
 exact ⟨h.os,h.tape,h.output,h.size,fun k hk _=>h.block k hk⟩
def KeepZ (Z:Nat → Prop) (J:List ByteArray → World → Prop):Prop :=
 ∀ s W W' row,J s W → W.grownBy W' row → (∀ r,row=some r → Z r) → J s W'
def KeepL (Z:Nat → Prop) (B:Nat) (J:List ByteArray → World → Prop):Prop :=
 ∀ s W W' row,J s W → W.grownBy W' row → (∀ r,row=some r → Z r ∨ (B ≤ r ∧ ∃ o:Obj,W.heap[r]?=some o ∧ o.isCells=false)) → J s W'
def RoundKeeps (Z:Nat → Prop) (W W':World):Prop:=W.heap.size ≤ W'.heap.size ∧ ∀ k,Z k → W'.heap[k]?=W.heap[k]?
def SeqZ (F:Fence) (n:Nat) (P:Program) (g:Nat) (lb:Array Value) (Z:Nat → Prop) (xs:List ByteArray) (w:World):Prop :=
 ∀ (l:Nat) (J Jx:List ByteArray → World → Prop) (W:World),RoundKeeps Z w W → KeepZ Z J → KeepZ Z Jx →
  (∀ pre x W1,J pre W1 → (pre ++ [x]) <+: xs → YieldAt F (n - 1) P l #[.string x] W1 fun e W' =>
   (e=.returned (.bool true) ∧ J (pre ++ [x]) W' ∧ RoundKeeps Z W1 W') ∨ (e=.returned (.bool false) ∧ Jx (pre ++ [x]) W')) →
  J [] W →
  CallsIn F n P g (#[.func (.yield l) #[] #[]] ++ lb) W fun e W'=>(∃ v,e=.returned v) ∧ (J xs W' ∨ (∃ pre,pre <+: xs ∧ Jx pre W'))
def roundPostZ (Z:Nat → Prop) (I Ix:List ByteArray → World → Prop) (xs:List ByteArray) (W:World):Exit → Act → World → Prop
 | .normal,_,W'=>KeepsOthers W W' ∧ RoundKeeps Z W W' ∧ I xs W'
 | .ret,_,W'=>KeepsOthers W W' ∧ Ix xs W'
 | _,_,_=>False
variable {F:Fence} {n:Nat} {P:Program}
theorem range_z {g:Operand} {ps:Array Tmp} {assign body:Code} {Q:Exit → Act → World → Prop} {a:Act} {w:World}
  (hro:F.round=none) (h1:1 ≤ n) {gf:Nat} {lb:Array Value} (hg:a.eval g=.func (.func gf) #[] lb) (hFg:F.fn gf) (eg:∀ args w,(callFunc gf args).run P w=.ok (.enter gf args) w)
  {Z:Nat → Prop} (hZ:∀ k,Z k → k < w.heap.size) {xs:List ByteArray} (hseq:SeqZ F (n - 1) P gf lb Z xs w) (hps:ps.size=1)
  (I Ix:List ByteArray → World → Prop) (hI:KeepL Z w.heap.size I) (hIx:KeepL Z w.heap.size Ix) (h0:I [] w) (a₁:ByteArray → Act)
  (hassign:∀ (l:Nat) (x:ByteArray) (W:World) (K:Act → World → Prop),K (a₁ x) W →
   assign.wpIn (F.inRound l) (n - 1 - 1) P (Exit.then K (fun _ _ _=>False)) { tmps:=(ps.zip #[Value.string x]).foldl (fun t (p,v)=>t.setIfInBounds p v) a.tmps,defers:=[] } W)
  (hbody:∀ (l:Nat) (pre:List ByteArray) (x:ByteArray) (W:World),I pre W → (pre ++ [x]) <+: xs → body.wpIn (F.inRound l) (n - 1 - 1) P (roundPostZ Z I Ix (pre ++ [x]) W) (a₁ x) W)
  (hdone:∀ (D:Nat) (W:World),w.heap.size ≤ D → I xs W → W.heap[D]?=some (.deferred (some [])) → Q .normal { a with defers:={ target:=.collected D,args:=#[] } :: a.defers } W)
  (hstop:∀ (D:Nat) (pre:List ByteArray) (W:World),w.heap.size ≤ D → pre <+: xs → Ix pre W → W.heap[D]?=some (.deferred (some [])) → Code.ret.wpIn F n P Q { a with defers:={ target:=.collected D,args:=#[] } :: a.defers } W) :
  (Code.rangeFunc g ps assign body).wpIn F n P Q a w:=by
 refine wpIn_rangeFunc ?_
 intro fn hfn
 rw [hro]
 obtain ⟨rec,hrec⟩:∃ rec:LoopState → Option Code → Loop,rec=fun st pe=>{ state:=st,pending:=pe,fn,tmps:=a.tmps,params:=ps,assign,body,defers:=w.heap.size }:=⟨_,rfl⟩
 obtain ⟨W1,hW1⟩:∃ W1,(w.alloc (.deferred (some []))).alloc (.loop (rec .ready none))=W1:=⟨_,rfl⟩
 have hL1:W1.heap[w.heap.size + 1]?=some (.loop (rec .ready none)):=by
  have:=World.alloc_heap_new (w.alloc (.deferred (some []))) (.loop (rec .ready none))
  rw [World.size_alloc] at this
  rw [← hW1]
  exact this
 have hD1:W1.heap[w.heap.size]?=some (.deferred (some [])):=by
  rw [← hW1]
  exact (Below.heap_alloc _ _ _ (by simp)).trans (World.alloc_heap_new w _)
 have hg1:w.grownBy W1 none:=by
  rw [← hW1]
  exact grown_none_alloc2 w _ _
 have hZ1:RoundKeeps Z w W1:=⟨hg1.size,fun k hk=>hg1.block k (hZ k hk) (by simp)⟩
 have hzr:∀ r,Z r → r ≠ w.heap.size ∧ r ≠ w.heap.size + 1:=fun r hr=>by have:=hZ r hr;omega
 have hkeep:∀ {A B:World} {row:Option Nat} {k:Nat} {o:Obj},A.grownBy B row → (∀ r,row=some r → Z r) → (k=w.heap.size ∨ k=w.heap.size + 1) → A.heap[k]?=some o → B.heap[k]?=some o:=by
  intro A B row k o hgr hr hk ho
  refine (hgr.block k (Array.getElem?_eq_some_iff.1 ho).1 ?_).trans ho
  intro e
  have:=hzr k (hr k e.symm)
  omega
 refine ⟨w.heap.size + 1,[{ target:=.collected w.heap.size,args:=#[] }],W1,{ target:=.fn (.func gf) lb,args:=#[.func (.yield (w.heap.size + 1)) #[] #[]] },W1,gf,
  #[.func (.yield (w.heap.size + 1)) #[] #[]] ++ lb,W1,?_,?_,?_,?_,fun _=>h1,?_⟩
 ·rw [← hW1,hrec];exact run_enterLoop_outer _ _ _ _ _
 ·simp only [resolve,hg]
  simp [go_sem]
 ·intro f' hf';simp [Target.leads] at hf';subst hf';exact hFg
 ·simp [invoke,go_sem,eg]
 ·refine (hseq (w.heap.size + 1)
   (fun pre W=>I pre W ∧ W.heap[w.heap.size + 1]?=some (.loop (rec .ready none)) ∧ W.heap[w.heap.size]?=some (.deferred (some [])))
   (fun pre W=>Ix pre W ∧ W.heap[w.heap.size + 1]?=some (.loop (rec .done (some .ret))) ∧ W.heap[w.heap.size]?=some (.deferred (some [])))
   W1 hZ1
   (fun s A B row hs hgr hr=>⟨hI s A B row hs.1 hgr (fun r e=>.inl (hr r e)),hkeep hgr hr (.inr rfl) hs.2.1,hkeep hgr hr (.inl rfl) hs.2.2⟩)
   (fun s A B row hs hgr hr=>⟨hIx s A B row hs.1 hgr (fun r e=>.inl (hr r e)),hkeep hgr hr (.inr rfl) hs.2.1,hkeep hgr hr (.inl rfl) hs.2.2⟩)
   ?_ ⟨hI [] w W1 none h0 hg1 (by simp),hL1,hD1⟩).mono ?_
  ·rintro pre x W ⟨hi,hl,hk⟩ hlen
   have hlt:w.heap.size + 1 < W.heap.size:=(Array.getElem?_eq_some_iff.1 hl).1
   have hput:∀ {J:List ByteArray → World → Prop} {s:List ByteArray} {A:World} {o:Obj} (o':Obj),KeepL Z w.heap.size J → J s A → A.heap[w.heap.size + 1]?=some o → o.isCells=false → J s (A.putObj (w.heap.size + 1) o'):=by
    intro J s A o o' hJ hs ho hc
    exact hJ s A _ (some (w.heap.size + 1)) hs (grownBy_putObj' A (w.heap.size + 1) o') (fun r e=>by cases e;exact .inr ⟨by omega,o,ho,hc⟩)
   have hputZ:∀ (A:World) (o':Obj),RoundKeeps Z A (A.putObj (w.heap.size + 1) o'):=fun A o'=>⟨by simp,fun k hk=>World.putObj_heap_other (hzr k hk).2⟩
   have hy:=run_yield (P:=P) (args:=#[.string x]) hl (by rw [hrec];exact hps.symm)
   rw [hrec] at hy
   refine ⟨fn,_,assign,body,hy,roundIn_of_wpIn hfn (hassign _ x W _ ⟨_,run_beginRound hl (by rw [hrec]),?_⟩)⟩
   have hl2:(W.putObj (w.heap.size + 1) (.loop { rec .ready none with state:=.busy })).heap[w.heap.size + 1]?=some (.loop { rec .ready none with state:=.busy }):=World.putObj_heap_same hlt
   have hk2:(W.putObj (w.heap.size + 1) (.loop { rec .ready none with state:=.busy })).heap[w.heap.size]?=some (.deferred (some [])):=(World.putObj_heap_other (by omega)).trans hk
   refine wpIn_mono (hbody _ pre x _ (hput _ hI hi hl rfl) hlen) ?_
   rintro e a3 W3 hp
   have fin:∀ (jump:Option Code),KeepsOthers (W.putObj (w.heap.size + 1) (.loop { rec .ready none with state:=.busy })) W3 →
     (Instr.endRound (w.heap.size + 1) jump).run P W3=.ok (.bool jump.isNone) (W3.putObj (w.heap.size + 1) (.loop (rec (if jump.isNone then .ready else .done) jump))) ∧
     W3.heap[w.heap.size + 1]?=some (.loop { rec .ready none with state:=.busy }) ∧
     (W3.putObj (w.heap.size + 1) (.loop (rec (if jump.isNone then .ready else .done) jump))).heap[w.heap.size + 1]?=some (.loop (rec (if jump.isNone then .ready else .done) jump)) ∧
     (W3.putObj (w.heap.size + 1) (.loop (rec (if jump.isNone then .ready else .done) jump))).heap[w.heap.size]?=some (.deferred (some [])):=by
    intro jump hk3
    have hl3:=hk3.same _ _ hl2 rfl
    have hrun:=run_endRound (P:=P) jump hl3
    rw [hrec] at hrun hl3 ⊢
    exact ⟨hrun,hl3,World.putObj_heap_same (Array.getElem?_eq_some_iff.1 hl3).1,(World.putObj_heap_other (by omega)).trans (hk3.same _ _ hk2 rfl)⟩
   cases e with
   | normal =>
    obtain ⟨hk3,hkp3,hi3⟩:=hp
    obtain ⟨hr,hl3,hl4,hk4⟩:=fin none hk3
    refine ⟨_,_,hr,.inl ⟨rfl,⟨hput _ hI hi3 hl3 rfl,hl4,hk4⟩,?_⟩⟩
    have q1:=hputZ W (.loop { rec .ready none with state:=.busy })
    have q3:=hputZ W3 (.loop (rec .ready none))
    exact ⟨Nat.le_trans q1.1 (Nat.le_trans hkp3.1 q3.1),fun k hk=>(q3.2 k hk).trans ((hkp3.2 k hk).trans (q1.2 k hk))⟩
   | ret =>
    obtain ⟨hk3,hi3⟩:=hp
    obtain ⟨hr,hl3,hl4,hk4⟩:=fin (some .ret) hk3
    exact ⟨_,_,hr,.inr ⟨rfl,hput _ hIx hi3 hl3 rfl,hl4,hk4⟩⟩
   | exit id=>exact hp.elim
   | goto t=>exact hp.elim
   | panic ch=>exact hp.elim
   | outgrown=>exact hp.elim
  ·have hputI:∀ {J:List ByteArray → World → Prop} {s:List ByteArray} {A:World} {o:Obj} (o':Obj),KeepL Z w.heap.size J → J s A → A.heap[w.heap.size + 1]?=some o → o.isCells=false → J s (A.putObj (w.heap.size + 1) o'):=by
    intro J s A o o' hJ hs ho hc
    exact hJ s A _ (some (w.heap.size + 1)) hs (grownBy_putObj' A (w.heap.size + 1) o') (fun r e=>by cases e;exact .inr ⟨by omega,o,ho,hc⟩)
   rintro e W2 ⟨⟨v,rfl⟩,(⟨hi,hl,hk⟩ | ⟨pre,hSp,hi,hl,hk⟩)⟩
   ·have hrun:=run_endLoop (P:=P) hl (by rw [hrec];simp)
    rw [hrec] at hrun
    exact ⟨none,_,hrun,hdone _ _ (Nat.le_refl _) (hputI _ hI hi hl rfl) ((World.putObj_heap_other (by omega)).trans hk)⟩
   ·have hrun:=run_endLoop (P:=P) hl (by rw [hrec];simp)
    rw [hrec] at hrun
    exact ⟨some .ret,_,hrun,hstop _ pre _ (Nat.le_refl _) hSp (hputI _ hIx hi hl rfl) ((World.putObj_heap_other (by omega)).trans hk)⟩
end Go.Proofs.Lg
namespace Go.Proofs.Lg
open Go.RowKit Go.Proofs.YtdomcbebbhbdlaaGreatDoorW.PrintWords Go.Proofs.YtdomcbebbhbdlaaGreatDoorW.PrintLast Go.Proofs.YtdomcbebbhbdlaaGreatDoorW.PrintMore
attribute [local go_sem] Oper.semAt_some
def linesF:Nat → ByteArray → List ByteArray
 | 0,_=>[]
 | k + 1,s=>if s.size=0 then [] else if 0 ≤ Lib.indexByte s.data.toList 10 then s.extract 0 ((Lib.indexByte s.data.toList 10).toNat + 1) :: linesF k (s.extract ((Lib.indexByte s.data.toList 10).toNat + 1) s.size) else [s]
def linesOf (s:ByteArray):List ByteArray:=linesF (s.size + 1) s
def strAt (w:World) (z:Nat):Nat:=match w.cell? ⟨z,0,none⟩ with | some (.string s)=>s.size | _=>0
theorem strAt_of {w:World} {z:Nat} {s:ByteArray} (h:w.cell? ⟨z,0,none⟩=some (.string s)):strAt w z=s.size:=by unfold strAt;rw [h]
theorem cell_of_keeps {Z:Nat → Prop} {W W':World} {a:Addr} {v:Value} (hk:RoundKeeps Z W W') (ha:Z a.block) (h:W.cell? a=some v):W'.cell? a=some v :=
 (World.cell?_of_block (hk.2 a.block ha)).trans h
theorem frozen_of_keeps {Z:Nat → Prop} {W W':World} {a:Addr} (hk:RoundKeeps Z W W') (ha:Z a.block):W'.frozen? a=W.frozen? a:=World.frozen?_of_block (hk.2 a.block ha)
theorem grown_setDrew (W:World) (b:Nat) (v:Value):W.grownBy (W.setCell ⟨b,0,none⟩ v).drew (some b):=by
 have h:=grownBy_setCell' W b v
 exact ⟨h.os,h.tape,h.output,h.size,h.block⟩
theorem linesF_nil (k:Nat):linesF k ⟨#[]⟩=[]:=by
 cases k with
 | zero=>rfl
 | succ k=>exact if_pos rfl
theorem indexByte_lt {s:ByteArray} {c:UInt8} {i:Nat} (h:Lib.indexByte s.data.toList c=(i:Int)):i < s.size:=by
 obtain ⟨h1,_⟩:=Lib.indexByte_some h
 have:=(List.getElem?_eq_some_iff.1 h1).1
 exact this
set_option maxHeartbeats 4000000 in
set_option maxRecDepth 100000 in
theorem lines_seq (n:Nat) (hn:1 ≤ n) (z:Nat) (s:ByteArray) (hs:s.size ≤ 1000000) (w:World) (hc:w.cell? ⟨z,0,none⟩=some (.string s)) (hf:w.frozen? ⟨z,0,none⟩=false) :
  SeqZ Fence.wide n Tryz.prog 93 #[.pointer (some ⟨z,0,none⟩)] (fun k=>k=z) (linesOf s) w:=fun l J Jx W hW hJ hJx hY h0=>by
 have hc0:=cell_of_keeps hW rfl hc
 have hf0:=(frozen_of_keeps (a:=⟨z,0,none⟩) hW rfl).trans hf
 refine callsIn_of_wp Tryz.func93 rfl trivial ?_ rfl
 simp only [Tryz.ntmps93,List.size_toArray,List.length_cons,List.length_nil,Nat.reduceAdd,Nat.reduceSub,Array.replicate_succ,Array.replicate_zero,List.push_toArray,List.append_toArray,List.nil_append,List.cons_append]
 gi_wp2
 gi_loopw [3] (fun p wr=>∃ (pre:List ByteArray) (cur:ByteArray) (k:Nat),linesOf s=pre ++ linesF k cur ∧ cur.size < k ∧ cur.size ≤ 1000000 ∧ wr.cell? ⟨z,0,none⟩=some (.string cur) ∧ wr.frozen? ⟨z,0,none⟩=false ∧ J pre wr)
  (fun p wr=>strAt wr z)
 case atStart=>exact ⟨[],s,s.size + 1,rfl,by omega,hs,hc0,hf0,h0⟩
 case round =>
  obtain ⟨pre,cur,k,hx,hk,hcs,hcell,hfr,hJs⟩:=hrel
  cases k with
  | zero=>omega
  | succ k =>
  by_cases h0:cur.size=0
  ·have z1:decide ((0:Int) < (cur.size:Int))=false:=decide_eq_false (by omega)
   have z2:decide (0 < cur.size)=false:=decide_eq_false (by omega)
   gi_wp2
   go_end0
   refine ⟨⟨_,rfl⟩,.inl ?_⟩
   have:linesF (k + 1) cur=[]:=by unfold linesF;rw [if_pos h0]
   rw [hx,this,List.append_nil]
   exact hJs
  ·have z1:decide ((0:Int) < (cur.size:Int))=true:=decide_eq_true (by omega)
   have z2:decide (0 < cur.size)=true:=decide_eq_true (by omega)
   by_cases hi:0 ≤ Lib.indexByte cur.data.toList 10
   ·obtain ⟨i,hie⟩:∃ i:Nat,Lib.indexByte cur.data.toList 10=(i:Int):=⟨(Lib.indexByte cur.data.toList 10).toNat,by omega⟩
    have hil:=indexByte_lt hie
    have hcons:linesF (k + 1) cur=cur.extract 0 (i + 1) :: linesF k (cur.extract (i + 1) cur.size):=by
     rw [linesF,if_neg h0,if_pos hi,hie]
     rfl
    have p1:(0 ≤ (i:Int))=True:=eq_true (by omega)
    have p2:decide (0 ≤ (i:Int))=true:=decide_eq_true (by omega)
    have p3:IntKind.i64.wrap ((i:Int) + 1)=(i:Int) + 1:=by rw [i64_w];unfold wrap64;omega
    have p4:((i:Int) + 1 ≤ (cur.size:Int))=True:=eq_true (by omega)
    have p5:(0 ≤ (i:Int) + 1)=True:=eq_true (by omega)
    have hK:Lib.indexByte cur.data.toList (Int.toNat 10).toUInt8=(i:Int):=hie
    gi_wp2_with (refine ⟨trivial,?_⟩;gi_at_call 94;refine (callsIn_wide.2 (Tryz.strings_IndexByte cur 10 _)).mono ?_;rw [hK];rintro e wr ⟨rfl,rfl⟩)
    gi_region
    obtain ⟨W1,hW1⟩:∃ W1,(wr.setCell ⟨z,0,none⟩ (.string (cur.extract (i + 1) cur.size))).drew=W1:=⟨_,rfl⟩
    have hJ1:J pre W1:=by rw [← hW1];exact hJ pre _ _ (some z) hJs (grown_setDrew wr z _) (fun r e=>by cases e;rfl)
    have hc1:W1.cell? ⟨z,0,none⟩=some (.string (cur.extract (i + 1) cur.size)):=by rw [← hW1];exact World.cell?_setCell_same' _ _ _ (by rw [hcell];rfl)
    have hf1:W1.frozen? ⟨z,0,none⟩=false:=by rw [← hW1];rw [frozen_drew_own,World.frozen?_setCell];exact hfr
    obtain ⟨fn,tmps,assign,body,hy,hR⟩:=hY pre (cur.extract 0 (i + 1)) W1 hJ1 ⟨linesF k (cur.extract (i + 1) cur.size),by rw [hx,hcons];simp⟩
    rw [hW1]
    gi_wp2
    refine hR.mono ?_
    rintro e W' (⟨rfl,hJ',hk'⟩ | ⟨rfl,hx'⟩)
    ·have hc2:=cell_of_keeps (a:=⟨z,0,none⟩) hk' rfl hc1
     have hf2:=(frozen_of_keeps (a:=⟨z,0,none⟩) hk' rfl).trans hf1
     gi_wp2
     go_roundw
     case rel=>exact ⟨pre ++ [cur.extract 0 (i + 1)],cur.extract (i + 1) cur.size,k,by rw [hx,hcons];simp,by rw [ByteArray.size_extract];omega,by rw [ByteArray.size_extract];omega,hc2,hf2,hJ'⟩
     case measure=>rw [strAt_of hc2,strAt_of hcell];rw [ByteArray.size_extract];omega
    ·gi_wp2
     refine bodyPost_ret (results_none rfl _ _ _) rfl ?_
     exact ⟨⟨_,rfl⟩,.inr ⟨pre ++ [cur.extract 0 (i + 1)],⟨linesF k (cur.extract (i + 1) cur.size),by rw [hx,hcons];simp⟩,hx'⟩⟩
   ·have hneg:Lib.indexByte cur.data.toList 10=-1:=by have:=Lib.indexByte_ge cur.data.toList 10;omega
    have hcons:linesF (k + 1) cur=cur :: linesF k ⟨#[]⟩:=by
     rw [linesF,if_neg h0,if_neg hi,linesF_nil]
    have hK:Lib.indexByte cur.data.toList (Int.toNat 10).toUInt8=-1:=hneg
    obtain ⟨W1,hW1⟩:∃ W1,(wr.setCell ⟨z,0,none⟩ (.string ⟨#[]⟩))=W1:=⟨_,rfl⟩
    have hJ1:J pre W1:=by rw [← hW1];exact hJ pre _ _ (some z) hJs (grownBy_setCell' wr z _) (fun r e=>by cases e;rfl)
    have hc1:W1.cell? ⟨z,0,none⟩=some (.string ⟨#[]⟩):=by rw [← hW1];exact World.cell?_setCell_same' _ _ _ (by rw [hcell];rfl)
    have hf1:W1.frozen? ⟨z,0,none⟩=false:=by rw [← hW1];rw [World.frozen?_setCell];exact hfr
    obtain ⟨fn,tmps,assign,body,hy,hR⟩:=hY pre cur W1 hJ1 ⟨linesF k ⟨#[]⟩,by rw [hx,hcons];simp⟩
    gi_wp2_with (first | (refine ⟨trivial,?_⟩;gi_at_call 94;refine (callsIn_wide.2 (Tryz.strings_IndexByte cur 10 _)).mono ?_;rw [hK];rintro e wr ⟨rfl,rfl⟩) | (rw [hW1]))
    refine hR.mono ?_
    rintro e W' (⟨rfl,hJ',hk'⟩ | ⟨rfl,hx'⟩)
    ·have hc2:=cell_of_keeps (a:=⟨z,0,none⟩) hk' rfl hc1
     have hf2:=(frozen_of_keeps (a:=⟨z,0,none⟩) hk' rfl).trans hf1
     gi_wp2
     go_roundw
     case rel=>exact ⟨pre ++ [cur],⟨#[]⟩,k,by rw [hx,hcons];simp,by have:(⟨#[]⟩:ByteArray).size=0:=rfl;omega,by have:(⟨#[]⟩:ByteArray).size=0:=rfl;omega,hc2,hf2,hJ'⟩
     case measure=>rw [strAt_of hc2,strAt_of hcell];have:(⟨#[]⟩:ByteArray).size=0:=rfl;omega
    ·gi_wp2
     refine bodyPost_ret (results_none rfl _ _ _) rfl ?_
     exact ⟨⟨_,rfl⟩,.inr ⟨pre ++ [cur],⟨linesF k ⟨#[]⟩,by rw [hx,hcons];simp⟩,hx'⟩⟩
end Go.Proofs.Lg
namespace Go.Proofs.Lg
open Go.RowKit
variable {P:Program} {ops:Array Oper} {Q:Exit → Act → World → Prop} {md:Region.Mode}
theorem opIn_of_op {l n:Nat} {o:Oper} (hd:∀ c,o.op ≠ .defer c) {a:Act} {w:World} {K:Act → World → Prop} (h:o.wp P a w K Q):o.wpIn (Fence.wide.inRound l) n P a w K Q:=by
 unfold Oper.wpIn
 refine ⟨fun _ _=>trivial,?_⟩
 have hs:Oper.semAt (Fence.wide.inRound l).round a.eval o=execOp a.eval o:=Oper.semAt_eq _ _ _ hd
 rw [hs]
 unfold Oper.wp at h
 generalize (execOp a.eval o).run P w=r at h ⊢
 have hdep:(Fence.wide.inRound l).depth.isSome=true → 1 ≤ n:=fun h=>by cases h
 cases r with
 | ok x w' =>
  cases x with
  | value v=>exact h
  | skip=>exact h
  | «defer» d=>exact h
  | enter f args=>exact ⟨hdep,CallsIn.inRound l (callsIn_wide.2 h)⟩
  | row r args=>exact ⟨hdep,fun c cs _=>let ⟨v,w',r,s⟩:=h c cs;⟨v,w',r,stepsIn_wide.2 s⟩⟩
  | _=>exact h.elim
 | halt x w' =>
  cases x with
  | panic v=>exact h
  | _=>exact h.elim
theorem wpOpIn_of {l n:Nat} (hd:∀ (i:Nat) (o:Oper),ops[i]?=some o → ∀ c,o.op ≠ .defer c) (hq:¬ LetsOut Q) {i:Nat} {K:Act → World → Prop} {a:Act} {w:World} (h:wpOp P ops Q i K a w):wpOpIn (Fence.wide.inRound l) n P ops Q i K a w:=by
 unfold wpOp at h
 unfold wpOpIn
 split at h
 ·rename_i ho
  rw [ho]
  exact h
 ·rename_i o ho
  rw [ho]
  simp only
  split at h
  ·rename_i hw
   rw [if_pos hw]
   rcases h with h | ⟨_,h⟩
   ·exact opIn_of_op (hd i o ho) h
   ·exact absurd h hq
  ·rename_i hw
   rw [if_neg hw]
   exact ⟨fun _ _=>trivial,h⟩
theorem anyIn_of {l n:Nat} (hd:∀ (i:Nat) (o:Oper),ops[i]?=some o → ∀ c,o.op ≠ .defer c) (hq:¬ LetsOut Q):∀ (fuel:Nat) (listed:Array Bool) (a:Act) (w:World),wpAny P md ops Q fuel listed a w → wpAnyIn (Fence.wide.inRound l) n P md ops Q fuel listed a w
 | 0,_,_,_,h=>h
 | fuel + 1,listed,a,w,h=>⟨h.1,fun i hi=>wpOpIn_mono (fun a w h=>anyIn_of hd hq fuel _ a w h) (wpOpIn_of hd hq (h.2 i hi))⟩
def noDefer (ops:Array Oper):Bool:=ops.all fun o=>match o.op with | .defer _=>false | _=>true
theorem noDefer_spec (h:noDefer ops=true) (i:Nat) (o:Oper) (ho:ops[i]?=some o) (c:Call):o.op ≠ .defer c:=by
 intro hc
 have:=(Array.all_eq_true'.1 h) o (Array.mem_of_getElem? ho)
 rw [hc] at this
 cases this
theorem listIn_cons {l n:Nat} {o:Oper} {rest:List Oper} {a:Act} {w:World} (hd:∀ c,o.op ≠ .defer c)
  (h:if Region.wanted o (yielded ops a.tmps)=true then o.wp P a w (wpListIn (Fence.wide.inRound l) n P ops Q rest) Q else wpListIn (Fence.wide.inRound l) n P ops Q rest (a.put o.dst undef) w):wpListIn (Fence.wide.inRound l) n P ops Q (o :: rest) a w:=by
 unfold wpListIn
 split at h
 ·rename_i hw
  rw [if_pos hw]
  exact opIn_of_op hd h
 ·rename_i hw
  rw [if_neg hw]
  exact ⟨fun _ _=>trivial,h⟩
theorem region_inRound {l n id:Nat} {a:Act} {w:World} (hm:P.follows .mixedOrders=true) (hd:noDefer ops=true) (hq:¬ LetsOut Q) {S:World → Prop} (hS:S w.drew)
  (h:S w.drew → wpAnyH P .any ops Q S ops.size (Array.replicate ops.size false) a w.drew):(Code.region id ops true).wpIn (Fence.wide.inRound l) n P Q a w :=
 wpIn_region_any hm (anyIn_of (noDefer_spec hd) hq _ _ _ _ (wpAny_of_held _ _ _ _ (h hS)))
end Go.Proofs.Lg
namespace Go.Proofs.Lg
open Go.RowKit Go.Proofs.YtdomcbebbhbdlaaGreatDoorW.PrintWords Go.Proofs.YtdomcbebbhbdlaaGreatDoorW.PrintLast Go.Proofs.YtdomcbebbhbdlaaGreatDoorW.PrintMore Go.Proofs.YtdomcbebbhbdlaaGreatDoor.PLogsBills
attribute [local go_sem] Oper.semAt_some
def cv (w:World) (b j:Nat):Value:=(w.cell? ⟨b,j,none⟩).getD undef
def HasRow (b:Nat) (t:TypeId) (n:Nat) (w:World):Prop:=∃ cs:Array Value,w.heap[b]?=some (.cells cs t (0,0)) ∧ cs.size=n
theorem HasRow.cell {b n:Nat} {t:TypeId} {w:World} (h:HasRow b t n w) (j:Nat) (hj:j < n):w.cell? ⟨b,j,none⟩=some (cv w b j):=by
 obtain ⟨cs,h1,h2⟩:=h
 unfold cv
 rw [Lib.cell_of_heap h1,Array.getElem?_eq_getElem (by omega)]
 rfl
theorem HasRow.frozen {b n:Nat} {t:TypeId} {w:World} (h:HasRow b t n w) (j:Nat):w.frozen? ⟨b,j,none⟩=false:=by
 obtain ⟨cs,h1,h2⟩:=h
 exact Lib.frozen_of_heap h1 j
theorem HasRow.lt {b n:Nat} {t:TypeId} {w:World} (h:HasRow b t n w):b < w.heap.size:=by
 obtain ⟨cs,h1,h2⟩:=h
 exact (Array.getElem?_eq_some_iff.1 h1).1
theorem HasRow.below {b n:Nat} {t:TypeId} {w w':World} (h:HasRow b t n w) (hb:Below w.heap.size w w'):HasRow b t n w':=by
 have hlt:=h.lt
 obtain ⟨cs,h1,h2⟩:=h
 exact ⟨cs,(hb.block b hlt).trans h1,h2⟩
theorem HasRow.set {b n:Nat} {t:TypeId} {w:World} (h:HasRow b t n w) (j:Nat) (v:Value):HasRow b t n (w.setCell ⟨b,j,none⟩ v):=by
 have hlt:=h.lt
 obtain ⟨cs,h1,h2⟩:=h
 refine ⟨cs.setIfInBounds j v,?_,by simpa using h2⟩
 have hlt':b < w.heap.size:=hlt
 have h1':w.heap[b]'hlt'=.cells cs t (0,0):=by
  rw [Array.getElem?_eq_getElem hlt'] at h1
  exact Option.some.inj h1
 show (w.heap.modify b _)[b]?=_
 rw [Array.getElem?_eq_getElem (by rw [Array.size_modify];exact hlt'),Array.getElem_modify_self,h1']
 rfl
theorem set_row {b j:Nat} {t:TypeId} {w:World} {cs:Array Value} (h:w.heap[b]?=some (.cells cs t (0,0))) (v:Value):(w.setCell ⟨b,j,none⟩ v).heap[b]?=some (.cells (cs.setIfInBounds j v) t (0,0)):=by
 have hlt:b < w.heap.size:=(Array.getElem?_eq_some_iff.1 h).1
 have h1':w.heap[b]'hlt=.cells cs t (0,0):=by
  rw [Array.getElem?_eq_getElem hlt] at h
  exact Option.some.inj h
 show (w.heap.modify b _)[b]?=_
 rw [Array.getElem?_eq_getElem (by rw [Array.size_modify];exact hlt),Array.getElem_modify_self,h1']
 rfl
theorem then_world {Q:Exit → Act → World → Prop} {e:Exit} {a:Act} {W:World} (p:World → Prop) (h:p W) (k:∀ W2,p W2 → Q e a W2):Q e a W:=k W h
end Go.Proofs.Lg
namespace Go.Proofs.Lg
open Go.RowKit Go.Lib
def spl (c:UInt8):List UInt8 → List (List UInt8)
 | []=>[[]]
 | x :: r=>if x=c then [] :: spl c r else match spl c r with | []=>[[x]] | w :: ws=>(x :: w) :: ws
theorem spl_ne (c:UInt8):∀ l,spl c l ≠ []
 | []=>by simp [spl]
 | x :: r=>by
  unfold spl
  split
  ·simp
  ·split <;> simp
theorem spl_clean {c:UInt8}:∀ {p:List UInt8},c ∉ p → spl c p=[p]
 | [],_=>rfl
 | x :: r,h=>by
  have hx:x ≠ c:=fun e=>h (by simp [e])
  have hr:c ∉ r:=fun e=>h (by simp [e])
  rw [spl,if_neg hx,spl_clean hr]
theorem spl_hit {c:UInt8}:∀ {p:List UInt8} (r:List UInt8),c ∉ p → spl c (p ++ c :: r)=p :: spl c r
 | [],r,_=>by rw [List.nil_append,spl,if_pos rfl]
 | x :: p,r,h=>by
  have hx:x ≠ c:=fun e=>h (by simp [e])
  have hr:c ∉ p:=fun e=>h (by simp [e])
  rw [List.cons_append,spl,if_neg hx,spl_hit r hr]
theorem join_cons' (sep x:List UInt8) (xs:List (List UInt8)) (h:xs ≠ []):Lib.join (x :: xs) sep=x ++ sep ++ Lib.join xs sep:=by
 cases xs with
 | nil=>exact absurd rfl h
 | cons y r=>exact join_cons sep x y r
theorem join_spl (c:UInt8):∀ l,Lib.join (spl c l) [c]=l
 | []=>join_one [c] []
 | x :: r=>by
  have ih:=join_spl c r
  unfold spl
  split
  ·rename_i h
   rw [join_cons' _ _ _ (spl_ne c r),ih,h]
   rfl
  ·have hne:=spl_ne c r
   generalize spl c r=ws at ih hne
   cases ws with
   | nil=>exact absurd rfl hne
   | cons w ws =>
    simp only
    cases ws with
    | nil=>rw [join_one] at ih ⊢;rw [ih]
    | cons v vs=>rw [join_cons] at ih ⊢;rw [← ih];simp
theorem byte_split {c:UInt8} {l:List UInt8} {i:Nat} (h:indexByte l c=i):l=l.take i ++ c :: l.drop (i + 1) ∧ c ∉ l.take i:=by
 obtain ⟨h1,h2⟩:=indexByte_some h
 obtain ⟨hlt,hx⟩:=List.getElem?_eq_some_iff.1 h1
 refine ⟨?_,fun hm=>?_⟩
 ·conv=>lhs;rw [← List.take_append_drop i l]
  rw [List.drop_eq_getElem_cons hlt,hx]
 ·obtain ⟨k,hk,he⟩:=List.mem_take_iff_getElem.1 hm
  exact h2 k (by omega) (by rw [List.getElem?_eq_getElem (by omega),he])
theorem byte_none {c:UInt8} {l:List UInt8} (h:indexByte l c=-1):c ∉ l:=by
 intro hm
 obtain ⟨k,hk,he⟩:=List.getElem_of_mem hm
 exact indexByte_none h k (by rw [List.getElem?_eq_getElem hk,he])
theorem index_cases (l:List UInt8) (c:UInt8):indexByte l c=-1 ∨ ∃ i:Nat,indexByte l c=i:=by
 have:=indexByte_ge l c
 by_cases h:indexByte l c=-1
 ·exact .inl h
 ·exact .inr ⟨(indexByte l c).toNat,by omega⟩
theorem splitB_spl (c:UInt8):∀ (k:Nat) (s:ByteArray),countB s ⟨#[c]⟩=k → (splitB ⟨#[c]⟩ 0 k s).map (·.data.toList)=spl c s.data.toList:=by
 intro k
 induction k with
 | zero =>
  intro s h
  have h2:s.data.toList.count c=0:=by rw [← count_one];exact h
  rw [splitB_zero,spl_clean (List.count_eq_zero.1 h2)]
  rfl
 | succ k ih =>
  intro s h
  have h0:countB s ⟨#[c]⟩=s.data.toList.count c:=count_one c s.data.toList
  rcases index_cases s.data.toList c with hn | ⟨i,hi⟩
  ·have:=List.count_eq_zero.2 (byte_none hn)
   omega
  ·obtain ⟨e1,e2⟩:=byte_split hi
   have hix:indexB s ⟨#[c]⟩=i:=(index_one s.data.toList c).trans hi
   rw [splitB_hit _ _ _ _ i hix]
   have hsz:(⟨#[c]⟩:ByteArray).size=1:=rfl
   rw [hsz,List.map_cons]
   have hd:(s.extract (i + 1) s.size).data.toList=s.data.toList.drop (i + 1):=by rw [extract_from]
   have ht:(s.extract 0 (i + 0)).data.toList=s.data.toList.take i:=by rw [Nat.add_zero,extract_upto]
   have hc:countB (s.extract (i + 1) s.size) ⟨#[c]⟩=k:=by
    have h3:countB (s.extract (i + 1) s.size) ⟨#[c]⟩=(s.data.toList.drop (i + 1)).count c:=by
     rw [← hd]
     exact count_one c _
    have h4:s.data.toList.count c=(s.data.toList.take i).count c + (1 + (s.data.toList.drop (i + 1)).count c):=by
     conv=>lhs;rw [e1]
     rw [List.count_append,List.count_cons_self]
     omega
    rw [List.count_eq_zero.2 e2] at h4
    omega
   rw [ih _ hc,hd,ht]
   conv=>rhs;rw [e1]
   rw [spl_hit _ e2]
theorem spl_join {c:UInt8}:∀ {ws:List (List UInt8)},ws ≠ [] → (∀ w ∈ ws,c ∉ w) → spl c (Lib.join ws [c])=ws
 | [],h,_=>absurd rfl h
 | [w],_,h=>by rw [join_one];exact spl_clean (h w (by simp))
 | w :: v :: r,_,h=>by
  rw [join_cons,List.append_assoc,List.singleton_append,spl_hit _ (h w (by simp)),spl_join (by simp) (fun x hx=>h x (by simp [hx]))]
theorem spl_free (c:UInt8):∀ (l w:List UInt8),w ∈ spl c l → c ∉ w
 | [],w,h=>by simp [spl] at h;subst h;simp
 | x :: r,w,h=>by
  unfold spl at h
  split at h
  ·rcases List.mem_cons.1 h with rfl | h
   ·simp
   ·exact spl_free c r w h
  ·rename_i hx
   have ih:=spl_free c r
   generalize spl c r=ws at h ih
   cases ws with
   | nil=>simp at h;subst h;simp;exact fun e=>hx e.symm
   | cons v vs =>
    simp only at h
    rcases List.mem_cons.1 h with rfl | h
    ·intro hm
     rcases List.mem_cons.1 hm with e | hm
     ·exact hx e.symm
     ·exact ih v (by simp) hm
    ·exact ih w (by simp [h])
def wordsOf (s:ByteArray):List ByteArray:=splitB ⟨#[32]⟩ 0 (countB s ⟨#[32]⟩) s
theorem wordsOf_spl (s:ByteArray):(wordsOf s).map (·.data.toList)=spl 32 s.data.toList:=splitB_spl 32 _ s rfl
theorem wordsOf_len (s:ByteArray):(wordsOf s).length=countB s ⟨#[32]⟩ + 1:=splitB_all ⟨#[32]⟩ (Nat.le_refl 1) 0 _ s rfl
theorem join_snoc (sep y:List UInt8):∀ (xs:List (List UInt8)),xs ≠ [] → Lib.join (xs ++ [y]) sep=Lib.join xs sep ++ sep ++ y
 | [],h=>absurd rfl h
 | [x],_=>by rw [join_one,List.singleton_append,join_cons,join_one]
 | x :: z :: r,_=>by
  have ih:=join_snoc sep y (z :: r) (by simp)
  rw [List.cons_append,join_cons' _ _ _ (by simp),ih,join_cons]
  simp
theorem words_size (s:ByteArray):∀ x ∈ wordsOf s,x.size ≤ s.size:=by
 intro x hx
 have h1:x.data.toList ∈ spl 32 s.data.toList:=by rw [← wordsOf_spl];exact List.mem_map_of_mem hx
 have h2:∀ (ws:List (List UInt8)) (w:List UInt8),w ∈ ws → w.length ≤ (Lib.join ws [32]).length:=by
  intro ws
  induction ws with
  | nil=>intro w h;simp at h
  | cons v r ih =>
   intro w h
   cases r with
   | nil=>rw [join_one];simp at h;subst h;exact Nat.le_refl _
   | cons u r =>
    rw [join_cons]
    simp only [List.length_append]
    rcases List.mem_cons.1 h with rfl | h
    ·omega
    ·have:=ih w h;omega
 have h3:=h2 _ _ h1
 rw [join_spl] at h3
 exact h3
theorem words_init (s:ByteArray):(joined ((wordsOf s).take ((wordsOf s).length - 1))).size ≤ s.size:=by
 have h1:Lib.join ((wordsOf s).map (·.data.toList)) [32]=s.data.toList:=by rw [wordsOf_spl];exact join_spl 32 _
 have hne:(wordsOf s) ≠ []:=by
  intro h
  have:=wordsOf_len s
  rw [h] at this
  simp at this
 generalize wordsOf s=ws at h1 hne
 have h2:(joined (ws.take (ws.length - 1))).size=(Lib.join ((ws.take (ws.length - 1)).map (·.data.toList)) [32]).length:=by simp [joined,ByteArray.size]
 have h3:s.size=(Lib.join (ws.map (·.data.toList)) [32]).length:=by rw [h1];rfl
 rw [h2,h3,← List.dropLast_eq_take]
 have h4:=List.dropLast_concat_getLast hne
 generalize ws.dropLast=us at h4 ⊢
 generalize ws.getLast hne=y at h4
 rw [← h4,List.map_append,List.map_cons,List.map_nil]
 cases us with
 | nil=>exact Nat.zero_le _
 | cons u us =>
  rw [join_snoc _ _ _ (by simp)]
  simp only [List.length_append]
  omega
end Go.Proofs.Lg
namespace Go.Proofs.Lg
open Go.RowKit Go.Lib Go.Proofs.YtdomcbebbhbdlaaGreatDoorW.PrintWords Go.Proofs.YtdomcbebbhbdlaaGreatDoorW.PrintLast Go.Proofs.YtdomcbebbhbdlaaGreatDoorW.PrintMore Go.Proofs.YtdomcbebbhbdlaaGreatDoor.PLogsBills
def initW (s:ByteArray):List ByteArray:=(wordsOf s).take ((wordsOf s).length - 1)
def formed (s:ByteArray):Bool:=decide (s.size ≤ 600) && (decide (3 ≤ s.size) && decide (bt s ((s.size - 3:Nat):Int)=32))
theorem splitC (s:ByteArray) (hs:s.size ≤ 1000000) (k:Nat) (hk:(wordsOf s).length=k + 1) (w:World) (hw:Base w) :
  Calls Tryz.prog 95 #[.string s,.string ⟨#[32]⟩] w fun e w'=>e=.returned (.slice (some ⟨w.heap.size,0,none⟩) (k + 1) (k + 1)) ∧ w'=w.alloc (.cells ((wordsOf s).map Value.string).toArray 9):=by
 obtain ⟨m,hm⟩:=hw.maxLen
 have h:=Tryz.strings_Split s ⟨#[32]⟩ m w (by omega) hm (Nat.le_refl 1)
 rw [wordsOf_len] at hk
 rw [(by omega:countB s ⟨#[32]⟩=k)] at h
 have e:splitB ⟨#[32]⟩ 0 k s=wordsOf s:=by unfold wordsOf;rw [(by omega:countB s ⟨#[32]⟩=k)]
 rw [e] at h
 exact h
theorem sealedN (bk c n:Nat) (xs:List ByteArray) (w:World) (hn:n=xs.length) (hcells:∀ (j:Nat) (x:ByteArray),xs[j]?=some x → w.cell? ⟨bk,j,none⟩=some (.string x)) (hbk:bk < w.heap.size)
  (hn3:n ≤ 3000) (hcap:n ≤ c) (hlen:(joined xs).size ≤ 3000) (S1:ByteArray) (hS:sealOf (joined xs ++ ⟨#[32]⟩)=S1) :
  Calls Tryz.prog 84 #[.slice (some ⟨bk,0,none⟩) n c] w fun e w'=>e=.returned (.string S1) ∧ Below w.heap.size w w':=by
 subst hn
 subst hS
 exact sealed bk 0 c xs w (fun j x hj=>by rw [Nat.zero_add];exact hcells j x hj) hbk hn3 hcap hlen
theorem results_cell_row_tmp {P:Program} {fn:Func} {p u:Tmp} {ty:TypeId} (h:fn.results=#[.cell p ty,.tmp u]) (tmps:Array Value) (w:World) (g:Nat) (t:TypeId) (cs:Array Value) (fr:Nat × Nat) (d:TypeDesc)
  (hp:tmps.getD p undef=.pointer (some ⟨g,0,none⟩)) (hg:w.heap[g]?=some (.cells cs t fr))
  (hu:P.underlying ty=some d) (hd:(match d with | .struct _ | .array _ _=>true | _=>false)=true) (hi:(P.info? ty).map (·.size)=some cs.size) :
  (results fn tmps).run P w=.ok (.tuple #[.agg cs,tmps.getD u undef]) w:=by
 rw [results_cell_tmp h,hp]
 simp [asAddr,run_loadVar_row w g t ty cs fr d hg hu hd hi]
theorem toList_inj {a b:ByteArray} (h:a.toList=b.toList):a=b:=by
 rw [ByteArray.toList_eq,ByteArray.toList_eq] at h
 exact ByteArray.ext (Array.toList_inj.1 h)
theorem two_boxes (w:World) (cs ds:Array Value) (t u:TypeId) :
  ((w.alloc (.cells cs t)).alloc (.cells ds u)).heap.size=w.heap.size + 2 ∧ Below w.heap.size w ((w.alloc (.cells cs t)).alloc (.cells ds u)) ∧
   ((w.alloc (.cells cs t)).alloc (.cells ds u)).heap[w.heap.size]?=some (.cells cs t (0,0)) ∧ ((w.alloc (.cells cs t)).alloc (.cells ds u)).heap[w.heap.size + 1]?=some (.cells ds u (0,0)):=by
 have s1:(w.alloc (.cells cs t)).heap.size=w.heap.size + 1:=World.size_alloc _ _
 have s2:((w.alloc (.cells cs t)).alloc (.cells ds u)).heap.size=w.heap.size + 2:=by rw [World.size_alloc,s1]
 refine ⟨s2,((Below.refl w.heap.size w).alloc (Nat.le_refl _) _).alloc (by omega) _,(Go.Lib.alloc_old _ _ _ (by omega)).trans (heap_alloc_new _ _),?_⟩
 rw [← s1]
 exact heap_alloc_new _ _
end Go.Proofs.Lg
namespace Go.Proofs.Lg
open Go.RowKit Go.Lib Go.Proofs.YtdomcbebbhbdlaaGreatDoorW.PrintWords Go.Proofs.YtdomcbebbhbdlaaGreatDoorW.PrintLast Go.Proofs.YtdomcbebbhbdlaaGreatDoorW.PrintMore Go.Proofs.YtdomcbebbhbdlaaGreatDoor.PLogsBills
attribute [local go_sem] Oper.semAt_some
def trimN (x:ByteArray):ByteArray:=⟨(Lib.trimSuffix x.data.toList [10]).toArray⟩
theorem trimN_size (x:ByteArray):(trimN x).size ≤ x.size:=by
 have h:(Lib.trimSuffix x.data.toList [10]).length ≤ x.data.toList.length:=by
  unfold Lib.trimSuffix
  split
  ·rw [List.length_take];omega
  ·exact Nat.le_refl _
 exact h
theorem linesF_len:∀ (k:Nat) (s:ByteArray),(linesF k s).length ≤ k
 | 0,s=>by simp [linesF]
 | k + 1,s=>by
  rw [linesF]
  split
  ·simp
  ·split
   ·have:=linesF_len k (s.extract ((Lib.indexByte s.data.toList 10).toNat + 1) s.size)
    simp only [List.length_cons]
    omega
   ·simp
theorem linesF_mem:∀ (k:Nat) (s x:ByteArray),x ∈ linesF k s → x.size ≤ s.size
 | 0,s,x,h=>by simp [linesF] at h
 | k + 1,s,x,h=>by
  rw [linesF] at h
  split at h
  ·simp at h
  ·split at h
   ·rcases List.mem_cons.1 h with rfl | h
    ·rw [ByteArray.size_extract];omega
    ·have:=linesF_mem k _ x h
     rw [ByteArray.size_extract] at this
     omega
   ·simp only [List.mem_singleton] at h
    subst h
    exact Nat.le_refl _
theorem linesOf_mem {s x:ByteArray} {pre:List ByteArray} (h:(pre ++ [x]) <+: linesOf s) (hs:s.size ≤ 1000000):x.size ≤ 1000000:=Nat.le_trans (linesF_mem (s.size + 1) s x (h.subset (by simp))) hs
theorem results_three {P:Program} {fn:Func} {p q u:Tmp} {t1 t2 t3:TypeId} (h:fn.results=#[.cell p t1,.cell q t2,.cell u t3]) (tmps:Array Value) (w:World) (g1 g2 g3:Nat) (x y z:Value)
  (hp:tmps.getD p undef=.pointer (some ⟨g1,0,none⟩)) (hq:tmps.getD q undef=.pointer (some ⟨g2,0,none⟩)) (hu:tmps.getD u undef=.pointer (some ⟨g3,0,none⟩))
  (h1:(loadVar t1 ⟨g1,0,none⟩).run P w=.ok x w) (h2:(loadVar t2 ⟨g2,0,none⟩).run P w=.ok y w) (h3:(loadVar t3 ⟨g3,0,none⟩).run P w=.ok z w) :
  (results fn tmps).run P w=.ok (.tuple #[x,y,z]) w:=by
 have hp':tmps[p]?.getD undef=.pointer (some ⟨g1,0,none⟩):=by simpa using hp
 have hq':tmps[q]?.getD undef=.pointer (some ⟨g2,0,none⟩):=by simpa using hq
 have hu':tmps[u]?.getD undef=.pointer (some ⟨g3,0,none⟩):=by simpa using hu
 simp [results,h,hp',hq',hu',asAddr,h1,h2,h3,Sem.run_bind,Result.andThen]
theorem linesMk (s:ByteArray) (w:World):Calls Tryz.prog 57 #[.string s] w fun e w'=>e=.returned (.func (.func 93) #[] #[.pointer (some ⟨w.heap.size,0,none⟩)]) ∧ w'=w.alloc (.cells #[.string s] 9):=by
 go_enter Tryz.func57,Tryz.ntmps57
 go_wp2
 go_ret
 exact ⟨by simp,rfl⟩
theorem load3 {W:World} {g:Nat} {v:Value} (h:W.heap[g]?=some (.cells #[v] 3 (0,0))):(loadVar 3 ⟨g,0,none⟩).run Tryz.prog W=.ok v W:=by
 have hc:W.cell? ⟨g,0,none⟩=some v:=by rw [Lib.cell_of_heap h];rfl
 simp [loadVar,go_sem,hc]
theorem load28 {W:World} {g:Nat} {v:Value} (h:W.heap[g]?=some (.cells #[v] 28 (0,0))):(loadVar 28 ⟨g,0,none⟩).run Tryz.prog W=.ok v W:=by
 have hc:W.cell? ⟨g,0,none⟩=some v:=by rw [Lib.cell_of_heap h];rfl
 simp [loadVar,go_sem,hc]
theorem below_put {B D:Nat} {w W:World} (hD:B ≤ D) (h:Below B w W) (o:Obj):Below B w (W.putObj D o) :=
 h.trans ⟨rfl,rfl,rfl,by simp,fun k hk=>World.putObj_heap_other (by omega)⟩
theorem below_three {B b:Nat} {w W:World} (hB:B ≤ b) (h:Below B w W) (x' y' z':Value):Below B w (((W.setCell ⟨b + 1,0,none⟩ x').setCell ⟨b + 2,0,none⟩ y').setCell ⟨b + 3,0,none⟩ z') :=
 ((h.setCell (p:=⟨b + 1,0,none⟩) (by show B ≤ b + 1;omega) _).setCell (p:=⟨b + 2,0,none⟩) (by show B ≤ b + 2;omega) _).setCell (p:=⟨b + 3,0,none⟩) (by show B ≤ b + 3;omega) _
end Go.Proofs.Lg
namespace Go.Proofs.Lg
open Go.RowKit Go.Proofs.YtdomcbebbhbdlaaGreatDoorW.PrintWords Go.Proofs.YtdomcbebbhbdlaaGreatDoorW.PrintLast Go.Proofs.YtdomcbebbhbdlaaGreatDoorW.PrintMore
def sdec (n:Int):ByteArray:=⟨(Lib.itoa n).toArray⟩
theorem number_any (n:Int) (h0:-1000000 ≤ n) (h1:n ≤ 1000000000) (w:World) :
  Calls Tryz.prog 61 #[.int .i64 n] w fun e w'=>e=.returned (.string (sdec n)) ∧ Below w.heap.size w w':=by
 unfold sdec Lib.itoa
 by_cases hn:n < 0
 ·rw [if_pos hn]
  obtain ⟨m,rfl⟩:∃ m:Nat,n=-(m:Int):=⟨n.natAbs,by omega⟩
  rw [show (-(m:Int)).natAbs=m by omega]
  exact number_neg m (by omega) (by omega) w
 ·rw [if_neg hn]
  obtain ⟨m,rfl⟩:∃ m:Nat,n=(m:Int):=⟨n.toNat,by omega⟩
  rw [Int.toNat_natCast]
  exact number m (by omega) w
theorem itoa_any (n:Int) (h0:-1000000000 ≤ n) (h1:n ≤ 1000000000) (w:World) (hB:Base w) :
  Calls Tryz.prog 83 #[.int .i64 n] w fun e w'=>e=.returned (.string (sdec n)) ∧ Below w.heap.size w w':=by
 refine (Tryz.strconv_Itoa n (by omega) (by omega) w hB.tab).mono ?_
 rintro e w' ⟨rfl,k,os,rfl⟩
 exact ⟨rfl,below_grow k os⟩
theorem cell_spot {w:World} {a:Addr} {v:Value} (h:w.cell? a=some v):a.spot=none ∧ a.block < w.heap.size:=by
 unfold World.cell? at h
 cases hb:w.heap[a.block]? with
 | none=>rw [hb] at h;cases h
 | some o =>
  refine ⟨?_,(Array.getElem?_eq_some_iff.1 hb).1⟩
  rw [hb] at h
  cases o with
  | cells c t fz =>
   cases hs:a.spot with
   | none=>rfl
   | some s=>simp [hs] at h
  | _=>simp at h
theorem sealed_row (A:Option Addr) (c:Nat) (xs:List ByteArray) (w:World) (hr:Kd.C Kd.string w A xs.length xs) (hc:xs.length ≤ c)
  (h1:1 ≤ xs.length) (hn:xs.length ≤ 3000) (hlen:(joined xs).size ≤ 3000) :
  Calls Tryz.prog 84 #[.slice A xs.length c] w fun e w'=>e=.returned (.string (sealOf (joined xs ++ ⟨#[32]⟩))) ∧ Below w.heap.size w w':=by
 obtain ⟨ad,rfl,hcell⟩:=hr.2.2 (by omega)
 have hall:∀ (j:Nat) (x:ByteArray),xs[j]?=some x → w.cell? (ad.add j)=some (.string x):=by
  intro j x hj
  obtain ⟨c',hl,hK,hcs⟩:=hcell j x hj
  have hK:c'=[.string x]:=hK
  subst hK
  have:=hcs 0 _ rfl
  rwa [show Kd.string.sz=1 from rfl,Nat.mul_one,Nat.add_zero] at this
 have h0:=hall 0 _ (List.getElem?_eq_getElem (by omega))
 have hs:ad.spot=none ∧ ad.block < w.heap.size:=cell_spot h0
 obtain ⟨bk,o,sp⟩:=ad
 obtain rfl:sp=none:=hs.1
 exact sealed bk o c xs w (fun j x hj=>by
  have:=hall j x hj
  unfold Addr.add at this
  split at this
  ·rename_i h;rw [h,Nat.add_zero];exact this
  ·exact this) hs.2 hn hc hlen
end Go.Proofs.Lg
namespace Go.Proofs.YtdomcbebbhbdlaaGreatDoor.PLogsGauges
open Go.RowKit Go.Proofs.YtdomcbebbhbdlaaGreatDoorW.PrintWords Go.Proofs.YtdomcbebbhbdlaaGreatDoorW.PrintLast Go.Proofs.YtdomcbebbhbdlaaGreatDoorW.PrintMore
abbrev Base:=Go.Proofs.Lg.Base
theorem Base.step {w w':World} (h:Base w) (hb:Below w.heap.size w w'):Base w':=Go.Proofs.Lg.Base.step h hb
def rf_Number.f (n:Int):Option ByteArray:=if -1000000 ≤ n ∧ n ≤ 1000000000 then some (Go.Proofs.Lg.sdec n) else none
theorem rf_Number.calls (a0:Int) (r:ByteArray) (w:World) (h:rf_Number.f a0=some r) :
  Calls Tryz.prog 61 #[.int .i64 a0] w fun e w'=>e=.returned (.string r) ∧ Below w.heap.size w w':=by
 unfold rf_Number.f at h
 split at h
 ·rename_i hn;cases h;exact Go.Proofs.Lg.number_any a0 hn.1 hn.2 w
 ·cases h
def strconv_Itoa.f (n:Int):Option ByteArray:=if -1000000000 ≤ n ∧ n ≤ 1000000000 then some (Go.Proofs.Lg.sdec n) else none
theorem strconv_Itoa.calls (a0:Int) (r:ByteArray) (w:World) (hbase:Base w) (h:strconv_Itoa.f a0=some r) :
  Calls Tryz.prog 83 #[.int .i64 a0] w fun e w'=>e=.returned (.string r) ∧ Below w.heap.size w w':=by
 unfold strconv_Itoa.f at h
 split at h
 ·rename_i hn;cases h;exact Go.Proofs.Lg.itoa_any a0 hn.1 hn.2 w hbase
 ·cases h
def rf_Line.f (s:ByteArray):Option ByteArray:=if s.size ≤ 3000 then some (Go.Proofs.Lg.sealOf (s ++ ⟨#[32]⟩)) else none
theorem rf_Line.calls (a0:ByteArray) (r:ByteArray) (w:World) (h:rf_Line.f a0=some r) :
  Calls Tryz.prog 62 #[.string a0] w fun e w'=>e=.returned (.string r) ∧ Below w.heap.size w w':=by
 unfold rf_Line.f at h
 split at h
 ·rename_i hn;cases h;exact Go.Proofs.Lg.line a0 hn w
 ·cases h
def logs_within.f (lo hi:Int) (l:List Int):Option Bool:=if l.length ≤ 1000000 then some (Go.Proofs.Lg.inside lo hi l) else none
theorem logs_within.calls (a0 a1:Int) (A2:Option Addr) (c2:Nat) (l2:List Int) (r:Bool) (w:World) (hr2:Kd.C (Kd.int .i64) w A2 l2.length l2) (hc2:l2.length ≤ c2) (h:logs_within.f a0 a1 l2=some r) :
  Calls Tryz.prog 39 #[.int .i64 a0,.int .i64 a1,.slice A2 l2.length c2] w fun e w'=>e=.returned (.bool r) ∧ Below w.heap.size w w':=by
 unfold logs_within.f at h
 split at h
 ·rename_i hn;cases h;exact Go.Proofs.Lg.within A2 c2 l2 a0 a1 w hr2 hc2 hn
 ·cases h
def logs_sealed.f (l:List ByteArray):Option ByteArray:=if 1 ≤ l.length ∧ l.length ≤ 3000 ∧ (Go.Proofs.Lg.joined l).size ≤ 3000 then some (Go.Proofs.Lg.sealOf (Go.Proofs.Lg.joined l ++ ⟨#[32]⟩)) else none
theorem logs_sealed.calls (A0:Option Addr) (c0:Nat) (l0:List ByteArray) (r:ByteArray) (w:World) (hr0:Kd.C Kd.string w A0 l0.length l0) (hc0:l0.length ≤ c0) (h:logs_sealed.f l0=some r) :
  Calls Tryz.prog 84 #[.slice A0 l0.length c0] w fun e w'=>e=.returned (.string r) ∧ Below w.heap.size w w':=by
 unfold logs_sealed.f at h
 split at h
 ·rename_i hn;cases h;exact Go.Proofs.Lg.sealed_row A0 c0 l0 w hr0 hc0 hn.1 hn.2.1 hn.2.2
 ·cases h
theorem laid_of {w:World} (h:Base w):Go.Vev.Logs.Laid w:=by
 refine ⟨h.room,?_⟩
 have ht:=h.tab
 unfold Lib.TabIs World.var? at ht
 rw [Go.Proofs.Lg.tab_at] at ht
 simp only [Option.bind_some] at ht
 cases hh:w.heap[5]? with
 | none=>rw [hh] at ht;cases ht
 | some o =>
  rw [hh] at ht
  cases o with
  | cells c t fz =>
   refine ⟨c,t,fz,rfl,?_⟩
   simp only [Option.some.injEq] at ht
   rw [ht]
   rfl
  | _=>simp at ht
def lw_known.f:Option Bool:=some true
theorem lw_known.calls (r:Bool) (w:World) (hbase:Base w) (h:lw_known.f=some r) :
  Calls Tryz.prog 5 #[] w fun e w'=>e=.returned (.bool r) ∧ Below w.heap.size w w':=by
 cases h
 exact Go.Vev.Logs.known (laid_of hbase)
end Go.Proofs.YtdomcbebbhbdlaaGreatDoor.PLogsGauges
namespace Go.Proofs.YtdomcbebbhbdlaaGreatDoor.PLogsGauges
open Go.RowKit Go.Proofs.YtdomcbebbhbdlaaGreatDoorW.PrintWords Go.Proofs.YtdomcbebbhbdlaaGreatDoorW.PrintLast Go.Proofs.YtdomcbebbhbdlaaGreatDoorW.PrintMore Go.Proofs.YtdomcbebbhbdlaaGreatDoor.PLogsBills
attribute [local go_sem] max2_int min2_int max_two min_two max_three min_three max_four min_four
def errW:Option Int → Value
 | none=>.nilIface
 | some c=>.iface 0 (.int .i64 c)
theorem errW_none:errW none=.nilIface:=rfl
theorem errW_some (c:Int):errW (some c)=.iface 0 (.int .i64 c):=rfl
theorem info3:(Tryz.prog.info? 3).map (fun i=>(i.zero,i.size,i.bytes))=some (some (.int .i64 0),1,8):=by kernel_rfl
theorem info9:(Tryz.prog.info? 9).map (fun i=>(i.zero,i.size,i.bytes))=some (some (.string ⟨#[]⟩),1,16):=by kernel_rfl
theorem info37:(Tryz.prog.info? 37).map (fun i=>(i.zero,i.size,i.bytes))=some (some (.agg #[(.int .i64 0),(.int .i64 0),(.slice none 0 0)]),3,40):=by kernel_rfl
structure S37 where
 f0:Int
 f1:Int
 f2:(List Int)
def z37:S37:=⟨(0:Int),(0:Int),([]:List Int)⟩
def k37:Kd S37:=Kd.iso (Kd.pair (Kd.int .i64) (Kd.pair (Kd.int .i64) (Kd.slice 3 (Kd.int .i64)))) (fun x:S37=>(x.f0,x.f1,x.f2))
theorem k37_open {w:World} {x:S37} {cs:List Value} (h:k37.K w x cs):∃ A2 c2,cs=[.int .i64 x.f0,.int .i64 x.f1,.slice A2 x.f2.length c2] ∧ x.f2.length ≤ c2 ∧ (Kd.int .i64).C w A2 x.f2.length x.f2:=by
 obtain ⟨_,_,rfl,rfl,⟨_,_,rfl,rfl,⟨A2,c2,rfl,l2,g2⟩⟩⟩:=h
 exact ⟨A2,c2,rfl,l2,g2⟩
theorem k37_openM {w:World} {base:Nat} {ok:Nat → Prop} {x:S37} {cs:List Value} (h:k37.M w base ok x cs):∃ v2,cs=[.int .i64 x.f0,.int .i64 x.f1,v2] ∧ (Kd.int .i64).R 3 w base ok v2 x.f2:=by
 obtain ⟨_,_,rfl,rfl,⟨_,_,rfl,rfl,⟨v2,rfl,g2⟩⟩⟩:=h
 exact ⟨v2,rfl,g2⟩
theorem k37_mk (w:World) (x:S37) {A2:Option Addr} {c2:Nat} (l2:x.f2.length ≤ c2) (g2:(Kd.int .i64).C w A2 x.f2.length x.f2):k37.K w x [.int .i64 x.f0,.int .i64 x.f1,.slice A2 x.f2.length c2]:=⟨[.int .i64 x.f0],[.int .i64 x.f1,.slice A2 x.f2.length c2],rfl,rfl,⟨[.int .i64 x.f1],[.slice A2 x.f2.length c2],rfl,rfl,⟨A2,c2,rfl,l2,g2⟩⟩⟩
theorem k37_mkM (w:World) (base:Nat) (ok:Nat → Prop) (x:S37) {v2:Value} (g2:(Kd.int .i64).R 3 w base ok v2 x.f2):k37.M w base ok x [.int .i64 x.f0,.int .i64 x.f1,v2]:=⟨[.int .i64 x.f0],[.int .i64 x.f1,v2],rfl,rfl,⟨[.int .i64 x.f1],[v2],rfl,rfl,⟨v2,rfl,g2⟩⟩⟩
def rd_T37 (xs:List S37) (i:Int):S37:=xs.getD i.toNat z37
theorem at_T37 {w:World} {A:Option Addr} {n:Nat} {xs:List S37} (h:Kd.C k37 w A n xs) (i:Int) (h0:0 ≤ i) (h1:i < n):∃ ad A2 c2,A=some ad ∧ w.cell? (ad.add (i.toNat * 3))=some (.int .i64 (rd_T37 xs i).f0) ∧ w.cell? ⟨(ad.add (i.toNat * 3)).block,(ad.add (i.toNat * 3)).off + 1,none⟩=some (.int .i64 (rd_T37 xs i).f1) ∧ w.cell? ⟨(ad.add (i.toNat * 3)).block,(ad.add (i.toNat * 3)).off + 2,none⟩=some (.slice A2 (rd_T37 xs i).f2.length c2) ∧ (rd_T37 xs i).f2.length ≤ c2 ∧ (Kd.int .i64).C w A2 (rd_T37 xs i).f2.length (rd_T37 xs i).f2:=by
 obtain ⟨ad,c,e,_,hK,hc0⟩:=Kd.C_get h z37 i h0 h1
 have hc:∀ j u,c[j]?=some u → w.cell? (ad.add (i.toNat * 3 + j))=some u:=hc0
 obtain ⟨A2,c2,rfl,l2,g2⟩:=k37_open hK
 exact ⟨ad,A2,c2,e,hc 0 _ rfl,by rw [← add_field _ _ 1 (by omega)];exact hc 1 _ rfl,by rw [← add_field _ _ 2 (by omega)];exact hc 2 _ rfl,l2,g2⟩
end Go.Proofs.YtdomcbebbhbdlaaGreatDoor.PLogsGauges
namespace Go.Proofs.YtdomcbebbhbdlaaGreatDoor.PLogsGauges
open Go.RowKit Go.Proofs.Lg Go.Proofs.YtdomcbebbhbdlaaGreatDoorW.PrintWords Go.Proofs.YtdomcbebbhbdlaaGreatDoorW.PrintLast Go.Proofs.YtdomcbebbhbdlaaGreatDoorW.PrintMore
def atoiR (s:ByteArray):Int × Option Int:=match Lib.atoiAll s.data.toList with | .ok v=>(v,none) | .range=>(Lib.atoiSat s.data.toList,some 0) | _=>(0,some 0)
def strconv_Atoi.f (s:ByteArray):Option (Int × Option Int):=if s.size ≤ 1000000 then some (atoiR s) else none
theorem strconv_Atoi.both (a0:ByteArray) (w:World) (hbase:Go.Proofs.Lg.Base w) (hs:a0.size ≤ 1000000) :
  Calls Tryz.prog 67 #[.string a0] w fun e w'=>(((atoiR a0).2=none ∧ e=.returned (.tuple #[.int .i64 (atoiR a0).1,.nilIface])) ∨ ∃ N q,(atoiR a0).2=some q ∧ e=.returned (.tuple #[.int .i64 (atoiR a0).1,.iface 173 (.pointer (some ⟨N,0,none⟩))])) ∧ Below w.heap.size w w':=by
 unfold atoiR
 cases h:Lib.atoiAll a0.data.toList with
 | ok v =>
  refine (Tryz.strconv_Atoi_ok a0 (by omega) v h w).mono ?_
  rintro e w' ⟨rfl,hw'⟩
  refine ⟨.inl ⟨rfl,rfl⟩,?_⟩
  rcases hw' with rfl | ⟨t,rfl⟩
  ·exact Below.refl _ _
  ·exact bytes_below (Below.refl _ _) (Nat.le_refl _) 5 t
 | range =>
  obtain ⟨tp,p,hc⟩:=hbase.rng
  refine (Tryz.strconv_Atoi_range a0 (by omega) h _ w hc (.inr ⟨_,_,rfl⟩)).mono ?_
  rintro e w' ⟨N,rfl,h1,h2,h3⟩
  exact ⟨.inr ⟨N,0,rfl,rfl⟩,h3⟩
 | _ =>
  obtain ⟨tp,p,hc⟩:=hbase.syn
  refine (Tryz.strconv_Atoi_syntax a0 (by omega) h _ w hc (.inr ⟨_,_,rfl⟩)).mono ?_
  rintro e w' ⟨N,rfl,h1,h2,h3⟩
  exact ⟨.inr ⟨N,0,rfl,rfl⟩,h3⟩
theorem strconv_Atoi.calls (a0:ByteArray) (r1:Int) (r2:Option Int) (w:World) (hbase:Go.Proofs.Lg.Base w) (h:strconv_Atoi.f a0=some (r1,none)) (hr2:r2=none:=by rfl) :
  Calls Tryz.prog 67 #[.string a0] w fun e w'=>e=.returned (.tuple #[.int .i64 r1,.nilIface]) ∧ Below w.heap.size w w':=by
 unfold strconv_Atoi.f at h
 split at h
 ·rename_i hs
  have h0:=Option.some.inj h
  refine (strconv_Atoi.both a0 w hbase hs).mono ?_
  rw [h0]
  rintro e w' ⟨⟨_,rfl⟩ | ⟨N,q,hq,rfl⟩,hb⟩
  ·exact ⟨rfl,hb⟩
  ·cases hq
 ·cases h
theorem strconv_Atoi.callsE (a0:ByteArray) (r1:Int) (q:Int) (w:World) (hbase:Go.Proofs.Lg.Base w) (h:strconv_Atoi.f a0=some (r1,some q)) :
  Calls Tryz.prog 67 #[.string a0] w fun e w'=>∃ N,e=.returned (.tuple #[.int .i64 r1,.iface 173 (.pointer (some ⟨N,0,none⟩))]) ∧ Below w.heap.size w w':=by
 unfold strconv_Atoi.f at h
 split at h
 ·rename_i hs
  have h0:=Option.some.inj h
  refine (strconv_Atoi.both a0 w hbase hs).mono ?_
  rw [h0]
  rintro e w' ⟨⟨hq,rfl⟩ | ⟨N,q,hq,rfl⟩,hb⟩
  ·cases hq
  ·exact ⟨N,rfl,hb⟩
 ·cases h
def logs_number.f (s:ByteArray):Option Int:=if s.size ≤ 1000000 then some (numOf s) else none
theorem logs_number.calls (a0:ByteArray) (r:Int) (w:World) (hbase:Go.Proofs.Lg.Base w) (h:logs_number.f a0=some r) :
  Calls Tryz.prog 51 #[.string a0] w fun e w'=>e=.returned (.int .i64 r) ∧ Below w.heap.size w w':=by
 unfold logs_number.f at h
 split at h
 ·rename_i hs;cases h;exact number51 a0 hs w hbase
 ·cases h
end Go.Proofs.YtdomcbebbhbdlaaGreatDoor.PLogsGauges
