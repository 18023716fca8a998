/- The program's reader. Conditions: the package-level cells are as they began. -/
import Derived.Test.YtdomcbebbhbdlaaGreatDoorGf
import Derived.Test.YtdomcbebbhbdlaaGreatDoorGg
set_option linter.unusedSimpArgs false
set_option linter.unusedVariables false
namespace Go.Proofs.Lg
open Go.RowKit Go.Lib Go.Proofs.YtdomcbebbhbdlaaGreatDoorW.PrintWords Go.Proofs.YtdomcbebbhbdlaaGreatDoorW.PrintLast Go.Proofs.YtdomcbebbhbdlaaGreatDoorW.PrintMore Go.Proofs.YtdomcbebbhbdlaaGreatDoor.PLogsGauges
attribute [local go_sem] Oper.semAt_some
theorem far_sets3' {b base:Nat} {W:World} {v0 v1 v2 v:Value} {l:List Int} {ok:Nat → Prop} (hok:∀ k,ok k → k ≠ b) (hR:Kd.R (Kd.int .i64) 3 W base ok v l) :
  Kd.R (Kd.int .i64) 3 (((W.setCell ⟨b,0,none⟩ v0).setCell ⟨b,1,none⟩ v1).setCell ⟨b,2,none⟩ v2) base ok v l :=
 Kd.R_far (Kd.R_far (Kd.R_far hR (p:=⟨b,0,none⟩) hok v0) (p:=⟨b,1,none⟩) hok v1) (p:=⟨b,2,none⟩) hok v2
def lastFG (acc:List S37):Option S37:=acc.getLast?
theorem lastFG_at {acc:List S37} {k:Nat} (hk:acc.length=k + 1):lastFG acc=some (rd_T37 acc (k:Int)):=by
 have hk':k < acc.length:=by omega
 have e:acc.length - 1=k:=by omega
 unfold lastFG rd_T37
 rw [List.getLast?_eq_getElem?,e,Int.toNat_natCast]
 simp [hk']
def goG:List S37 → List ByteArray → List S37 × Int × Int
 | acc,[]=>(acc,0,0)
 | acc,x :: r=>if (lineG (trimN x)).2=0 then (if afterG (lastFG acc) (lineG (trimN x)).1 then goG (acc ++ [(lineG (trimN x)).1]) r else ([],(acc.length:Int),6)) else ([],(acc.length:Int),(lineG (trimN x)).2)
def thingsG (s:ByteArray):List S37 × Int × Int :=
 if 120000 < s.size then ([],0,5)
 else if s.data.toList ≠ [] ∧ Lib.hasSuffix s.data.toList [10]=false then ([],0,120)
 else if 200 < Lib.countByte s.data.toList 10 then ([],0,5)
 else goG [] (linesOf s)
def H3G (b:Nat) (W:World) (x y z:Value):Prop :=
 W.heap[b + 1]?=some (.cells #[x] 35 (0,0)) ∧ W.heap[b + 2]?=some (.cells #[y] 3 (0,0)) ∧ W.heap[b + 3]?=some (.cells #[z] 28 (0,0))
theorem load35 {W:World} {g:Nat} {v:Value} (h:W.heap[g]?=some (.cells #[v] 35 (0,0))):(loadVar 35 ⟨g,0,none⟩).run Tryz.prog W=.ok v W:=by
 have hc:W.cell? ⟨g,0,none⟩=some v:=by rw [Lib.cell_of_heap h];rfl
 simp [loadVar,go_sem,hc]
theorem H3G.sets {b:Nat} {W:World} {x y z:Value} (h:H3G b W x y z) (x' y' z':Value) :
  H3G b (((W.setCell ⟨b + 1,0,none⟩ x').setCell ⟨b + 2,0,none⟩ y').setCell ⟨b + 3,0,none⟩ z') x' y' z':=by
 obtain ⟨h1,h2,h3⟩:=h
 have e1:=set_row (j:=0) h1 x'
 have e2:=(Below.heap_setCell W ⟨b + 1,0,none⟩ x' (b + 2) (by show b + 2 ≠ b + 1;omega)).trans h2
 have e3:=(Below.heap_setCell W ⟨b + 1,0,none⟩ x' (b + 3) (by show b + 3 ≠ b + 1;omega)).trans h3
 have k1:=(Below.heap_setCell _ ⟨b + 2,0,none⟩ y' (b + 1) (by show b + 1 ≠ b + 2;omega)).trans e1
 have k2:=set_row (j:=0) e2 y'
 have k3:=(Below.heap_setCell _ ⟨b + 2,0,none⟩ y' (b + 3) (by show b + 3 ≠ b + 2;omega)).trans e3
 have l1:=(Below.heap_setCell _ ⟨b + 3,0,none⟩ z' (b + 1) (by show b + 1 ≠ b + 3;omega)).trans k1
 have l2:=(Below.heap_setCell _ ⟨b + 3,0,none⟩ z' (b + 2) (by show b + 2 ≠ b + 3;omega)).trans k2
 have l3:=set_row (j:=0) k3 z'
 exact ⟨l1,l2,l3⟩
theorem H3G.put {b D:Nat} {W:World} {x y z:Value} (h:H3G b W x y z) (hD:b + 3 < D) (o:Obj):H3G b (W.putObj D o) x y z :=
 ⟨(World.putObj_heap_other (by omega)).trans h.1,(World.putObj_heap_other (by omega)).trans h.2.1,(World.putObj_heap_other (by omega)).trans h.2.2⟩
theorem fin_retG {b:Nat} {w W W4:World} {x' y' z':Value} (hb4:Below W.heap.size W W4) (hH4:H3G b W4 x' y' z') (hB4:Below b w W4) (x y z:Value) :
  KeepsOthers W (((W4.setCell ⟨b + 1,0,none⟩ x).setCell ⟨b + 2,0,none⟩ y).setCell ⟨b + 3,0,none⟩ z).drew ∧ H3G b (((W4.setCell ⟨b + 1,0,none⟩ x).setCell ⟨b + 2,0,none⟩ y).setCell ⟨b + 3,0,none⟩ z).drew x y z ∧
   Below b w (((W4.setCell ⟨b + 1,0,none⟩ x).setCell ⟨b + 2,0,none⟩ y).setCell ⟨b + 3,0,none⟩ z).drew:=by
 refine ⟨?_,H3G.sets hH4 x y z,below_drew (below_three (Nat.le_refl _) hB4 _ _ _)⟩
 exact ((((KeepsOthers.of_grownBy (grown_of_below hb4 none) (fun j o e=>by cases e)).trans (KeepsOthers.setCell _ _ _)).trans (KeepsOthers.setCell _ _ _)).trans (KeepsOthers.setCell _ _ _)).trans (KeepsOthers.drew _)
theorem fin_nextG {b c:Nat} {w W W5 w1:World} {pcs:Array Value} {vA:Option Addr} {vn vc n1 cc1:Nat} {A1:Option Addr} {acc2:List S37} {m m':Int} (hbc:b + 3 < c) (hZ:c + 2 ≤ W.heap.size)
  (hP:W.heap[b]?=some (.cells pcs 81 (0,0))) (hB:Below b w W) (hW5:Below W.heap.size W W5) (hg1:W5.grownBy w1 (Value.slice vA vn vc).ownBlock) (hH6:H3G b w1 (.slice vA vn vc) (.int .i64 0) (.int .i64 0))
  (h76:w1.heap[c]?=some (.cells #[.int .i64 m] 3 (0,0))) (ho:Kd.S k37 37 w1 b (fun k=>c + 2 ≤ k) (.slice A1 n1 cc1) acc2) (hvb:∀ k,(Value.slice vA vn vc).ownBlock=some k → c + 2 ≤ k) (hvl:∀ k,(Value.slice vA vn vc).ownBlock=some k → k < W.heap.size)
  (hty:∀ k,(Value.slice vA vn vc).ownBlock=some k → ∃ cells,W.heap[k]?=some (.cells cells 37 (0,0))) :
  KeepsOthers W ((w1.setCell ⟨b + 1,0,none⟩ (.slice A1 n1 cc1)).setCell ⟨c,0,none⟩ (.int .i64 m')) ∧ RoundKeeps (fun k=>k=c + 1) W ((w1.setCell ⟨b + 1,0,none⟩ (.slice A1 n1 cc1)).setCell ⟨c,0,none⟩ (.int .i64 m')) ∧
   ((w1.setCell ⟨b + 1,0,none⟩ (.slice A1 n1 cc1)).setCell ⟨c,0,none⟩ (.int .i64 m')).heap[b]?=some (.cells pcs 81 (0,0)) ∧
   H3G b ((w1.setCell ⟨b + 1,0,none⟩ (.slice A1 n1 cc1)).setCell ⟨c,0,none⟩ (.int .i64 m')) (.slice A1 n1 cc1) (.int .i64 0) (.int .i64 0) ∧
   ((w1.setCell ⟨b + 1,0,none⟩ (.slice A1 n1 cc1)).setCell ⟨c,0,none⟩ (.int .i64 m')).heap[c]?=some (.cells #[.int .i64 m'] 3 (0,0)) ∧
   Kd.S k37 37 ((w1.setCell ⟨b + 1,0,none⟩ (.slice A1 n1 cc1)).setCell ⟨c,0,none⟩ (.int .i64 m')) b (fun k=>c + 2 ≤ k) (.slice A1 n1 cc1) acc2 ∧
   Below b w ((w1.setCell ⟨b + 1,0,none⟩ (.slice A1 n1 cc1)).setCell ⟨c,0,none⟩ (.int .i64 m')) ∧ c + 2 ≤ ((w1.setCell ⟨b + 1,0,none⟩ (.slice A1 n1 cc1)).setCell ⟨c,0,none⟩ (.int .i64 m')).heap.size:=by
 have hs1:=hW5.size
 have hs2:=hg1.size
 have hk:∀ k,k < c + 2 → w1.heap[k]?=W.heap[k]?:=fun k hk=>(hg1.block k (by omega) (fun e=>by have:=hvb k e.symm;omega)).trans (hW5.block k (by omega))
 have far:∀ k,k ≠ b + 1 → k ≠ c → ((w1.setCell ⟨b + 1,0,none⟩ (.slice A1 n1 cc1)).setCell ⟨c,0,none⟩ (.int .i64 m')).heap[k]?=w1.heap[k]?:=fun k h1 h2=>(Below.heap_setCell _ ⟨c,0,none⟩ _ k h2).trans (Below.heap_setCell _ ⟨b + 1,0,none⟩ _ k h1)
 have hsz:w1.heap.size ≤ ((w1.setCell ⟨b + 1,0,none⟩ (.slice A1 n1 cc1)).setCell ⟨c,0,none⟩ (.int .i64 m')).heap.size:=(((Below.refl 0 w1).setCell (p:=⟨b + 1,0,none⟩) (Nat.zero_le _) _).setCell (p:=⟨c,0,none⟩) (Nat.zero_le _) _).size
 have hBw:Below b W w1:=⟨hg1.os.trans hW5.os,hg1.tape.trans hW5.tape,hg1.output.trans hW5.output,Nat.le_trans hs1 hs2,fun k h=>hk k (by omega)⟩
 refine ⟨?_,⟨by omega,fun k h=>?_⟩,(far b (by omega) (by omega)).trans ((hk b (by omega)).trans hP),⟨?_,(far _ (by omega) (by omega)).trans hH6.2.1,(far _ (by omega) (by omega)).trans hH6.2.2⟩,?_,?_,?_,by omega⟩
 ·refine (((KeepsOthers.of_grownBy (grown_of_below hW5 none) (fun j o e=>by cases e)).trans (KeepsOthers.of_grownBy hg1 (fun j o e ho'=>?_))).trans (KeepsOthers.setCell _ _ _)).trans (KeepsOthers.setCell _ _ _)
  obtain ⟨cells,hc⟩:=hty j e
  rw [hW5.block j (hvl j e),hc] at ho'
  cases ho'
  rfl
 ·have h':k=c + 1:=h
  subst h'
  exact (far _ (by omega) (by omega)).trans (hk _ (by omega))
 ·exact (Below.heap_setCell _ ⟨c,0,none⟩ _ (b + 1) (by show b + 1 ≠ c;omega)).trans (set_row (j:=0) hH6.1 _)
 ·exact set_row (j:=0) ((Below.heap_setCell w1 ⟨b + 1,0,none⟩ _ c (by show c ≠ b + 1;omega)).trans h76) _
 ·exact Kd.S_far (Kd.S_far ho (p:=⟨b + 1,0,none⟩) (fun k hk=>by show k ≠ b + 1;omega) _) (p:=⟨c,0,none⟩) (fun k hk=>by show k ≠ c;omega) _
 ·exact ((hB.trans hBw).setCell (p:=⟨b + 1,0,none⟩) (by show b ≤ b + 1;omega) _).setCell (p:=⟨c,0,none⟩) (by show b ≤ c;omega) _
theorem four_boxesG (w:World) (cs:Array Value) (x y z:Value) (t:TypeId) :
  ((((w.alloc (.cells cs t)).alloc (.cells #[x] 35)).alloc (.cells #[y] 3)).alloc (.cells #[z] 28)).heap.size=w.heap.size + 4 ∧ Below w.heap.size w ((((w.alloc (.cells cs t)).alloc (.cells #[x] 35)).alloc (.cells #[y] 3)).alloc (.cells #[z] 28)) ∧
   ((((w.alloc (.cells cs t)).alloc (.cells #[x] 35)).alloc (.cells #[y] 3)).alloc (.cells #[z] 28)).heap[w.heap.size]?=some (.cells cs t (0,0)) ∧ H3G w.heap.size ((((w.alloc (.cells cs t)).alloc (.cells #[x] 35)).alloc (.cells #[y] 3)).alloc (.cells #[z] 28)) x y z:=by
 have s1:(w.alloc (.cells cs t)).heap.size=w.heap.size + 1:=World.size_alloc _ _
 have s2:((w.alloc (.cells cs t)).alloc (.cells #[x] 35)).heap.size=w.heap.size + 2:=by rw [World.size_alloc,s1]
 have s3:(((w.alloc (.cells cs t)).alloc (.cells #[x] 35)).alloc (.cells #[y] 3)).heap.size=w.heap.size + 3:=by rw [World.size_alloc,s2]
 have s4:((((w.alloc (.cells cs t)).alloc (.cells #[x] 35)).alloc (.cells #[y] 3)).alloc (.cells #[z] 28)).heap.size=w.heap.size + 4:=by rw [World.size_alloc,s3]
 have h0:(w.alloc (.cells cs t)).heap[w.heap.size]?=some (.cells cs t (0,0)):=heap_alloc_new _ _
 have h1:((w.alloc (.cells cs t)).alloc (.cells #[x] 35)).heap[w.heap.size + 1]?=some (.cells #[x] 35 (0,0)):=by rw [← s1];exact heap_alloc_new _ _
 have h2:(((w.alloc (.cells cs t)).alloc (.cells #[x] 35)).alloc (.cells #[y] 3)).heap[w.heap.size + 2]?=some (.cells #[y] 3 (0,0)):=by rw [← s2];exact heap_alloc_new _ _
 have h3:((((w.alloc (.cells cs t)).alloc (.cells #[x] 35)).alloc (.cells #[y] 3)).alloc (.cells #[z] 28)).heap[w.heap.size + 3]?=some (.cells #[z] 28 (0,0)):=by rw [← s3];exact heap_alloc_new _ _
 refine ⟨s4,((((Below.refl w.heap.size w).alloc (Nat.le_refl _) _).alloc (by omega) _).alloc (by omega) _).alloc (by omega) _,?_,?_,?_,h3⟩
 ·exact (Go.Lib.alloc_old _ _ _ (by omega)).trans ((Go.Lib.alloc_old _ _ _ (by omega)).trans ((Go.Lib.alloc_old _ _ _ (by omega)).trans h0))
 ·exact (Go.Lib.alloc_old _ _ _ (by omega)).trans ((Go.Lib.alloc_old _ _ _ (by omega)).trans h1)
 ·exact (Go.Lib.alloc_old _ _ _ (by omega)).trans h2
set_option maxHeartbeats 4000000 in
set_option maxRecDepth 100000 in
theorem thingsGC (s:ByteArray) (hs:s.size ≤ 1000000) (w:World) (hw:Base w) :
  Calls Tryz.prog 35 #[paperG,.string s] w fun e w'=>∃ v,e=.returned (.tuple #[v,.int .i64 (thingsG s).2.1,.int .i64 (thingsG s).2.2]) ∧ Kd.S k37 37 w' w.heap.size (fun _=>True) v (thingsG s).1 ∧ Below w.heap.size w w':=by
 unfold paperG
 refine (callsIn_wide (n:=9)).1 ?_
 refine callsIn_of_wp_marks Tryz.func35 rfl trivial ?_ rfl
 simp only [Tryz.ntmps35,List.size_toArray,List.length_cons,List.length_nil,Nat.reduceAdd,Nat.reduceSub,Array.replicate_succ,Array.replicate_zero,List.push_toArray,List.append_toArray,List.nil_append,List.cons_append]
 refine wpIn_wide.2 ?_
 go_upto_region 1 with fail
 obtain ⟨hsz0,hb0,hP0,hH0⟩:=four_boxesG w #[.func (.func 63) #[] #[],.func (.func 64) #[] #[],.func (.func 65) #[] #[],.func (.func 66) #[] #[],.int .i64 200] (.slice none 0 0) (.int .i64 0) (.int .i64 0) 81
 obtain ⟨W0,hW0⟩:∃ W0,((((w.alloc (.cells #[.func (.func 63) #[] #[],.func (.func 64) #[] #[],.func (.func 65) #[] #[],.func (.func 66) #[] #[],.int .i64 200] 81)).alloc (.cells #[.slice none 0 0] 35)).alloc (.cells #[.int .i64 0] 3)).alloc (.cells #[.int .i64 0] 28))=W0:=⟨_,rfl⟩
 rw [hW0] at hsz0 hb0 hP0 hH0 ⊢
 clear hW0
 have hw0:Base W0:=hw.step hb0
 have e2:w.heap.size + 1 + 1=w.heap.size + 2:=by omega
 have e3:w.heap.size + 1 + 1 + 1=w.heap.size + 3:=by omega
 have p4:W0.cell? ⟨w.heap.size,4,none⟩=some (.int .i64 200):=by rw [Lib.cell_of_heap hP0];rfl
 obtain ⟨h1,h2,h3⟩:=hH0
 have c1:W0.cell? ⟨w.heap.size + 1,0,none⟩=some (.slice none 0 0):=by rw [Lib.cell_of_heap h1];rfl
 have c2:W0.cell? ⟨w.heap.size + 2,0,none⟩=some (.int .i64 0):=by rw [Lib.cell_of_heap h2];rfl
 have c3:W0.cell? ⟨w.heap.size + 3,0,none⟩=some (.int .i64 0):=by rw [Lib.cell_of_heap h3];rfl
 have f1:W0.frozen? ⟨w.heap.size + 1,0,none⟩=false:=Lib.frozen_of_heap h1 0
 have f2:W0.frozen? ⟨w.heap.size + 2,0,none⟩=false:=Lib.frozen_of_heap h2 0
 have f3:W0.frozen? ⟨w.heap.size + 3,0,none⟩=false:=Lib.frozen_of_heap h3 0
 by_cases g1:120000 < s.size
 ·have z1:decide ((120000:Int) < (s.size:Int))=true:=decide_eq_true (by omega)
  have z2:decide (120000 < s.size)=true:=decide_eq_true g1
  have hT:thingsG s=([],0,5):=by unfold thingsG;rw [if_pos g1]
  go_wp2
  have hF:=H3G.sets ⟨h1,h2,h3⟩ (.slice none 0 0) (.int .i64 0) (.int .i64 5)
  refine ⟨_,results_three rfl _ _ (w.heap.size + 1) (w.heap.size + 2) (w.heap.size + 3) _ _ _ rfl rfl rfl (load35 hF.1) (load3 hF.2.1) (load28 hF.2.2),?_⟩
  try rw [hT]
  exact ⟨_,rfl,Kd.S_nil _ _ _ _ _,below_three (Nat.le_refl _) hb0 _ _ _⟩
 have z1:decide ((120000:Int) < (s.size:Int))=false:=decide_eq_false (by omega)
 have z2:decide (120000 < s.size)=false:=decide_eq_false g1
 have hsuf:=Tryz.strings_HasSuffix s ⟨#[10]⟩
 have hsl:(⟨#[10]⟩:ByteArray).data.toList=[10]:=rfl
 have htl:s.toList=s.data.toList:=ByteArray.toList_eq s
 by_cases g2:s.data.toList ≠ [] ∧ Lib.hasSuffix s.data.toList [10]=false
 ·have q1:(s.toList == [])=false:=by rw [htl];exact beq_eq_false_iff_ne.2 g2.1
  have q2:s.toList.isEmpty=false:=by rw [htl];cases h:s.data.toList with | nil=>exact absurd h g2.1 | cons _ _=>rfl
  have hT:thingsG s=([],0,120):=by unfold thingsG;rw [if_neg g1,if_pos g2]
  clear htl
  go_wp2_with (go_at_call 55;refine (hsuf _ (by omega)).mono ?_;rw [hsl,g2.2];rintro e w' ⟨rfl,hww⟩;obtain rfl:=hww.symm)
  have hF:=H3G.sets ⟨h1,h2,h3⟩ (.slice none 0 0) (.int .i64 0) (.int .i64 120)
  refine ⟨_,results_three rfl _ _ (w.heap.size + 1) (w.heap.size + 2) (w.heap.size + 3) _ _ _ rfl rfl rfl (load35 hF.1) (load3 hF.2.1) (load28 hF.2.2),?_⟩
  try rw [hT]
  exact ⟨_,rfl,Kd.S_nil _ _ _ _ _,below_three (Nat.le_refl _) hb0 _ _ _⟩
 obtain ⟨cnt,hcnt⟩:∃ cnt,Lib.countByte s.data.toList 10=cnt:=⟨_,rfl⟩
 have hcount:∀ W:World,Calls Tryz.prog 56 #[.string s,.string ⟨#[10]⟩] W fun e w'=>e=.returned (.int .i64 (cnt:Int)) ∧ w'=W:=fun W=>by rw [← hcnt];exact Tryz.strings_Count_one s 10 W
 have hcntS:=Aside0.mk hcnt
 clear hcnt
 go_upto_region 3 with fail
 go_cut [18] from 18 to 25 (fun s18 wx=>s18=.bool false ∧ wx=W0)
 case first =>
  by_cases hne:s.data.toList=[]
  ·have q1:(s.toList == [])=true:=by rw [htl];exact beq_iff_eq.2 hne
   have q2:s.toList.isEmpty=true:=by rw [htl,hne];rfl
   clear htl
   go_wp2_with fail
   go_meet
   exact ⟨rfl,rfl⟩
  ·have q1:(s.toList == [])=false:=by rw [htl];exact beq_eq_false_iff_ne.2 hne
   have q2:s.toList.isEmpty=false:=by rw [htl];cases h:s.data.toList with | nil=>exact absurd h hne | cons _ _=>rfl
   have q3:Lib.hasSuffix s.data.toList [10]=true:=by
    cases h:Lib.hasSuffix s.data.toList [10] with
    | true=>rfl
    | false=>exact absurd ⟨hne,h⟩ g2
   clear htl
   go_wp2_with (go_at_call 55;refine (hsuf _ (by omega)).mono ?_;rw [hsl,q3];rintro e w' ⟨rfl,hww⟩;obtain rfl:=hww.symm)
   go_meet
   exact ⟨rfl,rfl⟩
 case rest =>
  obtain ⟨rfl,hwc⟩:=hcut
  obtain rfl:=hwc.symm
  go_upto_region 5 with fail
  go_cut [26] from 26 to 31 (fun s26 wx=>s26=.bool (decide (200 < cnt)) ∧ Below W0.heap.size W0 wx)
  case first =>
   have g5:=below_drew (Below.refl W0.heap.size W0)
   go_region_held3 (fun w2=>w2.cell? ⟨w.heap.size,4,none⟩=some (.int .i64 200) ∧ Below W0.heap.size W0 w2)
    (first
     | exact ⟨p4,g5⟩
     | (go_split_ands;exact ⟨by assumption,by assumption⟩))
    (first | (go_at_call 56;refine (hcount _).mono ?_;rintro e w' ⟨rfl,rfl⟩))
   go_split_ands
   all_goals (go_wp2_with fail;go_meet;exact ⟨by first | rfl | (simp;omega),by with_reducible assumption⟩)
  case rest =>
   obtain ⟨rfl,hb1⟩:=hcut
   obtain ⟨W1,hW1⟩:∃ W1,wc=W1:=⟨_,rfl⟩
   subst hW1
   have h1':=(hb1.block (w.heap.size + 1) (by omega)).trans h1
   have h2':=(hb1.block (w.heap.size + 2) (by omega)).trans h2
   have h3':=(hb1.block (w.heap.size + 3) (by omega)).trans h3
   have hP1:=(hb1.block w.heap.size (by omega)).trans hP0
   have hbw1:Below w.heap.size w wc:=hb0.trans (hb1.mono (by omega))
   have hw1:Base wc:=hw0.step hb1
   have hszc:w.heap.size + 4 ≤ wc.heap.size:=by have:=hb1.size;omega
   clear c1 c2 c3 f1 f2 f3 p4 h1 h2 h3
   have c1:wc.cell? ⟨w.heap.size + 1,0,none⟩=some (.slice none 0 0):=by rw [Lib.cell_of_heap h1'];rfl
   have c2:wc.cell? ⟨w.heap.size + 2,0,none⟩=some (.int .i64 0):=by rw [Lib.cell_of_heap h2'];rfl
   have c3:wc.cell? ⟨w.heap.size + 3,0,none⟩=some (.int .i64 0):=by rw [Lib.cell_of_heap h3'];rfl
   have f1:wc.frozen? ⟨w.heap.size + 1,0,none⟩=false:=Lib.frozen_of_heap h1' 0
   have f2:wc.frozen? ⟨w.heap.size + 2,0,none⟩=false:=Lib.frozen_of_heap h2' 0
   have f3:wc.frozen? ⟨w.heap.size + 3,0,none⟩=false:=Lib.frozen_of_heap h3' 0
   by_cases g3:200 < cnt
   ·have z3:decide (200 < cnt)=true:=decide_eq_true g3
    have hT:thingsG s=([],0,5):=by unfold thingsG;rw [if_neg g1,if_neg g2,hcntS.out,if_pos g3]
    go_wp2
    have hF:=H3G.sets ⟨h1',h2',h3'⟩ (.slice none 0 0) (.int .i64 0) (.int .i64 5)
    refine ⟨_,results_three rfl _ _ (w.heap.size + 1) (w.heap.size + 2) (w.heap.size + 3) _ _ _ rfl rfl rfl (load35 hF.1) (load3 hF.2.1) (load28 hF.2.2),?_⟩
    try rw [hT]
    exact ⟨_,rfl,Kd.S_nil _ _ _ _ _,below_three (Nat.le_refl _) hbw1 _ _ _⟩
   have z3:decide (200 < cnt)=false:=decide_eq_false g3
   have hT:thingsG s=goG [] (linesOf s):=by unfold thingsG;rw [if_neg g1,if_neg g2,hcntS.out,if_neg g3]
   have hTS:=Aside0.mk hT
   clear hT
   go_wp2_with (go_at_call 57;refine (linesMk s _).mono ?_;rintro e w' ⟨rfl,rfl⟩)
   obtain ⟨hszX,hbX,h7X,hzX⟩:=two_boxes wc #[.int .i64 0] #[.string s] 3 9
   obtain ⟨W3,hW3⟩:∃ W3,(wc.alloc (.cells #[.int .i64 0] 3)).alloc (.cells #[.string s] 9)=W3:=⟨_,rfl⟩
   rw [hW3] at hszX hbX h7X hzX ⊢
   clear hW3
   have hz1:W3.cell? ⟨wc.heap.size + 1,0,none⟩=some (.string s):=by rw [Lib.cell_of_heap hzX];rfl
   have hz2:W3.frozen? ⟨wc.heap.size + 1,0,none⟩=false:=Lib.frozen_of_heap hzX 0
   have hbw3:Below w.heap.size w W3:=hbw1.trans (hbX.mono (by omega))
   have hH3:H3G w.heap.size W3 (.slice none 0 0) (.int .i64 0) (.int .i64 0):=⟨(hbX.block _ (by omega)).trans h1',(hbX.block _ (by omega)).trans h2',(hbX.block _ (by omega)).trans h3'⟩
   have hP3:=(hbX.block w.heap.size (by omega)).trans hP1
   clear c1 c2 c3 f1 f2 f3 h1' h2' h3' z1 z2 z3
   refine (wpIn_wide (n:=9)).1 ?_
   refine range_z rfl (by omega) (gf:=93) rfl trivial (enters_of Tryz.func93 (by kernel_rfl) rfl) (Z:=fun k=>k=wc.heap.size + 1) (fun k hk=>by omega)
    (lines_seq 8 (by omega) (wc.heap.size + 1) s hs W3 hz1 hz2) rfl
    (fun pre W=>∃ (acc:List S37) (v:Value),(∀ rest,linesOf s=pre ++ rest → goG [] (linesOf s)=goG acc rest) ∧ acc.length=pre.length ∧
     W.heap[w.heap.size]?=some (.cells #[.func (.func 63) #[] #[],.func (.func 64) #[] #[],.func (.func 65) #[] #[],.func (.func 66) #[] #[],.int .i64 200] 81 (0,0)) ∧ H3G w.heap.size W v (.int .i64 0) (.int .i64 0) ∧
     W.heap[wc.heap.size]?=some (.cells #[.int .i64 (acc.length:Int)] 3 (0,0)) ∧ Kd.S k37 37 W w.heap.size (fun k=>wc.heap.size + 2 ≤ k) v acc ∧ Below w.heap.size w W ∧ wc.heap.size + 2 ≤ W.heap.size)
    (fun pre W=>∃ (n e:Int),goG [] (linesOf s)=([],n,e) ∧ H3G w.heap.size W (.slice none 0 0) (.int .i64 n) (.int .i64 e) ∧ Below w.heap.size w W) ?kI ?kX ?h0
    ?a1 ?assign ?body ?done ?stop
   case assign =>
    intro l x W K hK
    gi_wp2
    exact hK
   case h0=>exact ⟨[],_,fun rest h=>by rw [h,List.nil_append],rfl,hP3,hH3,h7X,Kd.S_nil _ _ _ _ _,hbw3,by omega⟩
   case kI =>
    intro pre A B row ⟨acc,v,ha,hl,hP,hH,h7,hS,hB,hs'⟩ hg hr
    have hge:∀ r,row=some r → r=wc.heap.size + 1 ∨ wc.heap.size + 2 ≤ r:=fun r e=>by
     rcases hr r e with h | h
     ·exact .inl h
     ·exact .inr (by omega)
    have keep:∀ (k:Nat) (o:Obj),A.heap[k]?=some o → k ≤ wc.heap.size → B.heap[k]?=some o:=fun k o ho hk=>(hg.block k (Array.getElem?_eq_some_iff.1 ho).1 (fun e=>by have:=hge _ e.symm;omega)).trans ho
    refine ⟨acc,v,ha,hl,keep _ _ hP (by omega),⟨keep _ _ hH.1 (by omega),keep _ _ hH.2.1 (by omega),keep _ _ hH.2.2 (by omega)⟩,keep _ _ h7 (Nat.le_refl _),Kd.S_mono (Kd.S_grown (Kd.S_bound hS) hg (fun k hk e=>?_)) (fun _ h=>h.1),hB.trans ⟨hg.os,hg.tape,hg.output,hg.size,fun k hk=>hg.block k (by omega) (fun e=>by have:=hge _ e.symm;omega)⟩,Nat.le_trans hs' hg.size⟩
    obtain ⟨hk1,_,_,q,_,cells,hc⟩:=hk
    rcases hr k e.symm with h | ⟨_,o,ho,hn⟩
    ·have:wc.heap.size + 2 ≤ k:=hk1
     omega
    ·rw [hc] at ho
     cases ho
     cases hn
   case kX =>
    intro pre A B row ⟨n,e,ha,hH,hB⟩ hg hr
    have hge:∀ r,row=some r → r=wc.heap.size + 1 ∨ wc.heap.size + 2 ≤ r:=fun r e=>by
     rcases hr r e with h | h
     ·exact .inl h
     ·exact .inr (by omega)
    have keep:∀ (k:Nat) (o:Obj),A.heap[k]?=some o → k ≤ wc.heap.size → B.heap[k]?=some o:=fun k o ho hk=>(hg.block k (Array.getElem?_eq_some_iff.1 ho).1 (fun e=>by have:=hge _ e.symm;omega)).trans ho
    exact ⟨n,e,ha,⟨keep _ _ hH.1 (by omega),keep _ _ hH.2.1 (by omega),keep _ _ hH.2.2 (by omega)⟩,hB.trans ⟨hg.os,hg.tape,hg.output,hg.size,fun k hk=>hg.block k (by have:=hB.size;omega) (fun e=>by have:=hge _ e.symm;omega)⟩⟩
   case stop =>
    rintro D pre W hD _ ⟨n,e,ha,hH,hB⟩ hK
    gi_wp2
    refine ⟨by simp,.inl ⟨_,_,rfl,run_takeDeferred hK,?_⟩⟩
    have hF:=hH.put (D:=D) (by omega) (.deferred none)
    refine ⟨_,results_three rfl _ _ (w.heap.size + 1) (w.heap.size + 2) (w.heap.size + 3) _ _ _ rfl rfl rfl (load35 hF.1) (load3 hF.2.1) (load28 hF.2.2),?_⟩
    rw [hTS.out,ha]
    exact ⟨_,rfl,Kd.S_nil _ _ _ _ _,below_put (by omega) hB _⟩
   case done =>
    rintro D W hD ⟨acc,v,ha,hl,hP,hH,h7,hS,hB,hs'⟩ hK
    have hgo:=ha [] (by rw [List.append_nil])
    have hgo':goG [] (linesOf s)=(acc,0,0):=hgo
    obtain ⟨h1,h2,h3⟩:=hH
    obtain ⟨A,nq,cq,rfl⟩:∃ A n c,v=.slice A n c:=by obtain ⟨A,c,h⟩:=Kd.S_slice hS;exact ⟨A,_,c,h⟩
    have c1:W.cell? ⟨w.heap.size + 1,0,none⟩=some (.slice A nq cq):=by rw [Lib.cell_of_heap h1];rfl
    have c2:W.cell? ⟨w.heap.size + 2,0,none⟩=some (.int .i64 0):=by rw [Lib.cell_of_heap h2];rfl
    have c3:W.cell? ⟨w.heap.size + 3,0,none⟩=some (.int .i64 0):=by rw [Lib.cell_of_heap h3];rfl
    have f1:W.frozen? ⟨w.heap.size + 1,0,none⟩=false:=Lib.frozen_of_heap h1 0
    have f2:W.frozen? ⟨w.heap.size + 2,0,none⟩=false:=Lib.frozen_of_heap h2 0
    have f3:W.frozen? ⟨w.heap.size + 3,0,none⟩=false:=Lib.frozen_of_heap h3 0
    go_wp2
    have hK2:=(KeepsOthers.setCell _ ⟨w.heap.size + 3,0,none⟩ (.int .i64 0)).same D _ ((KeepsOthers.setCell _ ⟨w.heap.size + 2,0,none⟩ (.int .i64 0)).same D _ ((KeepsOthers.setCell W ⟨w.heap.size + 1,0,none⟩ (.slice A nq cq)).same D _ hK rfl) rfl) rfl
    refine ⟨by simp,.inl ⟨_,_,rfl,run_takeDeferred hK2,?_⟩⟩
    have hF:=(H3G.sets ⟨h1,h2,h3⟩ (.slice A nq cq) (.int .i64 0) (.int .i64 0)).put (D:=D) (by omega) (.deferred none)
    refine ⟨_,results_three rfl _ _ (w.heap.size + 1) (w.heap.size + 2) (w.heap.size + 3) _ _ _ rfl rfl rfl (load35 hF.1) (load3 hF.2.1) (load28 hF.2.2),?_⟩
    rw [hTS.out,hgo']
    refine ⟨_,rfl,?_,below_put (by omega) (below_three (Nat.le_refl _) hB _ _ _) _⟩
    have hS2:=Kd.S_far (Kd.S_far (Kd.S_far hS (p:=⟨w.heap.size + 1,0,none⟩) (fun k hk=>by show k ≠ w.heap.size + 1;omega) (.slice A nq cq)) (p:=⟨w.heap.size + 2,0,none⟩) (fun k hk=>by show k ≠ w.heap.size + 2;omega) (.int .i64 0)) (p:=⟨w.heap.size + 3,0,none⟩) (fun k hk=>by show k ≠ w.heap.size + 3;omega) (.int .i64 0)
    refine Kd.S_mono (Kd.S_grown (Kd.S_bound hS2) (grownBy_putObj' _ D (.deferred none)) (fun k hk e=>?_)) (fun _ _=>trivial)
    obtain ⟨_,_,_,q,_,cells,hc⟩:=hk
    cases e
    rw [hK2] at hc
    cases hc
   case body =>
    rintro l pre x W ⟨acc,v,ha,hl,hP,hH,h7,hS,hB,hs'⟩ hpre
    have hxs:x.size ≤ 1000000:=linesOf_mem hpre hs
    obtain ⟨rest,hrest⟩:=hpre
    have hgo:=ha (x :: rest) (by rw [← hrest];simp)
    have ha':∀ r,linesOf s=(pre ++ [x]) ++ r → goG [] (linesOf s)=goG acc (x :: r):=fun r h=>ha (x :: r) (by rw [h];simp)
    have hlS:=Aside0.mk hl
    have haL:acc.length ≤ 1000001:=by rw [hl];have h1:=linesF_len (s.size + 1) s;have h2:(linesOf s).length=(pre ++ [x]).length + rest.length:=by { rw [← hrest];simp;omega };rw [List.length_append] at h2;have h3:(linesOf s).length ≤ s.size + 1:=h1;omega
    clear hrest ha hl
    obtain ⟨T,hT⟩:∃ T,Aside0 (trimN x=T):=⟨_,⟨rfl⟩⟩
    have hTs:T.size ≤ 1000000:=by rw [← hT.out];exact Nat.le_trans (trimN_size x) hxs
    have htrim:∀ W2:World,Calls Tryz.prog 59 #[.string x,.string ⟨#[10]⟩] W2 fun e w'=>e=.returned (.string T) ∧ w'=W2:=fun W2=>by rw [← hT.out];exact Tryz.strings_TrimSuffix x ⟨#[10]⟩ W2 (by omega)
    have hline:=fun (W2:World) (hb:Below w.heap.size w W2)=>lineCG T hTs W2 (hw.step hb)
    unfold paperG at hline
    obtain ⟨ec,hec⟩:∃ ec,Aside0 ((lineG T).2=ec):=⟨_,⟨rfl⟩⟩
    rw [hec.out] at hline
    have hS0:∀ w2:World,Below (w.heap.size + 1) W w2 → w2.cell? ⟨w.heap.size,0,none⟩=some (.func (.func 63) #[] #[]) ∧ w2.cell? ⟨w.heap.size,1,none⟩=some (.func (.func 64) #[] #[]) ∧ w2.cell? ⟨w.heap.size,2,none⟩=some (.func (.func 65) #[] #[]) ∧ w2.cell? ⟨w.heap.size,3,none⟩=some (.func (.func 66) #[] #[]) ∧ w2.cell? ⟨w.heap.size,4,none⟩=some (.int .i64 200):=by
     intro w2 h2
     have hP2:=(h2.block w.heap.size (by omega)).trans hP
     refine ⟨?_,?_,?_,?_,?_⟩ <;> (rw [Lib.cell_of_heap hP2];rfl)
    have hsW:w.heap.size + 6 ≤ W.heap.size:=by omega
    have hZ:wc.heap.size + 2 ≤ W.heap.size:=hs'
    clear hs'
    gi_wp2
    refine region_inRound (S:=fun w2=>w2.cell? ⟨w.heap.size,0,none⟩=some (.func (.func 63) #[] #[]) ∧ w2.cell? ⟨w.heap.size,1,none⟩=some (.func (.func 64) #[] #[]) ∧ w2.cell? ⟨w.heap.size,2,none⟩=some (.func (.func 65) #[] #[]) ∧ w2.cell? ⟨w.heap.size,3,none⟩=some (.func (.func 66) #[] #[]) ∧ w2.cell? ⟨w.heap.size,4,none⟩=some (.int .i64 200)) (by kernel_rfl) (by kernel_rfl) (by rintro ⟨_,_,h⟩;exact h) (hS0 _ (below_drew (Below.refl _ _))) (fun hHeld=>?_)
    refine wpAnyH_take (i:=0) (oi:=?o1) (v:=?v1) ?h1 (by kernel_rfl) (by kernel_rfl) (by kernel_rfl) (fun _ _ _ h=>h) ?y1 hHeld ?_
    case h1=>simp only [xgA,xgS,xgZ];rfl
    case y1=>(refine Or.inl ⟨rfl,?_⟩;intro w hSw;(try dsimp only at hSw);(try go_split_ands);first | (go_simp;done) | (go_simp;with_reducible rfl))
    simp only [Act.put,xsA,xsZ,xsS]
    refine wpAnyH_take (i:=1) (oi:=?o2) (v:=?v2) ?h2 (by kernel_rfl) (by kernel_rfl) (by kernel_rfl) (fun _ _ _ h=>h) ?y2 hHeld ?_
    case h2=>simp only [xgA,xgS,xgZ];rfl
    case y2=>(refine Or.inl ⟨rfl,?_⟩;intro w hSw;(try dsimp only at hSw);(try go_split_ands);first | (go_simp;done) | (go_simp;with_reducible rfl))
    simp only [Act.put,xsA,xsZ,xsS]
    refine wpAnyH_ready (rs:=[2,7]) (by kernel_rfl) (by simp) ?_
    refine AllReadyH.cons (o:=?oi111) ?ho111 (fun K hK=>?st111) ?mo111
    case ho111=>(simp only [xgA,xgS,xgZ];rfl)
    case st111 =>
     go_simp
     go_at_call 59
     refine (htrim _).mono ?_
     rintro e w0 ⟨rfl,rfl⟩
     simp only []
     refine hK.out _ _ (hS0 _ (below_drew (Below.refl _ _))) (fun hHeld=>?_)
     clear hK K
     try simp only [Act.put,xsA,xsZ,xsS]
     refine wpAnyH_ready (rs:=[3,7]) (by kernel_rfl) (by simp) ?_
     refine AllReadyH.cons (o:=?oi56) ?ho56 (fun K hK=>?st56) ?mo56
     case ho56=>(simp only [xgA,xgS,xgZ];rfl)
     case st56 =>
      go_simp
      go_at_call 68
      have hba:Below W.heap.size W W.drew:=below_drew (Below.refl _ _)
      refine (hline _ (hB.trans (hba.mono (by omega)))).mono ?_
      rintro e w' ⟨y,v',rfl,hR,hy,hb⟩
      obtain ⟨A,nq,cq,rfl⟩:∃ A n c,v'=.slice A n c:=by obtain ⟨A,c,h⟩:=Kd.R_slice hR;exact ⟨A,_,c,h⟩
      simp only []
      have hbq:Below W.heap.size W w':=below_step hba hb
      have hbl:Below (w.heap.size + 1) W w':=hbq.mono (by omega)
      refine hK.out _ _ (hS0 _ hbl) (fun hHeld=>?_)
      clear hK K
      try simp only [Act.put,xsA,xsZ,xsS]
      refine wpAnyH_take (i:=4) (oi:=?o3) (v:=?v3) ?h3 (by kernel_rfl) (by kernel_rfl) (by kernel_rfl) (fun _ _ _ h=>h) ?y3 hHeld ?_
      case h3=>simp only [xgA,xgS,xgZ];rfl
      case y3=>(refine Or.inl ⟨rfl,?_⟩;intro w hSw;(try dsimp only at hSw);(try go_split_ands);first | (go_simp;done) | (go_simp;with_reducible rfl))
      simp only [Act.put,xsA,xsZ,xsS]
      refine wpAnyH_take (i:=5) (oi:=?o4) (v:=?v4) ?h4 (by kernel_rfl) (by kernel_rfl) (by kernel_rfl) (fun _ _ _ h=>h) ?y4 hHeld ?_
      case h4=>simp only [xgA,xgS,xgZ];rfl
      case y4=>(refine Or.inl ⟨rfl,?_⟩;intro w hSw;(try dsimp only at hSw);(try go_split_ands);first | (go_simp;done) | (go_simp;with_reducible rfl))
      simp only [Act.put,xsA,xsZ,xsS]
      refine wpAnyH_take (i:=6) (oi:=?o5) (v:=?v5) ?h5 (by kernel_rfl) (by kernel_rfl) (by kernel_rfl) (fun _ _ _ h=>h) ?y5 hHeld ?_
      case h5=>simp only [xgA,xgS,xgZ];rfl
      case y5=>(refine Or.inl ⟨rfl,?_⟩;intro w hSw;(try dsimp only at hSw);(try go_split_ands);first | (go_simp;done) | (go_simp;with_reducible rfl))
      simp only [Act.put,xsA,xsZ,xsS]
      refine wpAnyH_ready (rs:=[7]) (by kernel_rfl) (by simp) ?_
      refine AllReadyH.cons (o:=?oi55) ?ho55 (fun K hK=>?st55) ?mo55
      case ho55=>(simp only [xgA,xgS,xgZ];rfl)
      case st55 =>
       go_simp
       refine hK.out _ _ (hS0 _ (hbl.trans ((below_alloc (Below.refl _ _) _).mono (by have:=hbl.size;omega)))) (fun hHeld=>?_)
       clear hK K
       try simp only [Act.put,xsA,xsZ,xsS]
       have hgA:=heap_alloc_new w' (.cells #[.int .i64 0,.int .i64 0,.slice none 0 0] 37)
       have hbg:Below W.heap.size W (w'.alloc (.cells #[.int .i64 0,.int .i64 0,.slice none 0 0] 37)):=hbq.trans ((below_alloc (Below.refl _ _) _).mono hbq.size)
       have hRg:=Kd.R_below hR (below_alloc (Below.refl w'.heap.size w') (.cells #[.int .i64 0,.int .i64 0,.slice none 0 0] 37))
       obtain ⟨g,hg⟩:∃ g,w'.heap.size=g:=⟨_,rfl⟩
       have hgW:W.heap.size ≤ g:=by rw [← hg];exact hbq.size
       rw [hg] at hgA ⊢
       have hgo':∀ k,(W.heap.size ≤ k ∧ k ≠ g) → k ≠ g:=fun k h=>h.2
       have hRg':Kd.R (Kd.int .i64) 3 (w'.alloc (.cells #[.int .i64 0,.int .i64 0,.slice none 0 0] 37)) W.heap.size (fun k=>W.heap.size ≤ k ∧ k ≠ g) (.slice A nq cq) y.f2:=Kd.R_mono (Kd.R_below (Kd.R_bound hR) (below_alloc (Below.refl w'.heap.size w') (.cells #[.int .i64 0,.int .i64 0,.slice none 0 0] 37))) (fun k hk=>⟨hk.2.1,by have:=hk.2.2.1;omega⟩)
       generalize hWl:w'.alloc (.cells #[.int .i64 0,.int .i64 0,.slice none 0 0] 37)=Wl at hgA hbg hRg' ⊢
       clear hRg hWl
       clear hg hR hb hbl
       obtain ⟨b0,b1,b2,f0,f1,f2⟩:=row3 hgA
       have hblg:Below (w.heap.size + 1) W Wl:=hbg.mono (by omega)
       refine wpAnyH_ready (rs:=[8]) (by kernel_rfl) (by simp) ?_
       refine AllReadyH.cons (o:=?oi54) ?ho54 (fun K hK=>?st54) ?mo54
       case ho54=>(simp only [xgA,xgS,xgZ];rfl)
       case st54 =>
        go_simp
        refine hK.out _ _ (hS0 _ (below_sets3 (by omega) hblg)) (fun hHeld=>?_)
        clear hK K
        try simp only [Act.put,xsA,xsZ,xsS]
        refine wpAnyH_take (i:=9) (oi:=?o6) (v:=?v6) ?h6 (by kernel_rfl) (by kernel_rfl) (by kernel_rfl) (fun _ _ _ h=>h) ?y6 hHeld ?_
        case h6=>simp only [xgA,xgS,xgZ];rfl
        case y6=>(refine Or.inl ⟨rfl,?_⟩;intro w hSw;(try dsimp only at hSw);(try go_split_ands);first | (go_simp;done) | (go_simp;with_reducible rfl))
        simp only [Act.put,xsA,xsZ,xsS]
        refine wpAnyH_done (by kernel_rfl) ?_ _
        refine then_world (fun W4=>W4.heap[g]?=some (.cells #[.int .i64 y.f0,.int .i64 y.f1,.slice A nq cq] 37 (0,0)) ∧ Below W.heap.size W W4 ∧ Kd.R (Kd.int .i64) 3 W4 W.heap.size (fun k=>W.heap.size ≤ k ∧ k ≠ g) (.slice A nq cq) y.f2) ⟨row_sets3 ⟨_,hgA,rfl⟩ _ _ _,below_sets3 hgW hbg,far_sets3' (fun k hk=>hk.2) hRg'⟩ ?_
        rintro W4 ⟨hg4,hb4,hR4⟩
        clear b0 b1 b2 f0 f1 f2 hgA hbg hRg' hblg hHeld hbq
        have hP4:=(hb4.block w.heap.size (by omega)).trans hP
        have hH4:H3G w.heap.size W4 v (.int .i64 0) (.int .i64 0):=⟨(hb4.block _ (by omega)).trans hH.1,(hb4.block _ (by omega)).trans hH.2.1,(hb4.block _ (by omega)).trans hH.2.2⟩
        have h74:=(hb4.block wc.heap.size (by omega)).trans h7
        have hS4:=Kd.S_below hS hb4
        have hB4:Below w.heap.size w W4:=hB.trans (hb4.mono (by omega))
        obtain ⟨vA,vn,vc,rfl⟩:∃ A n c,v=.slice A n c:=by obtain ⟨A,c,h⟩:=Kd.S_slice hS;exact ⟨A,_,c,h⟩
        have c1:W4.cell? ⟨w.heap.size + 1,0,none⟩=some (.slice vA vn vc):=by rw [Lib.cell_of_heap hH4.1];rfl
        have c2:W4.cell? ⟨w.heap.size + 2,0,none⟩=some (.int .i64 0):=by rw [Lib.cell_of_heap hH4.2.1];rfl
        have c3:W4.cell? ⟨w.heap.size + 3,0,none⟩=some (.int .i64 0):=by rw [Lib.cell_of_heap hH4.2.2];rfl
        have c7:W4.cell? ⟨wc.heap.size,0,none⟩=some (.int .i64 (acc.length:Int)):=by rw [Lib.cell_of_heap h74];rfl
        have d1:W4.frozen? ⟨w.heap.size + 1,0,none⟩=false:=Lib.frozen_of_heap hH4.1 0
        have d2:W4.frozen? ⟨w.heap.size + 2,0,none⟩=false:=Lib.frozen_of_heap hH4.2.1 0
        have d3:W4.frozen? ⟨w.heap.size + 3,0,none⟩=false:=Lib.frozen_of_heap hH4.2.2 0
        have d7:W4.frozen? ⟨wc.heap.size,0,none⟩=false:=Lib.frozen_of_heap h74 0
        have hmx:Tryz.prog.follows .mixedOrders=true:=by kernel_rfl
        by_cases hez:ec=0
        ·have y1:(ec != 0)=false:=bne_eq_false_iff_eq.2 hez
         have hyS:=Aside0.mk (hy hez)
         have hezS:=Aside0.mk hez
         clear hy hez
         obtain ⟨b0,b1,b2,f0,f1,f2⟩:=row3 hg4
         have pa:W4.cell? ⟨w.heap.size,1,none⟩=some (.func (.func 64) #[] #[]):=by rw [Lib.cell_of_heap hP4];rfl
         have hgoS:=Aside0.mk hgo
         have haS:=Aside0.mk ha'
         clear hgo ha' hline htrim hS0
         gi_wp2
         by_cases hemp:acc.length=0
         ·have u1:decide ((0:Int) < (acc.length:Int))=false:=decide_eq_false (by omega)
          have u2:decide (0 < acc.length)=false:=decide_eq_false (by omega)
          have hempS:=Aside0.mk hemp
          clear hemp
          refine region_inRound (S:=fun w2=>w2.cell? ⟨wc.heap.size,0,none⟩=some (.int .i64 (acc.length:Int))) (by kernel_rfl) (by kernel_rfl) (by rintro ⟨_,_,h⟩;exact h) c7 (fun hHeld=>?_)
          refine wpAnyH_take (i:=0) (oi:=?o7) (v:=?v7) ?h7 (by kernel_rfl) (by kernel_rfl) (by kernel_rfl) (fun _ _ _ h=>h) ?y7 hHeld ?_
          case h7=>simp only [xgA,xgS,xgZ];rfl
          case y7=>(refine Or.inl ⟨rfl,?_⟩;intro w hSw;(try dsimp only at hSw);(try go_split_ands);first | (go_simp;done) | (go_simp;with_reducible rfl))
          simp only [Act.put,xsA,xsZ,xsS]
          refine wpAnyH_take (i:=1) (oi:=?o8) (v:=?v8) ?h8 (by kernel_rfl) (by kernel_rfl) (by kernel_rfl) (fun _ _ _ h=>h) ?y8 hHeld ?_
          case h8=>simp only [xgA,xgS,xgZ];rfl
          case y8=>(refine Or.inl ⟨rfl,?_⟩;intro w hSw;(try dsimp only at hSw);(try go_split_ands);first | (go_simp;done) | (go_simp;with_reducible rfl))
          simp only [Act.put,xsA,xsZ,xsS]
          refine wpAnyH_take (i:=2) (oi:=?o9) (v:=?v9) ?h9 (by kernel_rfl) (by kernel_rfl) (by kernel_rfl) (fun _ _ _ h=>h) ?y9 hHeld ?_
          case h9=>simp only [xgA,xgS,xgZ];rfl
          case y9=>(refine Or.inl ⟨rfl,?_⟩;intro w hSw;(try dsimp only at hSw);(try go_split_ands);first | (go_simp;done) | (go_simp;with_reducible rfl))
          simp only [Act.put,xsA,xsZ,xsS]
          refine wpAnyH_take (i:=3) (oi:=?o10) (v:=undef) ?h10 (by kernel_rfl) (by kernel_rfl) (by kernel_rfl) (fun _ _ _ h=>h) ?y10 hHeld ?_
          case h10=>simp only [xgA,xgS,xgZ];rfl
          case y10=>exact Or.inr ⟨rfl,rfl⟩
          simp only [Act.put,xsA,xsZ,xsS]
          refine wpAnyH_take (i:=4) (oi:=?o11) (v:=undef) ?h11 (by kernel_rfl) (by kernel_rfl) (by kernel_rfl) (fun _ _ _ h=>h) ?y11 hHeld ?_
          case h11=>simp only [xgA,xgS,xgZ];rfl
          case y11=>exact Or.inr ⟨rfl,rfl⟩
          simp only [Act.put,xsA,xsZ,xsS]
          refine wpAnyH_take (i:=5) (oi:=?o12) (v:=undef) ?h12 (by kernel_rfl) (by kernel_rfl) (by kernel_rfl) (fun _ _ _ h=>h) ?y12 hHeld ?_
          case h12=>simp only [xgA,xgS,xgZ];rfl
          case y12=>exact Or.inr ⟨rfl,rfl⟩
          simp only [Act.put,xsA,xsZ,xsS]
          refine wpAnyH_take (i:=6) (oi:=?o13) (v:=undef) ?h13 (by kernel_rfl) (by kernel_rfl) (by kernel_rfl) (fun _ _ _ h=>h) ?y13 hHeld ?_
          case h13=>simp only [xgA,xgS,xgZ];rfl
          case y13=>exact Or.inr ⟨rfl,rfl⟩
          simp only [Act.put,xsA,xsZ,xsS]
          refine wpAnyH_take (i:=7) (oi:=?o14) (v:=undef) ?h14 (by kernel_rfl) (by kernel_rfl) (by kernel_rfl) (fun _ _ _ h=>h) ?y14 hHeld ?_
          case h14=>simp only [xgA,xgS,xgZ];rfl
          case y14=>exact Or.inr ⟨rfl,rfl⟩
          simp only [Act.put,xsA,xsZ,xsS]
          refine wpAnyH_take (i:=8) (oi:=?o15) (v:=undef) ?h15 (by kernel_rfl) (by kernel_rfl) (by kernel_rfl) (fun _ _ _ h=>h) ?y15 hHeld ?_
          case h15=>simp only [xgA,xgS,xgZ];rfl
          case y15=>exact Or.inr ⟨rfl,rfl⟩
          simp only [Act.put,xsA,xsZ,xsS]
          refine wpAnyH_take (i:=9) (oi:=?o16) (v:=undef) ?h16 (by kernel_rfl) (by kernel_rfl) (by kernel_rfl) (fun _ _ _ h=>h) ?y16 hHeld ?_
          case h16=>simp only [xgA,xgS,xgZ];rfl
          case y16=>exact Or.inr ⟨rfl,rfl⟩
          simp only [Act.put,xsA,xsZ,xsS]
          refine wpAnyH_take (i:=10) (oi:=?o17) (v:=undef) ?h17 (by kernel_rfl) (by kernel_rfl) (by kernel_rfl) (fun _ _ _ h=>h) ?y17 hHeld ?_
          case h17=>simp only [xgA,xgS,xgZ];rfl
          case y17=>exact Or.inr ⟨rfl,rfl⟩
          simp only [Act.put,xsA,xsZ,xsS]
          refine wpAnyH_take (i:=11) (oi:=?o18) (v:=undef) ?h18 (by kernel_rfl) (by kernel_rfl) (by kernel_rfl) (fun _ _ _ h=>h) ?y18 hHeld ?_
          case h18=>simp only [xgA,xgS,xgZ];rfl
          case y18=>exact Or.inr ⟨rfl,rfl⟩
          simp only [Act.put,xsA,xsZ,xsS]
          refine wpAnyH_take (i:=12) (oi:=?o19) (v:=undef) ?h19 (by kernel_rfl) (by kernel_rfl) (by kernel_rfl) (fun _ _ _ h=>h) ?y19 hHeld ?_
          case h19=>simp only [xgA,xgS,xgZ];rfl
          case y19=>exact Or.inr ⟨rfl,rfl⟩
          simp only [Act.put,xsA,xsZ,xsS]
          refine wpAnyH_take (i:=13) (oi:=?o20) (v:=?v20) ?h20 (by kernel_rfl) (by kernel_rfl) (by kernel_rfl) (fun _ _ _ h=>h) ?y20 hHeld ?_
          case h20=>simp only [xgA,xgS,xgZ];rfl
          case y20=>(refine Or.inl ⟨rfl,?_⟩;intro w hSw;(try dsimp only at hSw);(try go_split_ands);first | (go_simp;done) | (go_simp;with_reducible rfl))
          simp only [Act.put,xsA,xsZ,xsS]
          refine wpAnyH_take (i:=14) (oi:=?o21) (v:=?v21) ?h21 (by kernel_rfl) (by kernel_rfl) (by kernel_rfl) (fun _ _ _ h=>h) ?y21 hHeld ?_
          case h21=>simp only [xgA,xgS,xgZ];rfl
          case y21=>(refine Or.inl ⟨rfl,?_⟩;intro w hSw;(try dsimp only at hSw);(try go_split_ands);first | (go_simp;done) | (go_simp;with_reducible rfl))
          simp only [Act.put,xsA,xsZ,xsS]
          refine wpAnyH_done (by kernel_rfl) ?_ _
          refine then_world (fun W5=>Below W4.heap.size W4 W5) (below_drew (Below.refl _ _)) ?_
          rintro W5 hb5
          have hgl:g < W4.heap.size:=(Array.getElem?_eq_some_iff.1 hg4).1
          have h4s:=hb4.size
          have h5s:=hb5.size
          have hW5:Below W.heap.size W W5:=hb4.trans (hb5.mono hb4.size)
          have hg5:=(hb5.block g hgl).trans hg4
          have hR5:=Kd.R_below hR4 hb5
          have hH5:H3G w.heap.size W5 (.slice vA vn vc) (.int .i64 0) (.int .i64 0):=⟨(hb5.block _ (by omega)).trans hH4.1,(hb5.block _ (by omega)).trans hH4.2.1,(hb5.block _ (by omega)).trans hH4.2.2⟩
          have h75:=(hb5.block wc.heap.size (by omega)).trans h74
          have hS5:Kd.S k37 37 W5 w.heap.size (fun k=>wc.heap.size + 2 ≤ k ∧ k < W.heap.size) (.slice vA vn vc) acc:=Kd.S_below (Kd.S_below (Kd.S_mono (Kd.S_bound hS) (fun k hk=>⟨hk.1,hk.2.2.1⟩)) hb4) hb5
          have hvl:=Kd.S_lt hS
          have hvb:∀ k,(Value.slice vA vn vc).ownBlock=some k → wc.heap.size + 2 ≤ k:=fun k e=>((Kd.S_R hS).1 k e)
          clear c1 c2 c3 c7 d1 d2 d3 d7 b0 b1 b2 f0 f1 f2 pa
          obtain ⟨b0,b1,b2,f0,f1,f2⟩:=row3 hg5
          have c1:W5.cell? ⟨w.heap.size + 1,0,none⟩=some (.slice vA vn vc):=by rw [Lib.cell_of_heap hH5.1];rfl
          have hwr:IntKind.i64.wrap ((acc.length:Int) + 1)=(acc.length:Int) + 1:=by rw [i64_w];unfold wrap64;omega
          gi_wp2_with (gi_at_builtin;refine listIn_cons (by intro c h;cases h) ?_;refine Kd.S_append_step k37 (w0:=w) w.heap.size rfl (.tmp 63) (.tmp 65) 35 37 (.agg #[(.int .i64 0),(.int .i64 0),(.slice none 0 0)]) 40 rfl Tryz.underlying35 info37 rfl (by decide) (by omega) (.slice vA vn vc) acc y [.int .i64 y.f0,.int .i64 y.f1,.slice A nq cq] (fun k=>wc.heap.size + 2 ≤ k) (fun k=>W.heap.size ≤ k ∧ k ≠ g) rfl rfl ?aP22 ?aK22 ?aF22 ?aO22 ?aB22 ?aS22 ?aL22 ?_;(case aP22=>exact k37_mkM W5 w.heap.size _ y (Kd.R_lower hR5 (by omega)));(case aK22=>exact fun k hk=>⟨by omega,fun e=>by have:=hvl k e.symm;omega⟩);(case aF22=>exact fun k hk=>by omega);(case aO22=>exact Kd.S_mono hS5 (fun k hk=>⟨hk.1,fun h=>by omega⟩));(case aB22=>exact hB.trans (hW5.mono (by omega)));(case aS22=>omega);(case aL22=>omega);intro v1 w1 ho hb1 hg1 hat;obtain ⟨A1,n1,cc1,rfl⟩:∃ A n c,v1=.slice A n c:=(by obtain ⟨A,c,h⟩:=Kd.S_slice ho;exact ⟨A,_,c,h⟩);have hk1:∀ k,k ≤ wc.heap.size → w1.heap[k]?=W5.heap[k]?:=(fun k hk=>hg1.block k (by omega) (fun e=>by have:=hvb k e.symm;omega));have hH6:H3G w.heap.size w1 (.slice vA vn vc) (.int .i64 0) (.int .i64 0):=⟨(hk1 _ (by omega)).trans hH5.1,(hk1 _ (by omega)).trans hH5.2.1,(hk1 _ (by omega)).trans hH5.2.2⟩;have h76:=(hk1 _ (Nat.le_refl _)).trans h75;have e1:w1.cell? ⟨w.heap.size + 1,0,none⟩=some (.slice vA vn vc):=(by rw [Lib.cell_of_heap hH6.1];rfl);have e1f:w1.frozen? ⟨w.heap.size + 1,0,none⟩=false:=Lib.frozen_of_heap hH6.1 0;have e7f:w1.frozen? ⟨wc.heap.size,0,none⟩=false:=Lib.frozen_of_heap h76 0;have h77:(w1.setCell ⟨w.heap.size + 1,0,none⟩ (.slice A1 n1 cc1)).heap[wc.heap.size]?=some (.cells #[.int .i64 (acc.length:Int)] 3 (0,0)):=(Below.heap_setCell w1 ⟨w.heap.size + 1,0,none⟩ _ wc.heap.size (by show wc.heap.size ≠ w.heap.size + 1;omega)).trans h76;have e7:(w1.setCell ⟨w.heap.size + 1,0,none⟩ (.slice A1 n1 cc1)).cell? ⟨wc.heap.size,0,none⟩=some (.int .i64 (acc.length:Int)):=(by rw [Lib.cell_of_heap h77];rfl))
          have hfin:=fin_nextG (m':=(acc.length:Int) + 1) (b:=w.heap.size) (c:=wc.heap.size) (by omega) hZ hP hB hW5 hg1 hH6 h76 ho hvb hvl (Kd.S_typed hS)
          refine ⟨hfin.1,hfin.2.1,acc ++ [y],_,?_,by rw [List.length_append,List.length_append,hlS.out];rfl,hfin.2.2.1,hfin.2.2.2.1,?_,hfin.2.2.2.2.2.1,hfin.2.2.2.2.2.2.1,hfin.2.2.2.2.2.2.2⟩
          ·intro r hr
           rw [haS.out r hr,goG,hT.out,if_pos (hec.out.trans hezS.out),if_pos (by unfold lastFG;rw [List.length_eq_zero_iff.1 hempS.out];rfl),← hyS.out]
          ·have h8:=hfin.2.2.2.2.1
           rw [List.length_append]
           exact h8
         ·have u1:decide ((0:Int) < (acc.length:Int))=true:=decide_eq_true (by omega)
          have u2:decide (0 < acc.length)=true:=decide_eq_true (by omega)
          obtain ⟨k,hk⟩:∃ k,acc.length=k + 1:=⟨acc.length - 1,by omega⟩
          obtain ⟨hvn,hvc,hC⟩:=Kd.R_reads' (Kd.S_R hS4)
          obtain rfl:=hvn
          obtain ⟨ad,A6,c6,hade,v0,v1,v5,hl6,hi6⟩:=at_T37 hC (k:Int) (by omega) (by omega)
          obtain rfl:=hade
          have hsub:IntKind.i64.wrap ((acc.length:Int) - 1)=(k:Int):=by rw [i64_w];unfold wrap64;omega
          have k1:(0 ≤ (k:Int))=True:=eq_true (by omega)
          have k2:((k:Int) < (acc.length:Int))=True:=eq_true (by omega)
          have k3:(k < acc.length)=True:=eq_true (by omega)
          have hlast:Aside0 (lastFG acc=some (rd_T37 acc (k:Int))):=⟨lastFG_at hk⟩
          simp only [Int.toNat_natCast] at v0 v1 v5
          generalize rd_T37 acc (k:Int)=z at v0 v1 v5 hl6 hi6 hlast
          obtain ⟨hnq,hcq,hCy⟩:=Kd.R_reads' hR4
          obtain rfl:=hnq
          have hkS:=Aside0.mk hk
          clear hk hemp
          have hkeep:∀ w2:World,Below W4.heap.size W4 w2 → w2.cell? ⟨wc.heap.size,0,none⟩=some (.int .i64 (acc.length:Int)) ∧ w2.cell? ⟨w.heap.size,1,none⟩=some (.func (.func 64) #[] #[]) ∧ w2.cell? ⟨w.heap.size + 1,0,none⟩=some (.slice (some ad) acc.length vc) ∧ w2.cell? (ad.add (k * 3))=some (.int .i64 z.f0) ∧ w2.cell? ⟨(ad.add (k * 3)).block,(ad.add (k * 3)).off + 1,none⟩=some (.int .i64 z.f1) ∧ w2.cell? ⟨(ad.add (k * 3)).block,(ad.add (k * 3)).off + 2,none⟩=some (.slice A6 z.f2.length c6) ∧ w2.cell? ⟨g,0,none⟩=some (.int .i64 y.f0) ∧ w2.cell? ⟨g,1,none⟩=some (.int .i64 y.f1) ∧ w2.cell? ⟨g,2,none⟩=some (.slice A y.f2.length cq):=fun w2 h6=>⟨keepCell c7 h6,keepCell pa h6,keepCell c1 h6,keepCell v0 h6,keepCell v1 h6,keepCell v5 h6,keepCell b0 h6,keepCell b1 h6,keepCell b2 h6⟩
          have hbd:Below W4.heap.size W4 W4.drew:=below_drew (Below.refl _ _)
          by_cases hzy:afterB z y=true
          ·have haf:afterB z y=true:=hzy
           have hcall:=gaugeAfterC z y true haf A6 c6 A cq W4.drew (Kd.C_below hi6 hbd) hl6 (Kd.C_below hCy hbd) hcq
           have hafS:=Aside0.mk haf
           clear haf hzy
           refine region_inRound (S:=fun w2=>w2.cell? ⟨wc.heap.size,0,none⟩=some (.int .i64 (acc.length:Int)) ∧ w2.cell? ⟨w.heap.size,1,none⟩=some (.func (.func 64) #[] #[]) ∧ w2.cell? ⟨w.heap.size + 1,0,none⟩=some (.slice (some ad) acc.length vc) ∧ w2.cell? (ad.add (k * 3))=some (.int .i64 z.f0) ∧ w2.cell? ⟨(ad.add (k * 3)).block,(ad.add (k * 3)).off + 1,none⟩=some (.int .i64 z.f1) ∧ w2.cell? ⟨(ad.add (k * 3)).block,(ad.add (k * 3)).off + 2,none⟩=some (.slice A6 z.f2.length c6) ∧ w2.cell? ⟨g,0,none⟩=some (.int .i64 y.f0) ∧ w2.cell? ⟨g,1,none⟩=some (.int .i64 y.f1) ∧ w2.cell? ⟨g,2,none⟩=some (.slice A y.f2.length cq)) (by kernel_rfl) (by kernel_rfl) (by rintro ⟨_,_,h⟩;exact h) (hkeep _ hbd) (fun hHeld=>?_)
           refine wpAnyH_take (i:=0) (oi:=?o23) (v:=?v23) ?h23 (by kernel_rfl) (by kernel_rfl) (by kernel_rfl) (fun _ _ _ h=>h) ?y23 hHeld ?_
           case h23=>simp only [xgA,xgS,xgZ];rfl
           case y23=>(refine Or.inl ⟨rfl,?_⟩;intro w hSw;(try dsimp only at hSw);(try go_split_ands);first | (go_simp;done) | (go_simp;with_reducible rfl))
           simp only [Act.put,xsA,xsZ,xsS]
           refine wpAnyH_take (i:=1) (oi:=?o24) (v:=?v24) ?h24 (by kernel_rfl) (by kernel_rfl) (by kernel_rfl) (fun _ _ _ h=>h) ?y24 hHeld ?_
           case h24=>simp only [xgA,xgS,xgZ];rfl
           case y24=>(refine Or.inl ⟨rfl,?_⟩;intro w hSw;(try dsimp only at hSw);(try go_split_ands);first | (go_simp;done) | (go_simp;with_reducible rfl))
           simp only [Act.put,xsA,xsZ,xsS]
           refine wpAnyH_take (i:=2) (oi:=?o25) (v:=?v25) ?h25 (by kernel_rfl) (by kernel_rfl) (by kernel_rfl) (fun _ _ _ h=>h) ?y25 hHeld ?_
           case h25=>simp only [xgA,xgS,xgZ];rfl
           case y25=>(refine Or.inl ⟨rfl,?_⟩;intro w hSw;(try dsimp only at hSw);(try go_split_ands);first | (go_simp;done) | (go_simp;with_reducible rfl))
           simp only [Act.put,xsA,xsZ,xsS]
           refine wpAnyH_take (i:=3) (oi:=?o26) (v:=?v26) ?h26 (by kernel_rfl) (by kernel_rfl) (by kernel_rfl) (fun _ _ _ h=>h) ?y26 hHeld ?_
           case h26=>simp only [xgA,xgS,xgZ];rfl
           case y26=>(refine Or.inl ⟨rfl,?_⟩;intro w hSw;(try dsimp only at hSw);(try go_split_ands);first | (go_simp;done) | (go_simp;with_reducible rfl))
           simp only [Act.put,xsA,xsZ,xsS]
           refine wpAnyH_take (i:=4) (oi:=?o27) (v:=?v27) ?h27 (by kernel_rfl) (by kernel_rfl) (by kernel_rfl) (fun _ _ _ h=>h) ?y27 hHeld ?_
           case h27=>simp only [xgA,xgS,xgZ];rfl
           case y27=>(refine Or.inl ⟨rfl,?_⟩;intro w hSw;(try dsimp only at hSw);(try go_split_ands);first | (go_simp;done) | (go_simp;with_reducible rfl))
           simp only [Act.put,xsA,xsZ,xsS]
           refine wpAnyH_take (i:=5) (oi:=?o28) (v:=?v28) ?h28 (by kernel_rfl) (by kernel_rfl) (by kernel_rfl) (fun _ _ _ h=>h) ?y28 hHeld ?_
           case h28=>simp only [xgA,xgS,xgZ];rfl
           case y28=>(refine Or.inl ⟨rfl,?_⟩;intro w hSw;(try dsimp only at hSw);(try go_split_ands);first | (go_simp;done) | (go_simp;with_reducible rfl))
           simp only [Act.put,xsA,xsZ,xsS]
           refine wpAnyH_take (i:=6) (oi:=?o29) (v:=?v29) ?h29 (by kernel_rfl) (by kernel_rfl) (by kernel_rfl) (fun _ _ _ h=>h) ?y29 hHeld ?_
           case h29=>simp only [xgA,xgS,xgZ];rfl
           case y29=>(refine Or.inl ⟨rfl,?_⟩;intro w hSw;(try dsimp only at hSw);(try go_split_ands);first | (go_simp;done) | (go_simp;with_reducible rfl))
           simp only [Act.put,xsA,xsZ,xsS]
           refine wpAnyH_take (i:=7) (oi:=?o30) (v:=?v30) ?h30 (by kernel_rfl) (by kernel_rfl) (by kernel_rfl) (fun _ _ _ h=>h) ?y30 hHeld ?_
           case h30=>simp only [xgA,xgS,xgZ];rfl
           case y30=>(refine Or.inl ⟨rfl,?_⟩;intro w hSw;(try dsimp only at hSw);(try go_split_ands);first | (go_simp;done) | (go_simp;with_reducible rfl))
           simp only [Act.put,xsA,xsZ,xsS]
           refine wpAnyH_take (i:=8) (oi:=?o31) (v:=?v31) ?h31 (by kernel_rfl) (by kernel_rfl) (by kernel_rfl) (fun _ _ _ h=>h) ?y31 hHeld ?_
           case h31=>simp only [xgA,xgS,xgZ];rfl
           case y31=>(refine Or.inl ⟨rfl,?_⟩;intro w hSw;(try dsimp only at hSw);(try go_split_ands);first | (go_simp;done) | (go_simp;with_reducible rfl))
           simp only [Act.put,xsA,xsZ,xsS]
           refine wpAnyH_take (i:=9) (oi:=?o32) (v:=?v32) ?h32 (by kernel_rfl) (by kernel_rfl) (by kernel_rfl) (fun _ _ _ h=>h) ?y32 hHeld ?_
           case h32=>simp only [xgA,xgS,xgZ];rfl
           case y32=>(refine Or.inl ⟨rfl,?_⟩;intro w hSw;(try dsimp only at hSw);(try go_split_ands);first | (go_simp;done) | (go_simp;with_reducible rfl))
           simp only [Act.put,xsA,xsZ,xsS]
           refine wpAnyH_take (i:=10) (oi:=?o33) (v:=?v33) ?h33 (by kernel_rfl) (by kernel_rfl) (by kernel_rfl) (fun _ _ _ h=>h) ?y33 hHeld ?_
           case h33=>simp only [xgA,xgS,xgZ];rfl
           case y33=>(refine Or.inl ⟨rfl,?_⟩;intro w hSw;(try dsimp only at hSw);(try go_split_ands);first | (go_simp;done) | (go_simp;with_reducible rfl))
           simp only [Act.put,xsA,xsZ,xsS]
           refine wpAnyH_ready (rs:=[11]) (by kernel_rfl) (by simp) ?_
           refine AllReadyH.cons (o:=?oi38) ?ho38 (fun K hK=>?st38) ?mo38
           case ho38=>(simp only [xgA,xgS,xgZ];rfl)
           case st38 =>
            go_simp
            go_at_call 64
            refine hcall.mono ?_
            rintro e w' ⟨rfl,hb⟩
            simp only []
            have hb4':Below W4.heap.size W4 w':=below_step hbd hb
            refine hK.out _ _ (hkeep _ hb4') (fun hHeld=>?_)
            clear hK K
            try simp only [Act.put,xsA,xsZ,xsS]
            refine wpAnyH_take (i:=12) (oi:=?o34) (v:=?v34) ?h34 (by kernel_rfl) (by kernel_rfl) (by kernel_rfl) (fun _ _ _ h=>h) ?y34 hHeld ?_
            case h34=>simp only [xgA,xgS,xgZ];rfl
            case y34=>(refine Or.inl ⟨rfl,?_⟩;intro w hSw;(try dsimp only at hSw);(try go_split_ands);first | (go_simp;done) | (go_simp;with_reducible rfl))
            simp only [Act.put,xsA,xsZ,xsS]
            refine wpAnyH_take (i:=13) (oi:=?o35) (v:=?v35) ?h35 (by kernel_rfl) (by kernel_rfl) (by kernel_rfl) (fun _ _ _ h=>h) ?y35 hHeld ?_
            case h35=>simp only [xgA,xgS,xgZ];rfl
            case y35=>(refine Or.inl ⟨rfl,?_⟩;intro w hSw;(try dsimp only at hSw);(try go_split_ands);first | (go_simp;done) | (go_simp;with_reducible rfl))
            simp only [Act.put,xsA,xsZ,xsS]
            refine wpAnyH_take (i:=14) (oi:=?o36) (v:=?v36) ?h36 (by kernel_rfl) (by kernel_rfl) (by kernel_rfl) (fun _ _ _ h=>h) ?y36 hHeld ?_
            case h36=>simp only [xgA,xgS,xgZ];rfl
            case y36=>(refine Or.inl ⟨rfl,?_⟩;intro w hSw;(try dsimp only at hSw);(try go_split_ands);first | (go_simp;done) | (go_simp;with_reducible rfl))
            simp only [Act.put,xsA,xsZ,xsS]
            refine wpAnyH_done (by kernel_rfl) ?_ _
            clear hHeld hkeep hcall v0 v1 v5 hi6 hl6 hsub k1 k2 k3 u1 u2
            refine then_world (fun W5=>Below W4.heap.size W4 W5) hb4' ?_
            rintro W5 hb5
            have hgl:g < W4.heap.size:=(Array.getElem?_eq_some_iff.1 hg4).1
            have h4s:=hb4.size
            have h5s:=hb5.size
            have hW5:Below W.heap.size W W5:=hb4.trans (hb5.mono hb4.size)
            have hg5:=(hb5.block g hgl).trans hg4
            have hR5:=Kd.R_below hR4 hb5
            have hH5:H3G w.heap.size W5 (.slice (some ad) acc.length vc) (.int .i64 0) (.int .i64 0):=⟨(hb5.block _ (by omega)).trans hH4.1,(hb5.block _ (by omega)).trans hH4.2.1,(hb5.block _ (by omega)).trans hH4.2.2⟩
            have h75:=(hb5.block wc.heap.size (by omega)).trans h74
            have hS5:Kd.S k37 37 W5 w.heap.size (fun k=>wc.heap.size + 2 ≤ k ∧ k < W.heap.size) (.slice (some ad) acc.length vc) acc:=Kd.S_below (Kd.S_below (Kd.S_mono (Kd.S_bound hS) (fun k hk=>⟨hk.1,hk.2.2.1⟩)) hb4) hb5
            have hvl:=Kd.S_lt hS
            have hvb:∀ k,(Value.slice (some ad) acc.length vc).ownBlock=some k → wc.heap.size + 2 ≤ k:=fun k e=>((Kd.S_R hS).1 k e)
            clear c1 c2 c3 c7 d1 d2 d3 d7 b0 b1 b2 f0 f1 f2 pa
            obtain ⟨b0,b1,b2,f0,f1,f2⟩:=row3 hg5
            have c1:W5.cell? ⟨w.heap.size + 1,0,none⟩=some (.slice (some ad) acc.length vc):=by rw [Lib.cell_of_heap hH5.1];rfl
            have hwr:IntKind.i64.wrap ((acc.length:Int) + 1)=(acc.length:Int) + 1:=by rw [i64_w];unfold wrap64;omega
            gi_wp2_with (gi_at_builtin;refine listIn_cons (by intro c h;cases h) ?_;refine Kd.S_append_step k37 (w0:=w) w.heap.size rfl (.tmp 63) (.tmp 65) 35 37 (.agg #[(.int .i64 0),(.int .i64 0),(.slice none 0 0)]) 40 rfl Tryz.underlying35 info37 rfl (by decide) (by omega) (.slice (some ad) acc.length vc) acc y [.int .i64 y.f0,.int .i64 y.f1,.slice A y.f2.length cq] (fun k=>wc.heap.size + 2 ≤ k) (fun k=>W.heap.size ≤ k ∧ k ≠ g) rfl rfl ?aP37 ?aK37 ?aF37 ?aO37 ?aB37 ?aS37 ?aL37 ?_;(case aP37=>exact k37_mkM W5 w.heap.size _ y (Kd.R_lower hR5 (by omega)));(case aK37=>exact fun k hk=>⟨by omega,fun e=>by have:=hvl k e.symm;omega⟩);(case aF37=>exact fun k hk=>by omega);(case aO37=>exact Kd.S_mono hS5 (fun k hk=>⟨hk.1,fun h=>by omega⟩));(case aB37=>exact hB.trans (hW5.mono (by omega)));(case aS37=>omega);(case aL37=>omega);intro v1 w1 ho hb1 hg1 hat;obtain ⟨A1,n1,cc1,rfl⟩:∃ A n c,v1=.slice A n c:=(by obtain ⟨A,c,h⟩:=Kd.S_slice ho;exact ⟨A,_,c,h⟩);have hk1:∀ k,k ≤ wc.heap.size → w1.heap[k]?=W5.heap[k]?:=(fun k hk=>hg1.block k (by omega) (fun e=>by have:=hvb k e.symm;omega));have hH6:H3G w.heap.size w1 (.slice (some ad) acc.length vc) (.int .i64 0) (.int .i64 0):=⟨(hk1 _ (by omega)).trans hH5.1,(hk1 _ (by omega)).trans hH5.2.1,(hk1 _ (by omega)).trans hH5.2.2⟩;have h76:=(hk1 _ (Nat.le_refl _)).trans h75;have e1:w1.cell? ⟨w.heap.size + 1,0,none⟩=some (.slice (some ad) acc.length vc):=(by rw [Lib.cell_of_heap hH6.1];rfl);have e1f:w1.frozen? ⟨w.heap.size + 1,0,none⟩=false:=Lib.frozen_of_heap hH6.1 0;have e7f:w1.frozen? ⟨wc.heap.size,0,none⟩=false:=Lib.frozen_of_heap h76 0;have h77:(w1.setCell ⟨w.heap.size + 1,0,none⟩ (.slice A1 n1 cc1)).heap[wc.heap.size]?=some (.cells #[.int .i64 (acc.length:Int)] 3 (0,0)):=(Below.heap_setCell w1 ⟨w.heap.size + 1,0,none⟩ _ wc.heap.size (by show wc.heap.size ≠ w.heap.size + 1;omega)).trans h76;have e7:(w1.setCell ⟨w.heap.size + 1,0,none⟩ (.slice A1 n1 cc1)).cell? ⟨wc.heap.size,0,none⟩=some (.int .i64 (acc.length:Int)):=(by rw [Lib.cell_of_heap h77];rfl))
            have hfin:=fin_nextG (m':=(acc.length:Int) + 1) (b:=w.heap.size) (c:=wc.heap.size) (by omega) hZ hP hB hW5 hg1 hH6 h76 ho hvb hvl (Kd.S_typed hS)
            refine ⟨hfin.1,hfin.2.1,acc ++ [y],_,?_,by rw [List.length_append,List.length_append,hlS.out];rfl,hfin.2.2.1,hfin.2.2.2.1,?_,hfin.2.2.2.2.2.1,hfin.2.2.2.2.2.2.1,hfin.2.2.2.2.2.2.2⟩
            ·intro r hr
             rw [haS.out r hr,goG,hT.out,if_pos (hec.out.trans hezS.out),if_pos (by rw [hlast.out,← hyS.out];exact hafS.out),← hyS.out]
            ·have h8:=hfin.2.2.2.2.1
             rw [List.length_append]
             exact h8
           case mo38 =>
           exact AllReadyH.nil
          ·have haf:afterB z y=false:=Bool.eq_false_iff.2 hzy
           have hcall:=gaugeAfterC z y false haf A6 c6 A cq W4.drew (Kd.C_below hi6 hbd) hl6 (Kd.C_below hCy hbd) hcq
           have hafS:=Aside0.mk haf
           clear haf hzy
           refine region_inRound (S:=fun w2=>w2.cell? ⟨wc.heap.size,0,none⟩=some (.int .i64 (acc.length:Int)) ∧ w2.cell? ⟨w.heap.size,1,none⟩=some (.func (.func 64) #[] #[]) ∧ w2.cell? ⟨w.heap.size + 1,0,none⟩=some (.slice (some ad) acc.length vc) ∧ w2.cell? (ad.add (k * 3))=some (.int .i64 z.f0) ∧ w2.cell? ⟨(ad.add (k * 3)).block,(ad.add (k * 3)).off + 1,none⟩=some (.int .i64 z.f1) ∧ w2.cell? ⟨(ad.add (k * 3)).block,(ad.add (k * 3)).off + 2,none⟩=some (.slice A6 z.f2.length c6) ∧ w2.cell? ⟨g,0,none⟩=some (.int .i64 y.f0) ∧ w2.cell? ⟨g,1,none⟩=some (.int .i64 y.f1) ∧ w2.cell? ⟨g,2,none⟩=some (.slice A y.f2.length cq)) (by kernel_rfl) (by kernel_rfl) (by rintro ⟨_,_,h⟩;exact h) (hkeep _ hbd) (fun hHeld=>?_)
           refine wpAnyH_take (i:=0) (oi:=?o39) (v:=?v39) ?h39 (by kernel_rfl) (by kernel_rfl) (by kernel_rfl) (fun _ _ _ h=>h) ?y39 hHeld ?_
           case h39=>simp only [xgA,xgS,xgZ];rfl
           case y39=>(refine Or.inl ⟨rfl,?_⟩;intro w hSw;(try dsimp only at hSw);(try go_split_ands);first | (go_simp;done) | (go_simp;with_reducible rfl))
           simp only [Act.put,xsA,xsZ,xsS]
           refine wpAnyH_take (i:=1) (oi:=?o40) (v:=?v40) ?h40 (by kernel_rfl) (by kernel_rfl) (by kernel_rfl) (fun _ _ _ h=>h) ?y40 hHeld ?_
           case h40=>simp only [xgA,xgS,xgZ];rfl
           case y40=>(refine Or.inl ⟨rfl,?_⟩;intro w hSw;(try dsimp only at hSw);(try go_split_ands);first | (go_simp;done) | (go_simp;with_reducible rfl))
           simp only [Act.put,xsA,xsZ,xsS]
           refine wpAnyH_take (i:=2) (oi:=?o41) (v:=?v41) ?h41 (by kernel_rfl) (by kernel_rfl) (by kernel_rfl) (fun _ _ _ h=>h) ?y41 hHeld ?_
           case h41=>simp only [xgA,xgS,xgZ];rfl
           case y41=>(refine Or.inl ⟨rfl,?_⟩;intro w hSw;(try dsimp only at hSw);(try go_split_ands);first | (go_simp;done) | (go_simp;with_reducible rfl))
           simp only [Act.put,xsA,xsZ,xsS]
           refine wpAnyH_take (i:=3) (oi:=?o42) (v:=?v42) ?h42 (by kernel_rfl) (by kernel_rfl) (by kernel_rfl) (fun _ _ _ h=>h) ?y42 hHeld ?_
           case h42=>simp only [xgA,xgS,xgZ];rfl
           case y42=>(refine Or.inl ⟨rfl,?_⟩;intro w hSw;(try dsimp only at hSw);(try go_split_ands);first | (go_simp;done) | (go_simp;with_reducible rfl))
           simp only [Act.put,xsA,xsZ,xsS]
           refine wpAnyH_take (i:=4) (oi:=?o43) (v:=?v43) ?h43 (by kernel_rfl) (by kernel_rfl) (by kernel_rfl) (fun _ _ _ h=>h) ?y43 hHeld ?_
           case h43=>simp only [xgA,xgS,xgZ];rfl
           case y43=>(refine Or.inl ⟨rfl,?_⟩;intro w hSw;(try dsimp only at hSw);(try go_split_ands);first | (go_simp;done) | (go_simp;with_reducible rfl))
           simp only [Act.put,xsA,xsZ,xsS]
           refine wpAnyH_take (i:=5) (oi:=?o44) (v:=?v44) ?h44 (by kernel_rfl) (by kernel_rfl) (by kernel_rfl) (fun _ _ _ h=>h) ?y44 hHeld ?_
           case h44=>simp only [xgA,xgS,xgZ];rfl
           case y44=>(refine Or.inl ⟨rfl,?_⟩;intro w hSw;(try dsimp only at hSw);(try go_split_ands);first | (go_simp;done) | (go_simp;with_reducible rfl))
           simp only [Act.put,xsA,xsZ,xsS]
           refine wpAnyH_take (i:=6) (oi:=?o45) (v:=?v45) ?h45 (by kernel_rfl) (by kernel_rfl) (by kernel_rfl) (fun _ _ _ h=>h) ?y45 hHeld ?_
           case h45=>simp only [xgA,xgS,xgZ];rfl
           case y45=>(refine Or.inl ⟨rfl,?_⟩;intro w hSw;(try dsimp only at hSw);(try go_split_ands);first | (go_simp;done) | (go_simp;with_reducible rfl))
           simp only [Act.put,xsA,xsZ,xsS]
           refine wpAnyH_take (i:=7) (oi:=?o46) (v:=?v46) ?h46 (by kernel_rfl) (by kernel_rfl) (by kernel_rfl) (fun _ _ _ h=>h) ?y46 hHeld ?_
           case h46=>simp only [xgA,xgS,xgZ];rfl
           case y46=>(refine Or.inl ⟨rfl,?_⟩;intro w hSw;(try dsimp only at hSw);(try go_split_ands);first | (go_simp;done) | (go_simp;with_reducible rfl))
           simp only [Act.put,xsA,xsZ,xsS]
           refine wpAnyH_take (i:=8) (oi:=?o47) (v:=?v47) ?h47 (by kernel_rfl) (by kernel_rfl) (by kernel_rfl) (fun _ _ _ h=>h) ?y47 hHeld ?_
           case h47=>simp only [xgA,xgS,xgZ];rfl
           case y47=>(refine Or.inl ⟨rfl,?_⟩;intro w hSw;(try dsimp only at hSw);(try go_split_ands);first | (go_simp;done) | (go_simp;with_reducible rfl))
           simp only [Act.put,xsA,xsZ,xsS]
           refine wpAnyH_take (i:=9) (oi:=?o48) (v:=?v48) ?h48 (by kernel_rfl) (by kernel_rfl) (by kernel_rfl) (fun _ _ _ h=>h) ?y48 hHeld ?_
           case h48=>simp only [xgA,xgS,xgZ];rfl
           case y48=>(refine Or.inl ⟨rfl,?_⟩;intro w hSw;(try dsimp only at hSw);(try go_split_ands);first | (go_simp;done) | (go_simp;with_reducible rfl))
           simp only [Act.put,xsA,xsZ,xsS]
           refine wpAnyH_take (i:=10) (oi:=?o49) (v:=?v49) ?h49 (by kernel_rfl) (by kernel_rfl) (by kernel_rfl) (fun _ _ _ h=>h) ?y49 hHeld ?_
           case h49=>simp only [xgA,xgS,xgZ];rfl
           case y49=>(refine Or.inl ⟨rfl,?_⟩;intro w hSw;(try dsimp only at hSw);(try go_split_ands);first | (go_simp;done) | (go_simp;with_reducible rfl))
           simp only [Act.put,xsA,xsZ,xsS]
           refine wpAnyH_ready (rs:=[11]) (by kernel_rfl) (by simp) ?_
           refine AllReadyH.cons (o:=?oi53) ?ho53 (fun K hK=>?st53) ?mo53
           case ho53=>(simp only [xgA,xgS,xgZ];rfl)
           case st53 =>
            go_simp
            go_at_call 64
            refine hcall.mono ?_
            rintro e w' ⟨rfl,hb⟩
            simp only []
            have hb4':Below W4.heap.size W4 w':=below_step hbd hb
            refine hK.out _ _ (hkeep _ hb4') (fun hHeld=>?_)
            clear hK K
            try simp only [Act.put,xsA,xsZ,xsS]
            refine wpAnyH_take (i:=12) (oi:=?o50) (v:=?v50) ?h50 (by kernel_rfl) (by kernel_rfl) (by kernel_rfl) (fun _ _ _ h=>h) ?y50 hHeld ?_
            case h50=>simp only [xgA,xgS,xgZ];rfl
            case y50=>(refine Or.inl ⟨rfl,?_⟩;intro w hSw;(try dsimp only at hSw);(try go_split_ands);first | (go_simp;done) | (go_simp;with_reducible rfl))
            simp only [Act.put,xsA,xsZ,xsS]
            refine wpAnyH_take (i:=13) (oi:=?o51) (v:=?v51) ?h51 (by kernel_rfl) (by kernel_rfl) (by kernel_rfl) (fun _ _ _ h=>h) ?y51 hHeld ?_
            case h51=>simp only [xgA,xgS,xgZ];rfl
            case y51=>(refine Or.inl ⟨rfl,?_⟩;intro w hSw;(try dsimp only at hSw);(try go_split_ands);first | (go_simp;done) | (go_simp;with_reducible rfl))
            simp only [Act.put,xsA,xsZ,xsS]
            refine wpAnyH_take (i:=14) (oi:=?o52) (v:=?v52) ?h52 (by kernel_rfl) (by kernel_rfl) (by kernel_rfl) (fun _ _ _ h=>h) ?y52 hHeld ?_
            case h52=>simp only [xgA,xgS,xgZ];rfl
            case y52=>(refine Or.inl ⟨rfl,?_⟩;intro w hSw;(try dsimp only at hSw);(try go_split_ands);first | (go_simp;done) | (go_simp;with_reducible rfl))
            simp only [Act.put,xsA,xsZ,xsS]
            refine wpAnyH_done (by kernel_rfl) ?_ _
            clear hHeld hkeep hcall v0 v1 v5 hi6 hl6 hsub k1 k2 k3 u1 u2
            refine then_world (fun W5=>Below W4.heap.size W4 W5) hb4' ?_
            rintro W5 hb5
            have h4s:=hb4.size
            have h5s:=hb5.size
            have hW5:Below W.heap.size W W5:=hb4.trans (hb5.mono hb4.size)
            have hH5:H3G w.heap.size W5 (.slice (some ad) acc.length vc) (.int .i64 0) (.int .i64 0):=⟨(hb5.block _ (by omega)).trans hH4.1,(hb5.block _ (by omega)).trans hH4.2.1,(hb5.block _ (by omega)).trans hH4.2.2⟩
            have h75:=(hb5.block wc.heap.size (by omega)).trans h74
            have hB5:Below w.heap.size w W5:=hB.trans (hW5.mono (by omega))
            clear c1 c2 c3 c7 d1 d2 d3 d7 b0 b1 b2 f0 f1 f2 pa
            have c1:W5.cell? ⟨w.heap.size + 1,0,none⟩=some (.slice (some ad) acc.length vc):=by rw [Lib.cell_of_heap hH5.1];rfl
            have c2:W5.cell? ⟨w.heap.size + 2,0,none⟩=some (.int .i64 0):=by rw [Lib.cell_of_heap hH5.2.1];rfl
            have c3:W5.cell? ⟨w.heap.size + 3,0,none⟩=some (.int .i64 0):=by rw [Lib.cell_of_heap hH5.2.2];rfl
            have c7:W5.cell? ⟨wc.heap.size,0,none⟩=some (.int .i64 (acc.length:Int)):=by rw [Lib.cell_of_heap h75];rfl
            have d1:W5.frozen? ⟨w.heap.size + 1,0,none⟩=false:=Lib.frozen_of_heap hH5.1 0
            have d2:W5.frozen? ⟨w.heap.size + 2,0,none⟩=false:=Lib.frozen_of_heap hH5.2.1 0
            have d3:W5.frozen? ⟨w.heap.size + 3,0,none⟩=false:=Lib.frozen_of_heap hH5.2.2 0
            have hfin:=Aside0.mk (fin_retG hW5 hH5 hB5 (.slice none 0 0) (.int .i64 (acc.length:Int)) (.int .i64 6))
            have hgoE:Aside0 (goG [] (linesOf s)=([],(acc.length:Int),6)):=⟨by rw [hgoS.out,goG,hT.out,if_pos (hec.out.trans hezS.out),if_neg (by rw [hlast.out,← hyS.out];simp only [afterG];rw [hafS.out];exact Bool.false_ne_true)]⟩
            gi_wp2
            gi_region_with_o (fail)
            all_goals (gi_wp2)
            all_goals exact ⟨hfin.out.1,_,_,hgoE.out,hfin.out.2.1,hfin.out.2.2⟩
           case mo53 =>
           exact AllReadyH.nil
        ·have y1:(ec != 0)=true:=bne_iff_ne.2 hez
         have hfin:=Aside0.mk (fin_retG hb4 hH4 hB4 (.slice none 0 0) (.int .i64 (acc.length:Int)) (.int .i64 ec))
         have hgoE:Aside0 (goG [] (linesOf s)=([],(acc.length:Int),ec)):=⟨by rw [hgo,goG,hT.out,if_neg (by rw [hec.out];exact hez),hec.out]⟩
         clear hgo ha' hline htrim hS0
         gi_wp2
         gi_region_with_o (fail)
         all_goals (gi_wp2)
         all_goals exact ⟨hfin.out.1,_,_,hgoE.out,hfin.out.2.1,hfin.out.2.2⟩
       case mo54 =>
       exact AllReadyH.nil
      case mo55 =>
      exact AllReadyH.nil
     case mo56 =>
     refine AllReadyH.cons (o:=?oi110) ?ho110 (fun K hK=>?st110) ?mo110
     case ho110=>(simp only [xgA,xgS,xgZ];rfl)
     case st110 =>
      go_simp
      refine hK.out _ _ (hS0 _ ((below_drew (Below.refl _ _)).alloc (by show w.heap.size + 1 ≤ W.heap.size;omega) _)) (fun hHeld=>?_)
      clear hK K
      try simp only [Act.put,xsA,xsZ,xsS]
      refine wpAnyH_ready (rs:=[3]) (by kernel_rfl) (by simp) ?_
      refine AllReadyH.cons (o:=?oi109) ?ho109 (fun K hK=>?st109) ?mo109
      case ho109=>(simp only [xgA,xgS,xgZ];rfl)
      case st109 =>
       go_simp
       go_at_call 68
       have hba:Below W.heap.size W (W.drew.alloc (.cells #[.int .i64 0,.int .i64 0,.slice none 0 0] 37)):=(below_drew (Below.refl _ _)).alloc (Nat.le_refl _) _
       refine (hline _ (hB.trans (hba.mono (by omega)))).mono ?_
       rintro e Wl ⟨y,v',rfl,hR,hy,hb⟩
       obtain ⟨A,nq,cq,rfl⟩:∃ A n c,v'=.slice A n c:=by obtain ⟨A,c,h⟩:=Kd.R_slice hR;exact ⟨A,_,c,h⟩
       simp only []
       have hbq:Below W.heap.size W Wl:=below_step hba hb
       have hbl:Below (w.heap.size + 1) W Wl:=hbq.mono (by omega)
       refine hK.out _ _ (hS0 _ hbl) (fun hHeld=>?_)
       clear hK K
       try simp only [Act.put,xsA,xsZ,xsS]
       have hgA:=(hb.block W.heap.size (by show W.heap.size < (W.drew.heap.push _).size;rw [Array.size_push];exact Nat.lt_succ_self _)).trans (heap_alloc_new W.drew (.cells #[.int .i64 0,.int .i64 0,.slice none 0 0] 37))
       have hRh:Kd.R (Kd.int .i64) 3 Wl W.heap.size (fun k=>W.heap.size ≤ k ∧ k ≠ W.heap.size) (.slice A nq cq) y.f2:=Kd.R_lower (Kd.R_mono (Kd.R_bound hR) (fun k hk=>by have h9:=hk.2.1;rw [World.size_alloc] at h9;exact ⟨by have:W.drew.heap.size=W.heap.size:=rfl;omega,by have:W.drew.heap.size=W.heap.size:=rfl;omega⟩)) hba.size
       have hbg:=hbq
       obtain ⟨g,hg⟩:∃ g,W.heap.size=g:=⟨_,rfl⟩
       have hgW:W.heap.size ≤ g:=by rw [hg];exact Nat.le_refl _
       rw [hg] at hgA ⊢
       have hRg':Kd.R (Kd.int .i64) 3 Wl W.heap.size (fun k=>W.heap.size ≤ k ∧ k ≠ g) (.slice A nq cq) y.f2:=by rw [← hg];exact hRh
       refine wpAnyH_take (i:=4) (oi:=?o57) (v:=?v57) ?h57 (by kernel_rfl) (by kernel_rfl) (by kernel_rfl) (fun _ _ _ h=>h) ?y57 hHeld ?_
       case h57=>simp only [xgA,xgS,xgZ];rfl
       case y57=>(refine Or.inl ⟨rfl,?_⟩;intro w hSw;(try dsimp only at hSw);(try go_split_ands);first | (go_simp;done) | (go_simp;with_reducible rfl))
       simp only [Act.put,xsA,xsZ,xsS]
       refine wpAnyH_take (i:=5) (oi:=?o58) (v:=?v58) ?h58 (by kernel_rfl) (by kernel_rfl) (by kernel_rfl) (fun _ _ _ h=>h) ?y58 hHeld ?_
       case h58=>simp only [xgA,xgS,xgZ];rfl
       case y58=>(refine Or.inl ⟨rfl,?_⟩;intro w hSw;(try dsimp only at hSw);(try go_split_ands);first | (go_simp;done) | (go_simp;with_reducible rfl))
       simp only [Act.put,xsA,xsZ,xsS]
       refine wpAnyH_take (i:=6) (oi:=?o59) (v:=?v59) ?h59 (by kernel_rfl) (by kernel_rfl) (by kernel_rfl) (fun _ _ _ h=>h) ?y59 hHeld ?_
       case h59=>simp only [xgA,xgS,xgZ];rfl
       case y59=>(refine Or.inl ⟨rfl,?_⟩;intro w hSw;(try dsimp only at hSw);(try go_split_ands);first | (go_simp;done) | (go_simp;with_reducible rfl))
       simp only [Act.put,xsA,xsZ,xsS]
       clear hg hR hb hbl
       obtain ⟨b0,b1,b2,f0,f1,f2⟩:=row3 hgA
       have hblg:Below (w.heap.size + 1) W Wl:=hbg.mono (by omega)
       refine wpAnyH_ready (rs:=[8]) (by kernel_rfl) (by simp) ?_
       refine AllReadyH.cons (o:=?oi108) ?ho108 (fun K hK=>?st108) ?mo108
       case ho108=>(simp only [xgA,xgS,xgZ];rfl)
       case st108 =>
        go_simp
        refine hK.out _ _ (hS0 _ (below_sets3 (by omega) hblg)) (fun hHeld=>?_)
        clear hK K
        try simp only [Act.put,xsA,xsZ,xsS]
        refine wpAnyH_take (i:=9) (oi:=?o60) (v:=?v60) ?h60 (by kernel_rfl) (by kernel_rfl) (by kernel_rfl) (fun _ _ _ h=>h) ?y60 hHeld ?_
        case h60=>simp only [xgA,xgS,xgZ];rfl
        case y60=>(refine Or.inl ⟨rfl,?_⟩;intro w hSw;(try dsimp only at hSw);(try go_split_ands);first | (go_simp;done) | (go_simp;with_reducible rfl))
        simp only [Act.put,xsA,xsZ,xsS]
        refine wpAnyH_done (by kernel_rfl) ?_ _
        refine then_world (fun W4=>W4.heap[g]?=some (.cells #[.int .i64 y.f0,.int .i64 y.f1,.slice A nq cq] 37 (0,0)) ∧ Below W.heap.size W W4 ∧ Kd.R (Kd.int .i64) 3 W4 W.heap.size (fun k=>W.heap.size ≤ k ∧ k ≠ g) (.slice A nq cq) y.f2) ⟨row_sets3 ⟨_,hgA,rfl⟩ _ _ _,below_sets3 hgW hbg,far_sets3' (fun k hk=>hk.2) hRg'⟩ ?_
        rintro W4 ⟨hg4,hb4,hR4⟩
        clear b0 b1 b2 f0 f1 f2 hgA hbg hRg' hblg hHeld hbq
        have hP4:=(hb4.block w.heap.size (by omega)).trans hP
        have hH4:H3G w.heap.size W4 v (.int .i64 0) (.int .i64 0):=⟨(hb4.block _ (by omega)).trans hH.1,(hb4.block _ (by omega)).trans hH.2.1,(hb4.block _ (by omega)).trans hH.2.2⟩
        have h74:=(hb4.block wc.heap.size (by omega)).trans h7
        have hS4:=Kd.S_below hS hb4
        have hB4:Below w.heap.size w W4:=hB.trans (hb4.mono (by omega))
        obtain ⟨vA,vn,vc,rfl⟩:∃ A n c,v=.slice A n c:=by obtain ⟨A,c,h⟩:=Kd.S_slice hS;exact ⟨A,_,c,h⟩
        have c1:W4.cell? ⟨w.heap.size + 1,0,none⟩=some (.slice vA vn vc):=by rw [Lib.cell_of_heap hH4.1];rfl
        have c2:W4.cell? ⟨w.heap.size + 2,0,none⟩=some (.int .i64 0):=by rw [Lib.cell_of_heap hH4.2.1];rfl
        have c3:W4.cell? ⟨w.heap.size + 3,0,none⟩=some (.int .i64 0):=by rw [Lib.cell_of_heap hH4.2.2];rfl
        have c7:W4.cell? ⟨wc.heap.size,0,none⟩=some (.int .i64 (acc.length:Int)):=by rw [Lib.cell_of_heap h74];rfl
        have d1:W4.frozen? ⟨w.heap.size + 1,0,none⟩=false:=Lib.frozen_of_heap hH4.1 0
        have d2:W4.frozen? ⟨w.heap.size + 2,0,none⟩=false:=Lib.frozen_of_heap hH4.2.1 0
        have d3:W4.frozen? ⟨w.heap.size + 3,0,none⟩=false:=Lib.frozen_of_heap hH4.2.2 0
        have d7:W4.frozen? ⟨wc.heap.size,0,none⟩=false:=Lib.frozen_of_heap h74 0
        have hmx:Tryz.prog.follows .mixedOrders=true:=by kernel_rfl
        by_cases hez:ec=0
        ·have y1:(ec != 0)=false:=bne_eq_false_iff_eq.2 hez
         have hyS:=Aside0.mk (hy hez)
         have hezS:=Aside0.mk hez
         clear hy hez
         obtain ⟨b0,b1,b2,f0,f1,f2⟩:=row3 hg4
         have pa:W4.cell? ⟨w.heap.size,1,none⟩=some (.func (.func 64) #[] #[]):=by rw [Lib.cell_of_heap hP4];rfl
         have hgoS:=Aside0.mk hgo
         have haS:=Aside0.mk ha'
         clear hgo ha' hline htrim hS0
         gi_wp2
         by_cases hemp:acc.length=0
         ·have u1:decide ((0:Int) < (acc.length:Int))=false:=decide_eq_false (by omega)
          have u2:decide (0 < acc.length)=false:=decide_eq_false (by omega)
          have hempS:=Aside0.mk hemp
          clear hemp
          refine region_inRound (S:=fun w2=>w2.cell? ⟨wc.heap.size,0,none⟩=some (.int .i64 (acc.length:Int))) (by kernel_rfl) (by kernel_rfl) (by rintro ⟨_,_,h⟩;exact h) c7 (fun hHeld=>?_)
          refine wpAnyH_take (i:=0) (oi:=?o61) (v:=?v61) ?h61 (by kernel_rfl) (by kernel_rfl) (by kernel_rfl) (fun _ _ _ h=>h) ?y61 hHeld ?_
          case h61=>simp only [xgA,xgS,xgZ];rfl
          case y61=>(refine Or.inl ⟨rfl,?_⟩;intro w hSw;(try dsimp only at hSw);(try go_split_ands);first | (go_simp;done) | (go_simp;with_reducible rfl))
          simp only [Act.put,xsA,xsZ,xsS]
          refine wpAnyH_take (i:=1) (oi:=?o62) (v:=?v62) ?h62 (by kernel_rfl) (by kernel_rfl) (by kernel_rfl) (fun _ _ _ h=>h) ?y62 hHeld ?_
          case h62=>simp only [xgA,xgS,xgZ];rfl
          case y62=>(refine Or.inl ⟨rfl,?_⟩;intro w hSw;(try dsimp only at hSw);(try go_split_ands);first | (go_simp;done) | (go_simp;with_reducible rfl))
          simp only [Act.put,xsA,xsZ,xsS]
          refine wpAnyH_take (i:=2) (oi:=?o63) (v:=?v63) ?h63 (by kernel_rfl) (by kernel_rfl) (by kernel_rfl) (fun _ _ _ h=>h) ?y63 hHeld ?_
          case h63=>simp only [xgA,xgS,xgZ];rfl
          case y63=>(refine Or.inl ⟨rfl,?_⟩;intro w hSw;(try dsimp only at hSw);(try go_split_ands);first | (go_simp;done) | (go_simp;with_reducible rfl))
          simp only [Act.put,xsA,xsZ,xsS]
          refine wpAnyH_take (i:=3) (oi:=?o64) (v:=undef) ?h64 (by kernel_rfl) (by kernel_rfl) (by kernel_rfl) (fun _ _ _ h=>h) ?y64 hHeld ?_
          case h64=>simp only [xgA,xgS,xgZ];rfl
          case y64=>exact Or.inr ⟨rfl,rfl⟩
          simp only [Act.put,xsA,xsZ,xsS]
          refine wpAnyH_take (i:=4) (oi:=?o65) (v:=undef) ?h65 (by kernel_rfl) (by kernel_rfl) (by kernel_rfl) (fun _ _ _ h=>h) ?y65 hHeld ?_
          case h65=>simp only [xgA,xgS,xgZ];rfl
          case y65=>exact Or.inr ⟨rfl,rfl⟩
          simp only [Act.put,xsA,xsZ,xsS]
          refine wpAnyH_take (i:=5) (oi:=?o66) (v:=undef) ?h66 (by kernel_rfl) (by kernel_rfl) (by kernel_rfl) (fun _ _ _ h=>h) ?y66 hHeld ?_
          case h66=>simp only [xgA,xgS,xgZ];rfl
          case y66=>exact Or.inr ⟨rfl,rfl⟩
          simp only [Act.put,xsA,xsZ,xsS]
          refine wpAnyH_take (i:=6) (oi:=?o67) (v:=undef) ?h67 (by kernel_rfl) (by kernel_rfl) (by kernel_rfl) (fun _ _ _ h=>h) ?y67 hHeld ?_
          case h67=>simp only [xgA,xgS,xgZ];rfl
          case y67=>exact Or.inr ⟨rfl,rfl⟩
          simp only [Act.put,xsA,xsZ,xsS]
          refine wpAnyH_take (i:=7) (oi:=?o68) (v:=undef) ?h68 (by kernel_rfl) (by kernel_rfl) (by kernel_rfl) (fun _ _ _ h=>h) ?y68 hHeld ?_
          case h68=>simp only [xgA,xgS,xgZ];rfl
          case y68=>exact Or.inr ⟨rfl,rfl⟩
          simp only [Act.put,xsA,xsZ,xsS]
          refine wpAnyH_take (i:=8) (oi:=?o69) (v:=undef) ?h69 (by kernel_rfl) (by kernel_rfl) (by kernel_rfl) (fun _ _ _ h=>h) ?y69 hHeld ?_
          case h69=>simp only [xgA,xgS,xgZ];rfl
          case y69=>exact Or.inr ⟨rfl,rfl⟩
          simp only [Act.put,xsA,xsZ,xsS]
          refine wpAnyH_take (i:=9) (oi:=?o70) (v:=undef) ?h70 (by kernel_rfl) (by kernel_rfl) (by kernel_rfl) (fun _ _ _ h=>h) ?y70 hHeld ?_
          case h70=>simp only [xgA,xgS,xgZ];rfl
          case y70=>exact Or.inr ⟨rfl,rfl⟩
          simp only [Act.put,xsA,xsZ,xsS]
          refine wpAnyH_take (i:=10) (oi:=?o71) (v:=undef) ?h71 (by kernel_rfl) (by kernel_rfl) (by kernel_rfl) (fun _ _ _ h=>h) ?y71 hHeld ?_
          case h71=>simp only [xgA,xgS,xgZ];rfl
          case y71=>exact Or.inr ⟨rfl,rfl⟩
          simp only [Act.put,xsA,xsZ,xsS]
          refine wpAnyH_take (i:=11) (oi:=?o72) (v:=undef) ?h72 (by kernel_rfl) (by kernel_rfl) (by kernel_rfl) (fun _ _ _ h=>h) ?y72 hHeld ?_
          case h72=>simp only [xgA,xgS,xgZ];rfl
          case y72=>exact Or.inr ⟨rfl,rfl⟩
          simp only [Act.put,xsA,xsZ,xsS]
          refine wpAnyH_take (i:=12) (oi:=?o73) (v:=undef) ?h73 (by kernel_rfl) (by kernel_rfl) (by kernel_rfl) (fun _ _ _ h=>h) ?y73 hHeld ?_
          case h73=>simp only [xgA,xgS,xgZ];rfl
          case y73=>exact Or.inr ⟨rfl,rfl⟩
          simp only [Act.put,xsA,xsZ,xsS]
          refine wpAnyH_take (i:=13) (oi:=?o74) (v:=?v74) ?h74 (by kernel_rfl) (by kernel_rfl) (by kernel_rfl) (fun _ _ _ h=>h) ?y74 hHeld ?_
          case h74=>simp only [xgA,xgS,xgZ];rfl
          case y74=>(refine Or.inl ⟨rfl,?_⟩;intro w hSw;(try dsimp only at hSw);(try go_split_ands);first | (go_simp;done) | (go_simp;with_reducible rfl))
          simp only [Act.put,xsA,xsZ,xsS]
          refine wpAnyH_take (i:=14) (oi:=?o75) (v:=?v75) ?h75 (by kernel_rfl) (by kernel_rfl) (by kernel_rfl) (fun _ _ _ h=>h) ?y75 hHeld ?_
          case h75=>simp only [xgA,xgS,xgZ];rfl
          case y75=>(refine Or.inl ⟨rfl,?_⟩;intro w hSw;(try dsimp only at hSw);(try go_split_ands);first | (go_simp;done) | (go_simp;with_reducible rfl))
          simp only [Act.put,xsA,xsZ,xsS]
          refine wpAnyH_done (by kernel_rfl) ?_ _
          refine then_world (fun W5=>Below W4.heap.size W4 W5) (below_drew (Below.refl _ _)) ?_
          rintro W5 hb5
          have hgl:g < W4.heap.size:=(Array.getElem?_eq_some_iff.1 hg4).1
          have h4s:=hb4.size
          have h5s:=hb5.size
          have hW5:Below W.heap.size W W5:=hb4.trans (hb5.mono hb4.size)
          have hg5:=(hb5.block g hgl).trans hg4
          have hR5:=Kd.R_below hR4 hb5
          have hH5:H3G w.heap.size W5 (.slice vA vn vc) (.int .i64 0) (.int .i64 0):=⟨(hb5.block _ (by omega)).trans hH4.1,(hb5.block _ (by omega)).trans hH4.2.1,(hb5.block _ (by omega)).trans hH4.2.2⟩
          have h75:=(hb5.block wc.heap.size (by omega)).trans h74
          have hS5:Kd.S k37 37 W5 w.heap.size (fun k=>wc.heap.size + 2 ≤ k ∧ k < W.heap.size) (.slice vA vn vc) acc:=Kd.S_below (Kd.S_below (Kd.S_mono (Kd.S_bound hS) (fun k hk=>⟨hk.1,hk.2.2.1⟩)) hb4) hb5
          have hvl:=Kd.S_lt hS
          have hvb:∀ k,(Value.slice vA vn vc).ownBlock=some k → wc.heap.size + 2 ≤ k:=fun k e=>((Kd.S_R hS).1 k e)
          clear c1 c2 c3 c7 d1 d2 d3 d7 b0 b1 b2 f0 f1 f2 pa
          obtain ⟨b0,b1,b2,f0,f1,f2⟩:=row3 hg5
          have c1:W5.cell? ⟨w.heap.size + 1,0,none⟩=some (.slice vA vn vc):=by rw [Lib.cell_of_heap hH5.1];rfl
          have hwr:IntKind.i64.wrap ((acc.length:Int) + 1)=(acc.length:Int) + 1:=by rw [i64_w];unfold wrap64;omega
          gi_wp2_with (gi_at_builtin;refine listIn_cons (by intro c h;cases h) ?_;refine Kd.S_append_step k37 (w0:=w) w.heap.size rfl (.tmp 63) (.tmp 65) 35 37 (.agg #[(.int .i64 0),(.int .i64 0),(.slice none 0 0)]) 40 rfl Tryz.underlying35 info37 rfl (by decide) (by omega) (.slice vA vn vc) acc y [.int .i64 y.f0,.int .i64 y.f1,.slice A nq cq] (fun k=>wc.heap.size + 2 ≤ k) (fun k=>W.heap.size ≤ k ∧ k ≠ g) rfl rfl ?aP76 ?aK76 ?aF76 ?aO76 ?aB76 ?aS76 ?aL76 ?_;(case aP76=>exact k37_mkM W5 w.heap.size _ y (Kd.R_lower hR5 (by omega)));(case aK76=>exact fun k hk=>⟨by omega,fun e=>by have:=hvl k e.symm;omega⟩);(case aF76=>exact fun k hk=>by omega);(case aO76=>exact Kd.S_mono hS5 (fun k hk=>⟨hk.1,fun h=>by omega⟩));(case aB76=>exact hB.trans (hW5.mono (by omega)));(case aS76=>omega);(case aL76=>omega);intro v1 w1 ho hb1 hg1 hat;obtain ⟨A1,n1,cc1,rfl⟩:∃ A n c,v1=.slice A n c:=(by obtain ⟨A,c,h⟩:=Kd.S_slice ho;exact ⟨A,_,c,h⟩);have hk1:∀ k,k ≤ wc.heap.size → w1.heap[k]?=W5.heap[k]?:=(fun k hk=>hg1.block k (by omega) (fun e=>by have:=hvb k e.symm;omega));have hH6:H3G w.heap.size w1 (.slice vA vn vc) (.int .i64 0) (.int .i64 0):=⟨(hk1 _ (by omega)).trans hH5.1,(hk1 _ (by omega)).trans hH5.2.1,(hk1 _ (by omega)).trans hH5.2.2⟩;have h76:=(hk1 _ (Nat.le_refl _)).trans h75;have e1:w1.cell? ⟨w.heap.size + 1,0,none⟩=some (.slice vA vn vc):=(by rw [Lib.cell_of_heap hH6.1];rfl);have e1f:w1.frozen? ⟨w.heap.size + 1,0,none⟩=false:=Lib.frozen_of_heap hH6.1 0;have e7f:w1.frozen? ⟨wc.heap.size,0,none⟩=false:=Lib.frozen_of_heap h76 0;have h77:(w1.setCell ⟨w.heap.size + 1,0,none⟩ (.slice A1 n1 cc1)).heap[wc.heap.size]?=some (.cells #[.int .i64 (acc.length:Int)] 3 (0,0)):=(Below.heap_setCell w1 ⟨w.heap.size + 1,0,none⟩ _ wc.heap.size (by show wc.heap.size ≠ w.heap.size + 1;omega)).trans h76;have e7:(w1.setCell ⟨w.heap.size + 1,0,none⟩ (.slice A1 n1 cc1)).cell? ⟨wc.heap.size,0,none⟩=some (.int .i64 (acc.length:Int)):=(by rw [Lib.cell_of_heap h77];rfl))
          have hfin:=fin_nextG (m':=(acc.length:Int) + 1) (b:=w.heap.size) (c:=wc.heap.size) (by omega) hZ hP hB hW5 hg1 hH6 h76 ho hvb hvl (Kd.S_typed hS)
          refine ⟨hfin.1,hfin.2.1,acc ++ [y],_,?_,by rw [List.length_append,List.length_append,hlS.out];rfl,hfin.2.2.1,hfin.2.2.2.1,?_,hfin.2.2.2.2.2.1,hfin.2.2.2.2.2.2.1,hfin.2.2.2.2.2.2.2⟩
          ·intro r hr
           rw [haS.out r hr,goG,hT.out,if_pos (hec.out.trans hezS.out),if_pos (by unfold lastFG;rw [List.length_eq_zero_iff.1 hempS.out];rfl),← hyS.out]
          ·have h8:=hfin.2.2.2.2.1
           rw [List.length_append]
           exact h8
         ·have u1:decide ((0:Int) < (acc.length:Int))=true:=decide_eq_true (by omega)
          have u2:decide (0 < acc.length)=true:=decide_eq_true (by omega)
          obtain ⟨k,hk⟩:∃ k,acc.length=k + 1:=⟨acc.length - 1,by omega⟩
          obtain ⟨hvn,hvc,hC⟩:=Kd.R_reads' (Kd.S_R hS4)
          obtain rfl:=hvn
          obtain ⟨ad,A6,c6,hade,v0,v1,v5,hl6,hi6⟩:=at_T37 hC (k:Int) (by omega) (by omega)
          obtain rfl:=hade
          have hsub:IntKind.i64.wrap ((acc.length:Int) - 1)=(k:Int):=by rw [i64_w];unfold wrap64;omega
          have k1:(0 ≤ (k:Int))=True:=eq_true (by omega)
          have k2:((k:Int) < (acc.length:Int))=True:=eq_true (by omega)
          have k3:(k < acc.length)=True:=eq_true (by omega)
          have hlast:Aside0 (lastFG acc=some (rd_T37 acc (k:Int))):=⟨lastFG_at hk⟩
          simp only [Int.toNat_natCast] at v0 v1 v5
          generalize rd_T37 acc (k:Int)=z at v0 v1 v5 hl6 hi6 hlast
          obtain ⟨hnq,hcq,hCy⟩:=Kd.R_reads' hR4
          obtain rfl:=hnq
          have hkS:=Aside0.mk hk
          clear hk hemp
          have hkeep:∀ w2:World,Below W4.heap.size W4 w2 → w2.cell? ⟨wc.heap.size,0,none⟩=some (.int .i64 (acc.length:Int)) ∧ w2.cell? ⟨w.heap.size,1,none⟩=some (.func (.func 64) #[] #[]) ∧ w2.cell? ⟨w.heap.size + 1,0,none⟩=some (.slice (some ad) acc.length vc) ∧ w2.cell? (ad.add (k * 3))=some (.int .i64 z.f0) ∧ w2.cell? ⟨(ad.add (k * 3)).block,(ad.add (k * 3)).off + 1,none⟩=some (.int .i64 z.f1) ∧ w2.cell? ⟨(ad.add (k * 3)).block,(ad.add (k * 3)).off + 2,none⟩=some (.slice A6 z.f2.length c6) ∧ w2.cell? ⟨g,0,none⟩=some (.int .i64 y.f0) ∧ w2.cell? ⟨g,1,none⟩=some (.int .i64 y.f1) ∧ w2.cell? ⟨g,2,none⟩=some (.slice A y.f2.length cq):=fun w2 h6=>⟨keepCell c7 h6,keepCell pa h6,keepCell c1 h6,keepCell v0 h6,keepCell v1 h6,keepCell v5 h6,keepCell b0 h6,keepCell b1 h6,keepCell b2 h6⟩
          have hbd:Below W4.heap.size W4 W4.drew:=below_drew (Below.refl _ _)
          by_cases hzy:afterB z y=true
          ·have haf:afterB z y=true:=hzy
           have hcall:=gaugeAfterC z y true haf A6 c6 A cq W4.drew (Kd.C_below hi6 hbd) hl6 (Kd.C_below hCy hbd) hcq
           have hafS:=Aside0.mk haf
           clear haf hzy
           refine region_inRound (S:=fun w2=>w2.cell? ⟨wc.heap.size,0,none⟩=some (.int .i64 (acc.length:Int)) ∧ w2.cell? ⟨w.heap.size,1,none⟩=some (.func (.func 64) #[] #[]) ∧ w2.cell? ⟨w.heap.size + 1,0,none⟩=some (.slice (some ad) acc.length vc) ∧ w2.cell? (ad.add (k * 3))=some (.int .i64 z.f0) ∧ w2.cell? ⟨(ad.add (k * 3)).block,(ad.add (k * 3)).off + 1,none⟩=some (.int .i64 z.f1) ∧ w2.cell? ⟨(ad.add (k * 3)).block,(ad.add (k * 3)).off + 2,none⟩=some (.slice A6 z.f2.length c6) ∧ w2.cell? ⟨g,0,none⟩=some (.int .i64 y.f0) ∧ w2.cell? ⟨g,1,none⟩=some (.int .i64 y.f1) ∧ w2.cell? ⟨g,2,none⟩=some (.slice A y.f2.length cq)) (by kernel_rfl) (by kernel_rfl) (by rintro ⟨_,_,h⟩;exact h) (hkeep _ hbd) (fun hHeld=>?_)
           refine wpAnyH_take (i:=0) (oi:=?o77) (v:=?v77) ?h77 (by kernel_rfl) (by kernel_rfl) (by kernel_rfl) (fun _ _ _ h=>h) ?y77 hHeld ?_
           case h77=>simp only [xgA,xgS,xgZ];rfl
           case y77=>(refine Or.inl ⟨rfl,?_⟩;intro w hSw;(try dsimp only at hSw);(try go_split_ands);first | (go_simp;done) | (go_simp;with_reducible rfl))
           simp only [Act.put,xsA,xsZ,xsS]
           refine wpAnyH_take (i:=1) (oi:=?o78) (v:=?v78) ?h78 (by kernel_rfl) (by kernel_rfl) (by kernel_rfl) (fun _ _ _ h=>h) ?y78 hHeld ?_
           case h78=>simp only [xgA,xgS,xgZ];rfl
           case y78=>(refine Or.inl ⟨rfl,?_⟩;intro w hSw;(try dsimp only at hSw);(try go_split_ands);first | (go_simp;done) | (go_simp;with_reducible rfl))
           simp only [Act.put,xsA,xsZ,xsS]
           refine wpAnyH_take (i:=2) (oi:=?o79) (v:=?v79) ?h79 (by kernel_rfl) (by kernel_rfl) (by kernel_rfl) (fun _ _ _ h=>h) ?y79 hHeld ?_
           case h79=>simp only [xgA,xgS,xgZ];rfl
           case y79=>(refine Or.inl ⟨rfl,?_⟩;intro w hSw;(try dsimp only at hSw);(try go_split_ands);first | (go_simp;done) | (go_simp;with_reducible rfl))
           simp only [Act.put,xsA,xsZ,xsS]
           refine wpAnyH_take (i:=3) (oi:=?o80) (v:=?v80) ?h80 (by kernel_rfl) (by kernel_rfl) (by kernel_rfl) (fun _ _ _ h=>h) ?y80 hHeld ?_
           case h80=>simp only [xgA,xgS,xgZ];rfl
           case y80=>(refine Or.inl ⟨rfl,?_⟩;intro w hSw;(try dsimp only at hSw);(try go_split_ands);first | (go_simp;done) | (go_simp;with_reducible rfl))
           simp only [Act.put,xsA,xsZ,xsS]
           refine wpAnyH_take (i:=4) (oi:=?o81) (v:=?v81) ?h81 (by kernel_rfl) (by kernel_rfl) (by kernel_rfl) (fun _ _ _ h=>h) ?y81 hHeld ?_
           case h81=>simp only [xgA,xgS,xgZ];rfl
           case y81=>(refine Or.inl ⟨rfl,?_⟩;intro w hSw;(try dsimp only at hSw);(try go_split_ands);first | (go_simp;done) | (go_simp;with_reducible rfl))
           simp only [Act.put,xsA,xsZ,xsS]
           refine wpAnyH_take (i:=5) (oi:=?o82) (v:=?v82) ?h82 (by kernel_rfl) (by kernel_rfl) (by kernel_rfl) (fun _ _ _ h=>h) ?y82 hHeld ?_
           case h82=>simp only [xgA,xgS,xgZ];rfl
           case y82=>(refine Or.inl ⟨rfl,?_⟩;intro w hSw;(try dsimp only at hSw);(try go_split_ands);first | (go_simp;done) | (go_simp;with_reducible rfl))
           simp only [Act.put,xsA,xsZ,xsS]
           refine wpAnyH_take (i:=6) (oi:=?o83) (v:=?v83) ?h83 (by kernel_rfl) (by kernel_rfl) (by kernel_rfl) (fun _ _ _ h=>h) ?y83 hHeld ?_
           case h83=>simp only [xgA,xgS,xgZ];rfl
           case y83=>(refine Or.inl ⟨rfl,?_⟩;intro w hSw;(try dsimp only at hSw);(try go_split_ands);first | (go_simp;done) | (go_simp;with_reducible rfl))
           simp only [Act.put,xsA,xsZ,xsS]
           refine wpAnyH_take (i:=7) (oi:=?o84) (v:=?v84) ?h84 (by kernel_rfl) (by kernel_rfl) (by kernel_rfl) (fun _ _ _ h=>h) ?y84 hHeld ?_
           case h84=>simp only [xgA,xgS,xgZ];rfl
           case y84=>(refine Or.inl ⟨rfl,?_⟩;intro w hSw;(try dsimp only at hSw);(try go_split_ands);first | (go_simp;done) | (go_simp;with_reducible rfl))
           simp only [Act.put,xsA,xsZ,xsS]
           refine wpAnyH_take (i:=8) (oi:=?o85) (v:=?v85) ?h85 (by kernel_rfl) (by kernel_rfl) (by kernel_rfl) (fun _ _ _ h=>h) ?y85 hHeld ?_
           case h85=>simp only [xgA,xgS,xgZ];rfl
           case y85=>(refine Or.inl ⟨rfl,?_⟩;intro w hSw;(try dsimp only at hSw);(try go_split_ands);first | (go_simp;done) | (go_simp;with_reducible rfl))
           simp only [Act.put,xsA,xsZ,xsS]
           refine wpAnyH_take (i:=9) (oi:=?o86) (v:=?v86) ?h86 (by kernel_rfl) (by kernel_rfl) (by kernel_rfl) (fun _ _ _ h=>h) ?y86 hHeld ?_
           case h86=>simp only [xgA,xgS,xgZ];rfl
           case y86=>(refine Or.inl ⟨rfl,?_⟩;intro w hSw;(try dsimp only at hSw);(try go_split_ands);first | (go_simp;done) | (go_simp;with_reducible rfl))
           simp only [Act.put,xsA,xsZ,xsS]
           refine wpAnyH_take (i:=10) (oi:=?o87) (v:=?v87) ?h87 (by kernel_rfl) (by kernel_rfl) (by kernel_rfl) (fun _ _ _ h=>h) ?y87 hHeld ?_
           case h87=>simp only [xgA,xgS,xgZ];rfl
           case y87=>(refine Or.inl ⟨rfl,?_⟩;intro w hSw;(try dsimp only at hSw);(try go_split_ands);first | (go_simp;done) | (go_simp;with_reducible rfl))
           simp only [Act.put,xsA,xsZ,xsS]
           refine wpAnyH_ready (rs:=[11]) (by kernel_rfl) (by simp) ?_
           refine AllReadyH.cons (o:=?oi92) ?ho92 (fun K hK=>?st92) ?mo92
           case ho92=>(simp only [xgA,xgS,xgZ];rfl)
           case st92 =>
            go_simp
            go_at_call 64
            refine hcall.mono ?_
            rintro e w' ⟨rfl,hb⟩
            simp only []
            have hb4':Below W4.heap.size W4 w':=below_step hbd hb
            refine hK.out _ _ (hkeep _ hb4') (fun hHeld=>?_)
            clear hK K
            try simp only [Act.put,xsA,xsZ,xsS]
            refine wpAnyH_take (i:=12) (oi:=?o88) (v:=?v88) ?h88 (by kernel_rfl) (by kernel_rfl) (by kernel_rfl) (fun _ _ _ h=>h) ?y88 hHeld ?_
            case h88=>simp only [xgA,xgS,xgZ];rfl
            case y88=>(refine Or.inl ⟨rfl,?_⟩;intro w hSw;(try dsimp only at hSw);(try go_split_ands);first | (go_simp;done) | (go_simp;with_reducible rfl))
            simp only [Act.put,xsA,xsZ,xsS]
            refine wpAnyH_take (i:=13) (oi:=?o89) (v:=?v89) ?h89 (by kernel_rfl) (by kernel_rfl) (by kernel_rfl) (fun _ _ _ h=>h) ?y89 hHeld ?_
            case h89=>simp only [xgA,xgS,xgZ];rfl
            case y89=>(refine Or.inl ⟨rfl,?_⟩;intro w hSw;(try dsimp only at hSw);(try go_split_ands);first | (go_simp;done) | (go_simp;with_reducible rfl))
            simp only [Act.put,xsA,xsZ,xsS]
            refine wpAnyH_take (i:=14) (oi:=?o90) (v:=?v90) ?h90 (by kernel_rfl) (by kernel_rfl) (by kernel_rfl) (fun _ _ _ h=>h) ?y90 hHeld ?_
            case h90=>simp only [xgA,xgS,xgZ];rfl
            case y90=>(refine Or.inl ⟨rfl,?_⟩;intro w hSw;(try dsimp only at hSw);(try go_split_ands);first | (go_simp;done) | (go_simp;with_reducible rfl))
            simp only [Act.put,xsA,xsZ,xsS]
            refine wpAnyH_done (by kernel_rfl) ?_ _
            clear hHeld hkeep hcall v0 v1 v5 hi6 hl6 hsub k1 k2 k3 u1 u2
            refine then_world (fun W5=>Below W4.heap.size W4 W5) hb4' ?_
            rintro W5 hb5
            have hgl:g < W4.heap.size:=(Array.getElem?_eq_some_iff.1 hg4).1
            have h4s:=hb4.size
            have h5s:=hb5.size
            have hW5:Below W.heap.size W W5:=hb4.trans (hb5.mono hb4.size)
            have hg5:=(hb5.block g hgl).trans hg4
            have hR5:=Kd.R_below hR4 hb5
            have hH5:H3G w.heap.size W5 (.slice (some ad) acc.length vc) (.int .i64 0) (.int .i64 0):=⟨(hb5.block _ (by omega)).trans hH4.1,(hb5.block _ (by omega)).trans hH4.2.1,(hb5.block _ (by omega)).trans hH4.2.2⟩
            have h75:=(hb5.block wc.heap.size (by omega)).trans h74
            have hS5:Kd.S k37 37 W5 w.heap.size (fun k=>wc.heap.size + 2 ≤ k ∧ k < W.heap.size) (.slice (some ad) acc.length vc) acc:=Kd.S_below (Kd.S_below (Kd.S_mono (Kd.S_bound hS) (fun k hk=>⟨hk.1,hk.2.2.1⟩)) hb4) hb5
            have hvl:=Kd.S_lt hS
            have hvb:∀ k,(Value.slice (some ad) acc.length vc).ownBlock=some k → wc.heap.size + 2 ≤ k:=fun k e=>((Kd.S_R hS).1 k e)
            clear c1 c2 c3 c7 d1 d2 d3 d7 b0 b1 b2 f0 f1 f2 pa
            obtain ⟨b0,b1,b2,f0,f1,f2⟩:=row3 hg5
            have c1:W5.cell? ⟨w.heap.size + 1,0,none⟩=some (.slice (some ad) acc.length vc):=by rw [Lib.cell_of_heap hH5.1];rfl
            have hwr:IntKind.i64.wrap ((acc.length:Int) + 1)=(acc.length:Int) + 1:=by rw [i64_w];unfold wrap64;omega
            gi_wp2_with (gi_at_builtin;refine listIn_cons (by intro c h;cases h) ?_;refine Kd.S_append_step k37 (w0:=w) w.heap.size rfl (.tmp 63) (.tmp 65) 35 37 (.agg #[(.int .i64 0),(.int .i64 0),(.slice none 0 0)]) 40 rfl Tryz.underlying35 info37 rfl (by decide) (by omega) (.slice (some ad) acc.length vc) acc y [.int .i64 y.f0,.int .i64 y.f1,.slice A y.f2.length cq] (fun k=>wc.heap.size + 2 ≤ k) (fun k=>W.heap.size ≤ k ∧ k ≠ g) rfl rfl ?aP91 ?aK91 ?aF91 ?aO91 ?aB91 ?aS91 ?aL91 ?_;(case aP91=>exact k37_mkM W5 w.heap.size _ y (Kd.R_lower hR5 (by omega)));(case aK91=>exact fun k hk=>⟨by omega,fun e=>by have:=hvl k e.symm;omega⟩);(case aF91=>exact fun k hk=>by omega);(case aO91=>exact Kd.S_mono hS5 (fun k hk=>⟨hk.1,fun h=>by omega⟩));(case aB91=>exact hB.trans (hW5.mono (by omega)));(case aS91=>omega);(case aL91=>omega);intro v1 w1 ho hb1 hg1 hat;obtain ⟨A1,n1,cc1,rfl⟩:∃ A n c,v1=.slice A n c:=(by obtain ⟨A,c,h⟩:=Kd.S_slice ho;exact ⟨A,_,c,h⟩);have hk1:∀ k,k ≤ wc.heap.size → w1.heap[k]?=W5.heap[k]?:=(fun k hk=>hg1.block k (by omega) (fun e=>by have:=hvb k e.symm;omega));have hH6:H3G w.heap.size w1 (.slice (some ad) acc.length vc) (.int .i64 0) (.int .i64 0):=⟨(hk1 _ (by omega)).trans hH5.1,(hk1 _ (by omega)).trans hH5.2.1,(hk1 _ (by omega)).trans hH5.2.2⟩;have h76:=(hk1 _ (Nat.le_refl _)).trans h75;have e1:w1.cell? ⟨w.heap.size + 1,0,none⟩=some (.slice (some ad) acc.length vc):=(by rw [Lib.cell_of_heap hH6.1];rfl);have e1f:w1.frozen? ⟨w.heap.size + 1,0,none⟩=false:=Lib.frozen_of_heap hH6.1 0;have e7f:w1.frozen? ⟨wc.heap.size,0,none⟩=false:=Lib.frozen_of_heap h76 0;have h77:(w1.setCell ⟨w.heap.size + 1,0,none⟩ (.slice A1 n1 cc1)).heap[wc.heap.size]?=some (.cells #[.int .i64 (acc.length:Int)] 3 (0,0)):=(Below.heap_setCell w1 ⟨w.heap.size + 1,0,none⟩ _ wc.heap.size (by show wc.heap.size ≠ w.heap.size + 1;omega)).trans h76;have e7:(w1.setCell ⟨w.heap.size + 1,0,none⟩ (.slice A1 n1 cc1)).cell? ⟨wc.heap.size,0,none⟩=some (.int .i64 (acc.length:Int)):=(by rw [Lib.cell_of_heap h77];rfl))
            have hfin:=fin_nextG (m':=(acc.length:Int) + 1) (b:=w.heap.size) (c:=wc.heap.size) (by omega) hZ hP hB hW5 hg1 hH6 h76 ho hvb hvl (Kd.S_typed hS)
            refine ⟨hfin.1,hfin.2.1,acc ++ [y],_,?_,by rw [List.length_append,List.length_append,hlS.out];rfl,hfin.2.2.1,hfin.2.2.2.1,?_,hfin.2.2.2.2.2.1,hfin.2.2.2.2.2.2.1,hfin.2.2.2.2.2.2.2⟩
            ·intro r hr
             rw [haS.out r hr,goG,hT.out,if_pos (hec.out.trans hezS.out),if_pos (by rw [hlast.out,← hyS.out];exact hafS.out),← hyS.out]
            ·have h8:=hfin.2.2.2.2.1
             rw [List.length_append]
             exact h8
           case mo92 =>
           exact AllReadyH.nil
          ·have haf:afterB z y=false:=Bool.eq_false_iff.2 hzy
           have hcall:=gaugeAfterC z y false haf A6 c6 A cq W4.drew (Kd.C_below hi6 hbd) hl6 (Kd.C_below hCy hbd) hcq
           have hafS:=Aside0.mk haf
           clear haf hzy
           refine region_inRound (S:=fun w2=>w2.cell? ⟨wc.heap.size,0,none⟩=some (.int .i64 (acc.length:Int)) ∧ w2.cell? ⟨w.heap.size,1,none⟩=some (.func (.func 64) #[] #[]) ∧ w2.cell? ⟨w.heap.size + 1,0,none⟩=some (.slice (some ad) acc.length vc) ∧ w2.cell? (ad.add (k * 3))=some (.int .i64 z.f0) ∧ w2.cell? ⟨(ad.add (k * 3)).block,(ad.add (k * 3)).off + 1,none⟩=some (.int .i64 z.f1) ∧ w2.cell? ⟨(ad.add (k * 3)).block,(ad.add (k * 3)).off + 2,none⟩=some (.slice A6 z.f2.length c6) ∧ w2.cell? ⟨g,0,none⟩=some (.int .i64 y.f0) ∧ w2.cell? ⟨g,1,none⟩=some (.int .i64 y.f1) ∧ w2.cell? ⟨g,2,none⟩=some (.slice A y.f2.length cq)) (by kernel_rfl) (by kernel_rfl) (by rintro ⟨_,_,h⟩;exact h) (hkeep _ hbd) (fun hHeld=>?_)
           refine wpAnyH_take (i:=0) (oi:=?o93) (v:=?v93) ?h93 (by kernel_rfl) (by kernel_rfl) (by kernel_rfl) (fun _ _ _ h=>h) ?y93 hHeld ?_
           case h93=>simp only [xgA,xgS,xgZ];rfl
           case y93=>(refine Or.inl ⟨rfl,?_⟩;intro w hSw;(try dsimp only at hSw);(try go_split_ands);first | (go_simp;done) | (go_simp;with_reducible rfl))
           simp only [Act.put,xsA,xsZ,xsS]
           refine wpAnyH_take (i:=1) (oi:=?o94) (v:=?v94) ?h94 (by kernel_rfl) (by kernel_rfl) (by kernel_rfl) (fun _ _ _ h=>h) ?y94 hHeld ?_
           case h94=>simp only [xgA,xgS,xgZ];rfl
           case y94=>(refine Or.inl ⟨rfl,?_⟩;intro w hSw;(try dsimp only at hSw);(try go_split_ands);first | (go_simp;done) | (go_simp;with_reducible rfl))
           simp only [Act.put,xsA,xsZ,xsS]
           refine wpAnyH_take (i:=2) (oi:=?o95) (v:=?v95) ?h95 (by kernel_rfl) (by kernel_rfl) (by kernel_rfl) (fun _ _ _ h=>h) ?y95 hHeld ?_
           case h95=>simp only [xgA,xgS,xgZ];rfl
           case y95=>(refine Or.inl ⟨rfl,?_⟩;intro w hSw;(try dsimp only at hSw);(try go_split_ands);first | (go_simp;done) | (go_simp;with_reducible rfl))
           simp only [Act.put,xsA,xsZ,xsS]
           refine wpAnyH_take (i:=3) (oi:=?o96) (v:=?v96) ?h96 (by kernel_rfl) (by kernel_rfl) (by kernel_rfl) (fun _ _ _ h=>h) ?y96 hHeld ?_
           case h96=>simp only [xgA,xgS,xgZ];rfl
           case y96=>(refine Or.inl ⟨rfl,?_⟩;intro w hSw;(try dsimp only at hSw);(try go_split_ands);first | (go_simp;done) | (go_simp;with_reducible rfl))
           simp only [Act.put,xsA,xsZ,xsS]
           refine wpAnyH_take (i:=4) (oi:=?o97) (v:=?v97) ?h97 (by kernel_rfl) (by kernel_rfl) (by kernel_rfl) (fun _ _ _ h=>h) ?y97 hHeld ?_
           case h97=>simp only [xgA,xgS,xgZ];rfl
           case y97=>(refine Or.inl ⟨rfl,?_⟩;intro w hSw;(try dsimp only at hSw);(try go_split_ands);first | (go_simp;done) | (go_simp;with_reducible rfl))
           simp only [Act.put,xsA,xsZ,xsS]
           refine wpAnyH_take (i:=5) (oi:=?o98) (v:=?v98) ?h98 (by kernel_rfl) (by kernel_rfl) (by kernel_rfl) (fun _ _ _ h=>h) ?y98 hHeld ?_
           case h98=>simp only [xgA,xgS,xgZ];rfl
           case y98=>(refine Or.inl ⟨rfl,?_⟩;intro w hSw;(try dsimp only at hSw);(try go_split_ands);first | (go_simp;done) | (go_simp;with_reducible rfl))
           simp only [Act.put,xsA,xsZ,xsS]
           refine wpAnyH_take (i:=6) (oi:=?o99) (v:=?v99) ?h99 (by kernel_rfl) (by kernel_rfl) (by kernel_rfl) (fun _ _ _ h=>h) ?y99 hHeld ?_
           case h99=>simp only [xgA,xgS,xgZ];rfl
           case y99=>(refine Or.inl ⟨rfl,?_⟩;intro w hSw;(try dsimp only at hSw);(try go_split_ands);first | (go_simp;done) | (go_simp;with_reducible rfl))
           simp only [Act.put,xsA,xsZ,xsS]
           refine wpAnyH_take (i:=7) (oi:=?o100) (v:=?v100) ?h100 (by kernel_rfl) (by kernel_rfl) (by kernel_rfl) (fun _ _ _ h=>h) ?y100 hHeld ?_
           case h100=>simp only [xgA,xgS,xgZ];rfl
           case y100=>(refine Or.inl ⟨rfl,?_⟩;intro w hSw;(try dsimp only at hSw);(try go_split_ands);first | (go_simp;done) | (go_simp;with_reducible rfl))
           simp only [Act.put,xsA,xsZ,xsS]
           refine wpAnyH_take (i:=8) (oi:=?o101) (v:=?v101) ?h101 (by kernel_rfl) (by kernel_rfl) (by kernel_rfl) (fun _ _ _ h=>h) ?y101 hHeld ?_
           case h101=>simp only [xgA,xgS,xgZ];rfl
           case y101=>(refine Or.inl ⟨rfl,?_⟩;intro w hSw;(try dsimp only at hSw);(try go_split_ands);first | (go_simp;done) | (go_simp;with_reducible rfl))
           simp only [Act.put,xsA,xsZ,xsS]
           refine wpAnyH_take (i:=9) (oi:=?o102) (v:=?v102) ?h102 (by kernel_rfl) (by kernel_rfl) (by kernel_rfl) (fun _ _ _ h=>h) ?y102 hHeld ?_
           case h102=>simp only [xgA,xgS,xgZ];rfl
           case y102=>(refine Or.inl ⟨rfl,?_⟩;intro w hSw;(try dsimp only at hSw);(try go_split_ands);first | (go_simp;done) | (go_simp;with_reducible rfl))
           simp only [Act.put,xsA,xsZ,xsS]
           refine wpAnyH_take (i:=10) (oi:=?o103) (v:=?v103) ?h103 (by kernel_rfl) (by kernel_rfl) (by kernel_rfl) (fun _ _ _ h=>h) ?y103 hHeld ?_
           case h103=>simp only [xgA,xgS,xgZ];rfl
           case y103=>(refine Or.inl ⟨rfl,?_⟩;intro w hSw;(try dsimp only at hSw);(try go_split_ands);first | (go_simp;done) | (go_simp;with_reducible rfl))
           simp only [Act.put,xsA,xsZ,xsS]
           refine wpAnyH_ready (rs:=[11]) (by kernel_rfl) (by simp) ?_
           refine AllReadyH.cons (o:=?oi107) ?ho107 (fun K hK=>?st107) ?mo107
           case ho107=>(simp only [xgA,xgS,xgZ];rfl)
           case st107 =>
            go_simp
            go_at_call 64
            refine hcall.mono ?_
            rintro e w' ⟨rfl,hb⟩
            simp only []
            have hb4':Below W4.heap.size W4 w':=below_step hbd hb
            refine hK.out _ _ (hkeep _ hb4') (fun hHeld=>?_)
            clear hK K
            try simp only [Act.put,xsA,xsZ,xsS]
            refine wpAnyH_take (i:=12) (oi:=?o104) (v:=?v104) ?h104 (by kernel_rfl) (by kernel_rfl) (by kernel_rfl) (fun _ _ _ h=>h) ?y104 hHeld ?_
            case h104=>simp only [xgA,xgS,xgZ];rfl
            case y104=>(refine Or.inl ⟨rfl,?_⟩;intro w hSw;(try dsimp only at hSw);(try go_split_ands);first | (go_simp;done) | (go_simp;with_reducible rfl))
            simp only [Act.put,xsA,xsZ,xsS]
            refine wpAnyH_take (i:=13) (oi:=?o105) (v:=?v105) ?h105 (by kernel_rfl) (by kernel_rfl) (by kernel_rfl) (fun _ _ _ h=>h) ?y105 hHeld ?_
            case h105=>simp only [xgA,xgS,xgZ];rfl
            case y105=>(refine Or.inl ⟨rfl,?_⟩;intro w hSw;(try dsimp only at hSw);(try go_split_ands);first | (go_simp;done) | (go_simp;with_reducible rfl))
            simp only [Act.put,xsA,xsZ,xsS]
            refine wpAnyH_take (i:=14) (oi:=?o106) (v:=?v106) ?h106 (by kernel_rfl) (by kernel_rfl) (by kernel_rfl) (fun _ _ _ h=>h) ?y106 hHeld ?_
            case h106=>simp only [xgA,xgS,xgZ];rfl
            case y106=>(refine Or.inl ⟨rfl,?_⟩;intro w hSw;(try dsimp only at hSw);(try go_split_ands);first | (go_simp;done) | (go_simp;with_reducible rfl))
            simp only [Act.put,xsA,xsZ,xsS]
            refine wpAnyH_done (by kernel_rfl) ?_ _
            clear hHeld hkeep hcall v0 v1 v5 hi6 hl6 hsub k1 k2 k3 u1 u2
            refine then_world (fun W5=>Below W4.heap.size W4 W5) hb4' ?_
            rintro W5 hb5
            have h4s:=hb4.size
            have h5s:=hb5.size
            have hW5:Below W.heap.size W W5:=hb4.trans (hb5.mono hb4.size)
            have hH5:H3G w.heap.size W5 (.slice (some ad) acc.length vc) (.int .i64 0) (.int .i64 0):=⟨(hb5.block _ (by omega)).trans hH4.1,(hb5.block _ (by omega)).trans hH4.2.1,(hb5.block _ (by omega)).trans hH4.2.2⟩
            have h75:=(hb5.block wc.heap.size (by omega)).trans h74
            have hB5:Below w.heap.size w W5:=hB.trans (hW5.mono (by omega))
            clear c1 c2 c3 c7 d1 d2 d3 d7 b0 b1 b2 f0 f1 f2 pa
            have c1:W5.cell? ⟨w.heap.size + 1,0,none⟩=some (.slice (some ad) acc.length vc):=by rw [Lib.cell_of_heap hH5.1];rfl
            have c2:W5.cell? ⟨w.heap.size + 2,0,none⟩=some (.int .i64 0):=by rw [Lib.cell_of_heap hH5.2.1];rfl
            have c3:W5.cell? ⟨w.heap.size + 3,0,none⟩=some (.int .i64 0):=by rw [Lib.cell_of_heap hH5.2.2];rfl
            have c7:W5.cell? ⟨wc.heap.size,0,none⟩=some (.int .i64 (acc.length:Int)):=by rw [Lib.cell_of_heap h75];rfl
            have d1:W5.frozen? ⟨w.heap.size + 1,0,none⟩=false:=Lib.frozen_of_heap hH5.1 0
            have d2:W5.frozen? ⟨w.heap.size + 2,0,none⟩=false:=Lib.frozen_of_heap hH5.2.1 0
            have d3:W5.frozen? ⟨w.heap.size + 3,0,none⟩=false:=Lib.frozen_of_heap hH5.2.2 0
            have hfin:=Aside0.mk (fin_retG hW5 hH5 hB5 (.slice none 0 0) (.int .i64 (acc.length:Int)) (.int .i64 6))
            have hgoE:Aside0 (goG [] (linesOf s)=([],(acc.length:Int),6)):=⟨by rw [hgoS.out,goG,hT.out,if_pos (hec.out.trans hezS.out),if_neg (by rw [hlast.out,← hyS.out];simp only [afterG];rw [hafS.out];exact Bool.false_ne_true)]⟩
            gi_wp2
            gi_region_with_o (fail)
            all_goals (gi_wp2)
            all_goals exact ⟨hfin.out.1,_,_,hgoE.out,hfin.out.2.1,hfin.out.2.2⟩
           case mo107 =>
           exact AllReadyH.nil
        ·have y1:(ec != 0)=true:=bne_iff_ne.2 hez
         have hfin:=Aside0.mk (fin_retG hb4 hH4 hB4 (.slice none 0 0) (.int .i64 (acc.length:Int)) (.int .i64 ec))
         have hgoE:Aside0 (goG [] (linesOf s)=([],(acc.length:Int),ec)):=⟨by rw [hgo,goG,hT.out,if_neg (by rw [hec.out];exact hez),hec.out]⟩
         clear hgo ha' hline htrim hS0
         gi_wp2
         gi_region_with_o (fail)
         all_goals (gi_wp2)
         all_goals exact ⟨hfin.out.1,_,_,hgoE.out,hfin.out.2.1,hfin.out.2.2⟩
       case mo108 =>
       exact AllReadyH.nil
      case mo109 =>
      exact AllReadyH.nil
     case mo110 =>
     exact AllReadyH.nil
    case mo111 =>
    refine AllReadyH.cons (o:=?oi166) ?ho166 (fun K hK=>?st166) ?mo166
    case ho166=>(simp only [xgA,xgS,xgZ];rfl)
    case st166 =>
     go_simp
     refine hK.out _ _ (hS0 _ ((below_drew (Below.refl _ _)).alloc (by show w.heap.size + 1 ≤ W.heap.size;omega) _)) (fun hHeld=>?_)
     clear hK K
     try simp only [Act.put,xsA,xsZ,xsS]
     refine wpAnyH_ready (rs:=[2]) (by kernel_rfl) (by simp) ?_
     refine AllReadyH.cons (o:=?oi165) ?ho165 (fun K hK=>?st165) ?mo165
     case ho165=>(simp only [xgA,xgS,xgZ];rfl)
     case st165 =>
      go_simp
      go_at_call 59
      refine (htrim _).mono ?_
      rintro e w0 ⟨rfl,rfl⟩
      simp only []
      refine hK.out _ _ (hS0 _ ((below_drew (Below.refl _ _)).alloc (by show w.heap.size + 1 ≤ W.heap.size;omega) _)) (fun hHeld=>?_)
      clear hK K
      try simp only [Act.put,xsA,xsZ,xsS]
      refine wpAnyH_ready (rs:=[3]) (by kernel_rfl) (by simp) ?_
      refine AllReadyH.cons (o:=?oi164) ?ho164 (fun K hK=>?st164) ?mo164
      case ho164=>(simp only [xgA,xgS,xgZ];rfl)
      case st164 =>
       go_simp
       go_at_call 68
       have hba:Below W.heap.size W (W.drew.alloc (.cells #[.int .i64 0,.int .i64 0,.slice none 0 0] 37)):=(below_drew (Below.refl _ _)).alloc (Nat.le_refl _) _
       refine (hline _ (hB.trans (hba.mono (by omega)))).mono ?_
       rintro e Wl ⟨y,v',rfl,hR,hy,hb⟩
       obtain ⟨A,nq,cq,rfl⟩:∃ A n c,v'=.slice A n c:=by obtain ⟨A,c,h⟩:=Kd.R_slice hR;exact ⟨A,_,c,h⟩
       simp only []
       have hbq:Below W.heap.size W Wl:=below_step hba hb
       have hbl:Below (w.heap.size + 1) W Wl:=hbq.mono (by omega)
       refine hK.out _ _ (hS0 _ hbl) (fun hHeld=>?_)
       clear hK K
       try simp only [Act.put,xsA,xsZ,xsS]
       have hgA:=(hb.block W.heap.size (by show W.heap.size < (W.drew.heap.push _).size;rw [Array.size_push];exact Nat.lt_succ_self _)).trans (heap_alloc_new W.drew (.cells #[.int .i64 0,.int .i64 0,.slice none 0 0] 37))
       have hRh:Kd.R (Kd.int .i64) 3 Wl W.heap.size (fun k=>W.heap.size ≤ k ∧ k ≠ W.heap.size) (.slice A nq cq) y.f2:=Kd.R_lower (Kd.R_mono (Kd.R_bound hR) (fun k hk=>by have h9:=hk.2.1;rw [World.size_alloc] at h9;exact ⟨by have:W.drew.heap.size=W.heap.size:=rfl;omega,by have:W.drew.heap.size=W.heap.size:=rfl;omega⟩)) hba.size
       have hbg:=hbq
       obtain ⟨g,hg⟩:∃ g,W.heap.size=g:=⟨_,rfl⟩
       have hgW:W.heap.size ≤ g:=by rw [hg];exact Nat.le_refl _
       rw [hg] at hgA ⊢
       have hRg':Kd.R (Kd.int .i64) 3 Wl W.heap.size (fun k=>W.heap.size ≤ k ∧ k ≠ g) (.slice A nq cq) y.f2:=by rw [← hg];exact hRh
       refine wpAnyH_take (i:=4) (oi:=?o112) (v:=?v112) ?h112 (by kernel_rfl) (by kernel_rfl) (by kernel_rfl) (fun _ _ _ h=>h) ?y112 hHeld ?_
       case h112=>simp only [xgA,xgS,xgZ];rfl
       case y112=>(refine Or.inl ⟨rfl,?_⟩;intro w hSw;(try dsimp only at hSw);(try go_split_ands);first | (go_simp;done) | (go_simp;with_reducible rfl))
       simp only [Act.put,xsA,xsZ,xsS]
       refine wpAnyH_take (i:=5) (oi:=?o113) (v:=?v113) ?h113 (by kernel_rfl) (by kernel_rfl) (by kernel_rfl) (fun _ _ _ h=>h) ?y113 hHeld ?_
       case h113=>simp only [xgA,xgS,xgZ];rfl
       case y113=>(refine Or.inl ⟨rfl,?_⟩;intro w hSw;(try dsimp only at hSw);(try go_split_ands);first | (go_simp;done) | (go_simp;with_reducible rfl))
       simp only [Act.put,xsA,xsZ,xsS]
       refine wpAnyH_take (i:=6) (oi:=?o114) (v:=?v114) ?h114 (by kernel_rfl) (by kernel_rfl) (by kernel_rfl) (fun _ _ _ h=>h) ?y114 hHeld ?_
       case h114=>simp only [xgA,xgS,xgZ];rfl
       case y114=>(refine Or.inl ⟨rfl,?_⟩;intro w hSw;(try dsimp only at hSw);(try go_split_ands);first | (go_simp;done) | (go_simp;with_reducible rfl))
       simp only [Act.put,xsA,xsZ,xsS]
       clear hg hR hb hbl
       obtain ⟨b0,b1,b2,f0,f1,f2⟩:=row3 hgA
       have hblg:Below (w.heap.size + 1) W Wl:=hbg.mono (by omega)
       refine wpAnyH_ready (rs:=[8]) (by kernel_rfl) (by simp) ?_
       refine AllReadyH.cons (o:=?oi163) ?ho163 (fun K hK=>?st163) ?mo163
       case ho163=>(simp only [xgA,xgS,xgZ];rfl)
       case st163 =>
        go_simp
        refine hK.out _ _ (hS0 _ (below_sets3 (by omega) hblg)) (fun hHeld=>?_)
        clear hK K
        try simp only [Act.put,xsA,xsZ,xsS]
        refine wpAnyH_take (i:=9) (oi:=?o115) (v:=?v115) ?h115 (by kernel_rfl) (by kernel_rfl) (by kernel_rfl) (fun _ _ _ h=>h) ?y115 hHeld ?_
        case h115=>simp only [xgA,xgS,xgZ];rfl
        case y115=>(refine Or.inl ⟨rfl,?_⟩;intro w hSw;(try dsimp only at hSw);(try go_split_ands);first | (go_simp;done) | (go_simp;with_reducible rfl))
        simp only [Act.put,xsA,xsZ,xsS]
        refine wpAnyH_done (by kernel_rfl) ?_ _
        refine then_world (fun W4=>W4.heap[g]?=some (.cells #[.int .i64 y.f0,.int .i64 y.f1,.slice A nq cq] 37 (0,0)) ∧ Below W.heap.size W W4 ∧ Kd.R (Kd.int .i64) 3 W4 W.heap.size (fun k=>W.heap.size ≤ k ∧ k ≠ g) (.slice A nq cq) y.f2) ⟨row_sets3 ⟨_,hgA,rfl⟩ _ _ _,below_sets3 hgW hbg,far_sets3' (fun k hk=>hk.2) hRg'⟩ ?_
        rintro W4 ⟨hg4,hb4,hR4⟩
        clear b0 b1 b2 f0 f1 f2 hgA hbg hRg' hblg hHeld hbq
        have hP4:=(hb4.block w.heap.size (by omega)).trans hP
        have hH4:H3G w.heap.size W4 v (.int .i64 0) (.int .i64 0):=⟨(hb4.block _ (by omega)).trans hH.1,(hb4.block _ (by omega)).trans hH.2.1,(hb4.block _ (by omega)).trans hH.2.2⟩
        have h74:=(hb4.block wc.heap.size (by omega)).trans h7
        have hS4:=Kd.S_below hS hb4
        have hB4:Below w.heap.size w W4:=hB.trans (hb4.mono (by omega))
        obtain ⟨vA,vn,vc,rfl⟩:∃ A n c,v=.slice A n c:=by obtain ⟨A,c,h⟩:=Kd.S_slice hS;exact ⟨A,_,c,h⟩
        have c1:W4.cell? ⟨w.heap.size + 1,0,none⟩=some (.slice vA vn vc):=by rw [Lib.cell_of_heap hH4.1];rfl
        have c2:W4.cell? ⟨w.heap.size + 2,0,none⟩=some (.int .i64 0):=by rw [Lib.cell_of_heap hH4.2.1];rfl
        have c3:W4.cell? ⟨w.heap.size + 3,0,none⟩=some (.int .i64 0):=by rw [Lib.cell_of_heap hH4.2.2];rfl
        have c7:W4.cell? ⟨wc.heap.size,0,none⟩=some (.int .i64 (acc.length:Int)):=by rw [Lib.cell_of_heap h74];rfl
        have d1:W4.frozen? ⟨w.heap.size + 1,0,none⟩=false:=Lib.frozen_of_heap hH4.1 0
        have d2:W4.frozen? ⟨w.heap.size + 2,0,none⟩=false:=Lib.frozen_of_heap hH4.2.1 0
        have d3:W4.frozen? ⟨w.heap.size + 3,0,none⟩=false:=Lib.frozen_of_heap hH4.2.2 0
        have d7:W4.frozen? ⟨wc.heap.size,0,none⟩=false:=Lib.frozen_of_heap h74 0
        have hmx:Tryz.prog.follows .mixedOrders=true:=by kernel_rfl
        by_cases hez:ec=0
        ·have y1:(ec != 0)=false:=bne_eq_false_iff_eq.2 hez
         have hyS:=Aside0.mk (hy hez)
         have hezS:=Aside0.mk hez
         clear hy hez
         obtain ⟨b0,b1,b2,f0,f1,f2⟩:=row3 hg4
         have pa:W4.cell? ⟨w.heap.size,1,none⟩=some (.func (.func 64) #[] #[]):=by rw [Lib.cell_of_heap hP4];rfl
         have hgoS:=Aside0.mk hgo
         have haS:=Aside0.mk ha'
         clear hgo ha' hline htrim hS0
         gi_wp2
         by_cases hemp:acc.length=0
         ·have u1:decide ((0:Int) < (acc.length:Int))=false:=decide_eq_false (by omega)
          have u2:decide (0 < acc.length)=false:=decide_eq_false (by omega)
          have hempS:=Aside0.mk hemp
          clear hemp
          refine region_inRound (S:=fun w2=>w2.cell? ⟨wc.heap.size,0,none⟩=some (.int .i64 (acc.length:Int))) (by kernel_rfl) (by kernel_rfl) (by rintro ⟨_,_,h⟩;exact h) c7 (fun hHeld=>?_)
          refine wpAnyH_take (i:=0) (oi:=?o116) (v:=?v116) ?h116 (by kernel_rfl) (by kernel_rfl) (by kernel_rfl) (fun _ _ _ h=>h) ?y116 hHeld ?_
          case h116=>simp only [xgA,xgS,xgZ];rfl
          case y116=>(refine Or.inl ⟨rfl,?_⟩;intro w hSw;(try dsimp only at hSw);(try go_split_ands);first | (go_simp;done) | (go_simp;with_reducible rfl))
          simp only [Act.put,xsA,xsZ,xsS]
          refine wpAnyH_take (i:=1) (oi:=?o117) (v:=?v117) ?h117 (by kernel_rfl) (by kernel_rfl) (by kernel_rfl) (fun _ _ _ h=>h) ?y117 hHeld ?_
          case h117=>simp only [xgA,xgS,xgZ];rfl
          case y117=>(refine Or.inl ⟨rfl,?_⟩;intro w hSw;(try dsimp only at hSw);(try go_split_ands);first | (go_simp;done) | (go_simp;with_reducible rfl))
          simp only [Act.put,xsA,xsZ,xsS]
          refine wpAnyH_take (i:=2) (oi:=?o118) (v:=?v118) ?h118 (by kernel_rfl) (by kernel_rfl) (by kernel_rfl) (fun _ _ _ h=>h) ?y118 hHeld ?_
          case h118=>simp only [xgA,xgS,xgZ];rfl
          case y118=>(refine Or.inl ⟨rfl,?_⟩;intro w hSw;(try dsimp only at hSw);(try go_split_ands);first | (go_simp;done) | (go_simp;with_reducible rfl))
          simp only [Act.put,xsA,xsZ,xsS]
          refine wpAnyH_take (i:=3) (oi:=?o119) (v:=undef) ?h119 (by kernel_rfl) (by kernel_rfl) (by kernel_rfl) (fun _ _ _ h=>h) ?y119 hHeld ?_
          case h119=>simp only [xgA,xgS,xgZ];rfl
          case y119=>exact Or.inr ⟨rfl,rfl⟩
          simp only [Act.put,xsA,xsZ,xsS]
          refine wpAnyH_take (i:=4) (oi:=?o120) (v:=undef) ?h120 (by kernel_rfl) (by kernel_rfl) (by kernel_rfl) (fun _ _ _ h=>h) ?y120 hHeld ?_
          case h120=>simp only [xgA,xgS,xgZ];rfl
          case y120=>exact Or.inr ⟨rfl,rfl⟩
          simp only [Act.put,xsA,xsZ,xsS]
          refine wpAnyH_take (i:=5) (oi:=?o121) (v:=undef) ?h121 (by kernel_rfl) (by kernel_rfl) (by kernel_rfl) (fun _ _ _ h=>h) ?y121 hHeld ?_
          case h121=>simp only [xgA,xgS,xgZ];rfl
          case y121=>exact Or.inr ⟨rfl,rfl⟩
          simp only [Act.put,xsA,xsZ,xsS]
          refine wpAnyH_take (i:=6) (oi:=?o122) (v:=undef) ?h122 (by kernel_rfl) (by kernel_rfl) (by kernel_rfl) (fun _ _ _ h=>h) ?y122 hHeld ?_
          case h122=>simp only [xgA,xgS,xgZ];rfl
          case y122=>exact Or.inr ⟨rfl,rfl⟩
          simp only [Act.put,xsA,xsZ,xsS]
          refine wpAnyH_take (i:=7) (oi:=?o123) (v:=undef) ?h123 (by kernel_rfl) (by kernel_rfl) (by kernel_rfl) (fun _ _ _ h=>h) ?y123 hHeld ?_
          case h123=>simp only [xgA,xgS,xgZ];rfl
          case y123=>exact Or.inr ⟨rfl,rfl⟩
          simp only [Act.put,xsA,xsZ,xsS]
          refine wpAnyH_take (i:=8) (oi:=?o124) (v:=undef) ?h124 (by kernel_rfl) (by kernel_rfl) (by kernel_rfl) (fun _ _ _ h=>h) ?y124 hHeld ?_
          case h124=>simp only [xgA,xgS,xgZ];rfl
          case y124=>exact Or.inr ⟨rfl,rfl⟩
          simp only [Act.put,xsA,xsZ,xsS]
          refine wpAnyH_take (i:=9) (oi:=?o125) (v:=undef) ?h125 (by kernel_rfl) (by kernel_rfl) (by kernel_rfl) (fun _ _ _ h=>h) ?y125 hHeld ?_
          case h125=>simp only [xgA,xgS,xgZ];rfl
          case y125=>exact Or.inr ⟨rfl,rfl⟩
          simp only [Act.put,xsA,xsZ,xsS]
          refine wpAnyH_take (i:=10) (oi:=?o126) (v:=undef) ?h126 (by kernel_rfl) (by kernel_rfl) (by kernel_rfl) (fun _ _ _ h=>h) ?y126 hHeld ?_
          case h126=>simp only [xgA,xgS,xgZ];rfl
          case y126=>exact Or.inr ⟨rfl,rfl⟩
          simp only [Act.put,xsA,xsZ,xsS]
          refine wpAnyH_take (i:=11) (oi:=?o127) (v:=undef) ?h127 (by kernel_rfl) (by kernel_rfl) (by kernel_rfl) (fun _ _ _ h=>h) ?y127 hHeld ?_
          case h127=>simp only [xgA,xgS,xgZ];rfl
          case y127=>exact Or.inr ⟨rfl,rfl⟩
          simp only [Act.put,xsA,xsZ,xsS]
          refine wpAnyH_take (i:=12) (oi:=?o128) (v:=undef) ?h128 (by kernel_rfl) (by kernel_rfl) (by kernel_rfl) (fun _ _ _ h=>h) ?y128 hHeld ?_
          case h128=>simp only [xgA,xgS,xgZ];rfl
          case y128=>exact Or.inr ⟨rfl,rfl⟩
          simp only [Act.put,xsA,xsZ,xsS]
          refine wpAnyH_take (i:=13) (oi:=?o129) (v:=?v129) ?h129 (by kernel_rfl) (by kernel_rfl) (by kernel_rfl) (fun _ _ _ h=>h) ?y129 hHeld ?_
          case h129=>simp only [xgA,xgS,xgZ];rfl
          case y129=>(refine Or.inl ⟨rfl,?_⟩;intro w hSw;(try dsimp only at hSw);(try go_split_ands);first | (go_simp;done) | (go_simp;with_reducible rfl))
          simp only [Act.put,xsA,xsZ,xsS]
          refine wpAnyH_take (i:=14) (oi:=?o130) (v:=?v130) ?h130 (by kernel_rfl) (by kernel_rfl) (by kernel_rfl) (fun _ _ _ h=>h) ?y130 hHeld ?_
          case h130=>simp only [xgA,xgS,xgZ];rfl
          case y130=>(refine Or.inl ⟨rfl,?_⟩;intro w hSw;(try dsimp only at hSw);(try go_split_ands);first | (go_simp;done) | (go_simp;with_reducible rfl))
          simp only [Act.put,xsA,xsZ,xsS]
          refine wpAnyH_done (by kernel_rfl) ?_ _
          refine then_world (fun W5=>Below W4.heap.size W4 W5) (below_drew (Below.refl _ _)) ?_
          rintro W5 hb5
          have hgl:g < W4.heap.size:=(Array.getElem?_eq_some_iff.1 hg4).1
          have h4s:=hb4.size
          have h5s:=hb5.size
          have hW5:Below W.heap.size W W5:=hb4.trans (hb5.mono hb4.size)
          have hg5:=(hb5.block g hgl).trans hg4
          have hR5:=Kd.R_below hR4 hb5
          have hH5:H3G w.heap.size W5 (.slice vA vn vc) (.int .i64 0) (.int .i64 0):=⟨(hb5.block _ (by omega)).trans hH4.1,(hb5.block _ (by omega)).trans hH4.2.1,(hb5.block _ (by omega)).trans hH4.2.2⟩
          have h75:=(hb5.block wc.heap.size (by omega)).trans h74
          have hS5:Kd.S k37 37 W5 w.heap.size (fun k=>wc.heap.size + 2 ≤ k ∧ k < W.heap.size) (.slice vA vn vc) acc:=Kd.S_below (Kd.S_below (Kd.S_mono (Kd.S_bound hS) (fun k hk=>⟨hk.1,hk.2.2.1⟩)) hb4) hb5
          have hvl:=Kd.S_lt hS
          have hvb:∀ k,(Value.slice vA vn vc).ownBlock=some k → wc.heap.size + 2 ≤ k:=fun k e=>((Kd.S_R hS).1 k e)
          clear c1 c2 c3 c7 d1 d2 d3 d7 b0 b1 b2 f0 f1 f2 pa
          obtain ⟨b0,b1,b2,f0,f1,f2⟩:=row3 hg5
          have c1:W5.cell? ⟨w.heap.size + 1,0,none⟩=some (.slice vA vn vc):=by rw [Lib.cell_of_heap hH5.1];rfl
          have hwr:IntKind.i64.wrap ((acc.length:Int) + 1)=(acc.length:Int) + 1:=by rw [i64_w];unfold wrap64;omega
          gi_wp2_with (gi_at_builtin;refine listIn_cons (by intro c h;cases h) ?_;refine Kd.S_append_step k37 (w0:=w) w.heap.size rfl (.tmp 63) (.tmp 65) 35 37 (.agg #[(.int .i64 0),(.int .i64 0),(.slice none 0 0)]) 40 rfl Tryz.underlying35 info37 rfl (by decide) (by omega) (.slice vA vn vc) acc y [.int .i64 y.f0,.int .i64 y.f1,.slice A nq cq] (fun k=>wc.heap.size + 2 ≤ k) (fun k=>W.heap.size ≤ k ∧ k ≠ g) rfl rfl ?aP131 ?aK131 ?aF131 ?aO131 ?aB131 ?aS131 ?aL131 ?_;(case aP131=>exact k37_mkM W5 w.heap.size _ y (Kd.R_lower hR5 (by omega)));(case aK131=>exact fun k hk=>⟨by omega,fun e=>by have:=hvl k e.symm;omega⟩);(case aF131=>exact fun k hk=>by omega);(case aO131=>exact Kd.S_mono hS5 (fun k hk=>⟨hk.1,fun h=>by omega⟩));(case aB131=>exact hB.trans (hW5.mono (by omega)));(case aS131=>omega);(case aL131=>omega);intro v1 w1 ho hb1 hg1 hat;obtain ⟨A1,n1,cc1,rfl⟩:∃ A n c,v1=.slice A n c:=(by obtain ⟨A,c,h⟩:=Kd.S_slice ho;exact ⟨A,_,c,h⟩);have hk1:∀ k,k ≤ wc.heap.size → w1.heap[k]?=W5.heap[k]?:=(fun k hk=>hg1.block k (by omega) (fun e=>by have:=hvb k e.symm;omega));have hH6:H3G w.heap.size w1 (.slice vA vn vc) (.int .i64 0) (.int .i64 0):=⟨(hk1 _ (by omega)).trans hH5.1,(hk1 _ (by omega)).trans hH5.2.1,(hk1 _ (by omega)).trans hH5.2.2⟩;have h76:=(hk1 _ (Nat.le_refl _)).trans h75;have e1:w1.cell? ⟨w.heap.size + 1,0,none⟩=some (.slice vA vn vc):=(by rw [Lib.cell_of_heap hH6.1];rfl);have e1f:w1.frozen? ⟨w.heap.size + 1,0,none⟩=false:=Lib.frozen_of_heap hH6.1 0;have e7f:w1.frozen? ⟨wc.heap.size,0,none⟩=false:=Lib.frozen_of_heap h76 0;have h77:(w1.setCell ⟨w.heap.size + 1,0,none⟩ (.slice A1 n1 cc1)).heap[wc.heap.size]?=some (.cells #[.int .i64 (acc.length:Int)] 3 (0,0)):=(Below.heap_setCell w1 ⟨w.heap.size + 1,0,none⟩ _ wc.heap.size (by show wc.heap.size ≠ w.heap.size + 1;omega)).trans h76;have e7:(w1.setCell ⟨w.heap.size + 1,0,none⟩ (.slice A1 n1 cc1)).cell? ⟨wc.heap.size,0,none⟩=some (.int .i64 (acc.length:Int)):=(by rw [Lib.cell_of_heap h77];rfl))
          have hfin:=fin_nextG (m':=(acc.length:Int) + 1) (b:=w.heap.size) (c:=wc.heap.size) (by omega) hZ hP hB hW5 hg1 hH6 h76 ho hvb hvl (Kd.S_typed hS)
          refine ⟨hfin.1,hfin.2.1,acc ++ [y],_,?_,by rw [List.length_append,List.length_append,hlS.out];rfl,hfin.2.2.1,hfin.2.2.2.1,?_,hfin.2.2.2.2.2.1,hfin.2.2.2.2.2.2.1,hfin.2.2.2.2.2.2.2⟩
          ·intro r hr
           rw [haS.out r hr,goG,hT.out,if_pos (hec.out.trans hezS.out),if_pos (by unfold lastFG;rw [List.length_eq_zero_iff.1 hempS.out];rfl),← hyS.out]
          ·have h8:=hfin.2.2.2.2.1
           rw [List.length_append]
           exact h8
         ·have u1:decide ((0:Int) < (acc.length:Int))=true:=decide_eq_true (by omega)
          have u2:decide (0 < acc.length)=true:=decide_eq_true (by omega)
          obtain ⟨k,hk⟩:∃ k,acc.length=k + 1:=⟨acc.length - 1,by omega⟩
          obtain ⟨hvn,hvc,hC⟩:=Kd.R_reads' (Kd.S_R hS4)
          obtain rfl:=hvn
          obtain ⟨ad,A6,c6,hade,v0,v1,v5,hl6,hi6⟩:=at_T37 hC (k:Int) (by omega) (by omega)
          obtain rfl:=hade
          have hsub:IntKind.i64.wrap ((acc.length:Int) - 1)=(k:Int):=by rw [i64_w];unfold wrap64;omega
          have k1:(0 ≤ (k:Int))=True:=eq_true (by omega)
          have k2:((k:Int) < (acc.length:Int))=True:=eq_true (by omega)
          have k3:(k < acc.length)=True:=eq_true (by omega)
          have hlast:Aside0 (lastFG acc=some (rd_T37 acc (k:Int))):=⟨lastFG_at hk⟩
          simp only [Int.toNat_natCast] at v0 v1 v5
          generalize rd_T37 acc (k:Int)=z at v0 v1 v5 hl6 hi6 hlast
          obtain ⟨hnq,hcq,hCy⟩:=Kd.R_reads' hR4
          obtain rfl:=hnq
          have hkS:=Aside0.mk hk
          clear hk hemp
          have hkeep:∀ w2:World,Below W4.heap.size W4 w2 → w2.cell? ⟨wc.heap.size,0,none⟩=some (.int .i64 (acc.length:Int)) ∧ w2.cell? ⟨w.heap.size,1,none⟩=some (.func (.func 64) #[] #[]) ∧ w2.cell? ⟨w.heap.size + 1,0,none⟩=some (.slice (some ad) acc.length vc) ∧ w2.cell? (ad.add (k * 3))=some (.int .i64 z.f0) ∧ w2.cell? ⟨(ad.add (k * 3)).block,(ad.add (k * 3)).off + 1,none⟩=some (.int .i64 z.f1) ∧ w2.cell? ⟨(ad.add (k * 3)).block,(ad.add (k * 3)).off + 2,none⟩=some (.slice A6 z.f2.length c6) ∧ w2.cell? ⟨g,0,none⟩=some (.int .i64 y.f0) ∧ w2.cell? ⟨g,1,none⟩=some (.int .i64 y.f1) ∧ w2.cell? ⟨g,2,none⟩=some (.slice A y.f2.length cq):=fun w2 h6=>⟨keepCell c7 h6,keepCell pa h6,keepCell c1 h6,keepCell v0 h6,keepCell v1 h6,keepCell v5 h6,keepCell b0 h6,keepCell b1 h6,keepCell b2 h6⟩
          have hbd:Below W4.heap.size W4 W4.drew:=below_drew (Below.refl _ _)
          by_cases hzy:afterB z y=true
          ·have haf:afterB z y=true:=hzy
           have hcall:=gaugeAfterC z y true haf A6 c6 A cq W4.drew (Kd.C_below hi6 hbd) hl6 (Kd.C_below hCy hbd) hcq
           have hafS:=Aside0.mk haf
           clear haf hzy
           refine region_inRound (S:=fun w2=>w2.cell? ⟨wc.heap.size,0,none⟩=some (.int .i64 (acc.length:Int)) ∧ w2.cell? ⟨w.heap.size,1,none⟩=some (.func (.func 64) #[] #[]) ∧ w2.cell? ⟨w.heap.size + 1,0,none⟩=some (.slice (some ad) acc.length vc) ∧ w2.cell? (ad.add (k * 3))=some (.int .i64 z.f0) ∧ w2.cell? ⟨(ad.add (k * 3)).block,(ad.add (k * 3)).off + 1,none⟩=some (.int .i64 z.f1) ∧ w2.cell? ⟨(ad.add (k * 3)).block,(ad.add (k * 3)).off + 2,none⟩=some (.slice A6 z.f2.length c6) ∧ w2.cell? ⟨g,0,none⟩=some (.int .i64 y.f0) ∧ w2.cell? ⟨g,1,none⟩=some (.int .i64 y.f1) ∧ w2.cell? ⟨g,2,none⟩=some (.slice A y.f2.length cq)) (by kernel_rfl) (by kernel_rfl) (by rintro ⟨_,_,h⟩;exact h) (hkeep _ hbd) (fun hHeld=>?_)
           refine wpAnyH_take (i:=0) (oi:=?o132) (v:=?v132) ?h132 (by kernel_rfl) (by kernel_rfl) (by kernel_rfl) (fun _ _ _ h=>h) ?y132 hHeld ?_
           case h132=>simp only [xgA,xgS,xgZ];rfl
           case y132=>(refine Or.inl ⟨rfl,?_⟩;intro w hSw;(try dsimp only at hSw);(try go_split_ands);first | (go_simp;done) | (go_simp;with_reducible rfl))
           simp only [Act.put,xsA,xsZ,xsS]
           refine wpAnyH_take (i:=1) (oi:=?o133) (v:=?v133) ?h133 (by kernel_rfl) (by kernel_rfl) (by kernel_rfl) (fun _ _ _ h=>h) ?y133 hHeld ?_
           case h133=>simp only [xgA,xgS,xgZ];rfl
           case y133=>(refine Or.inl ⟨rfl,?_⟩;intro w hSw;(try dsimp only at hSw);(try go_split_ands);first | (go_simp;done) | (go_simp;with_reducible rfl))
           simp only [Act.put,xsA,xsZ,xsS]
           refine wpAnyH_take (i:=2) (oi:=?o134) (v:=?v134) ?h134 (by kernel_rfl) (by kernel_rfl) (by kernel_rfl) (fun _ _ _ h=>h) ?y134 hHeld ?_
           case h134=>simp only [xgA,xgS,xgZ];rfl
           case y134=>(refine Or.inl ⟨rfl,?_⟩;intro w hSw;(try dsimp only at hSw);(try go_split_ands);first | (go_simp;done) | (go_simp;with_reducible rfl))
           simp only [Act.put,xsA,xsZ,xsS]
           refine wpAnyH_take (i:=3) (oi:=?o135) (v:=?v135) ?h135 (by kernel_rfl) (by kernel_rfl) (by kernel_rfl) (fun _ _ _ h=>h) ?y135 hHeld ?_
           case h135=>simp only [xgA,xgS,xgZ];rfl
           case y135=>(refine Or.inl ⟨rfl,?_⟩;intro w hSw;(try dsimp only at hSw);(try go_split_ands);first | (go_simp;done) | (go_simp;with_reducible rfl))
           simp only [Act.put,xsA,xsZ,xsS]
           refine wpAnyH_take (i:=4) (oi:=?o136) (v:=?v136) ?h136 (by kernel_rfl) (by kernel_rfl) (by kernel_rfl) (fun _ _ _ h=>h) ?y136 hHeld ?_
           case h136=>simp only [xgA,xgS,xgZ];rfl
           case y136=>(refine Or.inl ⟨rfl,?_⟩;intro w hSw;(try dsimp only at hSw);(try go_split_ands);first | (go_simp;done) | (go_simp;with_reducible rfl))
           simp only [Act.put,xsA,xsZ,xsS]
           refine wpAnyH_take (i:=5) (oi:=?o137) (v:=?v137) ?h137 (by kernel_rfl) (by kernel_rfl) (by kernel_rfl) (fun _ _ _ h=>h) ?y137 hHeld ?_
           case h137=>simp only [xgA,xgS,xgZ];rfl
           case y137=>(refine Or.inl ⟨rfl,?_⟩;intro w hSw;(try dsimp only at hSw);(try go_split_ands);first | (go_simp;done) | (go_simp;with_reducible rfl))
           simp only [Act.put,xsA,xsZ,xsS]
           refine wpAnyH_take (i:=6) (oi:=?o138) (v:=?v138) ?h138 (by kernel_rfl) (by kernel_rfl) (by kernel_rfl) (fun _ _ _ h=>h) ?y138 hHeld ?_
           case h138=>simp only [xgA,xgS,xgZ];rfl
           case y138=>(refine Or.inl ⟨rfl,?_⟩;intro w hSw;(try dsimp only at hSw);(try go_split_ands);first | (go_simp;done) | (go_simp;with_reducible rfl))
           simp only [Act.put,xsA,xsZ,xsS]
           refine wpAnyH_take (i:=7) (oi:=?o139) (v:=?v139) ?h139 (by kernel_rfl) (by kernel_rfl) (by kernel_rfl) (fun _ _ _ h=>h) ?y139 hHeld ?_
           case h139=>simp only [xgA,xgS,xgZ];rfl
           case y139=>(refine Or.inl ⟨rfl,?_⟩;intro w hSw;(try dsimp only at hSw);(try go_split_ands);first | (go_simp;done) | (go_simp;with_reducible rfl))
           simp only [Act.put,xsA,xsZ,xsS]
           refine wpAnyH_take (i:=8) (oi:=?o140) (v:=?v140) ?h140 (by kernel_rfl) (by kernel_rfl) (by kernel_rfl) (fun _ _ _ h=>h) ?y140 hHeld ?_
           case h140=>simp only [xgA,xgS,xgZ];rfl
           case y140=>(refine Or.inl ⟨rfl,?_⟩;intro w hSw;(try dsimp only at hSw);(try go_split_ands);first | (go_simp;done) | (go_simp;with_reducible rfl))
           simp only [Act.put,xsA,xsZ,xsS]
           refine wpAnyH_take (i:=9) (oi:=?o141) (v:=?v141) ?h141 (by kernel_rfl) (by kernel_rfl) (by kernel_rfl) (fun _ _ _ h=>h) ?y141 hHeld ?_
           case h141=>simp only [xgA,xgS,xgZ];rfl
           case y141=>(refine Or.inl ⟨rfl,?_⟩;intro w hSw;(try dsimp only at hSw);(try go_split_ands);first | (go_simp;done) | (go_simp;with_reducible rfl))
           simp only [Act.put,xsA,xsZ,xsS]
           refine wpAnyH_take (i:=10) (oi:=?o142) (v:=?v142) ?h142 (by kernel_rfl) (by kernel_rfl) (by kernel_rfl) (fun _ _ _ h=>h) ?y142 hHeld ?_
           case h142=>simp only [xgA,xgS,xgZ];rfl
           case y142=>(refine Or.inl ⟨rfl,?_⟩;intro w hSw;(try dsimp only at hSw);(try go_split_ands);first | (go_simp;done) | (go_simp;with_reducible rfl))
           simp only [Act.put,xsA,xsZ,xsS]
           refine wpAnyH_ready (rs:=[11]) (by kernel_rfl) (by simp) ?_
           refine AllReadyH.cons (o:=?oi147) ?ho147 (fun K hK=>?st147) ?mo147
           case ho147=>(simp only [xgA,xgS,xgZ];rfl)
           case st147 =>
            go_simp
            go_at_call 64
            refine hcall.mono ?_
            rintro e w' ⟨rfl,hb⟩
            simp only []
            have hb4':Below W4.heap.size W4 w':=below_step hbd hb
            refine hK.out _ _ (hkeep _ hb4') (fun hHeld=>?_)
            clear hK K
            try simp only [Act.put,xsA,xsZ,xsS]
            refine wpAnyH_take (i:=12) (oi:=?o143) (v:=?v143) ?h143 (by kernel_rfl) (by kernel_rfl) (by kernel_rfl) (fun _ _ _ h=>h) ?y143 hHeld ?_
            case h143=>simp only [xgA,xgS,xgZ];rfl
            case y143=>(refine Or.inl ⟨rfl,?_⟩;intro w hSw;(try dsimp only at hSw);(try go_split_ands);first | (go_simp;done) | (go_simp;with_reducible rfl))
            simp only [Act.put,xsA,xsZ,xsS]
            refine wpAnyH_take (i:=13) (oi:=?o144) (v:=?v144) ?h144 (by kernel_rfl) (by kernel_rfl) (by kernel_rfl) (fun _ _ _ h=>h) ?y144 hHeld ?_
            case h144=>simp only [xgA,xgS,xgZ];rfl
            case y144=>(refine Or.inl ⟨rfl,?_⟩;intro w hSw;(try dsimp only at hSw);(try go_split_ands);first | (go_simp;done) | (go_simp;with_reducible rfl))
            simp only [Act.put,xsA,xsZ,xsS]
            refine wpAnyH_take (i:=14) (oi:=?o145) (v:=?v145) ?h145 (by kernel_rfl) (by kernel_rfl) (by kernel_rfl) (fun _ _ _ h=>h) ?y145 hHeld ?_
            case h145=>simp only [xgA,xgS,xgZ];rfl
            case y145=>(refine Or.inl ⟨rfl,?_⟩;intro w hSw;(try dsimp only at hSw);(try go_split_ands);first | (go_simp;done) | (go_simp;with_reducible rfl))
            simp only [Act.put,xsA,xsZ,xsS]
            refine wpAnyH_done (by kernel_rfl) ?_ _
            clear hHeld hkeep hcall v0 v1 v5 hi6 hl6 hsub k1 k2 k3 u1 u2
            refine then_world (fun W5=>Below W4.heap.size W4 W5) hb4' ?_
            rintro W5 hb5
            have hgl:g < W4.heap.size:=(Array.getElem?_eq_some_iff.1 hg4).1
            have h4s:=hb4.size
            have h5s:=hb5.size
            have hW5:Below W.heap.size W W5:=hb4.trans (hb5.mono hb4.size)
            have hg5:=(hb5.block g hgl).trans hg4
            have hR5:=Kd.R_below hR4 hb5
            have hH5:H3G w.heap.size W5 (.slice (some ad) acc.length vc) (.int .i64 0) (.int .i64 0):=⟨(hb5.block _ (by omega)).trans hH4.1,(hb5.block _ (by omega)).trans hH4.2.1,(hb5.block _ (by omega)).trans hH4.2.2⟩
            have h75:=(hb5.block wc.heap.size (by omega)).trans h74
            have hS5:Kd.S k37 37 W5 w.heap.size (fun k=>wc.heap.size + 2 ≤ k ∧ k < W.heap.size) (.slice (some ad) acc.length vc) acc:=Kd.S_below (Kd.S_below (Kd.S_mono (Kd.S_bound hS) (fun k hk=>⟨hk.1,hk.2.2.1⟩)) hb4) hb5
            have hvl:=Kd.S_lt hS
            have hvb:∀ k,(Value.slice (some ad) acc.length vc).ownBlock=some k → wc.heap.size + 2 ≤ k:=fun k e=>((Kd.S_R hS).1 k e)
            clear c1 c2 c3 c7 d1 d2 d3 d7 b0 b1 b2 f0 f1 f2 pa
            obtain ⟨b0,b1,b2,f0,f1,f2⟩:=row3 hg5
            have c1:W5.cell? ⟨w.heap.size + 1,0,none⟩=some (.slice (some ad) acc.length vc):=by rw [Lib.cell_of_heap hH5.1];rfl
            have hwr:IntKind.i64.wrap ((acc.length:Int) + 1)=(acc.length:Int) + 1:=by rw [i64_w];unfold wrap64;omega
            gi_wp2_with (gi_at_builtin;refine listIn_cons (by intro c h;cases h) ?_;refine Kd.S_append_step k37 (w0:=w) w.heap.size rfl (.tmp 63) (.tmp 65) 35 37 (.agg #[(.int .i64 0),(.int .i64 0),(.slice none 0 0)]) 40 rfl Tryz.underlying35 info37 rfl (by decide) (by omega) (.slice (some ad) acc.length vc) acc y [.int .i64 y.f0,.int .i64 y.f1,.slice A y.f2.length cq] (fun k=>wc.heap.size + 2 ≤ k) (fun k=>W.heap.size ≤ k ∧ k ≠ g) rfl rfl ?aP146 ?aK146 ?aF146 ?aO146 ?aB146 ?aS146 ?aL146 ?_;(case aP146=>exact k37_mkM W5 w.heap.size _ y (Kd.R_lower hR5 (by omega)));(case aK146=>exact fun k hk=>⟨by omega,fun e=>by have:=hvl k e.symm;omega⟩);(case aF146=>exact fun k hk=>by omega);(case aO146=>exact Kd.S_mono hS5 (fun k hk=>⟨hk.1,fun h=>by omega⟩));(case aB146=>exact hB.trans (hW5.mono (by omega)));(case aS146=>omega);(case aL146=>omega);intro v1 w1 ho hb1 hg1 hat;obtain ⟨A1,n1,cc1,rfl⟩:∃ A n c,v1=.slice A n c:=(by obtain ⟨A,c,h⟩:=Kd.S_slice ho;exact ⟨A,_,c,h⟩);have hk1:∀ k,k ≤ wc.heap.size → w1.heap[k]?=W5.heap[k]?:=(fun k hk=>hg1.block k (by omega) (fun e=>by have:=hvb k e.symm;omega));have hH6:H3G w.heap.size w1 (.slice (some ad) acc.length vc) (.int .i64 0) (.int .i64 0):=⟨(hk1 _ (by omega)).trans hH5.1,(hk1 _ (by omega)).trans hH5.2.1,(hk1 _ (by omega)).trans hH5.2.2⟩;have h76:=(hk1 _ (Nat.le_refl _)).trans h75;have e1:w1.cell? ⟨w.heap.size + 1,0,none⟩=some (.slice (some ad) acc.length vc):=(by rw [Lib.cell_of_heap hH6.1];rfl);have e1f:w1.frozen? ⟨w.heap.size + 1,0,none⟩=false:=Lib.frozen_of_heap hH6.1 0;have e7f:w1.frozen? ⟨wc.heap.size,0,none⟩=false:=Lib.frozen_of_heap h76 0;have h77:(w1.setCell ⟨w.heap.size + 1,0,none⟩ (.slice A1 n1 cc1)).heap[wc.heap.size]?=some (.cells #[.int .i64 (acc.length:Int)] 3 (0,0)):=(Below.heap_setCell w1 ⟨w.heap.size + 1,0,none⟩ _ wc.heap.size (by show wc.heap.size ≠ w.heap.size + 1;omega)).trans h76;have e7:(w1.setCell ⟨w.heap.size + 1,0,none⟩ (.slice A1 n1 cc1)).cell? ⟨wc.heap.size,0,none⟩=some (.int .i64 (acc.length:Int)):=(by rw [Lib.cell_of_heap h77];rfl))
            have hfin:=fin_nextG (m':=(acc.length:Int) + 1) (b:=w.heap.size) (c:=wc.heap.size) (by omega) hZ hP hB hW5 hg1 hH6 h76 ho hvb hvl (Kd.S_typed hS)
            refine ⟨hfin.1,hfin.2.1,acc ++ [y],_,?_,by rw [List.length_append,List.length_append,hlS.out];rfl,hfin.2.2.1,hfin.2.2.2.1,?_,hfin.2.2.2.2.2.1,hfin.2.2.2.2.2.2.1,hfin.2.2.2.2.2.2.2⟩
            ·intro r hr
             rw [haS.out r hr,goG,hT.out,if_pos (hec.out.trans hezS.out),if_pos (by rw [hlast.out,← hyS.out];exact hafS.out),← hyS.out]
            ·have h8:=hfin.2.2.2.2.1
             rw [List.length_append]
             exact h8
           case mo147 =>
           exact AllReadyH.nil
          ·have haf:afterB z y=false:=Bool.eq_false_iff.2 hzy
           have hcall:=gaugeAfterC z y false haf A6 c6 A cq W4.drew (Kd.C_below hi6 hbd) hl6 (Kd.C_below hCy hbd) hcq
           have hafS:=Aside0.mk haf
           clear haf hzy
           refine region_inRound (S:=fun w2=>w2.cell? ⟨wc.heap.size,0,none⟩=some (.int .i64 (acc.length:Int)) ∧ w2.cell? ⟨w.heap.size,1,none⟩=some (.func (.func 64) #[] #[]) ∧ w2.cell? ⟨w.heap.size + 1,0,none⟩=some (.slice (some ad) acc.length vc) ∧ w2.cell? (ad.add (k * 3))=some (.int .i64 z.f0) ∧ w2.cell? ⟨(ad.add (k * 3)).block,(ad.add (k * 3)).off + 1,none⟩=some (.int .i64 z.f1) ∧ w2.cell? ⟨(ad.add (k * 3)).block,(ad.add (k * 3)).off + 2,none⟩=some (.slice A6 z.f2.length c6) ∧ w2.cell? ⟨g,0,none⟩=some (.int .i64 y.f0) ∧ w2.cell? ⟨g,1,none⟩=some (.int .i64 y.f1) ∧ w2.cell? ⟨g,2,none⟩=some (.slice A y.f2.length cq)) (by kernel_rfl) (by kernel_rfl) (by rintro ⟨_,_,h⟩;exact h) (hkeep _ hbd) (fun hHeld=>?_)
           refine wpAnyH_take (i:=0) (oi:=?o148) (v:=?v148) ?h148 (by kernel_rfl) (by kernel_rfl) (by kernel_rfl) (fun _ _ _ h=>h) ?y148 hHeld ?_
           case h148=>simp only [xgA,xgS,xgZ];rfl
           case y148=>(refine Or.inl ⟨rfl,?_⟩;intro w hSw;(try dsimp only at hSw);(try go_split_ands);first | (go_simp;done) | (go_simp;with_reducible rfl))
           simp only [Act.put,xsA,xsZ,xsS]
           refine wpAnyH_take (i:=1) (oi:=?o149) (v:=?v149) ?h149 (by kernel_rfl) (by kernel_rfl) (by kernel_rfl) (fun _ _ _ h=>h) ?y149 hHeld ?_
           case h149=>simp only [xgA,xgS,xgZ];rfl
           case y149=>(refine Or.inl ⟨rfl,?_⟩;intro w hSw;(try dsimp only at hSw);(try go_split_ands);first | (go_simp;done) | (go_simp;with_reducible rfl))
           simp only [Act.put,xsA,xsZ,xsS]
           refine wpAnyH_take (i:=2) (oi:=?o150) (v:=?v150) ?h150 (by kernel_rfl) (by kernel_rfl) (by kernel_rfl) (fun _ _ _ h=>h) ?y150 hHeld ?_
           case h150=>simp only [xgA,xgS,xgZ];rfl
           case y150=>(refine Or.inl ⟨rfl,?_⟩;intro w hSw;(try dsimp only at hSw);(try go_split_ands);first | (go_simp;done) | (go_simp;with_reducible rfl))
           simp only [Act.put,xsA,xsZ,xsS]
           refine wpAnyH_take (i:=3) (oi:=?o151) (v:=?v151) ?h151 (by kernel_rfl) (by kernel_rfl) (by kernel_rfl) (fun _ _ _ h=>h) ?y151 hHeld ?_
           case h151=>simp only [xgA,xgS,xgZ];rfl
           case y151=>(refine Or.inl ⟨rfl,?_⟩;intro w hSw;(try dsimp only at hSw);(try go_split_ands);first | (go_simp;done) | (go_simp;with_reducible rfl))
           simp only [Act.put,xsA,xsZ,xsS]
           refine wpAnyH_take (i:=4) (oi:=?o152) (v:=?v152) ?h152 (by kernel_rfl) (by kernel_rfl) (by kernel_rfl) (fun _ _ _ h=>h) ?y152 hHeld ?_
           case h152=>simp only [xgA,xgS,xgZ];rfl
           case y152=>(refine Or.inl ⟨rfl,?_⟩;intro w hSw;(try dsimp only at hSw);(try go_split_ands);first | (go_simp;done) | (go_simp;with_reducible rfl))
           simp only [Act.put,xsA,xsZ,xsS]
           refine wpAnyH_take (i:=5) (oi:=?o153) (v:=?v153) ?h153 (by kernel_rfl) (by kernel_rfl) (by kernel_rfl) (fun _ _ _ h=>h) ?y153 hHeld ?_
           case h153=>simp only [xgA,xgS,xgZ];rfl
           case y153=>(refine Or.inl ⟨rfl,?_⟩;intro w hSw;(try dsimp only at hSw);(try go_split_ands);first | (go_simp;done) | (go_simp;with_reducible rfl))
           simp only [Act.put,xsA,xsZ,xsS]
           refine wpAnyH_take (i:=6) (oi:=?o154) (v:=?v154) ?h154 (by kernel_rfl) (by kernel_rfl) (by kernel_rfl) (fun _ _ _ h=>h) ?y154 hHeld ?_
           case h154=>simp only [xgA,xgS,xgZ];rfl
           case y154=>(refine Or.inl ⟨rfl,?_⟩;intro w hSw;(try dsimp only at hSw);(try go_split_ands);first | (go_simp;done) | (go_simp;with_reducible rfl))
           simp only [Act.put,xsA,xsZ,xsS]
           refine wpAnyH_take (i:=7) (oi:=?o155) (v:=?v155) ?h155 (by kernel_rfl) (by kernel_rfl) (by kernel_rfl) (fun _ _ _ h=>h) ?y155 hHeld ?_
           case h155=>simp only [xgA,xgS,xgZ];rfl
           case y155=>(refine Or.inl ⟨rfl,?_⟩;intro w hSw;(try dsimp only at hSw);(try go_split_ands);first | (go_simp;done) | (go_simp;with_reducible rfl))
           simp only [Act.put,xsA,xsZ,xsS]
           refine wpAnyH_take (i:=8) (oi:=?o156) (v:=?v156) ?h156 (by kernel_rfl) (by kernel_rfl) (by kernel_rfl) (fun _ _ _ h=>h) ?y156 hHeld ?_
           case h156=>simp only [xgA,xgS,xgZ];rfl
           case y156=>(refine Or.inl ⟨rfl,?_⟩;intro w hSw;(try dsimp only at hSw);(try go_split_ands);first | (go_simp;done) | (go_simp;with_reducible rfl))
           simp only [Act.put,xsA,xsZ,xsS]
           refine wpAnyH_take (i:=9) (oi:=?o157) (v:=?v157) ?h157 (by kernel_rfl) (by kernel_rfl) (by kernel_rfl) (fun _ _ _ h=>h) ?y157 hHeld ?_
           case h157=>simp only [xgA,xgS,xgZ];rfl
           case y157=>(refine Or.inl ⟨rfl,?_⟩;intro w hSw;(try dsimp only at hSw);(try go_split_ands);first | (go_simp;done) | (go_simp;with_reducible rfl))
           simp only [Act.put,xsA,xsZ,xsS]
           refine wpAnyH_take (i:=10) (oi:=?o158) (v:=?v158) ?h158 (by kernel_rfl) (by kernel_rfl) (by kernel_rfl) (fun _ _ _ h=>h) ?y158 hHeld ?_
           case h158=>simp only [xgA,xgS,xgZ];rfl
           case y158=>(refine Or.inl ⟨rfl,?_⟩;intro w hSw;(try dsimp only at hSw);(try go_split_ands);first | (go_simp;done) | (go_simp;with_reducible rfl))
           simp only [Act.put,xsA,xsZ,xsS]
           refine wpAnyH_ready (rs:=[11]) (by kernel_rfl) (by simp) ?_
           refine AllReadyH.cons (o:=?oi162) ?ho162 (fun K hK=>?st162) ?mo162
           case ho162=>(simp only [xgA,xgS,xgZ];rfl)
           case st162 =>
            go_simp
            go_at_call 64
            refine hcall.mono ?_
            rintro e w' ⟨rfl,hb⟩
            simp only []
            have hb4':Below W4.heap.size W4 w':=below_step hbd hb
            refine hK.out _ _ (hkeep _ hb4') (fun hHeld=>?_)
            clear hK K
            try simp only [Act.put,xsA,xsZ,xsS]
            refine wpAnyH_take (i:=12) (oi:=?o159) (v:=?v159) ?h159 (by kernel_rfl) (by kernel_rfl) (by kernel_rfl) (fun _ _ _ h=>h) ?y159 hHeld ?_
            case h159=>simp only [xgA,xgS,xgZ];rfl
            case y159=>(refine Or.inl ⟨rfl,?_⟩;intro w hSw;(try dsimp only at hSw);(try go_split_ands);first | (go_simp;done) | (go_simp;with_reducible rfl))
            simp only [Act.put,xsA,xsZ,xsS]
            refine wpAnyH_take (i:=13) (oi:=?o160) (v:=?v160) ?h160 (by kernel_rfl) (by kernel_rfl) (by kernel_rfl) (fun _ _ _ h=>h) ?y160 hHeld ?_
            case h160=>simp only [xgA,xgS,xgZ];rfl
            case y160=>(refine Or.inl ⟨rfl,?_⟩;intro w hSw;(try dsimp only at hSw);(try go_split_ands);first | (go_simp;done) | (go_simp;with_reducible rfl))
            simp only [Act.put,xsA,xsZ,xsS]
            refine wpAnyH_take (i:=14) (oi:=?o161) (v:=?v161) ?h161 (by kernel_rfl) (by kernel_rfl) (by kernel_rfl) (fun _ _ _ h=>h) ?y161 hHeld ?_
            case h161=>simp only [xgA,xgS,xgZ];rfl
            case y161=>(refine Or.inl ⟨rfl,?_⟩;intro w hSw;(try dsimp only at hSw);(try go_split_ands);first | (go_simp;done) | (go_simp;with_reducible rfl))
            simp only [Act.put,xsA,xsZ,xsS]
            refine wpAnyH_done (by kernel_rfl) ?_ _
            clear hHeld hkeep hcall v0 v1 v5 hi6 hl6 hsub k1 k2 k3 u1 u2
            refine then_world (fun W5=>Below W4.heap.size W4 W5) hb4' ?_
            rintro W5 hb5
            have h4s:=hb4.size
            have h5s:=hb5.size
            have hW5:Below W.heap.size W W5:=hb4.trans (hb5.mono hb4.size)
            have hH5:H3G w.heap.size W5 (.slice (some ad) acc.length vc) (.int .i64 0) (.int .i64 0):=⟨(hb5.block _ (by omega)).trans hH4.1,(hb5.block _ (by omega)).trans hH4.2.1,(hb5.block _ (by omega)).trans hH4.2.2⟩
            have h75:=(hb5.block wc.heap.size (by omega)).trans h74
            have hB5:Below w.heap.size w W5:=hB.trans (hW5.mono (by omega))
            clear c1 c2 c3 c7 d1 d2 d3 d7 b0 b1 b2 f0 f1 f2 pa
            have c1:W5.cell? ⟨w.heap.size + 1,0,none⟩=some (.slice (some ad) acc.length vc):=by rw [Lib.cell_of_heap hH5.1];rfl
            have c2:W5.cell? ⟨w.heap.size + 2,0,none⟩=some (.int .i64 0):=by rw [Lib.cell_of_heap hH5.2.1];rfl
            have c3:W5.cell? ⟨w.heap.size + 3,0,none⟩=some (.int .i64 0):=by rw [Lib.cell_of_heap hH5.2.2];rfl
            have c7:W5.cell? ⟨wc.heap.size,0,none⟩=some (.int .i64 (acc.length:Int)):=by rw [Lib.cell_of_heap h75];rfl
            have d1:W5.frozen? ⟨w.heap.size + 1,0,none⟩=false:=Lib.frozen_of_heap hH5.1 0
            have d2:W5.frozen? ⟨w.heap.size + 2,0,none⟩=false:=Lib.frozen_of_heap hH5.2.1 0
            have d3:W5.frozen? ⟨w.heap.size + 3,0,none⟩=false:=Lib.frozen_of_heap hH5.2.2 0
            have hfin:=Aside0.mk (fin_retG hW5 hH5 hB5 (.slice none 0 0) (.int .i64 (acc.length:Int)) (.int .i64 6))
            have hgoE:Aside0 (goG [] (linesOf s)=([],(acc.length:Int),6)):=⟨by rw [hgoS.out,goG,hT.out,if_pos (hec.out.trans hezS.out),if_neg (by rw [hlast.out,← hyS.out];simp only [afterG];rw [hafS.out];exact Bool.false_ne_true)]⟩
            gi_wp2
            gi_region_with_o (fail)
            all_goals (gi_wp2)
            all_goals exact ⟨hfin.out.1,_,_,hgoE.out,hfin.out.2.1,hfin.out.2.2⟩
           case mo162 =>
           exact AllReadyH.nil
        ·have y1:(ec != 0)=true:=bne_iff_ne.2 hez
         have hfin:=Aside0.mk (fin_retG hb4 hH4 hB4 (.slice none 0 0) (.int .i64 (acc.length:Int)) (.int .i64 ec))
         have hgoE:Aside0 (goG [] (linesOf s)=([],(acc.length:Int),ec)):=⟨by rw [hgo,goG,hT.out,if_neg (by rw [hec.out];exact hez),hec.out]⟩
         clear hgo ha' hline htrim hS0
         gi_wp2
         gi_region_with_o (fail)
         all_goals (gi_wp2)
         all_goals exact ⟨hfin.out.1,_,_,hgoE.out,hfin.out.2.1,hfin.out.2.2⟩
       case mo163 =>
       exact AllReadyH.nil
      case mo164 =>
      exact AllReadyH.nil
     case mo165 =>
     exact AllReadyH.nil
    case mo166 =>
    exact AllReadyH.nil
end Go.Proofs.Lg
