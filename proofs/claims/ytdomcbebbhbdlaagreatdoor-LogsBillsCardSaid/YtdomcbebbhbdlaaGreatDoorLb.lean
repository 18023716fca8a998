/- The program's reader of a line. Conditions: texts of at most a million bytes. -/
import Derived.Test.YtdomcbebbhbdlaaGreatDoorLa
import Derived.RangeFuncNested
import Derived.RangeFuncBound
import Derived.RangeFuncCalls
import Derived.RangeFuncLeaves
import Derived.RangeFuncKeeps
import Derived.OwnWalkIn
import Derived.TacticsInMore
import Derived.LoopNIn
import Derived.LoopIn
import Derived.Deep.RegionHeld3
import Derived.RangeFuncBox
import Derived.Deep.CutRange
import Derived.Shelf.RegionOpen
import Derived.Test.YtdomcbebbhbdlaaGreatDoorAw
import Derived.Lib.PathFns
import Derived.Lib.SplitLaws
import Derived.Laws.ResultCell
set_option linter.unusedSimpArgs false
set_option linter.unusedVariables false
namespace Go.Proofs.Lg
open Go.RowKit Go.Proofs.YtdomcbebbhbdlaaGreatDoorW.PrintWords Go.Proofs.YtdomcbebbhbdlaaGreatDoorW.PrintLast Go.Proofs.YtdomcbebbhbdlaaGreatDoorW.PrintMore Go.Proofs.YtdomcbebbhbdlaaGreatDoor.PLogsBills
def numOf (s : ByteArray) : Int := match Lib.atoiAll s.data.toList with | .ok v => v | _ => -1
theorem atoi (s : ByteArray) (hs : s.size ≤ 1000000) (w : World) (hw : Base w) :
  Calls Tryz.prog 67 #[.string s] w fun e w' => (∃ v a, e = .returned (.tuple #[.int .i64 v, a]) ∧ ((a = .nilIface ∧ numOf s = v) ∨ (∃ q, a = .iface 173 (.pointer (some q)) ∧ numOf s = -1))) ∧ Below w.heap.size w w' := by
 cases h : Lib.atoiAll s.data.toList with
 | ok v =>
  refine (Tryz.strconv_Atoi_ok s (by omega) v h w).mono ?_
  rintro e w' ⟨rfl, hw'⟩
  refine ⟨⟨v, _, rfl, .inl ⟨rfl, by unfold numOf; rw [h]⟩⟩, ?_⟩
  rcases hw' with rfl | ⟨t, rfl⟩
  ·exact Below.refl _ _
  ·exact bytes_below (Below.refl _ _) (Nat.le_refl _) 5 t
 | range =>
  obtain ⟨tp, p, hc⟩ := hw.rng
  refine (Tryz.strconv_Atoi_range s (by omega) h _ w hc (.inr ⟨_, _, rfl⟩)).mono ?_
  rintro e w' ⟨N, rfl, h1, h2, h3⟩
  exact ⟨⟨_, _, rfl, .inr ⟨_, rfl, by unfold numOf; rw [h]⟩⟩, h3⟩
 | _ =>
  obtain ⟨tp, p, hc⟩ := hw.syn
  refine (Tryz.strconv_Atoi_syntax s (by omega) h _ w hc (.inr ⟨_, _, rfl⟩)).mono ?_
  rintro e w' ⟨N, rfl, h1, h2, h3⟩
  exact ⟨⟨_, _, rfl, .inr ⟨_, rfl, by unfold numOf; rw [h]⟩⟩, h3⟩
set_option maxHeartbeats 8000000 in
set_option maxRecDepth 100000 in
theorem number51 (s : ByteArray) (hs : s.size ≤ 1000000) (w : World) (hw : Base w) :
  Calls Tryz.prog 51 #[.string s] w fun e w' => e = .returned (.int .i64 (numOf s)) ∧ Below w.heap.size w w' := by
 go_enter Tryz.func51, Tryz.ntmps51
 go_upto_region 2 with (go_at_call 67; refine (atoi s hs _ hw).mono ?_; rintro e w' ⟨⟨v, a, rfl, ha⟩, hb⟩)
 rcases ha with ⟨rfl, hn⟩ | ⟨q, rfl, hn⟩
 ·go_wp2
  go_ret
  exact ⟨by rw [hn]; rfl, hb⟩
 ·go_wp2
  go_ret
  exact ⟨by rw [hn]; rfl, hb⟩
end Go.Proofs.Lg
namespace Go.Proofs.Lg
open Go.RowKit
theorem grown_none_alloc2 (w : World) (o o' : Obj) : w.grownBy ((w.alloc o).alloc o') none := by
 have h : Below w.heap.size w ((w.alloc o).alloc o') := ((Below.refl _ w).alloc (Nat.le_refl _) o).alloc (by simp) o'
 exact ⟨h.os, h.tape, h.output, h.size, fun k hk _ => h.block k hk⟩
def KeepZ (Z : Nat → Prop) (J : List ByteArray → World → Prop) : Prop :=
 ∀ s W W' row, J s W → W.grownBy W' row → (∀ r, row = some r → Z r) → J s W'
def KeepL (Z : Nat → Prop) (B : Nat) (J : List ByteArray → World → Prop) : Prop :=
 ∀ s W W' row, J s W → W.grownBy W' row → (∀ r, row = some r → Z r ∨ (B ≤ r ∧ ∃ o : Obj, W.heap[r]? = some o ∧ o.isCells = false)) → J s W'
def RoundKeeps (Z : Nat → Prop) (W W' : World) : Prop := W.heap.size ≤ W'.heap.size ∧ ∀ k, Z k → W'.heap[k]? = W.heap[k]?
def SeqZ (F : Fence) (n : Nat) (P : Program) (g : Nat) (lb : Array Value) (Z : Nat → Prop) (xs : List ByteArray) (w : World) : Prop :=
 ∀ (l : Nat) (J Jx : List ByteArray → World → Prop) (W : World), RoundKeeps Z w W → KeepZ Z J → KeepZ Z Jx →
  (∀ pre x W1, J pre W1 → (pre ++ [x]) <+: xs → YieldAt F (n - 1) P l #[.string x] W1 fun e W' =>
   (e = .returned (.bool true) ∧ J (pre ++ [x]) W' ∧ RoundKeeps Z W1 W') ∨ (e = .returned (.bool false) ∧ Jx (pre ++ [x]) W')) →
  J [] W →
  CallsIn F n P g (#[.func (.yield l) #[] #[]] ++ lb) W fun e W' => (∃ v, e = .returned v) ∧ (J xs W' ∨ (∃ pre, pre <+: xs ∧ Jx pre W'))
def roundPostZ (Z : Nat → Prop) (I Ix : List ByteArray → World → Prop) (xs : List ByteArray) (W : World) : Exit → Act → World → Prop
 | .normal, _, W' => KeepsOthers W W' ∧ RoundKeeps Z W W' ∧ I xs W'
 | .ret, _, W' => KeepsOthers W W' ∧ Ix xs W'
 | _, _, _ => False
variable {F : Fence} {n : Nat} {P : Program}
theorem range_z {g : Operand} {ps : Array Tmp} {assign body : Code} {Q : Exit → Act → World → Prop} {a : Act} {w : World}
  (hro : F.round = none) (h1 : 1 ≤ n) {gf : Nat} {lb : Array Value} (hg : a.eval g = .func (.func gf) #[] lb) (hFg : F.fn gf) (eg : ∀ args w, (callFunc gf args).run P w = .ok (.enter gf args) w)
  {Z : Nat → Prop} (hZ : ∀ k, Z k → k < w.heap.size) {xs : List ByteArray} (hseq : SeqZ F (n - 1) P gf lb Z xs w) (hps : ps.size = 1)
  (I Ix : List ByteArray → World → Prop) (hI : KeepL Z w.heap.size I) (hIx : KeepL Z w.heap.size Ix) (h0 : I [] w) (a₁ : ByteArray → Act)
  (hassign : ∀ (l : Nat) (x : ByteArray) (W : World) (K : Act → World → Prop), K (a₁ x) W →
   assign.wpIn (F.inRound l) (n - 1 - 1) P (Exit.then K (fun _ _ _ => False)) { tmps := (ps.zip #[Value.string x]).foldl (fun t (p, v) => t.setIfInBounds p v) a.tmps, defers := [] } W)
  (hbody : ∀ (l : Nat) (pre : List ByteArray) (x : ByteArray) (W : World), I pre W → (pre ++ [x]) <+: xs → body.wpIn (F.inRound l) (n - 1 - 1) P (roundPostZ Z I Ix (pre ++ [x]) W) (a₁ x) W)
  (hdone : ∀ (D : Nat) (W : World), w.heap.size ≤ D → I xs W → W.heap[D]? = some (.deferred (some [])) → Q .normal { a with defers := { target := .collected D, args := #[] } :: a.defers } W)
  (hstop : ∀ (D : Nat) (pre : List ByteArray) (W : World), w.heap.size ≤ D → pre <+: xs → Ix pre W → W.heap[D]? = some (.deferred (some [])) → Code.ret.wpIn F n P Q { a with defers := { target := .collected D, args := #[] } :: a.defers } W) :
  (Code.rangeFunc g ps assign body).wpIn F n P Q a w := by
 refine wpIn_rangeFunc ?_
 intro fn hfn
 rw [hro]
 obtain ⟨rec, hrec⟩ : ∃ rec : LoopState → Option Code → Loop, rec = fun st pe => { state := st, pending := pe, fn, tmps := a.tmps, params := ps, assign, body, defers := w.heap.size } := ⟨_, rfl⟩
 obtain ⟨W1, hW1⟩ : ∃ W1, (w.alloc (.deferred (some []))).alloc (.loop (rec .ready none)) = W1 := ⟨_, rfl⟩
 have hL1 : W1.heap[w.heap.size + 1]? = some (.loop (rec .ready none)) := by
  have := World.alloc_heap_new (w.alloc (.deferred (some []))) (.loop (rec .ready none))
  rw [World.size_alloc] at this
  rw [← hW1]
  exact this
 have hD1 : W1.heap[w.heap.size]? = some (.deferred (some [])) := by
  rw [← hW1]
  exact (Below.heap_alloc _ _ _ (by simp)).trans (World.alloc_heap_new w _)
 have hg1 : w.grownBy W1 none := by
  rw [← hW1]
  exact grown_none_alloc2 w _ _
 have hZ1 : RoundKeeps Z w W1 := ⟨hg1.size, fun k hk => hg1.block k (hZ k hk) (by simp)⟩
 have hzr : ∀ r, Z r → r ≠ w.heap.size ∧ r ≠ w.heap.size + 1 := fun r hr => by have := hZ r hr; omega
 have hkeep : ∀ {A B : World} {row : Option Nat} {k : Nat} {o : Obj}, A.grownBy B row → (∀ r, row = some r → Z r) → (k = w.heap.size ∨ k = w.heap.size + 1) → A.heap[k]? = some o → B.heap[k]? = some o := by
  intro A B row k o hgr hr hk ho
  refine (hgr.block k (Array.getElem?_eq_some_iff.1 ho).1 ?_).trans ho
  intro e
  have := hzr k (hr k e.symm)
  omega
 refine ⟨w.heap.size + 1, [{ target := .collected w.heap.size, args := #[] }], W1, { target := .fn (.func gf) lb, args := #[.func (.yield (w.heap.size + 1)) #[] #[]] }, W1, gf,
  #[.func (.yield (w.heap.size + 1)) #[] #[]] ++ lb, W1, ?_, ?_, ?_, ?_, fun _ => h1, ?_⟩
 ·rw [← hW1, hrec]; exact run_enterLoop_outer _ _ _ _ _
 ·simp only [resolve, hg]
  simp [go_sem]
 ·intro f' hf'; simp [Target.leads] at hf'; subst hf'; exact hFg
 ·simp [invoke, go_sem, eg]
 ·refine (hseq (w.heap.size + 1)
   (fun pre W => I pre W ∧ W.heap[w.heap.size + 1]? = some (.loop (rec .ready none)) ∧ W.heap[w.heap.size]? = some (.deferred (some [])))
   (fun pre W => Ix pre W ∧ W.heap[w.heap.size + 1]? = some (.loop (rec .done (some .ret))) ∧ W.heap[w.heap.size]? = some (.deferred (some [])))
   W1 hZ1
   (fun s A B row hs hgr hr => ⟨hI s A B row hs.1 hgr (fun r e => .inl (hr r e)), hkeep hgr hr (.inr rfl) hs.2.1, hkeep hgr hr (.inl rfl) hs.2.2⟩)
   (fun s A B row hs hgr hr => ⟨hIx s A B row hs.1 hgr (fun r e => .inl (hr r e)), hkeep hgr hr (.inr rfl) hs.2.1, hkeep hgr hr (.inl rfl) hs.2.2⟩)
   ?_ ⟨hI [] w W1 none h0 hg1 (by simp), hL1, hD1⟩).mono ?_
  ·rintro pre x W ⟨hi, hl, hk⟩ hlen
   have hlt : w.heap.size + 1 < W.heap.size := (Array.getElem?_eq_some_iff.1 hl).1
   have hput : ∀ {J : List ByteArray → World → Prop} {s : List ByteArray} {A : World} {o : Obj} (o' : Obj), KeepL Z w.heap.size J → J s A → A.heap[w.heap.size + 1]? = some o → o.isCells = false → J s (A.putObj (w.heap.size + 1) o') := by
    intro J s A o o' hJ hs ho hc
    exact hJ s A _ (some (w.heap.size + 1)) hs (grownBy_putObj' A (w.heap.size + 1) o') (fun r e => by cases e; exact .inr ⟨by omega, o, ho, hc⟩)
   have hputZ : ∀ (A : World) (o' : Obj), RoundKeeps Z A (A.putObj (w.heap.size + 1) o') := fun A o' => ⟨by simp, fun k hk => World.putObj_heap_other (hzr k hk).2⟩
   have hy := run_yield (P := P) (args := #[.string x]) hl (by rw [hrec]; exact hps.symm)
   rw [hrec] at hy
   refine ⟨fn, _, assign, body, hy, roundIn_of_wpIn hfn (hassign _ x W _ ⟨_, run_beginRound hl (by rw [hrec]), ?_⟩)⟩
   have hl2 : (W.putObj (w.heap.size + 1) (.loop { rec .ready none with state := .busy })).heap[w.heap.size + 1]? = some (.loop { rec .ready none with state := .busy }) := World.putObj_heap_same hlt
   have hk2 : (W.putObj (w.heap.size + 1) (.loop { rec .ready none with state := .busy })).heap[w.heap.size]? = some (.deferred (some [])) := (World.putObj_heap_other (by omega)).trans hk
   refine wpIn_mono (hbody _ pre x _ (hput _ hI hi hl rfl) hlen) ?_
   rintro e a3 W3 hp
   have fin : ∀ (jump : Option Code), KeepsOthers (W.putObj (w.heap.size + 1) (.loop { rec .ready none with state := .busy })) W3 →
     (Instr.endRound (w.heap.size + 1) jump).run P W3 = .ok (.bool jump.isNone) (W3.putObj (w.heap.size + 1) (.loop (rec (if jump.isNone then .ready else .done) jump))) ∧
     W3.heap[w.heap.size + 1]? = some (.loop { rec .ready none with state := .busy }) ∧
     (W3.putObj (w.heap.size + 1) (.loop (rec (if jump.isNone then .ready else .done) jump))).heap[w.heap.size + 1]? = some (.loop (rec (if jump.isNone then .ready else .done) jump)) ∧
     (W3.putObj (w.heap.size + 1) (.loop (rec (if jump.isNone then .ready else .done) jump))).heap[w.heap.size]? = some (.deferred (some [])) := by
    intro jump hk3
    have hl3 := hk3.same _ _ hl2 rfl
    have hrun := run_endRound (P := P) jump hl3
    rw [hrec] at hrun hl3 ⊢
    exact ⟨hrun, hl3, World.putObj_heap_same (Array.getElem?_eq_some_iff.1 hl3).1, (World.putObj_heap_other (by omega)).trans (hk3.same _ _ hk2 rfl)⟩
   cases e with
   | normal =>
    obtain ⟨hk3, hkp3, hi3⟩ := hp
    obtain ⟨hr, hl3, hl4, hk4⟩ := fin none hk3
    refine ⟨_, _, hr, .inl ⟨rfl, ⟨hput _ hI hi3 hl3 rfl, hl4, hk4⟩, ?_⟩⟩
    have q1 := hputZ W (.loop { rec .ready none with state := .busy })
    have q3 := hputZ W3 (.loop (rec .ready none))
    exact ⟨Nat.le_trans q1.1 (Nat.le_trans hkp3.1 q3.1), fun k hk => (q3.2 k hk).trans ((hkp3.2 k hk).trans (q1.2 k hk))⟩
   | ret =>
    obtain ⟨hk3, hi3⟩ := hp
    obtain ⟨hr, hl3, hl4, hk4⟩ := fin (some .ret) hk3
    exact ⟨_, _, hr, .inr ⟨rfl, hput _ hIx hi3 hl3 rfl, hl4, hk4⟩⟩
   | exit id => exact hp.elim
   | goto t => exact hp.elim
   | panic ch => exact hp.elim
   | outgrown => exact hp.elim
  ·have hputI : ∀ {J : List ByteArray → World → Prop} {s : List ByteArray} {A : World} {o : Obj} (o' : Obj), KeepL Z w.heap.size J → J s A → A.heap[w.heap.size + 1]? = some o → o.isCells = false → J s (A.putObj (w.heap.size + 1) o') := by
    intro J s A o o' hJ hs ho hc
    exact hJ s A _ (some (w.heap.size + 1)) hs (grownBy_putObj' A (w.heap.size + 1) o') (fun r e => by cases e; exact .inr ⟨by omega, o, ho, hc⟩)
   rintro e W2 ⟨⟨v, rfl⟩, (⟨hi, hl, hk⟩ | ⟨pre, hSp, hi, hl, hk⟩)⟩
   ·have hrun := run_endLoop (P := P) hl (by rw [hrec]; simp)
    rw [hrec] at hrun
    exact ⟨none, _, hrun, hdone _ _ (Nat.le_refl _) (hputI _ hI hi hl rfl) ((World.putObj_heap_other (by omega)).trans hk)⟩
   ·have hrun := run_endLoop (P := P) hl (by rw [hrec]; simp)
    rw [hrec] at hrun
    exact ⟨some .ret, _, hrun, hstop _ pre _ (Nat.le_refl _) hSp (hputI _ hIx hi hl rfl) ((World.putObj_heap_other (by omega)).trans hk)⟩
end Go.Proofs.Lg
namespace Go.Proofs.Lg
open Go.RowKit Go.Proofs.YtdomcbebbhbdlaaGreatDoorW.PrintWords Go.Proofs.YtdomcbebbhbdlaaGreatDoorW.PrintLast Go.Proofs.YtdomcbebbhbdlaaGreatDoorW.PrintMore
attribute [local go_sem] Oper.semAt_some
def linesF : Nat → ByteArray → List ByteArray
 | 0, _ => []
 | k + 1, s => if s.size = 0 then [] else if 0 ≤ Lib.indexByte s.data.toList 10 then s.extract 0 ((Lib.indexByte s.data.toList 10).toNat + 1) :: linesF k (s.extract ((Lib.indexByte s.data.toList 10).toNat + 1) s.size) else [s]
def linesOf (s : ByteArray) : List ByteArray := linesF (s.size + 1) s
def strAt (w : World) (z : Nat) : Nat := match w.cell? ⟨z, 0, none⟩ with | some (.string s) => s.size | _ => 0
theorem strAt_of {w : World} {z : Nat} {s : ByteArray} (h : w.cell? ⟨z, 0, none⟩ = some (.string s)) : strAt w z = s.size := by unfold strAt; rw [h]
theorem cell_of_keeps {Z : Nat → Prop} {W W' : World} {a : Addr} {v : Value} (hk : RoundKeeps Z W W') (ha : Z a.block) (h : W.cell? a = some v) : W'.cell? a = some v :=
 (World.cell?_of_block (hk.2 a.block ha)).trans h
theorem frozen_of_keeps {Z : Nat → Prop} {W W' : World} {a : Addr} (hk : RoundKeeps Z W W') (ha : Z a.block) : W'.frozen? a = W.frozen? a := World.frozen?_of_block (hk.2 a.block ha)
theorem grown_setDrew (W : World) (b : Nat) (v : Value) : W.grownBy (W.setCell ⟨b, 0, none⟩ v).drew (some b) := by
 have h := grownBy_setCell' W b v
 exact ⟨h.os, h.tape, h.output, h.size, h.block⟩
theorem linesF_nil (k : Nat) : linesF k ⟨#[]⟩ = [] := by
 cases k with
 | zero => rfl
 | succ k => exact if_pos rfl
theorem indexByte_lt {s : ByteArray} {c : UInt8} {i : Nat} (h : Lib.indexByte s.data.toList c = (i : Int)) : i < s.size := by
 obtain ⟨h1, _⟩ := Lib.indexByte_some h
 have := (List.getElem?_eq_some_iff.1 h1).1
 exact this
set_option maxHeartbeats 4000000 in
set_option maxRecDepth 100000 in
theorem lines_seq (n : Nat) (hn : 1 ≤ n) (z : Nat) (s : ByteArray) (hs : s.size ≤ 1000000) (w : World) (hc : w.cell? ⟨z, 0, none⟩ = some (.string s)) (hf : w.frozen? ⟨z, 0, none⟩ = false) :
  SeqZ Fence.wide n Tryz.prog 93 #[.pointer (some ⟨z, 0, none⟩)] (fun k => k = z) (linesOf s) w := fun l J Jx W hW hJ hJx hY h0 => by
 have hc0 := cell_of_keeps hW rfl hc
 have hf0 := (frozen_of_keeps (a := ⟨z, 0, none⟩) hW rfl).trans hf
 refine callsIn_of_wp Tryz.func93 rfl trivial ?_ rfl
 simp only [Tryz.ntmps93, List.size_toArray, List.length_cons, List.length_nil, Nat.reduceAdd, Nat.reduceSub, Array.replicate_succ, Array.replicate_zero, List.push_toArray, List.append_toArray, List.nil_append, List.cons_append]
 gi_wp2
 gi_loopw [3] (fun p wr => ∃ (pre : List ByteArray) (cur : ByteArray) (k : Nat), linesOf s = pre ++ linesF k cur ∧ cur.size < k ∧ cur.size ≤ 1000000 ∧ wr.cell? ⟨z, 0, none⟩ = some (.string cur) ∧ wr.frozen? ⟨z, 0, none⟩ = false ∧ J pre wr)
  (fun p wr => strAt wr z)
 case atStart => exact ⟨[], s, s.size + 1, rfl, by omega, hs, hc0, hf0, h0⟩
 case round =>
  obtain ⟨pre, cur, k, hx, hk, hcs, hcell, hfr, hJs⟩ := hrel
  cases k with
  | zero => omega
  | succ k =>
  by_cases h0 : cur.size = 0
  ·have z1 : decide ((0 : Int) < (cur.size : Int)) = false := decide_eq_false (by omega)
   have z2 : decide (0 < cur.size) = false := decide_eq_false (by omega)
   gi_wp2
   go_end0
   refine ⟨⟨_, rfl⟩, .inl ?_⟩
   have : linesF (k + 1) cur = [] := by unfold linesF; rw [if_pos h0]
   rw [hx, this, List.append_nil]
   exact hJs
  ·have z1 : decide ((0 : Int) < (cur.size : Int)) = true := decide_eq_true (by omega)
   have z2 : decide (0 < cur.size) = true := decide_eq_true (by omega)
   by_cases hi : 0 ≤ Lib.indexByte cur.data.toList 10
   ·obtain ⟨i, hie⟩ : ∃ i : Nat, Lib.indexByte cur.data.toList 10 = (i : Int) := ⟨(Lib.indexByte cur.data.toList 10).toNat, by omega⟩
    have hil := indexByte_lt hie
    have hcons : linesF (k + 1) cur = cur.extract 0 (i + 1) :: linesF k (cur.extract (i + 1) cur.size) := by
     rw [linesF, if_neg h0, if_pos hi, hie]
     rfl
    have p1 : (0 ≤ (i : Int)) = True := eq_true (by omega)
    have p2 : decide (0 ≤ (i : Int)) = true := decide_eq_true (by omega)
    have p3 : IntKind.i64.wrap ((i : Int) + 1) = (i : Int) + 1 := by rw [i64_w]; unfold wrap64; omega
    have p4 : ((i : Int) + 1 ≤ (cur.size : Int)) = True := eq_true (by omega)
    have p5 : (0 ≤ (i : Int) + 1) = True := eq_true (by omega)
    have hK : Lib.indexByte cur.data.toList (Int.toNat 10).toUInt8 = (i : Int) := hie
    gi_wp2_with (refine ⟨trivial, ?_⟩; gi_at_call 94; refine (callsIn_wide.2 (Tryz.strings_IndexByte cur 10 _)).mono ?_; rw [hK]; rintro e wr ⟨rfl, rfl⟩)
    gi_region
    obtain ⟨W1, hW1⟩ : ∃ W1, (wr.setCell ⟨z, 0, none⟩ (.string (cur.extract (i + 1) cur.size))).drew = W1 := ⟨_, rfl⟩
    have hJ1 : J pre W1 := by rw [← hW1]; exact hJ pre _ _ (some z) hJs (grown_setDrew wr z _) (fun r e => by cases e; rfl)
    have hc1 : W1.cell? ⟨z, 0, none⟩ = some (.string (cur.extract (i + 1) cur.size)) := by rw [← hW1]; exact World.cell?_setCell_same' _ _ _ (by rw [hcell]; rfl)
    have hf1 : W1.frozen? ⟨z, 0, none⟩ = false := by rw [← hW1]; rw [frozen_drew_own, World.frozen?_setCell]; exact hfr
    obtain ⟨fn, tmps, assign, body, hy, hR⟩ := hY pre (cur.extract 0 (i + 1)) W1 hJ1 ⟨linesF k (cur.extract (i + 1) cur.size), by rw [hx, hcons]; simp⟩
    rw [hW1]
    gi_wp2
    refine hR.mono ?_
    rintro e W' (⟨rfl, hJ', hk'⟩ | ⟨rfl, hx'⟩)
    ·have hc2 := cell_of_keeps (a := ⟨z, 0, none⟩) hk' rfl hc1
     have hf2 := (frozen_of_keeps (a := ⟨z, 0, none⟩) hk' rfl).trans hf1
     gi_wp2
     go_roundw
     case rel => exact ⟨pre ++ [cur.extract 0 (i + 1)], cur.extract (i + 1) cur.size, k, by rw [hx, hcons]; simp, by rw [ByteArray.size_extract]; omega, by rw [ByteArray.size_extract]; omega, hc2, hf2, hJ'⟩
     case measure => rw [strAt_of hc2, strAt_of hcell]; rw [ByteArray.size_extract]; omega
    ·gi_wp2
     refine bodyPost_ret (results_none rfl _ _ _) rfl ?_
     exact ⟨⟨_, rfl⟩, .inr ⟨pre ++ [cur.extract 0 (i + 1)], ⟨linesF k (cur.extract (i + 1) cur.size), by rw [hx, hcons]; simp⟩, hx'⟩⟩
   ·have hneg : Lib.indexByte cur.data.toList 10 = -1 := by have := Lib.indexByte_ge cur.data.toList 10; omega
    have hcons : linesF (k + 1) cur = cur :: linesF k ⟨#[]⟩ := by
     rw [linesF, if_neg h0, if_neg hi, linesF_nil]
    have hK : Lib.indexByte cur.data.toList (Int.toNat 10).toUInt8 = -1 := hneg
    obtain ⟨W1, hW1⟩ : ∃ W1, (wr.setCell ⟨z, 0, none⟩ (.string ⟨#[]⟩)) = W1 := ⟨_, rfl⟩
    have hJ1 : J pre W1 := by rw [← hW1]; exact hJ pre _ _ (some z) hJs (grownBy_setCell' wr z _) (fun r e => by cases e; rfl)
    have hc1 : W1.cell? ⟨z, 0, none⟩ = some (.string ⟨#[]⟩) := by rw [← hW1]; exact World.cell?_setCell_same' _ _ _ (by rw [hcell]; rfl)
    have hf1 : W1.frozen? ⟨z, 0, none⟩ = false := by rw [← hW1]; rw [World.frozen?_setCell]; exact hfr
    obtain ⟨fn, tmps, assign, body, hy, hR⟩ := hY pre cur W1 hJ1 ⟨linesF k ⟨#[]⟩, by rw [hx, hcons]; simp⟩
    gi_wp2_with (first | (refine ⟨trivial, ?_⟩; gi_at_call 94; refine (callsIn_wide.2 (Tryz.strings_IndexByte cur 10 _)).mono ?_; rw [hK]; rintro e wr ⟨rfl, rfl⟩) | (rw [hW1]))
    refine hR.mono ?_
    rintro e W' (⟨rfl, hJ', hk'⟩ | ⟨rfl, hx'⟩)
    ·have hc2 := cell_of_keeps (a := ⟨z, 0, none⟩) hk' rfl hc1
     have hf2 := (frozen_of_keeps (a := ⟨z, 0, none⟩) hk' rfl).trans hf1
     gi_wp2
     go_roundw
     case rel => exact ⟨pre ++ [cur], ⟨#[]⟩, k, by rw [hx, hcons]; simp, by have : (⟨#[]⟩ : ByteArray).size = 0 := rfl; omega, by have : (⟨#[]⟩ : ByteArray).size = 0 := rfl; omega, hc2, hf2, hJ'⟩
     case measure => rw [strAt_of hc2, strAt_of hcell]; have : (⟨#[]⟩ : ByteArray).size = 0 := rfl; omega
    ·gi_wp2
     refine bodyPost_ret (results_none rfl _ _ _) rfl ?_
     exact ⟨⟨_, rfl⟩, .inr ⟨pre ++ [cur], ⟨linesF k ⟨#[]⟩, by rw [hx, hcons]; simp⟩, hx'⟩⟩
def piecesF (c : UInt8) : Nat → ByteArray → List ByteArray
 | 0, s => [s]
 | k + 1, s => if 0 ≤ Lib.indexByte s.data.toList c then s.extract 0 (Lib.indexByte s.data.toList c).toNat :: piecesF c k (s.extract ((Lib.indexByte s.data.toList c).toNat + 1) s.size) else [s]
def piecesOf (c : UInt8) (s : ByteArray) : List ByteArray := piecesF c (s.size + 1) s
set_option maxHeartbeats 4000000 in
set_option maxRecDepth 100000 in
theorem split_seq (n : Nat) (hn : 1 ≤ n) (z : Nat) (c : UInt8) (s : ByteArray) (hs : s.size ≤ 1000000) (w : World) (hc : w.cell? ⟨z, 0, none⟩ = some (.string s)) (hf : w.frozen? ⟨z, 0, none⟩ = false)
  (hc1 : w.cell? ⟨z + 1, 0, none⟩ = some (.string ⟨#[c]⟩)) (hc2 : w.cell? ⟨z + 2, 0, none⟩ = some (.int .i64 0)) :
  SeqZ Fence.wide n Tryz.prog 116 #[.pointer (some ⟨z + 1, 0, none⟩), .pointer (some ⟨z, 0, none⟩), .pointer (some ⟨z + 2, 0, none⟩)] (fun k => z ≤ k ∧ k < z + 3) (piecesOf c s) w := fun l J Jx W hW hJ hJx hY h0 => by
 have hc0 := cell_of_keeps hW (a := ⟨z, 0, none⟩) ⟨Nat.le_refl z, by show z < z + 3; omega⟩ hc
 have hf0 := (frozen_of_keeps (a := ⟨z, 0, none⟩) hW ⟨Nat.le_refl z, by show z < z + 3; omega⟩).trans hf
 have hd1 := cell_of_keeps hW (a := ⟨z + 1, 0, none⟩) ⟨Nat.le_add_right z 1, by show z + 1 < z + 3; omega⟩ hc1
 have hd2 := cell_of_keeps hW (a := ⟨z + 2, 0, none⟩) ⟨Nat.le_add_right z 2, by show z + 2 < z + 3; omega⟩ hc2
 refine callsIn_of_wp Tryz.func116 rfl trivial ?_ rfl
 simp only [Tryz.ntmps116, List.size_toArray, List.length_cons, List.length_nil, Nat.reduceAdd, Nat.reduceSub, Array.replicate_succ, Array.replicate_zero, List.push_toArray, List.append_toArray, List.nil_append, List.cons_append]
 have hsz : (⟨#[c]⟩ : ByteArray).size = 1 := rfl
 gi_wp2
 gi_loopw [7] (fun p wr => ∃ (pre : List ByteArray) (cur : ByteArray) (k : Nat), piecesOf c s = pre ++ piecesF c k cur ∧ cur.size < k ∧ cur.size ≤ 1000000 ∧ wr.cell? ⟨z, 0, none⟩ = some (.string cur) ∧ wr.frozen? ⟨z, 0, none⟩ = false ∧ wr.cell? ⟨z + 1, 0, none⟩ = some (.string ⟨#[c]⟩) ∧ wr.cell? ⟨z + 2, 0, none⟩ = some (.int .i64 0) ∧ J pre wr)
  (fun p wr => strAt wr z)
 case atStart => exact ⟨[], s, s.size + 1, rfl, by omega, hs, hc0, hf0, hd1, hd2, h0⟩
 case round =>
  obtain ⟨pre, cur, k, hx, hk, hcs, hcell, hfr, hk1, hk2, hJs⟩ := hrel
  cases k with
  | zero => omega
  | succ k =>
  by_cases hi : 0 ≤ Lib.indexByte cur.data.toList c
  ·obtain ⟨i, hie⟩ : ∃ i : Nat, Lib.indexByte cur.data.toList c = (i : Int) := ⟨(Lib.indexByte cur.data.toList c).toNat, by omega⟩
   have hil := indexByte_lt hie
   have hcons : piecesF c (k + 1) cur = cur.extract 0 i :: piecesF c k (cur.extract (i + 1) cur.size) := by
    rw [piecesF, if_pos hi, hie]
    rfl
   have p1 : (0 ≤ (i : Int)) = True := eq_true (by omega)
   have p2 : decide ((i : Int) < 0) = false := decide_eq_false (by omega)
   have p3 : IntKind.i64.wrap ((i : Int) + 1) = (i : Int) + 1 := by rw [i64_w]; unfold wrap64; omega
   have p6 : IntKind.i64.wrap ((i : Int) + 0) = (i : Int) := by rw [i64_w]; unfold wrap64; omega
   have p7 : IntKind.i64.wrap (i : Int) = (i : Int) := by rw [i64_w]; unfold wrap64; omega
   have p4 : ((i : Int) + 1 ≤ (cur.size : Int)) = True := eq_true (by omega)
   have p8 : ((i : Int) ≤ (cur.size : Int)) = True := eq_true (by omega)
   have p5 : (0 ≤ (i : Int) + 1) = True := eq_true (by omega)
   obtain ⟨fn, tmps, assign, body, hy, hR⟩ := hY pre (cur.extract 0 i) wr hJs ⟨piecesF c k (cur.extract (i + 1) cur.size), by rw [hx, hcons]; simp⟩
   gi_wp2_with (refine ⟨trivial, ?_⟩; gi_at_call 92; refine (callsIn_wide.2 (Tryz.strings_Index_one cur c _)).mono ?_; rw [hie]; rintro e wr' ⟨rfl, hww⟩; obtain rfl := hww)
   refine hR.mono ?_
   rintro e W' (⟨rfl, hJ', hk'⟩ | ⟨rfl, hx'⟩)
   ·have g0 := cell_of_keeps (a := ⟨z, 0, none⟩) hk' ⟨Nat.le_refl z, by show z < z + 3; omega⟩ hcell
    have gf := (frozen_of_keeps (a := ⟨z, 0, none⟩) hk' ⟨Nat.le_refl z, by show z < z + 3; omega⟩).trans hfr
    have g1 := cell_of_keeps hk' (a := ⟨z + 1, 0, none⟩) ⟨Nat.le_add_right z 1, by show z + 1 < z + 3; omega⟩ hk1
    have g2 := cell_of_keeps hk' (a := ⟨z + 2, 0, none⟩) ⟨Nat.le_add_right z 2, by show z + 2 < z + 3; omega⟩ hk2
    gi_wp2
    have m0 : (W'.setCell ⟨z, 0, none⟩ (.string (cur.extract (i + 1) cur.size))).cell? ⟨z, 0, none⟩ = some (.string (cur.extract (i + 1) cur.size)) := World.cell?_setCell_same' _ _ _ (by rw [g0]; rfl)
    have mf : (W'.setCell ⟨z, 0, none⟩ (.string (cur.extract (i + 1) cur.size))).frozen? ⟨z, 0, none⟩ = false := by rw [World.frozen?_setCell]; exact gf
    have m1 : (W'.setCell ⟨z, 0, none⟩ (.string (cur.extract (i + 1) cur.size))).cell? ⟨z + 1, 0, none⟩ = some (.string ⟨#[c]⟩) := (World.cell?_of_block (Below.heap_setCell W' ⟨z, 0, none⟩ _ (z + 1) (by show z + 1 ≠ z; omega))).trans g1
    have m2 : (W'.setCell ⟨z, 0, none⟩ (.string (cur.extract (i + 1) cur.size))).cell? ⟨z + 2, 0, none⟩ = some (.int .i64 0) := (World.cell?_of_block (Below.heap_setCell W' ⟨z, 0, none⟩ _ (z + 2) (by show z + 2 ≠ z; omega))).trans g2
    go_roundw
    case rel => exact ⟨pre ++ [cur.extract 0 i], cur.extract (i + 1) cur.size, k, by rw [hx, hcons]; simp, by rw [ByteArray.size_extract]; omega, by rw [ByteArray.size_extract]; omega, m0, mf, m1, m2, hJ _ _ _ (some z) hJ' (grownBy_setCell' W' z _) (fun r e => by cases e; exact ⟨Nat.le_refl z, by omega⟩)⟩
    case measure => rw [strAt_of m0, strAt_of hcell]; rw [ByteArray.size_extract]; omega
   ·gi_wp2
    refine bodyPost_ret (results_none rfl _ _ _) rfl ?_
    exact ⟨⟨_, rfl⟩, .inr ⟨pre ++ [cur.extract 0 i], ⟨piecesF c k (cur.extract (i + 1) cur.size), by rw [hx, hcons]; simp⟩, hx'⟩⟩
  ·have hneg : Lib.indexByte cur.data.toList c = -1 := by have := Lib.indexByte_ge cur.data.toList c; omega
   have hcons : piecesF c (k + 1) cur = [cur] := by rw [piecesF, if_neg hi]
   obtain ⟨fn, tmps, assign, body, hy, hR⟩ := hY pre cur wr hJs ⟨[], by rw [hx, hcons, List.append_nil]⟩
   gi_wp2_with (refine ⟨trivial, ?_⟩; gi_at_call 92; refine (callsIn_wide.2 (Tryz.strings_Index_one cur c _)).mono ?_; rw [hneg]; rintro e wr' ⟨rfl, hww⟩; obtain rfl := hww)
   refine hR.mono ?_
   rintro e W' (⟨rfl, hJ', hk'⟩ | ⟨rfl, hx'⟩)
   ·gi_wp2
    go_end0
    exact ⟨⟨_, rfl⟩, .inl (by rw [hx, hcons]; exact hJ')⟩
   ·gi_wp2
    go_end0
    exact ⟨⟨_, rfl⟩, .inr ⟨pre ++ [cur], ⟨[], by rw [hx, hcons, List.append_nil]⟩, hx'⟩⟩
end Go.Proofs.Lg
namespace Go.Proofs.Lg
open Go.RowKit
variable {P : Program} {ops : Array Oper} {Q : Exit → Act → World → Prop} {md : Region.Mode}
theorem opIn_of_op {l n : Nat} {o : Oper} (hd : ∀ c, o.op ≠ .defer c) {a : Act} {w : World} {K : Act → World → Prop} (h : o.wp P a w K Q) : o.wpIn (Fence.wide.inRound l) n P a w K Q := by
 unfold Oper.wpIn
 refine ⟨fun _ _ => trivial, ?_⟩
 have hs : Oper.semAt (Fence.wide.inRound l).round a.eval o = execOp a.eval o := Oper.semAt_eq _ _ _ hd
 rw [hs]
 unfold Oper.wp at h
 generalize (execOp a.eval o).run P w = r at h ⊢
 have hdep : (Fence.wide.inRound l).depth.isSome = true → 1 ≤ n := fun h => by cases h
 cases r with
 | ok x w' =>
  cases x with
  | value v => exact h
  | skip => exact h
  | «defer» d => exact h
  | enter f args => exact ⟨hdep, CallsIn.inRound l (callsIn_wide.2 h)⟩
  | row r args => exact ⟨hdep, fun c cs _ => let ⟨v, w', r, s⟩ := h c cs; ⟨v, w', r, stepsIn_wide.2 s⟩⟩
  | _ => exact h.elim
 | halt x w' =>
  cases x with
  | panic v => exact h
  | _ => exact h.elim
theorem wpOpIn_of {l n : Nat} (hd : ∀ (i : Nat) (o : Oper), ops[i]? = some o → ∀ c, o.op ≠ .defer c) (hq : ¬ LetsOut Q) {i : Nat} {K : Act → World → Prop} {a : Act} {w : World} (h : wpOp P ops Q i K a w) : wpOpIn (Fence.wide.inRound l) n P ops Q i K a w := by
 unfold wpOp at h
 unfold wpOpIn
 split at h
 ·rename_i ho
  rw [ho]
  exact h
 ·rename_i o ho
  rw [ho]
  simp only
  split at h
  ·rename_i hw
   rw [if_pos hw]
   rcases h with h | ⟨_, h⟩
   ·exact opIn_of_op (hd i o ho) h
   ·exact absurd h hq
  ·rename_i hw
   rw [if_neg hw]
   exact ⟨fun _ _ => trivial, h⟩
theorem anyIn_of {l n : Nat} (hd : ∀ (i : Nat) (o : Oper), ops[i]? = some o → ∀ c, o.op ≠ .defer c) (hq : ¬ LetsOut Q) : ∀ (fuel : Nat) (listed : Array Bool) (a : Act) (w : World), wpAny P md ops Q fuel listed a w → wpAnyIn (Fence.wide.inRound l) n P md ops Q fuel listed a w
 | 0, _, _, _, h => h
 | fuel + 1, listed, a, w, h => ⟨h.1, fun i hi => wpOpIn_mono (fun a w h => anyIn_of hd hq fuel _ a w h) (wpOpIn_of hd hq (h.2 i hi))⟩
def noDefer (ops : Array Oper) : Bool := ops.all fun o => match o.op with | .defer _ => false | _ => true
theorem noDefer_spec (h : noDefer ops = true) (i : Nat) (o : Oper) (ho : ops[i]? = some o) (c : Call) : o.op ≠ .defer c := by
 intro hc
 have := (Array.all_eq_true'.1 h) o (Array.mem_of_getElem? ho)
 rw [hc] at this
 cases this
theorem listIn_cons {l n : Nat} {o : Oper} {rest : List Oper} {a : Act} {w : World} (hd : ∀ c, o.op ≠ .defer c)
  (h : if Region.wanted o (yielded ops a.tmps) = true then o.wp P a w (wpListIn (Fence.wide.inRound l) n P ops Q rest) Q else wpListIn (Fence.wide.inRound l) n P ops Q rest (a.put o.dst undef) w) : wpListIn (Fence.wide.inRound l) n P ops Q (o :: rest) a w := by
 unfold wpListIn
 split at h
 ·rename_i hw
  rw [if_pos hw]
  exact opIn_of_op hd h
 ·rename_i hw
  rw [if_neg hw]
  exact ⟨fun _ _ => trivial, h⟩
theorem region_inRound {l n id : Nat} {a : Act} {w : World} (hm : P.follows .mixedOrders = true) (hd : noDefer ops = true) (hq : ¬ LetsOut Q) {S : World → Prop} (hS : S w.drew)
  (h : S w.drew → wpAnyH P .any ops Q S ops.size (Array.replicate ops.size false) a w.drew) : (Code.region id ops true).wpIn (Fence.wide.inRound l) n P Q a w :=
 wpIn_region_any hm (anyIn_of (noDefer_spec hd) hq _ _ _ _ (wpAny_of_held _ _ _ _ (h hS)))
end Go.Proofs.Lg
namespace Go.Proofs.Lg
open Go.RowKit Go.Proofs.YtdomcbebbhbdlaaGreatDoorW.PrintWords Go.Proofs.YtdomcbebbhbdlaaGreatDoorW.PrintLast Go.Proofs.YtdomcbebbhbdlaaGreatDoorW.PrintMore Go.Proofs.YtdomcbebbhbdlaaGreatDoor.PLogsBills
attribute [local go_sem] Oper.semAt_some
def cutL (s : ByteArray) : ByteArray := ⟨(Lib.cut s.data.toList [62]).fst.toArray⟩
def cutR (s : ByteArray) : ByteArray := ⟨(Lib.cut s.data.toList [62]).snd.fst.toArray⟩
theorem cut_size (l sep : List UInt8) : (Lib.cut l sep).fst.length ≤ l.length ∧ (Lib.cut l sep).snd.fst.length ≤ l.length := by
 unfold Lib.cut
 split
 ·simp only [List.length_take, List.length_drop]; omega
 ·simp
theorem pieces_mem (c : UInt8) : ∀ (k : Nat) (s x : ByteArray), x ∈ piecesF c k s → x.size ≤ s.size
 | 0, s, x, h => by
  simp only [piecesF, List.mem_singleton] at h
  subst h
  exact Nat.le_refl _
 | k + 1, s, x, h => by
  rw [piecesF] at h
  split at h
  ·rcases List.mem_cons.1 h with rfl | h
   ·rw [ByteArray.size_extract]; omega
   ·have := pieces_mem c k _ x h
    rw [ByteArray.size_extract] at this
    omega
  ·simp only [List.mem_singleton] at h
   subst h
   exact Nat.le_refl _
theorem pieces_len (c : UInt8) : ∀ (k : Nat) (s : ByteArray), (piecesF c k s).length ≤ k + 1
 | 0, s => by simp [piecesF]
 | k + 1, s => by
  rw [piecesF]
  split
  ·have := pieces_len c k (s.extract ((Lib.indexByte s.data.toList c).toNat + 1) s.size)
   simp only [List.length_cons]
   omega
  ·simp
theorem piecesOf_mem {c : UInt8} {s x : ByteArray} {pre : List ByteArray} (h : (pre ++ [x]) <+: piecesOf c s) : x.size ≤ s.size := pieces_mem c (s.size + 1) s x (h.subset (by simp))
theorem piecesOf_len {c : UInt8} {s x : ByteArray} {pre : List ByteArray} (h : (pre ++ [x]) <+: piecesOf c s) : pre.length ≤ s.size + 2 := by
 have h1 := h.length_le
 have h2 := pieces_len c (s.size + 1) s
 rw [List.length_append] at h1
 unfold piecesOf at h1
 omega
theorem cutL_size (s : ByteArray) : (cutL s).size ≤ s.size := (cut_size s.data.toList [62]).1
theorem cutR_size (s : ByteArray) : (cutR s).size ≤ s.size := (cut_size s.data.toList [62]).2
def readB (ws : List ByteArray) : S26 :=
 match ws with
 | [a, b, c, d, e] => ⟨numOf a, numOf b, numOf c, numOf (cutL d), numOf (cutR d), if e = ⟨#[45]⟩ then [] else (piecesOf 44 e).map numOf⟩
 | _ => z26
def cv (w : World) (b j : Nat) : Value := (w.cell? ⟨b, j, none⟩).getD undef
def HasRow (b : Nat) (t : TypeId) (n : Nat) (w : World) : Prop := ∃ cs : Array Value, w.heap[b]? = some (.cells cs t (0, 0)) ∧ cs.size = n
theorem HasRow.cell {b n : Nat} {t : TypeId} {w : World} (h : HasRow b t n w) (j : Nat) (hj : j < n) : w.cell? ⟨b, j, none⟩ = some (cv w b j) := by
 obtain ⟨cs, h1, h2⟩ := h
 unfold cv
 rw [Lib.cell_of_heap h1, Array.getElem?_eq_getElem (by omega)]
 rfl
theorem HasRow.frozen {b n : Nat} {t : TypeId} {w : World} (h : HasRow b t n w) (j : Nat) : w.frozen? ⟨b, j, none⟩ = false := by
 obtain ⟨cs, h1, h2⟩ := h
 exact Lib.frozen_of_heap h1 j
theorem HasRow.lt {b n : Nat} {t : TypeId} {w : World} (h : HasRow b t n w) : b < w.heap.size := by
 obtain ⟨cs, h1, h2⟩ := h
 exact (Array.getElem?_eq_some_iff.1 h1).1
theorem HasRow.below {b n : Nat} {t : TypeId} {w w' : World} (h : HasRow b t n w) (hb : Below w.heap.size w w') : HasRow b t n w' := by
 have hlt := h.lt
 obtain ⟨cs, h1, h2⟩ := h
 exact ⟨cs, (hb.block b hlt).trans h1, h2⟩
theorem HasRow.set {b n : Nat} {t : TypeId} {w : World} (h : HasRow b t n w) (j : Nat) (v : Value) : HasRow b t n (w.setCell ⟨b, j, none⟩ v) := by
 have hlt := h.lt
 obtain ⟨cs, h1, h2⟩ := h
 refine ⟨cs.setIfInBounds j v, ?_, by simpa using h2⟩
 have hlt' : b < w.heap.size := hlt
 have h1' : w.heap[b]'hlt' = .cells cs t (0, 0) := by
  rw [Array.getElem?_eq_getElem hlt'] at h1
  exact Option.some.inj h1
 show (w.heap.modify b _)[b]? = _
 rw [Array.getElem?_eq_getElem (by rw [Array.size_modify]; exact hlt'), Array.getElem_modify_self, h1']
 rfl
theorem set_row {b j : Nat} {t : TypeId} {w : World} {cs : Array Value} (h : w.heap[b]? = some (.cells cs t (0, 0))) (v : Value) : (w.setCell ⟨b, j, none⟩ v).heap[b]? = some (.cells (cs.setIfInBounds j v) t (0, 0)) := by
 have hlt : b < w.heap.size := (Array.getElem?_eq_some_iff.1 h).1
 have h1' : w.heap[b]'hlt = .cells cs t (0, 0) := by
  rw [Array.getElem?_eq_getElem hlt] at h
  exact Option.some.inj h
 show (w.heap.modify b _)[b]? = _
 rw [Array.getElem?_eq_getElem (by rw [Array.size_modify]; exact hlt), Array.getElem_modify_self, h1']
 rfl
theorem six (cs : Array Value) (h : cs.size = 6) (v0 v1 v2 v3 v4 v5 : Value) : (((((cs.setIfInBounds 0 v0).setIfInBounds 1 v1).setIfInBounds 2 v2).setIfInBounds 3 v3).setIfInBounds 4 v4).setIfInBounds 5 v5 = #[v0, v1, v2, v3, v4, v5] := by
 obtain ⟨l⟩ := cs
 obtain ⟨x0, x1, x2, x3, x4, x5, rfl⟩ : ∃ x0 x1 x2 x3 x4 x5, l = [x0, x1, x2, x3, x4, x5] := by
  have hl : l.length = 6 := h
  rcases l with _ | ⟨x0, _ | ⟨x1, _ | ⟨x2, _ | ⟨x3, _ | ⟨x4, _ | ⟨x5, _ | ⟨x6, l⟩⟩⟩⟩⟩⟩⟩ <;> simp only [List.length_nil, List.length_cons] at hl <;> first | omega | exact ⟨_, _, _, _, _, _, rfl⟩
 simp only [List.setIfInBounds_toArray, List.set_cons_zero, List.set_cons_succ]
theorem row_sets {b : Nat} {t : TypeId} {w : World} (h : HasRow b t 6 w) (v0 v1 v2 v3 v4 v5 : Value) : ((((((w.setCell ⟨b, 0, none⟩ v0).setCell ⟨b, 1, none⟩ v1).setCell ⟨b, 2, none⟩ v2).setCell ⟨b, 3, none⟩ v3).setCell ⟨b, 4, none⟩ v4).setCell ⟨b, 5, none⟩ v5).heap[b]? = some (.cells #[v0, v1, v2, v3, v4, v5] t (0, 0)) := by
 obtain ⟨cs, h1, h2⟩ := h
 have s0 := set_row (j := 0) h1 v0
 have s1 := set_row (j := 1) s0 v1
 have s2 := set_row (j := 2) s1 v2
 have s3 := set_row (j := 3) s2 v3
 have s4 := set_row (j := 4) s3 v4
 have s5 := set_row (j := 5) s4 v5
 rw [six cs h2] at s5
 exact s5
theorem HasRow.unset {b j n : Nat} {t : TypeId} {w : World} {v : Value} (h : HasRow b t n (w.setCell ⟨b, j, none⟩ v)) : HasRow b t n w := by
 obtain ⟨cs, h1, h2⟩ := h
 have hlt : b < w.heap.size := by
  have := (Array.getElem?_eq_some_iff.1 h1).1
  have e : (w.setCell ⟨b, j, none⟩ v).heap.size = w.heap.size := by show (w.heap.modify b _).size = _; exact Array.size_modify
  omega
 have h3 : (w.heap.modify b (fun o => match o with
   | .cells c elem frozen => .cells (if (⟨b, j, none⟩ : Addr).spot.isSome = true then c else c.setIfInBounds j v) elem frozen
   | o => o))[b]? = some (.cells cs t (0, 0)) := h1
 rw [Array.getElem?_eq_getElem (by rw [Array.size_modify]; exact hlt), Array.getElem_modify_self] at h3
 have h4 := Option.some.inj h3
 cases ho : w.heap[b]'hlt with
 | cells c elem frozen =>
  rw [ho] at h4
  simp only [Obj.cells.injEq] at h4
  obtain ⟨h5, rfl, rfl⟩ := h4
  refine ⟨c, by rw [Array.getElem?_eq_getElem hlt, ho], ?_⟩
  rw [← h2, ← h5]
  split <;> simp
 | _ => rw [ho] at h4; cases h4
theorem three_boxes (w : World) (x y z : Value) (t u v : TypeId) :
  (((w.alloc (.cells #[x] t)).alloc (.cells #[y] u)).alloc (.cells #[z] v)).heap.size = w.heap.size + 3 ∧ Below w.heap.size w (((w.alloc (.cells #[x] t)).alloc (.cells #[y] u)).alloc (.cells #[z] v)) ∧
   (((w.alloc (.cells #[x] t)).alloc (.cells #[y] u)).alloc (.cells #[z] v)).cell? ⟨w.heap.size, 0, none⟩ = some x ∧ (((w.alloc (.cells #[x] t)).alloc (.cells #[y] u)).alloc (.cells #[z] v)).cell? ⟨w.heap.size + 1, 0, none⟩ = some y ∧
   (((w.alloc (.cells #[x] t)).alloc (.cells #[y] u)).alloc (.cells #[z] v)).cell? ⟨w.heap.size + 2, 0, none⟩ = some z ∧ (((w.alloc (.cells #[x] t)).alloc (.cells #[y] u)).alloc (.cells #[z] v)).frozen? ⟨w.heap.size, 0, none⟩ = false := by
 have s1 : (w.alloc (.cells #[x] t)).heap.size = w.heap.size + 1 := World.size_alloc _ _
 have s2 : ((w.alloc (.cells #[x] t)).alloc (.cells #[y] u)).heap.size = w.heap.size + 2 := by rw [World.size_alloc, s1]
 have s3 : (((w.alloc (.cells #[x] t)).alloc (.cells #[y] u)).alloc (.cells #[z] v)).heap.size = w.heap.size + 3 := by rw [World.size_alloc, s2]
 have h0 : (w.alloc (.cells #[x] t)).heap[w.heap.size]? = some (.cells #[x] t (0, 0)) := heap_alloc_new _ _
 have h1 : ((w.alloc (.cells #[x] t)).alloc (.cells #[y] u)).heap[w.heap.size + 1]? = some (.cells #[y] u (0, 0)) := by rw [← s1]; exact heap_alloc_new _ _
 have h2 : (((w.alloc (.cells #[x] t)).alloc (.cells #[y] u)).alloc (.cells #[z] v)).heap[w.heap.size + 2]? = some (.cells #[z] v (0, 0)) := by rw [← s2]; exact heap_alloc_new _ _
 have h0' : (((w.alloc (.cells #[x] t)).alloc (.cells #[y] u)).alloc (.cells #[z] v)).heap[w.heap.size]? = some (.cells #[x] t (0, 0)) := (Go.Lib.alloc_old _ _ _ (by omega)).trans ((Go.Lib.alloc_old _ _ _ (by omega)).trans h0)
 have h1' : (((w.alloc (.cells #[x] t)).alloc (.cells #[y] u)).alloc (.cells #[z] v)).heap[w.heap.size + 1]? = some (.cells #[y] u (0, 0)) := (Go.Lib.alloc_old _ _ _ (by omega)).trans h1
 refine ⟨s3, (((Below.refl w.heap.size w).alloc (Nat.le_refl _) _).alloc (by omega) _).alloc (by omega) _, ?_, ?_, ?_, ?_⟩
 ·rw [Lib.cell_of_heap h0']; rfl
 ·rw [Lib.cell_of_heap h1']; rfl
 ·rw [Lib.cell_of_heap h2]; rfl
 ·exact Lib.frozen_of_heap h0' 0
theorem fin8 {w wc W w' w1 : World} {n0 n1 n2 n3 n4 y : Int} {l : List Int} {v v1 : Value} (hbl : w.heap.size < W.heap.size) (hbs : w.heap.size ≤ W.heap.size) (hs : wc.heap.size + 3 ≤ W.heap.size) (hwc : w.heap.size < wc.heap.size)
  (hA : W.heap[w.heap.size]? = some (.cells #[.int .i64 n0, .int .i64 n1, .int .i64 n2, .int .i64 n3, .int .i64 n4, v] 26 (0, 0)))
  (hR : Kd.R (Kd.int .i64) 3 W w.heap.size (fun k => k ≠ w.heap.size ∧ ¬ (wc.heap.size ≤ k ∧ k < wc.heap.size + 3)) v l) (hB : Below w.heap.size w W) (hb' : Below W.heap.size W w')
  (ho : Kd.R (Kd.int .i64) 3 w1 w.heap.size (fun k => k ≠ w.heap.size ∧ ¬ (wc.heap.size ≤ k ∧ k < wc.heap.size + 3)) v1 (l ++ [y])) (hg : w'.grownBy w1 v.ownBlock)
  (hA1 : w1.heap[w.heap.size]? = some (.cells #[.int .i64 n0, .int .i64 n1, .int .i64 n2, .int .i64 n3, .int .i64 n4, v] 26 (0, 0))) :
  KeepsOthers W (w1.setCell ⟨w.heap.size, 5, none⟩ v1) ∧ RoundKeeps (fun k => wc.heap.size ≤ k ∧ k < wc.heap.size + 3) W (w1.setCell ⟨w.heap.size, 5, none⟩ v1) ∧
   ∃ v2, (w1.setCell ⟨w.heap.size, 5, none⟩ v1).heap[w.heap.size]? = some (.cells #[.int .i64 n0, .int .i64 n1, .int .i64 n2, .int .i64 n3, .int .i64 n4, v2] 26 (0, 0)) ∧
    Kd.R (Kd.int .i64) 3 (w1.setCell ⟨w.heap.size, 5, none⟩ v1) w.heap.size (fun k => k ≠ w.heap.size ∧ ¬ (wc.heap.size ≤ k ∧ k < wc.heap.size + 3)) v2 (l ++ [y]) ∧ Below w.heap.size w (w1.setCell ⟨w.heap.size, 5, none⟩ v1) ∧ wc.heap.size + 3 ≤ (w1.setCell ⟨w.heap.size, 5, none⟩ v1).heap.size := by
 have hsz : W.heap.size ≤ w1.heap.size := Nat.le_trans hb'.size hg.size
 have hty : ∀ k, v.ownBlock = some k → ∃ cells, W.heap[k]? = some (.cells cells 3 (0, 0)) := Kd.R_typed hR
 have hlt : ∀ k, v.ownBlock = some k → k < W.heap.size := Kd.R_lt hR
 have hset : (w1.setCell ⟨w.heap.size, 5, none⟩ v1).heap.size = w1.heap.size := by show (w1.heap.modify _ _).size = _; exact Array.size_modify
 refine ⟨?_, ⟨by omega, fun k hk => ?_⟩, v1, set_row hA1 v1, Kd.R_far ho (p := ⟨w.heap.size, 5, none⟩) (fun k hk => hk.1) v1, ?_, by omega⟩
 ·refine ((KeepsOthers.of_grownBy (grown_of_below hb' none) (fun j o e => by cases e)).trans (KeepsOthers.of_grownBy hg (fun j o e ho' => ?_))).trans (KeepsOthers.setCell _ _ _)
  obtain ⟨cells, hc⟩ := hty j e
  rw [hb'.block j (hlt j e), hc] at ho'
  cases ho'
  rfl
 ·show (w1.setCell ⟨w.heap.size, 5, none⟩ v1).heap[k]? = W.heap[k]?
  have hk' : wc.heap.size ≤ k ∧ k < wc.heap.size + 3 := hk
  rw [Below.heap_setCell w1 ⟨w.heap.size, 5, none⟩ v1 k (by show k ≠ w.heap.size; omega), hg.block k (by have := hb'.size; omega) (fun e => (hR.1 k e.symm).2 hk'), hb'.block k (by omega)]
 ·refine (hB.trans ((hb'.mono hbs).trans ⟨hg.os, hg.tape, hg.output, hg.size, fun k hk => hg.block k (by have := hb'.size; omega) (fun e => ?_)⟩)).setCell (p := ⟨w.heap.size, 5, none⟩) (Nat.le_refl _) _
  have := Kd.R_base hR k e.symm
  omega
theorem finD {w W : World} {n0 n1 n2 n3 n4 : Int} {l : List Int} {v : Value} {D : Nat} {ok : Nat → Prop} (hwD : w.heap.size < D) (hok : ∀ k, ok k → k ≠ w.heap.size)
  (hA : W.heap[w.heap.size]? = some (.cells #[.int .i64 n0, .int .i64 n1, .int .i64 n2, .int .i64 n3, .int .i64 n4, v] 26 (0, 0)))
  (hR : Kd.R (Kd.int .i64) 3 W w.heap.size ok v l) (hB : Below w.heap.size w W) (hK : W.heap[D]? = some (.deferred (some []))) :
  ((((((W.setCell ⟨w.heap.size, 0, none⟩ (.int .i64 n0)).setCell ⟨w.heap.size, 1, none⟩ (.int .i64 n1)).setCell ⟨w.heap.size, 2, none⟩ (.int .i64 n2)).setCell ⟨w.heap.size, 3, none⟩ (.int .i64 n3)).setCell ⟨w.heap.size, 4, none⟩ (.int .i64 n4)).setCell ⟨w.heap.size, 5, none⟩ (v)).heap[D]? = some (.deferred (some [])) ∧ (((((((W.setCell ⟨w.heap.size, 0, none⟩ (.int .i64 n0)).setCell ⟨w.heap.size, 1, none⟩ (.int .i64 n1)).setCell ⟨w.heap.size, 2, none⟩ (.int .i64 n2)).setCell ⟨w.heap.size, 3, none⟩ (.int .i64 n3)).setCell ⟨w.heap.size, 4, none⟩ (.int .i64 n4)).setCell ⟨w.heap.size, 5, none⟩ (v)).putObj D (.deferred none)).heap[w.heap.size]? = some (.cells #[.int .i64 n0, .int .i64 n1, .int .i64 n2, .int .i64 n3, .int .i64 n4, v] 26 (0, 0)) ∧
   Kd.R (Kd.int .i64) 3 (((((((W.setCell ⟨w.heap.size, 0, none⟩ (.int .i64 n0)).setCell ⟨w.heap.size, 1, none⟩ (.int .i64 n1)).setCell ⟨w.heap.size, 2, none⟩ (.int .i64 n2)).setCell ⟨w.heap.size, 3, none⟩ (.int .i64 n3)).setCell ⟨w.heap.size, 4, none⟩ (.int .i64 n4)).setCell ⟨w.heap.size, 5, none⟩ (v)).putObj D (.deferred none)) w.heap.size (fun _ => True) v l ∧ Below w.heap.size w (((((((W.setCell ⟨w.heap.size, 0, none⟩ (.int .i64 n0)).setCell ⟨w.heap.size, 1, none⟩ (.int .i64 n1)).setCell ⟨w.heap.size, 2, none⟩ (.int .i64 n2)).setCell ⟨w.heap.size, 3, none⟩ (.int .i64 n3)).setCell ⟨w.heap.size, 4, none⟩ (.int .i64 n4)).setCell ⟨w.heap.size, 5, none⟩ (v)).putObj D (.deferred none)) := by
 have hrow : HasRow w.heap.size 26 6 W := ⟨_, hA, rfl⟩
 have hA2 := row_sets hrow (.int .i64 n0) (.int .i64 n1) (.int .i64 n2) (.int .i64 n3) (.int .i64 n4) v
 have hR2 := Kd.R_far (Kd.R_far (Kd.R_far (Kd.R_far (Kd.R_far (Kd.R_far hR (p := ⟨w.heap.size, 0, none⟩) hok (.int .i64 n0)) (p := ⟨w.heap.size, 1, none⟩) hok (.int .i64 n1)) (p := ⟨w.heap.size, 2, none⟩) hok (.int .i64 n2)) (p := ⟨w.heap.size, 3, none⟩) hok (.int .i64 n3)) (p := ⟨w.heap.size, 4, none⟩) hok (.int .i64 n4)) (p := ⟨w.heap.size, 5, none⟩) hok v
 have hB2 := (((((hB.setCell (p := ⟨w.heap.size, 0, none⟩) (Nat.le_refl _) (.int .i64 n0)).setCell (p := ⟨w.heap.size, 1, none⟩) (Nat.le_refl _) (.int .i64 n1)).setCell (p := ⟨w.heap.size, 2, none⟩) (Nat.le_refl _) (.int .i64 n2)).setCell (p := ⟨w.heap.size, 3, none⟩) (Nat.le_refl _) (.int .i64 n3)).setCell (p := ⟨w.heap.size, 4, none⟩) (Nat.le_refl _) (.int .i64 n4)).setCell (p := ⟨w.heap.size, 5, none⟩) (Nat.le_refl _) v
 have hK2 := (KeepsOthers.setCell _ ⟨w.heap.size, 5, none⟩ v).same D _ ((KeepsOthers.setCell _ ⟨w.heap.size, 4, none⟩ (.int .i64 n4)).same D _ ((KeepsOthers.setCell _ ⟨w.heap.size, 3, none⟩ (.int .i64 n3)).same D _ ((KeepsOthers.setCell _ ⟨w.heap.size, 2, none⟩ (.int .i64 n2)).same D _ ((KeepsOthers.setCell _ ⟨w.heap.size, 1, none⟩ (.int .i64 n1)).same D _ ((KeepsOthers.setCell W ⟨w.heap.size, 0, none⟩ (.int .i64 n0)).same D _ hK rfl) rfl) rfl) rfl) rfl) rfl
 generalize ((((((W.setCell ⟨w.heap.size, 0, none⟩ (.int .i64 n0)).setCell ⟨w.heap.size, 1, none⟩ (.int .i64 n1)).setCell ⟨w.heap.size, 2, none⟩ (.int .i64 n2)).setCell ⟨w.heap.size, 3, none⟩ (.int .i64 n3)).setCell ⟨w.heap.size, 4, none⟩ (.int .i64 n4)).setCell ⟨w.heap.size, 5, none⟩ (v)) = X at hA2 hR2 hB2 hK2 ⊢
 refine ⟨hK2, (World.putObj_heap_other (by omega)).trans hA2, Kd.R_mono (Kd.R_grown (Kd.R_bound hR2) (grownBy_putObj' X D (.deferred none)) (fun k hk e => ?_)) (fun _ _ => trivial), hB2.trans ⟨rfl, rfl, rfl, by simp, fun k hk => World.putObj_heap_other (by omega)⟩⟩
 obtain ⟨_, _, _, q, _, cells, hc⟩ := hk
 cases e
 rw [hK2] at hc
 cases hc
theorem dash_iff (e : ByteArray) : e.toList = [45] ↔ e = ⟨#[45]⟩ := by
 have h : e.toList = e.data.toList := ByteArray.toList_eq e
 rw [h]
 constructor
 ·intro he
  apply ByteArray.ext
  apply Array.toList_inj.1
  exact he
 ·rintro rfl
  rfl
theorem then_world {Q : Exit → Act → World → Prop} {e : Exit} {a : Act} {W : World} (p : World → Prop) (h : p W) (k : ∀ W2, p W2 → Q e a W2) : Q e a W := k W h
theorem splitSeq (s sep : ByteArray) (w : World) :
  Calls Tryz.prog 52 #[.string s, .string sep] w fun e w' => e = .returned (.func (.func 116) #[] #[.pointer (some ⟨w.heap.size + 1, 0, none⟩), .pointer (some ⟨w.heap.size, 0, none⟩), .pointer (some ⟨w.heap.size + 2, 0, none⟩)]) ∧
   w' = ((w.alloc (.cells #[.string s] 9)).alloc (.cells #[.string sep] 9)).alloc (.cells #[.int .i64 0] 3) := by
 have h87 : Calls Tryz.prog 87 #[.string s, .string sep, .int .i64 0] w fun e w' => e = .returned (.func (.func 116) #[] #[.pointer (some ⟨w.heap.size + 1, 0, none⟩), .pointer (some ⟨w.heap.size, 0, none⟩), .pointer (some ⟨w.heap.size + 2, 0, none⟩)]) ∧
   w' = ((w.alloc (.cells #[.string s] 9)).alloc (.cells #[.string sep] 9)).alloc (.cells #[.int .i64 0] 3) := by
  go_enter Tryz.func87, Tryz.ntmps87
  go_wp2
  go_ret
  exact ⟨by simp, rfl⟩
 go_enter Tryz.func52, Tryz.ntmps52
 go_wp2_with (go_at_call 87; refine h87.mono ?_; rintro e w' ⟨rfl, rfl⟩)
 go_ret
 exact ⟨rfl, rfl⟩
set_option maxHeartbeats 4000000 in
set_option maxRecDepth 100000 in
theorem readBill (ws : List ByteArray) (A : Option Addr) (c : Nat) (w : World) (hr : Kd.C Kd.string w A ws.length ws) (hc : ws.length ≤ c) (hsz : ∀ x ∈ ws, x.size ≤ 1000000) (hw : Base w) :
  Calls Tryz.prog 49 #[.slice A ws.length c] w fun e w' => ∃ v, e = .returned (.agg #[.int .i64 (readB ws).f0, .int .i64 (readB ws).f1, .int .i64 (readB ws).f2, .int .i64 (readB ws).f3, .int .i64 (readB ws).f4, v]) ∧
   Kd.R (Kd.int .i64) 3 w' w.heap.size (fun _ => True) v (readB ws).f5 ∧ Below w.heap.size w w' := by
 have hu26 := Tryz.underlying26
 refine (callsIn_wide (n := 9)).1 ?_
 refine callsIn_of_wp_marks Tryz.func49 rfl trivial ?_ rfl
 simp only [Tryz.ntmps49, List.size_toArray, List.length_cons, List.length_nil, Nat.reduceAdd, Nat.reduceSub, Array.replicate_succ, Array.replicate_zero, List.push_toArray, List.append_toArray, List.nil_append, List.cons_append]
 refine wpIn_wide.2 ?_
 by_cases h5 : ws.length = 5
 ·obtain ⟨a, b, c₀, d, e, rfl⟩ : ∃ a b c d e, ws = [a, b, c, d, e] := by
   match ws, h5 with
   | [a, b, c, d, e], _ => exact ⟨a, b, c, d, e, rfl⟩
  obtain ⟨ad, hA, k0⟩ := Kd.at_string hr 0 (by omega) (by simp)
  obtain ⟨_, hA1, k1⟩ := Kd.at_string hr 1 (by omega) (by simp)
  obtain ⟨_, hA2, k2⟩ := Kd.at_string hr 2 (by omega) (by simp)
  obtain ⟨_, hA3, k3⟩ := Kd.at_string hr 3 (by omega) (by simp)
  obtain ⟨_, hA4, k4⟩ := Kd.at_string hr 4 (by omega) (by simp)
  subst hA
  cases hA1; cases hA2; cases hA3; cases hA4
  have e0 : rdOf ByteArray.empty [a, b, c₀, d, e] 0 = a := rfl
  have e1 : rdOf ByteArray.empty [a, b, c₀, d, e] 1 = b := rfl
  have e2 : rdOf ByteArray.empty [a, b, c₀, d, e] 2 = c₀ := rfl
  have e3 : rdOf ByteArray.empty [a, b, c₀, d, e] 3 = d := rfl
  have e4 : rdOf ByteArray.empty [a, b, c₀, d, e] 4 = e := rfl
  rw [e0] at k0
  rw [e1] at k1
  rw [e2] at k2
  rw [e3] at k3
  rw [e4] at k4
  have k0' : w.cell? ad = some (.string a) := k0
  have k1' : w.cell? ⟨ad.block, ad.off + 1, none⟩ = some (.string b) := k1
  have k2' : w.cell? ⟨ad.block, ad.off + 2, none⟩ = some (.string c₀) := k2
  have k3' : w.cell? ⟨ad.block, ad.off + 3, none⟩ = some (.string d) := k3
  have k4' : w.cell? ⟨ad.block, ad.off + 4, none⟩ = some (.string e) := k4
  clear k0 k1 k2 k3 k4 e0 e1 e2 e3 e4
  have s0 := hsz a (by simp)
  have s1 := hsz b (by simp)
  have s2 := hsz c₀ (by simp)
  have s3 := hsz d (by simp)
  have s4 := hsz e (by simp)
  have hlen : [a, b, c₀, d, e].length = 5 := rfl
  rw [hlen]
  obtain ⟨m, hm⟩ := hw.maxLen
  have hadb : ad.block < w.heap.size := xbl w _ k0'
  go_upto_region 1 with fail
  generalize hB : (w.alloc (.cells #[.int .i64 0, .int .i64 0, .int .i64 0, .int .i64 0, .int .i64 0, .slice none 0 0] 26)) = W0
  have hb0 : Below w.heap.size w W0 := by rw [← hB]; exact below_alloc (Below.refl _ _) _
  have hblk : W0.heap[w.heap.size]? = some (.cells #[.int .i64 0, .int .i64 0, .int .i64 0, .int .i64 0, .int .i64 0, .slice none 0 0] 26 (0, 0)) := by rw [← hB]; exact heap_alloc_new _ _
  have hsz0 : W0.heap.size = w.heap.size + 1 := by rw [← hB]; simp
  clear hB
  replace k0' := keepCell k0' hb0
  replace k1' := keepCell k1' hb0
  replace k2' := keepCell k2' hb0
  replace k3' := keepCell k3' hb0
  replace k4' := keepCell k4' hb0
  have hw0 : Base W0 := hw.step hb0
  obtain ⟨m, hm⟩ := hw0.maxLen
  have hlL := cutL_size d
  have hlR := cutR_size d
  have hcut : Calls Tryz.prog 50 #[.string d, .string ⟨#[62]⟩] W0 fun e w' => e = .returned (.tuple #[.string (cutL d), .string (cutR d), .bool (Lib.cut d.data.toList [62]).snd.snd]) ∧ ∃ n, w' = W0.drewN n := Tryz.strings_Cut d ⟨#[62]⟩ m _ (by omega) hm
  obtain ⟨Lq, hLq⟩ : ∃ Lq, Aside0 (cutL d = Lq) := ⟨_, ⟨rfl⟩⟩
  obtain ⟨Rq, hRq⟩ : ∃ Rq, Aside0 (cutR d = Rq) := ⟨_, ⟨rfl⟩⟩
  rw [hLq.out] at hcut hlL
  rw [hRq.out] at hcut hlR
  replace hlL : Lq.size ≤ 1000000 := by omega
  replace hlR : Rq.size ≤ 1000000 := by omega
  generalize (Lib.cut d.data.toList [62]).snd.snd = bq at hcut
  go_upto_region 4 with (go_at_call 50; refine hcut.mono ?_; rintro e w' ⟨rfl, nd, rfl⟩)
  clear hcut
  have hb1 : Below W0.heap.size W0 (W0.drewN nd) := pw_below_drewN (Below.refl _ _) nd
  obtain ⟨W1, hW1⟩ : ∃ W1, W0.drewN nd = W1 := ⟨_, rfl⟩
  rw [hW1] at hb1 ⊢
  clear hW1
  replace k0' := keepCell k0' hb1
  replace k1' := keepCell k1' hb1
  replace k2' := keepCell k2' hb1
  replace k3' := keepCell k3' hb1
  replace k4' := keepCell k4' hb1
  replace hblk := (hb1.block w.heap.size (by omega)).trans hblk
  have hw1 : Base W1 := hw0.step hb1
  go_cut [35] from 19 to 35 (fun s35 W2 => W2.heap[w.heap.size]? = some (.cells #[.int .i64 (numOf a), .int .i64 (numOf b), .int .i64 (numOf c₀), .int .i64 (numOf Lq), .int .i64 (numOf Rq), .slice none 0 0] 26 (0, 0)) ∧ Below w.heap.size W1 W2)
  case first =>
   have hrow : HasRow w.heap.size 26 6 W1 := ⟨_, hblk, rfl⟩
   have hS : ∀ w2 : World, HasRow w.heap.size 26 6 w2 → Below w.heap.size W1 w2 → w2.cell? ad = some (.string a) ∧ w2.cell? ⟨ad.block, ad.off + 1, none⟩ = some (.string b) ∧ w2.cell? ⟨ad.block, ad.off + 2, none⟩ = some (.string c₀) ∧ w2.cell? ⟨w.heap.size, 0, none⟩ = some (cv w2 w.heap.size 0) ∧ w2.cell? ⟨w.heap.size, 1, none⟩ = some (cv w2 w.heap.size 1) ∧ w2.cell? ⟨w.heap.size, 2, none⟩ = some (cv w2 w.heap.size 2) ∧ w2.cell? ⟨w.heap.size, 3, none⟩ = some (cv w2 w.heap.size 3) ∧ w2.cell? ⟨w.heap.size, 4, none⟩ = some (cv w2 w.heap.size 4) ∧ w2.cell? ⟨w.heap.size, 5, none⟩ = some (cv w2 w.heap.size 5) ∧ w2.frozen? ⟨w.heap.size, 0, none⟩ = false ∧ w2.frozen? ⟨w.heap.size, 1, none⟩ = false ∧ w2.frozen? ⟨w.heap.size, 2, none⟩ = false ∧ w2.frozen? ⟨w.heap.size, 3, none⟩ = false ∧ w2.frozen? ⟨w.heap.size, 4, none⟩ = false ∧ w2.frozen? ⟨w.heap.size, 5, none⟩ = false ∧ HasRow w.heap.size 26 6 w2 ∧ Below w.heap.size W1 w2 :=
    fun w2 hr2 h6 => ⟨(h6.cell hadb).trans k0', (h6.cell (p := ⟨ad.block, ad.off + 1, none⟩) hadb).trans k1', (h6.cell (p := ⟨ad.block, ad.off + 2, none⟩) hadb).trans k2', hr2.cell 0 (by omega), hr2.cell 1 (by omega), hr2.cell 2 (by omega), hr2.cell 3 (by omega), hr2.cell 4 (by omega), hr2.cell 5 (by omega), hr2.frozen 0, hr2.frozen 1, hr2.frozen 2, hr2.frozen 3, hr2.frozen 4, hr2.frozen 5, hr2, h6⟩
   have hle : ∀ w1 : World, Below w.heap.size W1 w1 → w.heap.size ≤ w1.heap.size := fun w1 h => by have := h.size; have := hrow.lt; omega
   have hcall : ∀ w1 w2 : World, Below w1.heap.size w1 w2 → HasRow w.heap.size 26 6 w1 → Below w.heap.size W1 w1 → w2.cell? ad = some (.string a) ∧ w2.cell? ⟨ad.block, ad.off + 1, none⟩ = some (.string b) ∧ w2.cell? ⟨ad.block, ad.off + 2, none⟩ = some (.string c₀) ∧ w2.cell? ⟨w.heap.size, 0, none⟩ = some (cv w2 w.heap.size 0) ∧ w2.cell? ⟨w.heap.size, 1, none⟩ = some (cv w2 w.heap.size 1) ∧ w2.cell? ⟨w.heap.size, 2, none⟩ = some (cv w2 w.heap.size 2) ∧ w2.cell? ⟨w.heap.size, 3, none⟩ = some (cv w2 w.heap.size 3) ∧ w2.cell? ⟨w.heap.size, 4, none⟩ = some (cv w2 w.heap.size 4) ∧ w2.cell? ⟨w.heap.size, 5, none⟩ = some (cv w2 w.heap.size 5) ∧ w2.frozen? ⟨w.heap.size, 0, none⟩ = false ∧ w2.frozen? ⟨w.heap.size, 1, none⟩ = false ∧ w2.frozen? ⟨w.heap.size, 2, none⟩ = false ∧ w2.frozen? ⟨w.heap.size, 3, none⟩ = false ∧ w2.frozen? ⟨w.heap.size, 4, none⟩ = false ∧ w2.frozen? ⟨w.heap.size, 5, none⟩ = false ∧ HasRow w.heap.size 26 6 w2 ∧ Below w.heap.size W1 w2 := fun w1 w2 hb hr1 h6 => hS w2 (hr1.below hb) (h6.trans (hb.mono (hle w1 h6)))
   have hstore : ∀ (w1 : World) (v0 v1 v2 v3 v4 v5 : Value), HasRow w.heap.size 26 6 w1 → Below w.heap.size W1 w1 → ∀ w2, w2 = ((((((w1.setCell ⟨w.heap.size, 0, none⟩ v0).setCell ⟨w.heap.size, 1, none⟩ v1).setCell ⟨w.heap.size, 2, none⟩ v2).setCell ⟨w.heap.size, 3, none⟩ v3).setCell ⟨w.heap.size, 4, none⟩ v4).setCell ⟨w.heap.size, 5, none⟩ v5) → w2.cell? ad = some (.string a) ∧ w2.cell? ⟨ad.block, ad.off + 1, none⟩ = some (.string b) ∧ w2.cell? ⟨ad.block, ad.off + 2, none⟩ = some (.string c₀) ∧ w2.cell? ⟨w.heap.size, 0, none⟩ = some (cv w2 w.heap.size 0) ∧ w2.cell? ⟨w.heap.size, 1, none⟩ = some (cv w2 w.heap.size 1) ∧ w2.cell? ⟨w.heap.size, 2, none⟩ = some (cv w2 w.heap.size 2) ∧ w2.cell? ⟨w.heap.size, 3, none⟩ = some (cv w2 w.heap.size 3) ∧ w2.cell? ⟨w.heap.size, 4, none⟩ = some (cv w2 w.heap.size 4) ∧ w2.cell? ⟨w.heap.size, 5, none⟩ = some (cv w2 w.heap.size 5) ∧ w2.frozen? ⟨w.heap.size, 0, none⟩ = false ∧ w2.frozen? ⟨w.heap.size, 1, none⟩ = false ∧ w2.frozen? ⟨w.heap.size, 2, none⟩ = false ∧ w2.frozen? ⟨w.heap.size, 3, none⟩ = false ∧ w2.frozen? ⟨w.heap.size, 4, none⟩ = false ∧ w2.frozen? ⟨w.heap.size, 5, none⟩ = false ∧ HasRow w.heap.size 26 6 w2 ∧ Below w.heap.size W1 w2 := by
    rintro w1 v0 v1 v2 v3 v4 v5 hr1 h6 w2 rfl
    exact hS _ ((((((hr1.set 0 _).set 1 _).set 2 _).set 3 _).set 4 _).set 5 _) ((((((h6.setCell (p := ⟨w.heap.size, 0, none⟩) (Nat.le_refl _) _).setCell (p := ⟨w.heap.size, 1, none⟩) (Nat.le_refl _) _).setCell (p := ⟨w.heap.size, 2, none⟩) (Nat.le_refl _) _).setCell (p := ⟨w.heap.size, 3, none⟩) (Nat.le_refl _) _).setCell (p := ⟨w.heap.size, 4, none⟩) (Nat.le_refl _) _).setCell (p := ⟨w.heap.size, 5, none⟩) (Nat.le_refl _) _)
   have hBa : ∀ w3, Below w.heap.size W1 w3 → Base w3 := fun w3 h => hw1.below h hw.room
   have g5 := Below.refl w.heap.size W1
   have hstart := hS W1.drew hrow (below_drew g5)
   go_region_held3 (fun w2 => w2.cell? ad = some (.string a) ∧ w2.cell? ⟨ad.block, ad.off + 1, none⟩ = some (.string b) ∧ w2.cell? ⟨ad.block, ad.off + 2, none⟩ = some (.string c₀) ∧ w2.cell? ⟨w.heap.size, 0, none⟩ = some (cv w2 w.heap.size 0) ∧ w2.cell? ⟨w.heap.size, 1, none⟩ = some (cv w2 w.heap.size 1) ∧ w2.cell? ⟨w.heap.size, 2, none⟩ = some (cv w2 w.heap.size 2) ∧ w2.cell? ⟨w.heap.size, 3, none⟩ = some (cv w2 w.heap.size 3) ∧ w2.cell? ⟨w.heap.size, 4, none⟩ = some (cv w2 w.heap.size 4) ∧ w2.cell? ⟨w.heap.size, 5, none⟩ = some (cv w2 w.heap.size 5) ∧ w2.frozen? ⟨w.heap.size, 0, none⟩ = false ∧ w2.frozen? ⟨w.heap.size, 1, none⟩ = false ∧ w2.frozen? ⟨w.heap.size, 2, none⟩ = false ∧ w2.frozen? ⟨w.heap.size, 3, none⟩ = false ∧ w2.frozen? ⟨w.heap.size, 4, none⟩ = false ∧ w2.frozen? ⟨w.heap.size, 5, none⟩ = false ∧ HasRow w.heap.size 26 6 w2 ∧ Below w.heap.size W1 w2)
    (first
     | with_reducible exact hstart
     | (go_split_ands; with_reducible exact hcall _ _ ‹Below _ _ ‹World›› (by with_reducible assumption) (by with_reducible assumption))
     | (go_split_ands; with_reducible exact hstore _ _ _ _ _ _ _ (by with_reducible assumption) (by with_reducible assumption) _ rfl))
    (first
     | (go_at_call 51; go_split_ands; refine (number51 _ (by with_reducible assumption) _ (hBa _ (by with_reducible assumption))).mono ?_; rintro e w' ⟨rfl, hb⟩))
   go_split_ands
   all_goals (go_wp2_with fail; go_meet; exact ⟨row_sets (HasRow.unset (HasRow.unset (HasRow.unset (HasRow.unset (HasRow.unset (HasRow.unset (by with_reducible assumption))))))) _ _ _ _ _ _, by with_reducible assumption⟩)
  case rest =>
   obtain ⟨hblk2, hb2⟩ := hcut
   have k4'' : wc.cell? ⟨ad.block, ad.off + 4, none⟩ = some (.string e) := (hb2.cell (p := ⟨ad.block, ad.off + 4, none⟩) hadb).trans k4'
   have hw2 : Base wc := hw1.below hb2 hw.room
   have hbw2 : Below w.heap.size w wc := (hb0.trans (hb1.mono (by omega))).trans hb2
   have b0 : wc.cell? ⟨w.heap.size, 0, none⟩ = some (.int .i64 (numOf a)) := by rw [Lib.cell_of_heap hblk2]; rfl
   have b1 : wc.cell? ⟨w.heap.size, 1, none⟩ = some (.int .i64 (numOf b)) := by rw [Lib.cell_of_heap hblk2]; rfl
   have b2 : wc.cell? ⟨w.heap.size, 2, none⟩ = some (.int .i64 (numOf c₀)) := by rw [Lib.cell_of_heap hblk2]; rfl
   have b3 : wc.cell? ⟨w.heap.size, 3, none⟩ = some (.int .i64 (numOf Lq)) := by rw [Lib.cell_of_heap hblk2]; rfl
   have b4 : wc.cell? ⟨w.heap.size, 4, none⟩ = some (.int .i64 (numOf Rq)) := by rw [Lib.cell_of_heap hblk2]; rfl
   have b5 : wc.cell? ⟨w.heap.size, 5, none⟩ = some (.slice none 0 0) := by rw [Lib.cell_of_heap hblk2]; rfl
   have f0 : wc.frozen? ⟨w.heap.size, 0, none⟩ = false := Lib.frozen_of_heap hblk2 0
   have f1 : wc.frozen? ⟨w.heap.size, 1, none⟩ = false := Lib.frozen_of_heap hblk2 1
   have f2 : wc.frozen? ⟨w.heap.size, 2, none⟩ = false := Lib.frozen_of_heap hblk2 2
   have f3 : wc.frozen? ⟨w.heap.size, 3, none⟩ = false := Lib.frozen_of_heap hblk2 3
   have f4 : wc.frozen? ⟨w.heap.size, 4, none⟩ = false := Lib.frozen_of_heap hblk2 4
   have f5 : wc.frozen? ⟨w.heap.size, 5, none⟩ = false := Lib.frozen_of_heap hblk2 5
   by_cases he : e = ⟨#[45]⟩
   ·have z1 : (e.toList == [45]) = true := beq_iff_eq.2 ((dash_iff e).2 he)
    have he' := Aside0.mk he
    clear he
    go_wp2_with fail
    have hx := HasRow.set (HasRow.set (HasRow.set (HasRow.set (HasRow.set (HasRow.set (w := wc) ⟨_, hblk2, rfl⟩ 0 (.int .i64 (numOf a))) 1 (.int .i64 (numOf b))) 2 (.int .i64 (numOf c₀))) 3 (.int .i64 (numOf Lq))) 4 (.int .i64 (numOf Rq))) 5 (.slice none 0 0)
    refine ⟨_, results_cell_row rfl _ _ w.heap.size 26 _ (0, 0) _ rfl (row_sets ⟨_, hblk2, rfl⟩ _ _ _ _ _ _) hu26 rfl (by kernel_rfl), ?_⟩
    have hrd : readB [a, b, c₀, d, e] = ⟨numOf a, numOf b, numOf c₀, numOf Lq, numOf Rq, []⟩ := by
     show S26.mk (numOf a) (numOf b) (numOf c₀) (numOf (cutL d)) (numOf (cutR d)) (if e = ⟨#[45]⟩ then [] else (piecesOf 44 e).map numOf) = _
     rw [if_pos he'.out, hLq.out, hRq.out]
    rw [hrd]
    exact ⟨_, rfl, Kd.R_nil _ _ _ _ _, (((((hbw2.setCell (p := ⟨w.heap.size, 0, none⟩) (Nat.le_refl _) _).setCell (p := ⟨w.heap.size, 1, none⟩) (Nat.le_refl _) _).setCell (p := ⟨w.heap.size, 2, none⟩) (Nat.le_refl _) _).setCell (p := ⟨w.heap.size, 3, none⟩) (Nat.le_refl _) _).setCell (p := ⟨w.heap.size, 4, none⟩) (Nat.le_refl _) _).setCell (p := ⟨w.heap.size, 5, none⟩) (Nat.le_refl _) _⟩
   ·have z1 : (e.toList == [45]) = false := beq_eq_false_iff_ne.2 (fun h => he ((dash_iff e).1 h))
    clear b0 b1 b2 b3 b4 b5 f0 f1 f2 f3 f4 f5
    go_wp2_with (go_at_call 52; refine (splitSeq e ⟨#[44]⟩ _).mono ?_; rintro e w' ⟨rfl, rfl⟩)
    obtain ⟨W3, hW3⟩ : ∃ W3, ((wc.alloc (.cells #[.string e] 9)).alloc (.cells #[.string ⟨#[44]⟩] 9)).alloc (.cells #[.int .i64 0] 3) = W3 := ⟨_, rfl⟩
    rw [hW3]
    obtain ⟨hsz3, hb3, i0, i1, i2, if0⟩ := three_boxes wc (.string e) (.string ⟨#[44]⟩) (.int .i64 0) 9 9 3
    rw [hW3] at hsz3 hb3 i0 i1 i2 if0
    clear hW3
    have hwcl : w.heap.size < wc.heap.size := (Array.getElem?_eq_some_iff.1 hblk2).1
    refine (wpIn_wide (n := 9)).1 ?_
    refine range_z rfl (by omega) (gf := 116) rfl trivial (enters_of Tryz.func116 (by kernel_rfl) rfl) (Z := fun k => wc.heap.size ≤ k ∧ k < wc.heap.size + 3) (fun k hk => by omega)
     (split_seq 8 (by omega) wc.heap.size 44 e s4 W3 i0 if0 i1 i2) rfl
     (fun pre W => ∃ v, W.heap[w.heap.size]? = some (.cells #[.int .i64 (numOf a), .int .i64 (numOf b), .int .i64 (numOf c₀), .int .i64 (numOf Lq), .int .i64 (numOf Rq), v] 26 (0, 0)) ∧ Kd.R (Kd.int .i64) 3 W w.heap.size (fun k => k ≠ w.heap.size ∧ ¬ (wc.heap.size ≤ k ∧ k < wc.heap.size + 3)) v (pre.map numOf) ∧ Below w.heap.size w W ∧ wc.heap.size + 3 ≤ W.heap.size)
     (fun _ _ => False) ?kI (fun _ _ _ _ h _ _ => h.elim) ?h0
     ?a1 ?assign ?body ?done ?stop
    case assign =>
     intro l x W K hK
     gi_wp2
     exact hK
    case kI =>
     intro pre A B row ⟨v, hA, hR, hB, hs⟩ hg hr
     have hge : ∀ r, row = some r → wc.heap.size ≤ r := fun r e => by
      rcases hr r e with h | h
      ·exact h.1
      ·omega
     have hbl : w.heap.size < A.heap.size := (Array.getElem?_eq_some_iff.1 hA).1
     refine ⟨v, (hg.block w.heap.size hbl (fun e => by have := hge _ e.symm; omega)).trans hA, Kd.R_mono (Kd.R_grown (Kd.R_bound hR) hg (fun k hk e => ?_)) (fun _ h => h.1), hB.trans ⟨hg.os, hg.tape, hg.output, hg.size, fun k hk => hg.block k (by omega) (fun e => by have := hge _ e.symm; omega)⟩, Nat.le_trans hs hg.size⟩
     obtain ⟨hk1, _, _, q, _, cells, hc⟩ := hk
     rcases hr k e.symm with h | ⟨_, o, ho, hn⟩
     ·exact hk1.2 h
     ·rw [hc] at ho
      cases ho
      cases hn
    case h0 => exact ⟨_, (hb3.block w.heap.size hwcl).trans hblk2, Kd.R_nil _ _ _ _ _, hbw2.trans (hb3.mono (by omega)), by omega⟩
    case body =>
     rintro l pre x W ⟨v, hA, hR, hB, hs⟩ hpre
     have hxs : x.size ≤ 1000000 := Nat.le_trans (piecesOf_mem hpre) s4
     have hpl : pre.length ≤ 1000002 := Nat.le_trans (piecesOf_len hpre) (by omega)
     clear hpre
     have j5 : W.cell? ⟨w.heap.size, 5, none⟩ = some v := by rw [Lib.cell_of_heap hA]; rfl
     have jf : W.frozen? ⟨w.heap.size, 5, none⟩ = false := Lib.frozen_of_heap hA 5
     have hWb : Base W := hw.below hB hw.room
     obtain ⟨A', cq, rfl⟩ := Kd.R_slice hR
     gi_wp2
     have hWd : Base W.drew := hWb.step (below_drew (Below.refl _ _))
     refine region_inRound (S := fun _ => True) (by kernel_rfl) (by kernel_rfl) (by rintro ⟨_, _, h⟩; exact h) trivial (fun _ => ?_)
     have hbl : w.heap.size < W.heap.size := (Array.getElem?_eq_some_iff.1 hA).1
     have hbs : w.heap.size ≤ W.heap.size := Nat.le_of_lt hbl
     refine wpAnyH_take (i := 0) (oi := ?oi1) (v := ?v1) ?hi1 (by kernel_rfl) (by kernel_rfl) (by kernel_rfl) ?hq1 ?hy1 trivial ?_
     case hi1 => (simp only [xgA, xgS, xgZ]; rfl)
     case hq1 => exact fun _ _ _ h => h
     case hy1 => (refine Or.inl ⟨rfl, ?_⟩; intro w hSw; (try dsimp only at hSw); (try go_split_ands); first | (go_simp; done) | (go_simp; with_reducible rfl))
     simp only [Act.put, xsA, xsZ, xsS]
     refine wpAnyH_take (i := 2) (oi := ?oi2) (v := ?v2) ?hi2 (by kernel_rfl) (by kernel_rfl) (by kernel_rfl) ?hq2 ?hy2 trivial ?_
     case hi2 => (simp only [xgA, xgS, xgZ]; rfl)
     case hq2 => exact fun _ _ _ h => h
     case hy2 => (refine Or.inl ⟨rfl, ?_⟩; intro w hSw; (try dsimp only at hSw); (try go_split_ands); first | (go_simp; done) | (go_simp; with_reducible rfl))
     simp only [Act.put, xsA, xsZ, xsS]
     refine wpAnyH_ready (rs := [1, 3]) (by kernel_rfl) (by simp) ?_
     refine AllReadyH.cons (o := ?oi8) ?ho8 (fun K hK => ?st8) ?mo8
     case ho8 => (simp only [xgA, xgS, xgZ]; rfl)
     case st8 =>
      go_simp
      refine hK.out _ _ trivial (fun _ => ?_)
      clear hK K
      try simp only [Act.put, xsA, xsZ, xsS]
      refine wpAnyH_ready (rs := [3]) (by kernel_rfl) (by simp) ?_
      refine AllReadyH.cons (o := ?oi7) ?ho7 (fun K hK => ?st7) ?mo7
      case ho7 => (simp only [xgA, xgS, xgZ]; rfl)
      case st7 =>
       go_simp
       go_at_call 51
       refine (number51 x hxs _ hWd).mono ?_
       rintro e w' ⟨rfl, hb⟩
       simp only []
       refine hK.out _ _ trivial (fun _ => ?_)
       clear hK K
       try simp only [Act.put, xsA, xsZ, xsS]
       have hb' : Below W.heap.size W w' := below_step (below_drew (Below.refl _ _)) hb
       have j5' := keepCell j5 hb'
       refine wpAnyH_ready (rs := [4]) (by kernel_rfl) (by simp) ?_
       refine AllReadyH.cons (o := ?oi6) ?ho6 (fun K hK => ?st6) ?mo6
       case ho6 => (simp only [xgA, xgS, xgZ]; rfl)
       case st6 =>
        go_simp
        refine hK.out _ _ trivial (fun _ => ?_)
        clear hK K
        try simp only [Act.put, xsA, xsZ, xsS]
        have j6 := keepCell j5' (below_alloc (Below.refl w'.heap.size w') (.cells #[.int .i64 (numOf x)] 3))
        refine wpAnyH_ready (rs := [5]) (by kernel_rfl) (by simp) ?_
        refine AllReadyH.cons (o := ?oi5) ?ho5 (fun K hK => ?st5) ?mo5
        case ho5 => (simp only [xgA, xgS, xgZ]; rfl)
        case st5 =>
          refine Kd.R_append_step (Kd.int .i64) (w0 := W) w.heap.size rfl (.tmp 46) (.tmp 49) 24 3 (.int .i64 0) 8 rfl Tryz.underlying24 info3 rfl (by decide) (by omega) (.slice A' (pre.map numOf).length cq) (pre.map numOf) (numOf x) [.int .i64 (numOf x)] (fun k => k ≠ w.heap.size ∧ ¬ (wc.heap.size ≤ k ∧ k < wc.heap.size + 3)) (fun _ => False) (by simp only [List.length_map]; rfl) rfl rfl (fun _ hk => hk.elim) (fun k hk => ?_) (Kd.R_below hR hb') (hb'.mono hbs) (Nat.le_trans hbs hb'.size) (by simp only [List.length_map]; omega) ?_
          ·have := hb'.size; omega
          intro v1 w1 ho hb1 hg hat
          obtain ⟨A1, c1, rfl⟩ := Kd.R_slice ho
          have hA1 := (hg.block w.heap.size (by have := hb'.size; omega) (fun e => (hR.1 _ e.symm).1 rfl)).trans ((hb'.block w.heap.size hbl).trans hA)
          have j7 : w1.cell? ⟨w.heap.size, 5, none⟩ = some (.slice A' (pre.map numOf).length cq) := by rw [Lib.cell_of_heap hA1]; rfl
          have jf7 : w1.frozen? ⟨w.heap.size, 5, none⟩ = false := Lib.frozen_of_heap hA1 5
          refine hK.out _ _ trivial (fun _ => ?_)
          clear hK K
          try simp only [Act.put, xsA, xsZ, xsS]
          refine wpAnyH_take (i := 6) (oi := ?oi3) (v := ?v3) ?hi3 (by kernel_rfl) (by kernel_rfl) (by kernel_rfl) ?hq3 ?hy3 trivial ?_
          case hi3 => (simp only [xgA, xgS, xgZ]; rfl)
          case hq3 => exact fun _ _ _ h => h
          case hy3 => (refine Or.inl ⟨rfl, ?_⟩; intro w hSw; (try dsimp only at hSw); (try go_split_ands); first | (go_simp; done) | (go_simp; with_reducible rfl))
          simp only [Act.put, xsA, xsZ, xsS]
          refine wpAnyH_ready (rs := [7]) (by kernel_rfl) (by simp) ?_
          refine AllReadyH.cons (o := ?oi4) ?ho4 (fun K hK => ?st4) ?mo4
          case ho4 => (simp only [xgA, xgS, xgZ]; rfl)
          case st4 =>
            go_simp
            refine hK.out _ _ trivial (fun _ => ?_)
            clear hK K
            try simp only [Act.put, xsA, xsZ, xsS]
            refine wpAnyH_done (by kernel_rfl) ?_ _
            have hfin := fin8 hbl hbs hs hwcl hA hR hB hb' ho hg hA1
            simp only [List.length_append, List.length_map, List.length_cons, List.length_nil, Nat.zero_add] at hfin
            rw [(by simp : List.map numOf pre ++ [numOf x] = (pre ++ [x]).map numOf)] at hfin
            exact hfin
          case mo4 =>
          exact AllReadyH.nil
        case mo5 =>
        exact AllReadyH.nil
       case mo6 =>
       exact AllReadyH.nil
      case mo7 =>
      exact AllReadyH.nil
     case mo8 =>
     refine AllReadyH.cons (o := ?oi19) ?ho19 (fun K hK => ?st19) ?mo19
     case ho19 => (simp only [xgA, xgS, xgZ]; rfl)
     case st19 =>
      go_simp
      go_at_call 51
      refine (number51 x hxs _ hWd).mono ?_
      rintro e w' ⟨rfl, hb⟩
      simp only []
      refine hK.out _ _ trivial (fun _ => ?_)
      clear hK K
      try simp only [Act.put, xsA, xsZ, xsS]
      have hb' : Below W.heap.size W w' := below_step (below_drew (Below.refl _ _)) hb
      have j5' := keepCell j5 hb'
      refine wpAnyH_ready (rs := [1, 4]) (by kernel_rfl) (by simp) ?_
      refine AllReadyH.cons (o := ?oi13) ?ho13 (fun K hK => ?st13) ?mo13
      case ho13 => (simp only [xgA, xgS, xgZ]; rfl)
      case st13 =>
       go_simp
       refine hK.out _ _ trivial (fun _ => ?_)
       clear hK K
       try simp only [Act.put, xsA, xsZ, xsS]
       refine wpAnyH_ready (rs := [4]) (by kernel_rfl) (by simp) ?_
       refine AllReadyH.cons (o := ?oi12) ?ho12 (fun K hK => ?st12) ?mo12
       case ho12 => (simp only [xgA, xgS, xgZ]; rfl)
       case st12 =>
        go_simp
        refine hK.out _ _ trivial (fun _ => ?_)
        clear hK K
        try simp only [Act.put, xsA, xsZ, xsS]
        have j6 := keepCell j5' (below_alloc (Below.refl w'.heap.size w') (.cells #[.int .i64 (numOf x)] 3))
        refine wpAnyH_ready (rs := [5]) (by kernel_rfl) (by simp) ?_
        refine AllReadyH.cons (o := ?oi11) ?ho11 (fun K hK => ?st11) ?mo11
        case ho11 => (simp only [xgA, xgS, xgZ]; rfl)
        case st11 =>
          refine Kd.R_append_step (Kd.int .i64) (w0 := W) w.heap.size rfl (.tmp 46) (.tmp 49) 24 3 (.int .i64 0) 8 rfl Tryz.underlying24 info3 rfl (by decide) (by omega) (.slice A' (pre.map numOf).length cq) (pre.map numOf) (numOf x) [.int .i64 (numOf x)] (fun k => k ≠ w.heap.size ∧ ¬ (wc.heap.size ≤ k ∧ k < wc.heap.size + 3)) (fun _ => False) (by simp only [List.length_map]; rfl) rfl rfl (fun _ hk => hk.elim) (fun k hk => ?_) (Kd.R_below hR hb') (hb'.mono hbs) (Nat.le_trans hbs hb'.size) (by simp only [List.length_map]; omega) ?_
          ·have := hb'.size; omega
          intro v1 w1 ho hb1 hg hat
          obtain ⟨A1, c1, rfl⟩ := Kd.R_slice ho
          have hA1 := (hg.block w.heap.size (by have := hb'.size; omega) (fun e => (hR.1 _ e.symm).1 rfl)).trans ((hb'.block w.heap.size hbl).trans hA)
          have j7 : w1.cell? ⟨w.heap.size, 5, none⟩ = some (.slice A' (pre.map numOf).length cq) := by rw [Lib.cell_of_heap hA1]; rfl
          have jf7 : w1.frozen? ⟨w.heap.size, 5, none⟩ = false := Lib.frozen_of_heap hA1 5
          refine hK.out _ _ trivial (fun _ => ?_)
          clear hK K
          try simp only [Act.put, xsA, xsZ, xsS]
          refine wpAnyH_take (i := 6) (oi := ?oi9) (v := ?v9) ?hi9 (by kernel_rfl) (by kernel_rfl) (by kernel_rfl) ?hq9 ?hy9 trivial ?_
          case hi9 => (simp only [xgA, xgS, xgZ]; rfl)
          case hq9 => exact fun _ _ _ h => h
          case hy9 => (refine Or.inl ⟨rfl, ?_⟩; intro w hSw; (try dsimp only at hSw); (try go_split_ands); first | (go_simp; done) | (go_simp; with_reducible rfl))
          simp only [Act.put, xsA, xsZ, xsS]
          refine wpAnyH_ready (rs := [7]) (by kernel_rfl) (by simp) ?_
          refine AllReadyH.cons (o := ?oi10) ?ho10 (fun K hK => ?st10) ?mo10
          case ho10 => (simp only [xgA, xgS, xgZ]; rfl)
          case st10 =>
            go_simp
            refine hK.out _ _ trivial (fun _ => ?_)
            clear hK K
            try simp only [Act.put, xsA, xsZ, xsS]
            refine wpAnyH_done (by kernel_rfl) ?_ _
            have hfin := fin8 hbl hbs hs hwcl hA hR hB hb' ho hg hA1
            simp only [List.length_append, List.length_map, List.length_cons, List.length_nil, Nat.zero_add] at hfin
            rw [(by simp : List.map numOf pre ++ [numOf x] = (pre ++ [x]).map numOf)] at hfin
            exact hfin
          case mo10 =>
          exact AllReadyH.nil
        case mo11 =>
        exact AllReadyH.nil
       case mo12 =>
       exact AllReadyH.nil
      case mo13 =>
      refine AllReadyH.cons (o := ?oi18) ?ho18 (fun K hK => ?st18) ?mo18
      case ho18 => (simp only [xgA, xgS, xgZ]; rfl)
      case st18 =>
       go_simp
       refine hK.out _ _ trivial (fun _ => ?_)
       clear hK K
       try simp only [Act.put, xsA, xsZ, xsS]
       have j6 := keepCell j5' (below_alloc (Below.refl w'.heap.size w') (.cells #[.int .i64 (numOf x)] 3))
       refine wpAnyH_ready (rs := [1]) (by kernel_rfl) (by simp) ?_
       refine AllReadyH.cons (o := ?oi17) ?ho17 (fun K hK => ?st17) ?mo17
       case ho17 => (simp only [xgA, xgS, xgZ]; rfl)
       case st17 =>
        go_simp
        refine hK.out _ _ trivial (fun _ => ?_)
        clear hK K
        try simp only [Act.put, xsA, xsZ, xsS]
        refine wpAnyH_ready (rs := [5]) (by kernel_rfl) (by simp) ?_
        refine AllReadyH.cons (o := ?oi16) ?ho16 (fun K hK => ?st16) ?mo16
        case ho16 => (simp only [xgA, xgS, xgZ]; rfl)
        case st16 =>
          refine Kd.R_append_step (Kd.int .i64) (w0 := W) w.heap.size rfl (.tmp 46) (.tmp 49) 24 3 (.int .i64 0) 8 rfl Tryz.underlying24 info3 rfl (by decide) (by omega) (.slice A' (pre.map numOf).length cq) (pre.map numOf) (numOf x) [.int .i64 (numOf x)] (fun k => k ≠ w.heap.size ∧ ¬ (wc.heap.size ≤ k ∧ k < wc.heap.size + 3)) (fun _ => False) (by simp only [List.length_map]; rfl) rfl rfl (fun _ hk => hk.elim) (fun k hk => ?_) (Kd.R_below hR hb') (hb'.mono hbs) (Nat.le_trans hbs hb'.size) (by simp only [List.length_map]; omega) ?_
          ·have := hb'.size; omega
          intro v1 w1 ho hb1 hg hat
          obtain ⟨A1, c1, rfl⟩ := Kd.R_slice ho
          have hA1 := (hg.block w.heap.size (by have := hb'.size; omega) (fun e => (hR.1 _ e.symm).1 rfl)).trans ((hb'.block w.heap.size hbl).trans hA)
          have j7 : w1.cell? ⟨w.heap.size, 5, none⟩ = some (.slice A' (pre.map numOf).length cq) := by rw [Lib.cell_of_heap hA1]; rfl
          have jf7 : w1.frozen? ⟨w.heap.size, 5, none⟩ = false := Lib.frozen_of_heap hA1 5
          refine hK.out _ _ trivial (fun _ => ?_)
          clear hK K
          try simp only [Act.put, xsA, xsZ, xsS]
          refine wpAnyH_take (i := 6) (oi := ?oi14) (v := ?v14) ?hi14 (by kernel_rfl) (by kernel_rfl) (by kernel_rfl) ?hq14 ?hy14 trivial ?_
          case hi14 => (simp only [xgA, xgS, xgZ]; rfl)
          case hq14 => exact fun _ _ _ h => h
          case hy14 => (refine Or.inl ⟨rfl, ?_⟩; intro w hSw; (try dsimp only at hSw); (try go_split_ands); first | (go_simp; done) | (go_simp; with_reducible rfl))
          simp only [Act.put, xsA, xsZ, xsS]
          refine wpAnyH_ready (rs := [7]) (by kernel_rfl) (by simp) ?_
          refine AllReadyH.cons (o := ?oi15) ?ho15 (fun K hK => ?st15) ?mo15
          case ho15 => (simp only [xgA, xgS, xgZ]; rfl)
          case st15 =>
            go_simp
            refine hK.out _ _ trivial (fun _ => ?_)
            clear hK K
            try simp only [Act.put, xsA, xsZ, xsS]
            refine wpAnyH_done (by kernel_rfl) ?_ _
            have hfin := fin8 hbl hbs hs hwcl hA hR hB hb' ho hg hA1
            simp only [List.length_append, List.length_map, List.length_cons, List.length_nil, Nat.zero_add] at hfin
            rw [(by simp : List.map numOf pre ++ [numOf x] = (pre ++ [x]).map numOf)] at hfin
            exact hfin
          case mo15 =>
          exact AllReadyH.nil
        case mo16 =>
        exact AllReadyH.nil
       case mo17 =>
       exact AllReadyH.nil
      case mo18 =>
      exact AllReadyH.nil
     case mo19 =>
     exact AllReadyH.nil
    case stop => exact fun _ _ _ _ _ h => h.elim
    case done =>
     rintro D W hD ⟨v, hA, hR, hB, hs⟩ hK
     have j0 : W.cell? ⟨w.heap.size, 0, none⟩ = some (.int .i64 (numOf a)) := by rw [Lib.cell_of_heap hA]; rfl
     have j1 : W.cell? ⟨w.heap.size, 1, none⟩ = some (.int .i64 (numOf b)) := by rw [Lib.cell_of_heap hA]; rfl
     have j2 : W.cell? ⟨w.heap.size, 2, none⟩ = some (.int .i64 (numOf c₀)) := by rw [Lib.cell_of_heap hA]; rfl
     have j3 : W.cell? ⟨w.heap.size, 3, none⟩ = some (.int .i64 (numOf Lq)) := by rw [Lib.cell_of_heap hA]; rfl
     have j4 : W.cell? ⟨w.heap.size, 4, none⟩ = some (.int .i64 (numOf Rq)) := by rw [Lib.cell_of_heap hA]; rfl
     have j5 : W.cell? ⟨w.heap.size, 5, none⟩ = some v := by rw [Lib.cell_of_heap hA]; rfl
     have f0 : W.frozen? ⟨w.heap.size, 0, none⟩ = false := Lib.frozen_of_heap hA 0
     have f1 : W.frozen? ⟨w.heap.size, 1, none⟩ = false := Lib.frozen_of_heap hA 1
     have f2 : W.frozen? ⟨w.heap.size, 2, none⟩ = false := Lib.frozen_of_heap hA 2
     have f3 : W.frozen? ⟨w.heap.size, 3, none⟩ = false := Lib.frozen_of_heap hA 3
     have f4 : W.frozen? ⟨w.heap.size, 4, none⟩ = false := Lib.frozen_of_heap hA 4
     have f5 : W.frozen? ⟨w.heap.size, 5, none⟩ = false := Lib.frozen_of_heap hA 5
     obtain ⟨A', nq, cq, rfl⟩ : ∃ A n c, v = .slice A n c := by obtain ⟨A, c, h⟩ := Kd.R_slice hR; exact ⟨A, _, c, h⟩
     go_wp2
     obtain ⟨hK', hA', hR', hB'⟩ := finD (by omega) (fun k hk => hk.1) hA hR hB hK
     have hrd : readB [a, b, c₀, d, e] = ⟨numOf a, numOf b, numOf c₀, numOf Lq, numOf Rq, (piecesOf 44 e).map numOf⟩ := by
      show S26.mk (numOf a) (numOf b) (numOf c₀) (numOf (cutL d)) (numOf (cutR d)) (if e = ⟨#[45]⟩ then [] else (piecesOf 44 e).map numOf) = _
      rw [if_neg he, hLq.out, hRq.out]
     rw [hrd]
     refine ⟨by simp, .inl ⟨_, _, rfl, run_takeDeferred hK', ?_⟩⟩
     exact ⟨_, results_cell_row rfl _ _ w.heap.size 26 _ (0, 0) _ rfl hA' hu26 rfl (by kernel_rfl), _, rfl, hR', hB'⟩
 ·have z1 : ((ws.length : Int) != 5) = true := bne_iff_ne.2 (by omega)
  have z2 : ((ws.length : Int) == 5) = false := beq_eq_false_iff_ne.2 (by omega)
  have z3 : (ws.length == 5) = false := beq_eq_false_iff_ne.2 h5
  have z4 : (ws.length != 5) = true := bne_iff_ne.2 h5
  have hz : readB ws = z26 := by
   unfold readB
   split
   ·simp at h5
   ·rfl
  go_wp2_with fail
  refine ⟨_, results_cell_row rfl _ _ w.heap.size 26 _ (0, 0) _ rfl (heap_alloc_new _ _) hu26 rfl (by kernel_rfl), ?_⟩
  rw [hz]
  exact ⟨_, rfl, Kd.R_nil _ _ _ _ _, below_alloc (Below.refl _ _) _⟩
end Go.Proofs.Lg
namespace Go.Proofs.Lg
open Go.RowKit Go.Lib
def spl (c : UInt8) : List UInt8 → List (List UInt8)
 | [] => [[]]
 | x :: r => if x = c then [] :: spl c r else match spl c r with | [] => [[x]] | w :: ws => (x :: w) :: ws
theorem spl_ne (c : UInt8) : ∀ l, spl c l ≠ []
 | [] => by simp [spl]
 | x :: r => by
  unfold spl
  split
  ·simp
  ·split <;> simp
theorem spl_clean {c : UInt8} : ∀ {p : List UInt8}, c ∉ p → spl c p = [p]
 | [], _ => rfl
 | x :: r, h => by
  have hx : x ≠ c := fun e => h (by simp [e])
  have hr : c ∉ r := fun e => h (by simp [e])
  rw [spl, if_neg hx, spl_clean hr]
theorem spl_hit {c : UInt8} : ∀ {p : List UInt8} (r : List UInt8), c ∉ p → spl c (p ++ c :: r) = p :: spl c r
 | [], r, _ => by rw [List.nil_append, spl, if_pos rfl]
 | x :: p, r, h => by
  have hx : x ≠ c := fun e => h (by simp [e])
  have hr : c ∉ p := fun e => h (by simp [e])
  rw [List.cons_append, spl, if_neg hx, spl_hit r hr]
theorem join_cons' (sep x : List UInt8) (xs : List (List UInt8)) (h : xs ≠ []) : Lib.join (x :: xs) sep = x ++ sep ++ Lib.join xs sep := by
 cases xs with
 | nil => exact absurd rfl h
 | cons y r => exact join_cons sep x y r
theorem join_spl (c : UInt8) : ∀ l, Lib.join (spl c l) [c] = l
 | [] => join_one [c] []
 | x :: r => by
  have ih := join_spl c r
  unfold spl
  split
  ·rename_i h
   rw [join_cons' _ _ _ (spl_ne c r), ih, h]
   rfl
  ·have hne := spl_ne c r
   generalize spl c r = ws at ih hne
   cases ws with
   | nil => exact absurd rfl hne
   | cons w ws =>
    simp only
    cases ws with
    | nil => rw [join_one] at ih ⊢; rw [ih]
    | cons v vs => rw [join_cons] at ih ⊢; rw [← ih]; simp
theorem byte_split {c : UInt8} {l : List UInt8} {i : Nat} (h : indexByte l c = i) : l = l.take i ++ c :: l.drop (i + 1) ∧ c ∉ l.take i := by
 obtain ⟨h1, h2⟩ := indexByte_some h
 obtain ⟨hlt, hx⟩ := List.getElem?_eq_some_iff.1 h1
 refine ⟨?_, fun hm => ?_⟩
 ·conv => lhs; rw [← List.take_append_drop i l]
  rw [List.drop_eq_getElem_cons hlt, hx]
 ·obtain ⟨k, hk, he⟩ := List.mem_take_iff_getElem.1 hm
  exact h2 k (by omega) (by rw [List.getElem?_eq_getElem (by omega), he])
theorem byte_none {c : UInt8} {l : List UInt8} (h : indexByte l c = -1) : c ∉ l := by
 intro hm
 obtain ⟨k, hk, he⟩ := List.getElem_of_mem hm
 exact indexByte_none h k (by rw [List.getElem?_eq_getElem hk, he])
theorem index_cases (l : List UInt8) (c : UInt8) : indexByte l c = -1 ∨ ∃ i : Nat, indexByte l c = i := by
 have := indexByte_ge l c
 by_cases h : indexByte l c = -1
 ·exact .inl h
 ·exact .inr ⟨(indexByte l c).toNat, by omega⟩
theorem splitB_spl (c : UInt8) : ∀ (k : Nat) (s : ByteArray), countB s ⟨#[c]⟩ = k → (splitB ⟨#[c]⟩ 0 k s).map (·.data.toList) = spl c s.data.toList := by
 intro k
 induction k with
 | zero =>
  intro s h
  have h2 : s.data.toList.count c = 0 := by rw [← count_one]; exact h
  rw [splitB_zero, spl_clean (List.count_eq_zero.1 h2)]
  rfl
 | succ k ih =>
  intro s h
  have h0 : countB s ⟨#[c]⟩ = s.data.toList.count c := count_one c s.data.toList
  rcases index_cases s.data.toList c with hn | ⟨i, hi⟩
  ·have := List.count_eq_zero.2 (byte_none hn)
   omega
  ·obtain ⟨e1, e2⟩ := byte_split hi
   have hix : indexB s ⟨#[c]⟩ = i := (index_one s.data.toList c).trans hi
   rw [splitB_hit _ _ _ _ i hix]
   have hsz : (⟨#[c]⟩ : ByteArray).size = 1 := rfl
   rw [hsz, List.map_cons]
   have hd : (s.extract (i + 1) s.size).data.toList = s.data.toList.drop (i + 1) := by rw [extract_from]
   have ht : (s.extract 0 (i + 0)).data.toList = s.data.toList.take i := by rw [Nat.add_zero, extract_upto]
   have hc : countB (s.extract (i + 1) s.size) ⟨#[c]⟩ = k := by
    have h3 : countB (s.extract (i + 1) s.size) ⟨#[c]⟩ = (s.data.toList.drop (i + 1)).count c := by
     rw [← hd]
     exact count_one c _
    have h4 : s.data.toList.count c = (s.data.toList.take i).count c + (1 + (s.data.toList.drop (i + 1)).count c) := by
     conv => lhs; rw [e1]
     rw [List.count_append, List.count_cons_self]
     omega
    rw [List.count_eq_zero.2 e2] at h4
    omega
   rw [ih _ hc, hd, ht]
   conv => rhs; rw [e1]
   rw [spl_hit _ e2]
theorem piecesF_spl (c : UInt8) : ∀ (k : Nat) (s : ByteArray), s.size < k → (piecesF c k s).map (·.data.toList) = spl c s.data.toList := by
 intro k
 induction k with
 | zero => intro s h; omega
 | succ k ih =>
  intro s h
  rcases index_cases s.data.toList c with hn | ⟨i, hi⟩
  ·rw [piecesF, if_neg (by omega), spl_clean (byte_none hn)]
   rfl
  ·obtain ⟨e1, e2⟩ := byte_split hi
   have hlt := indexByte_lt hi
   rw [piecesF, if_pos (by omega), hi, List.map_cons, Int.toNat_natCast, ih _ (by rw [ByteArray.size_extract]; omega)]
   have hd : (s.extract (i + 1) s.size).data.toList = s.data.toList.drop (i + 1) := by rw [extract_from]
   have ht : (s.extract 0 i).data.toList = s.data.toList.take i := by rw [extract_upto]
   rw [hd, ht]
   conv => rhs; rw [e1]
   rw [spl_hit _ e2]
theorem spl_join {c : UInt8} : ∀ {ws : List (List UInt8)}, ws ≠ [] → (∀ w ∈ ws, c ∉ w) → spl c (Lib.join ws [c]) = ws
 | [], h, _ => absurd rfl h
 | [w], _, h => by rw [join_one]; exact spl_clean (h w (by simp))
 | w :: v :: r, _, h => by
  rw [join_cons, List.append_assoc, List.singleton_append, spl_hit _ (h w (by simp)), spl_join (by simp) (fun x hx => h x (by simp [hx]))]
theorem spl_free (c : UInt8) : ∀ (l w : List UInt8), w ∈ spl c l → c ∉ w
 | [], w, h => by simp [spl] at h; subst h; simp
 | x :: r, w, h => by
  unfold spl at h
  split at h
  ·rcases List.mem_cons.1 h with rfl | h
   ·simp
   ·exact spl_free c r w h
  ·rename_i hx
   have ih := spl_free c r
   generalize spl c r = ws at h ih
   cases ws with
   | nil => simp at h; subst h; simp; exact fun e => hx e.symm
   | cons v vs =>
    simp only at h
    rcases List.mem_cons.1 h with rfl | h
    ·intro hm
     rcases List.mem_cons.1 hm with e | hm
     ·exact hx e.symm
     ·exact ih v (by simp) hm
    ·exact ih w (by simp [h])
def wordsOf (s : ByteArray) : List ByteArray := splitB ⟨#[32]⟩ 0 (countB s ⟨#[32]⟩) s
theorem wordsOf_spl (s : ByteArray) : (wordsOf s).map (·.data.toList) = spl 32 s.data.toList := splitB_spl 32 _ s rfl
theorem wordsOf_len (s : ByteArray) : (wordsOf s).length = countB s ⟨#[32]⟩ + 1 := splitB_all ⟨#[32]⟩ (Nat.le_refl 1) 0 _ s rfl
theorem join_snoc (sep y : List UInt8) : ∀ (xs : List (List UInt8)), xs ≠ [] → Lib.join (xs ++ [y]) sep = Lib.join xs sep ++ sep ++ y
 | [], h => absurd rfl h
 | [x], _ => by rw [join_one, List.singleton_append, join_cons, join_one]
 | x :: z :: r, _ => by
  have ih := join_snoc sep y (z :: r) (by simp)
  rw [List.cons_append, join_cons' _ _ _ (by simp), ih, join_cons]
  simp
theorem words_size (s : ByteArray) : ∀ x ∈ wordsOf s, x.size ≤ s.size := by
 intro x hx
 have h1 : x.data.toList ∈ spl 32 s.data.toList := by rw [← wordsOf_spl]; exact List.mem_map_of_mem hx
 have h2 : ∀ (ws : List (List UInt8)) (w : List UInt8), w ∈ ws → w.length ≤ (Lib.join ws [32]).length := by
  intro ws
  induction ws with
  | nil => intro w h; simp at h
  | cons v r ih =>
   intro w h
   cases r with
   | nil => rw [join_one]; simp at h; subst h; exact Nat.le_refl _
   | cons u r =>
    rw [join_cons]
    simp only [List.length_append]
    rcases List.mem_cons.1 h with rfl | h
    ·omega
    ·have := ih w h; omega
 have h3 := h2 _ _ h1
 rw [join_spl] at h3
 exact h3
theorem words_init (s : ByteArray) : (joined ((wordsOf s).take ((wordsOf s).length - 1))).size ≤ s.size := by
 have h1 : Lib.join ((wordsOf s).map (·.data.toList)) [32] = s.data.toList := by rw [wordsOf_spl]; exact join_spl 32 _
 have hne : (wordsOf s) ≠ [] := by
  intro h
  have := wordsOf_len s
  rw [h] at this
  simp at this
 generalize wordsOf s = ws at h1 hne
 have h2 : (joined (ws.take (ws.length - 1))).size = (Lib.join ((ws.take (ws.length - 1)).map (·.data.toList)) [32]).length := by simp [joined, ByteArray.size]
 have h3 : s.size = (Lib.join (ws.map (·.data.toList)) [32]).length := by rw [h1]; rfl
 rw [h2, h3, ← List.dropLast_eq_take]
 have h4 := List.dropLast_concat_getLast hne
 generalize ws.dropLast = us at h4 ⊢
 generalize ws.getLast hne = y at h4
 rw [← h4, List.map_append, List.map_cons, List.map_nil]
 cases us with
 | nil => exact Nat.zero_le _
 | cons u us =>
  rw [join_snoc _ _ _ (by simp)]
  simp only [List.length_append]
  omega
end Go.Proofs.Lg
namespace Go.Proofs.Lg
open Go.RowKit Go.Lib Go.Proofs.YtdomcbebbhbdlaaGreatDoorW.PrintWords Go.Proofs.YtdomcbebbhbdlaaGreatDoorW.PrintLast Go.Proofs.YtdomcbebbhbdlaaGreatDoorW.PrintMore Go.Proofs.YtdomcbebbhbdlaaGreatDoor.PLogsBills
def initW (s : ByteArray) : List ByteArray := (wordsOf s).take ((wordsOf s).length - 1)
def formed (s : ByteArray) : Bool := decide (s.size ≤ 600) && (decide (3 ≤ s.size) && decide (bt s ((s.size - 3 : Nat) : Int) = 32))
def lineF (s : ByteArray) : S26 × Int :=
 if formed s then
  if sealOf (joined (initW s) ++ ⟨#[32]⟩) = s ++ ⟨#[10]⟩ then
   if isB (readB (initW s)) then if billS (readB (initW s)) = s ++ ⟨#[10]⟩ then (readB (initW s), 0) else (z26, 4) else (z26, 4)
  else (z26, 121)
 else (z26, 4)
theorem splitC (s : ByteArray) (hs : s.size ≤ 1000000) (k : Nat) (hk : (wordsOf s).length = k + 1) (w : World) (hw : Base w) :
  Calls Tryz.prog 95 #[.string s, .string ⟨#[32]⟩] w fun e w' => e = .returned (.slice (some ⟨w.heap.size, 0, none⟩) (k + 1) (k + 1)) ∧ w' = w.alloc (.cells ((wordsOf s).map Value.string).toArray 9) := by
 obtain ⟨m, hm⟩ := hw.maxLen
 have h := Tryz.strings_Split s ⟨#[32]⟩ m w (by omega) hm (Nat.le_refl 1)
 rw [wordsOf_len] at hk
 rw [(by omega : countB s ⟨#[32]⟩ = k)] at h
 have e : splitB ⟨#[32]⟩ 0 k s = wordsOf s := by unfold wordsOf; rw [(by omega : countB s ⟨#[32]⟩ = k)]
 rw [e] at h
 exact h
theorem sealedN (bk c n : Nat) (xs : List ByteArray) (w : World) (hn : n = xs.length) (hcells : ∀ (j : Nat) (x : ByteArray), xs[j]? = some x → w.cell? ⟨bk, j, none⟩ = some (.string x)) (hbk : bk < w.heap.size)
  (hn3 : n ≤ 3000) (hcap : n ≤ c) (hlen : (joined xs).size ≤ 3000) (S1 : ByteArray) (hS : sealOf (joined xs ++ ⟨#[32]⟩) = S1) :
  Calls Tryz.prog 84 #[.slice (some ⟨bk, 0, none⟩) n c] w fun e w' => e = .returned (.string S1) ∧ Below w.heap.size w w' := by
 subst hn
 subst hS
 exact sealed bk 0 c xs w (fun j x hj => by rw [Nat.zero_add]; exact hcells j x hj) hbk hn3 hcap hlen
theorem results_cell_row_tmp {P : Program} {fn : Func} {p u : Tmp} {ty : TypeId} (h : fn.results = #[.cell p ty, .tmp u]) (tmps : Array Value) (w : World) (g : Nat) (t : TypeId) (cs : Array Value) (fr : Nat × Nat) (d : TypeDesc)
  (hp : tmps.getD p undef = .pointer (some ⟨g, 0, none⟩)) (hg : w.heap[g]? = some (.cells cs t fr))
  (hu : P.underlying ty = some d) (hd : (match d with | .struct _ | .array _ _ => true | _ => false) = true) (hi : (P.info? ty).map (·.size) = some cs.size) :
  (results fn tmps).run P w = .ok (.tuple #[.agg cs, tmps.getD u undef]) w := by
 rw [results_cell_tmp h, hp]
 simp [asAddr, run_loadVar_row w g t ty cs fr d hg hu hd hi]
theorem same_row {b : Nat} {w : World} {n0 n1 n2 n3 n4 : Int} {v : Value} (h : w.heap[b]? = some (.cells #[.int .i64 n0, .int .i64 n1, .int .i64 n2, .int .i64 n3, .int .i64 n4, v] 26 (0, 0))) :
  ((((((w.setCell ⟨b, 0, none⟩ (.int .i64 n0)).setCell ⟨b, 1, none⟩ (.int .i64 n1)).setCell ⟨b, 2, none⟩ (.int .i64 n2)).setCell ⟨b, 3, none⟩ (.int .i64 n3)).setCell ⟨b, 4, none⟩ (.int .i64 n4)).setCell ⟨b, 5, none⟩ v).heap[b]? =
   some (.cells #[.int .i64 n0, .int .i64 n1, .int .i64 n2, .int .i64 n3, .int .i64 n4, v] 26 (0, 0)) := row_sets ⟨_, h, rfl⟩ _ _ _ _ _ _
theorem below_sets {b B : Nat} {w W : World} {v0 v1 v2 v3 v4 v5 : Value} (hB : B ≤ b) (h : Below B w W) :
  Below B w ((((((W.setCell ⟨b, 0, none⟩ v0).setCell ⟨b, 1, none⟩ v1).setCell ⟨b, 2, none⟩ v2).setCell ⟨b, 3, none⟩ v3).setCell ⟨b, 4, none⟩ v4).setCell ⟨b, 5, none⟩ v5) :=
 (((((h.setCell (p := ⟨b, 0, none⟩) hB _).setCell (p := ⟨b, 1, none⟩) hB _).setCell (p := ⟨b, 2, none⟩) hB _).setCell (p := ⟨b, 3, none⟩) hB _).setCell (p := ⟨b, 4, none⟩) hB _).setCell (p := ⟨b, 5, none⟩) hB _
theorem row6 {b : Nat} {W : World} {v0 v1 v2 v3 v4 v5 : Value} {t : TypeId} (h : W.heap[b]? = some (.cells #[v0, v1, v2, v3, v4, v5] t (0, 0))) :
  W.cell? ⟨b, 0, none⟩ = some v0 ∧ W.cell? ⟨b, 1, none⟩ = some v1 ∧ W.cell? ⟨b, 2, none⟩ = some v2 ∧ W.cell? ⟨b, 3, none⟩ = some v3 ∧ W.cell? ⟨b, 4, none⟩ = some v4 ∧ W.cell? ⟨b, 5, none⟩ = some v5 ∧
   W.frozen? ⟨b, 0, none⟩ = false ∧ W.frozen? ⟨b, 1, none⟩ = false ∧ W.frozen? ⟨b, 2, none⟩ = false ∧ W.frozen? ⟨b, 3, none⟩ = false ∧ W.frozen? ⟨b, 4, none⟩ = false ∧ W.frozen? ⟨b, 5, none⟩ = false := by
 refine ⟨?_, ?_, ?_, ?_, ?_, ?_, Lib.frozen_of_heap h 0, Lib.frozen_of_heap h 1, Lib.frozen_of_heap h 2, Lib.frozen_of_heap h 3, Lib.frozen_of_heap h 4, Lib.frozen_of_heap h 5⟩ <;> (rw [Lib.cell_of_heap h]; rfl)
theorem toList_inj {a b : ByteArray} (h : a.toList = b.toList) : a = b := by
 rw [ByteArray.toList_eq, ByteArray.toList_eq] at h
 exact ByteArray.ext (Array.toList_inj.1 h)
theorem readBillN (bk k c : Nat) (xs : List ByteArray) (W : World) (hn : k = xs.length) (hk : k ≤ 1000000) (hcells : ∀ (j : Nat) (x : ByteArray), xs[j]? = some x → W.cell? ⟨bk, j, none⟩ = some (.string x)) (hc : k ≤ c) (hsz : ∀ x ∈ xs, x.size ≤ 1000000) (hw : Base W) (y : S26) (hy : readB xs = y) :
  Calls Tryz.prog 49 #[.slice (some ⟨bk, 0, none⟩) k c] W fun e w' => ∃ A n c', e = .returned (.agg #[.int .i64 y.f0, .int .i64 y.f1, .int .i64 y.f2, .int .i64 y.f3, .int .i64 y.f4, .slice A n c']) ∧
   Kd.R (Kd.int .i64) 3 w' W.heap.size (fun _ => True) (.slice A n c') y.f5 ∧ Below W.heap.size W w' := by
 subst hn
 subst hy
 have hC : Kd.C Kd.string W (some ⟨bk, 0, none⟩) xs.length xs := by
  refine Kd.C_of_reads (enc := Value.string) (d := ByteArray.empty) (h1 := fun _ => rfl) ⟨rfl, by omega, fun _ => ⟨_, rfl, fun j hj => ?_⟩⟩
  have hx : xs[j]? = some (xs.getD j ByteArray.empty) := by simp [hj]
  by_cases h0 : j = 0
  ·subst h0; exact hcells 0 _ hx
  ·have := hcells j _ hx
   simpa [Addr.add, h0] using this
 refine (readBill xs _ c W hC hc hsz hw).mono ?_
 rintro e w' ⟨v, rfl, hR, hb⟩
 obtain ⟨A, c', rfl⟩ := Kd.R_slice hR
 exact ⟨_, _, _, rfl, hR, hb⟩
theorem far_sets {b base : Nat} {W : World} {v0 v1 v2 v3 v4 v5 v : Value} {l : List Int} (hb : b < base) (hR : Kd.R (Kd.int .i64) 3 W base (fun _ => True) v l) :
  Kd.R (Kd.int .i64) 3 ((((((W.setCell ⟨b, 0, none⟩ v0).setCell ⟨b, 1, none⟩ v1).setCell ⟨b, 2, none⟩ v2).setCell ⟨b, 3, none⟩ v3).setCell ⟨b, 4, none⟩ v4).setCell ⟨b, 5, none⟩ v5) base (fun _ => True) v l := by
 have h0 : Kd.R (Kd.int .i64) 3 W base (fun k => k ≠ b) v l := Kd.R_mono (Kd.R_bound hR) (fun k hk => by have := hk.2.1; omega)
 have hok : ∀ k, k ≠ b → k ≠ b := fun _ h => h
 exact Kd.R_mono (Kd.R_far (Kd.R_far (Kd.R_far (Kd.R_far (Kd.R_far (Kd.R_far h0 (p := ⟨b, 0, none⟩) hok v0) (p := ⟨b, 1, none⟩) hok v1) (p := ⟨b, 2, none⟩) hok v2) (p := ⟨b, 3, none⟩) hok v3) (p := ⟨b, 4, none⟩) hok v4) (p := ⟨b, 5, none⟩) hok v5) (fun _ _ => trivial)
theorem readB_len {ws : List ByteArray} {m : Nat} (h : ∀ x ∈ ws, x.size ≤ m) : (readB ws).f5.length ≤ m + 2 := by
 unfold readB
 split
 ·rename_i a b c d e
  simp only
  split
  ·simp
  ·have h1 := pieces_len 44 (e.size + 1) e
   have h2 := h e (by simp)
   rw [List.length_map]
   show (piecesF 44 (e.size + 1) e).length ≤ _
   omega
 ·simp [z26]
theorem two_boxes (w : World) (cs ds : Array Value) (t u : TypeId) :
  ((w.alloc (.cells cs t)).alloc (.cells ds u)).heap.size = w.heap.size + 2 ∧ Below w.heap.size w ((w.alloc (.cells cs t)).alloc (.cells ds u)) ∧
   ((w.alloc (.cells cs t)).alloc (.cells ds u)).heap[w.heap.size]? = some (.cells cs t (0, 0)) ∧ ((w.alloc (.cells cs t)).alloc (.cells ds u)).heap[w.heap.size + 1]? = some (.cells ds u (0, 0)) := by
 have s1 : (w.alloc (.cells cs t)).heap.size = w.heap.size + 1 := World.size_alloc _ _
 have s2 : ((w.alloc (.cells cs t)).alloc (.cells ds u)).heap.size = w.heap.size + 2 := by rw [World.size_alloc, s1]
 refine ⟨s2, ((Below.refl w.heap.size w).alloc (Nat.le_refl _) _).alloc (by omega) _, (Go.Lib.alloc_old _ _ _ (by omega)).trans (heap_alloc_new _ _), ?_⟩
 rw [← s1]
 exact heap_alloc_new _ _
set_option maxHeartbeats 4000000 in
set_option maxRecDepth 100000 in
theorem lineC (s : ByteArray) (hs : s.size ≤ 1000000) (w : World) (hw : Base w) :
  Calls Tryz.prog 58 #[paperV, .string s] w fun e w' => ∃ x v, e = .returned (.tuple #[.agg #[.int .i64 x.f0, .int .i64 x.f1, .int .i64 x.f2, .int .i64 x.f3, .int .i64 x.f4, v], .int .i64 (lineF s).2]) ∧
   Kd.R (Kd.int .i64) 3 w' w.heap.size (fun _ => True) v x.f5 ∧ ((lineF s).2 = 0 → x = (lineF s).1) ∧ Below w.heap.size w w' := by
 have hu26 := Tryz.underlying26
 unfold paperV
 obtain ⟨k, hk⟩ : ∃ k, (wordsOf s).length = k + 1 := ⟨countB s ⟨#[32]⟩, wordsOf_len s⟩
 have hkc : IntKind.i64.wrap (k : Int) = (k : Int) := by
  have h1 := wordsOf_len s
  have h2 := count_le s.data.toList [32]
  have h3 : s.data.toList.length = s.size := rfl
  have h4 : k ≤ s.size + 1 := by
   have : countB s ⟨#[32]⟩ ≤ s.data.toList.length + 1 := h2
   omega
  rw [i64_w]; unfold wrap64; omega
 have p1 : (0 ≤ (k : Int)) = True := eq_true (by omega)
 go_enter Tryz.func58, Tryz.ntmps58
 go_upto_region 1 with fail
 obtain ⟨hsz0, hb0, hP0, hA0⟩ := two_boxes w #[.func (.func 46) #[] #[], .func (.func 47) #[] #[], .func (.func 48) #[] #[], .func (.func 49) #[] #[], .int .i64 200] #[.int .i64 0, .int .i64 0, .int .i64 0, .int .i64 0, .int .i64 0, .slice none 0 0] 66 26
 obtain ⟨W0, hW0⟩ : ∃ W0, ((w.alloc (.cells #[.func (.func 46) #[] #[], .func (.func 47) #[] #[], .func (.func 48) #[] #[], .func (.func 49) #[] #[], .int .i64 200] 66)).alloc (.cells #[.int .i64 0, .int .i64 0, .int .i64 0, .int .i64 0, .int .i64 0, .slice none 0 0] 26)) = W0 := ⟨_, rfl⟩
 rw [hW0] at hsz0 hb0 hP0 hA0 ⊢
 clear hW0
 have hw0 : Base W0 := hw.step hb0
 go_upto_region 2 with (go_at_call 95; refine (splitC s hs k hk _ hw0).mono ?_; rintro e w' ⟨rfl, rfl⟩)
 have hb1 : Below W0.heap.size W0 (W0.alloc (.cells ((wordsOf s).map Value.string).toArray 9)) := below_alloc (Below.refl _ _) _
 have hcells : ∀ (j : Nat) (x : ByteArray), (initW s)[j]? = some x → (W0.alloc (.cells ((wordsOf s).map Value.string).toArray 9)).cell? ⟨W0.heap.size, j, none⟩ = some (.string x) := by
  intro j x hj
  rw [Lib.cell_of_heap (heap_alloc_new _ _)]
  unfold initW at hj
  obtain ⟨hl, hx⟩ := List.getElem?_eq_some_iff.1 hj
  rw [List.getElem_take] at hx
  have hl' : j < (wordsOf s).length := by rw [List.length_take] at hl; omega
  simp [hl', hx]
 have hinit : (initW s).length = k := by unfold initW; rw [List.length_take]; omega
 have hjs := words_init s
 have hsz1 : (W0.alloc (.cells ((wordsOf s).map Value.string).toArray 9)).heap.size = w.heap.size + 3 := by rw [World.size_alloc, hsz0]
 obtain ⟨W1, hW1⟩ : ∃ W1, W0.alloc (.cells ((wordsOf s).map Value.string).toArray 9) = W1 := ⟨_, rfl⟩
 rw [hW1] at hb1 hcells hsz1 ⊢
 clear hW1
 have hP1 := (hb1.block w.heap.size (by omega)).trans hP0
 have hA1 := (hb1.block (w.heap.size + 1) (by omega)).trans hA0
 have hw1 : Base W1 := hw0.step hb1
 have hbw1 : Below w.heap.size w W1 := hb0.trans (hb1.mono (by omega))
 rw [hsz0] at hcells
 clear hk
 have b0 : W1.cell? ⟨w.heap.size + 1, 0, none⟩ = some (.int .i64 0) := by rw [Lib.cell_of_heap hA1]; rfl
 have b1 : W1.cell? ⟨w.heap.size + 1, 1, none⟩ = some (.int .i64 0) := by rw [Lib.cell_of_heap hA1]; rfl
 have b2 : W1.cell? ⟨w.heap.size + 1, 2, none⟩ = some (.int .i64 0) := by rw [Lib.cell_of_heap hA1]; rfl
 have b3 : W1.cell? ⟨w.heap.size + 1, 3, none⟩ = some (.int .i64 0) := by rw [Lib.cell_of_heap hA1]; rfl
 have b4 : W1.cell? ⟨w.heap.size + 1, 4, none⟩ = some (.int .i64 0) := by rw [Lib.cell_of_heap hA1]; rfl
 have b5 : W1.cell? ⟨w.heap.size + 1, 5, none⟩ = some (.slice none 0 0) := by rw [Lib.cell_of_heap hA1]; rfl
 have f0 : W1.frozen? ⟨w.heap.size + 1, 0, none⟩ = false := Lib.frozen_of_heap hA1 0
 have f1 : W1.frozen? ⟨w.heap.size + 1, 1, none⟩ = false := Lib.frozen_of_heap hA1 1
 have f2 : W1.frozen? ⟨w.heap.size + 1, 2, none⟩ = false := Lib.frozen_of_heap hA1 2
 have f3 : W1.frozen? ⟨w.heap.size + 1, 3, none⟩ = false := Lib.frozen_of_heap hA1 3
 have f4 : W1.frozen? ⟨w.heap.size + 1, 4, none⟩ = false := Lib.frozen_of_heap hA1 4
 have f5 : W1.frozen? ⟨w.heap.size + 1, 5, none⟩ = false := Lib.frozen_of_heap hA1 5
 by_cases g1 : 600 < s.size
 ·have hform : lineF s = (z26, 4) := by unfold lineF formed; rw [decide_eq_false (by omega)]; rfl
  have z1 : decide ((600 : Int) < (s.size : Int)) = true := decide_eq_true (by omega)
  have z2 : decide (600 < s.size) = true := decide_eq_true g1
  go_wp2
  refine bodyPost_ret (results_cell_row_tmp rfl _ _ (w.heap.size + 1) 26 _ (0, 0) _ rfl (same_row hA1) hu26 rfl (by kernel_rfl)) rfl ?_
  rw [hform]
  exact ⟨z26, _, rfl, Kd.R_nil _ _ _ _ _, fun h => by simp at h, below_sets (by omega) hbw1⟩
 by_cases g2 : s.size < 3
 ·have hform : lineF s = (z26, 4) := by unfold lineF formed; rw [decide_eq_false (by omega : ¬ 3 ≤ s.size)]; simp
  have z1 : decide ((600 : Int) < (s.size : Int)) = false := decide_eq_false (by omega)
  have z2 : decide (600 < s.size) = false := decide_eq_false g1
  have z3 : decide ((s.size : Int) < 3) = true := decide_eq_true (by omega)
  have z4 : decide (s.size < 3) = true := decide_eq_true g2
  go_wp2
  refine bodyPost_ret (results_cell_row_tmp rfl _ _ (w.heap.size + 1) 26 _ (0, 0) _ rfl (same_row hA1) hu26 rfl (by kernel_rfl)) rfl ?_
  rw [hform]
  exact ⟨z26, _, rfl, Kd.R_nil _ _ _ _ _, fun h => by simp at h, below_sets (by omega) hbw1⟩
 obtain ⟨m, hm⟩ : ∃ m, s.size - 3 = m := ⟨_, rfl⟩
 have hsub : IntKind.i64.wrap ((s.size : Int) - 3) = (m : Int) := by rw [i64_w]; unfold wrap64; omega
 have z1 : decide ((600 : Int) < (s.size : Int)) = false := decide_eq_false (by omega)
 have z2 : decide (600 < s.size) = false := decide_eq_false g1
 have z3 : decide ((s.size : Int) < 3) = false := decide_eq_false (by omega)
 have z4 : decide (s.size < 3) = false := decide_eq_false g2
 have p2 : (0 ≤ (m : Int)) = True := eq_true (by omega)
 have p3 : ((m : Int) < (s.size : Int)) = True := eq_true (by omega)
 have p4 : (m < s.size) = True := eq_true (by omega)
 have hbt := bt_at s (m : Int)
 have hrange := bt_range s (m : Int)
 simp only [Int.toNat_natCast] at hbt
 by_cases g3 : bt s (m : Int) = 32
 ·have z5 : (bt s (m : Int) != 32) = false := bne_eq_false_iff_eq.2 g3
  have z6 : (bt s (m : Int) == 32) = true := beq_iff_eq.2 g3
  have hf : formed s = true := by unfold formed; rw [hm, decide_eq_true (by omega : s.size ≤ 600), decide_eq_true (by omega : 3 ≤ s.size), decide_eq_true g3]; rfl
  go_upto_region 5 with fail
  clear z1 z2 z3 z4 p2 p3 p4 hsub hbt hrange z5 z6
  obtain ⟨S1, hS1⟩ : ∃ S1, sealOf (joined (initW s) ++ ⟨#[32]⟩) = S1 := ⟨_, rfl⟩
  obtain ⟨xs, hxs⟩ : ∃ xs, initW s = xs := ⟨_, rfl⟩
  have hsS := Aside0.mk hS1
  have hxS := Aside0.mk hxs
  have hjx : (joined xs).size ≤ 3000 := by rw [← hxs]; exact Nat.le_trans hjs (by omega)
  have hK := sealedN (w.heap.size + 2) (k + 1) k xs W1 (by rw [← hxs]; exact hinit.symm) (by rw [← hxs]; exact hcells) (by omega) (by have := wordsOf_len s; have h2 := count_le s.data.toList [32]; have : countB s ⟨#[32]⟩ ≤ s.size + 1 := h2; have : (initW s).length ≤ (wordsOf s).length := by { unfold initW; rw [List.length_take]; omega }; omega) (by omega) hjx S1 (by rw [← hxs]; exact hS1)
  have hwsz : ∀ x ∈ xs, x.size ≤ 1000000 := by
   intro x hx
   rw [← hxs] at hx
   have := words_size s x (List.mem_of_mem_take hx)
   omega
  have hlenx : xs.length = k := by rw [← hxs]; exact hinit
  have hcx : ∀ (j : Nat) (x : ByteArray), xs[j]? = some x → W1.cell? ⟨w.heap.size + 2, j, none⟩ = some (.string x) := by rw [← hxs]; exact hcells
  clear hS1 hxs hjs hcells hinit
  have s1 : (s.size + 1 ≤ 9223372036854775807) = True := eq_true (by omega)
  have s2 : (9223372036854775807 < s.size + 1) = False := eq_false (by omega)
  have p5 : ((k : Int) ≤ (k : Int) + 1) = True := eq_true (by omega)
  have p6 : (k ≤ k + 1) = True := eq_true (by omega)
  by_cases g4 : S1 = s ++ ⟨#[10]⟩
  ·have q1 : (S1.toList == (s ++ ⟨#[10]⟩ : ByteArray).toList) = true := beq_iff_eq.2 (by rw [g4])
   clear b0 b1 b2 b3 b4 b5 f0 f1 f2 f3 f4 f5
   go_upto_region 7 with (go_at_call 84; refine hK.mono ?_; rintro e W2 ⟨rfl, hb⟩)
   clear hK
   have hA2 := (hb.block (w.heap.size + 1) (by omega)).trans hA1
   have hP2 := (hb.block w.heap.size (by omega)).trans hP1
   have hbw2 : Below w.heap.size w W2 := hbw1.trans (hb.mono (by omega))
   have hw2 : Base W2 := hw1.step hb
   have hcx2 : ∀ (j : Nat) (x : ByteArray), xs[j]? = some x → W2.cell? ⟨w.heap.size + 2, j, none⟩ = some (.string x) := fun j x hj => keepCell (hcx j x hj) hb
   have hsz2 : w.heap.size + 3 ≤ W2.heap.size := by have := hb.size; omega
   obtain ⟨y, hy⟩ : ∃ y, readB xs = y := ⟨_, rfl⟩
   have hyS := Aside0.mk hy
   have hcall : Calls Tryz.prog 49 #[.slice (some ⟨w.heap.size + 2, 0, none⟩) k (k + 1)] W2.drew _ := readBillN (w.heap.size + 2) k (k + 1) xs W2.drew hlenx.symm (by have := wordsOf_len s; have h2 := count_le s.data.toList [32]; have : countB s ⟨#[32]⟩ ≤ s.size + 1 := h2; have : (initW s).length ≤ (wordsOf s).length := by { unfold initW; rw [List.length_take]; omega }; have h9 : (initW s).length = xs.length := by { rw [hxS.out] }; omega) hcx2 (by omega) hwsz (hw2.step (below_drew (Below.refl _ _))) y hy
   clear hy
   have p3 : W2.cell? ⟨w.heap.size, 3, none⟩ = some (.func (.func 49) #[] #[]) := by rw [Lib.cell_of_heap hP2]; rfl
   go_cut [43] from 38 to 43 (fun s43 W3 => ∃ A n c', W3.heap[w.heap.size + 1]? = some (.cells #[.int .i64 y.f0, .int .i64 y.f1, .int .i64 y.f2, .int .i64 y.f3, .int .i64 y.f4, .slice A n c'] 26 (0, 0)) ∧ Kd.R (Kd.int .i64) 3 W3 (w.heap.size + 3) (fun _ => True) (.slice A n c') y.f5 ∧ Below (w.heap.size + 1) W2 W3 ∧ w.heap.size + 3 ≤ W3.heap.size)
   case first =>
    have hrow : HasRow (w.heap.size + 1) 26 6 W2 := ⟨_, hA2, rfl⟩
    have hSS : ∀ w2 : World, HasRow (w.heap.size + 1) 26 6 w2 → Below (w.heap.size + 1) W2 w2 → w2.cell? ⟨w.heap.size, 3, none⟩ = some (.func (.func 49) #[] #[]) ∧ w2.cell? ⟨w.heap.size + 1, 0, none⟩ = some (cv w2 (w.heap.size + 1) 0) ∧ w2.cell? ⟨w.heap.size + 1, 1, none⟩ = some (cv w2 (w.heap.size + 1) 1) ∧ w2.cell? ⟨w.heap.size + 1, 2, none⟩ = some (cv w2 (w.heap.size + 1) 2) ∧ w2.cell? ⟨w.heap.size + 1, 3, none⟩ = some (cv w2 (w.heap.size + 1) 3) ∧ w2.cell? ⟨w.heap.size + 1, 4, none⟩ = some (cv w2 (w.heap.size + 1) 4) ∧ w2.cell? ⟨w.heap.size + 1, 5, none⟩ = some (cv w2 (w.heap.size + 1) 5) ∧ w2.frozen? ⟨w.heap.size + 1, 0, none⟩ = false ∧ w2.frozen? ⟨w.heap.size + 1, 1, none⟩ = false ∧ w2.frozen? ⟨w.heap.size + 1, 2, none⟩ = false ∧ w2.frozen? ⟨w.heap.size + 1, 3, none⟩ = false ∧ w2.frozen? ⟨w.heap.size + 1, 4, none⟩ = false ∧ w2.frozen? ⟨w.heap.size + 1, 5, none⟩ = false ∧ HasRow (w.heap.size + 1) 26 6 w2 ∧ Below (w.heap.size + 1) W2 w2 :=
     fun w2 hr2 h6 => ⟨(h6.cell (p := ⟨w.heap.size, 3, none⟩) (by show w.heap.size < w.heap.size + 1; omega)).trans p3, hr2.cell 0 (by omega), hr2.cell 1 (by omega), hr2.cell 2 (by omega), hr2.cell 3 (by omega), hr2.cell 4 (by omega), hr2.cell 5 (by omega), hr2.frozen 0, hr2.frozen 1, hr2.frozen 2, hr2.frozen 3, hr2.frozen 4, hr2.frozen 5, hr2, h6⟩
    have hstart := hSS W2.drew hrow (below_drew (Below.refl _ _))
    have hcall2 : ∀ w2 : World, Below W2.drew.heap.size W2.drew w2 → w2.cell? ⟨w.heap.size, 3, none⟩ = some (.func (.func 49) #[] #[]) ∧ w2.cell? ⟨w.heap.size + 1, 0, none⟩ = some (cv w2 (w.heap.size + 1) 0) ∧ w2.cell? ⟨w.heap.size + 1, 1, none⟩ = some (cv w2 (w.heap.size + 1) 1) ∧ w2.cell? ⟨w.heap.size + 1, 2, none⟩ = some (cv w2 (w.heap.size + 1) 2) ∧ w2.cell? ⟨w.heap.size + 1, 3, none⟩ = some (cv w2 (w.heap.size + 1) 3) ∧ w2.cell? ⟨w.heap.size + 1, 4, none⟩ = some (cv w2 (w.heap.size + 1) 4) ∧ w2.cell? ⟨w.heap.size + 1, 5, none⟩ = some (cv w2 (w.heap.size + 1) 5) ∧ w2.frozen? ⟨w.heap.size + 1, 0, none⟩ = false ∧ w2.frozen? ⟨w.heap.size + 1, 1, none⟩ = false ∧ w2.frozen? ⟨w.heap.size + 1, 2, none⟩ = false ∧ w2.frozen? ⟨w.heap.size + 1, 3, none⟩ = false ∧ w2.frozen? ⟨w.heap.size + 1, 4, none⟩ = false ∧ w2.frozen? ⟨w.heap.size + 1, 5, none⟩ = false ∧ HasRow (w.heap.size + 1) 26 6 w2 ∧ Below (w.heap.size + 1) W2 w2 := fun w2 hb => hSS w2 (HasRow.below (w := W2.drew) hrow hb) ((below_drew (Below.refl _ _)).trans (hb.mono (by show w.heap.size + 1 ≤ W2.heap.size; omega)))
    have hstore : ∀ (w1 : World) (v0 v1 v2 v3 v4 v5 : Value), HasRow (w.heap.size + 1) 26 6 w1 → Below (w.heap.size + 1) W2 w1 → ∀ w2, w2 = ((((((w1.setCell ⟨w.heap.size + 1, 0, none⟩ v0).setCell ⟨w.heap.size + 1, 1, none⟩ v1).setCell ⟨w.heap.size + 1, 2, none⟩ v2).setCell ⟨w.heap.size + 1, 3, none⟩ v3).setCell ⟨w.heap.size + 1, 4, none⟩ v4).setCell ⟨w.heap.size + 1, 5, none⟩ v5) → w2.cell? ⟨w.heap.size, 3, none⟩ = some (.func (.func 49) #[] #[]) ∧ w2.cell? ⟨w.heap.size + 1, 0, none⟩ = some (cv w2 (w.heap.size + 1) 0) ∧ w2.cell? ⟨w.heap.size + 1, 1, none⟩ = some (cv w2 (w.heap.size + 1) 1) ∧ w2.cell? ⟨w.heap.size + 1, 2, none⟩ = some (cv w2 (w.heap.size + 1) 2) ∧ w2.cell? ⟨w.heap.size + 1, 3, none⟩ = some (cv w2 (w.heap.size + 1) 3) ∧ w2.cell? ⟨w.heap.size + 1, 4, none⟩ = some (cv w2 (w.heap.size + 1) 4) ∧ w2.cell? ⟨w.heap.size + 1, 5, none⟩ = some (cv w2 (w.heap.size + 1) 5) ∧ w2.frozen? ⟨w.heap.size + 1, 0, none⟩ = false ∧ w2.frozen? ⟨w.heap.size + 1, 1, none⟩ = false ∧ w2.frozen? ⟨w.heap.size + 1, 2, none⟩ = false ∧ w2.frozen? ⟨w.heap.size + 1, 3, none⟩ = false ∧ w2.frozen? ⟨w.heap.size + 1, 4, none⟩ = false ∧ w2.frozen? ⟨w.heap.size + 1, 5, none⟩ = false ∧ HasRow (w.heap.size + 1) 26 6 w2 ∧ Below (w.heap.size + 1) W2 w2 := by
     rintro w1 v0 v1 v2 v3 v4 v5 hr1 h6 w2 rfl
     exact hSS _ ((((((hr1.set 0 _).set 1 _).set 2 _).set 3 _).set 4 _).set 5 _) (below_sets (Nat.le_refl _) h6)
    go_region_held3 (fun w2 => w2.cell? ⟨w.heap.size, 3, none⟩ = some (.func (.func 49) #[] #[]) ∧ w2.cell? ⟨w.heap.size + 1, 0, none⟩ = some (cv w2 (w.heap.size + 1) 0) ∧ w2.cell? ⟨w.heap.size + 1, 1, none⟩ = some (cv w2 (w.heap.size + 1) 1) ∧ w2.cell? ⟨w.heap.size + 1, 2, none⟩ = some (cv w2 (w.heap.size + 1) 2) ∧ w2.cell? ⟨w.heap.size + 1, 3, none⟩ = some (cv w2 (w.heap.size + 1) 3) ∧ w2.cell? ⟨w.heap.size + 1, 4, none⟩ = some (cv w2 (w.heap.size + 1) 4) ∧ w2.cell? ⟨w.heap.size + 1, 5, none⟩ = some (cv w2 (w.heap.size + 1) 5) ∧ w2.frozen? ⟨w.heap.size + 1, 0, none⟩ = false ∧ w2.frozen? ⟨w.heap.size + 1, 1, none⟩ = false ∧ w2.frozen? ⟨w.heap.size + 1, 2, none⟩ = false ∧ w2.frozen? ⟨w.heap.size + 1, 3, none⟩ = false ∧ w2.frozen? ⟨w.heap.size + 1, 4, none⟩ = false ∧ w2.frozen? ⟨w.heap.size + 1, 5, none⟩ = false ∧ HasRow (w.heap.size + 1) 26 6 w2 ∧ Below (w.heap.size + 1) W2 w2)
     (first
      | with_reducible exact hstart
      | with_reducible exact hcall2 _ hb
      | (go_split_ands; with_reducible exact hstore _ _ _ _ _ _ _ (by with_reducible assumption) (by with_reducible assumption) _ rfl))
     (first
      | (go_at_call 49; refine hcall.mono ?_; rintro e w' ⟨A, n, c', rfl, hR, hb⟩))
    go_split_ands
    all_goals (go_wp2_with fail; go_meet)
    have hsz' : w.heap.size + 3 ≤ W2.drew.heap.size := hsz2
    have hsz'' := hb.size
    refine ⟨A, n, c', row_sets (HasRow.below (w := W2.drew) hrow hb) _ _ _ _ _ _, Kd.R_lower (far_sets (by omega) hR) hsz', by with_reducible assumption, ?_⟩
    exact Nat.le_trans (Nat.le_trans hsz' hsz'') (below_sets (B := 0) (Nat.zero_le _) (Below.refl 0 w')).size
   case rest =>
    obtain ⟨A, n, c', hA3, hR3, hb3, hsz3⟩ := hcut
    obtain ⟨hn, hnc, hC3⟩ := Kd.R_reads' hR3
    subst hn
    have hP3 := (hb3.block w.heap.size (by omega)).trans hP2
    have hbw3 : Below w.heap.size w wc := hbw2.trans (hb3.mono (by omega))
    have hw3 : Base wc := hw.step hbw3
    obtain ⟨b0, b1, b2, b3, b4, b5, f0, f1, f2, f3, f4, f5⟩ := row6 hA3
    have p0 : wc.cell? ⟨w.heap.size, 0, none⟩ = some (.func (.func 46) #[] #[]) := by rw [Lib.cell_of_heap hP3]; rfl
    have p2 : wc.cell? ⟨w.heap.size, 2, none⟩ = some (.func (.func 48) #[] #[]) := by rw [Lib.cell_of_heap hP3]; rfl
    have hyl : y.f5.length ≤ 1000000 := by
     rw [← hyS.out]
     have := readB_len (ws := xs) (m := 600) (fun x hx => by
      rw [← hxS.out] at hx
      have := words_size s x (List.mem_of_mem_take hx)
      omega)
     omega
    have hlf : lineF s = if isB y then if billS y = s ++ ⟨#[10]⟩ then (y, 0) else (z26, 4) else (z26, 4) := by
     unfold lineF
     rw [if_pos hf, hsS.out, if_pos g4, hxS.out, hyS.out]
    cases hisB : isB y with
    | false =>
     rw [hisB] at hlf
     go_wp2_with (go_at_call 46; refine (isBillC y false hisB _ _ _ hC3 hnc hyl).mono ?_; rintro e W4 ⟨rfl, hb4⟩; have hA4 := (hb4.block (w.heap.size + 1) (by omega)).trans hA3; obtain ⟨b0, b1, b2, b3, b4, b5, f0, f1, f2, f3, f4, f5⟩ := row6 hA4)
     refine bodyPost_ret (results_cell_row_tmp rfl _ _ (w.heap.size + 1) 26 _ (0, 0) _ rfl (same_row hA4) hu26 rfl (by kernel_rfl)) rfl ?_
     rw [hlf]
     exact ⟨y, _, rfl, Kd.R_lower (far_sets (by omega) (Kd.R_below hR3 hb4)) (by omega), fun h => by simp at h, below_sets (by omega) (hbw3.trans (hb4.mono (by omega)))⟩
    | true =>
     rw [hisB] at hlf
     by_cases g6 : billS y = s ++ ⟨#[10]⟩
     ·rw [if_pos rfl, if_pos g6] at hlf
      have q2 : ((billS y).toList == (s ++ ⟨#[10]⟩ : ByteArray).toList) = true := beq_iff_eq.2 (by rw [g6])
      go_wp2_with (first
       | (go_at_call 46; refine (isBillC y true hisB _ _ _ hC3 hnc hyl).mono ?_; rintro e W4 ⟨rfl, hb4⟩; have hA4 := (hb4.block (w.heap.size + 1) (by omega)).trans hA3; have p2' := keepCell p2 hb4; have hw4 := hw3.step hb4; have hC4 := Kd.C_below hC3 hb4; obtain ⟨b0, b1, b2, b3, b4, b5, f0, f1, f2, f3, f4, f5⟩ := row6 hA4)
       | (go_at_call 48; refine (billLine y _ _ _ hC4 hnc (small_of hisB) hw4).mono ?_; rintro e W5 ⟨rfl, hb5⟩; have hA5 := (hb5.block (w.heap.size + 1) (by have := hb4.size; omega)).trans hA4; obtain ⟨b0, b1, b2, b3, b4, b5, f0, f1, f2, f3, f4, f5⟩ := row6 hA5))
      refine bodyPost_ret (results_cell_row_tmp rfl _ _ (w.heap.size + 1) 26 _ (0, 0) _ rfl (same_row hA5) hu26 rfl (by kernel_rfl)) rfl ?_
      rw [hlf]
      exact ⟨y, _, rfl, Kd.R_lower (far_sets (by omega) (Kd.R_below (Kd.R_below hR3 hb4) hb5)) (by omega), fun _ => rfl, below_sets (by omega) ((hbw3.trans (hb4.mono (by omega))).trans (hb5.mono (by have := hb4.size; omega)))⟩
     ·rw [if_pos rfl, if_neg g6] at hlf
      have q2 : ((billS y).toList == (s ++ ⟨#[10]⟩ : ByteArray).toList) = false := beq_eq_false_iff_ne.2 (fun h => g6 (toList_inj h))
      go_wp2_with (first
       | (go_at_call 46; refine (isBillC y true hisB _ _ _ hC3 hnc hyl).mono ?_; rintro e W4 ⟨rfl, hb4⟩; have hA4 := (hb4.block (w.heap.size + 1) (by omega)).trans hA3; have p2' := keepCell p2 hb4; have hw4 := hw3.step hb4; have hC4 := Kd.C_below hC3 hb4; obtain ⟨b0, b1, b2, b3, b4, b5, f0, f1, f2, f3, f4, f5⟩ := row6 hA4)
       | (go_at_call 48; refine (billLine y _ _ _ hC4 hnc (small_of hisB) hw4).mono ?_; rintro e W5 ⟨rfl, hb5⟩; have hA5 := (hb5.block (w.heap.size + 1) (by have := hb4.size; omega)).trans hA4; obtain ⟨b0, b1, b2, b3, b4, b5, f0, f1, f2, f3, f4, f5⟩ := row6 hA5))
      refine bodyPost_ret (results_cell_row_tmp rfl _ _ (w.heap.size + 1) 26 _ (0, 0) _ rfl (same_row hA5) hu26 rfl (by kernel_rfl)) rfl ?_
      rw [hlf]
      exact ⟨y, _, rfl, Kd.R_lower (far_sets (by omega) (Kd.R_below (Kd.R_below hR3 hb4) hb5)) (by omega), fun h => by simp at h, below_sets (by omega) ((hbw3.trans (hb4.mono (by omega))).trans (hb5.mono (by have := hb4.size; omega)))⟩
  ·have q1 : (S1.toList == (s ++ ⟨#[10]⟩ : ByteArray).toList) = false := beq_eq_false_iff_ne.2 (fun h => g4 (toList_inj h))
   have hform : lineF s = (z26, 121) := by unfold lineF; rw [if_pos hf, if_neg (by rw [hxS.out, ← hxS.out, hsS.out]; exact g4)]
   clear b0 b1 b2 b3 b4 b5 f0 f1 f2 f3 f4 f5
   go_wp2_with (go_at_call 84; refine hK.mono ?_; rintro e W2 ⟨rfl, hb⟩; have hA2 := (hb.block (w.heap.size + 1) (by omega)).trans hA1; obtain ⟨b0, b1, b2, b3, b4, b5, f0, f1, f2, f3, f4, f5⟩ := row6 hA2)
   refine bodyPost_ret (results_cell_row_tmp rfl _ _ (w.heap.size + 1) 26 _ (0, 0) _ rfl (same_row hA2) hu26 rfl (by kernel_rfl)) rfl ?_
   rw [hform]
   exact ⟨z26, _, rfl, Kd.R_nil _ _ _ _ _, fun h => by simp at h, below_sets (by omega) (hbw1.trans (hb.mono (by omega)))⟩
 ·have z5 : (bt s (m : Int) != 32) = true := bne_iff_ne.2 g3
  have z6 : (bt s (m : Int) == 32) = false := beq_eq_false_iff_ne.2 g3
  have hform : lineF s = (z26, 4) := by unfold lineF formed; rw [hm, decide_eq_false g3]; simp
  go_wp2
  refine bodyPost_ret (results_cell_row_tmp rfl _ _ (w.heap.size + 1) 26 _ (0, 0) _ rfl (same_row hA1) hu26 rfl (by kernel_rfl)) rfl ?_
  rw [hform]
  exact ⟨z26, _, rfl, Kd.R_nil _ _ _ _ _, fun h => by simp at h, below_sets (by omega) hbw1⟩
end Go.Proofs.Lg
