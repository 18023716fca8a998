/- The evaluator's calls are the machine's calls; the law's own closed examples answer true. Conditions: the table of powers of ten is laid. -/
import Derived.Test.YtdomcbebbhbdlaaGreatDoorVa
import Derived.RangeFuncLeaves
import Derived.Lib.MakeNoZero
import Derived.OrdersIn
import Derived.Scope
import Derived.RangeFuncRecord
import Derived.Laws.Sem
import Derived.Test.YtdomcbebbhbdlaaGreatDoorProg
import Derived.KernelRfl
set_option linter.unusedVariables false
set_option linter.unusedSimpArgs false
namespace Go.Vev
open Go.RowKit
section
variable {P : Program} {N : Nat} {φ : Ren} {σ σ' : AH} {w : World} {fr : Fr} {a : Act} {o : Oper} {out : AOut}
theorem capFits_le {need old bytes : Nat} (h : capFits need bytes = true) (hlt : old < need) : Builtin.nextslicecap need old * bytes ≤ 281474976710656 := by
 have h1 := Nat.le_of_ble_eq_true h
 have h2 : Builtin.nextslicecap need old * bytes ≤ 2 * need * bytes := Nat.mul_le_mul_right _ (nextslicecap_le hlt)
 have h3 : 2 * need * bytes ≤ (4 * need + 4000) * bytes := Nat.mul_le_mul_right _ (by omega)
 omega
theorem zeroCells_len (z : Array Value) (n : Nat) : (Builtin.zeroCells z n).size = n * z.size := by simp [Builtin.zeroCells]
theorem appendNew_sound (h : HRel P N φ σ w) (elem : TypeId) {need size sCap : Nat} {old old' new new' : List Value} {z : Value} (hold : VL φ old old') (hnew : VL φ new new') (hzs : z.cells.size = size) (hneed : need < LOOSE) (cl : Bool) (fa : Nat) :
  let φ' := φ.ins σ.next ⟨w.heap.size, 0, grownCap w need sCap elem - need⟩
  VRel φ' (.slice (some ⟨σ.next, 0, none⟩) need (LOOSE + need)) (.slice (some ⟨w.heap.size, 0, none⟩) need (grownCap w need sCap elem)) ∧
  HRel P N φ' (σ.new (.row { cells := old ++ new, elem := elem, loose := true, ro := false, clean := cl, fz := fa, esz := size }))
   (w.drew.alloc (.cells (old'.toArray ++ new'.toArray ++ Builtin.zeroCells z.cells (grownCap w need sCap elem - need)) elem)) ∧
  Below N w (w.drew.alloc (.cells (old'.toArray ++ new'.toArray ++ Builtin.zeroCells z.cells (grownCap w need sCap elem - need)) elem)) := by
 intro φ'
 have hge := grownCap_ge w need sCap elem
 have hle : Ren.le φ φ' := Ren.le_ins _ h.fresh
 have hins : φ' σ.next = some ⟨w.heap.size, 0, grownCap w need sCap elem - need⟩ := by simp [φ', Ren.ins]
 refine ⟨?_, ?_, ?_⟩
 ·have := VRel.sliceLoose (off := 0) (s := none) (len := need) hins (c := need) hneed
  simp only [Nat.zero_add] at this
  rwa [show need + (grownCap w need sCap elem - need) = grownCap w need sCap elem from by omega] at this
 ·refine looseRow_sound (w := w.drew) h.drew elem _ cl size (0, 0) fa (cs' := old' ++ new') (VL.mono hle (hold.append hnew)) ⟨(Builtin.zeroCells z.cells (grownCap w need sCap elem - need)).toList, by simp, ?_⟩ ⟨fun _ => rfl, .inl rfl⟩
  simp only [Array.length_toList, zeroCells_len, hzs]
 ·exact (below_drew N w).trans (below_alloc h.drew _)
theorem aAppend_sound (h : HRel P N φ σ w) {argTypes : Array TypeId} {type : TypeId} {args : List Value} {args' : Array Value} (ha : VL φ args args'.toList) {v : Value}
  (e : aAppend P σ argTypes args = some (v, σ')) :
  ∃ φ' v' w', (Builtin.append_ argTypes type args').run P w = .ok v' w' ∧ Ren.le φ φ' ∧ VRel φ' v v' ∧ HRel P N φ' σ' w' ∧ Below N w w' := by
 unfold aAppend at e
 split at e
 ·rename_i sType base sLen sCap x hs0
  obtain ⟨s', x', rfl, hs, hx⟩ := args_two ha
  split at e
  ·rename_i elem hsT
   simp only [Option.bind_eq_some_iff] at e
   obtain ⟨ie, hie, ⟨n, new⟩, happ, e⟩ := e
   obtain ⟨new', happ⟩ := aAppended_sound h hx happ hie
   obtain ⟨hrel, hrun⟩ := happ
   simp only at e
   split at e
   ·cases e
   ·rename_i hE
    have hE : sCap < EMPTY := by
     rcases Nat.lt_or_ge sCap EMPTY with hh | hh
     ·exact hh
     ·rw [Nat.ble_eq_true_of_le hh] at hE; exact absurd rfl hE
    have cases_s : (base = none ∧ s' = .slice none sLen sCap) ∨
      (∃ k off s b, base = some ⟨k, off, s⟩ ∧ φ k = some b ∧ sCap < LOOSE ∧ s' = .slice (some ⟨b.block, b.base + off, s⟩) sLen sCap) ∨
      (∃ k off s b c, base = some ⟨k, off, s⟩ ∧ φ k = some b ∧ c < LOOSE ∧ sCap = LOOSE + c ∧ s' = .slice (some ⟨b.block, b.base + off, s⟩) sLen (c + b.extra)) := by
     cases base with
     | none => exact .inl ⟨rfl, vrel_sliceNil hs⟩
     | some p =>
      obtain ⟨k, off, s⟩ := p
      rcases vrel_slice hs with ⟨b, hb, hc, rfl⟩ | ⟨b, c1, hb, hc, h2, rfl⟩ | ⟨_, h2, _⟩
      ·exact .inr (.inl ⟨k, off, s, b, rfl, hb, hc, rfl⟩)
      ·exact .inr (.inr ⟨k, off, s, b, c1, rfl, hb, hc, h2, rfl⟩)
      ·omega
    generalize hc0 : (if Nat.ble LOOSE sCap = true then sCap - LOOSE else sCap) = c0 at e
    split at e
    ·-- there is room
     rename_i hfit
     have hfit := Nat.le_of_ble_eq_true hfit
     rw [← hc0] at hfit
     split at e
     ·rename_i hb
      split at e
      ·rename_i hne
       simp only [Option.some.injEq, Prod.mk.injEq] at e
       obtain ⟨rfl, rfl⟩ := e
       rcases cases_s with ⟨_, rfl⟩ | ⟨_, _, _, _, h0, _⟩ | ⟨_, _, _, _, _, h0, _⟩
       ·have hfit' : sLen + n ≤ sCap := by split at hfit <;> omega
        have := (hrun type sType argTypes none sLen sCap hs0 rfl hsT hie).1 hfit'
        exact ⟨φ, _, w, this, Ren.le_refl φ, .sliceNil _ _, h, Below.refl _ _⟩
       ·cases h0
       ·cases h0
      ·cases e
     ·rename_i k off
      simp only [Option.map_eq_some_iff, Prod.mk.injEq] at e
      obtain ⟨σ1, e, rfl, rfl⟩ := e
      rcases cases_s with ⟨h0, _⟩ | ⟨k', off', s, b, h0, hφ, hc, rfl⟩ | ⟨k', off', s, b, c, h0, hφ, hc, hsc, rfl⟩
      ·cases h0
      ·cases h0
       obtain ⟨w', h1, h2, h3, _⟩ := aStoreCells_sound h hφ hrel e
       have hl : Nat.ble LOOSE sCap = false := by
        cases hbb : Nat.ble LOOSE sCap with
        | false => rfl
        | true => have := Nat.le_of_ble_eq_true hbb; omega
       rw [hl] at hfit
       have := (hrun type sType argTypes (some ⟨b.block, b.base + off, none⟩) sLen sCap hs0 rfl hsT hie).1 hfit
       refine ⟨φ, _, w', ?_, Ren.le_refl φ, .slice hφ hc, h2, h3⟩
       rw [this]
       simp only [addr_add]
       rw [Nat.add_assoc, h1]
       rfl
      ·cases h0
       obtain ⟨w', h1, h2, h3, _⟩ := aStoreCells_sound h hφ hrel e
       have hl : Nat.ble LOOSE sCap = true := Nat.ble_eq_true_of_le (by omega)
       rw [hl] at hfit
       simp only [if_true] at hfit
       have := (hrun type sType argTypes (some ⟨b.block, b.base + off, none⟩) sLen (c + b.extra) hs0 rfl hsT hie).1 (by omega)
       subst hsc
       refine ⟨φ, _, w', ?_, Ren.le_refl φ, .sliceLoose hφ hc, h2, h3⟩
       rw [this]
       simp only [addr_add]
       rw [Nat.add_assoc, h1]
       rfl
     ·cases e
    ·-- there is none
     rename_i hfit
     simp only [Option.bind_eq_some_iff] at e
     obtain ⟨z, hz, e⟩ := e
     split at e
     ·cases e
     ·rename_i hcond
      simp only [Bool.or_eq_true, Bool.not_eq_true', not_or, Bool.not_eq_false, Bool.not_eq_true] at hcond
      obtain ⟨⟨⟨hcap, h60⟩, hzs⟩, hnl⟩ := hcond
      have hnl : new.length = n * ie.size := Nat.eq_of_beq_eq_true hnl
      have h60 : sLen + n ≤ 1152921504606846975 := by
       rcases Nat.lt_or_ge 1152921504606846975 (sLen + n) with hh | hh
       ·have : Nat.blt 1152921504606846975 (sLen + n) = true := by rw [Nat.blt_eq]; exact hh
        rw [this] at h60; cases h60
       ·exact hh
      have hzs : z.cells.size = ie.size := Nat.eq_of_beq_eq_true hzs
      have hneed : sLen + n < LOOSE := by unfold LOOSE; omega
      have hfit : c0 < sLen + n := by
       rcases Nat.lt_or_ge c0 (sLen + n) with hh | hh
       ·exact hh
       ·exact absurd (Nat.ble_eq_true_of_le hh) hfit
      split at e
      ·-- nil
       split at e
       ·cases e
       ·rename_i hl
        simp only [Option.some.injEq, Prod.mk.injEq] at e
        obtain ⟨rfl, rfl⟩ := e
        rcases cases_s with ⟨_, rfl⟩ | ⟨_, _, _, _, h0, _⟩ | ⟨_, _, _, _, _, h0, _⟩
        ·rw [if_neg hl] at hc0
         subst hc0
         have hold : (Builtin.firstCells ie.size sLen (.slice none sLen sCap)).run P w.drew = .ok #[] w.drew := rfl
         have := (hrun type sType argTypes none sLen sCap hs0 rfl hsT hie).2 (by omega) h60 (capFits_le hcap hfit) z hz #[] hold
         obtain ⟨g1, g2, g3⟩ := appendNew_sound h elem (sCap := sCap) (old := []) (old' := []) LRel.nil hrel hzs hneed true 0
         exact ⟨_, _, _, this, Ren.le_ins _ h.fresh, g1, g2, g3⟩
        ·cases h0
        ·cases h0
      ·rename_i k off
       split at e
       ·rename_i r hk
        simp only [Option.bind_eq_some_iff] at e
        obtain ⟨old, hp, e⟩ := e
        rcases cases_s with ⟨h0, _⟩ | ⟨k', off', s, b, h0, hφ, hc, rfl⟩ | ⟨k', off', s, b, c, h0, hφ, hc, hsc, rfl⟩
        ·cases h0
        ·-- the capacity is known: a new row
         cases h0
         have hl : Nat.ble LOOSE sCap = false := by
          cases hbb : Nat.ble LOOSE sCap with
          | false => rfl
          | true => have := Nat.le_of_ble_eq_true hbb; omega
         rw [hl] at e hc0
         simp only [Bool.false_eq_true, if_false, Option.some.injEq, Prod.mk.injEq] at e hc0
         subst hc0
         obtain ⟨rfl, rfl⟩ := e
         obtain ⟨old', h1, h2, h3⟩ := h.cellsAt hk hφ hp
         have hold : (Builtin.firstCells ie.size sLen (.slice (some ⟨b.block, b.base + off, none⟩) sLen sCap)).run P w.drew = .ok old'.toArray w.drew := by
          have := run_loadCells_vs (P := P) (w := w.drew) (b := b.block) (o := b.base + off) (vs := old') h1
          rw [h3] at this
          exact this
         have := (hrun type sType argTypes (some ⟨b.block, b.base + off, none⟩) sLen sCap hs0 rfl hsT hie).2 (by omega) h60 (capFits_le hcap hfit) z hz _ hold
         obtain ⟨g1, g2, g3⟩ := appendNew_sound h elem (sCap := sCap) h2 hrel hzs hneed true 0
         exact ⟨_, _, _, this, Ren.le_ins _ h.fresh, g1, g2, g3⟩
        ·-- the capacity is the tape's
         cases h0
         have hl : Nat.ble LOOSE sCap = true := Nat.ble_eq_true_of_le (by omega)
         rw [hl] at e hc0
         simp only [if_true] at e hc0
         have hcc : c0 = c := by omega
         subst hcc
         split at e
         ·cases e
         ·rename_i hcond
          simp only [Bool.or_eq_true, Bool.not_eq_true', not_or, Bool.not_eq_false, Bool.not_eq_true, decide_eq_true_eq] at hcond
          obtain ⟨⟨⟨⟨⟨⟨hro, hrl⟩, hel⟩, hesz⟩, hend⟩, hfz⟩, hone⟩ := hcond
          have hel : r.elem = elem := Nat.eq_of_beq_eq_true hel
          have hesz : r.esz = ie.size := Nat.eq_of_beq_eq_true hesz
          have hend : off + c0 * ie.size = r.cells.length := Nat.eq_of_beq_eq_true hend
          simp only [Option.some.injEq, Prod.mk.injEq] at e
          obtain ⟨rfl, rfl⟩ := e
          obtain ⟨old', h1, h2, h3⟩ := h.cellsAt hk hφ hp
          by_cases hroom : sLen + n ≤ c0 + b.extra
          ·-- in place
           have := (hrun type sType argTypes (some ⟨b.block, b.base + off, none⟩) sLen (c0 + b.extra) hs0 rfl hsT hie).1 hroom
           obtain ⟨cur, fz, hg, hr⟩ := h.rowAt hk hφ
           have hmine : (AObj.row r).mine = true := by simp [AObj.mine, hro]
           obtain ⟨hN, huniq⟩ := h.own k _ b hk hmine hφ
           have hsz := hr.size
           rw [hrl] at hsz
           simp only [if_true] at hsz
           have hopen := hr.open_ hro
           have hnl' : new'.length = n * ie.size := by rw [← hrel.1]; exact hnl
           have hlin : off + sLen * ie.size + n * ie.size ≤ r.cells.length + b.extra * ie.size := by
            have : (sLen + n) * ie.size ≤ (c0 + b.extra) * ie.size := Nat.mul_le_mul_right _ hroom
            rw [Nat.add_mul, Nat.add_mul] at this
            omega
           rw [hesz] at hsz
           have hone' : ∀ v ∈ new', oneCell v = true := by
            intro v hmem
            obtain ⟨i, hi, rfl⟩ := List.mem_iff_getElem.1 hmem
            have hi2 : i < new.length := by rw [hrel.1]; exact hi
            exact (hrel.2 i _ _ (List.getElem?_eq_getElem hi2) (List.getElem?_eq_getElem hi)).oneCell (List.all_eq_true.1 hone _ (List.getElem_mem hi2))
           have hst := run_storeCells_vs (P := P) b.block (b.base + off + sLen * ie.size) r.elem fz new' 0 cur w hg (fun j hj hj2 => hopen j (by omega) (by omega)) (by omega) hone'
           have hφn : φ σ.next = none := h.fresh
           have hkill := h.kill k
           refine ⟨φ.ins σ.next ⟨b.block, b.base + off, c0 + b.extra - (sLen + n)⟩, .slice (some ⟨b.block, b.base + off, none⟩) (sLen + n) (c0 + b.extra), _, ?_, Ren.le_ins _ hφn, ?_, hkill.newAt (b := ⟨b.block, b.base + off, c0 + b.extra - (sLen + n)⟩) (w' := w.setRow b.block (cur.toList.take (b.base + off + sLen * ie.size + 0) ++ new' ++ cur.toList.drop (b.base + off + sLen * ie.size + 0 + new'.length)).toArray)
            (by simp) (by simp; exact (h.dom _ _ hφ).2) hN (fun j hj _ => setRow_other w b.block j _ hj) ?_ (setRow_heap w b.block cur _ r.elem fz hg) ⟨_, fz, rfl, ?_⟩, ?_⟩
           ·rw [this]
            simp only [addr_add, hst]
            rfl
           ·have hins : (φ.ins σ.next ⟨b.block, b.base + off, c0 + b.extra - (sLen + n)⟩) σ.next = some ⟨b.block, b.base + off, c0 + b.extra - (sLen + n)⟩ := by simp [Ren.ins]
            have hv := VRel.sliceLoose (off := 0) (s := none) (len := sLen + n) hins (c := sLen + n) hneed
            simp only [Nat.add_zero] at hv
            rwa [show sLen + n + (c0 + b.extra - (sLen + n)) = c0 + b.extra from by omega] at hv
           ·intro k' o' b' hk' hb' he
            rw [AH.get_put] at hk'
            split at hk'
            ·cases hk'
            ·rename_i hne
             exact hne (huniq k' o' b' hk' hb' he)
           ·have hol : old.length = sLen * ie.size := by rw [h2.1, h3]
            have hle : Ren.le φ (φ.ins σ.next ⟨b.block, b.base + off, c0 + b.extra - (sLen + n)⟩) := Ren.le_ins _ hφn
            have hlen : (cur.toList.take (b.base + off + sLen * ie.size + 0) ++ new' ++ cur.toList.drop (b.base + off + sLen * ie.size + 0 + new'.length)).length = cur.size := by
             simp only [List.length_append, List.length_take, List.length_drop, Array.length_toList]; omega
            refine RowRel.mk ?_ (fun i v v' hv1 hv2 => ?_) (fun _ i hi hi2 => ?_) hr.clean (fun e => by cases e)
            ·simp only [if_true, List.size_toArray, hlen, List.length_append, hol, hnl]
             have : (c0 + b.extra - (sLen + n)) * ie.size + (sLen + n) * ie.size = (c0 + b.extra) * ie.size := by
              rw [← Nat.add_mul, Nat.sub_add_cancel hroom]
             rw [Nat.add_mul (sLen) n] at this
             rw [Nat.add_mul c0] at this
             omega
            ·simp only [Nat.add_zero, List.getElem?_toArray] at hv2
             rw [getElem?_seg _ _ _ _ (by simp; omega)] at hv2
             by_cases hi : i < old.length
             ·rw [List.getElem?_append_left hi] at hv1
              rw [if_neg (by omega)] at hv2
              obtain ⟨ep, _, _⟩ := part_some hp
              rw [ep, List.getElem?_take, if_pos (by omega), List.getElem?_drop] at hv1
              exact (hr.cells (off + i) v v' hv1 (by rw [← Nat.add_assoc]; simpa using hv2)).mono hle
             ·rw [List.getElem?_append_right (by omega)] at hv1
              have hi3 : i - old.length < new.length := (List.getElem?_eq_some_iff.1 hv1).1
              rw [if_pos (by omega), show b.base + off + i - (b.base + off + sLen * ie.size) = i - old.length from by omega] at hv2
              exact (hrel.2 _ _ _ hv1 hv2).mono hle
            ·have hi2 : i < cur.size := by
              have : (cur.toList.take (b.base + off + sLen * ie.size + 0) ++ new' ++ cur.toList.drop (b.base + off + sLen * ie.size + 0 + new'.length)).toArray.size = cur.size := by simp only [List.size_toArray]; exact hlen
              omega
             refine hopen i ?_ hi2
             simp only at hi
             omega
           ·refine ⟨rfl, rfl, rfl, by simp, fun j hj => setRow_other w b.block j _ (by omega)⟩
          ·have hold : (Builtin.firstCells ie.size sLen (.slice (some ⟨b.block, b.base + off, none⟩) sLen (c0 + b.extra))).run P w.drew = .ok old'.toArray w.drew := by
            have := run_loadCells_vs (P := P) (w := w.drew) (b := b.block) (o := b.base + off) (vs := old') h1
            rw [h3] at this
            exact this
           have := (hrun type sType argTypes (some ⟨b.block, b.base + off, none⟩) sLen (c0 + b.extra) hs0 rfl hsT hie).2 hroom h60 (capFits_le hcap (by omega)) z hz _ hold
           obtain ⟨g1, g2, g3⟩ := appendNew_sound (h.kill k) elem (sCap := c0 + b.extra) h2 hrel hzs hneed r.clean (r.fz - off)
           subst hel
           exact ⟨_, _, _, this, Ren.le_ins _ h.fresh, g1, g2, g3⟩
       ·cases e
      ·cases e
  ·cases e
 ·cases e
end
section
variable {P : Program} {N : Nat} {φ : Ren} {σ σ' : AH} {w : World} {fr : Fr} {a : Act} {o : Oper} {out : AOut}
theorem args_one {x : Value} {args' : Array Value} (h : VL φ [x] args'.toList) : ∃ x', args' = #[x'] ∧ VRel φ x x' := by
 obtain ⟨x', t, h1, hx, ht⟩ := LRel.cons_inv h
 rw [LRel.nil_inv ht] at h1
 exact ⟨x', by rw [← Array.toArray_toList (xs := args'), h1], hx⟩
theorem bind_underlying {argTypes : Array TypeId} {d : TypeDesc} (h : (argTypes[0]?).bind P.underlying = some d) : ∃ t, argTypes[0]? = some t ∧ P.underlying t = some d := by
 cases e : argTypes[0]? with
 | none => rw [e] at h; cases h
 | some t => rw [e] at h; exact ⟨t, rfl, h⟩
theorem len_sound (h : HRel P N φ σ w) {argTypes : Array TypeId} {type : TypeId} {consts : Array Bool} {args : List Value} {args' : Array Value} (ha : VL φ args args'.toList)
  (e : aBuiltin P σ .len argTypes type consts args = some (out, σ')) : OpOk P N φ w ((builtin .len argTypes type consts args').run P w) out σ' := by
 simp only [aBuiltin] at e
 split at e
 ·rename_i s hu
  obtain ⟨t, ht, hu⟩ := bind_underlying hu
  obtain ⟨x', rfl, hx⟩ := args_one ha
  rw [vrel_string hx]
  obtain ⟨rfl, rfl⟩ := val_inv e
  simp [builtin, Builtin.len_, ht, run_underlying hu, goInt]
  exact opOk_val h (.int _ _)
 ·rename_i n el hu
  obtain ⟨t, ht, hu⟩ := bind_underlying hu
  obtain ⟨x', rfl, hx⟩ := args_one ha
  obtain ⟨rfl, rfl⟩ := val_inv e
  simp [builtin, Builtin.len_, Builtin.cap_, ht, run_underlying hu, goInt]
  exact opOk_val h (.int _ _)
 ·rename_i el b n c hu
  obtain ⟨t, ht, hu⟩ := bind_underlying hu
  obtain ⟨x', rfl, hx⟩ := args_one ha
  obtain ⟨b', c', rfl⟩ := vrel_slice_len hx
  obtain ⟨rfl, rfl⟩ := val_inv e
  simp [builtin, Builtin.len_, ht, run_underlying hu, goInt]
  exact opOk_val h (.int _ _)
 ·rename_i kt el m hu
  obtain ⟨t, ht, hu⟩ := bind_underlying hu
  obtain ⟨x', rfl, hx⟩ := args_one ha
  simp only [Option.bind_eq_some_iff] at e
  obtain ⟨⟨es, clock⟩, hm, e⟩ := e
  obtain ⟨rfl, rfl⟩ := val_inv e
  rcases aMapOf_sound h hx hm with ⟨_, rfl, rfl⟩ | ⟨r, b, es', _, _, rfl, _, hg, hr⟩
  ·simp [builtin, Builtin.len_, ht, run_underlying hu, goInt]
   exact opOk_val h (.int _ _)
  ·have hget := run_getObj_of (P := P) hg (by simp)
   have hl : es'.size = es.length := by have := hr.1; simp at this; omega
   simp [builtin, Builtin.len_, ht, run_underlying hu, hget, goInt, hl]
   exact opOk_val h (.int _ _)
 ·cases e
theorem cap_sound (h : HRel P N φ σ w) {argTypes : Array TypeId} {type : TypeId} {consts : Array Bool} {args : List Value} {args' : Array Value} (ha : VL φ args args'.toList)
  (e : aBuiltin P σ .cap argTypes type consts args = some (out, σ')) : OpOk P N φ w ((builtin .cap argTypes type consts args').run P w) out σ' := by
 simp only [aBuiltin] at e
 split at e
 ·rename_i el b n c hu
  obtain ⟨t, ht, hu⟩ := bind_underlying hu
  obtain ⟨x', rfl, hx⟩ := args_one ha
  split at e
  ·rename_i hc
   have hc : c < LOOSE := by simpa [Nat.blt_eq] using hc
   obtain ⟨rfl, rfl⟩ := val_inv e
   cases hx with
   | sliceNil =>
    simp [builtin, Builtin.cap_, ht, run_underlying hu, goInt]
    exact opOk_val h (.int _ _)
   | slice hb hc =>
    simp [builtin, Builtin.cap_, ht, run_underlying hu, goInt]
    exact opOk_val h (.int _ _)
   | sliceLoose hb hc2 => omega
   | sliceEmpty => exact absurd hc (by unfold EMPTY LOOSE; omega)
  ·cases e
 ·rename_i n el hu
  obtain ⟨t, ht, hu⟩ := bind_underlying hu
  obtain ⟨x', rfl, hx⟩ := args_one ha
  obtain ⟨rfl, rfl⟩ := val_inv e
  simp [builtin, Builtin.len_, Builtin.cap_, ht, run_underlying hu, goInt]
  exact opOk_val h (.int _ _)
 ·cases e
theorem copy_sound (h : HRel P N φ σ w) {argTypes : Array TypeId} {type : TypeId} {consts : Array Bool} {args : List Value} {args' : Array Value} (ha : VL φ args args'.toList)
  (e : aBuiltin P σ .copy argTypes type consts args = some (out, σ')) : OpOk P N φ w ((builtin .copy argTypes type consts args').run P w) out σ' := by
 simp only [aBuiltin] at e
 split at e
 ·rename_i el base dLen dc src hu
  obtain ⟨t, ht, hu⟩ := bind_underlying hu
  obtain ⟨d', s', rfl, hd, hs⟩ := args_two ha
  simp only [Option.bind_eq_some_iff] at e
  obtain ⟨ie, hie, sn, hsn, cs, hcs, e⟩ := e
  have hlen := aLen_sound (P := P) (w := w) hs hsn
  obtain ⟨cs', h1, h2⟩ := aCells_sound h hs hcs (fun l hl => by rw [hsn] at hl; cases hl; exact Nat.min_le_left _ _)
  have h1 := h1 w rfl
  split at e
  ·obtain ⟨rfl, rfl⟩ := val_inv e
   rw [vrel_sliceNil hd]
   simp [builtin, Builtin.copy_, ht, run_underlying hu, run_size hie, hlen, h1, goInt]
   exact opOk_val h (.int _ _)
  ·rename_i k off
   simp only [Option.bind_eq_some_iff] at e
   obtain ⟨σ1, hst, e⟩ := e
   obtain ⟨rfl, rfl⟩ := val_inv e
   have key : ∀ b c', φ k = some b → d' = .slice (some ⟨b.block, b.base + off, none⟩) dLen c' → OpOk P N φ w ((builtin .copy argTypes type consts #[d', s']).run P w) (.value (.int .i64 (Nat.min sn dLen))) σ' := by
    intro b c' hb hd'
    obtain ⟨w', g1, g2, g3, _⟩ := aStoreCells_sound h hb h2 hst
    subst hd'
    refine ⟨φ, .int .i64 (Nat.min sn dLen), w', ?_, Ren.le_refl φ, .int _ _, g2, g3⟩
    simp [builtin, Builtin.copy_, ht, run_underlying hu, run_size hie, hlen, h1, goInt, g1]
   rcases vrel_slice hd with ⟨b, hb, _, hx⟩ | ⟨b, c1, hb, _, _, hx⟩ | ⟨hl, _, a', c', hx⟩
   ·exact key b _ hb hx
   ·exact key b _ hb hx
   ·subst hl
    have hcs0 : cs' = [] := by
     have h0 : Nat.min sn 0 = 0 := by simp [Nat.min_def]
     rw [h0] at hcs
     unfold aCells at hcs
     split at hcs
     ·simp at hcs; subst hcs; exact LRel.nil_inv h2
     ·split at hcs
      ·have := (part_some hcs).2.1
       have : cs = [] := List.eq_nil_of_length_eq_zero (by omega)
       subst this; exact LRel.nil_inv h2
      ·cases hcs
     ·simp at hcs; subst hcs; exact LRel.nil_inv h2
     ·cases hcs
    subst hcs0
    have : cs = [] := by have := h2.1; simp at this; exact this
    subst this
    simp only [aStoreCells, Option.some.injEq] at hst
    subst hst
    subst hx
    have h0 : Nat.min sn 0 = 0 := by simp [Nat.min_def]
    rw [h0] at h1
    simp [builtin, Builtin.copy_, ht, run_underlying hu, run_size hie, hlen, h1, goInt, storeCells]
    exact opOk_val h (.int _ _)
  ·cases e
 ·cases e
theorem loadBytes_sound (b o : Nat) : ∀ (ns : List Int) (o : Nat) (acc : ByteArray), (∀ (j : Nat) (u : Value), (ns.map (Value.int .u8))[j]? = some u → w.cell? ⟨b, o + j, none⟩ = some u) →
  (loadBytes ⟨b, o, none⟩ acc ns.length).run P w = .ok ⟨acc.data ++ (ns.map fun n => UInt8.ofNat n.toNat).toArray⟩ w
 | [], o, acc, _ => by simp [loadBytes]
 | n :: ns, o, acc, h => by
  have h0 : w.cell? ⟨b, o, none⟩ = some (.int .u8 n) := by simpa using h 0 (.int .u8 n) rfl
  have ih := loadBytes_sound b o ns (o + 1) (acc.push n.toNat.toUInt8) (fun j u hu => by
   rw [show o + 1 + j = o + (j + 1) from by omega]
   exact h (j + 1) u (by simpa using hu))
  simp only [List.length_cons, loadBytes, Sem.run_bind, run_load, h0, Result.andThen, addr_add]
  rw [ih]
  congr 1
  apply ByteArray.ext
  simp [ByteArray.push]
theorem minmax_sound (h : HRel P N φ σ w) {b : Builtin} {argTypes : Array TypeId} {type : TypeId} {consts : Array Bool} {args : List Value} {args' : Array Value} (ha : VL φ args args'.toList)
  (e : (if args.all flat then
   match pureRun P (builtin b argTypes type consts ⟨args⟩) with
   | some (.value v) => if flat v then val σ v else none
   | _ => none
  else none) = some (out, σ')) : OpOk P N φ w ((builtin b argTypes type consts args').run P w) out σ' := by
 split at e
 ·rename_i hfl
  have := flat_sameL hfl ha
  have : args' = ⟨args⟩ := by rw [← Array.toArray_toList (xs := args'), this]
  subst this
  split at e
  ·rename_i v hp
   split at e
   ·rename_i hv
    obtain ⟨rfl, rfl⟩ := val_inv e
    rw [pureRun_run P _ _ hp w]
    exact opOk_val h (flat_rel φ hv)
   ·cases e
  ·cases e
 ·cases e
theorem usd_sound (h : HRel P N φ σ w) {argTypes : Array TypeId} {type : TypeId} {consts : Array Bool} {args : List Value} {args' : Array Value} (ha : VL φ args args'.toList)
  (e : aBuiltin P σ .unsafeSliceData argTypes type consts args = some (out, σ')) : OpOk P N φ w ((builtin .unsafeSliceData argTypes type consts args').run P w) out σ' := by
 simp only [aBuiltin] at e
 split at e
 ·obtain ⟨x', rfl, hx⟩ := args_one ha
  obtain ⟨rfl, rfl⟩ := val_inv e
  rw [vrel_sliceNil hx]
  exact opOk_val h .ptrNil
 ·rename_i p l c
  obtain ⟨x', rfl, hx⟩ := args_one ha
  split at e
  ·cases e
  ·rename_i hc
   simp only [Bool.or_eq_true, not_or] at hc
   split at e
   ·cases e
   ·rename_i hL
    obtain ⟨rfl, rfl⟩ := val_inv e
    have h0 : c ≠ 0 := by intro hh; rw [hh] at hc; exact hc.1 rfl
    have hE : c < EMPTY := by
     rcases Nat.lt_or_ge c EMPTY with hh | hh
     ·exact hh
     ·exact absurd (Nat.ble_eq_true_of_le hh) hc.2
    have hL : c ≠ LOOSE := by intro hh; rw [hh] at hL; simp at hL
    obtain ⟨k, off, s⟩ := p
    have run_usd : ∀ (a : Addr) (c' : Nat), c' ≠ 0 → (builtin .unsafeSliceData argTypes type consts #[.slice (some a) l c']).run P w = .ok (.value (.pointer (some a))) w := by
     intro a c' hc'
     obtain ⟨m, rfl⟩ : ∃ m, c' = m + 1 := ⟨c' - 1, by omega⟩
     rfl
    rcases vrel_slice hx with ⟨b, hb, _, rfl⟩ | ⟨b, c1, hb, _, hc1, rfl⟩ | ⟨_, h2, _⟩
    ·rw [run_usd _ _ h0]; exact opOk_val h (.ptr hb)
    ·rw [run_usd _ _ (by omega)]; exact opOk_val h (.ptr hb)
    ·omega
 ·cases e
theorem unsafeString_sound (h : HRel P N φ σ w) {argTypes : Array TypeId} {type : TypeId} {consts : Array Bool} {args : List Value} {args' : Array Value} (ha : VL φ args args'.toList)
  (e : aBuiltin P σ .unsafeString argTypes type consts args = some (out, σ')) : OpOk P N φ w ((builtin .unsafeString argTypes type consts args').run P w) out σ' := by
 simp only [aBuiltin] at e
 split at e
 ·rename_i p k
  obtain ⟨p', l', rfl, hp, hl⟩ := args_two ha
  rw [vrel_int hl]
  split at e
  ·rename_i hs
   obtain ⟨pt, hpt⟩ := Option.isSome_iff_exists.1 hs
   obtain ⟨rfl, rfl⟩ := val_inv e
   have hp2 : ∃ q, p' = .pointer q := by cases hp <;> exact ⟨_, rfl⟩
   obtain ⟨q, rfl⟩ := hp2
   have hmax : IntKind.i64.max = 9223372036854775807 := rfl
   have : (builtin .unsafeString argTypes type consts #[.pointer q, .int k 0]).run P w = .ok (.value (.string .empty)) w := by
    have hb : builtin .unsafeString argTypes type consts #[.pointer q, .int k 0] = (do pure (.value (← Builtin.unsafeString_ argTypes type #[.pointer q, .int k 0]))) := rfl
    rw [hb]
    cases q with
    | none =>
     have hdef : Builtin.unsafeString_ argTypes type #[.pointer none, .int k 0] =
       (do
        let n ← asInt (.int k 0)
        let some pt := argTypes[0]? | stuck "unsafe.String: no argument types"
        if n < 0 then runtimePanic (.error "unsafe.String: len out of range")
        if n > IntKind.i64.max then unsupported (.unsafePointer "String: a length above the largest int")
        if n = 0 then pure (.string .empty)
        else runtimePanic (.error "unsafe.String: ptr is nil and len is not zero")) := rfl
     rw [hdef]
     simp [asInt, asIntOf, hpt, hmax]
    | some q =>
     have hdef : Builtin.unsafeString_ argTypes type #[.pointer (some q), .int k 0] =
       (do
        let n ← asInt (.int k 0)
        let some pt := argTypes[0]? | stuck "unsafe.String: no argument types"
        if n < 0 then runtimePanic (.error "unsafe.String: len out of range")
        if n > IntKind.i64.max then unsupported (.unsafePointer "String: a length above the largest int")
        if n = 0 then pure (.string .empty)
        else if ← variablesAt q (← elemOf pt) n.toNat then do
         let s ← loadBytes q .empty n.toNat
         freeze q n.toNat
         pure (.string s)
        else unsupported (.unsafePointer "String: not so many bytes at ptr")) := rfl
     rw [hdef]
     simp [asInt, asIntOf, hpt, hmax]
   rw [this]
   exact opOk_val h (.string _)
  ·cases e
 ·rename_i k off kind n
  obtain ⟨p', l', rfl, hp, hl⟩ := args_two ha
  obtain ⟨b, hb, rfl⟩ := vrel_ptr hp
  have hl := vrel_int hl
  have hl : l' = .int kind ((n + 1 : Nat) : Int) := hl
  subst hl
  split at e
  ·rename_i r hk
   split at e
   ·rename_i hu8
    simp only [Option.bind_eq_some_iff] at e
    obtain ⟨pt, hpt, e⟩ := e
    split at e
    ·rename_i el hu
     split at e
     ·rename_i hc
      simp only [Bool.and_eq_true, decide_eq_true_eq] at hc
      obtain ⟨⟨he, hc1⟩, h63⟩ := hc
      have he : el = r.elem := Nat.eq_of_beq_eq_true he
      subst he
      have hc1 : P.cellsOf r.elem = 1 := Nat.eq_of_beq_eq_true hc1
      simp only [Option.bind_eq_some_iff] at e
      obtain ⟨cs, hpart, bs, hbs, e⟩ := e
      split at e
      ·cases e
      ·rename_i hcond
       simp only [Bool.or_eq_true, not_or, Bool.not_eq_true', Bool.not_eq_false, Bool.not_eq_true] at hcond
       obtain ⟨hro, hcl⟩ := hcond
       simp only [Option.some.injEq, Prod.mk.injEq] at e
       obtain ⟨rfl, rfl⟩ := e
       obtain ⟨vs', h1, h2, h3⟩ := h.cellsAt hk hb hpart
       obtain ⟨ns, rfl, rfl⟩ := ints_bytes cs bs vs' hbs h2
       obtain ⟨c, fz, hg, hr⟩ := h.rowAt hk hb
       have hfz := hr.clean hcl
       subst hfz
       have hsz := hr.size
       have hin : off + (n + 1) ≤ r.cells.length := by
        have := (part_some hpart).2.2
        omega
       have hlen : ns.length = n + 1 := by simpa using h3
       have hload := loadBytes_sound (P := P) (w := w) b.block 0 ns (b.base + off) .empty h1
       rw [hlen] at hload
       have hlies : liesAt P P.depth r.elem (c.size / P.cellsOf r.elem) (b.base + off) r.elem (n + 1) = true := by
        rw [hc1, Nat.div_one]
        have hd : P.depth = (2 * (P.types.size + Made.depth) + 1) + 1 := rfl
        rw [hd]
        simp only [liesAt, Bool.or_eq_true]
        left
        rw [hd]
        have : b.base + off + (n + 1) ≤ c.size := by omega
        simp [rowAt, hc1, this, sameLayout, Nat.mod_one]
       have hvar : (variablesAt ⟨b.block, b.base + off, none⟩ r.elem (n + 1)).run P w = .ok true w := by
        simp only [variablesAt, program, Sem.run_bind, Sem.run, Result.andThen_ok, run_shape_row hg]
        rw [hlies]; rfl
       have helem : (elemOf pt).run P w = .ok r.elem w := by simp [elemOf, run_underlying hu]
       have hrun : (builtin .unsafeString argTypes type consts #[.pointer (some ⟨b.block, b.base + off, none⟩), .int kind ((n + 1 : Nat) : Int)]).run P w =
         .ok (.value (.string ⟨(ns.map fun n => UInt8.ofNat n.toNat).toArray⟩)) (w.freeze ⟨b.block, b.base + off, none⟩ (n + 1)) := by
        have hn0 : ¬ (((n + 1 : Nat) : Int) < 0) := by omega
        have hmax : ¬ (((n + 1 : Nat) : Int) > IntKind.i64.max) := by
         have : IntKind.i64.max = 9223372036854775807 := rfl
         rw [this]; omega
        have hne : ¬ (((n + 1 : Nat) : Int) = 0) := by omega
        have hdef : Builtin.unsafeString_ argTypes type #[.pointer (some ⟨b.block, b.base + off, none⟩), .int kind ((n + 1 : Nat) : Int)] =
          (do
           let n ← asInt (.int kind ((n + 1 : Nat) : Int))
           let some pt := argTypes[0]? | stuck "unsafe.String: no argument types"
           if n < 0 then runtimePanic (.error "unsafe.String: len out of range")
           if n > IntKind.i64.max then unsupported (.unsafePointer "String: a length above the largest int")
           if n = 0 then pure (.string .empty)
           else if ← variablesAt ⟨b.block, b.base + off, none⟩ (← elemOf pt) n.toNat then do
            let s ← loadBytes ⟨b.block, b.base + off, none⟩ .empty n.toNat
            freeze ⟨b.block, b.base + off, none⟩ n.toNat
            pure (.string s)
           else unsupported (.unsafePointer "String: not so many bytes at ptr")) := rfl
        have hb : builtin .unsafeString argTypes type consts #[.pointer (some ⟨b.block, b.base + off, none⟩), .int kind ((n + 1 : Nat) : Int)] = (do pure (.value (← Builtin.unsafeString_ argTypes type #[.pointer (some ⟨b.block, b.base + off, none⟩), .int kind ((n + 1 : Nat) : Int)]))) := rfl
        rw [hb, hdef]
        have hmx : IntKind.i64.max = 9223372036854775807 := rfl
        have hne' : ¬ ((n : Int) + 1 = 0) := by omega
        have hn0' : ¬ ((n : Int) + 1 < 0) := by omega
        have hmax' : ¬ ((9223372036854775807 : Int) < (n : Int) + 1) := by omega
        have htn : ((n : Int) + 1).toNat = n + 1 := by omega
        simp [asInt, asIntOf, hpt, hmx, hne', hn0', hmax', htn, helem, hvar, hload, freeze, Sem.run]
       have hw : w.freeze ⟨b.block, b.base + off, none⟩ (n + 1) = { w with heap := w.heap.modify b.block fun
         | .cells c elem (lo, hi) => .cells c elem (if lo == hi then (b.base + off, b.base + off + (n + 1)) else (min lo (b.base + off), max hi (b.base + off + (n + 1))))
         | o => o } := by
        unfold World.freeze
        rw [if_neg (by omega)]
        rfl
       have hmine : (AObj.row r).mine = true := by simp [AObj.mine, hro]
       obtain ⟨hN, _⟩ := h.own k _ b hk hmine hb
       have hlt : b.block < w.heap.size := (Array.getElem?_eq_some_iff.1 hg).1
       refine ⟨φ, _, w.freeze ⟨b.block, b.base + off, none⟩ (n + 1), hrun, Ren.le_refl φ, .string _, ?_, ?_⟩
       ·refine h.set hk hmine hb (by simp [AObj.mine, hro]) (by rw [hw]; simp) (fun j hj => ?_) (ob := .cells c r.elem (b.base + off, b.base + off + (n + 1))) ?_ ⟨c, _, rfl, ?_⟩
        ·rw [hw]
         simp only [Array.getElem?_modify]
         rw [if_neg (fun e => hj e.symm)]
        ·rw [hw]
         simp only [Array.getElem?_modify]
         rw [if_pos trivial, hg]
         rfl
        ·refine RowRel.mk hsz hr.cells (fun _ i hi hi2 => ?_) (fun e => by cases e) hr.exact_
         simp only at hi ⊢
         have h1 : r.fz ≤ Nat.max r.fz (off + (n + 1)) := Nat.le_max_left _ _
         have h2 : off + (n + 1) ≤ Nat.max r.fz (off + (n + 1)) := Nat.le_max_right _ _
         omega
       ·refine ⟨?_, ?_, ?_, ?_, fun j hj => ?_⟩
        ·rw [hw]
        ·rw [hw]
        ·rw [hw]
        ·rw [hw]; simp
        ·rw [hw]
         simp only [Array.getElem?_modify]
         rw [if_neg (by omega)]
     ·cases e
    ·cases e
   ·cases e
  ·cases e
 ·cases e
theorem builtin_sound (h : HRel P N φ σ w) {b : Builtin} {argTypes : Array TypeId} {type : TypeId} {consts : Array Bool} {args : List Value} {args' : Array Value} (ha : VL φ args args'.toList)
  (e : aBuiltin P σ b argTypes type consts args = some (out, σ')) : OpOk P N φ w ((builtin b argTypes type consts args').run P w) out σ' := by
 cases b with
 | append =>
  simp only [aBuiltin, Option.map_eq_some_iff, Prod.mk.injEq] at e
  obtain ⟨⟨v, σ1⟩, e, rfl, rfl⟩ := e
  obtain ⟨φ', v', w', h1, h2, h3, h4, h5⟩ := aAppend_sound (type := type) h ha e
  refine ⟨φ', v', w', ?_, h2, h3, h4, h5⟩
  simp only [builtin, Sem.run_bind, h1, Result.andThen_ok, Sem.run_pure]
 | len => exact len_sound h ha e
 | cap => exact cap_sound h ha e
 | copy => exact copy_sound h ha e
 | min => exact minmax_sound h ha e
 | max => exact minmax_sound h ha e
 | unsafeSliceData => exact usd_sound h ha e
 | unsafeString => exact unsafeString_sound h ha e
 | _ => simp [aBuiltin] at e
theorem callee_sound (h : HRel P N φ σ w) {f f' : Value} {args : List Value} {args' : Array Value} (hf : VRel φ f f') (ha : VL φ args args'.toList) {type : TypeId} {c : Call} {ρ : Operand → Value} {x : Operand}
  (hc : c.callee = .value x) (hx : ρ x = f') (hargs : c.args.map ρ = args') (e : aCallee σ f args = some (out, σ')) :
  OpOk P N φ w ((do let d ← resolve ρ c type; invoke d.target d.args).run P w) out σ' := by
 unfold aCallee at e
 split at e
 ·rename_i g first captured
  simp only [Option.some.injEq, Prod.mk.injEq] at e
  obtain ⟨rfl, rfl⟩ := e
  obtain ⟨f1, c1, rfl, h1, h2⟩ := vrel_func hf
  refine ⟨(f1 ++ args') ++ c1, ?_, ?_, h⟩
  ·simp only [resolve, hc, hx, hargs, Deferred.ofValue, Sem.run_bind, Sem.run_pure, Result.andThen_ok, invoke]
  ·simpa using (h1.append ha).append h2
 ·rename_i l first captured
  simp only [Option.some.injEq, Prod.mk.injEq] at e
  obtain ⟨rfl, rfl⟩ := e
  obtain ⟨b, f1, c1, hb, rfl, h1⟩ := vrel_yield hf
  refine ⟨b, f1 ++ args', hb, ?_, ?_, h⟩
  ·simp only [resolve, hc, hx, hargs, Deferred.ofValue, Sem.run_bind, Sem.run_pure, Result.andThen_ok, invoke]
  ·simpa using h1.append ha
 ·cases e
theorem op_call (h : HRel P N φ σ w) (hf : FrRel φ fr a) (ho : operOk P o = true) {c : Call} (hop : o.op = .call c) (e : aOp P σ fr o = some (out, σ')) :
  OpOk P N φ w ((execOp a.eval o).run P w) out σ' := by
 have hok : ∀ x ∈ c.args.toList, operandOk P x = true := fun x hx => operOk_mem ho (by simp [hop, Op.operands, Call.operands]; exact .inr (by simpa using hx))
 have hargs := map_ev_rel h hf hok
 have hargs' : VL φ (c.args.toList.map fr.ev) (c.args.map a.eval).toList := by simpa using hargs
 simp only [aOp, hop] at e
 split at e
 ·rename_i b hc
  have := builtin_sound h hargs' e
  simp only [execOp, hop, resolve, hc, Sem.run_bind, Sem.run_pure, Result.andThen_ok, invoke]
  exact this
 ·rename_i x hc
  have hx := hf.ev h (x := x) (operOk_mem ho (by simp [hop, Op.operands, Call.operands, hc]))
  have := callee_sound (type := o.type) (c := c) (ρ := a.eval) h hx hargs' hc rfl rfl e
  simp only [execOp, hop]
  exact this
 ·cases e
theorem op_defer (h : HRel P N φ σ w) (hf : FrRel φ fr a) (ho : operOk P o = true) {c : Call} (hop : o.op = .defer c) (e : aOp P σ fr o = some (out, σ')) :
  OpOk P N φ w ((execOp a.eval o).run P w) out σ' := by
 have hok : ∀ x ∈ c.args.toList, operandOk P x = true := fun x hx => operOk_mem ho (by simp [hop, Op.operands, Call.operands]; exact .inr (by simpa using hx))
 have hargs := map_ev_rel h hf hok
 simp only [aOp, hop] at e
 split at e
 ·rename_i x hc
  have hx := hf.ev h (x := x) (operOk_mem ho (by simp [hop, Op.operands, Call.operands, hc]))
  split at e
  ·rename_i g first captured hev
   simp only [Option.some.injEq, Prod.mk.injEq] at e
   obtain ⟨rfl, rfl⟩ := e
   rw [hev] at hx
   obtain ⟨f1, c1, hy, h1, h2⟩ := vrel_func hx
   refine ⟨{ target := .fn (.func g) c1, args := f1 ++ c.args.map a.eval }, ?_, .func g h2 ?_, h⟩
   ·simp only [execOp, hop, resolve, hc, hy, Deferred.ofValue, Sem.run_bind, Sem.run_pure, Result.andThen_ok]
   ·simpa using h1.append hargs
  ·cases e
 ·cases e
theorem aOp_sound (h : HRel P N φ σ w) (hf : FrRel φ fr a) (ho : operOk P o = true) (e : aOp P σ fr o = some (out, σ')) :
  OpOk P N φ w ((execOp a.eval o).run P w) out σ' := by
 cases hop : o.op with
 | move x => exact op_move h hf ho (.inl hop) e
 | assign x => exact op_move h hf ho (.inr hop) e
 | pick c x y => exact op_pick h hf ho hop e
 | alloc t => exact op_alloc h hop e
 | box t x => exact op_box h hf ho hop e
 | build t ps => exact op_build h hf ho hop e
 | buildSlice t n ps => exact op_buildSlice h hf ho hop e
 | load t x => exact op_load h hf ho hop e
 | store t x y => exact op_store h hf ho hop e
 | nilCheck x => exact op_nilCheck h hf ho hop e
 | binOp b t x y ty => exact op_binOp h hf ho hop e
 | unOp u t x => exact op_unOp h hf ho hop e
 | convert s d x => exact op_convert h hf ho hop e
 | sliceToArrayPointer t x => exact op_s2ap h hf ho hop e
 | makeInterface t x => exact op_makeInterface h hf ho hop e
 | makeFunc fn f c => exact op_makeFunc h hf ho hop e
 | makeMap t r => exact op_makeMap h hop e
 | makeSlice t l c => exact op_makeSlice h hf ho hop e
 | slice t x lo hi mx => exact op_slice h hf ho hop e
 | fieldAddr t x f => exact op_fieldAddr h hf ho hop e
 | field t x f => exact op_field h hf ho hop e
 | indexAddr t x i => exact op_indexAddr h hf ho hop e
 | index t x i => exact op_index h hf ho hop e
 | lookup t x i ok => exact op_lookup h hf ho hop e
 | mapUpdate t m k x => exact op_mapUpdate h hf ho (.inl hop) e
 | insert t m k x => exact op_mapUpdate h hf ho (.inr hop) e
 | range t x => exact op_range h hf ho hop e
 | next x b => exact op_next h hf ho hop e
 | extract x i => exact op_extract h hf ho hop e
 | call c => exact op_call h hf ho hop e
 | defer c => exact op_defer h hf ho hop e
 | _ => simp [aOp, hop] at e
end
structure ProgOk (P : Program) : Prop where
 codes : ∀ (g : Nat) (fn : Func) (c : Code), P.funcs[g]? = some fn → fn.body = some c → codeOk P c = true
 names : ∀ (g : Nat) (fn : Func), P.funcs[g]? = some fn → (fn.name == "runtime.NumGoroutine") = false
 wide : P.follows .mixedOrders = true
theorem vrel_undef (φ : Ren) : VRel φ undef undef := .tuple rfl (fun i v v' h => by simp at h)
def RetOk (P : Program) (N : Nat) (φ : Ren) (w : World) (v : Value) (σ' : AH) (e : Ending) (w' : World) : Prop :=
 ∃ φ' v', e = .returned v' ∧ Ren.le φ φ' ∧ VRel φ' v v' ∧ HRel P N φ' σ' w' ∧ Below N w w'
inductive ExitRel : AExit → Exit → Prop
 | normal : ExitRel .normal .normal
 | exit (id : Nat) : ExitRel (.exit id) (.exit id)
 | goto (l : Nat) : ExitRel (.goto l) (.goto l)
 | ret : ExitRel .ret .ret
def CodeOk (P : Program) (N : Nat) (φ : Ren) (w : World) (x : AExit) (fr' : Fr) (σ' : AH) (e : Exit) (a' : Act) (w' : World) : Prop :=
 ∃ φ', ExitRel x e ∧ Ren.le φ φ' ∧ FrRel φ' fr' a' ∧ HRel P N φ' σ' w' ∧ Below N w w'
def RoundRel (φ : Ren) : Option Nat → Option Nat → Prop
 | none, none => True
 | some l, some l' => ∃ b, φ l = some b ∧ b.block = l'
 | _, _ => False
theorem RoundRel.mono {φ ψ : Ren} (hle : Ren.le φ ψ) {r r' : Option Nat} (h : RoundRel φ r r') : RoundRel ψ r r' := by
 cases r <;> cases r' <;> first | exact h | (obtain ⟨b, h1, h2⟩ := h; exact ⟨b, hle _ _ h1, h2⟩)
def fenceAt (r : Option Nat) : Fence := { Fence.wide with round := r }
def LoopsIn (F : Fence) (n : Nat) (P : Program) (c : Code) (Q : Exit → Act → World → Prop) (a : Act) (w : World) : Prop :=
 ∀ (b : Frame) (k : List Item) (cs : List Frame), b.roundOf = F.round → F.fn b.fn → F.room (cs.length + 1 + n) →
  ∃ e a' w', Q e a' w' ∧ ArrivesIn (Machine.fenced P F) P (lone (b.atR a (.code c :: .inLoop c :: k)) cs w) b k cs e a' w'
structure EvalOk (P : Program) (E : Eval) : Prop where
 call : ∀ {N : Nat} {φ : Ren} {σ σ' : AH} {w : World} {g : FuncId} {args : List Value} {args' : Array Value} {v : Value}, E.call g args σ = some (v, σ') → HRel P N φ σ w → VL φ args args'.toList →
  CallsIn Fence.wide 0 P g args' w (RetOk P N φ w v σ')
 code : ∀ {N : Nat} {φ : Ren} {σ σ' : AH} {w : World} {ro r : Option Nat} {c : Code} {fr fr' : Fr} {a : Act} {x : AExit}, E.code ro (.loop c) fr σ = some (x, fr', σ') → codeOk P c = true → HRel P N φ σ w → FrRel φ fr a → RoundRel φ ro r →
  ∀ (Q : Exit → Act → World → Prop), (∀ e a' w', CodeOk P N φ w x fr' σ' e a' w' → Q e a' w') → LoopsIn (fenceAt r) 0 P c Q a w
 round : ∀ {N : Nat} {φ : Ren} {σ σ' : AH} {w : World} {l : Nat} {b : BInfo} {args : List Value} {args' : Array Value} {v : Value}, E.round l args σ = some (v, σ') → HRel P N φ σ w → φ l = some b → VL φ args args'.toList →
  ∃ f tmps assign body, (Instr.yield b.block args').run P w = .ok (.round b.block f tmps assign body) w ∧ RoundIn Fence.wide 0 P b.block f tmps assign body w (RetOk P N φ w v σ')
section
variable {P : Program} {N : Nat} {φ : Ren} {σ σ' : AH} {w : World} {fr fr' : Fr} {a : Act} {o : Oper} {E : Eval}
theorem callsIn_at {r : Option Nat} {n m : Nat} {f : FuncId} {args : Array Value} {R : Ending → World → Prop} (h : CallsIn Fence.wide n P f args w R) : CallsIn (fenceAt r) m P f args w R :=
 ⟨trivial, fun cs _ => h.2 cs (room_wide _)⟩
theorem roundIn_at {r : Option Nat} {n m : Nat} {l : Nat} {f : FuncId} {tmps : Array Value} {x y : Code} {R : Ending → World → Prop} (h : RoundIn Fence.wide n P l f tmps x y w R) : RoundIn (fenceAt r) m P l f tmps x y w R :=
 ⟨trivial, fun c cs _ => h.2 c cs (room_wide _)⟩
theorem run_callFunc (hP : ProgOk P) {g : FuncId} {fn : Func} {c : Code} (hf : P.funcs[g]? = some fn) (hb : fn.body = some c) (args : Array Value) : (callFunc g args).run P w = .ok (.enter g args) w := by
 have hn := hP.names g fn hf
 simp at hn
 simp [callFunc, program, Sem.run, hf, hb, hn]
theorem find_noEscape {fn : Func} (hn : fn.name = "internal/abi.NoEscape") (ho : fn.origin = "") : Extern.findNext fn = none ∧ Extern.find fn = some Extern.AbiNoEscape.same := by
 have h1 : Extern.allNextRows.lookup "internal/abi.NoEscape" = none := by kernel_rfl
 have h2 : Extern.allNextRows.lookup "" = none := by kernel_rfl
 have h3 : Extern.allGenericRows.lookup "internal/abi.NoEscape" = none := by kernel_rfl
 have h4 : Extern.allTypedRows.lookup "internal/abi.NoEscape" = none := by kernel_rfl
 have h5 : Extern.allRows.lookup "internal/abi.NoEscape" = some Extern.AbiNoEscape.same := by kernel_rfl
 constructor
 ·simp only [Extern.findNext, hn, ho, h1, h2, Option.map_none]; rfl
 ·simp only [Extern.find, hn, ho, h3, h4, h5, Option.map_none]; rfl
theorem find_makeNoZero {fn : Func} (hn : fn.name = "internal/bytealg.MakeNoZero") (ho : fn.origin = "") : Extern.findNext fn = none ∧ Extern.find fn = some (Extern.BytealgMakeNoZero.makeNoZero fn.params fn.resultTypes) := by
 have h1 : Extern.allNextRows.lookup "internal/bytealg.MakeNoZero" = none := by kernel_rfl
 have h2 : Extern.allNextRows.lookup "" = none := by kernel_rfl
 have h3 : Extern.allGenericRows.lookup "internal/bytealg.MakeNoZero" = none := by kernel_rfl
 have h4 : Extern.allTypedRows.lookup "internal/bytealg.MakeNoZero" = some Extern.BytealgMakeNoZero.makeNoZero := by kernel_rfl
 constructor
 ·simp only [Extern.findNext, hn, ho, h1, h2, Option.map_none]; rfl
 ·simp only [Extern.find, hn, ho, h3, h4, Option.map_none]; rfl
theorem digits_size : ∀ (n t : Nat) (acc : Array Value), (Extern.BytealgMakeNoZero.digits n t acc).size = acc.size + n
 | 0, t, acc => rfl
 | n + 1, t, acc => by simp [Extern.BytealgMakeNoZero.digits, digits_size n]; omega
theorem digits_one : ∀ (n t : Nat) (acc : Array Value), (∀ v ∈ acc.toList, oneCell v = true) → ∀ v ∈ (Extern.BytealgMakeNoZero.digits n t acc).toList, oneCell v = true
 | 0, _, _, h => h
 | n + 1, t, acc, h => digits_one n (t / 256) _ fun v hv => by
  rw [Array.toList_push] at hv
  rcases List.mem_append.1 hv with hv | hv
  ·exact h v hv
  ·simp only [List.mem_singleton] at hv; subst hv; rfl
theorem aExtern_sound (h : HRel P N φ σ w) {g : FuncId} {fn : Func} (hf : P.funcs[g]? = some fn) (hb : fn.body = none) {args : List Value} {args' : Array Value} (ha : VL φ args args'.toList) {v : Value}
  (e : aExtern P σ g fn args = some (v, σ')) :
  ∃ φ' v' w', (callFunc g args').run P w = .ok (.value v') w' ∧ Ren.le φ φ' ∧ VRel φ' v v' ∧ HRel P N φ' σ' w' ∧ Below N w w' := by
 have makes : args.all flat = true → aExtern.aMakes P σ fn args = some (v, σ') → ∃ φ' v' w', (callFunc g args').run P w = .ok (.value v') w' ∧ Ren.le φ φ' ∧ VRel φ' v v' ∧ HRel P N φ' σ' w' ∧ Below N w w' := by
  intro hfl e
  have hsame := flat_sameL hfl ha
  have hargs : args' = ⟨args⟩ := by rw [← Array.toArray_toList (xs := args'), hsame]
  subst hargs
  unfold aExtern.aMakes at e
  split at e
  case h_2 => cases e
  case h_1 =>
   rename_i n _
   split at e
   ·rename_i hn
    obtain ⟨hn, hor⟩ := hn
    split at e
    ·rename_i elem hrt
     obtain ⟨t, ht, hu⟩ := bind_underlying hrt
     split at e
     ·rename_i hle
      simp only [Option.some.injEq, Prod.mk.injEq] at e
      obtain ⟨rfl, rfl⟩ := e
      obtain ⟨f1, f2⟩ := find_makeNoZero hn hor
      have hne : (fn.name == "runtime.NumGoroutine") = false := by rw [hn]; kernel_rfl
      have hle : n ≤ 281474976710656 := Nat.le_of_ble_eq_true hle
      have hdef : Extern.BytealgMakeNoZero.makeNoZero fn.params fn.resultTypes #[.int .i64 (n : Int)] =
        (do
         let some t := fn.resultTypes[0]? | stuck "bytealg.MakeNoZero: no result type"
         let .slice elem ← underlying t | stuck "bytealg.MakeNoZero: slice type expected"
         if (n : Int) < 0 || (n : Int) > 2 ^ 48 then runtimePanic (.error "makeslice: len out of range")
         let cap ← choose (.appendCap (n : Int).toNat 0 elem)
         askRoom cap
         let bytes ← choose (.extern "internal/bytealg.MakeNoZero.bytes" 0)
         let a ← Go.newRow elem (Extern.BytealgMakeNoZero.digits cap bytes #[])
         pure (.slice (some a) (n : Int).toNat cap)) := rfl
      have h1 : ¬ (n : Int) < 0 := by omega
      have h2 : ¬ (281474976710656 : Int) < (n : Int) := by omega
      have hge := grownCap_ge w n 0 elem
      let bytes := (Question.extern "internal/bytealg.MakeNoZero.bytes" 0).cut (w.tape (w.drawn + 1) (.extern "internal/bytealg.MakeNoZero.bytes" 0))
      have hrun : (callFunc g #[.int .i64 (n : Int)]).run P w = .ok (.value (.slice (some ⟨w.heap.size, 0, none⟩) n (grownCap w n 0 elem))) (w.drew.drew.alloc (.cells (Extern.BytealgMakeNoZero.digits (grownCap w n 0 elem) bytes #[]) elem)) := by
       simp only [callFunc, program, Sem.run_bind, Sem.run, Result.andThen_ok, hf, hne, Bool.false_eq_true, if_false, hb, Option.isNone_none, if_true, mark, f1, f2]
       rw [hdef]
       simp [ht, run_underlying hu, h1, h2, Question.forced, Go.newRow, grownCap, bytes, newObj, Sem.run]
      have hle1 := Ren.le_ins (φ := φ) ⟨w.heap.size, 0, grownCap w n 0 elem - n⟩ h.fresh
      refine ⟨_, _, _, hrun, hle1, ?_, ?_, ?_⟩
      ·have hins : (φ.ins σ.next ⟨w.heap.size, 0, grownCap w n 0 elem - n⟩) σ.next = some ⟨w.heap.size, 0, grownCap w n 0 elem - n⟩ := by simp [Ren.ins]
       have := VRel.sliceLoose (off := 0) (s := none) (len := n) hins (c := n) (by unfold LOOSE; omega)
       simp only [Nat.zero_add] at this
       rwa [show n + (grownCap w n 0 elem - n) = grownCap w n 0 elem from by omega] at this
      ·have hsz := digits_size (grownCap w n 0 elem) bytes #[]
       simp only [List.size_toArray, List.length_nil, Nat.zero_add] at hsz
       refine looseRow_sound (w := w.drew.drew) h.drew.drew elem _ true 1 (0, 0) 0 (cs' := (Extern.BytealgMakeNoZero.digits (grownCap w n 0 elem) bytes #[]).toList.take n) ⟨by simp [hsz]; omega, fun i v v' hv hv2 => ?_⟩
        ⟨(Extern.BytealgMakeNoZero.digits (grownCap w n 0 elem) bytes #[]).toList.drop n, by simp, by simp [hsz]⟩ ⟨fun _ => rfl, .inl rfl⟩
       have := List.mem_of_getElem? hv
       simp only [List.mem_replicate] at this
       rw [this.2]
       exact .unknown _ (digits_one _ _ #[] (by simp) _ (List.mem_of_mem_take (List.mem_of_getElem? hv2)))
      ·exact ((below_drew N w).drew).trans (below_alloc h.drew.drew _)
     ·cases e
    ·cases e
   ·cases e
 unfold aExtern at e
 split at e
 ·rename_i hfl
  have := flat_sameL hfl ha
  have hargs : args' = ⟨args⟩ := by rw [← Array.toArray_toList (xs := args'), this]
  split at e
  ·rename_i u hp
   split at e
   ·rename_i hv
    simp only [Option.some.injEq, Prod.mk.injEq] at e
    obtain ⟨rfl, rfl⟩ := e
    exact ⟨φ, u, w, by rw [hargs]; exact pureRun_run P _ _ hp w, Ren.le_refl φ, flat_rel φ hv, h, Below.refl _ _⟩
   ·exact makes hfl e
  ·exact makes hfl e
 ·split at e
  ·rename_i p hnf
   split at e
   ·rename_i hn
    obtain ⟨hn, hor⟩ := hn
    simp only [Option.some.injEq, Prod.mk.injEq] at e
    obtain ⟨rfl, rfl⟩ := e
    obtain ⟨x', rfl, hx⟩ := args_one ha
    obtain ⟨f1, f2⟩ := find_noEscape hn hor
    have hne : (fn.name == "runtime.NumGoroutine") = false := by rw [hn]; kernel_rfl
    refine ⟨φ, x', w, ?_, Ren.le_refl φ, hx, h, Below.refl _ _⟩
    simp only [callFunc, program, Sem.run_bind, Sem.run, Result.andThen_ok, hf, hne, Bool.false_eq_true, if_false, hb, Option.isNone_none, if_true, mark, f1, f2]
    rfl
   ·cases e
  ·cases e
theorem stepOp_sound (hP : ProgOk P) (hE : EvalOk P E) {r : Option Nat} {n : Nat} (h : HRel P N φ σ w) (hf : FrRel φ fr a) (ho : operOk P o = true) (e : stepOp P E r.isSome fr σ o = some (fr', σ'))
  {next : Act → World → Prop} {Q : Exit → Act → World → Prop} (hnext : ∀ φ' a' w', Ren.le φ φ' → FrRel φ' fr' a' → HRel P N φ' σ' w' → Below N w w' → next a' w') :
  o.wpIn (fenceAt r) n P a w next Q := by
 refine ⟨fun _ _ => trivial, ?_⟩
 have hdep : (fenceAt r).depth.isSome = true → 1 ≤ n := fun hh => by cases hh
 unfold stepOp at e
 have sem : ∀ out σ1, aOp P σ fr o = some (out, σ1) → (∀ d, out ≠ .defer d) → o.semAt r a.eval = execOp a.eval o := by
  intro out σ1 hop hnd
  refine Oper.semAt_eq r a.eval o fun c hc => ?_
  simp only [aOp, hc] at hop
  split at hop
  ·split at hop
   ·simp only [Option.some.injEq, Prod.mk.injEq] at hop
    exact hnd _ hop.1.symm
   ·cases hop
  ·cases hop
 split at e
 ·rename_i v σ1 hop
  simp only [Option.map_eq_some_iff, Prod.mk.injEq] at e
  obtain ⟨fr1, hput, rfl, rfl⟩ := e
  obtain ⟨φ', v', w', h1, h2, h3, h4, h5⟩ := aOp_sound h hf ho hop
  show o.uponIn _ n P a next Q ((o.semAt r a.eval).run P w)
  rw [sem _ _ hop (by simp), h1]
  exact hnext φ' _ w' h2 ((hf.mono h2).put h3 hput) h4 h5
 ·rename_i σ1 hop
  simp only [Option.map_eq_some_iff, Prod.mk.injEq] at e
  obtain ⟨fr1, hput, rfl, rfl⟩ := e
  obtain ⟨φ', w', h1, h2, h4, h5⟩ := aOp_sound h hf ho hop
  show o.uponIn _ n P a next Q ((o.semAt r a.eval).run P w)
  rw [sem _ _ hop (by simp), h1]
  exact hnext φ' _ w' h2 ((hf.mono h2).put (vrel_undef _) hput) h4 h5
 ·rename_i d σ1 hop
  split at e
  ·cases e
  ·rename_i hr
   have hr : r = none := by cases r <;> simp_all
   subst hr
   simp only [Option.map_eq_some_iff, Prod.mk.injEq] at e
   obtain ⟨fr1, hput, rfl, rfl⟩ := e
   obtain ⟨d', h1, h2, h4⟩ := aOp_sound h hf ho hop
   show o.uponIn _ n P a next Q ((o.semAt none a.eval).run P w)
   rw [Oper.semAt_none, h1]
   refine hnext φ _ w (Ren.le_refl φ) (FrRel.put (fr := { fr with defers := d :: fr.defers }) (a := { a with defers := d' :: a.defers }) ⟨hf.n, hf.tmps, LRel.cons h2 hf.defers⟩ (vrel_undef _) hput) h4 (Below.refl _ _)
 ·rename_i g args σ1 hop
  simp only [Option.bind_eq_some_iff, Option.map_eq_some_iff, Prod.mk.injEq] at e
  obtain ⟨⟨v, σ2⟩, hen, fr1, hput, rfl, rfl⟩ := e
  obtain ⟨args', h1, h2, h4⟩ := aOp_sound h hf ho hop
  show o.uponIn _ n P a next Q ((o.semAt r a.eval).run P w)
  rw [sem _ _ hop (by simp), h1]
  unfold aEnter at hen
  split at hen
  ·rename_i fn hfn
   split at hen
   ·rename_i c hb
    rw [run_callFunc hP hfn hb]
    refine ⟨hdep, (callsIn_at (hE.call hen h4 h2)).mono fun e w' hr => ?_⟩
    obtain ⟨φ', v', rfl, g1, g2, g3, g4⟩ := hr
    exact hnext φ' _ w' g1 ((hf.mono g1).put g2 hput) g3 g4
   ·rename_i hb
    obtain ⟨φ', v', w', g0, g1, g2, g3, g4⟩ := aExtern_sound h4 hfn hb h2 hen
    rw [g0]
    exact hnext φ' _ w' g1 ((hf.mono g1).put g2 hput) g3 g4
  ·cases hen
 ·rename_i l args σ1 hop
  simp only [Option.bind_eq_some_iff, Option.map_eq_some_iff, Prod.mk.injEq] at e
  obtain ⟨⟨v, σ2⟩, hen, fr1, hput, rfl, rfl⟩ := e
  obtain ⟨b, args', hb, h1, h2, h4⟩ := aOp_sound h hf ho hop
  show o.uponIn _ n P a next Q ((o.semAt r a.eval).run P w)
  rw [sem _ _ hop (by simp), h1]
  obtain ⟨f, tmps, x, y, g0, g1⟩ := hE.round hen h4 hb h2
  rw [g0]
  refine ⟨hdep, (roundIn_at g1).mono fun e w' hr => ?_⟩
  obtain ⟨φ', v', rfl, g1, g2, g3, g4⟩ := hr
  exact hnext φ' _ w' g1 ((hf.mono g1).put g2 hput) g3 g4
 ·cases e
end
def runIx (P : Program) (E : Eval) (round : Bool) (ops : Array Oper) : List Nat → Fr → AH → Option (Fr × AH)
 | [], fr, σ => some (fr, σ)
 | i :: is, fr, σ =>
  match ops[i]? with
  | none => runIx P E round ops is fr σ
  | some o =>
   match wantedA ops fr o with
   | some true => match stepOp P E round fr σ o with
    | some (fr', σ') => runIx P E round ops is fr' σ'
    | none => none
   | some false => match fr.put o.dst undef with
    | some fr' => runIx P E round ops is fr' σ
    | none => none
   | none => none
theorem runOps_eq (P : Program) (E : Eval) (round : Bool) (ops : Array Oper) : ∀ (l : List Oper) (k : Nat) (fr : Fr) (σ : AH), (∀ j, l[j]? = ops[k + j]?) →
  runOps P E round ops l fr σ = runIx P E round ops (List.range' k l.length) fr σ
 | [], k, fr, σ, _ => rfl
 | o :: l, k, fr, σ, h => by
  have h0 : ops[k]? = some o := by simpa using (h 0).symm
  have ih := fun fr σ => runOps_eq P E round ops l (k + 1) fr σ (fun j => by have := h (j + 1); simpa [Nat.add_assoc, Nat.add_comm 1 j] using this)
  simp only [List.length_cons, List.range'_succ, runOps, runIx, h0]
  cases wantedA ops fr o with
  | none => rfl
  | some b => cases b with
   | true =>
    cases stepOp P E round fr σ o with
    | none => rfl
    | some p => exact ih _ _
   | false =>
    cases fr.put o.dst undef with
    | none => rfl
    | some p => exact ih _ _
section
variable {P : Program} {N : Nat} {φ : Ren} {σ σ' : AH} {w : World} {fr fr' : Fr} {a : Act} {E : Eval} {ops : Array Oper}
theorem wanted_sound (hf : FrRel φ fr a) {o : Oper} {b : Bool} (e : wantedA ops fr o = some b) : Region.wanted o (yielded ops a.tmps) = b := by
 unfold wantedA at e
 unfold Region.wanted
 split at e
 ·rename_i hg; simp only [Option.some.injEq] at e; rw [hg]; exact e
 ·rename_i j want hg
  rw [hg]
  simp only
  cases hd : (ops[j]?).bind (·.dst) with
  | none =>
   rw [hd] at e
   simp at e
   subst e
   have : yielded ops a.tmps j = none := by simp [yielded, hd]
   rw [this]; rfl
  | some d =>
   rw [hd] at e
   simp only [Option.bind_some] at e
   have hr := hf.tmps d
   have hy : yielded ops a.tmps j = match a.tmps[d]? with
     | some (.bool b) => some b
     | _ => none := by simp only [yielded, hd, Option.bind_some]; rfl
   rw [hy]
   have hget : a.tmps.getD d undef = (a.tmps[d]?).getD undef := by simp [Array.getD_eq_getD_getElem?]
   rw [hget] at hr
   split at e
   ·rename_i v hv
    simp only [Option.some.injEq] at e
    rw [hv] at hr
    simp only [Option.getD_some] at hr
    have := vrel_bool hr
    cases hq : a.tmps[d]? with
    | none => rw [hq] at this; cases this
    | some u => rw [hq] at this; simp only [Option.getD_some] at this; subst this; subst e; rfl
   ·cases e
   ·rename_i hnb hnc
    simp only [Option.some.injEq] at e
    subst e
    cases hq : a.tmps[d]? with
    | none => rfl
    | some u =>
     rw [hq] at hr
     simp only [Option.getD_some] at hr
     cases u with
     | bool c =>
      exfalso
      cases hg2 : fr.tmps.get d with
      | none => rw [hg2] at hr; cases hr
      | some x =>
       rw [hg2] at hr
       simp only [Option.getD_some] at hr
       cases hr with
       | unknown => exact hnc _ hg2
       | bool => exact hnb _ hg2
     | _ => rfl
theorem runIx_sound (hP : ProgOk P) (hE : EvalOk P E) {r : Option Nat} {n : Nat} (hops : ∀ (i : Nat) (o : Oper), ops[i]? = some o → operOk P o = true) {Q : Exit → Act → World → Prop} :
  ∀ (is : List Nat) {φ : Ren} {σ : AH} {w : World} {fr : Fr} {a : Act}, HRel P N φ σ w → FrRel φ fr a → runIx P E r.isSome ops is fr σ = some (fr', σ') →
  (∀ φ' a' w', Ren.le φ φ' → FrRel φ' fr' a' → HRel P N φ' σ' w' → Below N w w' → Q .normal a' w') → wpOpsIn (fenceAt r) n P ops Q is a w
 | [], φ, σ, w, fr, a, h, hf, e, hq => by
  simp only [runIx, Option.some.injEq, Prod.mk.injEq] at e
  obtain ⟨rfl, rfl⟩ := e
  exact hq φ a w (Ren.le_refl φ) hf h (Below.refl _ _)
 | i :: is, φ, σ, w, fr, a, h, hf, e, hq => by
  simp only [runIx] at e
  simp only [wpOpsIn]
  cases ho : ops[i]? with
  | none =>
   rw [ho] at e
   simp only at e ⊢
   exact runIx_sound hP hE hops is h hf e hq
  | some o =>
   rw [ho] at e
   simp only at e ⊢
   cases hw : wantedA ops fr o with
   | none => rw [hw] at e; cases e
   | some b =>
    rw [hw] at e
    rw [wanted_sound hf hw]
    cases b with
    | true =>
     simp only [if_true] at e ⊢
     cases hs : stepOp P E r.isSome fr σ o with
     | none => rw [hs] at e; cases e
     | some p =>
      obtain ⟨fr1, σ1⟩ := p
      rw [hs] at e
      refine stepOp_sound hP hE h hf (hops i o ho) hs fun φ1 a1 w1 g1 g2 g3 g4 => ?_
      exact runIx_sound hP hE hops is g3 g2 e fun φ2 a2 w2 k1 k2 k3 k4 => hq φ2 a2 w2 (Ren.le_trans g1 k1) k2 k3 (g4.trans k4)
    | false =>
     simp only [Bool.false_eq_true, if_false] at e ⊢
     cases hp : fr.put o.dst undef with
     | none => rw [hp] at e; cases e
     | some fr1 =>
      rw [hp] at e
      exact ⟨fun _ _ => trivial, runIx_sound hP hE hops is h (hf.put (vrel_undef φ) hp) e hq⟩
end
section
variable {P : Program} {σ σ' : AH} {fr fr' : Fr} {o : Oper} {E : Eval}
theorem aPure_congr (o : Oper) (hs : ∀ cs b, o.op ≠ .select cs b) (h : ∀ x ∈ o.op.operands, fr.ev x = fr'.ev x) : aPure P σ fr o = aPure P σ fr' o := by
 unfold aPure
 rw [execOp_congr (ρ := fr.ev) (ρ' := fr'.ev) o hs h]
 have : o.op.operands.toList.all (fun x => flat (fr.ev x)) = o.op.operands.toList.all (fun x => flat (fr'.ev x)) := by
  rw [Bool.eq_iff_iff, List.all_eq_true, List.all_eq_true]
  exact ⟨fun k x hx => by rw [← h x (by simpa using hx)]; exact k x hx, fun k x hx => by rw [h x (by simpa using hx)]; exact k x hx⟩
 rw [this]
theorem partsOf_congr {ps : Array (Nat × Operand)} (h : ∀ x ∈ (ps.toList.map (·.2)).toArray, fr.ev x = fr'.ev x) : partsOf fr ps = partsOf fr' ps :=
 Array.map_congr_left fun p hm => by
  obtain ⟨i, x⟩ := p
  have := h x (by simp; exact ⟨i, by simpa using hm⟩)
  simp only [this]
theorem aOp_congr (o : Oper) (hs : ∀ cs b, o.op ≠ .select cs b) (h : ∀ x ∈ o.op.operands, fr.ev x = fr'.ev x) : aOp P σ fr o = aOp P σ fr' o := by
 have hp := aPure_congr (P := P) (σ := σ) o hs h
 obtain ⟨dst, op, type, pos, after, guard⟩ := o
 cases op <;> simp only [Op.operands] at h <;> simp only [aOp]
 case build t ps => rw [partsOf_congr h]
 case buildSlice t n ps => rw [partsOf_congr h]
 case makeFunc fn first captured =>
  rw [Array.map_congr_left (xs := first) fun x hx => h x (by simp [hx]), Array.map_congr_left (xs := captured) fun x hx => h x (by simp [hx])]
 case call c =>
  have ha : c.args.toList.map fr.ev = c.args.toList.map fr'.ev := List.map_congr_left fun x hx => h x (by simp [Call.operands]; exact .inr (by simpa using hx))
  rw [ha]
  cases hc : c.callee with
  | value f => simp only; rw [h f (by simp [Call.operands, hc])]
  | invoke _ _ => rfl
  | builtin b => rfl
 case defer c =>
  have ha : c.args.map fr.ev = c.args.map fr'.ev := Array.map_congr_left fun x hx => h x (by simp [Call.operands, hx])
  rw [ha]
  cases hc : c.callee with
  | value f => simp only; rw [h f (by simp [Call.operands, hc])]
  | invoke _ _ => rfl
  | builtin b => rfl
 case slice t x lo hi mx =>
  have hx : fr.ev x = fr'.ev x := h x (by simp)
  have hlo : lo.map fr.ev = lo.map fr'.ev := by cases lo with | none => rfl | some y => simp [h y (by simp)]
  have hhi : hi.map fr.ev = hi.map fr'.ev := by cases hi with | none => rfl | some y => simp [h y (by simp)]
  have hmx : mx.map fr.ev = mx.map fr'.ev := by cases mx with | none => rfl | some y => simp [h y (by simp)]
  rw [hx, hlo, hhi, hmx, hp]
 all_goals (simp only [List.mem_toArray, List.mem_cons, List.not_mem_nil, or_false, forall_eq_or_imp, forall_eq] at h)
 all_goals (first | rfl | (simp only [h, hp]; done) | (obtain ⟨h1, h2⟩ := h; simp only [h1, h2, hp]; done) | (obtain ⟨h1, h2, h3⟩ := h; simp only [h1, h2, h3, hp]; done))
theorem valOp_congr (o : Oper) (hs : ∀ cs b, o.op ≠ .select cs b) (h : ∀ x ∈ o.op.operands, fr.ev x = fr'.ev x) : valOp P E fr σ o = valOp P E fr' σ o := by
 unfold valOp; rw [aOp_congr o hs h]
theorem ev_congr {ops : Array Oper} {o : Oper} (h : ∀ t ∈ o.looksAt ops, fr.tmps.get t = fr'.tmps.get t) : ∀ x ∈ o.op.operands, fr.ev x = fr'.ev x := by
 intro x hx
 cases x with
 | tmp t => simp only [Fr.ev]; rw [h t (List.mem_append_left _ (List.mem_filterMap.2 ⟨.tmp t, by simpa using hx, rfl⟩))]
 | _ => rfl
theorem wantedA_congr {ops : Array Oper} {o : Oper} (h : ∀ t ∈ o.looksAt ops, fr.tmps.get t = fr'.tmps.get t) : wantedA ops fr o = wantedA ops fr' o := by
 unfold wantedA
 cases hg : o.guard with
 | none => rfl
 | some p =>
  obtain ⟨j, want⟩ := p
  simp only
  cases hd : (ops[j]?).bind (·.dst) with
  | none => rfl
  | some d =>
   simp only [Option.bind_some]
   rw [h d (List.mem_append_right _ (by rw [hg]; simp [hd]))]
theorem aPure_value {out : AOut} (e : aPure P σ fr o = some (out, σ')) : (∃ v, out = .value v) ∧ σ' = σ ∧ ∀ σ2, aPure P σ2 fr o = some (out, σ2) := by
 unfold aPure at e ⊢
 split at e
 ·rename_i hf
  split at e
  ·rename_i v hv
   split at e
   ·rename_i hfl
    simp only [val, Option.some.injEq, Prod.mk.injEq] at e
    obtain ⟨rfl, rfl⟩ := e
    exact ⟨⟨_, rfl⟩, rfl, fun σ2 => by simp [hf, hv, hfl, val]⟩
   ·cases e
  ·cases e
 ·cases e
theorem val_eq {v : Value} {out : AOut} (e : val σ v = some (out, σ')) : (∃ v, out = .value v) ∧ σ' = σ ∧ ∀ σ2, val σ2 v = some (out, σ2) := by
 simp only [val, Option.some.injEq, Prod.mk.injEq] at e
 obtain ⟨rfl, rfl⟩ := e
 exact ⟨⟨v, rfl⟩, rfl, fun _ => rfl⟩
theorem still_value {out : AOut} (ht : turns P o = false) (e : aOp P σ fr o = some (out, σ')) : (∃ v, out = .value v) ∧ σ' = σ := by
 obtain ⟨dst, op, type, pos, after, guard⟩ := o
 cases op <;> simp only [turns, Bool.true_eq_false] at ht <;> simp only [aOp] at e
 case call c =>
  cases hc : c.callee with
  | value f => rw [hc] at ht; cases ht
  | invoke _ _ => rw [hc] at ht; cases ht
  | builtin b =>
   rw [hc] at ht e
   cases b <;> first | (cases ht; done) | (simp only [aBuiltin] at e; (repeat' (first | (cases e; done) | (have hq := val_eq e; exact ⟨hq.1, hq.2.1⟩) | (have hq := aPure_value e; exact ⟨hq.1, hq.2.1⟩) | (split at e) | (obtain ⟨_, _, e⟩ := e) | (simp only [Option.bind_eq_some_iff] at e))))
 case convert s d x =>
  split at ht
  ·cases ht
  ·rename_i hd
   split at e
   case h_1 => exact absurd ‹P.underlying d = some (.slice _)› (hd _)
   all_goals (repeat' (first | (cases e; done) | (have hq := val_eq e; exact ⟨hq.1, hq.2.1⟩) | (have hq := aPure_value e; exact ⟨hq.1, hq.2.1⟩) | (split at e) | (obtain ⟨_, _, e⟩ := e) | (simp only [Option.bind_eq_some_iff] at e)))
 all_goals (repeat' (first | (cases e; done) | (have hq := val_eq e; exact ⟨hq.1, hq.2.1⟩) | (have hq := aPure_value e; exact ⟨hq.1, hq.2.1⟩) | (split at e) | (obtain ⟨_, _, e⟩ := e) | (simp only [Option.bind_eq_some_iff] at e)))
theorem bind_fst {α : Type} {x : Option α} {g h : α → Option (AOut × AH)} (k : ∀ a, (g a).map (·.1) = (h a).map (·.1)) : (x.bind g).map (·.1) = (x.bind h).map (·.1) := by
 cases x with
 | none => rfl
 | some a => exact k a
theorem val_fst (σ σ2 : AH) (v : Value) : (val σ v).map (·.1) = (val σ2 v).map (·.1) := rfl
theorem aPure_fst (σ σ2 : AH) : (aPure P σ fr o).map (·.1) = (aPure P σ2 fr o).map (·.1) := by
 unfold aPure; repeat' split
 all_goals rfl
theorem deaf_fst (ht : turns P o = false) (hh : hears o = false) (σ σ2 : AH) : (aOp P σ fr o).map (·.1) = (aOp P σ2 fr o).map (·.1) := by
 have hp := aPure_fst (P := P) (fr := fr) (o := o) σ σ2
 obtain ⟨dst, op, type, pos, after, guard⟩ := o
 cases op <;> first | (cases ht; done) | (cases hh; done) | skip
 all_goals simp only [aOp]
 all_goals (repeat' (first | rfl | exact val_fst .. | exact hp | (refine bind_fst fun _ => ?_) | split))
theorem deaf_value {v : Value} (ht : turns P o = false) (hh : hears o = false) (e : aOp P σ fr o = some (.value v, σ')) (σ2 : AH) : aOp P σ2 fr o = some (.value v, σ2) := by
 have h := deaf_fst (P := P) (fr := fr) ht hh σ σ2
 rw [e] at h
 cases h2 : aOp P σ2 fr o with
 | none => rw [h2] at h; cases h
 | some p =>
  obtain ⟨out, τ⟩ := p
  rw [h2] at h
  simp only [Option.map_some, Option.some.injEq] at h
  subst h
  rw [(still_value ht h2).2]
theorem sameD_list {n : Nat} (ih : ∀ a b, sameD n a b = true → a = b) : ∀ {xs ys : List Value}, xs.length = ys.length → ((xs.zip ys).all fun x => sameD n x.1 x.2) = true → xs = ys
 | [], [], _, _ => rfl
 | [], _ :: _, h, _ => by simp at h
 | _ :: _, [], h, _ => by simp at h
 | x :: xs, y :: ys, h, k => by
  simp only [List.zip_cons_cons, List.all_cons, Bool.and_eq_true] at k
  rw [ih _ _ k.1, sameD_list ih (by simpa using h) k.2]
theorem sameD_array {n : Nat} (ih : ∀ a b, sameD n a b = true → a = b) {a b : Array Value} (h : Nat.beq a.size b.size = true) (k : ((a.toList.zip b.toList).all fun x => sameD n x.1 x.2) = true) : a = b := by
 have := sameD_list ih (by simpa using Nat.eq_of_beq_eq_true h) k
 cases a; cases b; simp_all
theorem sameD_eq : ∀ (n : Nat) (a b : Value), sameD n a b = true → a = b := by
 intro n
 induction n with
 | zero =>
  intro a b h
  cases a <;> cases b <;> simp only [sameD, Bool.false_eq_true, beq_iff_eq, Bool.and_eq_true, decide_eq_true_eq, Nat.beq_eq] at h <;> simp_all
  rename_i s t
  rcases s with ⟨⟨s⟩⟩; rcases t with ⟨⟨t⟩⟩; simp_all
 | succ n ih =>
  intro a b h
  cases a <;> cases b <;> simp only [sameD, Bool.false_eq_true, beq_iff_eq, Bool.and_eq_true, decide_eq_true_eq] at h
  case iface.iface => rw [Nat.eq_of_beq_eq_true h.1, ih _ _ h.2]
  case agg.agg => rw [sameD_array ih h.1 h.2]
  case func.func => obtain ⟨⟨⟨⟨h1, h2⟩, h3⟩, h4⟩, h5⟩ := h; rw [h1, sameD_array ih h2 h4, sameD_array ih h3 h5]
  case string.string s t => rcases s with ⟨⟨s⟩⟩; rcases t with ⟨⟨t⟩⟩; simp_all
  all_goals (first | rfl | (simp_all; done) | (simp only [Nat.beq_eq] at h; simp_all; done))
end
theorem memN_iff {i : Nat} : ∀ {l : List Nat}, memN i l = true ↔ i ∈ l
 | [] => by simp [memN]
 | j :: l => by
  have := memN_iff (i := i) (l := l)
  simp only [memN, Bool.or_eq_true, this, List.mem_cons]
  exact or_congr ⟨Nat.eq_of_beq_eq_true, fun h => by subst h; simp⟩ Iff.rfl
theorem countN_congr {p q : Nat → Bool} : ∀ {l : List Nat}, (∀ i ∈ l, p i = q i) → countN p l = countN q l
 | [], _ => rfl
 | i :: l, h => by
  simp only [countN]
  rw [h i (by simp), countN_congr fun j hj => h j (by simp [hj])]
theorem countN_mono {p q : Nat → Bool} : ∀ {l : List Nat}, (∀ i ∈ l, p i = true → q i = true) → countN p l ≤ countN q l
 | [], _ => Nat.le_refl _
 | i :: l, h => by
  have ih := countN_mono (p := p) (q := q) (l := l) fun j hj => h j (by simp [hj])
  have h0 := h i (by simp)
  simp only [countN]
  cases hp : p i with
  | true => simp only [h0 hp, if_true]; omega
  | false => cases q i <;> simp <;> omega
theorem countN_zero {p : Nat → Bool} : ∀ {l : List Nat}, (∀ i ∈ l, p i = false) → countN p l = 0
 | [], _ => rfl
 | i :: l, h => by
  simp only [countN, h i (by simp)]
  exact countN_zero fun j hj => h j (by simp [hj])
theorem countN_insert {p q : Nat → Bool} {k : Nat} : ∀ {l : List Nat}, l.Nodup → k ∈ l → p k = false → q k = true → (∀ i ∈ l, i ≠ k → q i = p i) → countN q l = countN p l + 1
 | [], _, h, _, _, _ => by cases h
 | i :: l, hn, hk, hp, hq, h => by
  rw [List.nodup_cons] at hn
  simp only [countN]
  by_cases hik : i = k
  ·subst hik
   rw [hp, hq, countN_congr (p := q) (q := p) fun j hj => h j (by simp [hj]) (fun e => hn.1 (e ▸ hj))]
   simp
  ·have hk' : k ∈ l := by rcases List.mem_cons.1 hk with e | e; exact absurd e.symm hik; exact e
   rw [h i (by simp) hik, countN_insert hn.2 hk' hp hq fun j hj => h j (by simp [hj])]
   cases p i <;> simp
theorem countP_less {p q : Nat → Bool} {k : Nat} : ∀ {l : List Nat}, k ∈ l → p k = true → q k = false → (∀ i ∈ l, q i = true → p i = true) → countN q l < countN p l
 | [], h, _, _, _ => by cases h
 | i :: l, hk, hp, hq, h => by
  have hm := countN_mono (p := q) (q := p) (l := l) fun j hj => h j (by simp [hj])
  have h0 := h i (by simp)
  simp only [countN]
  by_cases hik : i = k
  ·subst hik; rw [hp, hq]; simp; omega
  ·have hk' : k ∈ l := by rcases List.mem_cons.1 hk with e | e; exact absurd e.symm hik; exact e
   have := countP_less hk' hp hq fun j hj => h j (by simp [hj])
   cases hqi : q i with
   | true => rw [h0 hqi]; simp; omega
   | false => cases p i <;> simp <;> omega
theorem turnersFrom_mem : ∀ {rs : List Rec} {k i : Nat}, i ∈ turnersFrom k rs ↔ ∃ j r, i = k + j ∧ rs[j]? = some r ∧ r.turned = true
 | [], k, i => by simp [turnersFrom]
 | r :: rs, k, i => by
  have ih := turnersFrom_mem (rs := rs) (k := k + 1) (i := i)
  have tail : (∃ j r', i = k + 1 + j ∧ rs[j]? = some r' ∧ r'.turned = true) ↔ ∃ j r', i = k + (j + 1) ∧ (r :: rs)[j + 1]? = some r' ∧ r'.turned = true := by
   constructor
   ·rintro ⟨j, r', h1, h2, h3⟩; exact ⟨j, r', by omega, by simpa using h2, h3⟩
   ·rintro ⟨j, r', h1, h2, h3⟩; exact ⟨j, r', by omega, by simpa using h2, h3⟩
  simp only [turnersFrom]
  split
  ·rename_i hr
   rw [List.mem_cons, ih, tail]
   constructor
   ·rintro (rfl | ⟨j, r', h⟩)
    ·exact ⟨0, r, rfl, rfl, hr⟩
    ·exact ⟨j + 1, r', h⟩
   ·rintro ⟨j, r', h1, h2, h3⟩
    cases j with
    | zero => exact .inl h1
    | succ j => exact .inr ⟨j, r', h1, h2, h3⟩
  ·rename_i hr
   rw [ih, tail]
   constructor
   ·rintro ⟨j, r', h⟩; exact ⟨j + 1, r', h⟩
   ·rintro ⟨j, r', h1, h2, h3⟩
    cases j with
    | zero => simp only [List.getElem?_cons_zero, Option.some.injEq] at h2; subst h2; exact absurd h3 hr
    | succ j => exact ⟨j, r', h1, h2, h3⟩
theorem turnersFrom_nodup : ∀ {rs : List Rec} {k : Nat}, (turnersFrom k rs).Nodup
 | [], k => by simp [turnersFrom]
 | r :: rs, k => by
  have ih := turnersFrom_nodup (rs := rs) (k := k + 1)
  simp only [turnersFrom]
  split
  ·rw [List.nodup_cons]
   refine ⟨fun h => ?_, ih⟩
   obtain ⟨j, r', h1, _⟩ := turnersFrom_mem.1 h
   omega
  ·exact ih
def lastV : Nat → List Rec → (Nat → Bool) → Tmp → Option Value → Option Value
 | _, [], _, _, acc => acc
 | i, r :: rs, L, t, acc => lastV (i + 1) rs L t (if L i = true ∧ r.op.dst = some t then some (r.val.getD undef) else acc)
theorem lastV_keep {L : Nat → Bool} {t : Tmp} : ∀ {rs : List Rec} {k : Nat} {acc : Option Value}, (∀ j r, rs[j]? = some r → r.op.dst = some t → L (k + j) = false) → lastV k rs L t acc = acc
 | [], _, _, _ => rfl
 | r :: rs, k, acc, h => by
  simp only [lastV]
  have h0 := h 0 r rfl
  rw [if_neg (by rintro ⟨h1, h2⟩; rw [Nat.add_zero, h1] at h0; exact absurd (h0 h2) (by simp))]
  exact lastV_keep fun j r' h1 h2 => by have := h (j + 1) r' (by simpa using h1) h2; rw [← this]; congr 1; omega
theorem lastV_congr {L L' : Nat → Bool} {t : Tmp} : ∀ {rs : List Rec} {k : Nat} {acc : Option Value}, (∀ j r, rs[j]? = some r → r.op.dst = some t → L (k + j) = L' (k + j)) → lastV k rs L t acc = lastV k rs L' t acc
 | [], _, _, _ => rfl
 | r :: rs, k, acc, h => by
  simp only [lastV]
  have h0 := h 0 r rfl
  have : (if L k = true ∧ r.op.dst = some t then some (r.val.getD undef) else acc) = (if L' k = true ∧ r.op.dst = some t then some (r.val.getD undef) else acc) := by
   by_cases hd : r.op.dst = some t
   ·rw [show L k = L' k from by simpa using h0 hd]
   ·simp [hd]
  rw [this]
  exact lastV_congr fun j r' h1 h2 => by have := h (j + 1) r' (by simpa using h1) h2; rwa [show k + 1 + j = k + (j + 1) by omega]
theorem lastV_put {L : Nat → Bool} {t : Tmp} : ∀ {rs : List Rec} {k i : Nat} {r : Rec} {acc : Option Value}, rs[i]? = some r → r.op.dst = some t → L (k + i) = true →
  (∀ j r', i < j → rs[j]? = some r' → r'.op.dst = some t → L (k + j) = false) → lastV k rs L t acc = some (r.val.getD undef)
 | [], _, _, _, _, h, _, _, _ => by simp at h
 | r0 :: rs, k, 0, r, acc, h, hd, hl, hk => by
  simp only [List.getElem?_cons_zero, Option.some.injEq] at h; subst h
  simp only [lastV]
  rw [if_pos ⟨by simpa using hl, hd⟩]
  exact lastV_keep fun j r' h1 h2 => by have := hk (j + 1) r' (by omega) (by simpa using h1) h2; rw [← this]; congr 1; omega
 | r0 :: rs, k, i + 1, r, acc, h, hd, hl, hk => by
  simp only [lastV]
  exact lastV_put (by simpa using h) hd (by rw [← hl]; congr 1; omega) fun j r' hij h1 h2 => by
   have := hk (j + 1) r' (by omega) (by simpa using h1) h2; rw [← this]; congr 1; omega
theorem put_get {fr fr' : Fr} {dst : Option Tmp} {v : Value} (e : fr.put dst v = some fr') : fr'.n = fr.n ∧ fr'.defers = fr.defers ∧ ∀ t, fr'.tmps.get t = if dst = some t then some v else fr.tmps.get t := by
 cases dst with
 | none => simp only [Fr.put, Option.some.injEq] at e; subst e; exact ⟨rfl, rfl, fun t => by simp⟩
 | some d =>
  simp only [Fr.put] at e
  split at e
  ·simp only [Option.some.injEq] at e; subst e
   refine ⟨rfl, rfl, fun t => ?_⟩
   simp only [T.get_set, Option.some.injEq]
   by_cases h : t = d
   ·simp [h]
   ·rw [if_neg h, if_neg (fun e => h e.symm)]
  ·cases e
theorem put_some {fr fr2 fr' : Fr} {dst : Option Tmp} {v : Value} (hn : fr2.n = fr.n) (e : fr.put dst v = some fr') (u : Value) : ∃ fr3, fr2.put dst u = some fr3 := by
 cases dst with
 | none => exact ⟨_, rfl⟩
 | some d =>
  simp only [Fr.put] at e ⊢
  split at e
  ·rename_i hb; rw [hn, hb]; exact ⟨_, rfl⟩
  ·cases e
section
variable {P : Program} {E : Eval} {ops : Array Oper}
theorem valOp_value {fr : Fr} {σ σ1 : AH} {o : Oper} {v : Value} (ht : turns P o = false) (e : valOp P E fr σ o = some (v, σ1)) : aOp P σ fr o = some (.value v, σ) ∧ σ1 = σ := by
 unfold valOp at e
 split at e
 ·rename_i u τ h
  simp only [Option.some.injEq, Prod.mk.injEq] at e
  obtain ⟨rfl, rfl⟩ := e
  have := (still_value ht h).2
  subst this
  exact ⟨h, rfl⟩
 ·rename_i τ h; obtain ⟨⟨_, h1⟩, _⟩ := still_value ht h; cases h1
 ·rename_i h; obtain ⟨⟨_, h1⟩, _⟩ := still_value ht h; cases h1
 ·rename_i h; obtain ⟨⟨_, h1⟩, _⟩ := still_value ht h; cases h1
 ·cases e
theorem stepOp_of_val {round : Bool} {fr fr' : Fr} {σ σ1 : AH} {o : Oper} {v : Value} (e : valOp P E fr σ o = some (v, σ1)) (hp : fr.put o.dst v = some fr') : stepOp P E round fr σ o = some (fr', σ1) := by
 unfold valOp at e
 unfold stepOp
 split at e
 ·rename_i h; simp only [Option.some.injEq, Prod.mk.injEq] at e; obtain ⟨rfl, rfl⟩ := e; rw [h]; simp [hp]
 ·rename_i h; simp only [Option.some.injEq, Prod.mk.injEq] at e; obtain ⟨rfl, rfl⟩ := e; rw [h]; simp [hp]
 ·rename_i h; rw [h]; simp [e, hp]
 ·rename_i h; rw [h]; simp [e, hp]
 ·cases e
structure RecsOk (P : Program) (E : Eval) (ops : Array Oper) (k : Nat) (os : List Oper) (rs : List Rec) (fr : Fr) (σ : AH) (fr' : Fr) (σ' : AH) : Prop where
 len : rs.length = os.length
 op : ∀ (i : Nat) (r : Rec), rs[i]? = some r → os[i]? = some r.op
 n : ∀ (i : Nat) (r : Rec), rs[i]? = some r → r.fr.n = fr.n
 tmps : ∀ (i : Nat) (r : Rec), rs[i]? = some r → ∀ t, r.fr.tmps.get t = lastV k rs (fun j => decide (j < k + i)) t (fr.tmps.get t)
 kept : ∀ (i : Nat) (r : Rec) (v : Value), rs[i]? = some r → r.val = some v → wantedA ops r.fr r.op = some true ∧ r.turned = turns P r.op ∧ (∃ fr1, r.fr.put r.op.dst v = some fr1) ∧
  ∃ σ1, valOp P E r.fr r.σ r.op = some (v, σ1) ∧ (r.turned = true → (heapsOf rs σ')[countN (fun j => decide (j < k + i)) (turnersFrom k rs) + 1]? = some σ1)
 left : ∀ (i : Nat) (r : Rec), rs[i]? = some r → r.val = none → wantedA ops r.fr r.op = some false ∧ r.turned = false ∧ ∃ fr1, r.fr.put r.op.dst undef = some fr1
 heap : ∀ (i : Nat) (r : Rec), rs[i]? = some r → (heapsOf rs σ')[countN (fun j => decide (j < k + i)) (turnersFrom k rs)]? = some r.σ
 endN : fr'.n = fr.n
 endD : fr'.defers = fr.defers
 endT : ∀ t, fr'.tmps.get t = lastV k rs (fun _ => true) t (fr.tmps.get t)
 endH : (heapsOf rs σ')[countN (fun _ => true) (turnersFrom k rs)]? = some σ'
 first : (heapsOf rs σ')[0]? = some σ
theorem countN_before {rs : List Rec} {k : Nat} : countN (fun j => decide (j < k)) (turnersFrom k rs) = 0 :=
 countN_zero fun i hi => by obtain ⟨j, r, h, _⟩ := turnersFrom_mem.1 hi; simp; omega
theorem RecsOk.cons {k : Nat} {o : Oper} {os : List Oper} {rs : List Rec} {fr fr1 fr' : Fr} {σ σ1 σ' : AH} {val : Option Value} {turned : Bool} (h : RecsOk P E ops (k + 1) os rs fr1 σ1 fr' σ')
  (hput : fr.put o.dst (val.getD undef) = some fr1)
  (hs : ∀ v, val = some v → wantedA ops fr o = some true ∧ turned = turns P o ∧ valOp P E fr σ o = some (v, σ1))
  (hn : val = none → wantedA ops fr o = some false ∧ turned = false)
  (hσ : turned = false → σ1 = σ) : RecsOk P E ops k (o :: os) (⟨o, fr, σ, val, turned⟩ :: rs) fr σ fr' σ' := by
 obtain ⟨p1, p2, p3⟩ := put_get hput
 have count : ∀ i, countN (fun j => decide (j < k + (i + 1))) (turnersFrom k (⟨o, fr, σ, val, turned⟩ :: rs)) = (if turned then 1 else 0) + countN (fun j => decide (j < k + 1 + i)) (turnersFrom (k + 1) rs) := by
  intro i
  rw [show k + (i + 1) = k + 1 + i by omega]
  simp only [turnersFrom]
  cases turned with
  | false => simp
  | true => simp only [if_true, countN]; rw [if_pos (by simp; omega)]; omega
 have count0 : countN (fun j => decide (j < k + 0)) (turnersFrom k (⟨o, fr, σ, val, turned⟩ :: rs)) = 0 := countN_before
 have heaps : ∀ c, (heapsOf (⟨o, fr, σ, val, turned⟩ :: rs) σ')[(if turned then 1 else 0) + c]? = (heapsOf rs σ')[c]? := by
  intro c
  simp only [heapsOf]
  cases turned with
  | false => simp
  | true => simp [Nat.add_comm 1 c]
 have vals : ∀ (L : Nat → Bool), L k = true → ∀ t, lastV k (⟨o, fr, σ, val, turned⟩ :: rs) L t (fr.tmps.get t) = lastV (k + 1) rs L t (fr1.tmps.get t) := by
  intro L hL t
  simp only [lastV, hL, true_and, p3 t]
 have first : (heapsOf (⟨o, fr, σ, val, turned⟩ :: rs) σ')[0]? = some σ := by
  simp only [heapsOf]
  cases turned with
  | true => rfl
  | false => simp only [Bool.false_eq_true, if_false]; rw [h.first, hσ rfl]
 constructor
 case len => simp [h.len]
 case op =>
  intro i r hr
  cases i with
  | zero => simp only [List.getElem?_cons_zero, Option.some.injEq] at hr ⊢; subst hr; rfl
  | succ i => simp only [List.getElem?_cons_succ] at hr ⊢; exact h.op i r hr
 case n =>
  intro i r hr
  cases i with
  | zero => simp only [List.getElem?_cons_zero, Option.some.injEq] at hr; subst hr; rfl
  | succ i => simp only [List.getElem?_cons_succ] at hr; rw [h.n i r hr, p1]
 case tmps =>
  intro i r hr t
  cases i with
  | zero =>
   simp only [List.getElem?_cons_zero, Option.some.injEq] at hr; subst hr
   exact (lastV_keep fun j r' _ _ => by simp).symm
  | succ i =>
   simp only [List.getElem?_cons_succ] at hr
   rw [vals _ (by simp) t, h.tmps i r hr t]
   rw [show k + (i + 1) = k + 1 + i by omega]
 case kept =>
  intro i r v hr hv
  cases i with
  | zero =>
   simp only [List.getElem?_cons_zero, Option.some.injEq] at hr; subst hr
   subst hv
   obtain ⟨q1, q2, q3⟩ := hs v rfl
   refine ⟨q1, q2, ⟨fr1, hput⟩, σ1, q3, fun ht => ?_⟩
   simp only at ht
   subst ht
   rw [count0]
   have := heaps 0
   simp only [if_true, Nat.add_zero] at this
   rw [Nat.zero_add, this, h.first]
  | succ i =>
   simp only [List.getElem?_cons_succ] at hr
   obtain ⟨q1, q2, q3, σ2, q4, q5⟩ := h.kept i r v hr hv
   refine ⟨q1, q2, q3, σ2, q4, fun ht => ?_⟩
   rw [count, Nat.add_assoc, heaps, q5 ht]
 case left =>
  intro i r hr hv
  cases i with
  | zero =>
   simp only [List.getElem?_cons_zero, Option.some.injEq] at hr; subst hr
   subst hv
   exact ⟨(hn rfl).1, (hn rfl).2, fr1, hput⟩
  | succ i => simp only [List.getElem?_cons_succ] at hr; exact h.left i r hr hv
 case heap =>
  intro i r hr
  cases i with
  | zero =>
   simp only [List.getElem?_cons_zero, Option.some.injEq] at hr; subst hr
   rw [count0, first]
  | succ i =>
   simp only [List.getElem?_cons_succ] at hr
   rw [count, heaps, h.heap i r hr]
 case endN => rw [h.endN, p1]
 case endD => rw [h.endD, p2]
 case endT => intro t; rw [vals _ rfl t, h.endT t]
 case endH =>
  have : countN (fun _ => true) (turnersFrom k (⟨o, fr, σ, val, turned⟩ :: rs)) = (if turned then 1 else 0) + countN (fun _ => true) (turnersFrom (k + 1) rs) := by
   simp only [turnersFrom]
   cases turned with
   | false => simp
   | true => simp only [if_true, countN]; omega
  rw [this, heaps, h.endH]
 case first => exact first
theorem recOps_ok {round : Bool} : ∀ {os : List Oper} {k : Nat} {fr : Fr} {σ : AH} {rs : List Rec} {fr' : Fr} {σ' : AH}, recOps P E round ops os fr σ = some (rs, fr', σ') → RecsOk P E ops k os rs fr σ fr' σ'
 | [], k, fr, σ, rs, fr', σ', e => by
  simp only [recOps, Option.some.injEq, Prod.mk.injEq] at e
  obtain ⟨rfl, rfl, rfl⟩ := e
  constructor <;> simp [lastV, turnersFrom, countN, heapsOf]
 | o :: os, k, fr, σ, rs, fr', σ', e => by
  simp only [recOps] at e
  split at e
  ·rename_i hw
   split at e
   ·rename_i v σ1 hv
    split at e
    ·rename_i fr1 hp
     split at e
     ·rename_i rs1 fr2 σ2 hr
      simp only [Option.some.injEq, Prod.mk.injEq] at e
      obtain ⟨rfl, rfl, rfl⟩ := e
      refine (recOps_ok (k := k + 1) hr).cons (by simpa using hp) (fun u hu => ?_) (fun h => by cases h) fun ht => (valOp_value ht hv).2
      simp only [Option.some.injEq] at hu; subst hu
      exact ⟨hw, rfl, hv⟩
     ·cases e
    ·cases e
   ·cases e
  ·rename_i hw
   split at e
   ·rename_i fr1 hp
    split at e
    ·rename_i rs1 fr2 σ2 hr
     simp only [Option.some.injEq, Prod.mk.injEq] at e
     obtain ⟨rfl, rfl, rfl⟩ := e
     exact (recOps_ok (k := k + 1) hr).cons (by simpa using hp) (fun u hu => by cases hu) (fun h => ⟨hw, rfl⟩) fun _ => rfl
    ·cases e
   ·cases e
  ·cases e
theorem recsOk_at {ps : List (List Nat)} {hs : List AH} {es : List Nat} : ∀ {rs : List Rec} {k i : Nat} {r : Rec}, recsOk P ps hs es k rs = true → rs[i]? = some r → recOk P ps hs es (k + i) r = true
 | [], _, _, _, _, h => by simp at h
 | r0 :: rs, k, 0, r, h, hr => by
  simp only [recsOk, Bool.and_eq_true] at h
  simp only [List.getElem?_cons_zero, Option.some.injEq] at hr; subst hr; exact h.1
 | r0 :: rs, k, i + 1, r, h, hr => by
  simp only [recsOk, Bool.and_eq_true] at h
  have := recsOk_at h.2 (i := i) (by simpa using hr)
  rwa [show k + (i + 1) = k + 1 + i by omega]
theorem windowOk_at {o : Oper} {fr : Fr} {v : Value} : ∀ {l : List AH} {σ : AH}, windowOk P o fr v l = true → σ ∈ l → ∃ τ, aOp P σ fr o = some (.value v, τ)
 | [], _, _, h => by cases h
 | σ0 :: l, σ, h, hm => by
  simp only [windowOk, Bool.and_eq_true] at h
  rcases List.mem_cons.1 hm with rfl | hm
  ·have h := h.1
   split at h
   ·rename_i u τ he
    rw [sameD_eq 8 u v h] at he
    exact ⟨τ, he⟩
   ·cases h
  ·exact windowOk_at h.2 hm
theorem mem_window {hs : List AH} {lo hi c : Nat} {σ : AH} (h : hs[c]? = some σ) (h1 : lo ≤ c) (h2 : c ≤ hi) : σ ∈ (hs.drop lo).take (hi + 1 - lo) := by
 refine List.mem_of_getElem? (i := c - lo) ?_
 rw [List.getElem?_take, if_pos (by omega), List.getElem?_drop, show lo + (c - lo) = c by omega, h]
theorem foldl_preds {known : List (List Nat)} : ∀ (es : List Edge) (acc : List Nat) (i : Nat),
  i ∈ es.foldl (fun acc e => if Region.binds .any e then (e.on :: (nth known e.on).getD []) ++ acc else acc) acc → i ∈ acc ∨ ∃ e ∈ es, Region.binds .any e = true ∧ (i = e.on ∨ i ∈ (nth known e.on).getD [])
 | [], acc, i, h => .inl h
 | e :: es, acc, i, h => by
  simp only [List.foldl_cons] at h
  rcases foldl_preds es _ i h with h | ⟨e', h1, h2, h3⟩
  ·by_cases hb : Region.binds .any e = true
   ·rw [if_pos hb] at h
    rcases List.mem_append.1 h with h | h
    ·exact .inr ⟨e, by simp, hb, by simpa using h⟩
    ·exact .inl h
   ·rw [if_neg hb] at h; exact .inl h
  ·exact .inr ⟨e', by simp [h1], h2, h3⟩
theorem predsFrom_keep : ∀ (os : List Oper) (known : List (List Nat)) (k : Nat), k < known.length → (predsFrom known os)[k]? = known[k]?
 | [], known, k, h => rfl
 | o :: os, known, k, h => by
  simp only [predsFrom]
  rw [predsFrom_keep os _ k (by simp; omega), List.getElem?_append_left h]
theorem predsFrom_spec : ∀ (os : List Oper) (known : List (List Nat)) (j : Nat) (o : Oper) (i : Nat), os[j]? = some o → i ∈ ((predsFrom known os)[known.length + j]?).getD [] →
  ∃ e ∈ o.after, Region.binds .any e = true ∧ (i = e.on ∨ i ∈ ((predsFrom known os)[e.on]?).getD [])
 | [], known, j, o, i, h, _ => by simp at h
 | o0 :: os, known, 0, o, i, h, hi => by
  simp only [List.getElem?_cons_zero, Option.some.injEq] at h; subst h
  simp only [predsFrom, Nat.add_zero] at hi ⊢
  rw [predsFrom_keep _ _ _ (by simp), List.getElem?_append_right (Nat.le_refl _)] at hi
  simp only [Nat.sub_self, List.getElem?_cons_zero, Option.getD_some, List.mem_eraseDups] at hi
  rcases foldl_preds _ _ _ hi with h | ⟨e, h1, h2, h3⟩
  ·cases h
  ·refine ⟨e, by simpa using h1, h2, h3.imp id fun h => ?_⟩
   rw [nth_eq] at h
   by_cases hlt : e.on < known.length
   ·rw [predsFrom_keep _ _ _ (by simp; omega), List.getElem?_append_left hlt]; exact h
   ·rw [List.getElem?_eq_none (by omega)] at h; cases h
 | o0 :: os, known, j + 1, o, i, h, hi => by
  simp only [predsFrom] at hi ⊢
  exact predsFrom_spec os _ j o i (by simpa using h) (by simpa [Nat.add_assoc, Nat.add_comm 1 j] using hi)
def pr (ops : Array Oper) (i : Nat) : List Nat := (nth (preds ops) i).getD []
theorem pr_spec {j i : Nat} {o : Oper} (ho : ops[j]? = some o) (hi : i ∈ pr ops j) : ∃ e ∈ o.after, Region.binds .any e = true ∧ (i = e.on ∨ i ∈ pr ops e.on) := by
 unfold pr at hi ⊢
 simp only [nth_eq] at hi ⊢
 have := predsFrom_spec ops.toList [] j o i (by simpa using ho) (by simpa [preds] using hi)
 simpa [preds] using this
theorem pr_size {j i : Nat} (hi : i ∈ pr ops j) : j < ops.size := by
 unfold pr at hi
 rw [nth_eq] at hi
 have hl : ∀ (os : List Oper) (known : List (List Nat)), (predsFrom known os).length = known.length + os.length := by
  intro os
  induction os with
  | nil => intro known; rfl
  | cons o os ih => intro known; simp only [predsFrom, ih]; simp; omega
 rcases Nat.lt_or_ge j ops.size with h | h
 ·exact h
 ·rw [List.getElem?_eq_none (by unfold preds; rw [hl]; simp; omega)] at hi
  cases hi
theorem backOnly_spec (h : backOnly ops = true) {j : Nat} {o : Oper} (ho : ops[j]? = some o) {e : Edge} (he : e ∈ o.after) (hb : Region.binds .any e = true) : e.on < j := by
 unfold backOnly at h
 rw [List.all_eq_true] at h
 have hm : (o, j) ∈ ops.toList.zipIdx := by
  rw [List.mem_zipIdx_iff_getElem?]; simpa using ho
 have := h _ hm
 simp only [Array.all_eq_true_iff_forall_mem] at this
 have := this e he
 simp only [hb, Bool.not_true, Bool.false_or] at this
 simpa [Nat.blt_eq] using this
theorem pr_lt (h : backOnly ops = true) : ∀ (j i : Nat), i ∈ pr ops j → i < j := by
 intro j
 induction j using Nat.strongRecOn with
 | _ j ih =>
  intro i hi
  have hj := pr_size hi
  have ho : ops[j]? = some ops[j] := Array.getElem?_eq_getElem hj
  obtain ⟨e, h1, h2, h3⟩ := pr_spec ho hi
  have := backOnly_spec h ho h1 h2
  rcases h3 with rfl | h3
  ·exact this
  ·have := ih e.on this i h3; omega
theorem tmpsOrdered_spec (h : tmpsOrdered ops (preds ops) = true) {j i : Nat} {o x : Oper} {d : Tmp} (ho : ops[j]? = some o) (hx : ops[i]? = some x) (hd : x.dst = some d) (hne : i ≠ j) (hl : d ∈ o.looksAt ops ∨ o.dst = some d) : i ∈ pr ops j ∨ j ∈ pr ops i := by
 unfold tmpsOrdered at h
 simp only [List.all_eq_true] at h
 have hm : (o, j) ∈ ops.toList.zipIdx := by rw [List.mem_zipIdx_iff_getElem?]; simpa using ho
 have hm2 : (x, i) ∈ ops.toList.zipIdx := by rw [List.mem_zipIdx_iff_getElem?]; simpa using hx
 have := h _ hm _ hm2
 have hb : Nat.beq i j = false := by
  cases hb : Nat.beq i j with
  | false => rfl
  | true => exact absurd (Nat.eq_of_beq_eq_true hb) hne
 simp only [hd, hb, Bool.false_or, looks] at this
 rcases hl with hl | hl
 ·have hm : memN d (o.looksAt ops) = true := memN_iff.2 hl
  simp only [hm, Bool.true_or, if_true, Bool.or_eq_true, memN_iff] at this
  exact this
 ·have hm : Nat.beq d d = true := Nat.beq_refl d
  simp only [hl, hm, Bool.or_true, if_true, Bool.or_eq_true, memN_iff] at this
  exact this
end
def isL (listed : Array Bool) (j : Nat) : Bool := listed.getD j false
section
variable {P : Program} {N : Nat} {φ : Ren} {w : World} {a : Act} {E : Eval} {ops : Array Oper}
theorem isL_true {listed : Array Bool} {i : Nat} (h : i < listed.size) (j : Nat) : isL (listed.setIfInBounds i true) j = if j = i then true else isL listed j := by
 unfold isL
 by_cases hj : j = i
 ·subst hj; simp [h]
 ·rw [if_neg hj, getD_set_ne false (Ne.symm hj)]
theorem unready {listed : Array Bool} (hs : listed.size = ops.size) (hb : backOnly ops = true) (hr : Region.ready .any ops listed = []) : ∀ j, j < ops.size → isL listed j = true := by
 intro j
 induction j using Nat.strongRecOn with
 | _ j ih =>
  intro hj
  cases hl : isL listed j with
  | true => rfl
  | false =>
   exfalso
   have ho : ops[j]? = some ops[j] := Array.getElem?_eq_getElem hj
   have : j ∈ Region.ready .any ops listed := by
    rw [mem_ready]
    refine ⟨?_, ops[j], ho, fun e he hbd => ?_⟩
    ·unfold isL at hl; simp [hs, hj] at hl ⊢; exact hl
    ·have := backOnly_spec hb ho he hbd
     exact ih e.on this (by omega)
   rw [hr] at this; cases this
theorem frRel_congr {fr fr' : Fr} (hf : FrRel φ fr a) (hn : fr'.n = fr.n) (hd : fr'.defers = fr.defers) (ht : ∀ t, fr'.tmps.get t = fr.tmps.get t) : FrRel φ fr' a :=
 ⟨by rw [hn]; exact hf.n, fun i => by rw [ht]; exact hf.tmps i, by rw [hd]; exact hf.defers⟩
theorem draw_any (hP : ProgOk P) (hE : EvalOk P E) {r : Option Nat} {n : Nat} (hops : ∀ (i : Nat) (o : Oper), ops[i]? = some o → operOk P o = true) (hreg : regionOk ops = true)
  {rs : List Rec} {fr fr' : Fr} {σ σ' : AH} (R : RecsOk P E ops 0 ops.toList rs fr σ fr' σ') (hrs : recsOk P (preds ops) (heapsOf rs σ') (turnersFrom 0 rs) 0 rs = true) {Q : Exit → Act → World → Prop} :
  ∀ (fuel : Nat) (listed : Array Bool) {φ : Ren} {a : Act} {w : World} {frL : Fr} {σL : AH}, listed.size = ops.size → (∀ j, isL listed j = true → ∀ i ∈ pr ops j, isL listed i = true) →
  countN (fun j => !isL listed j) (List.range ops.size) ≤ fuel →
  frL.n = fr.n → frL.defers = fr.defers → (∀ t, frL.tmps.get t = lastV 0 rs (isL listed) t (fr.tmps.get t)) →
  (heapsOf rs σ')[countN (isL listed) (turnersFrom 0 rs)]? = some σL → HRel P N φ σL w → FrRel φ frL a →
  (∀ φ' a' w', Ren.le φ φ' → FrRel φ' fr' a' → HRel P N φ' σ' w' → Below N w w' → Q .normal a' w') →
  wpAnyIn (fenceAt r) n P .any ops Q fuel listed a w := by
 obtain ⟨hns, hbo, hto⟩ : Region.noSelect ops = true ∧ backOnly ops = true ∧ tmpsOrdered ops (preds ops) = true := by
  simp only [regionOk, Bool.and_eq_true] at hreg; exact ⟨hreg.1.1, hreg.1.2, hreg.2⟩
 have hrl : rs.length = ops.size := by simpa using R.len
 have opAt : ∀ {i : Nat} {o : Oper}, ops[i]? = some o → ∃ q, rs[i]? = some q ∧ q.op = o := by
  intro i o ho
  have hi : i < rs.length := by rw [hrl]; exact (Array.getElem?_eq_some_iff.1 ho).1
  refine ⟨rs[i], List.getElem?_eq_getElem hi, ?_⟩
  have := R.op i rs[i] (List.getElem?_eq_getElem hi)
  rw [Array.getElem?_toList, ho] at this
  simpa using this.symm
 have recAt : ∀ {i : Nat} {q : Rec}, rs[i]? = some q → ops[i]? = some q.op := by
  intro i q hq
  have := R.op i q hq
  rwa [Array.getElem?_toList] at this
 have done : ∀ (listed : Array Bool) {φ : Ren} {a : Act} {w : World} {frL : Fr} {σL : AH}, (∀ j, j < ops.size → isL listed j = true) →
   frL.n = fr.n → frL.defers = fr.defers → (∀ t, frL.tmps.get t = lastV 0 rs (isL listed) t (fr.tmps.get t)) →
   (heapsOf rs σ')[countN (isL listed) (turnersFrom 0 rs)]? = some σL → HRel P N φ σL w → FrRel φ frL a →
   (∀ φ' a' w', Ren.le φ φ' → FrRel φ' fr' a' → HRel P N φ' σ' w' → Below N w w' → Q .normal a' w') → Q .normal a w := by
  intro listed φ a w frL σL hall hn hd ht hh h hf hq
  have : σL = σ' := by
   have hc : countN (isL listed) (turnersFrom 0 rs) = countN (fun _ => true) (turnersFrom 0 rs) := countN_congr fun i hi => by
    obtain ⟨j, q, h1, h2, _⟩ := turnersFrom_mem.1 hi
    refine hall i ?_
    have := (List.getElem?_eq_some_iff.1 h2).1
    omega
   rw [hc, R.endH] at hh
   exact (Option.some.inj hh).symm
  subst this
  refine hq φ a w (Ren.le_refl φ) (frRel_congr hf (by rw [R.endN, hn]) (by rw [R.endD, hd]) fun t => ?_) h (Below.refl _ _)
  rw [R.endT t, ht t]
  refine lastV_congr fun j q hj _ => ?_
  have := (List.getElem?_eq_some_iff.1 hj).1
  rw [hall (0 + j) (by omega)]
 intro fuel
 induction fuel with
 | zero =>
  intro listed φ a w frL σL hsz hdown hfuel hn hd ht hh h hf hq
  have hall : ∀ j, j < ops.size → isL listed j = true := by
   intro j hj
   cases hl : isL listed j with
   | true => rfl
   | false =>
    have := countP_less (p := fun j => !isL listed j) (q := fun _ => false) (l := List.range ops.size) (k := j) (by simpa using hj) (by simp [hl]) rfl (by simp)
    omega
  refine ⟨?_, done listed hall hn hd ht hh h hf hq⟩
  cases hr : Region.ready .any ops listed with
  | nil => rfl
  | cons i l =>
   have hi : i ∈ Region.ready .any ops listed := by rw [hr]; simp
   obtain ⟨h0, o, ho, _⟩ := mem_ready.1 hi
   have hi := (Array.getElem?_eq_some_iff.1 ho).1
   have := hall i hi
   unfold isL at this
   simp [hsz, hi] at h0 this
   rw [this] at h0; cases h0
 | succ fuel ih =>
  intro listed φ a w frL σL hsz hdown hfuel hn hd ht hh h hf hq
  refine ⟨fun hr => done listed (unready hsz hbo hr) hn hd ht hh h hf hq, fun i hi => ?_⟩
  obtain ⟨h0, o, ho, hafter⟩ := mem_ready.1 hi
  have hilt := (Array.getElem?_eq_some_iff.1 ho).1
  have hil : isL listed i = false := by
   unfold isL; simp [hsz, hilt] at h0 ⊢; exact h0
  obtain ⟨q, hq1, hq2⟩ := opAt ho
  subst hq2
  have hprL : ∀ j ∈ pr ops i, isL listed j = true := by
   intro j hj
   obtain ⟨e, h1, h2, h3⟩ := pr_spec ho hj
   have he := hafter e h1 h2
   rcases h3 with rfl | h3
   ·exact he
   ·exact hdown e.on he j h3
  have hprN : ∀ j, isL listed j = true → i ∉ pr ops j := fun j hj hi => by
   have := hdown j hj i hi; rw [hil] at this; cases this
  have hlook : ∀ t ∈ q.op.looksAt ops, frL.tmps.get t = q.fr.tmps.get t := by
   intro t htl
   rw [ht t, R.tmps i q hq1 t]
   refine lastV_congr fun k x hx hxd => ?_
   simp only [Nat.zero_add]
   by_cases hki : k = i
   ·subst hki; rw [hil]; simp
   ·rcases tmpsOrdered_spec hto ho (recAt hx) hxd hki (.inl htl) with h1 | h1
    ·rw [hprL k h1]; have := pr_lt hbo i k h1; simp [this]
    ·have := pr_lt hbo k i h1
     cases hk : isL listed k with
     | true => exact absurd h1 (hprN k hk)
     | false => simp; omega
  have hsel : ∀ cs b, q.op.op ≠ .select cs b := fun cs b => Region.noSelect_spec hns i q.op cs b ho
  have hev := ev_congr hlook
  have next : ∀ (v : Value) (frL' : Fr) (σL' : AH), q.val.getD undef = v → frL.put q.op.dst v = some frL' → (heapsOf rs σ')[countN (isL (listed.setIfInBounds i true)) (turnersFrom 0 rs)]? = some σL' →
    ∀ φ' a' w', Ren.le φ φ' → FrRel φ' frL' a' → HRel P N φ' σL' w' → Below N w w' → wpAnyIn (fenceAt r) n P .any ops Q fuel (listed.setIfInBounds i true) a' w' := by
   intro v frL' σL' hv hput hh' φ' a' w' g1 g2 g3 g4
   obtain ⟨p1, p2, p3⟩ := put_get hput
   have hL' := isL_true (listed := listed) (i := i) (by omega)
   refine ih (listed.setIfInBounds i true) (by simpa using hsz) ?_ ?_ (by rw [p1, hn]) (by rw [p2, hd]) ?_ hh' g3 g2 fun φ2 a2 w2 k1 k2 k3 k4 => hq φ2 a2 w2 (Ren.le_trans g1 k1) k2 k3 (g4.trans k4)
   ·intro j hj k hk
    rw [hL'] at hj ⊢
    split
    ·rfl
    ·split at hj
     ·subst_vars; exact hprL k hk
     ·exact hdown j hj k hk
   ·have := countP_less (p := fun j => !isL listed j) (q := fun j => !isL (listed.setIfInBounds i true) j) (l := List.range ops.size) (k := i) (by simpa using hilt) (by simp [hil]) (by simp [hL']) (fun j _ hj => by
     rw [hL'] at hj; split at hj
     ·cases hj
     ·exact hj)
    omega
   ·intro t
    rw [p3 t]
    by_cases hdt : q.op.dst = some t
    ·rw [if_pos hdt, ← hv]
     refine (lastV_put (i := i) hq1 hdt (by simp [hL']) fun j x hij hx hxd => ?_).symm
     rw [Nat.zero_add, hL', if_neg (by omega)]
     rcases tmpsOrdered_spec hto ho (recAt hx) hxd (by omega) (.inr hdt) with h1 | h1
     ·have := pr_lt hbo i j h1; omega
     ·cases hk : isL listed j with
      | true => exact absurd h1 (hprN j hk)
      | false => rfl
    ·rw [if_neg hdt, ht t]
     refine lastV_congr fun k x hx hxd => ?_
     rw [Nat.zero_add, hL']
     by_cases hki : k = i
     ·subst hki; rw [hq1] at hx; cases hx; exact absurd hxd hdt
     ·rw [if_neg hki]
  have keepC : q.turned = false → countN (isL (listed.setIfInBounds i true)) (turnersFrom 0 rs) = countN (isL listed) (turnersFrom 0 rs) := by
   intro ht
   refine countN_congr fun j hj => ?_
   rw [isL_true (by omega), if_neg]
   rintro rfl
   obtain ⟨k, x, h1, h2, h3⟩ := turnersFrom_mem.1 hj
   have : k = j := by omega
   subst this
   rw [hq1] at h2; cases h2
   rw [ht] at h3; cases h3
  unfold wpOpIn
  simp only [ho]
  cases hv : q.val with
  | none =>
   obtain ⟨w1, w2, fr1, w3⟩ := R.left i q hq1 hv
   rw [wanted_sound (b := false) hf (by rw [wantedA_congr hlook, w1])]
   obtain ⟨frL', hput⟩ := put_some (fr2 := frL) (by rw [hn, R.n i q hq1]) w3 undef
   exact ⟨fun _ _ => trivial, next undef frL' σL (by rw [hv]; rfl) hput (by rw [keepC w2]; exact hh) φ _ w (Ren.le_refl φ) (hf.put (vrel_undef φ) hput) h (Below.refl _ _)⟩
  | some v =>
   obtain ⟨w1, w2, ⟨fr1, w3⟩, σ1, w4, w5⟩ := R.kept i q v hq1 hv
   rw [wanted_sound (b := true) hf (by rw [wantedA_congr hlook, w1])]
   simp only [if_true]
   obtain ⟨frL', hput⟩ := put_some (fr2 := frL) (by rw [hn, R.n i q hq1]) w3 v
   have hrec := recsOk_at hrs hq1
   rw [Nat.zero_add] at hrec
   unfold recOk at hrec
   simp only [hv] at hrec
   have key : ∃ σL', valOp P E frL σL q.op = some (v, σL') ∧ (heapsOf rs σ')[countN (isL (listed.setIfInBounds i true)) (turnersFrom 0 rs)]? = some σL' := by
    cases htu : q.turned with
    | true =>
     simp only [htu, if_true, List.all_eq_true, Bool.or_eq_true, memN_iff] at hrec
     have hmem : i ∈ turnersFrom 0 rs := turnersFrom_mem.2 ⟨i, q, by omega, hq1, htu⟩
     have hc : countN (isL listed) (turnersFrom 0 rs) = countN (fun j => decide (j < 0 + i)) (turnersFrom 0 rs) := countN_congr fun j hj => by
      rw [Nat.zero_add]
      rcases hrec j hj with (h1 | h1) | h1
      ·have := Nat.eq_of_beq_eq_true h1; subst this; rw [hil]; simp
      ·rw [hprL j h1]; have := pr_lt hbo i j h1; simp [this]
      ·have := pr_lt hbo j i h1
       cases hk : isL listed j with
       | true => exact absurd h1 (hprN j hk)
       | false => simp; omega
     have hσ : σL = q.σ := by
      rw [hc, R.heap i q hq1] at hh; exact (Option.some.inj hh).symm
     refine ⟨σ1, by rw [hσ, valOp_congr q.op hsel hev]; exact w4, ?_⟩
     rw [countN_insert (p := isL listed) turnersFrom_nodup hmem hil (by rw [isL_true (by omega)]; simp) (fun j _ hj => by rw [isL_true (by omega), if_neg hj]), hc]
     exact w5 htu
    | false =>
     refine ⟨σL, ?_, by rw [keepC htu]; exact hh⟩
     have htu' : turns P q.op = false := by rw [← w2]; exact htu
     have hval : ∃ τ, aOp P σL q.fr q.op = some (.value v, τ) := by
      cases hhe : hears q.op with
      | false => exact ⟨σL, deaf_value htu' hhe (valOp_value htu' w4).1 σL⟩
      | true =>
       simp only [htu, Bool.false_eq_true, if_false, hhe, if_true] at hrec
       refine windowOk_at hrec (mem_window hh ?_ ?_)
       ·exact countN_mono fun j _ hj => hprL j (memN_iff.1 hj)
       ·refine countN_mono fun j _ hj => ?_
        cases hm : memN i ((nth (preds ops) j).getD []) with
        | false => rfl
        | true => exact absurd (memN_iff.1 hm) (hprN j hj)
     obtain ⟨τ, hval⟩ := hval
     have := (still_value htu' hval).2
     subst this
     unfold valOp
     rw [aOp_congr q.op hsel hev, hval]
   obtain ⟨σL', key1, key2⟩ := key
   exact stepOp_sound hP hE h hf (hops i q.op ho) (stepOp_of_val key1 hput) (next v frL' σL' (by rw [hv]; rfl) hput key2)
theorem runDraw_sound (hP : ProgOk P) (hE : EvalOk P E) {ro r : Option Nat} {n : Nat} (hr : ro.isSome = r.isSome) {id : Nat} (hops : ∀ (i : Nat) (o : Oper), ops[i]? = some o → operOk P o = true) (hreg : regionOk ops = true)
  {fr fr' : Fr} {σ σ' : AH} (e : runCode.runDraw P E ro.isSome ops fr σ = some (fr', σ')) (h : HRel P N φ σ w) (hf : FrRel φ fr a) {Q : Exit → Act → World → Prop}
  (hq : ∀ φ' a' w', Ren.le φ φ' → FrRel φ' fr' a' → HRel P N φ' σ' w' → Below N w w' → Q .normal a' w') : (Code.region id ops true).wpIn (fenceAt r) n P Q a w := by
 unfold runCode.runDraw at e
 split at e
 ·rename_i rs fr2 σ2 hrec
  split at e
  ·rename_i hok
   simp only [Option.some.injEq, Prod.mk.injEq] at e
   obtain ⟨rfl, rfl⟩ := e
   have R := recOps_ok (k := 0) hrec
   refine wpIn_region_any hP.wide ?_
   have hL : ∀ j, isL (Array.replicate ops.size false) j = false := fun j => by unfold isL; simp [Array.getElem?_replicate]; split <;> rfl
   refine draw_any hP hE hops hreg R hok ops.size _ (by simp) (fun j hj => by rw [hL] at hj; cases hj) ?_ rfl rfl (fun t => (lastV_keep fun j q _ _ => hL _).symm) (σL := σ) ?_ (h.drew) hf fun φ' a' w' g1 g2 g3 g4 => hq φ' a' w' g1 g2 g3 ((below_drew N w).trans g4)
   ·have : ∀ (p : Nat → Bool) (l : List Nat), countN p l ≤ l.length := by
     intro p l; induction l with
     | nil => simp [countN]
     | cons i l ih => simp only [countN, List.length_cons]; split <;> omega
    simpa using this _ (List.range ops.size)
   ·rw [countN_zero fun j _ => hL j]; exact R.first
  ·cases e
 ·cases e
end
section
variable {F : Fence} {n : Nat} {P : Program} {Q : Exit → Act → World → Prop} {a : Act} {w : World}
theorem loopsIn_round {c : Code} (h : c.wpIn F n P (Exit.then (LoopsIn F n P c Q) Q) a w) : LoopsIn F n P c Q a w := by
 intro b k cs hro hb hr
 obtain ⟨e, a₁, w₁, hq, harr⟩ := h b (.inLoop c :: k) cs hro hb hr
 cases e with
 | normal =>
  obtain ⟨e₂, a₂, w₂, hq₂, harr₂⟩ := hq b k cs hro hb hr
  exact ⟨e₂, a₂, w₂, hq₂, .of_steps (StepsIn.trans harr (.one (fenced_calm hb hr rfl) stepR_inLoop)) harr₂⟩
 | exit id => exact ⟨_, a₁, w₁, hq, .pass (x := .inLoop c) rfl (fun _ _ => .inl (by simp)) harr⟩
 | goto l => exact ⟨_, a₁, w₁, hq, .pass (x := .inLoop c) rfl (fun _ _ => .inl (by simp)) harr⟩
 | ret => exact ⟨_, a₁, w₁, hq, .pass (x := .inLoop c) rfl (fun _ _ => .inl (by simp)) harr⟩
 | panic ch => exact ⟨_, a₁, w₁, hq, .pass (x := .inLoop c) rfl (fun _ _ => .inl (by simp)) harr⟩
 | outgrown => exact ⟨_, a₁, w₁, hq, .pass (x := .inLoop c) rfl (fun _ _ => .inl (by simp)) harr⟩
theorem wpIn_loop_of {c : Code} (h : LoopsIn F n P c Q a w) : (Code.loop c).wpIn F n P Q a w := by
 intro b k cs hro hb hr
 obtain ⟨e, a', w', hq, harr⟩ := h b k cs hro hb hr
 exact ⟨e, a', w', hq, .of_steps (.one (fenced_calm hb hr rfl) stepR_loop) harr⟩
theorem stepR_scope {b : Frame} {k : List Item} {cs : List Frame} {c : Code} : step P (lone (b.atR a (.code (.scope c) :: k)) cs w) = .next (lone (b.atR a (.code c :: .inScope c :: k)) cs w) :=
 step_lone_go (by simp [stepG, stepG.exec, Frame.atR])
theorem stepR_inScope {b : Frame} {k : List Item} {cs : List Frame} {c : Code} : step P (lone (b.atR a (.inScope c :: k)) cs w) = .next (lone (b.atR a k) cs w) :=
 step_lone_go (by simp [stepG, stepG.exec, Frame.atR])
theorem wpIn_scope {c : Code} (h : c.wpIn F n P (Exit.noGoto Q) a w) : (Code.scope c).wpIn F n P Q a w := by
 intro b k cs hro hb hr
 obtain ⟨e, a₁, w₁, hq, harr⟩ := h b (.inScope c :: k) cs hro hb hr
 have h0 : (lone (b.atR a (.code (.scope c) :: k)) cs w).fenced P F := fenced_calm hb hr rfl
 have hx : ∀ id, exitTo id (.inScope c :: k) = exitTo id k := fun id => by simp [exitTo]
 cases e with
 | normal => exact ⟨.normal, a₁, w₁, hq, .head h0 stepR_scope (StepsIn.trans harr (.one (fenced_calm hb hr rfl) stepR_inScope))⟩
 | exit id =>
  exact ⟨.exit id, a₁, w₁, hq, fun k' hk => .head h0 stepR_scope (harr.1 k' (by rw [hx]; exact hk)),
   fun hr' hk => let ⟨k₁, h1, h2⟩ := harr.2 hr' (by rw [hx]; exact hk); ⟨k₁, h1, .head h0 stepR_scope h2⟩⟩
 | goto l => exact hq.elim
 | ret => exact ⟨.ret, a₁, w₁, hq, .of_steps (.one h0 stepR_scope) harr⟩
 | panic ch => exact ⟨.panic ch, a₁, w₁, hq, .of_steps (.one h0 stepR_scope) harr⟩
 | outgrown => exact ⟨.outgrown, a₁, w₁, hq, .of_steps (.one h0 stepR_scope) harr⟩
end
section
variable {P : Program} {N : Nat} {φ : Ren} {σ σ' : AH} {w : World} {fr fr' : Fr} {a : Act} {E : Eval} {x : AExit}
theorem CodeOk.after {φ1 : Ren} {w1 : World} (g : Ren.le φ φ1) (k : Below N w w1) {e : Exit} {a' : Act} {w' : World} (h : CodeOk P N φ1 w1 x fr' σ' e a' w') : CodeOk P N φ w x fr' σ' e a' w' := by
 obtain ⟨φ', h1, h2, h3, h4, h5⟩ := h
 exact ⟨φ', h1, Ren.le_trans g h2, h3, h4, k.trans h5⟩
theorem getLoop_sound (h : HRel P N φ σ w) {l : Nat} {r : ALoop} (e : getLoop σ l = some r) : σ.get l = some (.loop r) ∧ ∃ b r', φ l = some b ∧ w.heap[b.block]? = some (.loop r') ∧ LoopRel P φ r r' ∧ (Instr.getLoop b.block).run P w = .ok r' w := by
 unfold getLoop at e
 split at e
 ·rename_i q hq
  simp only [Option.some.injEq] at e; subst e
  obtain ⟨b, ob, h1, h2, r', rfl, h3⟩ := h.live l _ hq
  refine ⟨hq, b, r', h1, h2, h3, ?_⟩
  simp [Instr.getLoop, Sem.run_bind, run_getObj_of (P := P) h2 (by simp), Sem.run]
 ·cases e
theorem round_isSome {φ : Ren} {ro r : Option Nat} (h : RoundRel φ ro r) : ro.isSome = r.isSome := by
 cases ro <;> cases r <;> first | rfl | exact h.elim
theorem enterLoop_sound (h : HRel P N φ σ w) (hf : FrRel φ fr a) {ro r : Option Nat} (hr : RoundRel φ ro r) {params : Array Tmp} {assign body : Code} (hok : codeOk P assign = true ∧ codeOk P body = true)
  {l : Nat} {mark : List Deferred} (e : aEnterLoop σ ro fr params.toList assign body = some (l, mark, σ')) (fn : FuncId) :
  ∃ φ1 b mark' w1, (Instr.enterLoop fn a.tmps params assign body r).run P w = .ok (b.block, mark') w1 ∧ Ren.le φ φ1 ∧ φ1 l = some b ∧ LRel (DRel φ1) mark mark' ∧ HRel P N φ1 σ' w1 ∧ Below N w w1 := by
 unfold aEnterLoop at e
 split at e
 ·rename_i l0
  cases r with
  | none => exact hr.elim
  | some l0' =>
   obtain ⟨c, hc1, hc2⟩ := hr
   simp only [Option.map_eq_some_iff, Prod.mk.injEq] at e
   obtain ⟨q, hq, rfl, rfl, rfl⟩ := e
   obtain ⟨_, b0, q', hb0, _, hrel, hrun⟩ := getLoop_sound h hq
   rw [hc1] at hb0; cases hb0
   rw [hc2] at hrun
   have hle := Ren.le_ins (φ := φ) ⟨w.heap.size, 0, 0⟩ h.fresh
   obtain ⟨d, hd1, hd2⟩ := hrel.defers
   refine ⟨_, ⟨w.heap.size, 0, 0⟩, [], w.alloc (.loop { state := .ready, pending := none, fn, tmps := a.tmps, params, assign, body, defers := q'.defers }), ?_, hle, by simp [Ren.ins], .nil, ?_, below_alloc h _⟩
   ·simp [Instr.enterLoop, Sem.run_bind, hrun, Result.andThen_ok, newObj, Sem.run]
   ·exact h.alloc 0 ⟨_, rfl, rfl, rfl, hf.n, fun i => (hf.tmps i).mono hle, rfl, rfl, rfl, ⟨d, hle _ _ hd1, hd2⟩, hok⟩
 ·cases r with
  | some l0' => exact hr.elim
  | none =>
   simp only [Option.some.injEq, Prod.mk.injEq] at e
   obtain ⟨rfl, rfl, rfl⟩ := e
   have hle := Ren.le_ins (φ := φ) ⟨w.heap.size, 0, 0⟩ h.fresh
   have h1 := h.alloc (o := .defs (some [])) (ob := .deferred (some [])) 0 rfl
   have hle2 := Ren.le_ins (φ := φ.ins σ.next ⟨w.heap.size, 0, 0⟩) ⟨(w.alloc (.deferred (some []))).heap.size, 0, 0⟩ h1.fresh
   have hd : (φ.ins σ.next ⟨w.heap.size, 0, 0⟩) σ.next = some ⟨w.heap.size, 0, 0⟩ := by simp [Ren.ins]
   refine ⟨_, ⟨(w.alloc (.deferred (some []))).heap.size, 0, 0⟩, [{ target := .collected w.heap.size, args := #[] }],
    (w.alloc (.deferred (some []))).alloc (.loop { state := .ready, pending := none, fn, tmps := a.tmps, params, assign, body, defers := w.heap.size }), ?_, Ren.le_trans hle hle2, ?_, ?_, ?_, (below_alloc h _).trans (below_alloc h1 _)⟩
   ·simp [Instr.enterLoop, Sem.run_bind, Result.andThen_ok, newObj, Sem.run]
   ·show (Ren.ins _ (σ.next + 1) _) (σ.next + 1) = _
    simp [Ren.ins]
   ·exact .cons (.collected (b := ⟨w.heap.size, 0, 0⟩) (hle2 _ _ hd)) .nil
   ·exact h1.alloc 0 ⟨_, rfl, rfl, rfl, hf.n, fun i => (hf.tmps i).mono (Ren.le_trans hle hle2), rfl, rfl, rfl, ⟨⟨w.heap.size, 0, 0⟩, hle2 _ _ hd, rfl⟩, hok⟩
theorem endLoop_sound (h : HRel P N φ σ w) {l : Nat} {jump : Option Code} (e : aEndLoop σ l = some (jump, σ')) {b : BInfo} (hb : φ l = some b) :
  ∃ w1, (Instr.endLoop b.block).run P w = .ok jump w1 ∧ HRel P N φ σ' w1 ∧ Below N w w1 := by
 unfold aEndLoop at e
 simp only [Option.bind_eq_some_iff] at e
 obtain ⟨q, hq, e⟩ := e
 obtain ⟨hk, b0, q', hb0, hob, hrel, hrun⟩ := getLoop_sound h hq
 rw [hb] at hb0; cases hb0
 have key : q.state ≠ .busy → some (q.pending, σ.put l (some (.loop { q with state := .exhausted }))) = some (jump, σ') → ∃ w1, (Instr.endLoop b.block).run P w = .ok jump w1 ∧ HRel P N φ σ' w1 ∧ Below N w w1 := by
  intro hne e
  simp only [Option.some.injEq, Prod.mk.injEq] at e
  obtain ⟨rfl, rfl⟩ := e
  obtain ⟨g1, g2⟩ := setObj_sound h (o := .loop { q with state := .exhausted }) (ob := .loop { q' with state := .exhausted }) hk rfl hb rfl hob
   ⟨_, rfl, rfl, hrel.pending, hrel.n, hrel.tmps, hrel.params, hrel.assign, hrel.body, hrel.defers, hrel.ok⟩
  refine ⟨_, ?_, g1, g2⟩
  have hset := run_setObj_of (P := P) (ob' := .loop { q' with state := .exhausted }) hob (by simp)
  have hst : (q'.state == .busy) = false := by rw [hrel.state]; cases hs : q.state <;> simp_all
  simp only [Instr.endLoop, Sem.run_bind, hrun, Result.andThen_ok, hst, Bool.false_eq_true, if_false, Sem.run_pure]
  rw [hset, hrel.pending]
  rfl
 split at e
 ·cases e
 ·rename_i hne; exact key (fun hh => hne hh) e
theorem runCode_sound (hP : ProgOk P) (hE : EvalOk P E) : ∀ (c : Code), codeOk P c = true → ∀ {N : Nat} {φ : Ren} {σ σ' : AH} {w : World} {fr fr' : Fr} {a : Act} {x : AExit} {ro r : Option Nat},
  runCode P E ro c fr σ = some (x, fr', σ') → HRel P N φ σ w → FrRel φ fr a → RoundRel φ ro r → c.wpIn (fenceAt r) 0 P (CodeOk P N φ w x fr' σ') a w := by
 intro c
 induction c with
 | skip =>
  intro hc N φ σ σ' w fr fr' a x ro r e h hf hr
  simp only [runCode, Option.some.injEq, Prod.mk.injEq] at e
  obtain ⟨rfl, rfl, rfl⟩ := e
  exact wpIn_skip ⟨φ, .normal, Ren.le_refl φ, hf, h, Below.refl _ _⟩
 | label l =>
  intro hc N φ σ σ' w fr fr' a x ro r e h hf hr
  simp only [runCode, Option.some.injEq, Prod.mk.injEq] at e
  obtain ⟨rfl, rfl, rfl⟩ := e
  exact wpIn_label ⟨φ, .normal, Ren.le_refl φ, hf, h, Below.refl _ _⟩
 | exit id =>
  intro hc N φ σ σ' w fr fr' a x ro r e h hf hr
  simp only [runCode, Option.some.injEq, Prod.mk.injEq] at e
  obtain ⟨rfl, rfl, rfl⟩ := e
  exact wpIn_exit ⟨φ, .exit id, Ren.le_refl φ, hf, h, Below.refl _ _⟩
 | goto l =>
  intro hc N φ σ σ' w fr fr' a x ro r e h hf hr
  simp only [runCode, Option.some.injEq, Prod.mk.injEq] at e
  obtain ⟨rfl, rfl, rfl⟩ := e
  exact wpIn_goto ⟨φ, .goto l, Ren.le_refl φ, hf, h, Below.refl _ _⟩
 | ret =>
  intro hc N φ σ σ' w fr fr' a x ro r e h hf hr
  simp only [runCode, Option.some.injEq, Prod.mk.injEq] at e
  obtain ⟨rfl, rfl, rfl⟩ := e
  exact wpIn_ret ⟨φ, .ret, Ren.le_refl φ, hf, h, Below.refl _ _⟩
 | refuse m =>
  intro hc N φ σ σ' w fr fr' a x ro r e h hf hr
  simp only [runCode] at e
  cases e
 | region id ops draw =>
  intro hc N φ σ σ' w fr fr' a x ro r e h hf hr
  simp only [codeOk, Bool.and_eq_true, List.all_eq_true] at hc
  have hops : ∀ (i : Nat) (o : Oper), ops[i]? = some o → operOk P o = true := fun i o ho => hc.1 o (by simpa using Array.mem_of_getElem? ho)
  have hfin : ∀ {fr' : Fr} {σ' : AH} {φ' : Ren} {a' : Act} {w' : World}, Ren.le φ φ' → FrRel φ' fr' a' → HRel P N φ' σ' w' → Below N w w' → CodeOk P N φ w .normal fr' σ' .normal a' w' :=
   fun g1 g2 g3 g4 => ⟨_, .normal, g1, g2, g3, g4⟩
  have hri := round_isSome hr
  simp only [runCode] at e
  cases draw with
  | true =>
   simp only at e
   split at e
   ·rename_i fr1 σ1 hd
    simp only [Option.some.injEq, Prod.mk.injEq] at e
    obtain ⟨rfl, rfl, rfl⟩ := e
    have hreg : regionOk ops = true := by simpa using hc.2
    exact runDraw_sound hP hE hri hops hreg hd h hf fun φ' a' w' g1 g2 g3 g4 => hfin g1 g2 g3 g4
   ·cases e
  | false =>
   simp only at e
   split at e
   ·rename_i fr1 σ1 hd
    simp only [Option.some.injEq, Prod.mk.injEq] at e
    obtain ⟨rfl, rfl, rfl⟩ := e
    refine wpIn_region ?_
    rw [runOps_eq P E ro.isSome ops ops.toList 0 fr σ (fun j => by simp), hri] at hd
    rw [List.range_eq_range']
    have : ops.toList.length = ops.size := by simp
    rw [this] at hd
    exact runIx_sound hP hE hops _ h hf hd fun φ' a' w' g1 g2 g3 g4 => hfin g1 g2 g3 g4
   ·cases e
 | seq c1 c2 ih1 ih2 =>
  intro hc N φ σ σ' w fr fr' a x ro r e h hf hr
  simp only [codeOk, Bool.and_eq_true] at hc
  simp only [runCode] at e
  refine wpIn_seq ?_
  split at e
  ·rename_i fr1 σ1 h1
   refine wpIn_mono (ih1 hc.1 h1 h hf hr) fun e1 a1 w1 hq => ?_
   obtain ⟨φ1, hx, g1, g2, g3, g4⟩ := hq
   cases hx
   exact wpIn_mono (ih2 hc.2 e g3 g2 (hr.mono g1)) fun e2 a2 w2 hq => hq.after g1 g4
  ·rename_i hne
   refine wpIn_mono (ih1 hc.1 e h hf hr) fun e1 a1 w1 hq => ?_
   have hx := hq.choose_spec.1
   cases hx with
   | normal => exact absurd e (hne _ _)
   | exit id => exact hq
   | goto l => exact hq
   | ret => exact hq
 | cond c0 c1 c2 ih1 ih2 =>
  intro hc N φ σ σ' w fr fr' a x ro r e h hf hr
  simp only [codeOk, Bool.and_eq_true] at hc
  simp only [runCode] at e
  have hev := hf.ev h hc.1.1
  split at e
  ·rename_i hb; rw [hb] at hev; exact wpIn_cond_true (vrel_bool hev) (ih1 hc.1.2 e h hf hr)
  ·rename_i hb; rw [hb] at hev; exact wpIn_cond_false (vrel_bool hev) (ih2 hc.2 e h hf hr)
  ·cases e
 | block id c ih =>
  intro hc N φ σ σ' w fr fr' a x ro r e h hf hr
  simp only [codeOk] at hc
  simp only [runCode] at e
  refine wpIn_block ?_
  split at e
  ·rename_i i fr1 σ1 h1
   refine wpIn_mono (ih hc h1 h hf hr) fun e1 a1 w1 hq => ?_
   obtain ⟨φ1, hx, g1, g2, g3, g4⟩ := hq
   cases hx
   simp only [Exit.inBlock]
   split at e
   ·rename_i hi
    simp only [Option.some.injEq, Prod.mk.injEq] at e
    obtain ⟨rfl, rfl, rfl⟩ := e
    rw [if_pos hi]; exact ⟨φ1, .normal, g1, g2, g3, g4⟩
   ·rename_i hi
    simp only [Option.some.injEq, Prod.mk.injEq] at e
    obtain ⟨rfl, rfl, rfl⟩ := e
    rw [if_neg hi]; exact ⟨φ1, .exit i, g1, g2, g3, g4⟩
  ·rename_i hne
   refine wpIn_mono (ih hc e h hf hr) fun e1 a1 w1 hq => ?_
   have hx := hq.choose_spec.1
   cases hx with
   | exit id => exact absurd e (hne _ _ _)
   | normal => exact hq
   | goto l => exact hq
   | ret => exact hq
 | loop c ih =>
  intro hc N φ σ σ' w fr fr' a x ro r e h hf hr
  simp only [codeOk] at hc
  simp only [runCode] at e
  refine wpIn_loop_of (loopsIn_round ?_)
  split at e
  ·rename_i fr1 σ1 h1
   refine wpIn_mono (ih hc h1 h hf hr) fun e1 a1 w1 hq => ?_
   obtain ⟨φ1, hx, g1, g2, g3, g4⟩ := hq
   cases hx
   exact hE.code e hc g3 g2 (hr.mono g1) _ fun e2 a2 w2 hq => hq.after g1 g4
  ·rename_i hne
   refine wpIn_mono (ih hc e h hf hr) fun e1 a1 w1 hq => ?_
   have hx := hq.choose_spec.1
   cases hx with
   | normal => exact absurd e (hne _ _)
   | exit id => exact hq
   | goto l => exact hq
   | ret => exact hq
 | scope c ih =>
  intro hc N φ σ σ' w fr fr' a x ro r e h hf hr
  simp only [codeOk] at hc
  simp only [runCode] at e
  refine wpIn_scope ?_
  split at e
  ·cases e
  ·rename_i hne
   refine wpIn_mono (ih hc e h hf hr) fun e1 a1 w1 hq => ?_
   have hx := hq.choose_spec.1
   cases hx with
   | goto l => exact absurd e (hne _ _ _)
   | normal => exact hq
   | exit id => exact hq
   | ret => exact hq
 | rangeFunc f params assign body ih1 ih2 =>
  intro hc N φ σ σ' w fr fr' a x ro r e h hf hr
  simp only [codeOk, Bool.and_eq_true] at hc
  simp only [runCode] at e
  split at e
  case h_2 => cases e
  rename_i l mark σ1 hent
  split at e
  case h_2 => cases e
  rename_i g args τ hcal
  split at e
  case h_2 => cases e
  rename_i gc hgb
  split at e
  case h_2 => cases e
  rename_i u σ2 hcall
  refine wpIn_rangeFunc fun fn _ => ?_
  obtain ⟨φ1, b, mark', w1, q1, q2, q3, q4, q5, q6⟩ := enterLoop_sound h hf hr ⟨hc.1.2, hc.2⟩ hent fn
  have hev := hf.ev h hc.1.1
  have hev1 := hev.mono q2
  obtain ⟨fn0, hfn0, hbody⟩ : ∃ fn0, P.funcs[g]? = some fn0 ∧ fn0.body = some gc := by simpa [Option.bind_eq_some_iff] using hgb
  unfold aCallee at hcal
  split at hcal
  case h_2 => simp only [Option.some.injEq, Prod.mk.injEq] at hcal; cases hcal.1
  case h_3 => cases hcal
  rename_i g0 first captured hfv
  simp only [Option.some.injEq, Prod.mk.injEq, AOut.enter.injEq] at hcal
  obtain ⟨⟨rfl, rfl⟩, rfl⟩ := hcal
  rw [hfv] at hev1
  obtain ⟨f1, c1, hv, v1, v2⟩ := vrel_func hev1
  have hy : VL φ1 [.func (.yield l) #[] #[]] [.func (.yield b.block) #[] #[]] := .cons (.yield q3 rfl (fun i v v' hv => by simp at hv)) .nil
  refine ⟨b.block, mark', w1, { target := .fn (.func g0) c1, args := f1 ++ #[.func (.yield b.block) #[] #[]] }, w1, g0, (f1 ++ #[.func (.yield b.block) #[] #[]]) ++ c1, w1, q1, ?_, fun _ _ => trivial, ?_, (fun hh => by cases hh), ?_⟩
  ·have hm : (#[Operand.const (.func (.yield b.block) #[] #[])] : Array Operand).map a.eval = #[.func (.yield b.block) #[] #[]] := by simp [Act.eval]
   simp only [resolve, hv, hm, Deferred.ofValue, Sem.run_pure]
  ·simp only [invoke]
   exact run_callFunc hP hfn0 hbody _
  ·refine (callsIn_at (hE.call hcall q5 ?_)).mono fun e1 w2 hret => ?_
   ·simpa using (v1.append hy).append v2
   ·obtain ⟨φ2, v', rfl, g1, g2, g3, g4⟩ := hret
    have hle := Ren.le_trans q2 g1
    have hbel := q6.trans g4
    have frOk : FrRel φ2 { fr with defers := mark ++ fr.defers } { a with defers := mark' ++ a.defers } :=
     ⟨hf.n, fun i => (hf.tmps i).mono hle, (LRel.mono q4 fun _ _ h => h.mono g1).append (LRel.mono hf.defers fun _ _ h => h.mono hle)⟩
    have hb2 := g1 _ _ q3
    split at e
    ·rename_i σ3 hend
     simp only [Option.some.injEq, Prod.mk.injEq] at e
     obtain ⟨rfl, rfl, rfl⟩ := e
     obtain ⟨w3, k1, k2, k3⟩ := endLoop_sound g3 hend hb2
     exact ⟨none, w3, k1, φ2, .normal, hle, frOk, k2, hbel.trans k3⟩
    ·rename_i id σ3 hend
     simp only [Option.some.injEq, Prod.mk.injEq] at e
     obtain ⟨rfl, rfl, rfl⟩ := e
     obtain ⟨w3, k1, k2, k3⟩ := endLoop_sound g3 hend hb2
     exact ⟨_, w3, k1, wpIn_exit ⟨φ2, .exit id, hle, frOk, k2, hbel.trans k3⟩⟩
    ·rename_i t σ3 hend
     simp only [Option.some.injEq, Prod.mk.injEq] at e
     obtain ⟨rfl, rfl, rfl⟩ := e
     obtain ⟨w3, k1, k2, k3⟩ := endLoop_sound g3 hend hb2
     exact ⟨_, w3, k1, wpIn_goto ⟨φ2, .goto t, hle, frOk, k2, hbel.trans k3⟩⟩
    ·rename_i σ3 hend
     simp only [Option.some.injEq, Prod.mk.injEq] at e
     obtain ⟨rfl, rfl, rfl⟩ := e
     obtain ⟨w3, k1, k2, k3⟩ := endLoop_sound g3 hend hb2
     exact ⟨_, w3, k1, wpIn_ret ⟨φ2, .ret, hle, frOk, k2, hbel.trans k3⟩⟩
    ·cases e
end
section
variable {P : Program} {N : Nat} {φ : Ren} {σ σ' : AH} {w : World} {fr fr' : Fr} {a : Act} {E : Eval}
def resOf (tmps : Array Value) : ResultVar → Sem Value
 | .tmp t => pure (tmps.getD t undef)
 | .cell a t => do loadVar t (← asAddr (tmps.getD a undef))
theorem results_eq (fn : Func) (tmps : Array Value) : results fn tmps = (do
  let vs ← fn.results.mapM (resOf tmps)
  pure (if h : vs.size = 1 then vs[0] else .tuple vs)) := by
 unfold results
 congr 1
theorem aResults_sound (h : HRel P N φ σ w) (hf : FrRel φ fr a) : ∀ (rs : List ResultVar) {vs : List Value}, aResults P σ fr rs = some vs → ∃ vs', (rs.mapM (resOf a.tmps)).run P w = .ok vs' w ∧ VL φ vs vs'
 | [], vs, e => by
  simp only [aResults, Option.some.injEq] at e; subst e
  exact ⟨[], by simp [Sem.run_pure], .nil⟩
 | .tmp t :: rs, vs, e => by
  simp only [aResults, Option.map_eq_some_iff] at e
  obtain ⟨us, hu, rfl⟩ := e
  obtain ⟨us', h1, h2⟩ := aResults_sound h hf rs hu
  refine ⟨a.tmps.getD t undef :: us', ?_, .cons (hf.tmps t) h2⟩
  simp only [List.mapM_cons, Sem.run_bind, resOf, Sem.run_pure, Result.andThen_ok, h1]
 | .cell x t :: rs, vs, e => by
  simp only [aResults] at e
  have hx := hf.tmps x
  split at e
  ·rename_i k off hp
   rw [hp] at hx
   obtain ⟨b, hb, hx⟩ := vrel_ptr hx
   simp only [Option.bind_eq_some_iff, Option.map_eq_some_iff] at e
   obtain ⟨v, hv, us, hu, rfl⟩ := e
   obtain ⟨v', g1, g2⟩ := aLoadVar_sound h hb hv
   obtain ⟨us', h1, h2⟩ := aResults_sound h hf rs hu
   refine ⟨v' :: us', ?_, .cons g2 h2⟩
   simp only [List.mapM_cons, Sem.run_bind, resOf, hx, asAddr, Sem.run_pure, Result.andThen_ok, g1, h1]
  ·cases e
theorem results_sound (h : HRel P N φ σ w) (hf : FrRel φ fr a) {fn : Func} {vs : List Value} (e : aResults P σ fr fn.results.toList = some vs) : ∃ v', (results fn a.tmps).run P w = .ok v' w ∧ VRel φ (oneOr vs) v' := by
 obtain ⟨vs', h1, h2⟩ := aResults_sound h hf _ e
 have hl := h2.1
 refine ⟨if hh : vs'.toArray.size = 1 then vs'.toArray[0] else .tuple vs'.toArray, ?_, ?_⟩
 ·rw [results_eq, Array.mapM_eq_mapM_toList]
  simp only [Sem.run_bind, Sem.run_map, h1, Result.andThen_ok, Sem.run_pure]
 ·match vs, vs', hl, h2 with
  | [], [], _, h2 => exact .tuple_list (c := #[]) (c' := #[]) (by simpa using h2)
  | [v], [v'], _, h2 => exact h2.2 0 v v' rfl rfl
  | v :: u :: vs, v' :: u' :: vs', _, h2 =>
   rw [dif_neg (by simp)]
   exact .tuple_list (c := (v :: u :: vs).toArray) (c' := (v' :: u' :: vs').toArray) (by simpa using h2)
  | [], _ :: _, hl, _ => simp at hl
  | _ :: _, [], hl, _ => simp at hl
  | [_], _ :: _ :: _, hl, _ => simp at hl
  | _ :: _ :: _, [_], hl, _ => simp at hl
theorem leaves_sound {fn : Func} {fr : Fr} {a : Act} {v : Value} {w0 : World} {φ0 : Ren} : ∀ (ds : List Deferred) {ds' : List Deferred} {σ σ' : AH} {w : World} {vs : List Value}, runDefers ds σ = some σ' → LRel (DRel φ) ds ds' → HRel P N φ σ w → FrRel φ fr a →
  aResults P σ' fr fn.results.toList = some vs → oneOr vs = v → Ren.le φ0 φ → Below N w0 w → LeavesInM Fence.wide 0 P fn a.tmps (RetOk P N φ0 w0 v σ') ds' .returning w
 | [], ds', σ, σ', w, vs, e, hd, h, hf, hr, hv, hle, hb => by
  have : ds' = [] := by
   have := hd.1; cases ds' with
   | nil => rfl
   | cons d l => simp at this
  subst this
  simp only [runDefers, Option.some.injEq] at e; subst e
  obtain ⟨v', h1, h2⟩ := results_sound h hf hr
  exact ⟨v', h1, φ, v', rfl, hle, hv ▸ h2, h, hb⟩
 | d :: ds, ds', σ, σ', w, vs, e, hd, h, hf, hr, hv, hle, hb => by
  cases ds' with
  | nil => have := hd.1; simp at this
  | cons d' ds' =>
   have hdd : DRel φ d d' := hd.2 0 d d' rfl rfl
   have hds : LRel (DRel φ) ds ds' := ⟨by simpa using hd.1, fun i x y hx hy => hd.2 (i + 1) x y (by simpa using hx) (by simpa using hy)⟩
   simp only [runDefers] at e
   cases hdd with
   | func g hc ha => simp only at e; cases e
   | collected hb0 =>
    rename_i r b
    simp only at e
    split at e
    ·rename_i hk
     obtain ⟨b1, ob, h1, h2, h3⟩ := h.live r _ hk
     rw [hb0] at h1; cases h1
     have h3 : ob = .deferred (some []) := h3
     subst h3
     obtain ⟨g1, g2⟩ := setObj_sound h (o := .defs none) (ob := .deferred none) hk rfl hb0 rfl h2 rfl
     exact ⟨by simp, .inl ⟨b.block, _, rfl, run_takeDeferred h2, leaves_sound ds e hds g1 hf hr hv hle (hb.trans g2)⟩⟩
    ·cases e
theorem runCall_sound (hP : ProgOk P) (hE : EvalOk P E) {g : FuncId} {args : List Value} {args' : Array Value} {v : Value} (e : runCall P E g args σ = some (v, σ')) (h : HRel P N φ σ w) (ha : VL φ args args'.toList) :
  CallsIn Fence.wide 0 P g args' w (RetOk P N φ w v σ') := by
 unfold runCall at e
 split at e
 ·cases e
 ·rename_i fn hfn
  split at e
  ·cases e
  ·rename_i c hb
   have hlen : args.length = args'.size := by have := ha.1; simpa using this
   have hf : FrRel φ { n := args.length + (fn.ntmps - args.length), tmps := T.ofList args, defers := [] } { tmps := args' ++ Array.replicate (fn.ntmps - args'.size) undef, defers := [] } := by
    refine ⟨by simp [hlen], fun i => ?_, .nil⟩
    simp only [T.get_ofList]
    by_cases hi : i < args.length
    ·have h1 : args[i]? = some args[i] := List.getElem?_eq_getElem hi
     have h2 : args'[i]? = some (args'[i]'(by omega)) := Array.getElem?_eq_getElem _
     rw [h1]
     have hg : (args' ++ Array.replicate (fn.ntmps - args'.size) undef).getD i undef = args'[i]'(by omega) := by
      simp [Array.getD_eq_getD_getElem?, Array.getElem?_append, show i < args'.size by omega]
     rw [hg]
     exact ha.2 i _ _ h1 (by simp)
    ·rw [List.getElem?_eq_none (by omega)]
     have hg : (args' ++ Array.replicate (fn.ntmps - args'.size) undef).getD i undef = undef := by
      simp only [Array.getD_eq_getD_getElem?, Array.getElem?_append, show ¬ i < args'.size by omega, if_false, Array.getElem?_replicate]
      split <;> rfl
     rw [hg]
     exact vrel_undef φ
   have fin : ∀ {φ1 : Ren} {fr : Fr} {σ1 : AH} {a1 : Act} {w1 : World}, runCall.finish P fn fr σ1 = some (v, σ') → Ren.le φ φ1 → FrRel φ1 fr a1 → HRel P N φ1 σ1 w1 → Below N w w1 →
     LeavesInM Fence.wide 0 P fn a1.tmps (RetOk P N φ w v σ') a1.defers .returning w1 := by
    intro φ1 fr σ1 a1 w1 e g1 g2 g3 g4
    unfold runCall.finish at e
    simp only [Option.bind_eq_some_iff, Option.map_eq_some_iff, Prod.mk.injEq] at e
    obtain ⟨σ2, e1, vs, e2, rfl, rfl⟩ := e
    exact leaves_sound _ e1 g2.defers g3 g2 e2 rfl g1 g4
   refine callsIn_of_wp_marks hfn hb trivial ?_
   split at e
   ·rename_i fr1 σ1 h1
    refine wpIn_mono (runCode_sound hP hE c (hP.codes g fn c hfn hb) (ro := none) (r := none) h1 h hf trivial) fun e1 a1 w1 hq => ?_
    obtain ⟨φ1, hx, g1, g2, g3, g4⟩ := hq
    cases hx
    exact fin e g1 g2 g3 g4
   ·rename_i fr1 σ1 h1
    refine wpIn_mono (runCode_sound hP hE c (hP.codes g fn c hfn hb) (ro := none) (r := none) h1 h hf trivial) fun e1 a1 w1 hq => ?_
    obtain ⟨φ1, hx, g1, g2, g3, g4⟩ := hq
    cases hx
    exact fin e g1 g2 g3 g4
   ·cases e
theorem setAll_rel : ∀ (ps : List Tmp) (vs vs' : List Value) (t : T Value) (tm : Array Value), VL φ vs vs' → ps.length = vs.length → (∀ p ∈ ps, p < tm.size) → (∀ i, VRel φ ((t.get i).getD undef) (tm.getD i undef)) →
  ((ps.zip vs').foldl (fun (tmps : Array Value) (x : Tmp × Value) => tmps.setIfInBounds x.1 x.2) tm).size = tm.size ∧
  ∀ i, VRel φ (((setAll t ps vs).get i).getD undef) (((ps.zip vs').foldl (fun (tmps : Array Value) (x : Tmp × Value) => tmps.setIfInBounds x.1 x.2) tm).getD i undef)
 | [], vs, vs', t, tm, hv, hl, hb, ht => by
  cases vs <;> exact ⟨rfl, ht⟩
 | p :: ps, [], vs', t, tm, hv, hl, hb, ht => by simp at hl
 | p :: ps, v :: vs, [], t, tm, hv, hl, hb, ht => by have := hv.1; simp at this
 | p :: ps, v :: vs, v' :: vs', t, tm, hv, hl, hb, ht => by
  have hpl : p < tm.size := hb p (by simp)
  have := setAll_rel ps vs vs' (t.set p (some v)) (tm.setIfInBounds p v') ⟨by simpa using hv.1, fun i x y hx hy => hv.2 (i + 1) x y (by simpa using hx) (by simpa using hy)⟩ (by simpa using hl) (fun q hq => by simpa using hb q (by simp [hq])) (fun i => by
   rw [T.get_set]
   by_cases hi : i = p
   ·subst hi
    rw [if_pos rfl]
    have : (tm.setIfInBounds i v').getD i undef = v' := by simp [Array.getD_eq_getD_getElem?, hpl]
    rw [this]
    exact hv.2 0 v v' rfl rfl
   ·rw [if_neg hi]
    have : (tm.setIfInBounds p v').getD i undef = tm.getD i undef := by simp [Array.getD_eq_getD_getElem?, Array.getElem?_setIfInBounds_ne (Ne.symm hi)]
    rw [this]; exact ht i)
  simp only [List.zip_cons_cons, List.foldl_cons, setAll]
  exact ⟨by rw [this.1]; simp, this.2⟩
theorem endRound_sound {l : Nat} {b : BInfo} {jump : Option Code} {v : Value} (e : runRound.endRound σ l jump = some (v, σ')) (h : HRel P N φ σ w) (hb : φ l = some b) :
  ∃ w1, (Instr.endRound b.block jump).run P w = .ok v w1 ∧ VRel φ v v ∧ HRel P N φ σ' w1 ∧ Below N w w1 := by
 unfold runRound.endRound at e
 simp only [Option.map_eq_some_iff, Prod.mk.injEq] at e
 obtain ⟨q, hq, rfl, rfl⟩ := e
 obtain ⟨hk, b0, q', hb0, hob, hrel, hrun⟩ := getLoop_sound h hq
 rw [hb] at hb0; cases hb0
 obtain ⟨g1, g2⟩ := setObj_sound h (o := .loop { q with state := if jump.isNone then .ready else .done, pending := jump }) (ob := .loop { q' with state := if jump.isNone then .ready else .done, pending := jump }) hk rfl hb rfl hob
  ⟨_, rfl, rfl, rfl, hrel.n, hrel.tmps, hrel.params, hrel.assign, hrel.body, hrel.defers, hrel.ok⟩
 exact ⟨_, run_endRound jump hob, .bool _, g1, g2⟩
theorem runRound_sound (hP : ProgOk P) (hE : EvalOk P E) {l : Nat} {b : BInfo} {args : List Value} {args' : Array Value} {v : Value} (e : runRound P E l args σ = some (v, σ')) (h : HRel P N φ σ w) (hb : φ l = some b) (ha : VL φ args args'.toList) :
  ∃ f tmps assign body, (Instr.yield b.block args').run P w = .ok (.round b.block f tmps assign body) w ∧ RoundIn Fence.wide 0 P b.block f tmps assign body w (RetOk P N φ w v σ') := by
 unfold runRound at e
 simp only [Option.bind_eq_some_iff] at e
 obtain ⟨q, hq, e⟩ := e
 obtain ⟨hk, b0, q', hb0, hob, hrel, hrun⟩ := getLoop_sound h hq
 rw [hb] at hb0; cases hb0
 split at e
 ·cases e
 ·rename_i hc
  simp only [Bool.or_eq_true, Bool.not_eq_true', not_or, Bool.not_eq_false, List.all_eq_true, Nat.blt_eq] at hc
  have hlen : args.length = q.params.length := Nat.eq_of_beq_eq_true hc.1
  have hlen' : args.length = args'.size := by have := ha.1; simpa using this
  have hps : args'.size = q'.params.size := by rw [← hlen', hlen, ← hrel.params]; simp
  refine ⟨_, _, _, _, run_yield hob hps, ?_⟩
  have hset := setAll_rel q.params args args'.toList q.tmps q'.tmps ha hlen.symm (fun p hp => by rw [hrel.n]; exact hc.2 p hp) hrel.tmps
  have hfold : (q'.params.zip args').foldl (fun (tmps : Array Value) (x : Tmp × Value) => tmps.setIfInBounds x.1 x.2) q'.tmps = (q.params.zip args'.toList).foldl (fun (tmps : Array Value) (x : Tmp × Value) => tmps.setIfInBounds x.1 x.2) q'.tmps := by
   rw [← Array.foldl_toList, Array.toList_zip, hrel.params]
  have hf : FrRel φ { n := q.n, tmps := setAll q.tmps q.params args, defers := [] } { tmps := (q'.params.zip args').foldl (fun (tmps : Array Value) (x : Tmp × Value) => tmps.setIfInBounds x.1 x.2) q'.tmps, defers := [] } := by
   refine ⟨?_, fun i => ?_, .nil⟩
   ·simp only [hfold]; rw [hset.1, hrel.n]
   ·simp only [hfold]; exact hset.2 i
  refine roundIn_of_wpIn trivial ?_
  show q'.assign.wpIn (fenceAt (some b.block)) 0 P _ _ w
  rw [hrel.assign, hrel.body]
  split at e
  case h_2 => cases e
  rename_i fr1 σ1 h1
  refine wpIn_mono (runCode_sound hP hE q.assign hrel.ok.1 (ro := some l) (r := some b.block) h1 h hf ⟨b, hb, rfl⟩) fun e1 a1 w1 hq => ?_
  obtain ⟨φ1, hx, g1, g2, g3, g4⟩ := hq
  cases hx
  simp only [Option.bind_eq_some_iff] at e
  obtain ⟨r1, hr1, e⟩ := e
  have hb1 := g1 _ _ hb
  obtain ⟨hk1, b1, r1', hb1', hob1, hrel1, _⟩ := getLoop_sound g3 hr1
  rw [hb1] at hb1'; cases hb1'
  cases hst : r1.state with
  | busy => rw [hst] at e; cases e
  | done => rw [hst] at e; cases e
  | exhausted => rw [hst] at e; cases e
  | ready =>
   rw [hst] at e
   simp only at e
   obtain ⟨k1, k2⟩ := setObj_sound g3 (o := .loop { r1 with state := .busy }) (ob := .loop { r1' with state := .busy }) hk1 rfl hb1 rfl hob1
    ⟨_, rfl, rfl, hrel1.pending, hrel1.n, hrel1.tmps, hrel1.params, hrel1.assign, hrel1.body, hrel1.defers, hrel1.ok⟩
   refine ⟨_, run_beginRound hob1 (by rw [hrel1.state, hst]), ?_⟩
   have fin : ∀ {φ2 : Ren} {σ2 : AH} {w2 : World} {jump : Option Code}, runRound.endRound σ2 l jump = some (v, σ') → Ren.le φ1 φ2 → HRel P N φ2 σ2 w2 → Below N (w1.putObj b.block (.loop { r1' with state := .busy })) w2 →
     ∃ u w', (Instr.endRound b.block jump).run P w2 = .ok u w' ∧ RetOk P N φ w v σ' (.returned u) w' := by
    intro φ2 σ2 w2 jump e m1 m2 m3
    obtain ⟨w3, n1, n2, n3, n4⟩ := endRound_sound e m2 (m1 _ _ hb1)
    exact ⟨v, w3, n1, φ2, v, rfl, Ren.le_trans g1 m1, n2, n3, ((g4.trans k2).trans m3).trans n4⟩
   split at e
   ·rename_i fr2 σ2 h2
    refine wpIn_mono (runCode_sound hP hE q.body hrel.ok.2 (ro := some l) (r := some b.block) h2 k1 g2 ⟨b, hb1, rfl⟩) fun e2 a2 w2 hq => ?_
    obtain ⟨φ2, hx, m1, m2, m3, m4⟩ := hq
    cases hx
    exact fin e m1 m3 m4
   ·rename_i fr2 σ2 h2
    refine wpIn_mono (runCode_sound hP hE q.body hrel.ok.2 (ro := some l) (r := some b.block) h2 k1 g2 ⟨b, hb1, rfl⟩) fun e2 a2 w2 hq => ?_
    obtain ⟨φ2, hx, m1, m2, m3, m4⟩ := hq
    cases hx
    exact fin e m1 m3 m4
   ·rename_i id fr2 σ2 h2
    refine wpIn_mono (runCode_sound hP hE q.body hrel.ok.2 (ro := some l) (r := some b.block) h2 k1 g2 ⟨b, hb1, rfl⟩) fun e2 a2 w2 hq => ?_
    obtain ⟨φ2, hx, m1, m2, m3, m4⟩ := hq
    cases hx
    exact fin e m1 m3 m4
   ·rename_i t fr2 σ2 h2
    refine wpIn_mono (runCode_sound hP hE q.body hrel.ok.2 (ro := some l) (r := some b.block) h2 k1 g2 ⟨b, hb1, rfl⟩) fun e2 a2 w2 hq => ?_
    obtain ⟨φ2, hx, m1, m2, m3, m4⟩ := hq
    cases hx
    exact fin e m1 m3 m4
   ·cases e
theorem runLoop_sound (hP : ProgOk P) (hE : EvalOk P E) {ro r : Option Nat} {c : Code} {x : AExit} (e : runCode P E ro (.loop c) fr σ = some (x, fr', σ')) (hc : codeOk P c = true) (h : HRel P N φ σ w) (hf : FrRel φ fr a) (hr : RoundRel φ ro r)
  (Q : Exit → Act → World → Prop) (hQ : ∀ e a' w', CodeOk P N φ w x fr' σ' e a' w' → Q e a' w') : LoopsIn (fenceAt r) 0 P c Q a w := by
 simp only [runCode] at e
 refine loopsIn_round ?_
 split at e
 ·rename_i fr1 σ1 h1
  refine wpIn_mono (runCode_sound hP hE c hc h1 h hf hr) fun e1 a1 w1 hq => ?_
  obtain ⟨φ1, hx, g1, g2, g3, g4⟩ := hq
  cases hx
  exact hE.code e hc g3 g2 (hr.mono g1) _ fun e2 a2 w2 hq => hQ _ _ _ (hq.after g1 g4)
 ·rename_i hne
  refine wpIn_mono (runCode_sound hP hE c hc e h hf hr) fun e1 a1 w1 hq => ?_
  have hx := hq.choose_spec.1
  cases hx with
  | normal => exact absurd e (hne _ _)
  | exit id => exact hQ _ _ _ hq
  | goto l => exact hQ _ _ _ hq
  | ret => exact hQ _ _ _ hq
theorem evalN_ok (hP : ProgOk P) : ∀ n, EvalOk P (evalN P n)
 | 0 => ⟨(fun e => by cases e), (fun e => by cases e), (fun e => by cases e)⟩
 | n + 1 => ⟨fun e h ha => runCall_sound hP (evalN_ok hP n) e h ha, fun e hc h hf hr Q hQ => runLoop_sound hP (evalN_ok hP n) e hc h hf hr Q hQ, fun e h hb ha => runRound_sound hP (evalN_ok hP n) e h hb ha⟩
theorem evalN_calls (hP : ProgOk P) (n : Nat) {g : FuncId} {args : List Value} {args' : Array Value} {v : Value} (e : (evalN P n).call g args σ = some (v, σ')) (h : HRel P N φ σ w) (ha : VL φ args args'.toList) :
  Calls P g args' w (RetOk P N φ w v σ') := callsIn_wide.1 ((evalN_ok hP n).call e h ha)
end
def progCodes (P : Program) : Bool := P.funcs.toList.all fun fn => match fn.body with
 | some c => codeOk P c
 | none => true
def progNames (P : Program) : Bool := P.funcs.toList.all fun fn => !(fn.name == "runtime.NumGoroutine")
theorem progOk_of {P : Program} (h1 : progCodes P = true) (h2 : progNames P = true) (h3 : P.follows .mixedOrders = true) : ProgOk P := by
 refine ⟨fun g fn c hf hb => ?_, fun g fn hf => ?_, h3⟩
 ·have := List.all_eq_true.1 h1 fn (by simpa using Array.mem_of_getElem? hf)
  simpa [hb] using this
 ·have := List.all_eq_true.1 h2 fn (by simpa using Array.mem_of_getElem? hf)
  simpa using this
def roObjs : List (Nat × List Value × TypeId) → T AObj
 | [] => .leaf
 | (g, cs, t) :: l => (roObjs l).set g (some (.row { cells := cs, elem := t, loose := false, ro := true, clean := false, fz := 0, esz := 1 }))
def roMem (P : Program) (l : List (Nat × List Value × TypeId)) : AH := { next := P.globals.size, objs := roObjs l, stamp := 0 }
def globs (P : Program) : Ren := fun k => if k < P.globals.size then some ⟨k, 0, 0⟩ else none
theorem roMem_get {P : Program} : ∀ {l : List (Nat × List Value × TypeId)} {k : Nat} {o : AObj}, (roMem P l).get k = some o → ∃ cs t, (k, cs, t) ∈ l ∧ o = .row { cells := cs, elem := t, loose := false, ro := true, clean := false, fz := 0, esz := 1 }
 | [], k, o, h => by
  simp only [AH.get, roMem, roObjs] at h
  rw [T.get_leaf] at h; cases h
 | (g, cs, t) :: l, k, o, h => by
  simp only [AH.get, roMem, roObjs] at h
  rw [T.get_set] at h
  split at h
  ·rename_i e
   subst e
   simp only [Option.some.injEq] at h
   exact ⟨cs, t, by simp, h.symm⟩
  ·obtain ⟨cs', t', h1, h2⟩ := roMem_get (P := P) (l := l) (k := k) (o := o) h
   exact ⟨cs', t', by simp [h1], h2⟩
theorem hrel_start {P : Program} {w : World} (l : List (Nat × List Value × TypeId)) (hsz : P.globals.size ≤ w.heap.size)
  (hl : ∀ g cs t, (g, cs, t) ∈ l → g < P.globals.size ∧ cs.all flat = true ∧ ∃ c fz, w.heap[g]? = some (.cells c t fz) ∧ c.toList = cs) :
  HRel P w.heap.size (globs P) (roMem P l) w := by
 refine ⟨Nat.le_refl _, fun k b hk => ?_, fun g hg => by simp [globs, hg], fun k o hk => ?_, fun k o b hk hm _ => ?_⟩
 ·unfold globs at hk
  split at hk
  ·rename_i hlt; cases hk; exact ⟨hlt, by show k < _; omega⟩
  ·cases hk
 ·obtain ⟨cs, t, hin, rfl⟩ := roMem_get hk
  obtain ⟨h1, h2, c, fz, h3, h4⟩ := hl k cs t hin
  refine ⟨⟨k, 0, 0⟩, _, by simp [globs, h1], h3, c, fz, rfl, ?_⟩
  have hlen : cs.length = c.size := by rw [← h4]; simp
  refine ⟨by simp [hlen], fun i v v' hv hv2 => ?_, ?_, ?_, ?_⟩
  ·simp only [Nat.zero_add] at hv2
   have : cs[i]? = some v' := by rw [← h4]; simpa using hv2
   have hvv : v = v' := by rw [show cs[i]? = some v from hv] at this; exact Option.some.inj this
   subst hvv
   exact flat_rel _ (List.all_eq_true.1 h2 v (List.mem_of_getElem? hv))
  all_goals simp [hlen]
 ·obtain ⟨cs, t, _, rfl⟩ := roMem_get hk
  cases hm
end Go.Vev
set_option maxRecDepth 100000
namespace Go.Vev.Logs
open Go Go.Proofs
theorem codes : progCodes Tryz.prog = true := by kernel_rfl
theorem names : progNames Tryz.prog = true := by kernel_rfl
theorem wide : Tryz.prog.follows .mixedOrders = true := by kernel_rfl
theorem ok : ProgOk Tryz.prog := progOk_of codes names wide
end Go.Vev.Logs
set_option maxRecDepth 100000
namespace Go.Vev.Logs
open Go Go.Proofs Go.RowKit
def pow10s : List Value := [.int .u64 1, .int .u64 10, .int .u64 100, .int .u64 1000, .int .u64 10000, .int .u64 100000, .int .u64 1000000, .int .u64 10000000, .int .u64 100000000, .int .u64 1000000000, .int .u64 10000000000, .int .u64 100000000000, .int .u64 1000000000000, .int .u64 10000000000000, .int .u64 100000000000000, .int .u64 1000000000000000, .int .u64 10000000000000000, .int .u64 100000000000000000, .int .u64 1000000000000000000, .int .u64 10000000000000000000]
def isTrue : Option (Value × AH) → Bool
 | some (.bool true, _) => true
 | _ => false
theorem known_runs : ∀ t : TypeId, isTrue ((evalN Tryz.prog 1000).call 5 [] (roMem Tryz.prog [(5, pow10s, t)])) = true := by
 intro t
 kernel_rfl
theorem eight : Tryz.prog.globals.size = 8 := by kernel_rfl
def Laid (w : World) : Prop := 8 ≤ w.heap.size ∧ ∃ c t fz, w.heap[5]? = some (.cells c t fz) ∧ c.toList = pow10s
theorem known {w : World} (h : Laid w) : Calls Tryz.prog 5 #[] w (fun e w' => e = .returned (.bool true) ∧ Below w.heap.size w w') := by
 obtain ⟨h1, c, t, fz, h2, h3⟩ := h
 have hr := known_runs t
 cases he : (evalN Tryz.prog 1000).call 5 [] (roMem Tryz.prog [(5, pow10s, t)]) with
 | none => rw [he] at hr; cases hr
 | some p =>
  obtain ⟨v, σ'⟩ := p
  rw [he] at hr
  have hv : v = .bool true := by
   cases v <;> first | (simp only [isTrue, Bool.false_eq_true] at hr; done) | skip
   rename_i b
   cases b
   ·simp [isTrue] at hr
   ·rfl
  subst hv
  have hs := hrel_start (P := Tryz.prog) (w := w) [(5, pow10s, t)] (by rw [eight]; exact h1) (fun g cs t' hm => by
   simp only [List.mem_singleton, Prod.mk.injEq] at hm
   obtain ⟨rfl, rfl, rfl⟩ := hm
   exact ⟨by rw [eight]; omega, by kernel_rfl, c, fz, h2, h3⟩)
  refine (evalN_calls ok 1000 he hs (args' := #[]) .nil).mono fun e w' hq => ?_
  obtain ⟨φ', v', rfl, _, hv, _, hb⟩ := hq
  exact ⟨by rw [vrel_bool hv], hb⟩
end Go.Vev.Logs
