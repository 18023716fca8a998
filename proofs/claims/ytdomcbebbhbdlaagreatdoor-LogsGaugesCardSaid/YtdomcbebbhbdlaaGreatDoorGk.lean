/- Comparisons; the plain law's first parts. Conditions: none. -/
import Derived.Lib.IndexLaws
import Derived.Test.YtdomcbebbhbdlaaGreatDoorGf
import Derived.Test.YtdomcbebbhbdlaaGreatDoorGg
import Derived.Test.YtdomcbebbhbdlaaGreatDoorGi
import Derived.Test.YtdomcbebbhbdlaaGreatDoorGh
set_option linter.unusedSimpArgs false
set_option linter.unusedVariables false
namespace Go.Proofs.Lg
open Go.RowKit Go.Proofs.YtdomcbebbhbdlaaGreatDoorW.PrintWords Go.Proofs.YtdomcbebbhbdlaaGreatDoorW.PrintLast Go.Proofs.YtdomcbebbhbdlaaGreatDoorW.PrintMore Go.Proofs.YtdomcbebbhbdlaaGreatDoor.PLogsBills
theorem wrap_nat {i:Nat} (h:i < 9000000000000000000):wrap64 ((i:Int) + 1)=((i + 1:Nat):Int):=by unfold wrap64;omega
theorem ev_equal (l:List Int) (hl:l.length ≤ 1000000000000):Ev (fun k=>lw_equal.f k l l) true:=by
 have key:∀ d i,i + d=l.length → Ev (fun k=>lw_equal.l0 k l l (i:Int)) true:=by
  intro d
  induction d with
  | zero=>intro i hi;exact Ev.step (f:=fun _=>some true) (fun k=>by simp only [lw_equal.l0];rw [if_neg (by omega)]) (Ev.now true)
  | succ d ih =>
   intro i hi
   refine Ev.step (f:=fun k=>lw_equal.l0 k l l ((i + 1:Nat):Int)) (fun k=>?_) (ih (i + 1) (by omega))
   simp only [lw_equal.l0]
   rw [if_pos (by omega),if_pos (by omega),if_pos (by omega),if_pos trivial,wrap_nat (by omega)]
 refine Ev.congr (f:=fun k=>lw_equal.l0 k l l ((0:Nat):Int)) (fun k=>?_) (key l.length 0 (by omega))
 unfold lw_equal.f
 rw [if_pos rfl]
 rfl
def isDig (c:UInt8):Prop:=48 ≤ c.toNat ∧ c.toNat ≤ 57
instance (c:UInt8):Decidable (isDig c):=inferInstanceAs (Decidable (48 ≤ c.toNat ∧ c.toNat ≤ 57))
def valN (n:Nat) (l:List UInt8):Nat:=l.foldl (fun a c=>a * 10 + (c.toNat - 48)) n
theorem valN_cons (n:Nat) (c:UInt8) (l:List UInt8):valN n (c :: l)=valN (n * 10 + (c.toNat - 48)) l:=by unfold valN;rw [List.foldl_cons]
theorem valN_snoc (n:Nat) (l:List UInt8) (c:UInt8):valN n (l ++ [c])=valN n l * 10 + (c.toNat - 48):=by unfold valN;rw [List.foldl_append,List.foldl_cons,List.foldl_nil]
theorem valN_le:∀ (l:List UInt8) (n:Nat),n ≤ valN n l
 | [],n=>Nat.le_refl n
 | c :: r,n=>by rw [valN_cons];have:=valN_le r (n * 10 + (c.toNat - 48));omega
theorem dig_of (u:Nat) (h:u < 10):(UInt8.ofNat (48 + u)).toNat=48 + u:=by
 rw [UInt8.toNat_ofNat']
 omega
theorem dec_dig:∀ (u:Nat),∀ c ∈ Lib.decDigits u,isDig c:=by
 intro u
 induction u using Nat.strongRecOn with
 | _ u ih =>
  intro c hc
  rw [Lib.decDigits] at hc
  split at hc
  ·rename_i h
   rw [List.mem_singleton] at hc
   subst hc
   exact ⟨by rw [dig_of u h];omega,by rw [dig_of u h];omega⟩
  ·rename_i h
   rcases List.mem_append.1 hc with hc | hc
   ·exact ih (u / 10) (by omega) c hc
   ·rw [List.mem_singleton] at hc
    subst hc
    exact ⟨by rw [dig_of _ (by omega)];omega,by rw [dig_of _ (by omega)];omega⟩
theorem val_dec:∀ (u:Nat),valN 0 (Lib.decDigits u)=u:=by
 intro u
 induction u using Nat.strongRecOn with
 | _ u ih =>
  rw [Lib.decDigits]
  split
  ·rename_i h
   show 0 * 10 + ((UInt8.ofNat (48 + u)).toNat - 48)=u
   rw [dig_of u h];omega
  ·rename_i h
   rw [valN_snoc,ih (u / 10) (by omega),dig_of _ (by omega)]
   omega
theorem dec_ne (u:Nat):Lib.decDigits u ≠ []:=by
 rw [Lib.decDigits]
 split
 ·simp
 ·simp
theorem parse_ok:∀ (l:List UInt8) (n:Nat),(∀ c ∈ l,isDig c) → valN n l < 1000000000000000000 → Lib.parseUint10 n l=.ok (valN n l)
 | [],n,_,_=>rfl
 | c :: r,n,hd,hv=>by
  have hc:isDig c:=hd c (by simp)
  rw [valN_cons] at hv ⊢
  have h1:=valN_le r (n * 10 + (c.toNat - 48))
  rw [Lib.parseUint10,if_pos (show 48 ≤ c.toNat ∧ c.toNat ≤ 57 from hc),if_neg (by omega),if_neg (by omega)]
  exact parse_ok r _ (fun x hx=>hd x (by simp [hx])) hv
theorem atoi_dec (u:Nat) (h:u ≤ 1000000000):Lib.atoiAll (Lib.decDigits u)=.ok (u:Int):=by
 cases e:Lib.decDigits u with
 | nil=>exact absurd e (dec_ne u)
 | cons c r =>
  have hc:isDig c:=dec_dig u c (by rw [e];simp)
  have hv:=val_dec u
  have hp:=parse_ok (Lib.decDigits u) 0 (dec_dig u) (by rw [hv];omega)
  rw [e] at hv hp
  rw [hv] at hp
  have n45:¬ c.toNat=45:=by unfold isDig at hc;omega
  have n43:¬ (c.toNat=43 ∨ c.toNat=45):=by unfold isDig at hc;omega
  have hm:Lib.parseMag (c :: r)=.ok u:=by unfold Lib.parseMag;rw [if_neg (by simp)];exact hp
  unfold Lib.atoiAll
  simp only [if_neg n43,hm]
  rw [if_neg (by omega),if_neg (fun h=>n45 h.1),if_neg n45]
theorem dec_list (n:Int):(dec n).data.toList=Lib.decDigits n.toNat:=by unfold dec;simp
def digR:Nat → List UInt8 → Nat → Nat → Nat × Nat
 | 0,_,n,i=>(n,i)
 | _ + 1,[],n,i=>(n,i)
 | f + 1,c :: r,n,i=>if 48 ≤ c.toNat ∧ c.toNat ≤ 57 then digR f r (n * 10 + (c.toNat - 48)) (i + 1) else (n,i)
theorem digR_app:∀ (l rest:List UInt8) (f n i:Nat),(∀ c ∈ l,isDig c) → l.length ≤ f → digR f (l ++ rest) n i=digR (f - l.length) rest (valN n l) (i + l.length)
 | [],rest,f,n,i,_,_=>rfl
 | c :: r,rest,0,n,i,_,hl=>by simp at hl
 | c :: r,rest,f + 1,n,i,hd,hl=>by
  have hc:isDig c:=hd c (by simp)
  simp only [List.length_cons] at hl
  show digR (f + 1) (c :: (r ++ rest)) n i=_
  rw [digR,if_pos (show 48 ≤ c.toNat ∧ c.toNat ≤ 57 from hc),digR_app r rest f _ _ (fun x hx=>hd x (by simp [hx])) (by omega),valN_cons]
  simp only [List.length_cons]
  congr 1 <;> omega
theorem digR_stop (f n i:Nat) (l:List UInt8) (h:∀ c r,l=c :: r → ¬ isDig c):digR f l n i=(n,i):=by
 cases f with
 | zero=>cases l <;> rfl
 | succ f =>
  cases l with
  | nil=>rfl
  | cons c r=>rw [digR,if_neg (show ¬ (48 ≤ c.toNat ∧ c.toNat ≤ 57) from h c r rfl)]
theorem digR_dec (u:Nat) (hu:u ≤ 100000) (rest:List UInt8) (h:∀ c r,rest=c :: r → ¬ isDig c):digR 6 (Lib.decDigits u ++ rest) 0 0=(u,(Lib.decDigits u).length):=by
 rw [digR_app _ _ _ _ _ (dec_dig u) (decDigits_six u hu),digR_stop _ _ _ _ h,val_dec,Nat.zero_add]
theorem bt_nat {s:ByteArray} {i:Nat} (h:i < s.size):bt s (i:Int)=((s.data.toList[i]'(by simpa using h)).toNat:Int):=by
 unfold bt
 rw [dif_pos (by simpa using h)]
 simp
 rfl
theorem ev_digits (s:ByteArray):Ev (fun k=>rf_Digits.f k s) (((digR 6 s.data.toList 0 0).1:Int),((digR 6 s.data.toList 0 0).2:Int)):=by
 have key:∀ f i n:Nat,i + f=6 → i ≤ s.size → n < 10 ^ i → Ev (fun k=>rf_Digits.l0 k s (n:Int) (i:Int)) (((digR f (s.data.toList.drop i) n i).1:Int),((digR f (s.data.toList.drop i) n i).2:Int)):=by
  intro f
  induction f with
  | zero =>
   intro i n hi hs hn
   obtain rfl:i=6:=by omega
   refine Ev.step (f:=fun _=>some ((n:Int),((6:Nat):Int))) (fun k=>?_) (Ev.now _)
   simp only [rf_Digits.l0]
   by_cases h:((6:Nat):Int) < (s.size:Int)
   ·rw [if_pos h,if_neg (by omega)]
   ·rw [if_neg h]
  | succ f ih =>
   intro i n hi hs hn
   have hn6:n < 1000000:=Nat.lt_of_lt_of_le hn (Nat.pow_le_pow_right (by omega) (by omega:i ≤ 6))
   have hp:∀ d:Nat,d < 10 → n * 10 + d < 10 ^ (i + 1):=by
    intro d hd
    rw [Nat.pow_succ]
    generalize 10 ^ i=P at hn ⊢
    omega
   clear hn
   by_cases h:i < s.size
   ·have hd:s.data.toList.drop i=(s.data.toList[i]'(by simpa using h)) :: s.data.toList.drop (i + 1):=List.drop_eq_getElem_cons (by simpa using h)
    rw [hd,digR]
    have hb:=bt_nat h
    generalize s.data.toList[i]'(by simpa using h)=c at hb ⊢
    by_cases hc:48 ≤ c.toNat ∧ c.toNat ≤ 57
    ·rw [if_pos hc]
     refine Ev.step (f:=fun k=>rf_Digits.l0 k s ((n * 10 + (c.toNat - 48):Nat):Int) ((i + 1:Nat):Int)) (fun k=>?_) (ih (i + 1) _ (by omega) (by omega) (hp _ (by omega)))
     simp only [rf_Digits.l0]
     rw [if_pos (by omega),if_pos (by omega),if_pos (by omega),hb,if_pos (by omega),if_pos (by omega),wrap_nat (by omega)]
     have e:wrap64 (wrap64 (10 * (n:Int)) + ((c.toNat:Int) - 48) % 256)=((n * 10 + (c.toNat - 48):Nat):Int):=by unfold wrap64;omega
     rw [e]
    ·rw [if_neg hc]
     refine Ev.step (f:=fun _=>some ((n:Int),(i:Int))) (fun k=>?_) (Ev.now _)
     simp only [rf_Digits.l0]
     rw [if_pos (by omega),if_pos (by omega),if_pos (by omega),hb]
     by_cases h1:(c.toNat:Int) ≥ 48
     ·rw [if_pos h1,if_neg (by omega)]
     ·rw [if_neg h1]
   ·have e:s.data.toList.drop i=[]:=List.drop_eq_nil_of_le (by simp;omega)
    rw [e]
    refine Ev.step (f:=fun _=>some ((n:Int),(i:Int))) (fun k=>?_) (Ev.now _)
    simp only [rf_Digits.l0]
    rw [if_neg (by omega)]
 exact key 6 0 0 rfl (Nat.zero_le _) (by decide)
def mkB (l:List UInt8):ByteArray:=⟨l.toArray⟩
theorem mkB_list (l:List UInt8):(mkB l).data.toList=l:=by simp [mkB]
theorem list_mkB (s:ByteArray):mkB s.data.toList=s:=by apply ByteArray.ext;simp [mkB]
theorem mkB_inj {s:ByteArray} {l:List UInt8} (h:s.data.toList=l):s=mkB l:=by rw [← h,list_mkB]
theorem ba_inj {a b:ByteArray} (h:a.data.toList=b.data.toList):a=b:=by rw [mkB_inj h,list_mkB]
theorem len_list (s:ByteArray):s.data.toList.length=s.size:=Array.length_toList
theorem app_list (a b:ByteArray):(a ++ b).data.toList=a.data.toList ++ b.data.toList:=by simp
theorem extract_list (s:ByteArray) (a b:Nat) (hb:b ≤ s.size):(s.extract a b).data.toList=(s.data.toList.drop a).take (b - a):=by
 rw [ByteArray.data_extract,Array.toList_extract,List.extract_eq_take_drop]
theorem map_mkB (ws:List ByteArray):(ws.map (·.data.toList)).map mkB=ws:=by
 rw [List.map_map]
 have:(mkB ∘ fun x:ByteArray=>x.data.toList)=id:=by funext x;exact list_mkB x
 rw [this,List.map_id]
theorem words_mk (s:ByteArray):wordsOf s=(spl 32 s.data.toList).map mkB:=by rw [← wordsOf_spl,map_mkB]
theorem b32 {c:UInt8} (h:c ≠ 32):¬ ((c.toNat:Int)=32):=by
 intro e
 have h':c.toNat=(32:UInt8).toNat:=by
  have:(32:UInt8).toNat=32:=rfl
  omega
 exact h (UInt8.toNat.inj h')
theorem b10 {c:UInt8} (h:c ≠ 10):¬ ((c.toNat:Int)=10):=by
 intro e
 have h':c.toNat=(10:UInt8).toNat:=by
  have:(10:UInt8).toNat=10:=rfl
  omega
 exact h (UInt8.toNat.inj h')
theorem spl_len (c:UInt8):∀ l:List UInt8,(spl c l).length=l.count c + 1
 | []=>rfl
 | x :: r=>by
  rw [spl]
  by_cases h:x=c
  ·rw [if_pos h,List.length_cons,spl_len c r,h,List.count_cons_self]
  ·rw [if_neg h,List.count_cons_of_ne h]
   have hne:=spl_ne c r
   have ih:=spl_len c r
   generalize spl c r=ws at hne ih
   cases ws with
   | nil=>exact absurd rfl hne
   | cons w ws=>exact ih
theorem spl_app (c:UInt8):∀ a r:List UInt8,spl c (a ++ c :: r)=spl c a ++ spl c r
 | [],r=>by
  have e:spl c (c :: r)=[] :: spl c r:=by rw [spl,if_pos rfl]
  rw [List.nil_append,e];rfl
 | x :: a,r=>by
  rw [List.cons_append,spl,spl_app c a r]
  rw [spl]
  by_cases h:x=c
  ·rw [if_pos h,if_pos h];rfl
  ·rw [if_neg h,if_neg h]
   have hne:=spl_ne c a
   generalize spl c a=ws at hne
   cases ws with
   | nil=>exact absurd rfl hne
   | cons w ws=>rfl
theorem clean_take {c:UInt8} {l:List UInt8} {a n:Nat} (h:∀ j,a ≤ j → j < a + n → ∀ hj:j < l.length,l[j] ≠ c):c ∉ (l.drop a).take n:=by
 intro hm
 obtain ⟨i,hi,he⟩:=List.getElem_of_mem hm
 rw [List.length_take,List.length_drop] at hi
 rw [List.getElem_take,List.getElem_drop] at he
 exact h (a + i) (by omega) (by omega) (by omega) he
theorem drop_split {l:List UInt8} {a i:Nat} (ha:a ≤ i) (hi:i < l.length):l.drop a=(l.drop a).take (i - a) ++ l[i] :: l.drop (i + 1):=by
 have h1:l.drop a=(l.drop a).take (i - a) ++ (l.drop a).drop (i - a):=(List.take_append_drop _ _).symm
 have h2:(l.drop a).drop (i - a)=l[i] :: l.drop (i + 1):=by
  rw [List.drop_drop,show a + (i - a)=i by omega]
  exact List.drop_eq_getElem_cons hi
 rw [h2] at h1
 exact h1
theorem ev_words (s:ByteArray) (hs:s.size ≤ 1000000):Ev (fun k=>rf_Words.f k s) (wordsOf s):=by
 have key:∀ d i fr (acc:List ByteArray),i + d=s.size → fr ≤ i → (∀ j,fr ≤ j → j < i → ∀ hj:j < s.data.toList.length,s.data.toList[j] ≠ 32) → acc.length ≤ i →
   Ev (fun k=>rf_Words.l0 k s acc (fr:Int) (i:Int)) (acc ++ (spl 32 (s.data.toList.drop fr)).map mkB):=by
  intro d
  induction d with
  | zero =>
   intro i fr acc hi hf hcl hacc
   have hcl':(32:UInt8) ∉ s.data.toList.drop fr:=by
    have h:=clean_take (c:=32) (l:=s.data.toList) (a:=fr) (n:=i - fr) (fun j h1 h2 hj=>hcl j h1 (by omega) hj)
    rw [List.take_of_length_le (by rw [List.length_drop,len_list];omega)] at h
    exact h
   have he:s.extract ((fr:Int)).toNat ((i:Int)).toNat=mkB (s.data.toList.drop fr):=by
    apply mkB_inj
    rw [Int.toNat_natCast,Int.toNat_natCast,extract_list _ _ _ (by omega),List.take_of_length_le (by rw [List.length_drop,len_list];omega)]
   rw [spl_clean hcl']
   refine Ev.step (f:=fun k=>rf_Words.l0 k s (acc ++ [mkB (s.data.toList.drop fr)]) ((i + 1:Nat):Int) ((i + 1:Nat):Int)) (fun k=>?_) ?_
   ·simp only [rf_Words.l0]
    rw [if_pos (by omega),if_pos (by omega),if_pos (by omega),if_pos (by omega),if_pos (by omega),he,wrap_nat (by omega)]
   ·exact Ev.step (f:=fun _=>some _) (fun k=>by simp only [rf_Words.l0];rw [if_neg (by omega)];rfl) (Ev.now _)
  | succ d ih =>
   intro i fr acc hi hf hcl hacc
   have hlt:i < s.size:=by omega
   have hlt':i < s.data.toList.length:=by rw [len_list];exact hlt
   have hb:=bt_nat hlt
   by_cases hc:s.data.toList[i]=32
   ·have he:s.extract ((fr:Int)).toNat ((i:Int)).toNat=mkB ((s.data.toList.drop fr).take (i - fr)):=by
     apply mkB_inj
     rw [Int.toNat_natCast,Int.toNat_natCast,extract_list _ _ _ (by omega)]
    have hsp:spl 32 (s.data.toList.drop fr)=(s.data.toList.drop fr).take (i - fr) :: spl 32 (s.data.toList.drop (i + 1)):=by
     have h1:=drop_split (l:=s.data.toList) hf hlt'
     rw [hc] at h1
     conv=>lhs;rw [h1]
     exact spl_hit _ (clean_take (fun j h1 h2 hj=>hcl j h1 (by omega) hj))
    have next:=ih (i + 1) (i + 1) (acc ++ [mkB ((s.data.toList.drop fr).take (i - fr))]) (by omega) (Nat.le_refl _) (fun j h1 h2=>by omega) (by rw [List.length_append,List.length_singleton];omega)
    rw [hsp,List.map_cons]
    rw [List.append_assoc] at next
    refine Ev.step (fun k=>?_) next
    simp only [rf_Words.l0]
    rw [if_pos (by omega),if_neg (by omega),if_pos (by omega),if_pos (by omega),hb,hc,if_pos (by decide),if_pos (by omega),if_pos (by omega),if_pos (by omega),he,wrap_nat (by omega)]
   ·refine Ev.step (fun k=>?_) (ih (i + 1) fr acc (by omega) (by omega) (fun j h1 h2 hj=>by
     by_cases h:j=i
     ·subst h;exact hc
     ·exact hcl j h1 (by omega) hj) (by omega))
    simp only [rf_Words.l0]
    have hc':=b32 hc
    rw [if_pos (by omega),if_neg (by omega),if_pos (by omega),if_pos (by omega),hb,if_neg hc',wrap_nat (by omega)]
 have k0:=key s.size 0 0 [] (by omega) (Nat.le_refl _) (fun j h1 h2=>absurd h2 (by omega)) (Nat.zero_le _)
 rw [List.drop_zero,List.nil_append,← words_mk] at k0
 unfold rf_Words.f
 simpa using k0
def linesR (s:ByteArray):List ByteArray × Int :=
 if 120000 < s.size then ([],5) else if s.data.toList ≠ [] ∧ s.data.toList.getLast? ≠ some 10 then ([],120)
 else if 200 < s.data.toList.count 10 then ([],5) else (((spl 10 s.data.toList).dropLast).map mkB,0)
theorem ev_lines (s:ByteArray) (hs:s.size ≤ 1000000):Ev (fun k=>rf_Lines.f k s) (linesR s):=by
 have key:∀ d i fr (acc:List ByteArray),i + d=s.size → fr ≤ i → (∀ j,fr ≤ j → j < i → ∀ hj:j < s.data.toList.length,s.data.toList[j] ≠ 10) → acc.length ≤ i →
   Ev (fun k=>rf_Lines.l0 k s acc (fr:Int) (i:Int)) (if 200 < acc.length + (s.data.toList.drop fr).count 10 then ([],5) else (acc ++ ((spl 10 (s.data.toList.drop fr)).dropLast).map mkB,0)):=by
  intro d
  induction d with
  | zero =>
   intro i fr acc hi hf hcl hacc
   have hcl':(10:UInt8) ∉ s.data.toList.drop fr:=by
    have h:=clean_take (c:=10) (l:=s.data.toList) (a:=fr) (n:=i - fr) (fun j h1 h2 hj=>hcl j h1 (by omega) hj)
    rw [List.take_of_length_le (by rw [List.length_drop,len_list];omega)] at h
    exact h
   rw [spl_clean hcl',List.count_eq_zero.2 hcl',Nat.add_zero]
   refine Ev.step (f:=fun _=>some _) (fun k=>?_) (Ev.now _)
   simp only [rf_Lines.l0]
   rw [if_neg (by omega)]
   by_cases h:200 < acc.length
   ·rw [if_pos h,if_pos (by omega)]
   ·rw [if_neg h,if_neg (by omega)]
    simp
  | succ d ih =>
   intro i fr acc hi hf hcl hacc
   have hlt:i < s.size:=by omega
   have hlt':i < s.data.toList.length:=by rw [len_list];exact hlt
   have hb:=bt_nat hlt
   by_cases hc:s.data.toList[i]=10
   ·have he:s.extract ((fr:Int)).toNat ((i:Int)).toNat=mkB ((s.data.toList.drop fr).take (i - fr)):=by
     apply mkB_inj
     rw [Int.toNat_natCast,Int.toNat_natCast,extract_list _ _ _ (by omega)]
    have hclean:(10:UInt8) ∉ (s.data.toList.drop fr).take (i - fr):=clean_take (fun j h1 h2 hj=>hcl j h1 (by omega) hj)
    have h1:=drop_split (l:=s.data.toList) hf hlt'
    rw [hc] at h1
    have hsp:spl 10 (s.data.toList.drop fr)=(s.data.toList.drop fr).take (i - fr) :: spl 10 (s.data.toList.drop (i + 1)):=by
     conv=>lhs;rw [h1]
     exact spl_hit _ hclean
    have hcount:(s.data.toList.drop fr).count 10=1 + (s.data.toList.drop (i + 1)).count 10:=by
     conv=>lhs;rw [h1]
     rw [List.count_append,List.count_eq_zero.2 hclean,List.count_cons_self]
     omega
    have next:=ih (i + 1) (i + 1) (acc ++ [mkB ((s.data.toList.drop fr).take (i - fr))]) (by omega) (Nat.le_refl _) (fun j h1 h2=>by omega) (by rw [List.length_append,List.length_singleton];omega)
    have hdl:(spl 10 (s.data.toList.drop fr)).dropLast=(s.data.toList.drop fr).take (i - fr) :: (spl 10 (s.data.toList.drop (i + 1))).dropLast:=by
     rw [hsp]
     exact List.dropLast_cons_of_ne_nil (spl_ne _ _)
    rw [hdl,List.map_cons,hcount]
    rw [List.append_assoc,List.length_append,List.length_singleton] at next
    rw [← Nat.add_assoc]
    refine Ev.step (fun k=>?_) next
    simp only [rf_Lines.l0]
    rw [if_pos (by omega),if_pos (by omega),hb,hc,if_pos (by decide),if_pos (by omega),if_pos (by omega),if_pos (by omega),if_pos (by omega),he,wrap_nat (by omega)]
   ·refine Ev.step (fun k=>?_) (ih (i + 1) fr acc (by omega) (by omega) (fun j h1 h2 hj=>by
     by_cases h:j=i
     ·subst h;exact hc
     ·exact hcl j h1 (by omega) hj) (by omega))
    simp only [rf_Lines.l0]
    have hc':=b10 hc
    rw [if_pos (by omega),if_pos (by omega),hb,if_neg hc',wrap_nat (by omega)]
 have k0:=key s.size 0 0 [] (by omega) (Nat.le_refl _) (fun j h1 h2=>absurd h2 (by omega)) (Nat.zero_le _)
 rw [List.drop_zero,List.nil_append,List.length_nil,Nat.zero_add] at k0
 have hj:∀ b:Bool,Ev (fun k=>rf_Lines.j0 k s b) (if b then ([],120) else if 200 < s.data.toList.count 10 then ([],5) else (((spl 10 s.data.toList).dropLast).map mkB,0)):=by
  intro b
  cases b with
  | true=>exact Ev.step (f:=fun _=>some _) (fun k=>by simp only [rf_Lines.j0];rw [if_pos trivial];rfl) (Ev.now _)
  | false =>
   refine Ev.step (fun k=>?_) k0
   simp only [rf_Lines.j0]
   rw [if_neg (by simp)]
   rfl
 unfold linesR
 by_cases hbig:120000 < s.size
 ·rw [if_pos hbig]
  refine Ev.congr (f:=fun _=>some _) (fun k=>?_) (Ev.now _)
  unfold rf_Lines.f
  rw [if_pos (by omega)]
 ·rw [if_neg hbig]
  by_cases h0:s.data.toList=[]
  ·rw [if_neg (fun h=>h.1 h0)]
   refine Ev.congr (fun k=>?_) (hj false)
   unfold rf_Lines.f
   rw [if_neg (by omega),if_pos (by rw [ByteArray.toList_eq];exact h0)]
  ·have hpos:0 < s.size:=by rw [← len_list];exact List.length_pos_iff.2 h0
   have hw:wrap64 ((s.size:Int) - 1)=((s.size - 1:Nat):Int):=by unfold wrap64;omega
   have hlast:s.data.toList.getLast?=some (s.data.toList[s.size - 1]'(by rw [len_list];omega)):=by
    have e1:s.data.toList.getLast?=s.data.toList[s.size - 1]?:=by rw [List.getLast?_eq_getElem?,len_list]
    rw [e1]
    exact List.getElem?_eq_getElem _
   have hb:=bt_nat (s:=s) (i:=s.size - 1) (by omega)
   refine Ev.congr (fun k=>?_) (?_:Ev (fun k=>rf_Lines.j0 k s (bt s ((s.size - 1:Nat):Int) != 10)) _)
   ·unfold rf_Lines.f
    rw [if_neg (by omega),if_neg (by rw [ByteArray.toList_eq];exact h0),hw,if_pos (by omega),if_pos (by omega)]
   ·rw [hb,hlast]
    generalize s.data.toList[s.size - 1]'(by rw [len_list];omega)=c
    by_cases hc:c=10
    ·subst hc
     rw [if_neg (by simp)]
     exact hj false
    ·have hc':((c.toNat:Int) != 10)=true:=by
      rw [bne_iff_ne]
      exact b10 hc
     rw [if_pos ⟨h0,by intro h;exact hc (Option.some.inj h)⟩,hc']
     exact hj true
def checkR (x:ByteArray):Int:=if formed x then (if sealOf (x.extract 0 (x.size - 3) ++ ⟨#[32]⟩)=x ++ ⟨#[10]⟩ then 0 else 121) else 4
theorem dec_free (u:Nat) (c:UInt8) (h:¬ isDig c):c ∉ Lib.decDigits u:=fun hm=>h (dec_dig u c hm)
theorem nd32:¬ isDig 32:=by decide
theorem seal_shape (t:ByteArray):∃ u v:UInt8,u ≠ 32 ∧ v ≠ 32 ∧ (sealOf (t ++ ⟨#[32]⟩)).data.toList=t.data.toList ++ [32,u,v,10]:=by
 have hr:=weight_range (t ++ ⟨#[32]⟩)
 unfold sealOf
 generalize weight (t ++ ⟨#[32]⟩)=q at hr
 refine ⟨UInt8.ofNat (97 + q / 26).toNat,UInt8.ofNat (97 + q % 26).toNat,?_,?_,?_⟩
 ·intro h
  have h1:=congrArg UInt8.toNat h
  have h2:(32:UInt8).toNat=32:=rfl
  rw [UInt8.toNat_ofNat',h2] at h1
  omega
 ·intro h
  have h1:=congrArg UInt8.toNat h
  have h2:(32:UInt8).toNat=32:=rfl
  rw [UInt8.toNat_ofNat',h2] at h1
  omega
 ·simp [strOfNums]
theorem init_join {x:ByteArray} (h:(32:UInt8) ∈ x.data.toList):∃ q:List UInt8,(32:UInt8) ∉ q ∧ x.data.toList=(joined (initW x)).data.toList ++ 32 :: q ∧ wordsOf x=initW x ++ [mkB q]:=by
 have hj:=join_spl 32 x.data.toList
 have hlen:=spl_len 32 x.data.toList
 have hc:0 < x.data.toList.count 32:=List.count_pos_iff.2 h
 have hne:spl 32 x.data.toList ≠ []:=spl_ne 32 _
 have hcat:=List.dropLast_concat_getLast hne
 have hfree:=spl_free 32 x.data.toList ((spl 32 x.data.toList).getLast hne) (List.getLast_mem hne)
 have hdl:(spl 32 x.data.toList).dropLast ≠ []:=by
  intro e
  have:=congrArg List.length e
  rw [List.length_dropLast,hlen] at this
  simp only [List.length_nil] at this
  omega
 generalize hq:(spl 32 x.data.toList).getLast hne=q at hcat hfree
 have hinit:initW x=((spl 32 x.data.toList).dropLast).map mkB:=by
  unfold initW
  rw [← List.dropLast_eq_take,words_mk,List.map_dropLast]
 have hjo:(joined (initW x)).data.toList=Lib.join (spl 32 x.data.toList).dropLast [32]:=by
  rw [hinit]
  unfold joined
  have e:(((spl 32 x.data.toList).dropLast).map mkB).map (fun b:ByteArray=>b.data.toList)=(spl 32 x.data.toList).dropLast:=by
   rw [List.map_map]
   have:((fun b:ByteArray=>b.data.toList) ∘ mkB)=id:=by funext l;exact mkB_list l
   rw [this,List.map_id]
  rw [e]
 refine ⟨q,hfree,?_,?_⟩
 ·rw [hjo]
  rw [← hcat,join_snoc _ _ _ hdl] at hj
  exact hj.symm.trans (by simp)
 ·rw [hinit,words_mk,← hcat]
  simp
theorem formed_mem {x:ByteArray} (h:formed x=true):(32:UInt8) ∈ x.data.toList ∧ 3 ≤ x.size:=by
 unfold formed at h
 simp only [Bool.and_eq_true,decide_eq_true_eq] at h
 obtain ⟨_,h3,h2⟩:=h
 have hb:=bt_nat (s:=x) (i:=x.size - 3) (by omega)
 rw [hb] at h2
 refine ⟨?_,h3⟩
 have hm:=List.getElem_mem (l:=x.data.toList) (n:=x.size - 3) (by rw [len_list];omega)
 generalize x.data.toList[x.size - 3]'(by rw [len_list];omega)=c at h2 hm
 have:c=32:=by
  apply Classical.byContradiction
  intro hc
  exact b32 hc h2
 rw [← this]
 exact hm
theorem check_same {x:ByteArray} (h:formed x=true):(sealOf (joined (initW x) ++ ⟨#[32]⟩)=x ++ ⟨#[10]⟩) ↔ (sealOf (x.extract 0 (x.size - 3) ++ ⟨#[32]⟩)=x ++ ⟨#[10]⟩):=by
 obtain ⟨hm,h3⟩:=formed_mem h
 obtain ⟨q,hq,hx,_⟩:=init_join hm
 have hlen:=len_list x
 have hp':(x.extract 0 (x.size - 3)).data.toList=x.data.toList.take (x.size - 3):=by
  rw [extract_list _ _ _ (by omega),List.drop_zero,Nat.sub_zero]
 have two:q.length=2 → joined (initW x)=x.extract 0 (x.size - 3):=by
  intro h2
  apply ba_inj
  rw [hp']
  conv=>rhs;rw [hx]
  have hl:x.size - 3=(joined (initW x)).data.toList.length:=by
   rw [← hlen,hx,List.length_append,List.length_cons,h2]
   omega
  rw [hl,List.take_left]
 constructor
 ·intro e
  obtain ⟨u,v,hu,hv,hs⟩:=seal_shape (joined (initW x))
  have e':=congrArg (fun b:ByteArray=>b.data.toList) e
  try simp only at e'
  rw [hs,app_list,hx] at e'
  have hl:=congrArg List.length e'
  simp only [List.length_append,List.length_cons,List.length_nil] at hl
  rw [← two (by omega)]
  exact e
 ·intro e
  obtain ⟨u,v,hu,hv,hs⟩:=seal_shape (x.extract 0 (x.size - 3))
  have e':=congrArg (fun b:ByteArray=>b.data.toList) e
  try simp only at e'
  rw [hs,app_list] at e'
  have e2:x.data.toList=(x.extract 0 (x.size - 3)).data.toList ++ [32,u,v]:=by
   have:(x.extract 0 (x.size - 3)).data.toList ++ [32,u,v,10]=((x.extract 0 (x.size - 3)).data.toList ++ [32,u,v]) ++ [10]:=by simp
   rw [this] at e'
   exact (List.append_cancel_right e').symm
  have hsp:spl 32 x.data.toList=spl 32 (x.extract 0 (x.size - 3)).data.toList ++ [[u,v]]:=by
   rw [e2]
   show spl 32 ((x.extract 0 (x.size - 3)).data.toList ++ 32 :: [u,v])=_
   rw [spl_app,spl_clean (p:=[u,v]) (by simp;exact ⟨fun h=>hu h.symm,fun h=>hv h.symm⟩)]
  have hin:joined (initW x)=x.extract 0 (x.size - 3):=by
   apply ba_inj
   have hinit:initW x=(spl 32 (x.extract 0 (x.size - 3)).data.toList).map mkB:=by
    unfold initW
    rw [← List.dropLast_eq_take,words_mk,hsp,List.map_append,List.map_cons,List.map_nil,List.dropLast_concat]
   rw [hinit]
   unfold joined
   have e:((spl 32 (x.extract 0 (x.size - 3)).data.toList).map mkB).map (fun b:ByteArray=>b.data.toList)=spl 32 (x.extract 0 (x.size - 3)).data.toList:=by
    rw [List.map_map]
    have:((fun b:ByteArray=>b.data.toList) ∘ mkB)=id:=by funext l;exact mkB_list l
    rw [this,List.map_id]
   rw [e,join_spl]
  rw [hin]
  exact e
end Go.Proofs.Lg
namespace Go.Proofs.YtdomcbebbhbdlaaGreatDoor.PLogsGauges
open Go.RowKit Go.Proofs.YtdomcbebbhbdlaaGreatDoorW.PrintWords Go.Proofs.YtdomcbebbhbdlaaGreatDoorW.PrintLast Go.Proofs.YtdomcbebbhbdlaaGreatDoorW.PrintMore Go.Proofs.YtdomcbebbhbdlaaGreatDoor.PLogsBills
attribute [local go_sem] max2_int min2_int max_two min_two max_three min_three max_four min_four
def lw_sameGauges.l0:Nat → List (S37) → List (S37) → Int → Option (Bool)
 | 0,_,_,_=>none
 | k + 1,x0,x1,x5=>if x5 < (x0.length:Int) then (if 0 ≤ x5 then (if x5 < (x1.length:Int) then (if ((rd_T37 x0 x5).f0)=((rd_T37 x1 x5).f0) then (if ((rd_T37 x0 x5).f1)=((rd_T37 x1 x5).f1) then ((lw_equal.f k ((rd_T37 x0 x5).f2) ((rd_T37 x1 x5).f2)).bind fun t236=>(if t236=true then (lw_sameGauges.l0 k x0 x1 (wrap64 (x5 + 1))) else (some false))) else (some false)) else (some false)) else (none)) else (none)) else (some true)
def lw_sameGauges.f (k:Nat) (l0:List (S37)) (l1:List (S37)):Option (Bool):=if (l0.length:Int)=(l1.length:Int) then (lw_sameGauges.l0 k l0 l1 0) else (some false)
def lw_sameGauges.T6:Bool × List (List Nat × List Nat):=(true,[([],[]),([],[]),([0,1],[0,1]),([2],[2]),([3],[3]),([],[]),([],[]),([5,6],[5,6]),([7],[7]),([8],[8]),([4,9],[4,9]),([10],[10]),([11],[11]),([11],[11]),([12,13,11],[11,12,13]),([14,11],[11,14]),([15,11],[11,15]),([11],[11]),([11],[11]),([17,18,11],[11,17,18]),([19,11],[11,19]),([20,11],[11,20]),([16,21,11],[11,16,21]),([11,22],[11,22]),([23,11],[23]),([24],[24]),([24],[24]),([25,26,24],[24,25,26]),([27,24],[24,27]),([28,24],[24,28]),([24],[24]),([24],[24]),([30,31,24],[24,30,31]),([32,24],[24,32]),([33,24],[24,33]),([29,34,24,24],[24,29,34]),([35,24],[24,35]),([24,36],[24,36])])
def lw_sameGauges.B6:List Nat:=[0,0,3,7,15,0,0,96,224,480,1023,2047,4095,4095,16383,32767,65535,4095,4095,397311,921599,1970175,4194303,8388607,16777215,33554431,33554431,134217727,268435455,536870911,33554431,33554431,3254779903,7549747199,16139681791,34359738367,68719476735,137438953471]
theorem lw_sameGauges.tab6:rtab .any (opsOf Tryz.f17 6)=lw_sameGauges.T6:=by kernel_rfl
theorem lw_sameGauges.bits6:waitsOk lw_sameGauges.T6.2 lw_sameGauges.B6=true:=by kernel_rfl
set_option maxHeartbeats 8000000 in
set_option maxRecDepth 100000 in
theorem lw_sameGauges.calls (k:Nat) (A0:Option Addr) (c0:Nat) (l0:List (S37)) (A1:Option Addr) (c1:Nat) (l1:List (S37)) (r:Bool) (w:World) (hr0:Kd.C k37 w A0 l0.length l0) (hc0:l0.length ≤ c0) (hr1:Kd.C k37 w A1 l1.length l1) (hc1:l1.length ≤ c1) (h:lw_sameGauges.f k l0 l1=some r) (hrt:r=true) :
  Calls Tryz.prog 17 #[.slice A0 l0.length c0,.slice A1 l1.length c1] w fun e w'=>e=.returned (.bool r) ∧ Below w.heap.size w w':=by
 have HRT:=Aside0.mk hrt
 clear hrt
 have HR0:=Aside0.mk hr0
 have HC0:=Aside0.mk hc0
 clear hr0 hc0
 have HR1:=Aside0.mk hr1
 have HC1:=Aside0.mk hc1
 clear hr1 hc1
 have HB:=Aside0.mk (Below.refl w.heap.size w)
 have H:(if (l0.length:Int)=(l1.length:Int) then (lw_sameGauges.l0 k l0 l1 0) else (some false))=some r:=h
 clear h
 by_cases c3:(l0.length:Int)=(l1.length:Int)
 ·rw [if_pos c3] at H
  have c3b0:((l0.length:Int) == (l1.length:Int))=true:=beq_iff_eq.mpr c3
  have c3b1:((l0.length:Int) != (l1.length:Int))=false:=bne_eq_false_iff_eq.mpr c3
  have c3b2:(l0.length == l1.length)=true:=by first | simpa using c3 | (simp at c3 ⊢;omega)
  clear c3
  have H':=Aside0.mk H
  clear H
  go_enter Tryz.func17,Tryz.ntmps17
  go_wp2
  go_loopg [5] k (fun kq v5 w'=>∃ (x5_1:Int),v5=.int .i64 x5_1 ∧ Aside0 (lw_sameGauges.l0 kq l0 l1 x5_1=some r) ∧ Aside0 (kq ≤ k) ∧ Aside0 (Below w.heap.size w w'))
  case atStart=>exact ⟨(0),(by first | rfl | (simp;done) | (simp [*];done)),H',⟨Nat.le_refl _⟩,⟨by repeat (first | (with_reducible first | exact HB.out | apply below_alloc | apply pw_below_drewN | apply below_drew1) | exact HB.out)⟩⟩
  case round =>
   clear H'
   try clear c1
   try clear p2
   try clear c3
   try clear c3b0
   try clear c3b1
   try clear c3b2
   obtain ⟨x5_1,rfl,HA,HK1,HB⟩:=hrel
   cases gk with
   | zero=>exact absurd HA.out (by simp [lw_sameGauges.l0])
   | succ k1 =>
    have H:=HA.out
    clear HA
    simp only [lw_sameGauges.l0] at H
    by_cases c4:x5_1 < (l0.length:Int)
    ·rw [if_pos c4] at H
     have c4b0:decide (x5_1 < (l0.length:Int))=true:=decide_eq_true c4
     clear c4
     by_cases c5:0 ≤ x5_1
     ·rw [if_pos c5] at H
      have c5b0:decide (0 ≤ x5_1)=true:=decide_eq_true c5
      clear c5
      by_cases c6:x5_1 < (l1.length:Int)
      ·rw [if_pos c6] at H
       have c6b0:decide (x5_1 < (l1.length:Int))=true:=decide_eq_true c6
       clear c6
       by_cases c7:((rd_T37 l0 x5_1).f0)=((rd_T37 l1 x5_1).f0)
       ·rw [if_pos c7] at H
        have c7b0:(((rd_T37 l0 x5_1).f0) == ((rd_T37 l1 x5_1).f0))=true:=beq_iff_eq.mpr c7
        have c7b1:(((rd_T37 l0 x5_1).f0) != ((rd_T37 l1 x5_1).f0))=false:=bne_eq_false_iff_eq.mpr c7
        clear c7
        by_cases c8:((rd_T37 l0 x5_1).f1)=((rd_T37 l1 x5_1).f1)
        ·rw [if_pos c8] at H
         have c8b0:(((rd_T37 l0 x5_1).f1) == ((rd_T37 l1 x5_1).f1))=true:=beq_iff_eq.mpr c8
         have c8b1:(((rd_T37 l0 x5_1).f1) != ((rd_T37 l1 x5_1).f1))=false:=bne_eq_false_iff_eq.mpr c8
         clear c8
         replace H:=Option.bind_eq_some_iff.mp H
         obtain ⟨t236,A90,H⟩:=H
         replace H:(if t236=true then (lw_sameGauges.l0 k1 l0 l1 (wrap64 (x5_1 + 1))) else (some false))=some r:=H
         have A9:=Aside0.mk A90
         clear A90
         by_cases c10:t236=true
         ·subst c10
          have H1:(lw_sameGauges.l0 k1 l0 l1 (wrap64 (x5_1 + 1)))=some r:=by rw [if_pos rfl] at H;exact H
          clear H
          have H:=H1
          clear H1
          have H':=Aside0.mk H
          clear H
          try go_wp2
          have n0_:=Aside0.mk (below_drew1 HB.out)
          clear HB
          have HB:=n0_
          clear n0_
          have p230:0 ≤ (x5_1:Int):=of_decide_eq_true (by first | (with_reducible assumption) | assumption)
          have q230:x5_1 < (l0.length:Int):=of_decide_eq_true (by first | (with_reducible assumption) | assumption)
          obtain ⟨ad230,A230_2,c230_2,e230,hx230_0,hx230_1,hx230_2,hl230_2,hi230_2⟩:=at_T37 HR0.out x5_1 p230 q230
          have hw230_2:=hx230_2
          have hw230_1:=hx230_1
          have hw230_0:=hx230_0
          cases e230
          replace hx230_0:=(HB.out.cell (xbl w _ hx230_0)).trans hx230_0
          replace hx230_1:=(HB.out.cell (xbl w _ hx230_1)).trans hx230_1
          replace hx230_2:=(HB.out.cell (xbl w _ hx230_2)).trans hx230_2
          have HR230_2:=Aside0.mk hi230_2
          have HC230_2:=Aside0.mk hl230_2
          clear hi230_2 hl230_2
          replace p230:=eq_true p230
          replace q230:=eq_true q230
          have p231:0 ≤ (x5_1:Int):=of_decide_eq_true (by first | (with_reducible assumption) | assumption)
          have q231:x5_1 < (l1.length:Int):=of_decide_eq_true (by first | (with_reducible assumption) | assumption)
          obtain ⟨ad231,A231_2,c231_2,e231,hx231_0,hx231_1,hx231_2,hl231_2,hi231_2⟩:=at_T37 HR1.out x5_1 p231 q231
          have hw231_2:=hx231_2
          have hw231_1:=hx231_1
          have hw231_0:=hx231_0
          cases e231
          replace hx231_0:=(HB.out.cell (xbl w _ hx231_0)).trans hx231_0
          replace hx231_1:=(HB.out.cell (xbl w _ hx231_1)).trans hx231_1
          replace hx231_2:=(HB.out.cell (xbl w _ hx231_2)).trans hx231_2
          have HR231_2:=Aside0.mk hi231_2
          have HC231_2:=Aside0.mk hl231_2
          clear hi231_2 hl231_2
          replace p231:=eq_true p231
          replace q231:=eq_true q231
          have p232:0 ≤ (x5_1:Int):=of_decide_eq_true (by first | (with_reducible assumption) | assumption)
          have q232:x5_1 < (l0.length:Int):=of_decide_eq_true (by first | (with_reducible assumption) | assumption)
          obtain ⟨ad232,A232_2,c232_2,e232,hx232_0,hx232_1,hx232_2,hl232_2,hi232_2⟩:=at_T37 HR0.out x5_1 p232 q232
          have hw232_2:=hx232_2
          have hw232_1:=hx232_1
          have hw232_0:=hx232_0
          obtain rfl:ad230=ad232:=(by injection e232)
          replace hx232_0:=(HB.out.cell (xbl w _ hx232_0)).trans hx232_0
          replace hx232_1:=(HB.out.cell (xbl w _ hx232_1)).trans hx232_1
          replace hx232_2:=(HB.out.cell (xbl w _ hx232_2)).trans hx232_2
          have HR232_2:=Aside0.mk hi232_2
          have HC232_2:=Aside0.mk hl232_2
          clear hi232_2 hl232_2
          replace p232:=eq_true p232
          replace q232:=eq_true q232
          have ea_:=Option.some.inj (hx230_2.symm.trans hx232_2)
          injection ea_ with ea_ en_ ec_
          subst ea_
          subst ec_
          clear en_
          have p233:0 ≤ (x5_1:Int):=of_decide_eq_true (by first | (with_reducible assumption) | assumption)
          have q233:x5_1 < (l1.length:Int):=of_decide_eq_true (by first | (with_reducible assumption) | assumption)
          obtain ⟨ad233,A233_2,c233_2,e233,hx233_0,hx233_1,hx233_2,hl233_2,hi233_2⟩:=at_T37 HR1.out x5_1 p233 q233
          have hw233_2:=hx233_2
          have hw233_1:=hx233_1
          have hw233_0:=hx233_0
          obtain rfl:ad231=ad233:=(by injection e233)
          replace hx233_0:=(HB.out.cell (xbl w _ hx233_0)).trans hx233_0
          replace hx233_1:=(HB.out.cell (xbl w _ hx233_1)).trans hx233_1
          replace hx233_2:=(HB.out.cell (xbl w _ hx233_2)).trans hx233_2
          have HR233_2:=Aside0.mk hi233_2
          have HC233_2:=Aside0.mk hl233_2
          clear hi233_2 hl233_2
          replace p233:=eq_true p233
          replace q233:=eq_true q233
          have ea_:=Option.some.inj (hx231_2.symm.trans hx233_2)
          injection ea_ with ea_ en_ ec_
          subst ea_
          subst ec_
          clear en_
          have p234:0 ≤ (x5_1:Int):=of_decide_eq_true (by first | (with_reducible assumption) | assumption)
          have q234:x5_1 < (l0.length:Int):=of_decide_eq_true (by first | (with_reducible assumption) | assumption)
          obtain ⟨ad234,A234_2,c234_2,e234,hx234_0,hx234_1,hx234_2,hl234_2,hi234_2⟩:=at_T37 HR0.out x5_1 p234 q234
          have hw234_2:=hx234_2
          have hw234_1:=hx234_1
          have hw234_0:=hx234_0
          obtain rfl:ad230=ad234:=(by injection e234)
          replace hx234_0:=(HB.out.cell (xbl w _ hx234_0)).trans hx234_0
          replace hx234_1:=(HB.out.cell (xbl w _ hx234_1)).trans hx234_1
          replace hx234_2:=(HB.out.cell (xbl w _ hx234_2)).trans hx234_2
          have HR234_2:=Aside0.mk hi234_2
          have HC234_2:=Aside0.mk hl234_2
          clear hi234_2 hl234_2
          replace p234:=eq_true p234
          replace q234:=eq_true q234
          have ea_:=Option.some.inj (hx230_2.symm.trans hx234_2)
          injection ea_ with ea_ en_ ec_
          subst ea_
          subst ec_
          clear en_
          have p235:0 ≤ (x5_1:Int):=of_decide_eq_true (by first | (with_reducible assumption) | assumption)
          have q235:x5_1 < (l1.length:Int):=of_decide_eq_true (by first | (with_reducible assumption) | assumption)
          obtain ⟨ad235,A235_2,c235_2,e235,hx235_0,hx235_1,hx235_2,hl235_2,hi235_2⟩:=at_T37 HR1.out x5_1 p235 q235
          have hw235_2:=hx235_2
          have hw235_1:=hx235_1
          have hw235_0:=hx235_0
          obtain rfl:ad231=ad235:=(by injection e235)
          replace hx235_0:=(HB.out.cell (xbl w _ hx235_0)).trans hx235_0
          replace hx235_1:=(HB.out.cell (xbl w _ hx235_1)).trans hx235_1
          replace hx235_2:=(HB.out.cell (xbl w _ hx235_2)).trans hx235_2
          have HR235_2:=Aside0.mk hi235_2
          have HC235_2:=Aside0.mk hl235_2
          clear hi235_2 hl235_2
          replace p235:=eq_true p235
          replace q235:=eq_true q235
          have ea_:=Option.some.inj (hx231_2.symm.trans hx235_2)
          injection ea_ with ea_ en_ ec_
          subst ea_
          subst ec_
          clear en_
          refine start_ (n:=38) (S:=fun w'=>w'.cell? (ad230.add ((x5_1).toNat * 3))=some (.int .i64 ((rd_T37 l0 x5_1).f0)) ∧ w'.cell? ⟨(ad230.add ((x5_1).toNat * 3)).block,(ad230.add ((x5_1).toNat * 3)).off + 1,none⟩=some (.int .i64 ((rd_T37 l0 x5_1).f1)) ∧ w'.cell? ⟨(ad230.add ((x5_1).toNat * 3)).block,(ad230.add ((x5_1).toNat * 3)).off + 2,none⟩=some (.slice A230_2 ((rd_T37 l0 x5_1).f2).length c230_2) ∧ w'.cell? (ad231.add ((x5_1).toNat * 3))=some (.int .i64 ((rd_T37 l1 x5_1).f0)) ∧ w'.cell? ⟨(ad231.add ((x5_1).toNat * 3)).block,(ad231.add ((x5_1).toNat * 3)).off + 1,none⟩=some (.int .i64 ((rd_T37 l1 x5_1).f1)) ∧ w'.cell? ⟨(ad231.add ((x5_1).toNat * 3)).block,(ad231.add ((x5_1).toNat * 3)).off + 2,none⟩=some (.slice A231_2 ((rd_T37 l1 x5_1).f2).length c231_2) ∧ w'.cell? (ad230.add ((x5_1).toNat * 3))=some (.int .i64 ((rd_T37 l0 x5_1).f0)) ∧ w'.cell? ⟨(ad230.add ((x5_1).toNat * 3)).block,(ad230.add ((x5_1).toNat * 3)).off + 1,none⟩=some (.int .i64 ((rd_T37 l0 x5_1).f1)) ∧ w'.cell? ⟨(ad230.add ((x5_1).toNat * 3)).block,(ad230.add ((x5_1).toNat * 3)).off + 2,none⟩=some (.slice A230_2 ((rd_T37 l0 x5_1).f2).length c230_2) ∧ w'.cell? (ad231.add ((x5_1).toNat * 3))=some (.int .i64 ((rd_T37 l1 x5_1).f0)) ∧ w'.cell? ⟨(ad231.add ((x5_1).toNat * 3)).block,(ad231.add ((x5_1).toNat * 3)).off + 1,none⟩=some (.int .i64 ((rd_T37 l1 x5_1).f1)) ∧ w'.cell? ⟨(ad231.add ((x5_1).toNat * 3)).block,(ad231.add ((x5_1).toNat * 3)).off + 2,none⟩=some (.slice A231_2 ((rd_T37 l1 x5_1).f2).length c231_2) ∧ w'.cell? (ad230.add ((x5_1).toNat * 3))=some (.int .i64 ((rd_T37 l0 x5_1).f0)) ∧ w'.cell? ⟨(ad230.add ((x5_1).toNat * 3)).block,(ad230.add ((x5_1).toNat * 3)).off + 1,none⟩=some (.int .i64 ((rd_T37 l0 x5_1).f1)) ∧ w'.cell? ⟨(ad230.add ((x5_1).toNat * 3)).block,(ad230.add ((x5_1).toNat * 3)).off + 2,none⟩=some (.slice A230_2 ((rd_T37 l0 x5_1).f2).length c230_2) ∧ w'.cell? (ad231.add ((x5_1).toNat * 3))=some (.int .i64 ((rd_T37 l1 x5_1).f0)) ∧ w'.cell? ⟨(ad231.add ((x5_1).toNat * 3)).block,(ad231.add ((x5_1).toNat * 3)).off + 1,none⟩=some (.int .i64 ((rd_T37 l1 x5_1).f1)) ∧ w'.cell? ⟨(ad231.add ((x5_1).toNat * 3)).block,(ad231.add ((x5_1).toNat * 3)).off + 2,none⟩=some (.slice A231_2 ((rd_T37 l1 x5_1).f2).length c231_2)) (ds:=[]) #[false,false,false,false,false,false,false,false,false,false,false,false,false,false,false,false,false,false,false,false,false,false,false,false,false,false,false,false,false,false,false,false,false,false,false,false,false,false] (by kernel_rfl) rfl rfl ⟨((HB.out.cell (xbl w _ hw230_0)).trans hw230_0),((HB.out.cell (xbl w _ hw230_1)).trans hw230_1),((HB.out.cell (xbl w _ hw230_2)).trans hw230_2),((HB.out.cell (xbl w _ hw231_0)).trans hw231_0),((HB.out.cell (xbl w _ hw231_1)).trans hw231_1),((HB.out.cell (xbl w _ hw231_2)).trans hw231_2),((HB.out.cell (xbl w _ hw232_0)).trans hw232_0),((HB.out.cell (xbl w _ hw232_1)).trans hw232_1),((HB.out.cell (xbl w _ hw232_2)).trans hw232_2),((HB.out.cell (xbl w _ hw233_0)).trans hw233_0),((HB.out.cell (xbl w _ hw233_1)).trans hw233_1),((HB.out.cell (xbl w _ hw233_2)).trans hw233_2),((HB.out.cell (xbl w _ hw234_0)).trans hw234_0),((HB.out.cell (xbl w _ hw234_1)).trans hw234_1),((HB.out.cell (xbl w _ hw234_2)).trans hw234_2),((HB.out.cell (xbl w _ hw235_0)).trans hw235_0),((HB.out.cell (xbl w _ hw235_1)).trans hw235_1),((HB.out.cell (xbl w _ hw235_2)).trans hw235_2)⟩ (fun hHeld=>?_);refine with_tabW lw_sameGauges.tab6 lw_sameGauges.bits6 (fun HT_ HW_=>?_)
          generalize wr.drew=w11 at HB HR230_2 HR231_2 HR232_2 HR233_2 HR234_2 HR235_2 hx230_0 hx230_1 hx230_2 hx231_0 hx231_1 hx231_2 hx232_0 hx232_1 hx232_2 hx233_0 hx233_1 hx233_2 hx234_0 hx234_1 hx234_2 hx235_0 hx235_1 hx235_2 hHeld ⊢
          refine pure_ (i:=0) (N:=some 17) (v:=?_) (a':=?_) #[true,false,false,false,false,false,false,false,false,false,false,false,false,false,false,false,false,false,false,false,false,false,false,false,false,false,false,false,false,false,false,false,false,false,false,false,false,false] rfl rfl (any_of HT_.out (by kernel_rfl)) (fun _ _ _ h=>h) (Or.inl ⟨by rfl,?_⟩) ?_ ?_
          rotate_left
          ·intro w'
           go_simp
           with_reducible rfl
          rotate_left
          ·simp only [Act.put,xsA,xsZ,xsS,i64_w,i32_w]
           rfl
          refine pure_ (i:=1) (N:=some 18) (v:=?_) (a':=?_) #[true,true,false,false,false,false,false,false,false,false,false,false,false,false,false,false,false,false,false,false,false,false,false,false,false,false,false,false,false,false,false,false,false,false,false,false,false,false] rfl rfl (any_of HT_.out (by kernel_rfl)) (fun _ _ _ h=>h) (Or.inl ⟨by rfl,?_⟩) ?_ ?_
          rotate_left
          ·intro w'
           go_simp
           with_reducible rfl
          rotate_left
          ·simp only [Act.put,xsA,xsZ,xsS,i64_w,i32_w]
           rfl
          refine pure_ (i:=2) (N:=some 19) (v:=?_) (a':=?_) #[true,true,true,false,false,false,false,false,false,false,false,false,false,false,false,false,false,false,false,false,false,false,false,false,false,false,false,false,false,false,false,false,false,false,false,false,false,false] rfl rfl (any_of HT_.out (by kernel_rfl)) (fun _ _ _ h=>h) (Or.inl ⟨by rfl,?_⟩) ?_ ?_
          rotate_left
          ·intro w'
           go_simp
           with_reducible rfl
          rotate_left
          ·simp only [Act.put,xsA,xsZ,xsS,i64_w,i32_w]
           rfl
          refine pure_ (i:=3) (N:=some 20) (v:=?_) (a':=?_) #[true,true,true,true,false,false,false,false,false,false,false,false,false,false,false,false,false,false,false,false,false,false,false,false,false,false,false,false,false,false,false,false,false,false,false,false,false,false] rfl rfl (any_of HT_.out (by kernel_rfl)) (fun _ _ _ h=>h) (Or.inl ⟨by rfl,?_⟩) ?_ ?_
          rotate_left
          ·intro w'
           go_simp
           with_reducible rfl
          rotate_left
          ·simp only [Act.put,xsA,xsZ,xsS,i64_w,i32_w]
           rfl
          refine pure_ (i:=5) (N:=some 22) (v:=?_) (a':=?_) #[true,true,true,true,false,true,false,false,false,false,false,false,false,false,false,false,false,false,false,false,false,false,false,false,false,false,false,false,false,false,false,false,false,false,false,false,false,false] rfl rfl (any_of HT_.out (by kernel_rfl)) (fun _ _ _ h=>h) (Or.inl ⟨by rfl,?_⟩) ?_ ?_
          rotate_left
          ·intro w'
           go_simp
           with_reducible rfl
          rotate_left
          ·simp only [Act.put,xsA,xsZ,xsS,i64_w,i32_w]
           rfl
          refine pure_ (i:=6) (N:=some 23) (v:=?_) (a':=?_) #[true,true,true,true,false,true,true,false,false,false,false,false,false,false,false,false,false,false,false,false,false,false,false,false,false,false,false,false,false,false,false,false,false,false,false,false,false,false] rfl rfl (any_of HT_.out (by kernel_rfl)) (fun _ _ _ h=>h) (Or.inl ⟨by rfl,?_⟩) ?_ ?_
          rotate_left
          ·intro w'
           go_simp
           with_reducible rfl
          rotate_left
          ·simp only [Act.put,xsA,xsZ,xsS,i64_w,i32_w]
           rfl
          refine pure_ (i:=7) (N:=some 24) (v:=?_) (a':=?_) #[true,true,true,true,false,true,true,true,false,false,false,false,false,false,false,false,false,false,false,false,false,false,false,false,false,false,false,false,false,false,false,false,false,false,false,false,false,false] rfl rfl (any_of HT_.out (by kernel_rfl)) (fun _ _ _ h=>h) (Or.inl ⟨by rfl,?_⟩) ?_ ?_
          rotate_left
          ·intro w'
           go_simp
           with_reducible rfl
          rotate_left
          ·simp only [Act.put,xsA,xsZ,xsS,i64_w,i32_w]
           rfl
          refine pure_ (i:=8) (N:=some 25) (v:=?_) (a':=?_) #[true,true,true,true,false,true,true,true,true,false,false,false,false,false,false,false,false,false,false,false,false,false,false,false,false,false,false,false,false,false,false,false,false,false,false,false,false,false] rfl rfl (any_of HT_.out (by kernel_rfl)) (fun _ _ _ h=>h) (Or.inl ⟨by rfl,?_⟩) ?_ ?_
          rotate_left
          ·intro w'
           go_simp
           with_reducible rfl
          rotate_left
          ·simp only [Act.put,xsA,xsZ,xsS,i64_w,i32_w]
           rfl
          refine take_ (i:=4) (N:=some 21) (v:=?_) (a':=?_) #[true,true,true,true,true,true,true,true,true,false,false,false,false,false,false,false,false,false,false,false,false,false,false,false,false,false,false,false,false,false,false,false,false,false,false,false,false,false] rfl rfl (take_ofW HT_.out HW_.out (by kernel_rfl)) (fun _ _ _ h=>h) (Or.inl ⟨by rfl,?_⟩) hHeld ?_ ?_
          rotate_left
          ·rintro w' ⟨s0,s1,s2,s3,s4,s5,s6,s7,s8,s9,s10,s11,s12,s13,s14,s15,s16,s17⟩
           go_simp
           with_reducible rfl
          rotate_left
          ·simp only [Act.put,xsA,xsZ,xsS,i64_w,i32_w]
           rfl
          refine take_ (i:=9) (N:=some 26) (v:=?_) (a':=?_) #[true,true,true,true,true,true,true,true,true,true,false,false,false,false,false,false,false,false,false,false,false,false,false,false,false,false,false,false,false,false,false,false,false,false,false,false,false,false] rfl rfl (take_ofW HT_.out HW_.out (by kernel_rfl)) (fun _ _ _ h=>h) (Or.inl ⟨by rfl,?_⟩) hHeld ?_ ?_
          rotate_left
          ·rintro w' ⟨s0,s1,s2,s3,s4,s5,s6,s7,s8,s9,s10,s11,s12,s13,s14,s15,s16,s17⟩
           go_simp
           with_reducible rfl
          rotate_left
          ·simp only [Act.put,xsA,xsZ,xsS,i64_w,i32_w]
           rfl
          refine pure_ (i:=10) (N:=some 27) (v:=?_) (a':=?_) #[true,true,true,true,true,true,true,true,true,true,true,false,false,false,false,false,false,false,false,false,false,false,false,false,false,false,false,false,false,false,false,false,false,false,false,false,false,false] rfl rfl (any_of HT_.out (by kernel_rfl)) (fun _ _ _ h=>h) (Or.inl ⟨by rfl,?_⟩) ?_ ?_
          rotate_left
          ·intro w'
           go_simp
           with_reducible rfl
          rotate_left
          ·simp only [Act.put,xsA,xsZ,xsS,i64_w,i32_w]
           rfl
          refine pure_ (i:=11) (N:=some 28) (v:=?_) (a':=?_) #[true,true,true,true,true,true,true,true,true,true,true,true,false,false,false,false,false,false,false,false,false,false,false,false,false,false,false,false,false,false,false,false,false,false,false,false,false,false] rfl rfl (any_of HT_.out (by kernel_rfl)) (fun _ _ _ h=>h) (Or.inl ⟨by rfl,?_⟩) ?_ ?_
          rotate_left
          ·intro w'
           go_simp
           with_reducible rfl
          rotate_left
          ·simp only [Act.put,xsA,xsZ,xsS,i64_w,i32_w]
           rfl
          refine pure_ (i:=12) (N:=some 29) (v:=?_) (a':=?_) #[true,true,true,true,true,true,true,true,true,true,true,true,true,false,false,false,false,false,false,false,false,false,false,false,false,false,false,false,false,false,false,false,false,false,false,false,false,false] rfl rfl (any_of HT_.out (by kernel_rfl)) (fun _ _ _ h=>h) (Or.inl ⟨by rfl,?_⟩) ?_ ?_
          rotate_left
          ·intro w'
           go_simp
           with_reducible rfl
          rotate_left
          ·simp only [Act.put,xsA,xsZ,xsS,i64_w,i32_w]
           rfl
          refine pure_ (i:=13) (N:=some 30) (v:=?_) (a':=?_) #[true,true,true,true,true,true,true,true,true,true,true,true,true,true,false,false,false,false,false,false,false,false,false,false,false,false,false,false,false,false,false,false,false,false,false,false,false,false] rfl rfl (any_of HT_.out (by kernel_rfl)) (fun _ _ _ h=>h) (Or.inl ⟨by rfl,?_⟩) ?_ ?_
          rotate_left
          ·intro w'
           go_simp
           with_reducible rfl
          rotate_left
          ·simp only [Act.put,xsA,xsZ,xsS,i64_w,i32_w]
           rfl
          refine pure_ (i:=14) (N:=some 31) (v:=?_) (a':=?_) #[true,true,true,true,true,true,true,true,true,true,true,true,true,true,true,false,false,false,false,false,false,false,false,false,false,false,false,false,false,false,false,false,false,false,false,false,false,false] rfl rfl (any_of HT_.out (by kernel_rfl)) (fun _ _ _ h=>h) (Or.inl ⟨by rfl,?_⟩) ?_ ?_
          rotate_left
          ·intro w'
           go_simp
           with_reducible rfl
          rotate_left
          ·simp only [Act.put,xsA,xsZ,xsS,i64_w,i32_w]
           rfl
          refine pure_ (i:=15) (N:=some 32) (v:=?_) (a':=?_) #[true,true,true,true,true,true,true,true,true,true,true,true,true,true,true,true,false,false,false,false,false,false,false,false,false,false,false,false,false,false,false,false,false,false,false,false,false,false] rfl rfl (any_of HT_.out (by kernel_rfl)) (fun _ _ _ h=>h) (Or.inl ⟨by rfl,?_⟩) ?_ ?_
          rotate_left
          ·intro w'
           go_simp
           with_reducible rfl
          rotate_left
          ·simp only [Act.put,xsA,xsZ,xsS,i64_w,i32_w]
           rfl
          refine pure_ (i:=17) (N:=some 34) (v:=?_) (a':=?_) #[true,true,true,true,true,true,true,true,true,true,true,true,true,true,true,true,false,true,false,false,false,false,false,false,false,false,false,false,false,false,false,false,false,false,false,false,false,false] rfl rfl (any_of HT_.out (by kernel_rfl)) (fun _ _ _ h=>h) (Or.inl ⟨by rfl,?_⟩) ?_ ?_
          rotate_left
          ·intro w'
           go_simp
           with_reducible rfl
          rotate_left
          ·simp only [Act.put,xsA,xsZ,xsS,i64_w,i32_w]
           rfl
          refine pure_ (i:=18) (N:=some 35) (v:=?_) (a':=?_) #[true,true,true,true,true,true,true,true,true,true,true,true,true,true,true,true,false,true,true,false,false,false,false,false,false,false,false,false,false,false,false,false,false,false,false,false,false,false] rfl rfl (any_of HT_.out (by kernel_rfl)) (fun _ _ _ h=>h) (Or.inl ⟨by rfl,?_⟩) ?_ ?_
          rotate_left
          ·intro w'
           go_simp
           with_reducible rfl
          rotate_left
          ·simp only [Act.put,xsA,xsZ,xsS,i64_w,i32_w]
           rfl
          refine pure_ (i:=19) (N:=some 36) (v:=?_) (a':=?_) #[true,true,true,true,true,true,true,true,true,true,true,true,true,true,true,true,false,true,true,true,false,false,false,false,false,false,false,false,false,false,false,false,false,false,false,false,false,false] rfl rfl (any_of HT_.out (by kernel_rfl)) (fun _ _ _ h=>h) (Or.inl ⟨by rfl,?_⟩) ?_ ?_
          rotate_left
          ·intro w'
           go_simp
           with_reducible rfl
          rotate_left
          ·simp only [Act.put,xsA,xsZ,xsS,i64_w,i32_w]
           rfl
          refine pure_ (i:=20) (N:=some 37) (v:=?_) (a':=?_) #[true,true,true,true,true,true,true,true,true,true,true,true,true,true,true,true,false,true,true,true,true,false,false,false,false,false,false,false,false,false,false,false,false,false,false,false,false,false] rfl rfl (any_of HT_.out (by kernel_rfl)) (fun _ _ _ h=>h) (Or.inl ⟨by rfl,?_⟩) ?_ ?_
          rotate_left
          ·intro w'
           go_simp
           with_reducible rfl
          rotate_left
          ·simp only [Act.put,xsA,xsZ,xsS,i64_w,i32_w]
           rfl
          refine take_ (i:=16) (N:=some 33) (v:=?_) (a':=?_) #[true,true,true,true,true,true,true,true,true,true,true,true,true,true,true,true,true,true,true,true,true,false,false,false,false,false,false,false,false,false,false,false,false,false,false,false,false,false] rfl rfl (take_ofW HT_.out HW_.out (by kernel_rfl)) (fun _ _ _ h=>h) (Or.inl ⟨by rfl,?_⟩) hHeld ?_ ?_
          rotate_left
          ·rintro w' ⟨s0,s1,s2,s3,s4,s5,s6,s7,s8,s9,s10,s11,s12,s13,s14,s15,s16,s17⟩
           go_simp
           with_reducible rfl
          rotate_left
          ·simp only [Act.put,xsA,xsZ,xsS,i64_w,i32_w]
           rfl
          refine take_ (i:=21) (N:=some 38) (v:=?_) (a':=?_) #[true,true,true,true,true,true,true,true,true,true,true,true,true,true,true,true,true,true,true,true,true,true,false,false,false,false,false,false,false,false,false,false,false,false,false,false,false,false] rfl rfl (take_ofW HT_.out HW_.out (by kernel_rfl)) (fun _ _ _ h=>h) (Or.inl ⟨by rfl,?_⟩) hHeld ?_ ?_
          rotate_left
          ·rintro w' ⟨s0,s1,s2,s3,s4,s5,s6,s7,s8,s9,s10,s11,s12,s13,s14,s15,s16,s17⟩
           go_simp
           with_reducible rfl
          rotate_left
          ·simp only [Act.put,xsA,xsZ,xsS,i64_w,i32_w]
           rfl
          refine pure_ (i:=22) (N:=some 39) (v:=?_) (a':=?_) #[true,true,true,true,true,true,true,true,true,true,true,true,true,true,true,true,true,true,true,true,true,true,true,false,false,false,false,false,false,false,false,false,false,false,false,false,false,false] rfl rfl (any_of HT_.out (by kernel_rfl)) (fun _ _ _ h=>h) (Or.inl ⟨by rfl,?_⟩) ?_ ?_
          rotate_left
          ·intro w'
           go_simp
           with_reducible rfl
          rotate_left
          ·simp only [Act.put,xsA,xsZ,xsS,i64_w,i32_w]
           rfl
          refine pure_ (i:=23) (N:=some 40) (v:=?_) (a':=?_) #[true,true,true,true,true,true,true,true,true,true,true,true,true,true,true,true,true,true,true,true,true,true,true,true,false,false,false,false,false,false,false,false,false,false,false,false,false,false] rfl rfl (any_of HT_.out (by kernel_rfl)) (fun _ _ _ h=>h) (Or.inl ⟨by rfl,?_⟩) ?_ ?_
          rotate_left
          ·intro w'
           go_simp
           with_reducible rfl
          rotate_left
          ·simp only [Act.put,xsA,xsZ,xsS,i64_w,i32_w]
           rfl
          refine pure_ (i:=24) (N:=some 41) (v:=?_) (a':=?_) #[true,true,true,true,true,true,true,true,true,true,true,true,true,true,true,true,true,true,true,true,true,true,true,true,true,false,false,false,false,false,false,false,false,false,false,false,false,false] rfl rfl (any_of HT_.out (by kernel_rfl)) (fun _ _ _ h=>h) (Or.inl ⟨by rfl,?_⟩) ?_ ?_
          rotate_left
          ·intro w'
           go_simp
           with_reducible rfl
          rotate_left
          ·simp only [Act.put,xsA,xsZ,xsS,i64_w,i32_w]
           rfl
          refine pure_ (i:=25) (N:=some 42) (v:=?_) (a':=?_) #[true,true,true,true,true,true,true,true,true,true,true,true,true,true,true,true,true,true,true,true,true,true,true,true,true,true,false,false,false,false,false,false,false,false,false,false,false,false] rfl rfl (any_of HT_.out (by kernel_rfl)) (fun _ _ _ h=>h) (Or.inl ⟨by rfl,?_⟩) ?_ ?_
          rotate_left
          ·intro w'
           go_simp
           with_reducible rfl
          rotate_left
          ·simp only [Act.put,xsA,xsZ,xsS,i64_w,i32_w]
           rfl
          refine pure_ (i:=26) (N:=some 43) (v:=?_) (a':=?_) #[true,true,true,true,true,true,true,true,true,true,true,true,true,true,true,true,true,true,true,true,true,true,true,true,true,true,true,false,false,false,false,false,false,false,false,false,false,false] rfl rfl (any_of HT_.out (by kernel_rfl)) (fun _ _ _ h=>h) (Or.inl ⟨by rfl,?_⟩) ?_ ?_
          rotate_left
          ·intro w'
           go_simp
           with_reducible rfl
          rotate_left
          ·simp only [Act.put,xsA,xsZ,xsS,i64_w,i32_w]
           rfl
          refine pure_ (i:=27) (N:=some 44) (v:=?_) (a':=?_) #[true,true,true,true,true,true,true,true,true,true,true,true,true,true,true,true,true,true,true,true,true,true,true,true,true,true,true,true,false,false,false,false,false,false,false,false,false,false] rfl rfl (any_of HT_.out (by kernel_rfl)) (fun _ _ _ h=>h) (Or.inl ⟨by rfl,?_⟩) ?_ ?_
          rotate_left
          ·intro w'
           go_simp
           with_reducible rfl
          rotate_left
          ·simp only [Act.put,xsA,xsZ,xsS,i64_w,i32_w]
           rfl
          refine pure_ (i:=28) (N:=some 45) (v:=?_) (a':=?_) #[true,true,true,true,true,true,true,true,true,true,true,true,true,true,true,true,true,true,true,true,true,true,true,true,true,true,true,true,true,false,false,false,false,false,false,false,false,false] rfl rfl (any_of HT_.out (by kernel_rfl)) (fun _ _ _ h=>h) (Or.inl ⟨by rfl,?_⟩) ?_ ?_
          rotate_left
          ·intro w'
           go_simp
           with_reducible rfl
          rotate_left
          ·simp only [Act.put,xsA,xsZ,xsS,i64_w,i32_w]
           rfl
          refine pure_ (i:=30) (N:=some 47) (v:=?_) (a':=?_) #[true,true,true,true,true,true,true,true,true,true,true,true,true,true,true,true,true,true,true,true,true,true,true,true,true,true,true,true,true,false,true,false,false,false,false,false,false,false] rfl rfl (any_of HT_.out (by kernel_rfl)) (fun _ _ _ h=>h) (Or.inl ⟨by rfl,?_⟩) ?_ ?_
          rotate_left
          ·intro w'
           go_simp
           with_reducible rfl
          rotate_left
          ·simp only [Act.put,xsA,xsZ,xsS,i64_w,i32_w]
           rfl
          refine pure_ (i:=31) (N:=some 48) (v:=?_) (a':=?_) #[true,true,true,true,true,true,true,true,true,true,true,true,true,true,true,true,true,true,true,true,true,true,true,true,true,true,true,true,true,false,true,true,false,false,false,false,false,false] rfl rfl (any_of HT_.out (by kernel_rfl)) (fun _ _ _ h=>h) (Or.inl ⟨by rfl,?_⟩) ?_ ?_
          rotate_left
          ·intro w'
           go_simp
           with_reducible rfl
          rotate_left
          ·simp only [Act.put,xsA,xsZ,xsS,i64_w,i32_w]
           rfl
          refine pure_ (i:=32) (N:=some 49) (v:=?_) (a':=?_) #[true,true,true,true,true,true,true,true,true,true,true,true,true,true,true,true,true,true,true,true,true,true,true,true,true,true,true,true,true,false,true,true,true,false,false,false,false,false] rfl rfl (any_of HT_.out (by kernel_rfl)) (fun _ _ _ h=>h) (Or.inl ⟨by rfl,?_⟩) ?_ ?_
          rotate_left
          ·intro w'
           go_simp
           with_reducible rfl
          rotate_left
          ·simp only [Act.put,xsA,xsZ,xsS,i64_w,i32_w]
           rfl
          refine pure_ (i:=33) (N:=some 50) (v:=?_) (a':=?_) #[true,true,true,true,true,true,true,true,true,true,true,true,true,true,true,true,true,true,true,true,true,true,true,true,true,true,true,true,true,false,true,true,true,true,false,false,false,false] rfl rfl (any_of HT_.out (by kernel_rfl)) (fun _ _ _ h=>h) (Or.inl ⟨by rfl,?_⟩) ?_ ?_
          rotate_left
          ·intro w'
           go_simp
           with_reducible rfl
          rotate_left
          ·simp only [Act.put,xsA,xsZ,xsS,i64_w,i32_w]
           rfl
          refine take_ (i:=29) (N:=some 46) (v:=?_) (a':=?_) #[true,true,true,true,true,true,true,true,true,true,true,true,true,true,true,true,true,true,true,true,true,true,true,true,true,true,true,true,true,true,true,true,true,true,false,false,false,false] rfl rfl (take_ofW HT_.out HW_.out (by kernel_rfl)) (fun _ _ _ h=>h) (Or.inl ⟨by rfl,?_⟩) hHeld ?_ ?_
          rotate_left
          ·rintro w' ⟨s0,s1,s2,s3,s4,s5,s6,s7,s8,s9,s10,s11,s12,s13,s14,s15,s16,s17⟩
           go_simp
           with_reducible rfl
          rotate_left
          ·simp only [Act.put,xsA,xsZ,xsS,i64_w,i32_w]
           rfl
          refine take_ (i:=34) (N:=some 51) (v:=?_) (a':=?_) #[true,true,true,true,true,true,true,true,true,true,true,true,true,true,true,true,true,true,true,true,true,true,true,true,true,true,true,true,true,true,true,true,true,true,true,false,false,false] rfl rfl (take_ofW HT_.out HW_.out (by kernel_rfl)) (fun _ _ _ h=>h) (Or.inl ⟨by rfl,?_⟩) hHeld ?_ ?_
          rotate_left
          ·rintro w' ⟨s0,s1,s2,s3,s4,s5,s6,s7,s8,s9,s10,s11,s12,s13,s14,s15,s16,s17⟩
           go_simp
           with_reducible rfl
          rotate_left
          ·simp only [Act.put,xsA,xsZ,xsS,i64_w,i32_w]
           rfl
          refine one_ (i:=35) (N:=some 52) #[true,true,true,true,true,true,true,true,true,true,true,true,true,true,true,true,true,true,true,true,true,true,true,true,true,true,true,true,true,true,true,true,true,true,true,true,false,false] rfl rfl (one_of HT_.out (by kernel_rfl)) (by decide) (fun K hK=>?_)
          refine goes_ Tryz.func32 (by kernel_rfl) rfl #[.slice A230_2 ((rd_T37 l0 x5_1).f2).length c230_2,.slice A231_2 ((rd_T37 l1 x5_1).f2).length c231_2] (by rfl) rfl rfl (by (try simp only [List.map_toArray,List.map_cons,List.map_nil]);first | done | rfl | (simp only [List.length_drop,List.length_take];rfl)) ?_
          with_reducible refine (lw_equal.calls k1 _ _ ((rd_T37 l0 x5_1).f2) _ _ ((rd_T37 l1 x5_1).f2) true _ ?side1 ?side2 ?side3 ?side4 A9.out).mono ?_
          (case side1=>repeat (first | exact (Kd.C_below HR234_2.out HB.out) | (with_reducible refine Kd.C_alloc ?_ _) | (with_reducible refine Kd.C_drewN ?_ _) | (with_reducible refine Kd.C_drew ?_)))
          (case side2=>exact HC234_2.out)
          (case side3=>repeat (first | exact (Kd.C_below HR235_2.out HB.out) | (with_reducible refine Kd.C_alloc ?_ _) | (with_reducible refine Kd.C_drewN ?_ _) | (with_reducible refine Kd.C_drew ?_)))
          (case side4=>exact HC235_2.out)
          rintro e w' ⟨rfl,⟨nd,rfl⟩⟩
          refine ⟨_,rfl,?_⟩
          refine hK.out _ _ ⟨((HB.out.cell (xbl w _ hw230_0)).trans hw230_0),((HB.out.cell (xbl w _ hw230_1)).trans hw230_1),((HB.out.cell (xbl w _ hw230_2)).trans hw230_2),((HB.out.cell (xbl w _ hw231_0)).trans hw231_0),((HB.out.cell (xbl w _ hw231_1)).trans hw231_1),((HB.out.cell (xbl w _ hw231_2)).trans hw231_2),((HB.out.cell (xbl w _ hw232_0)).trans hw232_0),((HB.out.cell (xbl w _ hw232_1)).trans hw232_1),((HB.out.cell (xbl w _ hw232_2)).trans hw232_2),((HB.out.cell (xbl w _ hw233_0)).trans hw233_0),((HB.out.cell (xbl w _ hw233_1)).trans hw233_1),((HB.out.cell (xbl w _ hw233_2)).trans hw233_2),((HB.out.cell (xbl w _ hw234_0)).trans hw234_0),((HB.out.cell (xbl w _ hw234_1)).trans hw234_1),((HB.out.cell (xbl w _ hw234_2)).trans hw234_2),((HB.out.cell (xbl w _ hw235_0)).trans hw235_0),((HB.out.cell (xbl w _ hw235_1)).trans hw235_1),((HB.out.cell (xbl w _ hw235_2)).trans hw235_2)⟩ (fun hHeld=>?_)
          clear hK K
          refine norm_ (a':=?_) ?_ ?_
          rotate_left
          ·show Act.put _ (some 52) _=_
           simp only [Act.put,xsA,xsZ,xsS,i64_w,i32_w]
           rfl
          refine pure_ (i:=36) (N:=some 53) (v:=?_) (a':=?_) #[true,true,true,true,true,true,true,true,true,true,true,true,true,true,true,true,true,true,true,true,true,true,true,true,true,true,true,true,true,true,true,true,true,true,true,true,true,false] rfl rfl (any_of HT_.out (by kernel_rfl)) (fun _ _ _ h=>h) (Or.inl ⟨by rfl,?_⟩) ?_ ?_
          rotate_left
          ·intro w'
           go_simp
           with_reducible rfl
          rotate_left
          ·simp only [Act.put,xsA,xsZ,xsS,i64_w,i32_w]
           rfl
          refine pure_ (i:=37) (N:=some 54) (v:=?_) (a':=?_) #[true,true,true,true,true,true,true,true,true,true,true,true,true,true,true,true,true,true,true,true,true,true,true,true,true,true,true,true,true,true,true,true,true,true,true,true,true,true] rfl rfl (any_of HT_.out (by kernel_rfl)) (fun _ _ _ h=>h) (Or.inl ⟨by rfl,?_⟩) ?_ ?_
          rotate_left
          ·intro w'
           go_simp
           with_reducible rfl
          rotate_left
          ·simp only [Act.put,xsA,xsZ,xsS,i64_w,i32_w]
           rfl
          refine done_ (done_of HT_.out (by kernel_rfl)) ?_
          try go_wp2
          go_roundg k1
          case measure=>have:=HK1.out;omega
          case rel=>exact ⟨(wrap64 (x5_1 + 1)),(by first | rfl | (simp;done) | (simp [*];done)),H',⟨by have:=HK1.out;omega⟩,⟨by repeat (first | (with_reducible first | exact HB.out | apply below_alloc | apply pw_below_drewN | apply below_drew1) | exact HB.out)⟩⟩
         ·replace c10:=Bool.eq_false_iff.mpr c10
          subst c10
          have H1:(some false)=some r:=by rw [if_neg (show ¬ (false=true) by decide)] at H;exact H
          clear H
          have H:=H1
          clear H1
          obtain rfl:=Option.some.inj H
          exact absurd HRT.out (by decide)
        ·rw [if_neg c8] at H
         have c8b0:(((rd_T37 l0 x5_1).f1) == ((rd_T37 l1 x5_1).f1))=false:=beq_eq_false_iff_ne.mpr c8
         have c8b1:(((rd_T37 l0 x5_1).f1) != ((rd_T37 l1 x5_1).f1))=true:=bne_iff_ne.mpr c8
         obtain rfl:=Option.some.inj H
         exact absurd HRT.out (by decide)
       ·rw [if_neg c7] at H
        have c7b0:(((rd_T37 l0 x5_1).f0) == ((rd_T37 l1 x5_1).f0))=false:=beq_eq_false_iff_ne.mpr c7
        have c7b1:(((rd_T37 l0 x5_1).f0) != ((rd_T37 l1 x5_1).f0))=true:=bne_iff_ne.mpr c7
        obtain rfl:=Option.some.inj H
        exact absurd HRT.out (by decide)
      ·rw [if_neg c6] at H
       exact absurd H (by simp)
     ·rw [if_neg c5] at H
      exact absurd H (by simp)
    ·rw [if_neg c4] at H
     have c4b0:decide (x5_1 < (l0.length:Int))=false:=decide_eq_false c4
     clear c4
     obtain rfl:=Option.some.inj H
     go_wp2
     go_ret
     exact ⟨by first | rfl | (simp [errW_none,errW_some] <;> rfl) | (simp [*,errW_none,errW_some] <;> rfl),by repeat (first | (with_reducible first | exact HB.out | apply below_alloc | apply pw_below_drewN | apply below_drew1) | exact HB.out)⟩
 ·rw [if_neg c3] at H
  have c3b0:((l0.length:Int) == (l1.length:Int))=false:=beq_eq_false_iff_ne.mpr c3
  have c3b1:((l0.length:Int) != (l1.length:Int))=true:=bne_iff_ne.mpr c3
  have c3b2:(l0.length == l1.length)=false:=by first | simpa using c3 | (simp at c3 ⊢;omega)
  obtain rfl:=Option.some.inj H
  exact absurd HRT.out (by decide)
end Go.Proofs.YtdomcbebbhbdlaaGreatDoor.PLogsGauges
namespace Go.Proofs.Lg
open Go.RowKit Go.Proofs.YtdomcbebbhbdlaaGreatDoorW.PrintWords Go.Proofs.YtdomcbebbhbdlaaGreatDoorW.PrintLast Go.Proofs.YtdomcbebbhbdlaaGreatDoorW.PrintMore Go.Proofs.YtdomcbebbhbdlaaGreatDoor.PLogsGauges Go.Proofs.YtdomcbebbhbdlaaGreatDoor
theorem rdG_nat (l:List S37) {i:Nat} (h:i < l.length):rd_T37 l (i:Int)=l[i]:=by simp [rd_T37,h]
theorem ev_sameG (l:List S37) (hl:l.length ≤ 1000000000000) (hs:∀ x ∈ l,x.f2.length ≤ 1000000000000):Ev (fun k=>lw_sameGauges.f k l l) true:=by
 have key:∀ d i,i + d=l.length → Ev (fun k=>lw_sameGauges.l0 k l l (i:Int)) true:=by
  intro d
  induction d with
  | zero=>intro i hi;exact Ev.step (f:=fun _=>some true) (fun k=>by simp only [lw_sameGauges.l0];rw [if_neg (by omega)]) (Ev.now true)
  | succ d ih =>
   intro i hi
   have hlt:i < l.length:=by omega
   have hx:(rd_T37 l (i:Int)).f2.length ≤ 1000000000000:=by rw [rdG_nat l hlt];exact hs _ (List.getElem_mem hlt)
   refine Ev.step (f:=fun k=>(PLogsBills.lw_equal.f k ((rd_T37 l (i:Int)).f2) ((rd_T37 l (i:Int)).f2)).bind fun t=>if t=true then lw_sameGauges.l0 k l l ((i + 1:Nat):Int) else some false) (fun k=>?_) (Ev.bind (ev_equal _ hx) (Ev.congr (f:=fun k=>lw_sameGauges.l0 k l l ((i + 1:Nat):Int)) (fun k=>if_pos rfl) (ih (i + 1) (by omega))))
   simp only [lw_sameGauges.l0]
   rw [if_pos (by omega),if_pos (by omega),if_pos (by omega),if_pos trivial,if_pos trivial,wrap_nat (by omega)]
 refine Ev.congr (f:=fun k=>lw_sameGauges.l0 k l l ((0:Nat):Int)) (fun k=>?_) (key l.length 0 (by omega))
 unfold lw_sameGauges.f
 rw [if_pos rfl]
 rfl
theorem ev_gauges (l:List S37) (hl:l.length ≤ 1000000) (hs:∀ x ∈ l,x.f2.length ≤ 1000000):Ev (fun k=>lw_gauges.f k l) l:=by
 have key:∀ d i,i + d=l.length → Ev (fun k=>lw_gauges.l0 k l (l.take i) (i:Int)) l:=by
  intro d
  induction d with
  | zero =>
   intro i hi
   have e:l.take i=l:=List.take_of_length_le (by omega)
   exact Ev.step (f:=fun _=>some l) (fun k=>by simp only [lw_gauges.l0];rw [if_neg (by omega),e]) (Ev.now l)
  | succ d ih =>
   intro i hi
   have hlt:i < l.length:=by omega
   refine Ev.step (f:=fun k=>lw_gauges.l0 k l (l.take (i + 1)) ((i + 1:Nat):Int)) (fun k=>?_) (ih (i + 1) (by omega))
   have e:l.take (i + 1)=l.take i ++ [l[i]]:=by rw [List.take_succ_eq_append_getElem hlt]
   have hx:l[i].f2.length ≤ 1000000:=hs _ (List.getElem_mem hlt)
   have hc:PLogsBills.lw_ints.f l[i].f2=some l[i].f2:=by
    unfold PLogsBills.lw_ints.f
    simp only [Option.bind_some,List.length_nil,List.nil_append]
    rw [if_pos (by omega)]
   simp only [lw_gauges.l0]
   rw [if_pos (by omega),if_pos (by omega),rdG_nat l hlt,hc]
   simp only [Option.bind_some]
   rw [if_pos (by rw [List.length_take];omega),wrap_nat (by omega),e]
 have k0:Ev (fun k=>lw_gauges.l0 k l [] 0) l:=by simpa using key l.length 0 (by omega)
 unfold lw_gauges.f
 exact k0
theorem in_fG (n lo hi:Int):PLogsBills.rf_In.f n lo hi=some (inside lo hi [n]):=by
 rw [in_f]
 congr 1
 by_cases h:lo ≤ n ∧ n ≤ hi
 ·rw [decide_eq_true h]
  exact (inside_of fun m hm=>by rw [List.mem_singleton] at hm;subst hm;exact h).symm
 ·rw [decide_eq_false h]
  cases e:inside lo hi [n] with
  | false=>rfl
  | true=>exact absurd (inside_all e n (List.mem_singleton.2 rfl)) h
theorem inside_append (lo hi:Int) (a b:List Int):inside lo hi (a ++ b)=(inside lo hi a && inside lo hi b):=by unfold inside;exact List.all_append
theorem ev_levels (l:List Int) (hl:l.length ≤ 1000000) (f0 f1:Int):Ev (fun k=>rf_Gauge.l0 k 0 f0 f1 l) (inside 0 10000 l):=by
 have key:∀ d i,i + d=l.length → Ev (fun k=>rf_Gauge.l0 k (i:Int) f0 f1 l) (inside 0 10000 (l.drop i)):=by
  intro d
  induction d with
  | zero =>
   intro i hi
   rw [List.drop_eq_nil_of_le (by omega)]
   exact Ev.step (f:=fun _=>some true) (fun k=>by simp only [rf_Gauge.l0];rw [if_neg (by omega)]) (Ev.now true)
  | succ d ih =>
   intro i hi
   have hlt:i < l.length:=by omega
   have hd:l.drop i=l[i] :: l.drop (i + 1):=List.drop_eq_getElem_cons hlt
   have hs:inside 0 10000 (l[i] :: l.drop (i + 1))=(inside 0 10000 [l[i]] && inside 0 10000 (l.drop (i + 1))):=inside_append 0 10000 [l[i]] (l.drop (i + 1))
   rw [hd,hs]
   have hrd:=rd_nat l hlt
   refine Ev.step (f:=fun k=>if inside 0 10000 [l[i]]=true then rf_Gauge.l0 k ((i + 1:Nat):Int) f0 f1 l else some false) (fun k=>?_) ?_
   ·simp only [rf_Gauge.l0]
    rw [if_pos (by omega),if_pos (by omega),hrd,in_fG,Option.bind_some,wrap_nat (by omega)]
   ·cases inside 0 10000 [l[i]] with
    | true=>exact Ev.congr (fun k=>if_pos rfl) (by rw [Bool.true_and];exact ih (i + 1) (by omega))
    | false=>exact Ev.now false
 exact key l.length 0 (by omega)
theorem ev_gaugeR (x:S37) (hl:x.f2.length ≤ 1000000):Ev (fun k=>rf_Gauge.f k x.f0 x.f1 x.f2) (isG x):=by
 have hj:∀ b:Bool,Ev (fun k=>rf_Gauge.j0 k (!b) x.f0 x.f1 x.f2) (b && inside 0 10000 x.f2):=by
  intro b
  cases b with
  | false=>exact Ev.step (f:=fun _=>some false) (fun k=>by simp only [rf_Gauge.j0];rfl) (Ev.now false)
  | true =>
   refine Ev.step (f:=fun k=>rf_Gauge.l0 k 0 x.f0 x.f1 x.f2) (fun k=>?_) (by rw [Bool.true_and];exact ev_levels x.f2 hl x.f0 x.f1)
   simp only [rf_Gauge.j0]
   rfl
 unfold rf_Gauge.f isG
 simp only [in_fG,Option.bind_some]
 cases inside 0 99 [x.f0] with
 | false=>exact hj false
 | true =>
  cases inside 0 100000 [x.f1] with
  | false=>exact hj false
  | true=>exact hj _
theorem after_R (y x:S37):rf_GaugeAfter.f y.f0 y.f1 y.f2 x.f0 x.f1 x.f2=some (afterB y x):=by
 unfold rf_GaugeAfter.f afterB
 by_cases h1:x.f0 > y.f0
 ·rw [if_pos h1];simp [h1]
 ·rw [if_neg h1]
  by_cases h2:x.f0=y.f0
  ·rw [if_pos h2];simp [h2]
  ·rw [if_neg h2];simp [h1,h2]
theorem numG_f {n:Int} (h0:-100000 ≤ n) (h1:n ≤ 100000):rf_Number.f n=some (sdec n):=if_pos (by omega)
theorem lineG_f (s:ByteArray) (h:s.size ≤ 3000):rf_Line.f s=some (sealOf (s ++ ⟨#[32]⟩)):=if_pos h
def spaced:List ByteArray → List UInt8
 | []=>[]
 | w :: r=>32 :: (w.data.toList ++ spaced r)
theorem join_spaced:∀ (w:ByteArray) (r:List ByteArray),Lib.join ((w :: r).map (·.data.toList)) [32]=w.data.toList ++ spaced r
 | w,[]=>by simp only [List.map_cons,List.map_nil,join_one,spaced,List.append_nil]
 | w,v :: r=>by
  have h:=join_spaced v r
  rw [List.map_cons] at h ⊢
  rw [List.map_cons,join_cons,h]
  simp [spaced]
theorem gt_loop (l:List Int) (hl:l.length ≤ 24) (hn:∀ n ∈ l,0 ≤ n ∧ n ≤ 10000) (f0 f1:Int):∀ (r pre:List Int) (a:Int) (acc:List UInt8),l=pre ++ a :: r → acc.length ≤ 40 + 9 * pre.length →
  Ev (fun k=>rf_GaugeText.l0 k ⟨acc.toArray⟩ ((pre.length + 1:Nat):Int) f0 f1 l) (sealOf (⟨(acc ++ spaced (diffs a r)).toArray⟩ ++ ⟨#[32]⟩))
 | [],pre,a,acc,h,hacc=>by
  have hlen:l.length=pre.length + 1:=by rw [h];simp
  refine Ev.step (f:=fun _=>some _) (fun k=>?_) (Ev.now _)
  simp only [rf_GaugeText.l0]
  have hsz:(⟨acc.toArray⟩:ByteArray).size=acc.length:=ba_len acc
  rw [if_neg (by omega),lineG_f _ (by omega)]
  simp only [diffs,spaced,List.append_nil,Option.bind_some]
 | b :: r,pre,a,acc,h,hacc=>by
  have hlen:l.length=pre.length + r.length + 2:=by rw [h];simp;omega
  have ha:=hn a (by rw [h];simp)
  have hb:=hn b (by rw [h];simp)
  have hs:=sdec_size (n:=b - a) (by omega) (by omega)
  have hsg:(sgn (b - a)).data.toList.length ≤ 8:=by
   have:(sgn (b - a)).size ≤ 8:=by
    unfold sgn
    split
    ·omega
    ·rw [ByteArray.size_append]
     have:(⟨#[43]⟩:ByteArray).size=1:=rfl
     omega
   exact this
  have next:=gt_loop l hl hn f0 f1 r (pre ++ [a]) b (acc ++ 32 :: (sgn (b - a)).data.toList) (by rw [h];simp) (by rw [List.length_append,List.length_append,List.length_cons,List.length_singleton];omega)
  have e1:rd l ((pre.length + 1:Nat):Int)=b:=by
   have:=rd_at (l:=l) (pre:=pre ++ [a]) (a:=b) (r:=r) (by rw [h];simp)
   rwa [List.length_append,List.length_singleton] at this
  have e2:rd l (pre.length:Int)=a:=rd_at h
  have e3:wrap64 (b - a)=b - a:=by unfold wrap64;omega
  have e4:wrap64 (((pre.length + 1:Nat):Int) + 1)=(((pre ++ [a]).length + 1:Nat):Int):=by rw [List.length_append,List.length_singleton];unfold wrap64;omega
  have e5:wrap64 (((pre.length + 1:Nat):Int) - 1)=(pre.length:Int):=by unfold wrap64;omega
  have e6:(acc ++ 32 :: (sgn (b - a)).data.toList) ++ spaced (diffs b r)=acc ++ spaced (diffs a (b :: r)):=by
   rw [show diffs a (b :: r)=sgn (b - a) :: diffs b r from rfl]
   simp [spaced]
  rw [e6] at next
  have hsz:(⟨acc.toArray⟩:ByteArray).size=acc.length:=ba_len acc
  refine Ev.step (fun k=>?_) next
  simp only [rf_GaugeText.l0]
  rw [if_pos (by omega),if_pos (by omega),e5,if_pos (by omega),if_pos (by omega),e1,e2,e3,numG_f (by omega) (by omega),Option.bind_some,Option.bind_some,e4]
  have s2:(⟨#[32,43]⟩:ByteArray).size=2:=rfl
  have s1':(⟨#[32]⟩:ByteArray).size=1:=rfl
  by_cases hneg:b - a < 0
  ·rw [if_neg (by omega),if_pos (by omega),if_pos (by rw [ByteArray.size_append];omega)]
   have e7:(⟨acc.toArray⟩:ByteArray) ++ (⟨#[32]⟩ ++ sdec (b - a))=⟨(acc ++ 32 :: (sgn (b - a)).data.toList).toArray⟩:=by
    rw [show sgn (b - a)=sdec (b - a) from if_pos hneg]
    apply ByteArray.ext;simp
   rw [e7]
  ·rw [if_pos (by omega),if_pos (by omega),if_pos (by rw [ByteArray.size_append];omega)]
   have e7:(⟨acc.toArray⟩:ByteArray) ++ (⟨#[32,43]⟩ ++ sdec (b - a))=⟨(acc ++ 32 :: (sgn (b - a)).data.toList).toArray⟩:=by
    rw [show sgn (b - a)=⟨#[43]⟩ ++ sdec (b - a) from if_neg hneg]
    apply ByteArray.ext;simp
   rw [e7]
theorem ev_gtext (x:S37) (hx:SmallG x):Ev (fun k=>rf_GaugeText.f k x.f0 x.f1 x.f2) (gaugeS x):=by
 obtain ⟨a0,a1,a2,l1,l2⟩:=hx
 have s0:=sdec_size (n:=x.f0) (by omega) (by omega)
 have s1:=sdec_size (n:=x.f1) (by omega) (by omega)
 unfold gaugeS gaugeW
 cases e:x.f2 with
 | nil=>rw [e] at l1;simp at l1
 | cons a r =>
  rw [e] at a2 l2
  have ha:=a2 a (by simp)
  have sa:=sdec_size (n:=a) (by omega) (by omega)
  have s32:(⟨#[32]⟩:ByteArray).size=1:=rfl
  have key:=gt_loop (a :: r) l2 a2 x.f0 x.f1 r [] a ((sdec x.f0).data.toList ++ 32 :: ((sdec x.f1).data.toList ++ 32 :: (sdec a).data.toList)) rfl (by
   have z0:(sdec x.f0).data.toList.length=(sdec x.f0).size:=Array.length_toList
   have z1:(sdec x.f1).data.toList.length=(sdec x.f1).size:=Array.length_toList
   have z2:(sdec a).data.toList.length=(sdec a).size:=Array.length_toList
   simp only [List.length_append,List.length_cons,List.length_nil]
   omega)
  have ej:(⟨(((sdec x.f0).data.toList ++ 32 :: ((sdec x.f1).data.toList ++ 32 :: (sdec a).data.toList)) ++ spaced (diffs a r)).toArray⟩:ByteArray)=joined (sdec x.f0 :: sdec x.f1 :: levelW (a :: r)):=by
   unfold joined
   rw [join_spaced]
   simp [levelW,spaced]
  rw [ej] at key
  refine Ev.congr (fun k=>?_) key
  unfold rf_GaugeText.f
  rw [numG_f (by omega) (by omega),Option.bind_some,if_pos (by omega),numG_f (by omega) (by omega),Option.bind_some,if_pos (by simp only [ByteArray.size_append];omega),if_pos (by simp only [ByteArray.size_append];omega),if_pos (by simp only [List.length_cons];omega),
   show rd (a :: r) 0=a from rfl,numG_f (by omega) (by omega),Option.bind_some,if_pos (by simp only [ByteArray.size_append];omega)]
  have e7:sdec x.f0 ++ (⟨#[32]⟩:ByteArray) ++ sdec x.f1 ++ (⟨#[32]⟩:ByteArray) ++ sdec a=⟨((sdec x.f0).data.toList ++ 32 :: ((sdec x.f1).data.toList ++ 32 :: (sdec a).data.toList)).toArray⟩:=by apply ByteArray.ext;simp
  rw [e7]
  rfl
def writeG (l:List S37):ByteArray × Int:=if 200 < l.length then (⟨#[]⟩,5) else textG [] none l
theorem ev_writeG (l:List S37) (hl:l.length ≤ 1000000) (hs:∀ x ∈ l,x.f2.length ≤ 1000000):Ev (fun k=>rf_WriteGauge.f k l) (writeG l):=by
 unfold writeG
 by_cases h200:200 < l.length
 ·rw [if_pos h200]
  refine Ev.congr (f:=fun _=>some _) (fun k=>?_) (Ev.now _)
  unfold rf_WriteGauge.f
  rw [if_pos (by omega)]
 ·rw [if_neg h200]
  have key:∀ d i (acc:List UInt8),i + d=l.length → acc.length ≤ 404 * i → Ev (fun k=>rf_WriteGauge.l0 k l ⟨acc.toArray⟩ (i:Int)) (textG acc (lastG l i) (l.drop i)):=by
   intro d
   induction d with
   | zero =>
    intro i acc hi _
    rw [List.drop_eq_nil_of_le (by omega)]
    refine Ev.step (f:=fun _=>some _) (fun k=>?_) (Ev.now _)
    simp only [rf_WriteGauge.l0]
    rw [if_neg (by omega)]
    rfl
   | succ d ih =>
    intro i acc hi hacc
    have hlt:i < l.length:=by omega
    have hd:l.drop i=l[i] :: l.drop (i + 1):=List.drop_eq_getElem_cons hlt
    have hrd:=rdG_nat l hlt
    have hlast:lastG l (i + 1)=some l[i]:=by simp [lastG,hlt]
    rw [hd,textG,← hlast]
    have hsx:=hs _ (List.getElem_mem hlt)
    have next:=ih (i + 1) (acc ++ (gaugeS l[i]).data.toList) (by omega)
    have hB:=ev_gaugeR l[i] hsx
    have hT:=ev_gtext l[i]
    have hbs:SmallG l[i] → (gaugeS l[i]).data.toList.length ≤ 404:=fun hh=>gaugeS_size hh
    have hafter:afterG (lastG l i) l[i]=if h:i=0 then true else afterB (l[i - 1]'(by omega)) l[i]:=by
     cases i with
     | zero=>rfl
     | succ j=>simp [lastG,afterG,(by omega:j < l.length)]
    generalize l[i]=x at hrd next hB hT hbs hafter ⊢
    refine Ev.step (fun k=>by simp only [rf_WriteGauge.l0];rw [if_pos (by omega),if_pos (by omega),hrd]) ?_
    refine Ev.bind hB ?_
    cases hv:isG x with
    | false=>exact Ev.congr (f:=fun _=>some _) (fun k=>if_neg (by simp)) (Ev.now _)
    | true =>
     have hsm:=smallG_of hv
     have hsz:=hbs hsm
     have e3:(⟨acc.toArray⟩:ByteArray).size=acc.length:=List.size_toArray
     have e4:(gaugeS x).size=(gaugeS x).data.toList.length:=Array.length_toList.symm
     have e5:(⟨acc.toArray⟩:ByteArray) ++ gaugeS x=⟨(acc ++ (gaugeS x).data.toList).toArray⟩:=by apply ByteArray.ext;simp
     have go:Ev (fun k=>(rf_GaugeText.f k x.f0 x.f1 x.f2).bind fun t145=>if (⟨acc.toArray⟩:ByteArray).size + t145.size ≤ 9223372036854775807 then rf_WriteGauge.l0 k l (⟨acc.toArray⟩ ++ t145) (wrap64 ((i:Int) + 1)) else none) (textG (acc ++ (gaugeS x).data.toList) (lastG l (i + 1)) (l.drop (i + 1))):=by
      refine Ev.bind (hT hsm) ?_
      refine Ev.congr (fun k=>?_) (next (by rw [List.length_append];omega))
      rw [if_pos (by omega),e5,wrap_nat (by omega)]
     simp only [if_true]
     rw [hafter]
     by_cases hi0:i=0
     ·rw [dif_pos hi0]
      simp only [if_true]
      refine Ev.congr (fun k=>?_) go
      rw [if_neg (by omega)]
     ·rw [dif_neg hi0]
      have hw:wrap64 ((i:Int) - 1)=((i - 1:Nat):Int):=by unfold wrap64;omega
      have hlt2:i - 1 < l.length:=by omega
      cases ha:afterB (l[i - 1]'hlt2) x with
      | true =>
       simp only [if_true]
       refine Ev.congr (fun k=>?_) go
       rw [if_pos (by omega),hw,if_pos (by omega),if_pos (by omega),rdG_nat l hlt2,after_R,ha,Option.bind_some,if_pos rfl]
      | false =>
       refine Ev.congr (f:=fun _=>some _) (fun k=>?_) (Ev.now _)
       rw [if_pos (by omega),hw,if_pos (by omega),if_pos (by omega),rdG_nat l hlt2,after_R,ha,Option.bind_some,if_neg (by simp)]
       simp
  have k0:=key l.length 0 [] (by omega) (Nat.zero_le _)
  refine Ev.congr (fun k=>?_) k0
  unfold rf_WriteGauge.f
  rw [if_neg (by omega)]
  rfl
theorem ev_checkedG (x:ByteArray) (hx:x.size ≤ 1000000):Ev (fun k=>rf_Checked.f k x) (checkR x):=by
 have hj:∀ b:Bool,(b=false → 3 ≤ x.size ∧ x.size ≤ 600) → Ev (fun k=>rf_Checked.j0 k x b) (if b then 4 else if sealOf (x.extract 0 (x.size - 3) ++ ⟨#[32]⟩)=x ++ ⟨#[10]⟩ then 0 else 121):=by
  intro b hbs
  cases b with
  | true=>exact Ev.step (f:=fun _=>some _) (fun k=>by simp only [rf_Checked.j0];rw [if_pos trivial];rfl) (Ev.now _)
  | false =>
   obtain ⟨h3,h6⟩:=hbs rfl
   have hw:wrap64 ((x.size:Int) - 3)=((x.size - 3:Nat):Int):=by unfold wrap64;omega
   refine Ev.step (f:=fun _=>some _) (fun k=>?_) (Ev.now _)
   simp only [rf_Checked.j0]
   rw [if_neg (by simp),hw,if_pos (by omega),if_pos (by omega),Int.toNat_natCast,lineG_f _ (by rw [ByteArray.size_extract];omega)]
   simp only [Option.bind_some]
   rw [if_pos (by omega)]
   simp only [Bool.false_eq_true,if_false]
   by_cases h:sealOf (x.extract 0 (x.size - 3) ++ ⟨#[32]⟩)=x ++ ⟨#[10]⟩
   ·rw [if_pos h,if_pos (by rw [h])]
   ·rw [if_neg h,if_neg (fun e=>h (toList_inj e))]
 unfold checkR formed rf_Checked.f
 simp only [in_f,Option.bind_some]
 by_cases h:(3:Int) ≤ (x.size:Int) ∧ (x.size:Int) ≤ 600
 ·have hw:wrap64 ((x.size:Int) - 3)=((x.size - 3:Nat):Int):=by unfold wrap64;omega
  rw [decide_eq_true h,decide_eq_true (by omega:x.size ≤ 600),decide_eq_true (by omega:3 ≤ x.size)]
  simp only [Bool.true_and]
  refine Ev.congr (fun k=>?_) (?_:Ev (fun k=>rf_Checked.j0 k x (bt x ((x.size - 3:Nat):Int) != 32)) _)
  ·rw [if_pos trivial,hw,if_pos (by omega),if_pos (by omega)]
  ·by_cases hc:bt x ((x.size - 3:Nat):Int)=32
   ·rw [decide_eq_true hc,hc]
    exact hj false (fun _=>by omega)
   ·have hc':(bt x ((x.size - 3:Nat):Int) != 32)=true:=bne_iff_ne.2 hc
    rw [decide_eq_false hc,hc']
    exact hj true (fun h=>by cases h)
 ·have e:(decide (x.size ≤ 600) && (decide (3 ≤ x.size) && decide (bt x ((x.size - 3:Nat):Int)=32)))=false:=by
   by_cases h6:x.size ≤ 600
   ·rw [decide_eq_false (by omega:¬ 3 ≤ x.size)];simp
   ·rw [decide_eq_false h6];rfl
  rw [e,decide_eq_false h]
  simp only [Bool.false_eq_true,if_false]
  exact hj true (fun h=>by cases h)
theorem sgn_list_neg {d:Int} (h:d < 0):(sgn d).data.toList=45 :: Lib.decDigits d.natAbs:=by
 rw [show sgn d=sdec d from if_pos h,sdec_list]
 unfold Lib.itoa
 rw [if_pos h]
theorem sgn_list_pos {d:Int} (h:¬ d < 0):(sgn d).data.toList=43 :: Lib.decDigits d.toNat:=by
 rw [show sgn d=⟨#[43]⟩ ++ sdec d from if_neg h,app_list,sdec_list]
 unfold Lib.itoa
 rw [if_neg h]
 rfl
theorem mag_dec (u:Nat) (h:u ≤ 1000000000):Lib.parseMag (Lib.decDigits u)=.ok u:=by
 have hv:=val_dec u
 have hp:=parse_ok (Lib.decDigits u) 0 (dec_dig u) (by rw [hv];omega)
 unfold Lib.parseMag
 rw [if_neg (dec_ne u),hp,hv]
theorem atoi_sgn {d:Int} (h0:-100000 ≤ d) (h1:d ≤ 100000):Lib.atoiAll (sgn d).data.toList=.ok d:=by
 by_cases h:d < 0
 ·rw [sgn_list_neg h]
  unfold Lib.atoiAll
  have c1:(45:UInt8).toNat=43 ∨ (45:UInt8).toNat=45:=.inr rfl
  simp only [if_pos c1,mag_dec d.natAbs (by omega)]
  rw [if_neg (by omega),if_neg (by simp;omega),if_pos (by rfl)]
  congr 1
  omega
 ·rw [sgn_list_pos h]
  unfold Lib.atoiAll
  have c1:(43:UInt8).toNat=43 ∨ (43:UInt8).toNat=45:=.inl rfl
  simp only [if_pos c1,mag_dec d.toNat (by omega)]
  rw [if_neg (by omega),if_neg (by simp),if_neg (by decide)]
  congr 1
  omega
theorem atoi_sdec {n:Int} (h0:0 ≤ n) (h1:n ≤ 1000000):Lib.atoiAll (sdec n).data.toList=.ok n:=by
 have e:sdec n=dec n:=by
  unfold sdec dec Lib.itoa
  rw [if_neg (by omega)]
 rw [e,dec_list,atoi_dec _ (by omega)]
 congr 1
 omega
theorem atoiR_ok {s:ByteArray} {v:Int} (h:Lib.atoiAll s.data.toList=.ok v):atoiR s=(v,none):=by unfold atoiR;rw [h]
theorem readL_diffs (st hr:Int):∀ (r:List Int) (a:Int) (acc:List Int),(0 ≤ a ∧ a ≤ 10000) → (∀ n ∈ r,0 ≤ n ∧ n ≤ 10000) → readL st hr a acc (diffs a r)=⟨st,hr,acc ++ r⟩
 | [],a,acc,ha,hr'=>by simp [diffs,readL]
 | b :: r,a,acc,ha,hr'=>by
  have hb:=hr' b (by simp)
  have e:=atoiR_ok (atoi_sgn (d:=b - a) (by omega) (by omega))
  have ew:wrap64 (a + (b - a))=b:=by unfold wrap64;omega
  rw [show diffs a (b :: r)=sgn (b - a) :: diffs b r from rfl]
  unfold readL
  rw [e]
  simp only [ew,Option.isNone_none,if_true]
  rw [if_pos (inside_of fun m hm=>by rw [List.mem_singleton] at hm;subst hm;exact hb),readL_diffs st hr r b (acc ++ [b]) hb (fun n hn=>hr' n (by simp [hn]))]
  simp
theorem num_sdec {n:Int} (h0:0 ≤ n) (h1:n ≤ 1000000):numOf (sdec n)=n:=by unfold numOf;rw [atoi_sdec h0 h1]
theorem read_PG {x:S37} (h:SmallG x):readG (gaugeW x)=x:=by
 have hlen:=(gaugeW_small h).2
 obtain ⟨a0,a1,a2,l1,l2⟩:=h
 unfold readG
 rw [if_neg (by omega),if_neg (by omega)]
 have e0:rdOf ByteArray.empty (gaugeW x) 0=sdec x.f0:=rfl
 have e1:rdOf ByteArray.empty (gaugeW x) 1=sdec x.f1:=rfl
 have e2:(gaugeW x).drop 2=levelW x.f2:=rfl
 rw [e0,e1,e2,num_sdec (by omega) (by omega),num_sdec (by omega) (by omega)]
 cases e:x.f2 with
 | nil=>rw [e] at l1;simp at l1
 | cons a r =>
  rw [e] at a2
  have ha:=a2 a (by simp)
  have ea:=atoiR_ok (atoi_sdec (n:=a) (by omega) (by omega))
  have ew:wrap64 (0 + a)=a:=by unfold wrap64;omega
  rw [show levelW (a :: r)=sdec a :: diffs a r from rfl]
  unfold readL
  rw [ea]
  simp only [ew,Option.isNone_none,if_true]
  rw [if_pos (inside_of fun m hm=>by rw [List.mem_singleton] at hm;subst hm;exact ha),readL_diffs x.f0 x.f1 r a ([] ++ [a]) ha (fun n hn=>a2 n (by simp [hn]))]
  obtain ⟨f0,f1,f2⟩:=x
  simp only at e ⊢
  rw [e]
  simp
def digN (l:List UInt8):Int:=((digR 6 l 0 0).1:Int)
def stepN:List UInt8 → Int
 | []=>0
 | c :: r=>if c=45 then -digN r else digN r
def refL:Int → List Int → List ByteArray → List Int
 | _,acc,[]=>acc
 | lev,acc,w :: r=>refL (lev + stepN w.data.toList) (acc ++ [lev + stepN w.data.toList]) r
def refG:List ByteArray → S37
 | []=>z37
 | [a]=>⟨digN a.data.toList,0,[]⟩
 | [a,b]=>⟨digN a.data.toList,digN b.data.toList,[]⟩
 | a :: b :: c :: r=>⟨digN a.data.toList,digN b.data.toList,refL (digN c.data.toList) [digN c.data.toList] r⟩
theorem digN_dec (u:Nat) (h:u ≤ 100000):digN (Lib.decDigits u)=(u:Int):=by
 have:=digR_dec u h [] (fun c r e=>by cases e)
 rw [List.append_nil] at this
 unfold digN
 rw [this]
theorem stepN_sgn {d:Int} (h0:-100000 ≤ d) (h1:d ≤ 100000):stepN (sgn d).data.toList=d:=by
 by_cases h:d < 0
 ·rw [sgn_list_neg h]
  show (if (45:UInt8)=45 then -digN (Lib.decDigits d.natAbs) else digN (Lib.decDigits d.natAbs))=d
  rw [if_pos rfl,digN_dec _ (by omega)]
  omega
 ·rw [sgn_list_pos h]
  show (if (43:UInt8)=45 then -digN (Lib.decDigits d.toNat) else digN (Lib.decDigits d.toNat))=d
  rw [if_neg (by decide),digN_dec _ (by omega)]
  omega
theorem refL_diffs:∀ (r:List Int) (a:Int) (acc:List Int),(0 ≤ a ∧ a ≤ 10000) → (∀ n ∈ r,0 ≤ n ∧ n ≤ 10000) → refL a acc (diffs a r)=acc ++ r
 | [],a,acc,ha,hr=>by simp [diffs,refL]
 | b :: r,a,acc,ha,hr=>by
  have hb:=hr b (by simp)
  rw [show diffs a (b :: r)=sgn (b - a) :: diffs b r from rfl]
  unfold refL
  rw [stepN_sgn (by omega) (by omega),show a + (b - a)=b by omega,refL_diffs r b (acc ++ [b]) hb (fun n hn=>hr n (by simp [hn]))]
  simp
theorem digN_sdec {n:Int} (h0:0 ≤ n) (h1:n ≤ 100000):digN (sdec n).data.toList=n:=by
 rw [sdec_list]
 unfold Lib.itoa
 rw [if_neg (by omega),digN_dec _ (by omega)]
 omega
theorem read_RG {x:S37} (h:SmallG x):refG (gaugeW x)=x:=by
 obtain ⟨a0,a1,a2,l1,l2⟩:=h
 unfold gaugeW
 cases e:x.f2 with
 | nil=>rw [e] at l1;simp at l1
 | cons a r =>
  rw [e] at a2
  have ha:=a2 a (by simp)
  show (⟨digN (sdec x.f0).data.toList,digN (sdec x.f1).data.toList,refL (digN (sdec a).data.toList) [digN (sdec a).data.toList] (diffs a r)⟩:S37)=x
  rw [digN_sdec (by omega) (by omega),digN_sdec (by omega) (by omega),digN_sdec (by omega) (by omega),refL_diffs r a [a] ha (fun n hn=>a2 n (by simp [hn]))]
  obtain ⟨f0,f1,f2⟩:=x
  simp only at e ⊢
  rw [e]
  rfl
theorem sdec_free (n:Int):(32:UInt8) ∉ (sdec n).data.toList:=by
 rw [sdec_list]
 unfold Lib.itoa
 split
 ·intro h
  rcases List.mem_cons.1 h with h | h
  ·exact absurd h (by decide)
  ·exact dec_free _ _ nd32 h
 ·exact dec_free _ _ nd32
theorem sgn_free (d:Int):(32:UInt8) ∉ (sgn d).data.toList:=by
 unfold sgn
 split
 ·exact sdec_free d
 ·rw [app_list]
  intro h
  rcases List.mem_append.1 h with h | h
  ·exact absurd h (by decide)
  ·exact sdec_free d h
theorem diffs_free:∀ (r:List Int) (a:Int),∀ w ∈ (diffs a r).map (·.data.toList),(32:UInt8) ∉ w
 | [],a,w,h=>by simp [diffs] at h
 | b :: r,a,w,h=>by
  simp only [diffs,List.map_cons,List.mem_cons] at h
  rcases h with rfl | h
  ·exact sgn_free _
  ·exact diffs_free r b w h
theorem gwords_free {x:S37}:∀ w ∈ (gaugeW x).map (·.data.toList),(32:UInt8) ∉ w:=by
 intro w hw
 unfold gaugeW at hw
 simp only [List.map_cons,List.mem_cons] at hw
 rcases hw with rfl | rfl | hw
 ·exact sdec_free _
 ·exact sdec_free _
 ·cases e:x.f2 with
  | nil=>rw [e] at hw;simp [levelW] at hw
  | cons a r =>
   rw [e] at hw
   simp only [levelW,List.map_cons,List.mem_cons] at hw
   rcases hw with rfl | hw
   ·exact sdec_free _
   ·exact diffs_free r a w hw
theorem line_wordsG {x:ByteArray} {y:S37} (hm:(32:UInt8) ∈ x.data.toList) (e:gaugeS y=x ++ ⟨#[10]⟩):initW x=gaugeW y:=by
 obtain ⟨q,hq,hx,_⟩:=init_join hm
 unfold gaugeS at e
 obtain ⟨u,v,hu,hv,hs⟩:=seal_shape (joined (gaugeW y))
 have e':=congrArg (fun b:ByteArray=>b.data.toList) e
 try simp only at e'
 rw [hs,app_list] at e'
 have e2:x.data.toList=(joined (gaugeW y)).data.toList ++ [32,u,v]:=by
  have:(joined (gaugeW y)).data.toList ++ [32,u,v,10]=((joined (gaugeW y)).data.toList ++ [32,u,v]) ++ [10]:=by simp
  rw [this] at e'
  exact (List.append_cancel_right e').symm
 have hsp:spl 32 x.data.toList=spl 32 (joined (gaugeW y)).data.toList ++ [[u,v]]:=by
  rw [e2]
  show spl 32 ((joined (gaugeW y)).data.toList ++ 32 :: [u,v])=_
  rw [spl_app,spl_clean (p:=[u,v]) (by simp;exact ⟨fun h=>hu h.symm,fun h=>hv h.symm⟩)]
 have hw:spl 32 (joined (gaugeW y)).data.toList=(gaugeW y).map (·.data.toList):=by
  unfold joined
  show spl 32 (Lib.join ((gaugeW y).map (·.data.toList)) [32])=_
  exact spl_join (by simp [gaugeW]) gwords_free
 unfold initW
 rw [← List.dropLast_eq_take,words_mk,hsp,List.map_append,List.map_cons,List.map_nil,List.dropLast_concat,hw,map_mkB]
def lineRG (x:ByteArray):Int:=if checkR x=0 then (if isG (refG (initW x)) then (if gaugeS (refG (initW x))=x ++ ⟨#[10]⟩ then 0 else 4) else 4) else checkR x
theorem line_sameG (x:ByteArray):(lineG x).2=lineRG x ∧ (lineRG x=0 → (lineG x).1=refG (initW x)):=by
 unfold lineG lineRG checkR
 by_cases hf:formed x=true
 ·rw [hf]
  simp only [if_true]
  have hcs:=check_same hf
  by_cases hp:sealOf (joined (initW x) ++ ⟨#[32]⟩)=x ++ ⟨#[10]⟩
  ·have hr:=hcs.1 hp
   rw [if_pos hp,if_pos hr]
   simp only [if_true]
   by_cases hy:∃ y,isG y=true ∧ gaugeS y=x ++ ⟨#[10]⟩
   ·obtain ⟨y,hb,he⟩:=hy
    obtain ⟨hm,h3⟩:=formed_mem hf
    have hw:=line_wordsG hm he
    have hP:readG (initW x)=y:=by rw [hw];exact read_PG (smallG_of hb)
    have hR:refG (initW x)=y:=by rw [hw];exact read_RG (smallG_of hb)
    rw [hP,hR,hb]
    refine ⟨?_,?_⟩ <;> simp [he]
   ·have no:∀ y,(if isG y=true then (if gaugeS y=x ++ ⟨#[10]⟩ then (y,(0:Int)) else (z37,4)) else (z37,4))=(z37,4):=by
     intro y
     by_cases h1:isG y=true
     ·rw [if_pos h1,if_neg (fun h2=>hy ⟨y,h1,h2⟩)]
     ·rw [if_neg h1]
    have no':∀ y,(if isG y=true then (if gaugeS y=x ++ ⟨#[10]⟩ then (0:Int) else 4) else 4)=4:=by
     intro y
     by_cases h1:isG y=true
     ·rw [if_pos h1,if_neg (fun h2=>hy ⟨y,h1,h2⟩)]
     ·rw [if_neg h1]
    rw [no,no']
    exact ⟨rfl,fun h=>absurd h (by simp)⟩
  ·have hr:=fun h=>hp (hcs.2 h)
   rw [if_neg hp,if_neg hr]
   exact ⟨rfl,fun h=>absurd h (by simp)⟩
 ·have hf':formed x=false:=by simpa using hf
  rw [hf']
  exact ⟨rfl,fun h=>absurd h (by simp)⟩
end Go.Proofs.Lg
namespace Go.Proofs.Lg
open Go.RowKit Go.Lib Go.Proofs.YtdomcbebbhbdlaaGreatDoorW.PrintWords Go.Proofs.YtdomcbebbhbdlaaGreatDoorW.PrintLast Go.Proofs.YtdomcbebbhbdlaaGreatDoorW.PrintMore Go.Proofs.YtdomcbebbhbdlaaGreatDoor.PLogsGauges
set_option maxHeartbeats 4000000 in
set_option maxRecDepth 100000 in
theorem writeGauge (l:List S37) (A:Option Addr) (c:Nat) (w:World) (hr:Kd.C k37 w A l.length l) (hc:l.length ≤ c) (hseals:∀ x ∈ l,x.f2.length ≤ 1000000) (hw:Base w) :
  Calls Tryz.prog 13 #[.slice A l.length c] w fun e w'=>e=.returned (.tuple #[.string (writeG l).1,.int .i64 (writeG l).2]) ∧ Below w.heap.size w w':=by
 have htext:=fun (W:World) (hb:Below w.heap.size w W)=>textT l A c W (Kd.C_below hr hb) hc hseals (hw.step hb)
 obtain ⟨p,hp⟩:∃ p,paperG=p:=⟨_,rfl⟩
 have hbills:=gauges w hw
 rw [hp] at htext hbills
 go_enter Tryz.func13,Tryz.ntmps13
 have hif:(if 200 < l.length then Value.tuple #[.string ⟨#[]⟩,.int .i64 5] else .tuple #[.string (textG [] none l).1,.int .i64 (textG [] none l).2])=.tuple #[.string (writeG l).1,.int .i64 (writeG l).2]:=by unfold writeG;split <;> rfl
 rw [hif] at htext
 generalize (writeG l).1=T at htext ⊢
 generalize (writeG l).2=E at htext ⊢
 clear hif hp
 go_wp2_with (first
  | (go_at_call 33;refine hbills.mono ?_;rintro e w1 ⟨rfl,hb1⟩)
  | (go_at_call 34;refine (htext _ hb1).mono ?_;rintro e w2 ⟨rfl,hb2⟩))
 go_ret2
 exact ⟨rfl,below_step hb1 hb2⟩
set_option maxHeartbeats 4000000 in
set_option maxRecDepth 100000 in
theorem readGauge (s:ByteArray) (hs:s.size ≤ 1000000) (w:World) (hw:Base w) :
  Calls Tryz.prog 14 #[.string s] w fun e w'=>∃ v,e=.returned (.tuple #[v,.int .i64 (thingsG s).2.1,.int .i64 (thingsG s).2.2]) ∧ Kd.S k37 37 w' w.heap.size (fun _=>True) v (thingsG s).1 ∧ Below w.heap.size w w':=by
 have hthings:=fun (W:World) (hb:Below w.heap.size w W)=>thingsGC s hs W (hw.step hb)
 obtain ⟨p,hp⟩:∃ p,paperG=p:=⟨_,rfl⟩
 have hbills:=gauges w hw
 rw [hp] at hthings hbills
 generalize (thingsG s).1=L at hthings ⊢
 generalize (thingsG s).2.1=T at hthings ⊢
 generalize (thingsG s).2.2=E at hthings ⊢
 clear hp
 go_enter Tryz.func14,Tryz.ntmps14
 go_wp2_with (first
  | (go_at_call 33;refine hbills.mono ?_;rintro e w1 ⟨rfl,hb1⟩)
  | (go_at_call 35;refine (hthings _ hb1).mono ?_;rintro e w2 ⟨v,rfl,hS,hb2⟩))
 refine bodyPost_ret (v:=.tuple #[v,.int .i64 T,.int .i64 E]) (by simp [results,Tryz.f14]) rfl ?_
 exact ⟨v,rfl,Kd.S_lower hS hb1.size,below_step hb1 hb2⟩
end Go.Proofs.Lg
namespace Go.Proofs.YtdomcbebbhbdlaaGreatDoor.PLogsGauges
open Go.RowKit Go.Proofs.YtdomcbebbhbdlaaGreatDoorW.PrintWords Go.Proofs.YtdomcbebbhbdlaaGreatDoorW.PrintLast Go.Proofs.YtdomcbebbhbdlaaGreatDoorW.PrintMore
def logs_WriteGauge.f (l:List S37):Option (ByteArray × Int):=if l.all (fun x=>decide (x.f2.length ≤ 1000000))=true then some (Go.Proofs.Lg.writeG l) else none
theorem logs_WriteGauge.calls (A0:Option Addr) (c0:Nat) (l0:List S37) (r1:ByteArray) (r2:Int) (w:World) (hbase:Base w) (hr0:Kd.C k37 w A0 l0.length l0) (hc0:l0.length ≤ c0) (h:logs_WriteGauge.f l0=some (r1,r2)) :
  Calls Tryz.prog 13 #[.slice A0 l0.length c0] w fun e w'=>e=.returned (.tuple #[.string r1,.int .i64 r2]) ∧ Below w.heap.size w w':=by
 unfold logs_WriteGauge.f at h
 split at h
 ·rename_i hn
  have h1:=congrArg Prod.fst (Option.some.inj h)
  have h2:=congrArg Prod.snd (Option.some.inj h)
  simp only at h1 h2
  subst h1 h2
  exact Go.Proofs.Lg.writeGauge l0 A0 c0 w hr0 hc0 (fun x hx=>of_decide_eq_true (List.all_eq_true.1 hn x hx)) hbase
 ·cases h
def logs_ReadGauge.f (s:ByteArray):Option (List S37 × Int × Int):=if s.size ≤ 1000000 then some (Go.Proofs.Lg.thingsG s) else none
theorem logs_ReadGauge.calls (a0:ByteArray) (r1:List S37) (r2:Int) (r3:Int) (w:World) (hbase:Base w) (h:logs_ReadGauge.f a0=some (r1,r2,r3)) :
  Calls Tryz.prog 14 #[.string a0] w fun e w'=>∃ v0_:Value,e=.returned (.tuple #[v0_,.int .i64 r2,.int .i64 r3]) ∧ Kd.S k37 37 w' w.heap.size (fun _=>True) v0_ r1 ∧ Below w.heap.size w w':=by
 unfold logs_ReadGauge.f at h
 by_cases hn:a0.size ≤ 1000000
 ·rw [if_pos hn] at h
  have h0:=Option.some.inj h
  have h1:=congrArg Prod.fst h0
  have h2:=congrArg (fun x=>x.2.1) h0
  have h3:=congrArg (fun x=>x.2.2) h0
  simp only at h1 h2 h3
  subst h1 h2 h3
  exact Go.Proofs.Lg.readGauge a0 hn w hbase
 ·rw [if_neg hn] at h;cases h
end Go.Proofs.YtdomcbebbhbdlaaGreatDoor.PLogsGauges
