import Derived.Test.YteaadaaghhojfaaGreatDoorZQdPQux9
import Derived.Test.YteaadaaghhojfaaGreatDoorZQdPQux13
import Derived.Test.YteaadaaghhojfaaGreatDoorZQdPQux2
import Derived.Test.YteaadaaghhojfaaGreatDoorZQdPQux17
import Derived.Test.YteaadaaghhojfaaGreatDoorZQdPQux3
import Derived.Test.YteaadaaghhojfaaGreatDoorZQdPQux18
import Derived.Test.YteaadaaghhojfaaGreatDoorZQdPQux10
import Derived.Test.YteaadaaghhojfaaGreatDoorZQdPQux19
import Derived.Test.YteaadaaghhojfaaGreatDoorZQdPQux12
import Derived.Test.YteaadaaghhojfaaGreatDoorZQdPQux4
import Derived.Test.YteaadaaghhojfaaGreatDoorZQdPQux8
import Derived.Test.YteaadaaghhojfaaGreatDoorZQdQA
import Derived.Lib.Index
namespace Go.Proofs.YteaadaaghhojfaaGreatDoor.Pure
open Go.RowKit Go.Proofs.YteaadaaghhojfaaGreatDoor.PQu Go.Proofs.YteaadaaghhojfaaGreatDoorW.PrintWords Go.Proofs.YteaadaaghhojfaaGreatDoorW.PrintLast Go.Proofs.YteaadaaghhojfaaGreatDoorW.PrintMore Go.Proofs.YteaadaaghhojfaaGreatDoorW.XP Go.Proofs.YteaadaaghhojfaaGreatDoorW.XW
set_option linter.unusedVariables false
set_option linter.unusedSimpArgs false
def matchB (m:MT):ByteArray:=if m.f0=1 then joinB (mkB [61]) [m.f1,m.f2] else if m.f0=2 then joinB (mkB [33,61]) [m.f1,m.f2] else if m.f0=3 then joinB (mkB [61]) [m.f1,m.f2++mkB [42]] else m.f1
theorem bl_join2 (sep a b:ByteArray):bl (joinB sep [a,b])=bl a++bl sep++bl b:=by
 rw [joinB_cons];simp [tl_cons,Lib.joinTail]
def textM (l:List MT):ByteArray:=joinB (mkB [44]) (l.map matchB)
def FitM (l:List MT):Prop:=l.length≤1000∧∀ t∈l,t.f1.size≤1000000∧t.f2.size≤1000000
theorem matchB_len (m:MT) (h1:m.f1.size≤1000000) (h2:m.f2.size≤1000000):(bl (matchB m)).length≤2000002:=by
 have e1:=size_bl m.f1
 have e2:=size_bl m.f2
 unfold matchB
 split
 ·rw [bl_join2,bl_mkB];simp only [List.length_append,List.length_cons,List.length_nil];omega
 ·split
  ·rw [bl_join2,bl_mkB];simp only [List.length_append,List.length_cons,List.length_nil];omega
  ·split
   ·rw [bl_join2,bl_append,bl_mkB,bl_mkB];simp only [List.length_append,List.length_cons,List.length_nil];omega
   ·omega
theorem fitM_text {l:List MT} (h:FitM l):(bl (textM l)).length≤10000000000:=by
 have h2:=joinB_len (mkB [44]) 2000002 (l.map matchB) (fun x hx=>by
  obtain ⟨t,ht,rfl⟩:=List.mem_map.1 hx
  exact matchB_len t (h.2 t ht).1 (h.2 t ht).2)
 rw [List.length_map] at h2
 have h3:l.length * ((bl (mkB [44])).length+2000002)≤1000 * 2000003:=Nat.le_trans (Nat.mul_le_mul_right _ h.1) (by rw [bl_mkB];simp)
 exact Nat.le_trans h2 (Nat.le_trans h3 (by decide))
theorem matchtext_f (m:MT) (h1:m.f1.size≤1000000) (h2:m.f2.size≤1000000):pick_match_text.f m.f0 m.f1 m.f2=some (matchB m):=by
 have e1:=size_bl m.f1
 have e2:=size_bl m.f2
 have hj:∀ sep b:ByteArray,(bl sep).length≤5→(bl b).length≤2000000→word_Join.f sep [m.f1,b]=some (joinB sep [m.f1,b]):=fun sep b hs hb=>join_f sep [m.f1,b] (by simp) (by rw [bl_join2];simp only [List.length_append];omega)
 unfold pick_match_text.f matchB
 by_cases c1:m.f0=1
 ·rw [if_pos c1,if_pos c1]
  rw [show (⟨#[61]⟩:ByteArray)=mkB [61] from rfl,hj (mkB [61]) m.f2 (by decide) (by omega)];rfl
 ·rw [if_neg c1,if_neg c1]
  by_cases c2:m.f0=2
  ·rw [if_pos c2,if_pos c2]
   rw [show (⟨#[33,61]⟩:ByteArray)=mkB [33,61] from rfl,hj (mkB [33,61]) m.f2 (by decide) (by omega)];rfl
  ·rw [if_neg c2,if_neg c2]
   by_cases c3:m.f0=3
   ·rw [if_pos c3,if_pos c3,if_pos (by omega)]
    rw [show (⟨#[61]⟩:ByteArray)=mkB [61] from rfl,show (⟨#[42]⟩:ByteArray)=mkB [42] from rfl,hj (mkB [61]) (m.f2++mkB [42]) (by decide) (by rw [bl_append,bl_mkB];simp only [List.length_append,List.length_cons,List.length_nil];omega)];rfl
   ·rw [if_neg c3,if_neg c3]
theorem textm_loop (l:List MT) (hf:FitM l):∀ (d i:Nat) (acc:List ByteArray),i+d=l.length→acc.length=i→acc++(l.drop i).map matchB=l.map matchB →
  Ev (fun k=>pick_Text.l0 k acc l (l.length:Int) (i:Int)) (textM l)∧Ev (fun k=>ebbtideref05_Text.l0 k l acc (i:Int)) (textM l)
 | 0,i,acc,hd,ha,he=>by
  rw [List.drop_of_length_le (by omega),List.map_nil,List.append_nil] at he
  have hlen:=fitM_text hf
  have hl1:=hf.1
  unfold textM at hlen ⊢
  rw [← he] at hlen ⊢
  constructor
  ·refine Ev.step (f:=fun k=>(word_Join.f (⟨#[44]⟩:ByteArray) acc).bind fun t=>some t) (fun k=>?_) ?_
   ·simp only [pick_Text.l0];rw [if_neg (by omega)]
   ·exact Ev_bind0 (f:=fun _ t=>some t) (join_f (mkB [44]) acc (by omega) (by omega)) (Ev.now _)
  ·refine Ev.step (f:=fun k=>(ebbtideref02_Join.f k (⟨#[44]⟩:ByteArray) acc).bind fun t=>some t) (fun k=>?_) ?_
   ·simp only [ebbtideref05_Text.l0];rw [if_neg (by omega)]
   ·exact Ev.bind (rjoin_ev (mkB [44]) acc (by omega) (by omega)) (Ev.now _)
 | d+1,i,acc,hd,ha,he=>by
  have hi:i<l.length:=by omega
  have hl1:=hf.1
  have hm:=hf.2 l[i] (List.getElem_mem hi)
  rw [drop_cons l i hi,List.map_cons] at he
  have ih:=textm_loop l hf d (i+1) (acc++[matchB l[i]]) (by omega) (by simp;omega) (by rw [← he];simp)
  constructor
  ·refine Ev.step (f:=fun k=>pick_Text.l0 k (acc++[matchB l[i]]) l (l.length:Int) ((i+1:Nat):Int)) (fun k=>?_) ih.1
   simp only [pick_Text.l0]
   rw [if_pos (by omega),if_pos (by omega),if_pos (by omega),rdM l i hi,matchtext_f _ hm.1 hm.2,wrap_up i (by omega)]
   simp only [Option.bind_some]
   rw [if_pos (by omega)]
  ·refine Ev.step (f:=fun k=>ebbtideref05_Text.l0 k l (acc++[matchB l[i]]) ((i+1:Nat):Int)) (fun k=>?_) ih.2
   simp only [ebbtideref05_Text.l0]
   rw [if_pos (by omega),if_pos (by omega),rdM l i hi,wrap_up i (by omega)]
   unfold matchB
   by_cases c1:l[i].f0=1
   ·rw [if_pos c1,if_pos c1,if_pos (by omega),if_pos (by omega),if_pos (by omega)]
    congr 1;congr 1;congr 1
    exact bl_inj (by rw [bl_join2,bl_append,bl_append];rfl)
   ·rw [if_neg c1,if_neg c1]
    by_cases c2:l[i].f0=2
    ·rw [if_pos c2,if_pos c2,if_pos (by omega),if_pos (by omega),if_pos (by omega)]
     congr 1;congr 1;congr 1
     exact bl_inj (by rw [bl_join2,bl_append,bl_append];rfl)
    ·rw [if_neg c2,if_neg c2]
     by_cases c3:l[i].f0=3
     ·rw [if_pos c3,if_pos c3,if_pos (by omega),if_pos (by omega),if_pos (by omega),if_pos (by omega)]
      congr 1;congr 1;congr 1
      exact bl_inj (by rw [bl_join2,bl_append,bl_append,bl_append,bl_append,List.append_assoc];rfl)
     ·rw [if_neg c3,if_neg c3,if_pos (by omega)]
theorem textm_ev (l:List MT) (hf:FitM l):Ev (fun k=>pick_Text.f k l) (textM l):=(textm_loop l hf l.length 0 [] (by omega) rfl (by simp)).1
theorem take2 (l:List UInt8) (a b:UInt8):[a,b].isPrefixOf l=decide (l.take 2=[a,b]):=by
 cases l with
 | nil=>rfl
 | cons x r=>cases r with
  | nil=>simp [List.isPrefixOf]
  | cons y r =>
   rw [Bool.eq_iff_iff]
   simp only [List.isPrefixOf,Bool.and_eq_true,beq_iff_eq,decide_eq_true_eq,List.take_succ_cons,List.take_zero,List.cons.injEq,and_true]
   exact ⟨fun h=>⟨h.1.symm,h.2.symm⟩,fun h=>⟨h.1.symm,h.2.symm⟩⟩
theorem take1 (l:List UInt8) (a:UInt8):[a].isPrefixOf l=decide (l.take 1=[a]):=by
 cases l with
 | nil=>rfl
 | cons x r =>
  rw [Bool.eq_iff_iff]
  simp only [List.isPrefixOf,Bool.and_eq_true,beq_iff_eq,decide_eq_true_eq,List.take_succ_cons,List.take_zero,List.cons.injEq,and_true]
  exact ⟨fun h=>h.symm,fun h=>h.symm⟩
theorem index_le (sub:List UInt8):∀ l:List UInt8,Lib.index l sub = -1∨∃ i:Nat,Lib.index l sub=i∧i+sub.length≤l.length
 | []=>by
  unfold Lib.index
  cases sub with
  | nil=>exact .inr ⟨0,rfl,by simp⟩
  | cons a t=>exact .inl rfl
 | b ::l=>by
  unfold Lib.index
  split
  ·next h=>exact .inr ⟨0,rfl,by have:=List.IsPrefix.length_le (List.isPrefixOf_iff_prefix.1 h);omega⟩
  ·rcases index_le sub l with h|⟨i,h,hi⟩
   ·rw [h];exact .inl rfl
   ·rw [h];exact .inr ⟨i+1,by rw [if_neg (by simp)];rfl,by simp only [List.length_cons];omega⟩
theorem find_at (s sub:ByteArray) (hs:s.size≤1000000) (hb:(bl sub).length=1∨(bl sub).length=2) (hp:∀ l:List UInt8,(bl sub).isPrefixOf l=decide (l.take (bl sub).length=bl sub)):∀ (d i:Nat),i+d=s.size →
  Ev (fun k=>ebbtideref05_find.l0 k s sub (i:Int)) (if Lib.index ((bl s).drop i) (bl sub) = -1 then -1 else Lib.index ((bl s).drop i) (bl sub)+i)
 | d,i,hd=>by
  have hz:=size_bl s
  have hz2:=size_bl sub
  have hw:wrap64 ((i:Int)+(sub.size:Int))=((i+sub.size:Nat):Int):=by unfold wrap64;omega
  by_cases hle:i+sub.size≤s.size
  ·have hi:i<(bl s).length:=by omega
   have hx:((s.extract i (i+sub.size)).toList=sub.toList)↔(bl sub).isPrefixOf ((bl s).drop i)=true:=by
    rw [toList_bl,toList_bl,bl_extract,hp,decide_eq_true_eq,hz2,List.drop_take]
    rw [show i+sub.size - i=sub.size by omega]
   match d,hd with
   | 0,hd=>omega
   | d+1,hd =>
    have ih:=find_at s sub hs hb hp d (i+1) (by omega)
    have e:Lib.index ((bl s).drop i) (bl sub)=if (bl sub).isPrefixOf ((bl s).drop i)=true then 0 else if Lib.index ((bl s).drop (i+1)) (bl sub) = -1 then -1 else Lib.index ((bl s).drop (i+1)) (bl sub)+1:=by
     rw [drop_cons _ _ hi,Lib.index]
     by_cases h:(bl sub).isPrefixOf ((bl s)[i] ::(bl s).drop (i+1))=true
     ·rw [if_pos h,if_pos h]
     ·rw [if_neg h,if_neg h]
      by_cases h2:Lib.index ((bl s).drop (i+1)) (bl sub) = -1<;>simp [h2]
    refine Ev.step (f:=fun k=>if (bl sub).isPrefixOf ((bl s).drop i)=true then some (i:Int) else ebbtideref05_find.l0 k s sub ((i+1:Nat):Int)) (fun k=>?_) ?_
    ·simp only [ebbtideref05_find.l0]
     rw [hw,if_pos (by omega),if_pos (by omega),if_pos (by omega),wrap_up i (by omega)]
     simp only [Int.toNat_natCast]
     by_cases h:(bl sub).isPrefixOf ((bl s).drop i)=true
     ·rw [if_pos (hx.2 h),if_pos h]
     ·rw [if_neg (fun h2=>h (hx.1 h2)),if_neg h]
    ·rw [e]
     by_cases h:(bl sub).isPrefixOf ((bl s).drop i)=true
     ·rw [if_pos h];refine Ev_if_pos h ?_;rw [if_neg (by decide)];simpa using Ev.now _
     ·rw [if_neg h];refine Ev_if_neg h ?_
      rcases index_le (bl sub) ((bl s).drop (i+1)) with h2|⟨j,h2,_⟩
      ·rw [h2,if_pos rfl] at ih;rw [h2,if_pos rfl,if_pos rfl];exact ih
      ·rw [h2,if_neg (by omega)] at ih
       rw [h2,if_neg (by omega),if_neg (by omega)]
       have e3:(j:Int)+1+(i:Int)=(j:Int)+((i+1:Nat):Int):=by omega
       rw [e3];exact ih
  ·have hno:Lib.index ((bl s).drop i) (bl sub) = -1:=by
    rcases index_le (bl sub) ((bl s).drop i) with h|⟨j,h,hj⟩
    ·exact h
    ·rw [List.length_drop] at hj;omega
   rw [hno,if_pos rfl]
   refine Ev.step (f:=fun _=>some (-1)) (fun k=>?_) (Ev.now _)
   simp only [ebbtideref05_find.l0]
   rw [hw,if_neg (by omega)]
theorem find_all (s sub:ByteArray) (hs:s.size≤1000000) (hb:(bl sub).length=1∨(bl sub).length=2) (hp:∀ l:List UInt8,(bl sub).isPrefixOf l=decide (l.take (bl sub).length=bl sub)):Ev (fun k=>ebbtideref05_find.f k s sub) (Lib.index (bl s) (bl sub)):=by
 have:=find_at s sub hs hb hp s.size 0 (by omega)
 rw [List.drop_zero] at this
 unfold ebbtideref05_find.f
 by_cases h:Lib.index (bl s) (bl sub) = -1
 ·rw [if_pos h] at this;rw [h];exact this
 ·rw [if_neg h] at this;simpa using this
theorem index_one (c:UInt8):∀ l:List UInt8,Lib.index l [c]=Lib.indexByte l c
 | []=>rfl
 | b ::l=>by
  rw [idx_cons,Lib.index,index_one c l]
  by_cases h:b=c
  ·rw [if_pos h,if_pos (by simp [List.isPrefixOf,h])]
  ·rw [if_neg h,if_neg (by simp only [List.isPrefixOf,Bool.and_eq_true,beq_iff_eq,and_true];exact fun e=>h e.symm)]
   by_cases h2:Lib.indexByte l c = -1<;>simp [h2]
def neAt (s:ByteArray):Int:=Lib.index (bl s) [33,61]
def endC (c:UInt8) (l:List UInt8):Bool:=decide (l[l.length - 1]?=some c)
theorem endC_pos (c:UInt8) (l:List UInt8) (h:0<l.length):endC c l=true↔l[l.length - 1]'(by omega)=c:=by
 unfold endC
 rw [List.getElem?_eq_getElem (by omega),decide_eq_true_eq,Option.some.injEq]
theorem suffixC_f (c:UInt8) (a:ByteArray) (hs:a.size≤1000000):strings_CutSuffix.f a (⟨#[c]⟩:ByteArray)=some (if endC c (bl a)=true then (mkB (bl a).dropLast,true) else (a,false)):=by
 have e1:(((⟨#[c]⟩:ByteArray).size:Nat):Int)=1:=rfl
 have hz:=size_bl a
 have e3:(⟨#[c]⟩:ByteArray).toList=[c]:=by rw [toList_bl];rfl
 unfold strings_CutSuffix.f stringslite_CutSuffix.f stringslite_HasSuffix.f
 rw [e1,e3]
 by_cases h0:bl a=[]
 ·have:a.size=0:=by rw [← hz,h0];rfl
  rw [if_neg (by omega),h0,if_neg (show ¬ endC c []=true by simp [endC])]
  simp
 ·have hpos:0<(bl a).length:=List.length_pos_iff.2 h0
  have e2:wrap64 ((a.size:Int) - 1)=((a.size - 1:Nat):Int):=by unfold wrap64;omega
  rw [if_pos (by omega),e2,if_pos (by omega),if_pos (by omega),toList_bl,bl_extract]
  simp only [Option.bind_some,Int.toNat_natCast]
  rw [List.take_of_length_le (by omega),← hz,last_drop _ hpos]
  by_cases hl:(bl a)[(bl a).length - 1]'(by omega)=c
  ·rw [if_pos (by rw [hl];simp),if_pos (by omega),if_pos (by omega)]
   rw [if_pos ((endC_pos c _ hpos).2 hl)]
   simp only [Option.bind_some,Option.some.injEq,Prod.mk.injEq,and_true]
   apply bl_inj
   rw [bl_extract,bl_mkB,List.dropLast_eq_take];simp
  ·rw [if_neg (by simpa using hl)]
   rw [if_neg (fun h=>hl ((endC_pos c _ hpos).1 h))]
   rfl
def partM (s:ByteArray):MT :=
 if 0≤neAt s then ⟨2,mkB ((bl s).take (neAt s).toNat),mkB ((bl s).drop ((neAt s).toNat+2))⟩
 else if (cutB 61 s).2.2=true then (if endC 42 (bl (cutB 61 s).2.1)=true then ⟨3,(cutB 61 s).1,mkB (bl (cutB 61 s).2.1).dropLast⟩ else ⟨1,(cutB 61 s).1,(cutB 61 s).2.1⟩)
 else ⟨4,s,NoB⟩
theorem ext_takeI (s:ByteArray) (i:Nat):s.extract 0 ((i:Int)).toNat=mkB ((bl s).take i):=by rw [Int.toNat_natCast];exact ext_take s i
theorem ext_dropI (s:ByteArray) (i:Nat):s.extract ((i:Int)).toNat s.size=mkB ((bl s).drop i):=by rw [Int.toNat_natCast];exact ext_drop s i
theorem cut2_f (s:ByteArray) (hs:s.size≤1000000):strings_Cut.f s (⟨#[33,61]⟩:ByteArray)=some (if 0≤neAt s then (mkB ((bl s).take (neAt s).toNat),mkB ((bl s).drop ((neAt s).toNat+2)),true) else (s,NoB,false)):=by
 have hz:=size_bl s
 unfold strings_Cut.f stringslite_Cut.f
 have e:stringslite_Index.f s ⟨#[33,61]⟩=some (neAt s):=by
  show (if s.size<4294967281 then some (Lib.index s.data.toList [33,61]) else none)=_
  rw [if_pos (by omega)];rfl
 rw [e]
 simp only [Option.bind_some]
 rcases index_le [33,61] (bl s) with h|⟨i,h,hi⟩
 ·have h':neAt s = -1:=h
  rw [h',if_neg (by decide),if_neg (by decide)];rfl
 ·have h':neAt s=(i:Int):=h
  have e1:(((⟨#[33,61]⟩:ByteArray).size:Nat):Int)=2:=rfl
  have e2:wrap64 ((i:Int)+2)=((i+2:Nat):Int):=by unfold wrap64;simp only [List.length_cons,List.length_nil] at hi;omega
  simp only [List.length_cons,List.length_nil] at hi
  rw [h',e1,e2,if_pos (by omega),if_pos (by omega),if_pos (by omega),if_pos (by omega),if_pos (by omega),if_pos (by omega),ext_takeI,ext_dropI]
  simp
theorem read_f (s:ByteArray) (hs:s.size≤1000000):pick_read.f s=some ((partM s).f0,(partM s).f1,(partM s).f2):=by
 unfold pick_read.f partM
 have hc:=cut_size 61 s
 rw [cut2_f s hs]
 simp only [Option.bind_some]
 by_cases h:0≤neAt s
 ·rw [if_pos h,if_pos h];rfl
 ·rw [if_neg h,if_neg h,if_neg (by simp)]
  rw [cut_f 61 s (by omega)]
  simp only [Option.bind_some]
  by_cases h2:(cutB 61 s).2.2=true
  ·rw [if_pos h2,if_pos h2,suffixC_f 42 _ (by omega)]
   simp only [Option.bind_some]
   by_cases h3:endC 42 (bl (cutB 61 s).2.1)=true
   ·rw [if_pos h3,if_pos h3];rfl
   ·rw [if_neg h3,if_neg h3];rfl
  ·rw [if_neg h2,if_neg h2]
end Go.Proofs.YteaadaaghhojfaaGreatDoor.Pure
