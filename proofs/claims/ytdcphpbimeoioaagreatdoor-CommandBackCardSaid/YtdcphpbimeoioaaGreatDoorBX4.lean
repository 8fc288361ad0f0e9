/- A part of the proof: ZXGZ6, ZXGZ7, ZXGP6, ZXGZ8, ZXGZ9, ZXGN1, ZXGN2, ZXGN4, ZXGN5, ZXGN6, ZXHJ, ZXHK1, ZXHK2, ZXGZA, ZXHL, ZXGZB, ZXGZC. No condition. -/
import Derived.Test.YtdcphpbimeoioaaGreatDoorBX3
import Derived.Maps.RangeRun
import Derived.MapKept
import Derived.ChangeMaps5
import Derived.Test.YtdcphpbimeoioaaGreatDoorProg
section
set_option linter.unusedSectionVars false
namespace Go.Proofs.YtdcphpbimeoioaaGreatDoorE
open Go Go.Proofs
set_option linter.unusedVariables false
set_option linter.unusedSimpArgs false
theorem fields_l0 (n:Nat) (l:List ByteArray) (hl:l.length≤1000000):∀ (d i g:Nat) (acc:List ByteArray),i+d=l.length→acc.length≤i→d<g →
  r02_Fields_l0 n g (acc,l,(i:Int),())=some (.inl (acc++(l.drop i).filter full,()))∧word_Fields_l0 n g (acc,l,(l.length:Int),(i:Int),())=some (.inl (acc++(l.drop i).filter full,()))
 | 0,i,g,acc,hd,ha,hg=>by
  obtain ⟨g,rfl⟩:∃ g',g=g'+1:=⟨g - 1,by omega⟩
  have k:¬ (i:Int)<(l.length:Int):=by omega
  rw [List.drop_of_length_le (by omega)]
  simp [r02_Fields_l0,word_Fields_l0,k]
 | d+1,i,g,acc,hd,ha,hg=>by
  obtain ⟨g,rfl⟩:∃ g',g=g'+1:=⟨g - 1,by omega⟩
  have hi:i<l.length:=by omega
  have k:(i:Int)<(l.length:Int):=by omega
  have k0:(0:Int)≤i:=by omega
  have r1:room (acc.length+1) 16=true:=room_of (by omega)
  obtain ⟨a1,b1⟩:=fields_l0 n l hl d (i+1) g (acc++[l[i]]) (by omega) (by simp;omega) (by omega)
  obtain ⟨a2,b2⟩:=fields_l0 n l hl d (i+1) g acc (by omega) (by omega) (by omega)
  have e:full l[i] = !decide (bl l[i]=[]):=by unfold full;simp
  rw [drop_eq hi,List.filter_cons,e]
  simp only [r02_Fields_l0,word_Fields_l0,ilt_eq,ile_eq,ilen,k,k0,decide_true,cond_true,lat_eq,iN,Int.toNat_natCast,List.getElem?_eq_getElem hi,bindN_s,seq_eq,eqbl,empty_bl,roomA,List.length_singleton,r1,app,iadd1 (i:=i) (by omega),bindL_id2,a1,a2,b1,b2]
  by_cases h:bl l[i]=[]
  ·simp [h]
  ·simp [h]
theorem r02_Fields_v {n:Nat} (hn:Big n) (s:ByteArray) (hs:s.size≤900000):r02_Fields n (s,())=some ((fieldsB s,()),((),())):=by
 have hS:=r02_Split_v hn 32 s (by omega)
 rw [show (((32:UInt8).toNat:Nat):Int)=32 from rfl] at hS
 have hl:=splitB_len 32 s
 have h:=(fields_l0 n (splitB 32 s) (by omega) (splitB 32 s).length 0 n [] (by omega) (by simp) (by unfold Big at hn;omega)).1
 rw [show ((0:Nat):Int)=0 from rfl,List.drop_zero,List.nil_append] at h
 simp only [r02_Fields,hS,bindN_s,h,bindL_inl]
 rfl
theorem word_Fields_v {n:Nat} (hn:Big n) (s:ByteArray) (hs:s.size≤900000):word_Fields n (s,())=some ((fieldsB s,()),((),())):=by
 have hS:=word_Split_v hn 32 s (by omega)
 rw [show (((32:UInt8).toNat:Nat):Int)=32 from rfl] at hS
 have hl:=splitB_len 32 s
 have h:=(fields_l0 n (splitB 32 s) (by omega) (splitB 32 s).length 0 n [] (by omega) (by simp) (by unfold Big at hn;omega)).2
 rw [show ((0:Nat):Int)=0 from rfl,List.drop_zero,List.nil_append] at h
 simp only [word_Fields,hS,bindN_s,ilen,h,bindL_inl]
 rfl
theorem r03_right_l0 {n:Nat} (hn:Big n) (l:List TG) (hl:l.length≤1000000):r03_Right_l0 n n (l,(0:Int),())=some (bif l.all mayT && chainT l then .inl (l,()) else .inr (false,())):=by
 have:=up_loop (m:=l.length) (L:=fun g i=>r03_Right_l0 n g (l,i,())) (spec:=fun i=>bif (l.drop i).all mayT && chainT (l.drop (i - 1)) then .inl (l,()) else .inr (false,())) (fun g=>by
  have e:chainT (l.drop (l.length - 1))=true:=by
   by_cases h:l.length=0
   ·rw [List.length_eq_zero_iff.1 h];rfl
   ·rw [drop_eq (by omega:l.length - 1<l.length),List.drop_of_length_le (by omega)];rfl
  simp [r03_Right_l0,e]) (fun g i hi ih=>by
  have k:(i:Int)<(l.length:Int):=by omega
  have k0:(0:Int)≤i:=by omega
  rw [drop_eq hi,List.all_cons]
  simp only [r03_Right_l0,ilt_eq,ile_eq,ilen,k,k0,decide_true,cond_true,lat_eq,iN,Int.toNat_natCast,List.getElem?_eq_getElem hi,bindN_s,r03_may_v0 hn l[i],iadd1 (i:=i) (by omega),bindL_id1,ih]
  cases mayT l[i] with
  | false=>simp
  | true =>
   simp only [Bool.not_true,cond_false,Bool.true_and,Nat.add_sub_cancel]
   by_cases h0:(0:Int)<(i:Int)
   ·obtain ⟨j,rfl⟩:∃ j,i=j+1:=⟨i - 1,by omega⟩
    have e0:isub .i64 ((j+1:Nat):Int) 1=(j:Int):=by rw [isub64 (by omega) (by omega)];omega
    have k1:(0:Int)≤(j:Int):=by omega
    have hj:j<l.length:=by omega
    have hc:=chain_drop l j hi
    simp only [h0,e0,k1,decide_true,cond_true,Int.toNat_natCast,List.getElem?_eq_getElem hj,bindN_s,slt_eq,Nat.add_sub_cancel]
    rw [hc]
    show (bif !lessT l[j] l[j+1] then _ else _)=_
    cases lessT l[j] l[j+1]<;>simp
   ·have e:i=0:=by omega
    subst e
    simp) l.length 0 n (by omega) (by unfold Big at hn;omega)
 rw [show ((0:Nat):Int)=0 from rfl] at this
 simpa using this
theorem r03_Right_v {n:Nat} (hn:Big n) (l:List TG) (hl:l.length≤1000000):r03_Right n (l,())=some ((rightT l,()),((),())):=by
 have h:=r03_right_l0 hn l hl
 have e:decide ((l.length:Int)≤4)=decide (l.length≤4):=by rw [decide_eq_decide];omega
 unfold rightT
 simp only [r03_Right,h]
 cases l.all mayT<;>cases chainT l<;>simp [ilen,e]
theorem r04_Right_v {n:Nat} (hn:Big n) (k:El tKey) (hl:k.2.1.length≤1000000):r04_Right n (k,())=some ((rightK k.1 k.2.1,()),((),())):=by
 have h:=r03_Right_v hn k.2.1 hl
 have h':r03_Right n k.2=_:=h
 unfold rightK
 simp only [r04_Right,r02_Name_v0 hn k.1,bindN_s,h']
 cases nameL (bl k.1)<;>rfl
theorem tag_Right_v {n:Nat} (hn:Big n) (l:List TG) (hl:l.length≤1000000) (hE:∀ a:List TG,a.length≤1000000→sl_EqTag n (a,l,())=some ((eqb a l,()),((),(),()))):tag_Right n (l,())=some ((rightT l,()),((),())):=by
 have hC:=tag_Canon_v hn l hl
 have hs:=canon_same l
 have hlen:(canonT l).1.length≤1000000:=by
  rcases canon_out l with ⟨_,_,hp⟩|⟨_,h⟩
  ·rw [hp.length_eq];exact hl
  ·rw [h];simp
 have hE':=hE (canonT l).1 hlen
 simp only [tag_Right,hC,bindN_s,ieq_eq,hE']
 cases hr:rightT l with
 | true =>
  obtain ⟨h1,h2⟩:=hs.2 hr
  simp [h1,h2]
 | false =>
  by_cases h1:(canonT l).2=0
  ·have h2:¬ (canonT l).1=l:=fun h2=>by rw [hs.1 ⟨h1,h2⟩] at hr;cases hr
   simp [h1,eqb_f h2]
  ·simp [h1]
theorem key_Right_v {n:Nat} (hn:Big n) (k:El tKey) (hl:k.2.1.length≤1000000) (hE:∀ a:List TG,a.length≤1000000→sl_EqTag n (a,k.2.1,())=some ((eqb a k.2.1,()),((),(),()))):key_Right n (k,())=some ((rightK k.1 k.2.1,()),((),())):=by
 have h:=tag_Right_v hn k.2.1 hl hE
 have h':tag_Right n k.2=_:=h
 unfold rightK
 simp only [key_Right,word_Name_v0 n k.1,bindN_s,h']
 cases nameL (bl k.1)<;>rfl
theorem join2_eq (c:List UInt8) (a b:ByteArray):(a++mkB c)++b=joinB (mkB c) [a,b]:=bl_inj (by rw [bl_join2,bl_append,bl_append])
theorem join2_star (a b:ByteArray):((a++mkB [61])++b)++mkB [42]=joinB (mkB [61]) [a,b++mkB [42]]:=bl_inj (by rw [bl_join2,bl_append,bl_append,bl_append,bl_append];simp)
theorem pick_text_v (n:Nat) (m:MT) (h1:m.2.1.size≤1000000) (h2:m.2.2.1.size≤1000000):pick_text n ((m,()),())=some ((matchB m,()),((),())):=by
 have z1:=size_bl m.2.1
 have z2:=size_bl m.2.2.1
 have j1:=word_Join_v n (mkB [61]) [m.2.1,m.2.2.1] (by simp) (by rw [bl_join2,bl_mkB];simp;omega)
 have j2:=word_Join_v n (mkB [33,61]) [m.2.1,m.2.2.1] (by simp) (by rw [bl_join2,bl_mkB];simp;omega)
 have j3:=word_Join_v n (mkB [61]) [m.2.1,m.2.2.1++mkB [42]] (by simp) (by rw [bl_join2,bl_append,bl_mkB,bl_mkB];simp;omega)
 have f:sfits m.2.2.1 (mkB [42])=true:=sfits_of (by rw [size_mkB];simp;omega)
 unfold matchB
 simp only [pick_text,ieq_eq]
 rw [show (⟨#[61]⟩:ByteArray)=mkB [61] from rfl,show (⟨#[33,61]⟩:ByteArray)=mkB [33,61] from rfl,show (⟨#[42]⟩:ByteArray)=mkB [42] from rfl]
 by_cases q1:m.1=1
 ·simp only [q1,decide_true,cond_true,j1,bindN_s,if_true]
 ·by_cases q2:m.1=2
  ·simp only [q2,show ¬ (2:Int)=1 by decide,decide_true,decide_false,cond_true,cond_false,j2,bindN_s,if_true,if_false]
  ·by_cases q3:m.1=3
   ·simp only [q3,show ¬ (3:Int)=1 by decide,show ¬ (3:Int)=2 by decide,decide_true,decide_false,cond_true,cond_false,f,scat_eq,j3,bindN_s,if_true,if_false]
   ·simp only [q1,q2,q3,decide_false,cond_false,if_false]
theorem pick_text_l0 (n:Nat) (l:List MT) (hf:FitM l):∀ (d i g:Nat) (acc:List ByteArray),i+d=l.length→acc.length≤i→d<g →
  pick_Text_l0 n g (acc,l,(l.length:Int),(i:Int),())=some (.inl (acc++(l.drop i).map matchB,()))∧r05_Text_l0 n g (l,acc,(i:Int),())=some (.inl (acc++(l.drop i).map matchB,()))
 | 0,i,g,acc,hd,ha,hg=>by
  obtain ⟨g,rfl⟩:∃ g',g=g'+1:=⟨g - 1,by omega⟩
  have k:¬ (i:Int)<(l.length:Int):=by omega
  rw [List.drop_of_length_le (by omega)]
  simp [pick_Text_l0,r05_Text_l0,k]
 | d+1,i,g,acc,hd,ha,hg=>by
  obtain ⟨g,rfl⟩:∃ g',g=g'+1:=⟨g - 1,by omega⟩
  have hl:=hf.1
  have hi:i<l.length:=by omega
  have k:(i:Int)<(l.length:Int):=by omega
  have k0:(0:Int)≤i:=by omega
  obtain ⟨h1,h2⟩:=hf.2 _ (List.getElem_mem hi)
  have hT:=pick_text_v n l[i] h1 h2
  have r1:room (acc.length+1) 16=true:=room_of (by omega)
  obtain ⟨a1,b1⟩:=pick_text_l0 n l hf d (i+1) g (acc++[matchB l[i]]) (by omega) (by simp;omega) (by omega)
  rw [drop_eq hi,List.map_cons]
  have em:acc++matchB l[i] ::(l.drop (i+1)).map matchB=acc++[matchB l[i]]++(l.drop (i+1)).map matchB:=by simp
  rw [em]
  constructor
  ·simp only [pick_Text_l0,ilt_eq,ile_eq,k,k0,decide_true,cond_true,lat_eq,iN,Int.toNat_natCast,List.getElem?_eq_getElem hi,bindN_s,hT,roomA,List.length_singleton,r1,app,iadd1 (i:=i) (by omega),bindL_id2,a1]
  ·have s1:(mkB [61]).size=1:=rfl
   have s2:(mkB [33,61]).size=2:=rfl
   have s3:(mkB [42]).size=1:=rfl
   have f1:sfits l[i].2.1 (mkB [61])=true:=sfits_of (by omega)
   have f2:sfits l[i].2.1 (mkB [33,61])=true:=sfits_of (by omega)
   have f3:sfits (l[i].2.1++mkB [61]) l[i].2.2.1=true:=sfits_of (by rw [ByteArray.size_append];omega)
   have f4:sfits (l[i].2.1++mkB [33,61]) l[i].2.2.1=true:=sfits_of (by rw [ByteArray.size_append];omega)
   have f5:sfits ((l[i].2.1++mkB [61])++l[i].2.2.1) (mkB [42])=true:=sfits_of (by rw [ByteArray.size_append,ByteArray.size_append];omega)
   rw [← b1]
   simp only [r05_Text_l0,ilt_eq,ile_eq,ieq_eq,ilen,k,k0,decide_true,cond_true,lat_eq,iN,Int.toNat_natCast,List.getElem?_eq_getElem hi,bindN_s]
   rw [show (⟨#[61]⟩:ByteArray)=mkB [61] from rfl,show (⟨#[33,61]⟩:ByteArray)=mkB [33,61] from rfl,show (⟨#[42]⟩:ByteArray)=mkB [42] from rfl]
   simp only [f1,f2,f3,f4,f5,scat_eq,cond_true,roomA,List.length_singleton,r1,app,iadd1 (i:=i) (by omega),bindL_id2,join2_eq,join2_star]
   unfold matchB
   by_cases q1:l[i].1=1
   ·simp only [q1,decide_true,cond_true,if_true]
   ·by_cases q2:l[i].1=2
    ·simp only [q2,show ¬ (2:Int)=1 by decide,decide_true,decide_false,cond_true,cond_false,if_true,if_false]
    ·by_cases q3:l[i].1=3
     ·rw [← join2_eq [61] l[i].2.1 l[i].2.2.1]
      simp only [q3,show ¬ (3:Int)=1 by decide,show ¬ (3:Int)=2 by decide,decide_true,decide_false,cond_true,cond_false,if_true,if_false,f5,join2_star]
     ·simp only [q1,q2,q3,decide_false,cond_false,if_false]
theorem pick_Text_v {n:Nat} (hn:Big n) (l:List MT) (hf:FitM l):pick_Text n (l,())=some ((textM l,()),((),())):=by
 have hl:=hf.1
 have h:=(pick_text_l0 n l hf l.length 0 n [] (by omega) (by simp) (by unfold Big at hn;omega)).1
 rw [show ((0:Nat):Int)=0 from rfl,List.drop_zero,List.nil_append] at h
 have hj:=word_Join_v n (mkB [44]) (l.map matchB) (by simp;omega) (Nat.le_trans (fitM_text hf) (by decide))
 rw [show mkB [44]=(⟨#[44]⟩:ByteArray) from rfl] at hj
 simp only [pick_Text,ilen,h,bindL_inl,hj,bindN_s]
 rfl
theorem r05_Text_v {n:Nat} (hn:Big n) (l:List MT) (hf:FitM l):r05_Text n (l,())=some ((textM l,()),((),())):=by
 have hl:=hf.1
 have h:=(pick_text_l0 n l hf l.length 0 n [] (by omega) (by simp) (by unfold Big at hn;omega)).2
 rw [show ((0:Nat):Int)=0 from rfl,List.drop_zero,List.nil_append] at h
 have hj:=r02_Join_v hn (mkB [44]) (l.map matchB) (by simp;omega) (Nat.le_trans (fitM_text hf) (by decide))
 rw [show mkB [44]=(⟨#[44]⟩:ByteArray) from rfl] at hj
 simp only [r05_Text,h,bindL_inl,hj,bindN_s]
 rfl
theorem cut2_v (n:Nat) (s:ByteArray) (hs:s.size≤1000000):s_Cut n (s,(⟨#[33,61]⟩:ByteArray),())=some ((if 0≤neAt s then (mkB ((bl s).take (neAt s).toNat),mkB ((bl s).drop ((neAt s).toNat+2)),true,()) else (s,(⟨#[]⟩:ByteArray),false,())),((),(),())):=by
 have hz:=size_bl s
 have e:s_Index1 n (s,(⟨#[33,61]⟩:ByteArray),())=some ((neAt s,()),((),(),())):=by
  have hb:Nat.blt s.size 4294967281=true:=by rw [Nat.blt_eq];omega
  show (bif Nat.blt s.size 4294967281 then _ else _)=_
  rw [hb];rfl
 have e1:(((⟨#[33,61]⟩:ByteArray).size:Nat):Int)=2:=rfl
 unfold s_Cut s_slCut
 simp only [e,bindN_s]
 rcases index_le [33,61] (bl s) with h|⟨m,h,hm⟩
 ·have h':neAt s = -1:=h
  rw [h'];simp
 ·have h':neAt s=(m:Int):=h
  have hm':m+2≤s.size:=by rw [← hz];exact hm
  have k1:(0:Int)≤m:=by omega
  have k2:(m:Int)≤s.size:=by omega
  have e3:iadd .i64 (m:Int) 2=((m+2:Nat):Int):=by rw [iadd64 (by omega) (by omega)];rfl
  have k3:(0:Int)≤((m+2:Nat):Int):=by omega
  have k4:((m+2:Nat):Int)≤s.size:=by omega
  rw [h']
  simp only [ile_eq,ssize_eq,e1,e3,k1,k2,k3,k4,decide_true,cond_true,Int.le_refl,sext_eq,Int.toNat_natCast,Int.toNat_zero,bindN_s,if_true,ext_take,ext_drop]
  rfl
theorem pick_read_v (n:Nat) (s:ByteArray) (hs:s.size≤1000000):pick_read n (s,())=some ((partM s,()),((),())):=by
 have hc:=cut_size 61 s
 have h2:=cut2_v n s hs
 have h1:=s_Cut_v n 61 s (by omega)
 have hX:=cutSuffix1 n (cutB 61 s).2.1 42 (by omega)
 unfold partM
 simp only [pick_read,h2,bindN_s]
 by_cases q0:0≤neAt s
 ·simp only [q0,if_true,cond_true]
 ·simp only [q0,if_false,cond_false,h1,bindN_s]
  cases q1:(cutB 61 s).2.2 with
  | false=>simp
  | true =>
   simp only [Bool.not_true,cond_false,hX,bindN_s,if_true]
   cases q2:endC 42 (bl (cutB 61 s).2.1)<;>simp
theorem find_spec (n:Nat) (s w:ByteArray) (hs:s.size≤1000000) (hw:1≤w.size) (hw2:w.size≤1000000):∀ (d i g:Nat),i+d=s.size→d<g →
  r05_find_l0 n g (s,w,(i:Int),())=some (if Lib.index ((bl s).drop i) (bl w)<0 then .inl () else .inr ((i:Int)+Lib.index ((bl s).drop i) (bl w),()))
 | d,i,g,hd,hg=>by
  obtain ⟨g,rfl⟩:∃ g',g=g'+1:=⟨g - 1,by omega⟩
  have hz:=size_bl s
  have hzw:=size_bl w
  have ew:iadd .i64 (i:Int) (w.size:Int)=((i+w.size:Nat):Int):=by rw [iadd64 (by omega) (by omega)];omega
  by_cases h:i+w.size≤s.size
  ·obtain ⟨d,rfl⟩:∃ d',d=d'+1:=⟨d - 1,by omega⟩
   have hi:i<(bl s).length:=by omega
   have k:((i+w.size:Nat):Int)≤(s.size:Int):=by omega
   have k0:(0:Int)≤i:=by omega
   have k1:(i:Int)≤((i+w.size:Nat):Int):=by omega
   have ih:=find_spec n s w hs hw hw2 d (i+1) g (by omega) (by omega)
   have ex:(s.extract i (i+w.size)=w)=((bl w).isPrefixOf ((bl s).drop i)=true):=by
    apply propext
    rw [List.isPrefixOf_iff_prefix,List.prefix_iff_eq_take]
    have e2:bl (s.extract i (i+w.size))=((bl s).drop i).take (bl w).length:=by
     rw [bl_extract,List.drop_take,hzw];congr 1;omega
    constructor
    ·intro hh;rw [← e2,hh]
    ·intro hh;apply bl_inj;rw [e2,← hh]
   have hdr:=drop_eq hi
   simp only [r05_find_l0,ile_eq,ssize_eq,ew,k,k0,k1,decide_true,cond_true,seq_eq,sext_eq,Int.toNat_natCast,ex,iadd1 (i:=i) (by omega),ih,bindL_id1,bindL_id]
   rw [hdr,Lib.index,← hdr]
   cases hp:(bl w).isPrefixOf ((bl s).drop i) with
   | true=>simp
   | false =>
    simp only [decide_false,Bool.false_eq_true,cond_false,if_false]
    rcases index_le (bl w) ((bl s).drop (i+1)) with q|⟨m,q,_⟩
    ·rw [q];simp
    ·rw [q]
     have e3:((m:Int) == -1)=false:=by simp
     have e4:¬ (m:Int)<0:=by omega
     have e5:¬ (m:Int)+1<0:=by omega
     simp only [e3,Bool.false_eq_true,if_false,if_neg e4,if_neg e5]
     rw [show ((i+1:Nat):Int)+(m:Int)=(i:Int)+((m:Int)+1) by omega]
  ·have k:¬ ((i+w.size:Nat):Int)≤(s.size:Int):=by omega
   have hx:Lib.index ((bl s).drop i) (bl w) = -1:=by
    rcases index_le (bl w) ((bl s).drop i) with q|⟨m,q,hm⟩
    ·exact q
    ·rw [List.length_drop] at hm;omega
   simp only [r05_find_l0,ile_eq,ssize_eq,ew,k,decide_false,cond_false,hx]
   rfl
theorem r05_find_v {n:Nat} (hn:Big n) (s w:ByteArray) (hs:s.size≤1000000) (hw:1≤w.size) (hw2:w.size≤1000000):r05_find n (s,w,())=some ((Lib.index (bl s) (bl w),()),((),(),())):=by
 have h:=find_spec n s w hs hw hw2 s.size 0 n (by omega) (by unfold Big at hn;omega)
 rw [show ((0:Nat):Int)=0 from rfl,List.drop_zero,Int.zero_add] at h
 simp only [r05_find,h]
 rcases index_le (bl w) (bl s) with q|⟨m,q,hm⟩
 ·rw [q];simp
 ·have:¬ (m:Int)<0:=by omega
  rw [q];simp [this]
theorem r05_part_v {n:Nat} (hn:Big n) (s:ByteArray) (hs:s.size≤1000000):r05_part n (s,())=some ((partM s,()),((),())):=by
 have hz:=size_bl s
 have f1:=r05_find_v hn s (⟨#[33,61]⟩:ByteArray) hs (by decide) (by decide)
 have f2:=r05_find_v hn s (⟨#[61]⟩:ByteArray) hs (by decide) (by decide)
 have e1:Lib.index (bl s) (bl (⟨#[33,61]⟩:ByteArray))=neAt s:=rfl
 have e2:Lib.index (bl s) (bl (⟨#[61]⟩:ByteArray))=Lib.indexByte (bl s) 61:=index_one 61 (bl s)
 rw [e1] at f1
 rw [e2] at f2
 unfold partM cutB
 simp only [r05_part,f1,f2,bindN_s,ile_eq,ilt_eq]
 rcases index_le [33,61] (bl s) with h|⟨m,h,hm⟩
 ·have h':neAt s = -1:=h
  rw [h']
  have hx:=idx_lt (bl s) 61
  by_cases h0:Lib.indexByte (bl s) 61<0
  ·simp [h0]
  ·obtain ⟨m,hm⟩:=Int.eq_ofNat_of_zero_le (show 0≤Lib.indexByte (bl s) 61 by omega)
   have hg:=idx_get 61 (bl s) m hm
   rw [hm] at hx h0 ⊢
   have hm':m<s.size:=by omega
   have c1:isub .i64 (s.size:Int) 1=((s.size - 1:Nat):Int):=by rw [isub64 (by omega) (by omega)];omega
   have c2:(0:Int)≤((s.size - 1:Nat):Int):=by omega
   have c3:((s.size - 1:Nat):Int)<s.size:=by omega
   have c4:(0:Int)≤m:=by omega
   have c5:(m:Int)≤s.size:=by omega
   have c6:(0:Int)≤((m+1:Nat):Int):=by omega
   have c7:((m+1:Nat):Int)≤s.size:=by omega
   have c8:((s.size - 1:Nat):Int)≤s.size:=by omega
   have hs1:=sat_bl s (s.size - 1) (by omega)
   have u:((((bl s)[s.size - 1]'(by omega)).toNat:Int)=42)=((bl s)[s.size - 1]'(by omega)=42):=u8i _ 42
   have hE:endC 42 (bl (s.extract (m+1) s.size))=decide ((bl s)[s.size - 1]'(by omega)=42):=by
    rw [ext_drop s (m+1),bl_mk ((bl s).drop (m+1))]
    unfold endC
    rw [List.length_drop,show (bl s).length - (m+1) - 1=s.size - (m+1) - 1 by omega]
    by_cases hl:m+1=s.size
    ·have e:(bl s)[s.size - 1]'(by omega)=61:=by
      have:(bl s)[m]?=some 61:=hg
      rw [List.getElem?_eq_getElem (by omega)] at this
      have e3:(bl s)[s.size - 1]'(by omega)=(bl s)[m]'(by omega):=by congr 1;omega
      rw [e3];exact Option.some.inj this
     rw [e,List.drop_of_length_le (by omega)]
     simp
    ·rw [List.getElem?_drop,show m+1+(s.size - (m+1) - 1)=s.size - 1 by omega,List.getElem?_eq_getElem (by omega)]
     simp
   simp only [show ¬ (0:Int) ≤ -1 by decide,decide_false,cond_false,h0,ssize_eq,c1,c2,c3,decide_true,cond_true,hs1,ieq_eq,u,Int.le_refl,c4,c5,c6,c7,c8,iadd1 (i:=m) (by omega),sext_eq,Int.toNat_natCast,Int.toNat_zero,if_false,if_true]
   rw [hE]
   by_cases hl:(bl s)[s.size - 1]'(by omega)=42
   ·have hne:m+1≠s.size:=fun e=>by
     have:(bl s)[m]?=some 61:=hg
     rw [List.getElem?_eq_getElem (by omega)] at this
     have e3:(bl s)[s.size - 1]'(by omega)=(bl s)[m]'(by omega):=by congr 1;omega
     rw [e3,Option.some.inj this] at hl
     exact absurd hl (by decide)
    have c9:((m+1:Nat):Int)≤((s.size - 1:Nat):Int):=by omega
    have ed:s.extract (m+1) (s.size - 1)=mkB (bl (s.extract (m+1) s.size)).dropLast:=by
     apply bl_inj
     rw [bl_mkB,bl_extract,bl_extract,List.dropLast_eq_take,List.length_drop,List.length_take,hz,List.drop_take,List.drop_take,List.take_take]
     congr 1;omega
    simp only [hl,decide_true,cond_true,c9,if_true,ed]
   ·simp only [hl,decide_false,cond_false,if_false,Bool.false_eq_true]
 ·have h':neAt s=(m:Int):=h
  have hm':m+2≤s.size:=by rw [← hz];exact hm
  have k1:(0:Int)≤m:=by omega
  have k2:(m:Int)≤s.size:=by omega
  have e3:iadd .i64 (m:Int) 2=((m+2:Nat):Int):=by rw [iadd64 (by omega) (by omega)];rfl
  have k3:(0:Int)≤((m+2:Nat):Int):=by omega
  have k4:((m+2:Nat):Int)≤s.size:=by omega
  rw [h']
  simp only [ssize_eq,e3,k1,k2,k3,k4,decide_true,cond_true,Int.le_refl,sext_eq,Int.toNat_natCast,Int.toNat_zero,if_true,ext_take,ext_drop]
  rfl
def scanM:List MT→List ByteArray→Option (List MT)
 | acc,[]=>some acc
 | acc,x ::r=>if mayM (partM x)=true then scanM (acc++[partM x]) r else none
theorem goM_scan:∀ (ps:List ByteArray) (acc:List MT),goM acc ps=match scanM acc ps with|some o=>if o.length>4 then ([],4) else (o,0)|none=>([],2)
 | [],acc=>rfl
 | x ::r,acc=>by
  rw [goM,scanM]
  by_cases h:mayM (partM x)=true
  ·rw [if_pos h,if_pos h];exact goM_scan r _
  ·rw [if_neg h,if_neg h]
theorem pick_parse_l0 {n:Nat} (hn:Big n) (ps:List ByteArray) (hl:ps.length≤1000000) (hs:∀ x∈ps,x.size≤1000000):∀ (d i g:Nat) (acc:List MT),i+d=ps.length→acc.length≤i→d<g →
  pick_Parse_l0 n g (acc,ps,(ps.length:Int),(i:Int),())=some (match scanM acc (ps.drop i) with|some o => .inl (o,())|none => .inr ([],(2:Int),())) ∧
  r05_Parse_l0 n g (acc,ps,(i:Int),())=some (match scanM acc (ps.drop i) with|some o => .inl (o,())|none => .inr ([],(2:Int),()))
 | 0,i,g,acc,hd,ha,hg=>by
  obtain ⟨g,rfl⟩:∃ g',g=g'+1:=⟨g - 1,by omega⟩
  have k:¬ (i:Int)<(ps.length:Int):=by omega
  rw [List.drop_of_length_le (by omega)]
  simp [pick_Parse_l0,r05_Parse_l0,k,scanM]
 | d+1,i,g,acc,hd,ha,hg=>by
  obtain ⟨g,rfl⟩:∃ g',g=g'+1:=⟨g - 1,by omega⟩
  have hi:i<ps.length:=by omega
  have k:(i:Int)<(ps.length:Int):=by omega
  have k0:(0:Int)≤i:=by omega
  have hz:=hs _ (List.getElem_mem hi)
  have hR:=pick_read_v n ps[i] hz
  have hP:=r05_part_v hn ps[i] hz
  have hM:=pick_may_v n (partM ps[i])
  have hM':=r05_may_v hn (partM ps[i])
  have r1:room (acc.length+1) 40=true:=room_of (by omega)
  obtain ⟨a1,b1⟩:=pick_parse_l0 hn ps hl hs d (i+1) g (acc++[partM ps[i]]) (by omega) (by simp;omega) (by omega)
  rw [drop_eq hi,scanM]
  simp only [pick_Parse_l0,r05_Parse_l0,ilt_eq,ile_eq,ilen,k,k0,decide_true,cond_true,lat_eq,iN,Int.toNat_natCast,List.getElem?_eq_getElem hi,bindN_s,hR,hP,hM,hM',roomA,List.length_singleton,r1,app,iadd1 (i:=i) (by omega),bindL_id1,a1,b1]
  cases mayM (partM ps[i])<;>simp
theorem pick_Parse_v {n:Nat} (hn:Big n) (s:ByteArray) (hs:s.size≤900000):pick_Parse n (s,())=some (((parseM s).1,(parseM s).2,()),((),()))∧r05_Parse n (s,())=some (((parseM s).1,(parseM s).2,()),((),())):=by
 have h1:=splitB_len 44 s
 unfold parseM
 by_cases hb:bl s=[]
 ·simp [pick_Parse,r05_Parse,bl_nil,hb]
 ·have hS:=word_Split_v hn 44 s (by omega)
  have hS':=r02_Split_v hn 44 s (by omega)
  rw [show (((44:UInt8).toNat:Nat):Int)=44 from rfl] at hS hS'
  obtain ⟨a,b⟩:=pick_parse_l0 hn (splitB 44 s) (by omega) (fun x hx=>by have:=splitB_size 44 s x hx;omega) (splitB 44 s).length 0 n [] (by omega) (by simp) (by unfold Big at hn;omega)
  rw [show ((0:Nat):Int)=0 from rfl,List.drop_zero] at a b
  rw [if_neg hb,goM_scan]
  simp only [pick_Parse,r05_Parse,seq_eq,bl_nil,hb,decide_false,cond_false,hS,hS',bindN_s,ilen,a,b]
  cases hp:scanM [] (splitB 44 s) with
  | none=>simp
  | some o =>
   simp only [bindL_inl,ilt_eq]
   by_cases h4:o.length>4
   ·have h4':(4:Int)<(o.length:Int):=by omega
    simp [h4,h4']
   ·have h4':¬ (4:Int)<(o.length:Int):=by omega
    simp [h4,h4']
theorem r07_agg_v {n:Nat} (hn:Big n) (s:ByteArray):r07_agg n (s,())=some ((aggN s,()),((),())):=by
 obtain ⟨g,rfl⟩:∃ g,n=g+6:=⟨n - 6,by unfold Big at hn;omega⟩
 have i1:iadd .i64 1 1=2:=by decide+kernel
 have i2:iadd .i64 2 1=3:=by decide+kernel
 have i3:iadd .i64 3 1=4:=by decide+kernel
 have i4:iadd .i64 4 1=5:=by decide+kernel
 have c1:decide ((1:Int)<5)=true:=rfl
 have c2:decide ((2:Int)<5)=true:=rfl
 have c3:decide ((3:Int)<5)=true:=rfl
 have c4:decide ((4:Int)<5)=true:=rfl
 have c5:decide ((5:Int)<5)=false:=rfl
 have d1:decide ((0:Int)≤1)=true:=rfl
 have d2:decide ((0:Int)≤2)=true:=rfl
 have d3:decide ((0:Int)≤3)=true:=rfl
 have d4:decide ((0:Int)≤4)=true:=rfl
 generalize hW:[(⟨#[]⟩:ByteArray),(⟨#[99,111,117,110,116]⟩:ByteArray),(⟨#[115,117,109]⟩:ByteArray),(⟨#[109,105,110]⟩:ByteArray),(⟨#[109,97,120]⟩:ByteArray)]=W
 have w1:lat W (iN (1:Int))=some (⟨#[99,111,117,110,116]⟩:ByteArray):=by rw [← hW,lat_eq];rfl
 have w2:lat W (iN (2:Int))=some (⟨#[115,117,109]⟩:ByteArray):=by rw [← hW,lat_eq];rfl
 have w3:lat W (iN (3:Int))=some (⟨#[109,105,110]⟩:ByteArray):=by rw [← hW,lat_eq];rfl
 have w4:lat W (iN (4:Int))=some (⟨#[109,97,120]⟩:ByteArray):=by rw [← hW,lat_eq];rfl
 have wl:ilen W=5:=by rw [← hW];rfl
 have b1:decide ((⟨#[99,111,117,110,116]⟩:ByteArray)=s)=decide (bl s=[99,111,117,110,116]):=by rw [decide_eq_decide];exact ⟨fun h=>by rw [← h];rfl,fun h=>(bl_inj (b:=⟨#[99,111,117,110,116]⟩) h).symm⟩
 have b2:decide ((⟨#[115,117,109]⟩:ByteArray)=s)=decide (bl s=[115,117,109]):=by rw [decide_eq_decide];exact ⟨fun h=>by rw [← h];rfl,fun h=>(bl_inj (b:=⟨#[115,117,109]⟩) h).symm⟩
 have b3:decide ((⟨#[109,105,110]⟩:ByteArray)=s)=decide (bl s=[109,105,110]):=by rw [decide_eq_decide];exact ⟨fun h=>by rw [← h];rfl,fun h=>(bl_inj (b:=⟨#[109,105,110]⟩) h).symm⟩
 have b4:decide ((⟨#[109,97,120]⟩:ByteArray)=s)=decide (bl s=[109,97,120]):=by rw [decide_eq_decide];exact ⟨fun h=>by rw [← h];rfl,fun h=>(bl_inj (b:=⟨#[109,97,120]⟩) h).symm⟩
 unfold aggN r07_agg r07_aggs
 simp only [bindN_s,hW]
 simp only [r07_agg_l0,ilt_eq,ile_eq,seq_eq,wl,i1,i2,i3,i4,c1,c2,c3,c4,c5,d1,d2,d3,d4,w1,w2,w3,w4,b1,b2,b3,b4,cond_true,cond_false,bindN_s,bindL_id]
 by_cases h1:bl s=[99,111,117,110,116]
 ·simp [h1]
 ·by_cases h2:bl s=[115,117,109]
  ·simp [h2]
  ·by_cases h3:bl s=[109,105,110]
   ·simp [h3]
   ·by_cases h4:bl s=[109,97,120]<;>simp [h1,h2,h3,h4]
end Go.Proofs.YtdcphpbimeoioaaGreatDoorE
end
section
set_option linter.unusedSectionVars false
namespace Go.Proofs.YtdcphpbimeoioaaGreatDoorE
open Go Go.Proofs
set_option linter.unusedVariables false
set_option linter.unusedSimpArgs false
theorem bl_join4 (sep a b c d:ByteArray):bl (joinB sep [a,b,c,d])=bl a++(bl sep++(bl b++(bl sep++(bl c++(bl sep++bl d))))):=by
 rw [joinB_cons];simp [Lib.joinTail]
theorem zz:decide ((0:Int)<((0:Nat):Int))=false:=rfl
theorem agg_at {a:Int} (h1:1≤a) (h2:a≤4):lat [(⟨#[]⟩:ByteArray),(⟨#[99,111,117,110,116]⟩:ByteArray),(⟨#[115,117,109]⟩:ByteArray),(⟨#[109,105,110]⟩:ByteArray),(⟨#[109,97,120]⟩:ByteArray)] (iN a)=some (nameN a):=by
 have:a=1∨a=2∨a=3∨a=4:=by omega
 rcases this with rfl|rfl|rfl|rfl<;>(rw [lat_eq];rfl)
theorem r07_Text_v {n:Nat} (hn:Big n) (q:El tQuery) (hm:q.2.2.1.length≤1000000) (hb:q.2.2.2.1.length≤1000000):r07_Text n (q,())=some ((textQ q.1 q.2.1 q.2.2.1 q.2.2.2.1,()),((),())):=by
 have hR:=r07_Right_v hn q hm hb
 obtain ⟨a,nm,m,b,⟨⟩⟩:=q
 simp only at hR hm hb
 unfold textQ
 cases hr:rightQ a nm m b with
 | false=>rw [hr] at hR;simp [r07_Text,hR]
 | true =>
  rw [hr] at hR
  obtain ⟨⟨h1,h2⟩,h3,h4,h5⟩:=rightQ_parts hr
  have hA:=agg_at h1 h2
  have hT:=r05_Text_v hn m (rightM_fit h4)
  have zt:=textM_small h4
  have zb:=by_small h5
  have zv:=nameN_small a
  have zn:=(name_len _ h3).2
  have hJ:=r02_Join_v hn (mkB [44]) b hb (by omega)
  rw [show mkB [44]=(⟨#[44]⟩:ByteArray) from rfl] at hJ
  have hJ':r02_Join n ((⟨#[44]⟩:ByteArray),b,())=some ((joinB (mkB [44]) b,()),((),(),())):=hJ
  rw [size_bl] at zt zb zv zn
  have c0:(0:Int)≤a:=by omega
  have s1:(⟨#[32]⟩:ByteArray).size=1:=rfl
  have s2:(⟨#[123]⟩:ByteArray).size=1:=rfl
  have s3:(⟨#[125]⟩:ByteArray).size=1:=rfl
  have s4:(⟨#[32,98,121,32]⟩:ByteArray).size=4:=rfl
  generalize hv:nameN a=v at *
  generalize ht:textM m=t at *
  generalize hj:joinB (mkB [44]) b=j at *
  have f1:sfits v (⟨#[32]⟩:ByteArray)=true:=sfits_of (by omega)
  have f2:sfits (v++(⟨#[32]⟩:ByteArray)) nm=true:=sfits_of (by rw [ByteArray.size_append];omega)
  have f3:sfits (v++(⟨#[32]⟩:ByteArray)++nm) (⟨#[123]⟩:ByteArray)=true:=sfits_of (by simp only [ByteArray.size_append];omega)
  have f4:sfits (v++(⟨#[32]⟩:ByteArray)++nm++(⟨#[123]⟩:ByteArray)) t=true:=sfits_of (by simp only [ByteArray.size_append];omega)
  have f5:sfits (v++(⟨#[32]⟩:ByteArray)++nm++(⟨#[123]⟩:ByteArray)++t) (⟨#[125]⟩:ByteArray)=true:=sfits_of (by simp only [ByteArray.size_append];omega)
  have f6:sfits (v++(⟨#[32]⟩:ByteArray)++nm++(⟨#[123]⟩:ByteArray)++t++(⟨#[125]⟩:ByteArray)) (⟨#[32,98,121,32]⟩:ByteArray)=true:=sfits_of (by simp only [ByteArray.size_append];omega)
  have f7:sfits (v++(⟨#[32]⟩:ByteArray)++nm++(⟨#[123]⟩:ByteArray)++t++(⟨#[125]⟩:ByteArray)++(⟨#[32,98,121,32]⟩:ByteArray)) j=true:=sfits_of (by simp only [ByteArray.size_append];omega)
  have f8:sfits (v++(⟨#[32]⟩:ByteArray)++nm) (⟨#[32,98,121,32]⟩:ByteArray)=true:=sfits_of (by simp only [ByteArray.size_append];omega)
  have f9:sfits (v++(⟨#[32]⟩:ByteArray)++nm++(⟨#[32,98,121,32]⟩:ByteArray)) j=true:=sfits_of (by simp only [ByteArray.size_append];omega)
  unfold wordsQ
  rw [hv,hj]
  have x1:bl (⟨#[32]⟩:ByteArray)=[32]:=rfl
  have x2:bl (⟨#[123]⟩:ByteArray)=[123]:=rfl
  have x3:bl (⟨#[125]⟩:ByteArray)=[125]:=rfl
  have x4:bl (⟨#[32,98,121,32]⟩:ByteArray)=[32,98,121,32]:=rfl
  by_cases q1:m.length=0
  ·have q1':¬ (0:Int)<(m.length:Int):=by omega
   have es:serB nm m=nm:=by unfold serB;rw [if_pos q1]
   by_cases q2:b.length=0
   ·have q2':¬ (0:Int)<(b.length:Int):=by omega
    have e:v++(⟨#[32]⟩:ByteArray)++nm=joinB (mkB [32]) [v,nm]:=bl_inj (by rw [bl_join2,bl_append,bl_append];rfl)
    simp only [r07_Text,hR,bindN_s,Bool.not_true,cond_false,r07_aggs,ile_eq,ilt_eq,ilen,c0,decide_true,cond_true,hA,f1,f2,scat_eq,q1',q2',decide_false,q2,zz,cond_false,if_true,es,e]
   ·have q2':(0:Int)<(b.length:Int):=by omega
    have e:v++(⟨#[32]⟩:ByteArray)++nm++(⟨#[32,98,121,32]⟩:ByteArray)++j=joinB (mkB [32]) [v,nm,mkB [98,121],j]:=bl_inj (by rw [bl_join4];simp only [bl_append,x1,x4,bl_mkB];simp)
    simp only [r07_Text,hR,bindN_s,Bool.not_true,cond_false,r07_aggs,ile_eq,ilt_eq,ilen,c0,decide_true,cond_true,hA,f1,f2,f8,f9,scat_eq,q1',q2',decide_false,q2,if_false,if_true,es,hJ',e]
  ·have q1':(0:Int)<(m.length:Int):=by omega
   have es:=bl_ser nm m q1
   rw [ht] at es
   by_cases q2:b.length=0
   ·have q2':¬ (0:Int)<(b.length:Int):=by omega
    have e:v++(⟨#[32]⟩:ByteArray)++nm++(⟨#[123]⟩:ByteArray)++t++(⟨#[125]⟩:ByteArray)=joinB (mkB [32]) [v,serB nm m]:=bl_inj (by rw [bl_join2,es];simp only [bl_append,x1,x2,x3,bl_mkB];simp)
    simp only [r07_Text,hR,bindN_s,Bool.not_true,cond_false,r07_aggs,ile_eq,ilt_eq,ilen,c0,decide_true,cond_true,hA,f1,f2,f3,f4,f5,scat_eq,hT,q1',q2',decide_false,q2,zz,cond_false,if_true,e]
   ·have q2':(0:Int)<(b.length:Int):=by omega
    have e:v++(⟨#[32]⟩:ByteArray)++nm++(⟨#[123]⟩:ByteArray)++t++(⟨#[125]⟩:ByteArray)++(⟨#[32,98,121,32]⟩:ByteArray)++j=joinB (mkB [32]) [v,serB nm m,mkB [98,121],j]:=bl_inj (by rw [bl_join4,es];simp only [bl_append,x1,x2,x3,x4,bl_mkB];simp)
    simp only [r07_Text,hR,bindN_s,Bool.not_true,cond_false,r07_aggs,ile_eq,ilt_eq,ilen,c0,decide_true,cond_true,hA,f1,f2,f3,f4,f5,f6,f7,scat_eq,hT,q1',q2',q2,if_false,if_true,hJ',e]
theorem query_Text_v {n:Nat} (hn:Big n) (q:El tQuery) (hm:q.2.2.1.length≤1000000) (hb:q.2.2.2.1.length≤1000000):query_Text n (q,())=some ((textQ q.1 q.2.1 q.2.2.1 q.2.2.2.1,()),((),())):=by
 have hR:=query_Right_v hn q hm hb
 obtain ⟨a,nm,m,b,⟨⟩⟩:=q
 simp only at hR hm hb
 unfold textQ
 cases hr:rightQ a nm m b with
 | false=>rw [hr] at hR;simp [query_Text,hR]
 | true =>
  rw [hr] at hR
  obtain ⟨⟨h1,h2⟩,h3,h4,h5⟩:=rightQ_parts hr
  have hA:=query_name_v hn a
  have hT:=pick_Text_v hn m (rightM_fit h4)
  have zt:=textM_small h4
  have zb:=by_small h5
  have zv:=nameN_small a
  have zn:=(name_len _ h3).2
  have hJ:=word_Join_v n (mkB [44]) b hb (by omega)
  have hJ':word_Join n ((⟨#[44]⟩:ByteArray),b,())=some ((joinB (mkB [44]) b,()),((),(),())):=hJ
  have zs:(bl (serB nm m)).length≤140:=ser_small h3 h4
  have k1:decide ((0:Int)≤1)=true:=rfl
  have l1:lat [nameN a,nm] (iN (1:Int))=some nm:=by rw [lat_eq];rfl
  have ls:∀ y:ByteArray,lput [nameN a,nm] (iN (1:Int)) y=[nameN a,y]:=fun y=>by unfold lput;rfl
  have r1:room 4 16=true:=room_of (by decide)
  have er:∀ x y u w:ByteArray,roomA [x,y] [u,w] 16=true:=fun x y u w=>r1
  have ea:∀ x y u w:ByteArray,app [x,y] [u,w]=[x,y,u,w]:=fun x y u w=>rfl
  have j2:=fun y:ByteArray=>fun (hy:(bl y).length≤140)=>word_Join_v n (mkB [32]) [nameN a,y] (by simp) (by rw [bl_join2,bl_mkB];simp;omega)
  have j4:=fun y:ByteArray=>fun (hy:(bl y).length≤140)=>word_Join_v n (mkB [32]) [nameN a,y,mkB [98,121],joinB (mkB [44]) b] (by simp) (by rw [bl_join4,bl_mkB];simp [bl_mkB];omega)
  have j2':=fun y hy=>(show word_Join n ((⟨#[32]⟩:ByteArray),[nameN a,y],())=_ from j2 y hy)
  have j4':=fun y hy=>(show word_Join n ((⟨#[32]⟩:ByteArray),[nameN a,y,(⟨#[98,121]⟩:ByteArray),joinB (mkB [44]) b],())=_ from j4 y hy)
  unfold wordsQ
  by_cases q1:m.length=0
  ·have q1':¬ (0:Int)<(m.length:Int):=by omega
   have es:serB nm m=nm:=by unfold serB;rw [if_pos q1]
   rw [es]
   by_cases q2:b.length=0
   ·have q2':¬ (0:Int)<(b.length:Int):=by omega
    simp only [query_Text,hR,hA,bindN_s,Bool.not_true,cond_false,ilt_eq,ilen,q1',q2',decide_false,j2' nm (by omega),q2,zz,cond_false,if_true]
   ·have q2':(0:Int)<(b.length:Int):=by omega
    simp only [query_Text,hR,hA,bindN_s,Bool.not_true,cond_false,ilt_eq,ilen,q1',q2',decide_false,decide_true,cond_true,hJ',er,ea,j4' nm (by omega),q2,if_false,if_true]
  ·have q1':(0:Int)<(m.length:Int):=by omega
   have hS:=word_Join_v n (mkB []) [nm,mkB [123],textM m,mkB [125]] (by simp) (by
    have:joinB (mkB []) [nm,mkB [123],textM m,mkB [125]]=serB nm m:=by unfold serB;rw [if_neg q1]
    rw [this];omega)
   have hS':word_Join n ((⟨#[]⟩:ByteArray),[nm,(⟨#[123]⟩:ByteArray),textM m,(⟨#[125]⟩:ByteArray)],())=some ((serB nm m,()),((),(),())):=by
    have:joinB (mkB []) [nm,mkB [123],textM m,mkB [125]]=serB nm m:=by unfold serB;rw [if_neg q1]
    rw [← this];exact hS
   by_cases q2:b.length=0
   ·have q2':¬ (0:Int)<(b.length:Int):=by omega
    simp only [query_Text,hR,hA,bindN_s,Bool.not_true,cond_false,ile_eq,ilt_eq,ilen,q1',q2',k1,decide_false,decide_true,cond_true,hT,hS',l1,ls,j2' _ zs,q2,zz,cond_false,if_true]
   ·have q2':(0:Int)<(b.length:Int):=by omega
    simp only [query_Text,hR,hA,bindN_s,Bool.not_true,cond_false,ile_eq,ilt_eq,ilen,q1',q2',k1,decide_false,decide_true,cond_true,hT,hS',l1,ls,hJ',er,ea,j4' _ zs,q2,if_false,if_true]
theorem r07_Parse_v {n:Nat} (hn:Big n) (s:ByteArray) (hs:s.size≤90000):r07_Parse n (s,())=some ((((parseQ s).1,(parseQ s).2.1,(parseQ s).2.2.1,(parseQ s).2.2.2.1,()),(parseQ s).2.2.2.2,()),((),())):=by
 have hF:=r02_Fields_v hn s (by omega)
 have hsz:=fields_size s
 unfold parseQ
 generalize fieldsB s=p at hF hsz
 rcases p with _|⟨x0,_|⟨x1,_|⟨x2,_|⟨x3,_|⟨x4,r⟩⟩⟩⟩⟩
 ·have e1:decide (ilen ([]:List ByteArray)=2)=false:=rfl
  have e2:decide (ilen ([]:List ByteArray)=4)=false:=rfl
  simp only [r07_Parse,hF,bindN_s,ieq_eq,e1,e2,Bool.not_false,cond_true]
  rfl
 ·have e1:decide (ilen [x0]=2)=false:=rfl
  have e2:decide (ilen [x0]=4)=false:=rfl
  simp only [r07_Parse,hF,bindN_s,ieq_eq,e1,e2,Bool.not_false,cond_true]
  rfl
 ·have e1:decide (ilen [x0,x1]=2)=true:=rfl
  have e2:decide (ilen [x0,x1]=4)=false:=rfl
  have z1:=hsz x1 (by simp)
  have zc:=cutK_size x1
  have A:=r07_agg_v hn x0
  have C:=r04_Cut_v hn x1 (by omega)
  have N:=r02_Name_v0 hn (cutK x1).1
  have P:=(pick_Parse_v hn (cutK x1).2.1 (by omega)).2
  have M:=r07_names_v hn [] (by simp)
  have l0:lat [x0,x1] (iN (0:Int))=some x0:=by rw [lat_eq];rfl
  have l1:lat [x0,x1] (iN (1:Int))=some x1:=by rw [lat_eq];rfl
  have k0:decide ((0:Int)≤0)=true:=rfl
  have k1:decide ((0:Int)≤1)=true:=rfl
  have en:namesS []=0:=names_nil
  simp only [r07_Parse,hF,bindN_s,ieq_eq,ile_eq,e1,e2,k0,k1,l0,l1,Bool.not_true,cond_false,cond_true,A,C,N,P,M,en,decide_true]
  unfold finQ rdQ rd1Q seriesQ bad2 partsQ
  by_cases q0:aggN x0=0
  ·simp [q0]
  ·cases q1:(cutK x1).2.2 with
   | false=>simp [q0,q1]
   | true =>
    cases q2:nameL (bl (cutK x1).1) with
    | false=>simp [q0,q1,q2]
    | true =>
     by_cases q3:(parseM (cutK x1).2.1).2=0
     ·simp [q0,q1,q2,q3,en]
     ·simp [q0,q1,q2,q3]
 ·have e1:decide (ilen [x0,x1,x2]=2)=false:=rfl
  have e2:decide (ilen [x0,x1,x2]=4)=false:=rfl
  simp only [r07_Parse,hF,bindN_s,ieq_eq,e1,e2,Bool.not_false,cond_true]
  rfl
 ·have e1:decide (ilen [x0,x1,x2,x3]=2)=false:=rfl
  have e2:decide (ilen [x0,x1,x2,x3]=4)=true:=rfl
  have z1:=hsz x1 (by simp)
  have z3:=hsz x3 (by simp)
  have zc:=cutK_size x1
  have A:=r07_agg_v hn x0
  have C:=r04_Cut_v hn x1 (by omega)
  have N:=r02_Name_v0 hn (cutK x1).1
  have P:=(pick_Parse_v hn (cutK x1).2.1 (by omega)).2
  have S:=r02_Split_v hn 44 x3 (by omega)
  rw [show (((44:UInt8).toNat:Nat):Int)=44 from rfl] at S
  have hl:=splitB_len 44 x3
  have M:=r07_names_v hn (splitB 44 x3) (by omega)
  have l0:lat [x0,x1,x2,x3] (iN (0:Int))=some x0:=by rw [lat_eq];rfl
  have l1:lat [x0,x1,x2,x3] (iN (1:Int))=some x1:=by rw [lat_eq];rfl
  have l2:lat [x0,x1,x2,x3] (iN (2:Int))=some x2:=by rw [lat_eq];rfl
  have l3:lat [x0,x1,x2,x3] (iN (3:Int))=some x3:=by rw [lat_eq];rfl
  have k0:decide ((0:Int)≤0)=true:=rfl
  have k1:decide ((0:Int)≤1)=true:=rfl
  have k2:decide ((0:Int)≤2)=true:=rfl
  have k3:decide ((0:Int)≤3)=true:=rfl
  have eby:decide (x2=(⟨#[98,121]⟩:ByteArray))=decide (bl x2=[98,121]):=eqbl x2 _
  simp only [r07_Parse,hF,bindN_s,ieq_eq,ile_eq,seq_eq,e1,e2,k0,k1,k2,k3,l0,l1,l2,l3,Bool.not_false,Bool.not_true,cond_false,cond_true,eby,A,C,N,P,S,M]
  unfold finQ rdQ rd1Q seriesQ bad2 partsQ
  by_cases qb:bl x2=[98,121]
  ·by_cases q0:aggN x0=0
   ·simp [qb,q0]
   ·cases q1:(cutK x1).2.2 with
    | false=>simp [qb,q0,q1]
    | true =>
     cases q2:nameL (bl (cutK x1).1) with
     | false=>simp [qb,q0,q1,q2]
     | true =>
      by_cases q3:(parseM (cutK x1).2.1).2=0
      ·by_cases q4:namesS (splitB 44 x3)=0
       ·simp [qb,q0,q1,q2,q3,q4]
       ·simp [qb,q0,q1,q2,q3,q4]
      ·simp [qb,q0,q1,q2,q3]
  ·simp [qb]
 ·have hlen:(x0 ::x1 ::x2 ::x3 ::x4 ::r).length=r.length+5:=rfl
  have e1:decide (ilen (x0 ::x1 ::x2 ::x3 ::x4 ::r)=2)=false:=decide_eq_false (by show ¬ (((x0 ::x1 ::x2 ::x3 ::x4 ::r).length:Nat):Int)=2;omega)
  have e2:decide (ilen (x0 ::x1 ::x2 ::x3 ::x4 ::r)=4)=false:=decide_eq_false (by show ¬ (((x0 ::x1 ::x2 ::x3 ::x4 ::r).length:Nat):Int)=4;omega)
  simp only [r07_Parse,hF,bindN_s,ieq_eq,e1,e2,Bool.not_false,cond_true]
  rfl
end Go.Proofs.YtdcphpbimeoioaaGreatDoorE
end
section
set_option linter.unusedSectionVars false
namespace Go.Proofs.YtdcphpbimeoioaaGreatDoorE
open Go
set_option linter.unusedVariables false
set_option linter.unusedSimpArgs false
theorem r02_Same_v {n:Nat} (hn:Big n) {a b:List (El .str)} (ha:Lim a):r02_Same n (a,b,())=some ((eqb a b,()),((),(),())):=by
 by_cases h:a.length=b.length
 ·letI:DecidableEq (El .str):=fun _ _=>Classical.propDecidable _
  have hL:=eq_loop h (L:=fun g i=>r02_Same_l0 n g (a,b,i,())) (fun g=>by simp [r02_Same_l0]) (fun g i h1 h2=>by
   have e:=iadd1 (i:=i) (by omega)
   simp [r02_Same_l0,h1,h2,e,eqb,Prod.ext_iff]
   try (split<;>split<;>first|rfl|(exfalso;simp_all))) (g:=n) (by unfold Big at hn;omega)
  simp only [r02_Same,ilen,h,ieq_eq] at hL ⊢
  simp only [decide_true,Bool.not_true,cond_false,hL]
  by_cases e:a=b<;>simp [e,eqb_f]
 ·have e:a≠b:=fun e=>h (by rw [e])
  have h':¬ (a.length:Int)=(b.length:Int):=by omega
  simp [r02_Same,h',eqb_f e]
theorem r03_Same_v {n:Nat} (hn:Big n) {a b:List (El tTag)} (ha:Lim a):r03_Same n (a,b,())=some ((eqb a b,()),((),(),())):=by
 by_cases h:a.length=b.length
 ·letI:DecidableEq (El tTag):=fun _ _=>Classical.propDecidable _
  have hL:=eq_loop h (L:=fun g i=>r03_Same_l0 n g (a,b,i,())) (fun g=>by simp [r03_Same_l0]) (fun g i h1 h2=>by
   have e:=iadd1 (i:=i) (by omega)
   simp [r03_Same_l0,h1,h2,e,eqb,Prod.ext_iff]
   try (split<;>split<;>first|rfl|(exfalso;simp_all))) (g:=n) (by unfold Big at hn;omega)
  simp only [r03_Same,ilen,h,ieq_eq] at hL ⊢
  simp only [decide_true,Bool.not_true,cond_false,hL]
  by_cases e:a=b<;>simp [e,eqb_f]
 ·have e:a≠b:=fun e=>h (by rw [e])
  have h':¬ (a.length:Int)=(b.length:Int):=by omega
  simp [r03_Same,h',eqb_f e]
theorem r05_Same_v {n:Nat} (hn:Big n) {a b:List (El tMatch)} (ha:Lim a):r05_Same n (a,b,())=some ((eqb a b,()),((),(),())):=by
 by_cases h:a.length=b.length
 ·letI:DecidableEq (El tMatch):=fun _ _=>Classical.propDecidable _
  have hL:=eq_loop h (L:=fun g i=>r05_Same_l0 n g (a,b,i,())) (fun g=>by simp [r05_Same_l0]) (fun g i h1 h2=>by
   have e:=iadd1 (i:=i) (by omega)
   simp [r05_Same_l0,h1,h2,e,eqb,Prod.ext_iff]
   try (split<;>split<;>first|rfl|(exfalso;simp_all))) (g:=n) (by unfold Big at hn;omega)
  simp only [r05_Same,ilen,h,ieq_eq] at hL ⊢
  simp only [decide_true,Bool.not_true,cond_false,hL]
  by_cases e:a=b<;>simp [e,eqb_f]
 ·have e:a≠b:=fun e=>h (by rw [e])
  have h':¬ (a.length:Int)=(b.length:Int):=by omega
  simp [r05_Same,h',eqb_f e]
theorem sl_EqStr_v {n:Nat} (hn:Big n) {a b:List (El .str)} (ha:Lim a):sl_EqStr n (a,b,())=some ((eqb a b,()),((),(),())):=by
 by_cases h:a.length=b.length
 ·letI:DecidableEq (El .str):=fun _ _=>Classical.propDecidable _
  have hL:=eq_loop h (L:=fun g i=>sl_EqStr_l0 n g (a,b,(a.length:Int),i,())) (fun g=>by simp [sl_EqStr_l0]) (fun g i h1 h2=>by
   have e:=iadd1 (i:=i) (by omega)
   simp [sl_EqStr_l0,h1,h2,e,eqb,Prod.ext_iff]
   try (split<;>split<;>first|rfl|(exfalso;simp_all))) (g:=n) (by unfold Big at hn;omega)
  simp only [sl_EqStr,ilen,h,ieq_eq] at hL ⊢
  simp only [decide_true,Bool.not_true,cond_false,hL]
  by_cases e:a=b<;>simp [e,eqb_f]
 ·have e:a≠b:=fun e=>h (by rw [e])
  have h':¬ (a.length:Int)=(b.length:Int):=by omega
  simp [sl_EqStr,h',eqb_f e]
theorem sl_EqTag_v {n:Nat} (hn:Big n) {a b:List (El tTag)} (ha:Lim a):sl_EqTag n (a,b,())=some ((eqb a b,()),((),(),())):=by
 by_cases h:a.length=b.length
 ·letI:DecidableEq (El tTag):=fun _ _=>Classical.propDecidable _
  have hL:=eq_loop h (L:=fun g i=>sl_EqTag_l0 n g (a,b,(a.length:Int),i,())) (fun g=>by simp [sl_EqTag_l0]) (fun g i h1 h2=>by
   have e:=iadd1 (i:=i) (by omega)
   simp [sl_EqTag_l0,h1,h2,e,eqb,Prod.ext_iff]
   try (split<;>split<;>first|rfl|(exfalso;simp_all))) (g:=n) (by unfold Big at hn;omega)
  simp only [sl_EqTag,ilen,h,ieq_eq] at hL ⊢
  simp only [decide_true,Bool.not_true,cond_false,hL]
  by_cases e:a=b<;>simp [e,eqb_f]
 ·have e:a≠b:=fun e=>h (by rw [e])
  have h':¬ (a.length:Int)=(b.length:Int):=by omega
  simp [sl_EqTag,h',eqb_f e]
theorem sl_EqMatch_v {n:Nat} (hn:Big n) {a b:List (El tMatch)} (ha:Lim a):sl_EqMatch n (a,b,())=some ((eqb a b,()),((),(),())):=by
 by_cases h:a.length=b.length
 ·letI:DecidableEq (El tMatch):=fun _ _=>Classical.propDecidable _
  have hL:=eq_loop h (L:=fun g i=>sl_EqMatch_l0 n g (a,b,(a.length:Int),i,())) (fun g=>by simp [sl_EqMatch_l0]) (fun g i h1 h2=>by
   have e:=iadd1 (i:=i) (by omega)
   simp [sl_EqMatch_l0,h1,h2,e,eqb,Prod.ext_iff]
   try (split<;>split<;>first|rfl|(exfalso;simp_all))) (g:=n) (by unfold Big at hn;omega)
  simp only [sl_EqMatch,ilen,h,ieq_eq] at hL ⊢
  simp only [decide_true,Bool.not_true,cond_false,hL]
  by_cases e:a=b<;>simp [e,eqb_f]
 ·have e:a≠b:=fun e=>h (by rw [e])
  have h':¬ (a.length:Int)=(b.length:Int):=by omega
  simp [sl_EqMatch,h',eqb_f e]
def LimQ (q:El tQuery):Prop:=Lim q.2.2.1∧Lim q.2.2.2.1
def LimK (k:El tKey):Prop:=Lim k.2.1
theorem pick_Same_v {n:Nat} (hn:Big n) {a b:List (El tMatch)} (ha:Lim a):pick_Same n (a,b,())=some ((eqb a b,()),((),(),())):=by simp [pick_Same,sl_EqMatch_v hn ha]
theorem r07_Same_v {n:Nat} (hn:Big n) {a b:El tQuery} (ha:LimQ a):r07_Same n (a,b,())=some ((eqb a b,()),((),(),())):=by
 have h0:=r05_Same_v hn (b:=b.2.2.1) ha.1
 have h1:=r02_Same_v hn (b:=b.2.2.2.1) ha.2
 obtain ⟨a0,a1,a2,a3,⟨⟩⟩:=a
 obtain ⟨b0,b1,b2,b3,⟨⟩⟩:=b
 simp only [Prod.mk.injEq,and_true] at *
 simp only [r07_Same,h0,h1,bindN_s,ieq_eq,seq_eq]
 by_cases e0:a0=b0<;>by_cases e1:a1=b1<;>by_cases e2:a2=b2<;>by_cases e3:a3=b3<;>simp [*,eqb]
theorem query_Same_v {n:Nat} (hn:Big n) {a b:El tQuery} (ha:LimQ a):query_Same n (a,b,())=some ((eqb a b,()),((),(),())):=by
 have h0:=pick_Same_v hn (b:=b.2.2.1) ha.1
 have h1:=sl_EqStr_v hn (b:=b.2.2.2.1) ha.2
 obtain ⟨a0,a1,a2,a3,⟨⟩⟩:=a
 obtain ⟨b0,b1,b2,b3,⟨⟩⟩:=b
 simp only [Prod.mk.injEq,and_true] at *
 simp only [query_Same,h0,h1,bindN_s,ieq_eq,seq_eq]
 by_cases e0:a0=b0<;>by_cases e1:a1=b1<;>by_cases e2:a2=b2<;>by_cases e3:a3=b3<;>simp [*,eqb]
theorem r04_Same_v {n:Nat} (hn:Big n) {a b:El tKey} (ha:LimK a):r04_Same n (a,b,())=some ((eqb a b,()),((),(),())):=by
 have h0:=r03_Same_v hn (b:=b.2.1) ha
 obtain ⟨a0,a1,⟨⟩⟩:=a
 obtain ⟨b0,b1,⟨⟩⟩:=b
 simp only [Prod.mk.injEq,and_true] at *
 simp only [r04_Same,h0,bindN_s,ieq_eq,seq_eq]
 by_cases e0:a0=b0<;>by_cases e1:a1=b1<;>simp [*,eqb]
theorem key_Same_v {n:Nat} (hn:Big n) {a b:El tKey} (ha:LimK a):key_Same n (a,b,())=some ((eqb a b,()),((),(),())):=by
 have h0:=sl_EqTag_v hn (b:=b.2.1) ha
 obtain ⟨a0,a1,⟨⟩⟩:=a
 obtain ⟨b0,b1,⟨⟩⟩:=b
 simp only [Prod.mk.injEq,and_true] at *
 simp only [key_Same,h0,bindN_s,ieq_eq,seq_eq]
 by_cases e0:a0=b0<;>by_cases e1:a1=b1<;>simp [*,eqb]
def LimC (c:El tCommand):Prop:=LimK c.2.1∧LimQ c.2.2.2.2.1
theorem r22_Same_v {n:Nat} (hn:Big n) {a b:El tCommand} (ha:LimC a):r22_Same n (a,b,())=some ((eqb a b,()),((),(),())):=by
 have h0:=r04_Same_v hn (b:=b.2.1) ha.1
 have h1:=r07_Same_v hn (b:=b.2.2.2.2.1) ha.2
 obtain ⟨a0,a1,a2,a3,a4,a5,⟨⟩⟩:=a
 obtain ⟨b0,b1,b2,b3,b4,b5,⟨⟩⟩:=b
 simp only [Prod.mk.injEq,and_true] at *
 simp only [r22_Same,h0,h1,bindN_s,ieq_eq,seq_eq]
 by_cases e0:a0=b0<;>by_cases e1:a1=b1<;>by_cases e2:a2=b2<;>by_cases e3:a3=b3<;>by_cases e4:a4=b4<;>by_cases e5:a5=b5<;>simp [*,eqb]
end Go.Proofs.YtdcphpbimeoioaaGreatDoorE
end
section
set_option linter.unusedSectionVars false
namespace Go.Proofs.YtdcphpbimeoioaaGreatDoorE
open Go Go.Proofs
set_option linter.unusedVariables false
set_option linter.unusedSimpArgs false
abbrev CMD:=El tCommand
def zK:El tKey:=((⟨#[]⟩:ByteArray),[],())
def zQ:El tQuery:=(0,(⟨#[]⟩:ByteArray),[],[],())
def zCmd:CMD:=(0,zK,0,0,zQ,0,())
def mayQ (q:El tQuery):Bool:=rightQ q.1 q.2.1 q.2.2.1 q.2.2.2.1
def onlyC (c:CMD):CMD :=
 if c.1=1 then (c.1,c.2.1,c.2.2.1,c.2.2.2.1,zQ,0,())
 else if c.1=2 then (c.1,zK,0,0,c.2.2.2.2.1,0,())
 else if c.1=3 then (c.1,zK,0,0,c.2.2.2.2.1,0,())
 else if c.1=4 then (c.1,zK,0,0,zQ,c.2.2.2.2.2.1,())
 else (c.1,zK,0,0,zQ,0,())
noncomputable def rightC (c:CMD):Bool :=
 eqb c (onlyC c) && (if c.1=1 then rightK c.2.1.1 c.2.1.2.1 && (decide (0≤c.2.2.1) && decide (c.2.2.1≤1000000000000))
 else if c.1=2 then mayQ c.2.2.2.2.1
 else if c.1=3 then mayQ c.2.2.2.2.1
 else if c.1=4 then decide (0≤c.2.2.2.2.2.1) && decide (c.2.2.2.2.2.1<2147483648)
 else decide (c.1=5))
def putW:ByteArray:=mkB [112,117,116]
def getW:ByteArray:=mkB [103,101,116]
def subW:ByteArray:=mkB [115,117,98]
def cancelW:ByteArray:=mkB [99,97,110,99,101,108]
def statW:ByteArray:=mkB [115,116,97,116]
def textY (q:El tQuery):ByteArray:=textQ q.1 q.2.1 q.2.2.1 q.2.2.2.1
noncomputable def textC (c:CMD):ByteArray :=
 if rightC c=true then
  (if c.1=1 then joinB (mkB [32]) [putW,textK c.2.1.1 c.2.1.2.1,numB c.2.2.1,numB c.2.2.2.1]
  else if c.1=2 then joinB (mkB [32]) [getW,textY c.2.2.2.2.1]
  else if c.1=3 then joinB (mkB [32]) [subW,textY c.2.2.2.2.1]
  else if c.1=4 then joinB (mkB [32]) [cancelW,numB c.2.2.2.2.2.1]
  else statW)
 else (⟨#[]⟩:ByteArray)
def putC (a b d:ByteArray):CMD×Int :=
 if (parseK a).2.2=0 then
  (if (readL (bl b)).2=0 then
   (if (readL (bl b)).1<0 then (zCmd,3) else if 1000000000000<(readL (bl b)).1 then (zCmd,3) else
    (if (readL (bl d)).2=0 then ((1,((parseK a).1,(parseK a).2.1,()),(readL (bl b)).1,(readL (bl d)).1,zQ,0,()),0) else (zCmd,(readL (bl d)).2)))
  else (zCmd,(readL (bl b)).2))
 else (zCmd,(parseK a).2.2)
def askC (k:Int) (w:List ByteArray):CMD×Int :=
 let q:=parseQ (joinB (mkB [32]) w)
 if q.2.2.2.2=0 then ((k,zK,0,0,(q.1,q.2.1,q.2.2.1,q.2.2.2.1,()),0,()),0) else (zCmd,q.2.2.2.2)
def cancelC (a:ByteArray):CMD×Int :=
 if (readL (bl a)).2=0 then (if (readL (bl a)).1<0 then (zCmd,3) else if 2147483648≤(readL (bl a)).1 then (zCmd,3) else ((4,zK,0,0,zQ,(readL (bl a)).1,()),0)) else (zCmd,(readL (bl a)).2)
def put3:List ByteArray→CMD×Int
 | [a,b,d]=>putC a b d
 | _=>(zCmd,2)
def cancel1:List ByteArray→CMD×Int
 | [a]=>cancelC a
 | _=>(zCmd,2)
def stat0:List ByteArray→CMD×Int
 | []=>((5,zK,0,0,zQ,0,()),0)
 | _=>(zCmd,2)
def wordC (w:ByteArray) (r:List ByteArray):CMD×Int :=
 if w=putW then put3 r else if w=getW then askC 2 r else if w=subW then askC 3 r else if w=statW then stat0 r else if w=cancelW then cancel1 r else (zCmd,2)
def lineC:List ByteArray→CMD×Int
 | []=>(zCmd,2)
 | w ::r=>wordC w r
def parseC (s:ByteArray):CMD×Int:=lineC (fieldsB s)
def FitC (c:CMD):Prop:=(c.2.1.1.size≤1000000∧Fit c.2.1.2.1)∧(I64 c.2.2.1∧I64 c.2.2.2.1∧I64 c.2.2.2.2.2.1)∧c.2.2.2.2.1.2.2.1.length≤1000000∧c.2.2.2.2.1.2.2.2.1.length≤1000000
theorem r22_only_v (n:Nat) (c:CMD):r22_only n (c,())=some ((onlyC c,()),((),())):=by
 unfold onlyC
 simp only [r22_only,ieq_eq]
 by_cases h1:c.1=1
 ·simp [h1];rfl
 ·by_cases h2:c.1=2
  ·simp [h2];rfl
  ·by_cases h3:c.1=3
   ·simp [h3];rfl
   ·by_cases h4:c.1=4
    ·simp [h4];exact ⟨rfl,rfl⟩
    ·simp [h1,h2,h3,h4];exact ⟨rfl,rfl⟩
theorem limC_of {c:CMD} (h:FitC c):LimC c:=by
 obtain ⟨⟨_,h1⟩,_,h2,h3⟩:=h
 exact ⟨Nat.le_trans h1.1 (by decide),Nat.le_trans h2 (by decide),Nat.le_trans h3 (by decide)⟩
theorem r22_Right_v {n:Nat} (hn:Big n) (c:CMD) (hf:FitC c):r22_Right n (c,())=some ((rightC c,()),((),())):=by
 have hO:=r22_only_v n c
 have hS:=r22_Same_v hn (a:=c) (b:=onlyC c) (limC_of hf)
 obtain ⟨⟨f1,f2⟩,f3,f4,f5⟩:=hf
 have hK:=r04_Right_v hn c.2.1 (Nat.le_trans f2.1 (by decide))
 have hQ:=r07_Right_v hn c.2.2.2.2.1 f4 f5
 unfold rightC mayQ
 simp only [r22_Right,hO,bindN_s,hS,hK,hQ,ieq_eq,ile_eq,ilt_eq]
 cases eqb c (onlyC c) with
 | false=>simp
 | true =>
  simp only [Bool.not_true,cond_false,Bool.true_and]
  by_cases h1:c.1=1
  ·simp only [h1,decide_true,cond_true,if_true]
   cases rightK c.2.1.1 c.2.1.2.1 with
   | false=>simp
   | true=>by_cases h0:(0:Int)≤c.2.2.1<;>simp [h0]
  ·by_cases h2:c.1=2
   ·simp [h2]
   ·by_cases h3:c.1=3
    ·simp [h3]
    ·by_cases h4:c.1=4
     ·by_cases h0:(0:Int)≤c.2.2.2.2.2.1<;>simp [h4,h0]
     ·simp [h1,h2,h3,h4]
theorem textY_small (q:El tQuery):(textY q).size≤600:=by rw [← size_bl];exact textQ_small _ _ _ _
theorem numB_small {i:Int} (h:I64 i):(numB i).size≤21:=by unfold numB;rw [size_mkB];exact Lib.itoa_length_le _ h.1 h.2
theorem rightC_parts {c:CMD} (h:rightC c=true):c=onlyC c∧(if c.1=1 then rightK c.2.1.1 c.2.1.2.1 && (decide (0≤c.2.2.1) && decide (c.2.2.1≤1000000000000))
 else if c.1=2 then mayQ c.2.2.2.2.1
 else if c.1=3 then mayQ c.2.2.2.2.1
 else if c.1=4 then decide (0≤c.2.2.2.2.2.1) && decide (c.2.2.2.2.2.1<2147483648)
 else decide (c.1=5))=true:=by
 unfold rightC at h
 rw [Bool.and_eq_true] at h
 exact ⟨eqb_iff.1 h.1,h.2⟩
theorem r22_Text_v {n:Nat} (hn:Big n) (c:CMD) (hf:FitC c):r22_Text n (c,())=some ((textC c,()),((),())):=by
 have hR:=r22_Right_v hn c hf
 obtain ⟨⟨f1,f2⟩,⟨i1,i2,i3⟩,f4,f5⟩:=hf
 unfold textC
 cases hr:rightC c with
 | false=>rw [hr] at hR;simp [r22_Text,hR]
 | true =>
  rw [hr] at hR
  have hp:=(rightC_parts hr).2
  simp only [r22_Text,hR,bindN_s,Bool.not_true,cond_false,ieq_eq,if_true]
  by_cases h1:c.1=1
  ·rw [if_pos h1,Bool.and_eq_true] at hp
   have hz:=(rightK_fit hp.1).2.2.2
   have hT:=r04_Text_v hn c.2.1 f1 f2
   have hN1:=r01_Number_v hn c.2.2.1 i1
   have hN2:=r01_Number_v hn c.2.2.2.1 i2
   have z1:=numB_small i1
   have z2:=numB_small i2
   have s1:(⟨#[112,117,116,32]⟩:ByteArray).size=4:=rfl
   have s2:(⟨#[32]⟩:ByteArray).size=1:=rfl
   generalize ht:textK c.2.1.1 c.2.1.2.1=t at *
   generalize hm:numB c.2.2.1=m1 at *
   generalize hk:numB c.2.2.2.1=m2 at *
   have g1:sfits (⟨#[112,117,116,32]⟩:ByteArray) t=true:=sfits_of (by omega)
   have g2:sfits ((⟨#[112,117,116,32]⟩:ByteArray)++t) (⟨#[32]⟩:ByteArray)=true:=sfits_of (by simp only [ByteArray.size_append];omega)
   have g3:sfits ((⟨#[112,117,116,32]⟩:ByteArray)++t++(⟨#[32]⟩:ByteArray)) m1=true:=sfits_of (by simp only [ByteArray.size_append];omega)
   have g4:sfits ((⟨#[112,117,116,32]⟩:ByteArray)++t++(⟨#[32]⟩:ByteArray)++m1) (⟨#[32]⟩:ByteArray)=true:=sfits_of (by simp only [ByteArray.size_append];omega)
   have g5:sfits ((⟨#[112,117,116,32]⟩:ByteArray)++t++(⟨#[32]⟩:ByteArray)++m1++(⟨#[32]⟩:ByteArray)) m2=true:=sfits_of (by simp only [ByteArray.size_append];omega)
   have e:(⟨#[112,117,116,32]⟩:ByteArray)++t++(⟨#[32]⟩:ByteArray)++m1++(⟨#[32]⟩:ByteArray)++m2=joinB (mkB [32]) [putW,t,m1,m2]:=bl_inj (by
    rw [bl_join4];simp only [bl_append]
    rw [show bl (⟨#[112,117,116,32]⟩:ByteArray)=bl putW++[32] from rfl,show bl (⟨#[32]⟩:ByteArray)=[32] from rfl,bl_mkB];simp)
   simp only [h1,decide_true,cond_true,hT,bindN_s,g1,g2,scat_eq,hN1,g3,g4,hN2,g5,e,if_true]
  ·by_cases h2:c.1=2
   ·have hQ:=r07_Text_v hn c.2.2.2.2.1 f4 f5
    have hz:=textY_small c.2.2.2.2.1
    have s1:(⟨#[103,101,116,32]⟩:ByteArray).size=4:=rfl
    have g1:sfits (⟨#[103,101,116,32]⟩:ByteArray) (textY c.2.2.2.2.1)=true:=sfits_of (by omega)
    have e:(⟨#[103,101,116,32]⟩:ByteArray)++textY c.2.2.2.2.1=joinB (mkB [32]) [getW,textY c.2.2.2.2.1]:=bl_inj (by rw [bl_join2,bl_append];rfl)
    have hQ':r07_Text n (c.2.2.2.2.1,())=some ((textY c.2.2.2.2.1,()),((),())):=hQ
    simp only [h2,show ¬ (2:Int)=1 by decide,decide_true,decide_false,cond_true,cond_false,hQ',bindN_s,g1,scat_eq,e,if_true,if_false]
   ·by_cases h3:c.1=3
    ·have hQ:=r07_Text_v hn c.2.2.2.2.1 f4 f5
     have hz:=textY_small c.2.2.2.2.1
     have s1:(⟨#[115,117,98,32]⟩:ByteArray).size=4:=rfl
     have g1:sfits (⟨#[115,117,98,32]⟩:ByteArray) (textY c.2.2.2.2.1)=true:=sfits_of (by omega)
     have e:(⟨#[115,117,98,32]⟩:ByteArray)++textY c.2.2.2.2.1=joinB (mkB [32]) [subW,textY c.2.2.2.2.1]:=bl_inj (by rw [bl_join2,bl_append];rfl)
     have hQ':r07_Text n (c.2.2.2.2.1,())=some ((textY c.2.2.2.2.1,()),((),())):=hQ
     simp only [h3,show ¬ (3:Int)=1 by decide,show ¬ (3:Int)=2 by decide,decide_true,decide_false,cond_true,cond_false,hQ',bindN_s,g1,scat_eq,e,if_true,if_false]
    ·by_cases h4:c.1=4
     ·have hN:=r01_Number_v hn c.2.2.2.2.2.1 i3
      have hN':r01_Number n c.2.2.2.2.2=_:=hN
      have z1:=numB_small i3
      have s1:(⟨#[99,97,110,99,101,108,32]⟩:ByteArray).size=7:=rfl
      have g1:sfits (⟨#[99,97,110,99,101,108,32]⟩:ByteArray) (numB c.2.2.2.2.2.1)=true:=sfits_of (by omega)
      have e:(⟨#[99,97,110,99,101,108,32]⟩:ByteArray)++numB c.2.2.2.2.2.1=joinB (mkB [32]) [cancelW,numB c.2.2.2.2.2.1]:=bl_inj (by rw [bl_join2,bl_append];rfl)
      simp only [h4,show ¬ (4:Int)=1 by decide,show ¬ (4:Int)=2 by decide,show ¬ (4:Int)=3 by decide,decide_true,decide_false,cond_true,cond_false,hN',bindN_s,g1,scat_eq,e,if_true,if_false]
     ·simp only [h1,h2,h3,h4,decide_false,cond_false,if_false]
      rfl
theorem r22_put_v {n:Nat} (hn:Big n) (a b d:ByteArray) (ha:a.size≤100000) (hb:b.size≤100000) (hd:d.size≤100000):r22_put n ([a,b,d],())=some (((putC a b d).1,(putC a b d).2,()),((),())):=by
 have hK:=r04_Parse_v hn a ha
 have hB:=r01_Read_v hn b hb
 have hD:=r01_Read_v hn d hd
 have l0:lat [a,b,d] (iN (0:Int))=some a:=by rw [lat_eq];rfl
 have l1:lat [a,b,d] (iN (1:Int))=some b:=by rw [lat_eq];rfl
 have l2:lat [a,b,d] (iN (2:Int))=some d:=by rw [lat_eq];rfl
 have k0:decide ((0:Int)≤0)=true:=rfl
 have k1:decide ((0:Int)≤1)=true:=rfl
 have k2:decide ((0:Int)≤2)=true:=rfl
 unfold putC
 simp only [r22_put,ile_eq,ilt_eq,ieq_eq,k0,k1,k2,l0,l1,l2,cond_true,bindN_s,hK,hB,hD]
 by_cases q1:(parseK a).2.2=0
 ·by_cases q2:(readL (bl b)).2=0
  ·by_cases q3:(readL (bl b)).1<0
   ·simp [q1,q2,q3];rfl
   ·by_cases q4:1000000000000<(readL (bl b)).1
    ·simp [q1,q2,q3,q4];rfl
    ·by_cases q5:(readL (bl d)).2=0
     ·simp [q1,q2,q3,q4,q5];rfl
     ·simp [q1,q2,q3,q4,q5];rfl
  ·simp [q1,q2];rfl
 ·simp [q1];rfl
theorem r22_ask_v {n:Nat} (hn:Big n) (k:Int) (w:List ByteArray) (hw:w.length≤1000000) (hz:(joinB (mkB [32]) w).size≤90000):r22_ask n (k,w,())=some (((askC k w).1,(askC k w).2,()),((),(),())):=by
 have hJ:=r02_Join_v hn (mkB [32]) w hw (by rw [size_bl];omega)
 rw [show mkB [32]=(⟨#[32]⟩:ByteArray) from rfl] at hJ
 have hP:=r07_Parse_v hn (joinB (⟨#[32]⟩:ByteArray) w) hz
 unfold askC
 rw [show mkB [32]=(⟨#[32]⟩:ByteArray) from rfl]
 simp only [r22_ask,hJ,bindN_s,hP,ieq_eq]
 by_cases q:(parseQ (joinB (⟨#[32]⟩:ByteArray) w)).2.2.2.2=0
 ·simp [q];rfl
 ·simp [q];rfl
theorem r22_Parse_w {n:Nat} (hn:Big n) (s w:ByteArray) (r:List ByteArray) (hF:r02_Fields n (s,())=some ((w ::r,()),((),()))) (hr:r.length≤1000000) (hz:∀ x∈w ::r,x.size≤100000) (hj:(joinB (mkB [32]) r).size≤90000) :
  r22_Parse n (s,())=some (((wordC w r).1,(wordC w r).2,()),((),())):=by
 have hA:=fun k=>r22_ask_v hn k r hr hj
 have hlen:ilen (w ::r)=((r.length+1:Nat):Int):=rfl
 have e0:¬ ((r.length+1:Nat):Int)=0:=by omega
 have l0:lat (w ::r) (iN (0:Int))=some w:=by rw [lat_eq];rfl
 have k0:decide ((0:Int)≤0)=true:=rfl
 have k1:decide ((0:Int)≤1)=true:=rfl
 have k2:(1:Int)≤((r.length+1:Nat):Int):=by omega
 have ew:winI (w ::r) (1:Int) ((r.length+1:Nat):Int)=r:=by
  show win (w ::r) 1 (((r.length+1:Nat):Int).toNat - 1)=r
  rw [win_eq,Int.toNat_natCast]
  show r.take (r.length+1 - 1)=r
  exact List.take_of_length_le (by omega)
 have b1:decide (w=(⟨#[112,117,116]⟩:ByteArray))=decide (w=putW):=rfl
 have b2:decide (w=(⟨#[103,101,116]⟩:ByteArray))=decide (w=getW):=rfl
 have b3:decide (w=(⟨#[115,117,98]⟩:ByteArray))=decide (w=subW):=rfl
 have b4:decide (w=(⟨#[115,116,97,116]⟩:ByteArray))=decide (w=statW):=rfl
 have b5:decide (w=(⟨#[99,97,110,99,101,108]⟩:ByteArray))=decide (w=cancelW):=rfl
 unfold wordC
 simp only [r22_Parse,hF,bindN_s,hlen,ieq_eq,ile_eq,ilt_eq,e0,decide_false,cond_false,k0,k1,k2,decide_true,cond_true,l0,seq_eq,b1,b2,b3,b4,b5,Int.le_refl,ew,hA]
 by_cases q1:w=putW
 ·by_cases q2:r.length=3
  ·obtain ⟨a,b,d,rfl⟩:∃ a b d,r=[a,b,d]:=by
    rcases r with _|⟨a,_|⟨b,_|⟨d,_|⟨e,r⟩⟩⟩⟩
    ·simp at q2
    ·simp at q2
    ·simp at q2
    ·exact ⟨a,b,d,rfl⟩
    ·simp at q2
   have hP:=r22_put_v hn a b d (hz a (by simp)) (hz b (by simp)) (hz d (by simp))
   have e4:decide ((([a,b,d].length+1:Nat):Int)=4)=true:=rfl
   simp only [q1,decide_true,cond_true,e4,hP,bindN_s,if_true]
   rfl
  ·have e4:¬ ((r.length+1:Nat):Int)=4:=by omega
   have x1:¬ putW=getW:=by decide
   have x2:¬ putW=subW:=by decide
   have x3:¬ putW=statW:=by decide
   have x4:¬ putW=cancelW:=by decide
   have ep:put3 r=(zCmd,2):=by
    rcases r with _|⟨a,_|⟨b,_|⟨d,_|⟨e,r⟩⟩⟩⟩<;>first|rfl|simp at q2
   simp only [q1,decide_true,cond_true,e4,decide_false,cond_false,x1,x2,x3,x4,if_true,ep]
   rfl
 ·by_cases q2:w=getW
  ·have x1:¬ getW=putW:=by decide
   simp only [q2,x1,decide_true,decide_false,cond_true,cond_false,if_true,if_false]
  ·by_cases q3:w=subW
   ·have x1:¬ subW=putW:=by decide
    have x2:¬ subW=getW:=by decide
    simp only [q3,x1,x2,decide_true,decide_false,cond_true,cond_false,if_true,if_false]
   ·by_cases q4:w=statW
    ·have x1:¬ statW=putW:=by decide
     have x2:¬ statW=getW:=by decide
     have x3:¬ statW=subW:=by decide
     have x5:¬ statW=cancelW:=by decide
     by_cases q6:r.length=0
     ·have er:r=[]:=List.length_eq_zero_iff.1 q6
      have e1:decide (((r.length+1:Nat):Int)=1)=true:=decide_eq_true (by omega)
      simp only [q4,x1,x2,x3,decide_true,decide_false,cond_true,cond_false,if_true,if_false,e1]
      rw [er];rfl
     ·have e1:¬ ((r.length+1:Nat):Int)=1:=by omega
      have ep:stat0 r=(zCmd,2):=by
       cases r with
       | nil=>simp at q6
       | cons a r=>rfl
      simp only [q4,x1,x2,x3,x5,decide_true,decide_false,cond_true,cond_false,if_true,if_false,e1,ep]
      rfl
    ·by_cases q5:w=cancelW
     ·have x1:¬ cancelW=putW:=by decide
      have x2:¬ cancelW=getW:=by decide
      have x3:¬ cancelW=subW:=by decide
      have x4:¬ cancelW=statW:=by decide
      by_cases q6:r.length=1
      ·obtain ⟨a,rfl⟩:∃ a,r=[a]:=by
        rcases r with _|⟨a,_|⟨b,r⟩⟩
        ·simp at q6
        ·exact ⟨a,rfl⟩
        ·simp at q6
       have hR:=r01_Read_v hn a (hz a (by simp))
       have e2:decide ((([a].length+1:Nat):Int)=2)=true:=rfl
       have l1:lat [w,a] (iN (1:Int))=some a:=by rw [lat_eq];rfl
       have c3:decide ((3:Int)=0)=false:=rfl
       simp only [q5,x1,x2,x3,x4,decide_true,decide_false,cond_true,cond_false,if_true,if_false,e2]
       rw [← q5]
       simp only [l1,bindN_s,hR,c3,Bool.not_false,Bool.not_true,cond_true,cond_false]
       unfold cancel1 cancelC
       by_cases y1:(readL (bl a)).2=0
       ·by_cases y2:(readL (bl a)).1<0
        ·simp [y1,y2];rfl
        ·by_cases y3:2147483648≤(readL (bl a)).1
         ·simp [y1,y2,y3];rfl
         ·simp [y1,y2,y3];exact ⟨rfl,rfl⟩
       ·simp [y1];rfl
      ·have e1:¬ ((r.length+1:Nat):Int)=2:=by omega
       have ep:cancel1 r=(zCmd,2):=by
        rcases r with _|⟨a,_|⟨b,r⟩⟩<;>first|rfl|simp at q6
       simp only [q5,x1,x2,x3,x4,decide_true,decide_false,cond_true,cond_false,if_true,if_false,e1,ep]
       rfl
     ·simp only [q1,q2,q3,q4,q5,decide_false,cond_false,if_false]
      rfl
theorem join_fields (s:ByteArray):∀ r:List ByteArray,∀ w,fieldsB s=w ::r→(joinB (mkB [32]) r).size≤s.size:=by
 have key:∀ l:List (List UInt8),∀ x:List UInt8,(Lib.join (((x ::l).filter fun y=>decide (y≠[]))) [32]).length≤(Lib.join (x ::l) [32]).length:=by
  intro l
  induction l with
  | nil =>
   intro x
   by_cases h:x=[]
   ·subst h;simp [Lib.join]
   ·simp [h]
  | cons y l ih =>
   intro x
   have h1:=ih y
   rw [Lib.join_cons]
   by_cases h:x=[]
   ·rw [List.filter_cons_of_neg (by simp [h])]
    rw [Lib.join_cons] at h1
    simp [Lib.joinTail] at h1 ⊢;omega
   ·rw [List.filter_cons_of_pos (by simp [h]),Lib.join_cons]
    cases hf:(y ::l).filter fun z=>decide (z≠[]) with
    | nil=>simp [Lib.joinTail]
    | cons z m =>
     rw [hf] at h1
     rw [Lib.join_cons,Lib.join_cons] at h1
     simp [Lib.joinTail] at h1 ⊢;omega
 intro r w h
 have hs:=join_split 32 (bl s)
 have hf:(fieldsB s).map bl=(splitL 32 (bl s)).filter fun y=>decide (y≠[]):=by
  unfold fieldsB splitB
  rw [List.filter_map,List.map_map]
  have e1:(bl ∘ fun l:List UInt8=>(⟨l.toArray⟩:ByteArray))=id:=by funext l;rfl
  have e2:(full ∘ fun l:List UInt8=>(⟨l.toArray⟩:ByteArray))=fun y=>decide (y≠[]):=by funext l;rfl
  rw [e1,e2,List.map_id]
 rw [h] at hf
 rw [← size_bl,← size_bl s]
 cases hsp:splitL 32 (bl s) with
 | nil=>exact absurd hsp (splitL_ne 32 _)
 | cons x l =>
  rw [hsp] at hs hf
  have h1:=key l x
  rw [← hf,hs,List.map_cons,Lib.join_cons] at h1
  cases r with
  | nil=>rw [joinB_nil];simp [bl]
  | cons y r =>
   rw [joinB_cons,bl_mkB]
   rw [List.map_cons,show Lib.joinTail [32] (bl y ::r.map bl)=[32]++bl y++Lib.joinTail [32] (r.map bl) from tl_cons _ _ _] at h1
   have ht:Lib.joinTail [32] (r.map bl)=tl [32] (r.map bl):=rfl
   rw [ht] at h1
   simp at h1 ⊢;omega
theorem fields_len (s:ByteArray):(fieldsB s).length≤s.size+1:=Nat.le_trans (List.length_filter_le _ _) (splitB_len 32 s)
theorem r22_Parse_v {n:Nat} (hn:Big n) (s:ByteArray) (hs:s.size≤90000):r22_Parse n (s,())=some (((parseC s).1,(parseC s).2,()),((),())):=by
 have hF:=r02_Fields_v hn s (by omega)
 have hz:=fields_size s
 have hl:=fields_len s
 unfold parseC
 cases hw:fieldsB s with
 | nil =>
  rw [hw] at hF
  have e1:decide (ilen ([]:List ByteArray)=0)=true:=rfl
  simp only [r22_Parse,hF,bindN_s,ieq_eq,e1,cond_true]
  rfl
 | cons w r =>
  have hj:=join_fields s r w hw
  rw [hw] at hF hz hl
  exact r22_Parse_w hn s w r hF (by simp at hl;omega) (fun x hx=>by have:=hz x hx;omega) (by omega)
end Go.Proofs.YtdcphpbimeoioaaGreatDoorE
end
section
set_option linter.unusedSectionVars false
namespace Go.Proofs.YtdcphpbimeoioaaGreatDoorE
open Go Go.Proofs
set_option linter.unusedVariables false
set_option linter.unusedSimpArgs false
def WordOk (y:ByteArray):Prop:=(32:UInt8) ∉ bl y∧bl y≠[]
theorem wordsQ_ok {a:Int} {n:ByteArray} {m:List MT} {b:List ByteArray} (h:rightQ a n m b=true):∀ y∈wordsQ a n m b,WordOk y:=by
 obtain ⟨⟨ha1,ha4⟩,hn,hm,hb⟩:=rightQ_parts h
 have hbp:=namesS_parts hb
 have hmp:=rightM_parts hm
 have w0:WordOk (nameN a):=by
  have:a=1∨a=2∨a=3∨a=4:=by omega
  rcases this with rfl|rfl|rfl|rfl<;>exact ⟨by decide,by decide⟩
 have n32:=name_no _ hn 32 (by decide+kernel)
 have nne:bl n≠[]:=fun e=>by have:=name_len _ hn;rw [e] at this;simp at this
 have w1:WordOk (serB n m):=by
  by_cases h0:m.length=0
  ·unfold serB;rw [if_pos h0];exact ⟨n32,nne⟩
  ·unfold WordOk
   rw [bl_ser n m h0]
   have ht:(32:UInt8) ∉ bl (textM m):=join_no 32 (mkB [44]) (by decide) _ (fun y hy=>by
    obtain ⟨u,hu,rfl⟩:=List.mem_map.1 hy
    exact match_no (hmp.2 u hu) 32 (by decide+kernel) (by decide+kernel) (by decide) (by decide) (by decide))
   refine ⟨fun k=>?_,by simp [nne]⟩
   simp only [List.mem_append,List.mem_cons,List.not_mem_nil,or_false] at k
   rcases k with k|k|k|k
   ·exact n32 k
   ·exact absurd k (by decide)
   ·exact ht k
   ·exact absurd k (by decide)
 intro y hy
 unfold wordsQ at hy
 by_cases h0:b.length=0
 ·rw [if_pos h0] at hy
  simp only [List.mem_cons,List.not_mem_nil,or_false] at hy
  rcases hy with rfl|rfl
  ·exact w0
  ·exact w1
 ·rw [if_neg h0] at hy
  simp only [List.mem_cons,List.not_mem_nil,or_false] at hy
  rcases hy with rfl|rfl|rfl|rfl
  ·exact w0
  ·exact w1
  ·exact ⟨by decide,by decide⟩
  ·obtain ⟨x,r,rfl⟩:∃ x r,b=x ::r:=by cases b with
    | nil=>simp at h0
    | cons x r=>exact ⟨x,r,rfl⟩
   refine ⟨join_no 32 (mkB [44]) (by decide) _ (fun y hy=>name_no _ (hbp.2.2 y hy) 32 (by decide+kernel)),?_⟩
   have:=name_len _ (hbp.2.2 x List.mem_cons_self)
   rw [joinB_cons]
   intro e
   rw [(List.append_eq_nil_iff.1 e).1] at this;simp at this
theorem textT_no {l:List TG} (h:rightT l=true):(32:UInt8) ∉ bl (textT l):=by
 have h1:=((right_iff l).1 h).1
 rw [List.all_eq_true] at h1
 refine join_no 32 (mkB [44]) (by decide) _ fun y hy=>?_
 obtain ⟨t,ht,rfl⟩:=List.mem_map.1 hy
 obtain ⟨p1,p2⟩:=may_parts (h1 t ht)
 rw [bl_pairB]
 intro k
 simp only [List.mem_append,List.mem_cons,List.not_mem_nil,or_false] at k
 rcases k with (k|k)|k
 ·exact name_no _ p1 32 (by decide+kernel) k
 ·exact absurd k (by decide)
 ·exact value_no _ p2 32 (by decide+kernel) k
theorem textK_ok {n:ByteArray} {l:List TG} (h:rightK n l=true):WordOk (textK n l):=by
 obtain ⟨h1,h2⟩:=(rightK_iff n l).1 h
 have n32:=name_no _ h1 32 (by decide+kernel)
 have nne:bl n≠[]:=fun e=>by have:=name_len _ h1;rw [e] at this;simp at this
 unfold textK WordOk
 by_cases h0:l.length=0
 ·rw [if_pos h0];exact ⟨n32,nne⟩
 ·rw [if_neg h0]
  simp only [bl_append,bl_mkB]
  refine ⟨fun k=>?_,by simp [nne]⟩
  simp only [List.mem_append,List.mem_cons,List.not_mem_nil,or_false] at k
  rcases k with ((k|k)|k)|k
  ·exact n32 k
  ·exact absurd k (by decide)
  ·exact textT_no h2 k
  ·exact absurd k (by decide)
theorem numB_ok (i:Int):WordOk (numB i):=⟨by unfold numB;rw [bl_mkB];exact itoa_no i 32 (by decide+kernel),by unfold numB;rw [bl_mkB];exact itoa_ne i⟩
theorem join_in (sep a x:ByteArray) (l:List ByteArray):joinB sep [a,joinB sep (x ::l)]=joinB sep (a ::x ::l):=bl_inj (by
 rw [bl_join2,joinB_cons,joinB_cons,List.map_cons,tl_cons];simp)
theorem wordsQ_cons (a:Int) (n:ByteArray) (m:List MT) (b:List ByteArray):∃ x l,wordsQ a n m b=x ::l:=by
 unfold wordsQ;split<;>exact ⟨_,_,rfl⟩
theorem textY_join {q:El tQuery} (h:mayQ q=true):∃ x l,textY q=joinB (mkB [32]) (x ::l)∧(∀ y∈x ::l,WordOk y)∧parseQ (joinB (mkB [32]) (x ::l))=(q.1,q.2.1,q.2.2.1,q.2.2.2.1,0):=by
 have h':rightQ q.1 q.2.1 q.2.2.1 q.2.2.2.1=true:=h
 obtain ⟨x,l,e⟩:=wordsQ_cons q.1 q.2.1 q.2.2.1 q.2.2.2.1
 have h1:=wordsQ_ok h'
 have h2:=parse_textQ _ _ _ _ h'
 have e2:textQ q.1 q.2.1 q.2.2.1 q.2.2.2.1=joinB (mkB [32]) (x ::l):=by unfold textQ;rw [if_pos h',e]
 rw [e] at h1
 rw [e2] at h2
 exact ⟨x,l,e2,h1,h2⟩
theorem ask_back (k:Int) (x:ByteArray) (l:List ByteArray) (q:El tQuery) (h:parseQ (joinB (mkB [32]) (x ::l))=(q.1,q.2.1,q.2.2.1,q.2.2.2.1,0)):askC k (x ::l)=((k,zK,0,0,q,0,()),0):=by
 unfold askC
 simp only [h,if_true]
theorem i64_small {i:Int} (h0:0≤i) (h1:i≤1000000000000):I64 i:=⟨by omega,by omega⟩
theorem i31_small {i:Int} (h:i<2147483648):i≤1000000000000:=by omega
theorem parse_textC {c:CMD} (h:rightC c=true) (hi:I64 c.2.2.2.1):parseC (textC c)=(c,0):=by
 obtain ⟨ho,hp⟩:=rightC_parts h
 unfold textC
 rw [if_pos h]
 by_cases h1:c.1=1
 ·rw [if_pos h1]
  rw [if_pos h1,Bool.and_eq_true,Bool.and_eq_true,decide_eq_true_eq,decide_eq_true_eq] at hp
  obtain ⟨k1,k2,k3⟩:=hp
  have hpk:=parse_textK _ _ k1
  have r1:=read_itoa (i:=c.2.2.1) (i64_small k2 k3)
  have r2:=read_itoa hi
  have b1:bl (numB c.2.2.1)=Lib.itoa c.2.2.1:=rfl
  have b2:bl (numB c.2.2.2.1)=Lib.itoa c.2.2.2.1:=rfl
  unfold parseC
  rw [fields_join _ _ (fun y hy=>by
   simp only [List.mem_cons,List.not_mem_nil,or_false] at hy
   rcases hy with rfl|rfl|rfl|rfl
   ·exact ⟨by decide,by decide⟩
   ·exact textK_ok k1
   ·exact numB_ok _
   ·exact numB_ok _)]
  show putC _ _ _=_
  unfold putC
  rw [hpk,b1,b2,r1,r2]
  have c1:¬ c.2.2.1<0:=Int.not_lt.2 k2
  have c2:¬ 1000000000000<c.2.2.1:=Int.not_lt.2 k3
  simp only [if_true,if_neg c1,if_neg c2]
  unfold onlyC at ho
  rw [if_pos h1,h1] at ho
  exact Prod.ext ho.symm rfl
 ·rw [if_neg h1]
  rw [if_neg h1] at hp
  by_cases h2:c.1=2
  ·rw [if_pos h2]
   rw [if_pos h2] at hp
   obtain ⟨x,l,e1,e2,e3⟩:=textY_join hp
   rw [e1,join_in]
   unfold parseC
   rw [fields_join _ _ (fun y hy=>by
    rcases List.mem_cons.1 hy with rfl|hy
    ·exact ⟨by decide,by decide⟩
    ·exact e2 y hy)]
   show askC 2 (x ::l)=_
   rw [ask_back 2 x l _ e3]
   unfold onlyC at ho
   rw [if_neg h1,if_pos h2,h2] at ho
   exact Prod.ext ho.symm rfl
  ·rw [if_neg h2]
   rw [if_neg h2] at hp
   by_cases h3:c.1=3
   ·rw [if_pos h3]
    rw [if_pos h3] at hp
    obtain ⟨x,l,e1,e2,e3⟩:=textY_join hp
    rw [e1,join_in]
    unfold parseC
    rw [fields_join _ _ (fun y hy=>by
     rcases List.mem_cons.1 hy with rfl|hy
     ·exact ⟨by decide,by decide⟩
     ·exact e2 y hy)]
    show askC 3 (x ::l)=_
    rw [ask_back 3 x l _ e3]
    unfold onlyC at ho
    rw [if_neg h1,if_neg h2,if_pos h3,h3] at ho
    exact Prod.ext ho.symm rfl
   ·rw [if_neg h3]
    rw [if_neg h3] at hp
    by_cases h4:c.1=4
    ·rw [if_pos h4]
     rw [if_pos h4,Bool.and_eq_true,decide_eq_true_eq,decide_eq_true_eq] at hp
     have r1:=read_itoa (i:=c.2.2.2.2.2.1) (i64_small hp.1 (i31_small hp.2))
     have b1:bl (numB c.2.2.2.2.2.1)=Lib.itoa c.2.2.2.2.2.1:=rfl
     unfold parseC
     rw [fields_join _ _ (fun y hy=>by
      simp only [List.mem_cons,List.not_mem_nil,or_false] at hy
      rcases hy with rfl|rfl
      ·exact ⟨by decide,by decide⟩
      ·exact numB_ok _)]
     show cancelC _=_
     unfold cancelC
     rw [b1,r1]
     have c1:¬ c.2.2.2.2.2.1<0:=Int.not_lt.2 hp.1
     have c2:¬ 2147483648≤c.2.2.2.2.2.1:=Int.not_le.2 hp.2
     simp only [if_true,if_neg c1,if_neg c2]
     unfold onlyC at ho
     rw [if_neg h1,if_neg h2,if_neg h3,if_pos h4,h4] at ho
     exact Prod.ext ho.symm rfl
    ·rw [if_neg h4]
     rw [if_neg h4,decide_eq_true_eq] at hp
     have es:statW=joinB (mkB [32]) [statW]:=bl_inj (by rw [joinB_cons];simp [Lib.joinTail])
     unfold parseC
     rw [es,fields_join _ _ (fun y hy=>by
      simp only [List.mem_cons,List.not_mem_nil,or_false] at hy
      rw [hy];exact ⟨by decide,by decide⟩)]
     show ((5,zK,0,0,zQ,0,()),0)=_
     unfold onlyC at ho
     rw [if_neg h1,if_neg h2,if_neg h3,if_neg h4,hp] at ho
     exact Prod.ext ho.symm rfl
theorem rightC_of {c:CMD} (h1:c=onlyC c) (h2:(if c.1=1 then rightK c.2.1.1 c.2.1.2.1 && (decide (0≤c.2.2.1) && decide (c.2.2.1≤1000000000000))
 else if c.1=2 then mayQ c.2.2.2.2.1
 else if c.1=3 then mayQ c.2.2.2.2.1
 else if c.1=4 then decide (0≤c.2.2.2.2.2.1) && decide (c.2.2.2.2.2.1<2147483648)
 else decide (c.1=5))=true):rightC c=true:=by
 unfold rightC
 rw [Bool.and_eq_true]
 exact ⟨eqb_iff.2 h1,h2⟩
def OutC (x:CMD×Int):Prop:=(x.2≠0∧x.1=zCmd)∨(x.2=0∧rightC x.1=true∧I64 x.1.2.2.2.1)
theorem outC_no {e:Int} (h:e≠0):OutC (zCmd,e) := .inl ⟨h,rfl⟩
theorem put_out (a b d:ByteArray):OutC (putC a b d):=by
 unfold putC
 split
 ·rename_i q1
  split
  ·rename_i q2
   split
   ·exact outC_no (by decide)
   ·rename_i q3
    split
    ·exact outC_no (by decide)
    ·rename_i q4
     split
     ·rename_i q5
      have hk:=(parseK_out a).resolve_right fun h=>h.1 q1
      have hv:=(itoa_read (l:=bl d) (v:=(readL (bl d)).1) (Prod.ext rfl q5)).2
      exact .inr ⟨rfl,rightC_of rfl (by
       show (rightK (parseK a).1 (parseK a).2.1 && (decide (0≤(readL (bl b)).1) && decide ((readL (bl b)).1≤1000000000000)))=true
       rw [hk.2,decide_eq_true (Int.not_lt.1 q3),decide_eq_true (Int.not_lt.1 q4)];rfl),hv⟩
     ·rename_i q5;exact outC_no q5
  ·rename_i q2;exact outC_no q2
 ·rename_i q1;exact outC_no q1
theorem ask_out (k:Int) (hk:k=2∨k=3) (w:List ByteArray):OutC (askC k w):=by
 unfold askC
 generalize hq:parseQ (joinB (mkB [32]) w)=q
 simp only
 split
 ·rename_i q1
  have ho:=parseQ_out (joinB (mkB [32]) w)
  rw [hq] at ho
  have hr:rightQ q.1 q.2.1 q.2.2.1 q.2.2.2.1=true:=(ho.resolve_right fun h=>h.1 q1).2
  refine .inr ⟨rfl,?_,⟨by show (-9223372036854775808:Int)≤0;decide,by show (0:Int)≤_;decide⟩⟩
  rcases hk with rfl|rfl
  ·exact rightC_of rfl hr
  ·exact rightC_of rfl hr
 ·rename_i q1;exact outC_no q1
theorem cancel_out (a:ByteArray):OutC (cancelC a):=by
 unfold cancelC
 split
 ·rename_i q1
  split
  ·exact outC_no (by decide)
  ·rename_i q2
   split
   ·exact outC_no (by decide)
   ·rename_i q3
    refine .inr ⟨rfl,rightC_of rfl ?_,⟨by show (-9223372036854775808:Int)≤0;decide,by show (0:Int)≤_;decide⟩⟩
    show (decide (0≤(readL (bl a)).1) && decide ((readL (bl a)).1<2147483648))=true
    rw [decide_eq_true (Int.not_lt.1 q2),decide_eq_true (Int.not_le.1 q3)];rfl
 ·rename_i q1;exact outC_no q1
theorem parseC_out (s:ByteArray):OutC (parseC s):=by
 unfold parseC
 cases fieldsB s with
 | nil=>exact outC_no (by decide)
 | cons w r =>
  show OutC (wordC w r)
  unfold wordC
  split
  ·rcases r with _|⟨a,_|⟨b,_|⟨d,_|⟨e,r⟩⟩⟩⟩
   ·exact outC_no (by decide)
   ·exact outC_no (by decide)
   ·exact outC_no (by decide)
   ·exact put_out a b d
   ·exact outC_no (by decide)
  ·split
   ·exact ask_out 2 (.inl rfl) r
   ·split
    ·exact ask_out 3 (.inr rfl) r
    ·split
     ·cases r with
      | nil=>exact .inr ⟨rfl,rightC_of rfl rfl,⟨by show (-9223372036854775808:Int)≤0;decide,by show (0:Int)≤_;decide⟩⟩
      | cons a r=>exact outC_no (by decide)
     ·split
      ·rcases r with _|⟨a,_|⟨b,r⟩⟩
       ·exact outC_no (by decide)
       ·exact cancel_out a
       ·exact outC_no (by decide)
      ·exact outC_no (by decide)
def dblB (l:List UInt8):List UInt8:=l.flatMap fun c=>if c=32 then [32,32] else [c]
def neL (y:List UInt8):Bool:=decide (y≠[])
theorem split_dbl:∀ l:List UInt8,∃ h t t',splitL 32 l=h ::t∧splitL 32 (dblB l)=h ::t'∧t.filter neL=t'.filter neL
 | []=>⟨[],[],[],rfl,rfl,rfl⟩
 | b ::l=>by
  obtain ⟨h,t,t',e1,e2,e3⟩:=split_dbl l
  by_cases hb:b=32
  ·subst hb
   refine ⟨[],h ::t,[] ::h ::t',by rw [splitL,if_pos rfl,e1],?_,?_⟩
   ·show splitL 32 (32 ::32 ::dblB l)=_
    rw [splitL,if_pos rfl,splitL,if_pos rfl,e2]
   ·rw [List.filter_cons_of_neg (a:=([]:List UInt8)) (by simp [neL]),List.filter_cons,List.filter_cons,e3]
  ·refine ⟨b ::h,t,t',by rw [splitL,if_neg hb,e1],?_,e3⟩
   have e:dblB (b ::l)=b ::dblB l:=by unfold dblB;rw [List.flatMap_cons,if_neg hb];rfl
   rw [e,splitL,if_neg hb,e2]
theorem split_end:∀ l:List UInt8,splitL 32 (l++[32])=splitL 32 l++[[]]
 | []=>rfl
 | b ::l=>by
  have ih:=split_end l
  rw [List.cons_append,splitL,splitL,ih]
  by_cases hb:b=32
  ·rw [if_pos hb,if_pos hb];rfl
  ·rw [if_neg hb,if_neg hb]
   cases hs:splitL 32 l with
   | nil=>exact absurd hs (splitL_ne 32 l)
   | cons h t=>rfl
theorem fields_list (s:ByteArray):fieldsB s=((splitL 32 (bl s)).filter neL).map mkB:=by
 unfold fieldsB splitB
 rw [List.filter_map]
 rfl
theorem fields_wide (s:ByteArray):fieldsB (mkB (32 ::dblB (bl s)++[32]))=fieldsB s:=by
 rw [fields_list,fields_list,bl_mkB,List.cons_append,splitL,if_pos rfl,split_end]
 obtain ⟨h,t,t',e1,e2,e3⟩:=split_dbl (bl s)
 rw [e1,e2]
 congr 1
 rw [List.filter_cons_of_neg (a:=([]:List UInt8)) (by simp [neL]),List.filter_append,show ([[]]:List (List UInt8)).filter neL=[] from rfl,List.append_nil,List.filter_cons,List.filter_cons,e3]
end Go.Proofs.YtdcphpbimeoioaaGreatDoorE
end
section
set_option linter.unusedSectionVars false
namespace Go.Proofs.YtdcphpbimeoioaaGreatDoorE
open Go Go.RowKit Go.Shelf
open Go.ChangeMaps (setBlock)
set_option linter.unusedVariables false
set_option linter.unusedSimpArgs false
section
variable {P:Program} {K V:Type} {mt kt et:TypeId} {ek:K→Value} {ev:V→Value} {eqk:K→K→Bool} {z:V} {w w':World} {b r:Nat} {l left:List (K×V)}
structure MapTy (P:Program) (mt kt et:TypeId) (ek:K→Value) (ev:V→Value) (eqk:K→K→Bool) (z:V):Prop where
 und:P.underlying mt=some (.map kt et)
 kd:∃ fs,P.underlying kt=some (.struct fs)
 chk:∀ e k w,(Instr.checkKey e 10000 kt (ek k)).run P w = .ok () w
 eq:∀ k k' w,(Op.equal kt (ek k) (ek k')).run P w = .ok (eqk k k') w
 bits:∀ k k',eqk k k'=true→Instr.sameBits 10000 (ek k') (ek k)=true
 zero:∀ w,(zeroValue et).run P w = .ok (ev z) w
def HasMap (ek:K→Value) (ev:V→Value) (w:World) (b:Nat) (l:List (K×V)):Prop :=
 ∃ es:Array MapEntry,w.heap[b]?=some (.map es es.size)∧es.toList.map (fun e=>(e.key,e.val))=l.map (fun p=>(ek p.1,ev p.2))∧∀ (i:Nat) (e:MapEntry),es.toList[i]?=some e→e.born=i
theorem HasMap.lt (h:HasMap ek ev w b l):b<w.heap.size:=by
 obtain ⟨es,h1,_⟩:=h
 exact (Array.getElem?_eq_some_iff.1 h1).1
theorem HasMap.same (h:HasMap ek ev w b l) (hw:w'.heap[b]?=w.heap[b]?):HasMap ek ev w' b l:=by
 obtain ⟨es,h1,h2⟩:=h
 exact ⟨es,hw.trans h1,h2⟩
def HasIter (ek:K→Value) (ev:V→Value) (w:World) (b r:Nat) (left:List (K×V)):Prop :=
 ∃ (es:Array MapEntry) (seen:Array Nat),w.heap[b]?=some (.map es es.size)∧w.heap[r]?=some (.mapIter (some b) es.size seen es.size)∧(∀ (i:Nat) (e:MapEntry),es.toList[i]?=some e→e.born=i) ∧
  (leftOf es seen).toList.map (fun e=>(e.key,e.val))=left.map (fun p=>(ek p.1,ev p.2))
theorem HasIter.lt (h:HasIter ek ev w b r left):b<w.heap.size∧r<w.heap.size∧b≠r:=by
 obtain ⟨es,seen,h1,h2,_⟩:=h
 exact ⟨(Array.getElem?_eq_some_iff.1 h1).1,(Array.getElem?_eq_some_iff.1 h2).1,fun e=>by subst e;rw [h1] at h2;cases h2⟩
theorem HasIter.same (h:HasIter ek ev w b r left) (hb:w'.heap[b]?=w.heap[b]?) (hr:w'.heap[r]?=w.heap[r]?):HasIter ek ev w' b r left:=by
 obtain ⟨es,seen,h1,h2,h3⟩:=h
 exact ⟨es,seen,hb.trans h1,hr.trans h2,h3⟩
end
end Go.Proofs.YtdcphpbimeoioaaGreatDoorE
end
section
set_option linter.unusedSectionVars false
namespace Go.Proofs.YtdcphpbimeoioaaGreatDoorE
open Go Go.RowKit Go.Shelf
open Go.ChangeMaps (setBlock)
set_option linter.unusedVariables false
set_option linter.unusedSimpArgs false
section
variable {P:Program} {S S' S0:Nat→SL} {F F' F0:Nat→Prop} {w w' w0:World} {H H' H0:Heap} {E E':Env} {O:Orc} {a:Act} {n m b:Nat} {Q:Exit→Act→World→Prop} {os:Array Oper} {rest:List Nat} {i:Nat} {o:Oper}
structure Frn (S:Nat→SL) (F:Nat→Prop) (w:World) (H:Heap) (b:Nat):Prop where
 lt:b<w.heap.size
 nf:¬ F b
 nw:¬ WR S H b
theorem Frn.adv (h:Frn S F w H b) (hA:AdvM m S F w H S' F' w' H'):Frn S' F' w' H' b :=
 ⟨Nat.lt_of_lt_of_le h.lt hA.sz,fun hf=>by
  rcases hA.fn b hf with e|e|e
  ·exact h.nf e
  ·exact h.nw e
  ·have:=h.lt;omega,fun hw=>by
  rcases hA.wr b hw with e|e
  ·exact h.nw e
  ·have:=h.lt;omega⟩
theorem Frn.same (h:Frn S F w H b) (hA:AdvM m S F w H S' F' w' H'):w'.heap[b]?=w.heap[b]?:=hA.same b h.lt h.nw
theorem Frn.grow (h:Frn S F w H b) (hs:w.heap.size≤w'.heap.size):Frn S F w' H b:=⟨Nat.lt_of_lt_of_le h.lt hs,h.nf,h.nw⟩
theorem slot_blk (hr:Rel S F w H) {c k:Nat} (hb:blkOf (S c)=some k):k<w.heap.size∧(F k∨WR S H k):=by
 cases hg:hget H c with
 | unused=>rw [unused_S hr hg] at hb;cases hb
 | dead =>
  have:=hr.slots c;rw [hg] at this
  cases hs:S c<;>rw [hs] at this hb<;>simp only [SlotOk] at this
  cases hb
 | live x =>
  refine ⟨blkOf_lt hr hg hb,?_⟩
  cases hw:x.wr with
  | true=>exact .inr ⟨c,x,hg,hw,hb⟩
  | false =>
   left
   have hs:=hr.slots c
   rw [hg] at hs
   cases x with
   | box cs wr =>
    cases hS:S c<;>rw [hS] at hs hb<;>simp only [SlotOk,blkOf,Option.some.injEq] at hs hb
    all_goals first|(subst hb;exact hs.2.2 hw)|cases hs|cases hb
   | arr t xs wr =>
    cases hS:S c<;>rw [hS] at hs hb<;>simp only [SlotOk] at hs
    rename_i a n cap sz
    obtain ⟨_,_,_,_,hor⟩:=hs
    cases a with
    | none=>simp [blkOf] at hb
    | some ad =>
     simp only [blkOf] at hb
     split at hb
     ·cases hb
     ·rename_i hc
      simp only [Option.some.injEq] at hb
      subst hb
      rcases hor with h0|⟨ad',e,_,_,h1⟩
      ·exact absurd h0 hc
      ·cases e;exact h1 hw
theorem Frn.new (hr:Rel S F w H) (hs:w.heap.size<w'.heap.size):Frn S F w' H w.heap.size :=
 ⟨hs,fun h=>Nat.lt_irrefl _ (hr.fsz _ h),fun ⟨c,x,hg,_,hb⟩=>Nat.lt_irrefl _ (blkOf_lt hr hg hb)⟩
structure Off (S:Nat→SL) (F:Nat→Prop) (w:World) (H:Heap) (w':World):Prop where
 sz:w.heap.size≤w'.heap.size
 same:∀ k,k<w.heap.size→(F k∨WR S H k)→w'.heap[k]?=w.heap[k]?
 st:Str w w'
theorem Off.rel (h:Off S F w H w') (hr:Rel S F w H):Rel S F w' H :=
 ⟨fun c=>(hr.slots c).mono (fun _ h=>h) (fun k hk=>h.same k (hr.fsz k hk) (.inl hk)) (fun _ _ => .inl rfl) (fun k hk=>h.same k (slot_blk hr hk).1 (slot_blk hr hk).2) (fun _ _ h=>h),hr.inj,fun k hk=>Nat.lt_of_lt_of_le (hr.fsz k hk) h.sz,hr.gl.mono (fun _ h=>h) fun k hk=>h.same k (hr.fsz k hk) (.inl hk)⟩
theorem Off.val (h:Off S F w H w') (hr:Rel S F w H) {p:PV} {v:Value} (hv:Val S F w p v):Val S F w' p v:=hv.mono (fun _ h=>h) (fun k hk=>h.same k (hr.fsz k hk) (.inl hk)) (fun _ _ => .inl rfl)
theorem Off.at' (h:Off S F w H w') (hr:Rel S F w H) (ha:At S F w E a n):At S F w' E a n :=
 ⟨⟨fun k=>h.val hr (ha.opd.tmp k),ha.opd.const,ha.opd.func⟩,ha.size,ha.defers⟩
theorem Off.adv (h:Off S F w H w') (hA:AdvM m S0 F0 w0 H0 S F w H) (hk:∀ k,k<w0.heap.size→w'.heap[k]?=w.heap[k]?):AdvM m S0 F0 w0 H0 S F w' H :=
 ⟨hA.ff,hA.ss,Nat.le_trans hA.sz h.sz,fun k h1 h2=>(hk k h1).trans (hA.same k h1 h2),hA.wr,hA.fn,hA.st.trans h.st⟩
theorem off_drew (w:World):Off S F w H w.drew:=⟨Nat.le_refl _,fun _ _ _=>rfl,rfl,rfl,rfl,(fun _=>Nat.le_succ _)⟩
theorem off_alloc (w:World) (o:Obj):Off S F w H (w.alloc o) :=
 ⟨by have e:(w.alloc o).heap=w.heap.push o:=rfl;rw [e];simp,fun k h1 _=>(MapKept.heap_alloc w o).2 k h1,rfl,rfl,rfl,(fun _=>Nat.le_refl _)⟩
theorem Off.trans {w2:World} (h:Off S F w H w') (h':Off S F w' H w2):Off S F w H w2 :=
 ⟨Nat.le_trans h.sz h'.sz,fun k h1 h2=>(h'.same k (Nat.lt_of_lt_of_le h1 h.sz) h2).trans (h.same k h1 h2),h.st.trans h'.st⟩
theorem raw_step {v:Value} (ho:os[i]?=some o) (hg:o.guard=none) (hrun:(execOp a.eval o).run P w = .ok (.value v) w') (k:wpOps P os Q rest (a.put o.dst v) w'):wpOps P os Q (i ::rest) a w:=by
 have hw:Region.wanted o (yielded os a.tmps)=true:=by simp [Region.wanted,hg]
 simp only [wpOps,ho,hw,if_true]
 exact .inl (by unfold Oper.wp;rw [hrun];exact k)
theorem raw_skip (ho:os[i]?=some o) (hg:o.guard=none) (hrun:(execOp a.eval o).run P w = .ok .skip w') (k:wpOps P os Q rest (a.put o.dst undef) w'):wpOps P os Q (i ::rest) a w:=by
 have hw:Region.wanted o (yielded os a.tmps)=true:=by simp [Region.wanted,hg]
 simp only [wpOps,ho,hw,if_true]
 exact .inl (by unfold Oper.wp;rw [hrun];exact k)
theorem ret_ok {fn:Func} {ro:Bool} {p':PV} {R:Ending→World→Prop} (hr0:Rel S F w H) (hr:Rel S' F' w' H') (ha:At S' F' w' E a n) (hA:AdvM H.length S F w H S' F' w' H') {H2:Heap}
  (hK:(resVals E H' (fn.results.toList.map (resOf P)) fun vs=>fin H.length ro (oneOf vs) H' fun p H=>some (p,H))=some (p',H2))
  (k:∀ v S2 F2,Rel S2 F2 w' H2→Val S2 F2 w' p' v→Adv S F w H S2 F2 w' H2→R (.returned v) w'):a.defers=[]∧∃ v,(results fn a.tmps).run P w' = .ok v w'∧R (.returned v) w':=by
 obtain ⟨ps,v,g1,g2,g3⟩:=results_ok (fn:=fn) hr (fun t=>ha.opd.tmp t) hK
 obtain ⟨p2,H3,S2,F2,k1,k2,k3,k4⟩:=fin_ok hr g3 g1
 simp only [Option.some.injEq,Prod.mk.injEq] at k1
 obtain ⟨rfl,rfl⟩:=k1
 have k5:=hA.trans k4
 exact ⟨ha.defers,v,g2,k v S2 F2 k2 k3 ⟨k5.ff,fun b hb=>by
  refine k5.ss b (Nat.lt_of_not_le fun hle=>hb (unused_S hr0 (hget_len H b hle))) hb,k5.sz,k5.same,k5.wr,k5.fn,k5.st⟩⟩
end
end Go.Proofs.YtdcphpbimeoioaaGreatDoorE
end
section
set_option linter.unusedSectionVars false
namespace Go.Proofs.YtdcphpbimeoioaaGreatDoorE
open Go Go.RowKit Go.Shelf
set_option linter.unusedVariables false
set_option linter.unusedSimpArgs false
structure Sta (n:Nat) (ts:List Nat) (sg:List Sg) (us:List (Nat×Value)) (S:Nat→SL) (F:Nat→Prop) (w:World) (a:Act) (s:SgEl sg):Prop where
 rel:Rel S F w (heapOf sg s)
 outs:Outs S F w ts (argsOf sg s 0) a.eval
 raw:∀ u∈us,a.eval (.tmp u.1)=u.2
 size:a.tmps.size=n
 defers:a.defers=[]
structure Pce where
 ap:List Nat:=[]
 ts1:List Nat
 sg1:List Sg
 e:Ex
 ts2:List Nat
 sg2:List Sg
def exNo:Ex→Nat
 | .exit i=>i
 | _=>1000000
def sameEx:Ex→Ex→Bool
 | .ret, .ret=>true
 | .exit i, .exit j=>Nat.beq i j
 | _,_=>false
def envOf (ts:List Nat) (sg:List Sg) (us:List (Nat×Value)) (s:SgEl sg):Env:=us.map (fun u=>(u.1, .raw u.2))++ts.zip (argsOf sg s 0)
def walkC (P:Program) (T:List Ent) (f:FuncId) (c:Code) (ts:List Nat) (sg:List Sg) (us:List (Nat×Value)) (p:Pce) (s:SgEl sg):Option ((SgEl p.sg1 ⊕ SgEl p.sg2)×List PV) :=
 code (specO T []) f 0 (ann (rawOf P c 0).1 [(exNo p.e,p.ts2++us.map (·.1))] (p.ts1++us.map (·.1))).1 (envOf ts sg us s) (heapOf sg s) fun x E H=>match x with
  | .normal=>enter 0 p.ts1 p.ap [] false E H fun vs H=>(decIn p.sg1 vs H).map fun a=>(.inl a,us.map fun u=>get E u.1)
  | x=>cond (sameEx x p.e) (enter 0 p.ts2 p.ap [] false E H fun vs H=>(decIn p.sg2 vs H).map fun a=>(.inr a,us.map fun u=>get E u.1)) none
section
variable {P:Program} {S S0:Nat→SL} {F F0:Nat→Prop} {w w0:World} {H0:Heap} {a:Act} {n:Nat} {Q:Exit→Act→World→Prop}
theorem get_raws {us:List (Nat×Value)} {E:Env} {t:Nat}:(∃ v,(t,v)∈us∧get (us.map (fun u=>(u.1,PV.raw u.2))++E) t = .raw v)∨get (us.map (fun u=>(u.1,PV.raw u.2))++E) t=get E t:=by
 induction us with
 | nil=>exact .inr rfl
 | cons u us ih =>
  rw [List.map_cons,List.cons_append,get_cons]
  by_cases h:u.1=t
  ·rw [if_pos h];exact .inl ⟨u.2,by rw [← h];exact List.mem_cons_self,rfl⟩
  ·rw [if_neg h]
   rcases ih with ⟨v,h1,h2⟩|h1
   ·exact .inl ⟨v,List.mem_cons_of_mem _ h1,h2⟩
   ·exact .inr h1
theorem Sta.at' {ts:List Nat} {sg:List Sg} {us:List (Nat×Value)} {s:SgEl sg} (h:Sta n ts sg us S F w a s):At S F w (envOf ts sg us s) a n:=by
 have h0:=h.outs.at h.size h.defers
 refine ⟨⟨fun k=>?_,h0.opd.const,h0.opd.func⟩,h.size,h.defers⟩
 unfold envOf
 rcases get_raws (us:=us) (E:=ts.zip (argsOf sg s 0)) (t:=k) with ⟨v,h1,h2⟩|h1
 ·rw [h2,h.raw _ h1];exact .raw _
 ·rw [h1];exact h0.opd.tmp k
theorem val_raw {v x:Value} (h:Val S F w (.raw v) x):x=v:=by cases h;rfl
theorem raws_of {us:List (Nat×Value)} {E:Env} (ha:At S F w E a n) (h:(us.map fun u=>get E u.1)=us.map fun u=>PV.raw u.2):∀ u∈us,a.eval (.tmp u.1)=u.2:=by
 intro u hu
 have:get E u.1 = .raw u.2:=by
  obtain ⟨i,hi⟩:=List.getElem?_of_mem hu
  have:=congrArg (fun l=>l[i]?) h
  simp only [List.getElem?_map,hi,Option.map_some,Option.some.injEq] at this
  exact this
 have hv:=ha.opd.tmp u.1
 rw [this] at hv
 exact val_raw hv
end
end Go.Proofs.YtdcphpbimeoioaaGreatDoorE
end
section
set_option linter.unusedSectionVars false
namespace Go.Proofs.YtdcphpbimeoioaaGreatDoorE
open Go Go.RowKit Go.Shelf
open Go.ChangeMaps (setBlock)
set_option linter.unusedVariables false
set_option linter.unusedSimpArgs false
section
variable {P:Program} {S S' S0:Nat→SL} {F F' F0:Nat→Prop} {w w' w0:World} {H H' H0:Heap} {E E':Env} {O:Orc} {a:Act} {n:Nat} {Q:Exit→Act→World→Prop} {ts:List Nat} {sg:List Sg} {us:List (Nat×Value)} {s:SgEl sg} {bs:List Nat} {J J':World→Prop}
theorem Sta.off (h:Sta n ts sg us S F w a s) (hO:Off S F w (heapOf sg s) w'):Sta n ts sg us S F w' a s :=
 ⟨hO.rel h.rel,fun j t p h1 h2=>hO.val h.rel (h.outs j t p h1 h2),h.raw,h.size,h.defers⟩
theorem Sta.put (h:Sta n ts sg us S F w a s) {t:Nat} (v:Value) (h1:¬ t∈ts) (h2:¬ t∈us.map (·.1)):Sta n ts sg us S F w (a.put (some t) v) s:=by
 refine ⟨h.rel,fun j k p g1 g2=>?_,fun u hu=>?_,by simp [Act.put,h.size],h.defers⟩
 ·rw [Act.eval_put (fun d' hd' e'=>by cases hd';cases e';exact h1 (List.mem_of_getElem? g1))]
  exact h.outs j k p g1 g2
 ·rw [Act.eval_put (fun d' hd' e'=>by cases hd';cases e';exact h2 (List.mem_map.2 ⟨u,hu,rfl⟩))]
  exact h.raw u hu
theorem eval_put_same {t:Nat} (ht:t<a.tmps.size) (v:Value):(a.put (some t) v).eval (.tmp t)=v:=by simp [Act.eval,Act.put,ht]
structure Mid (n:Nat) (S0:Nat→SL) (F0:Nat→Prop) (w0:World) (H0:Heap) (ts:List Nat) (sg:List Sg) (us:List (Nat×Value)) (bs:List Nat) (J:World→Prop) (S:Nat→SL) (F:Nat→Prop) (w:World) (a:Act) (s:SgEl sg):Prop where
 sta:Sta n ts sg us S F w a s
 frn:∀ b∈bs,Frn S F w (heapOf sg s) b∧w0.heap.size≤b
 adv:AdvM 0 S0 F0 w0 H0 S F w (heapOf sg s)
 keep:J w
def JOk (bs:List Nat) (J:World→Prop):Prop:=∀ w w':World,(∀ b∈bs,w'.heap[b]?=w.heap[b]?)→J w→J w'
theorem sta_of {ap:List Nat} {s1:SgEl sg} (hr:Rel S F w H) (ha:At S F w E a n) (h:(enter 0 ts ap [] false E H fun vs H=>(decIn sg vs H).map fun x=>(x,us.map fun u=>get E u.1))=some (s1,us.map fun u => .raw u.2)) :
  ∃ S' F',Sta n ts sg us S' F' w a s1∧AdvM 0 S F w H S' F' w (heapOf sg s1):=by
 obtain ⟨vs',H',S',F',g1,g2,g3,g4⟩:=enter_ok (m:=0) hr ha.opd.tmp h
 cases hdc:decIn sg vs' H' with
 | none=>rw [hdc] at g1;cases g1
 | some s2 =>
  rw [hdc] at g1
  simp only [Option.map_some,Option.some.injEq,Prod.mk.injEq] at g1
  obtain ⟨e1,e2⟩:=decIn_some hdc
  subst e1;subst e2
  obtain ⟨g11,g12⟩:=g1
  subst g11
  exact ⟨S',F',⟨g2,g4,raws_of ha g12,ha.size,ha.defers⟩,g3⟩
theorem Mid.to {ts1:List Nat} {sg1:List Sg} {us1:List (Nat×Value)} {s1:SgEl sg1} {a':Act} (hJ:JOk bs J) (h:Mid n S0 F0 w0 H0 ts sg us bs J S F w a s) (hA:AdvM 0 S F w (heapOf sg s) S' F' w' (heapOf sg1 s1)) (hs:Sta n ts1 sg1 us1 S' F' w' a' s1):Mid n S0 F0 w0 H0 ts1 sg1 us1 bs J S' F' w' a' s1 :=
 ⟨hs,fun b hb=>⟨(h.frn b hb).1.adv hA,(h.frn b hb).2⟩,h.adv.trans hA,hJ w w' (fun b hb=>(h.frn b hb).1.same hA) h.keep⟩
def capp:Nat→Code→Code→Code
 | k+1, .seq a b,z => .seq a (capp k b z)
 | _,c,z => .seq c z
theorem code_ok_app {β:Type} {f:FuncId} {l:List PCode} {m:Nat} (hO:OrcOk P O) (hD:DrawnOk P O) (hL:LoopsOk P n m O f l) {z:Code}:∀ (d:Nat) {c:Code} {pc:PCode} (hm:Mt P n c pc) {S:Nat→SL} {F:Nat→Prop} {w:World} {H:Heap} {E:Env} {a:Act} {r:β} {K:Ex→Env→Heap→Option β} {Q:Exit→Act→World→Prop},
  (∀ x∈subs pc,x∈l)→Rel S F w H→At S F w E a n→code O f m pc E H K=some r→Goes n m S F w H K r (Exit.then (z.wp P Q) Q)→(capp d c z).wp P Q a w
 | 0,c,pc,hm,S,F,w,H,E,a,r,K,Q,hs,hr,ha,h,hQ=>by
  rw [show capp 0 c z = .seq c z by cases c<;>rfl]
  exact wp_seq (code_ok hO hD hL hm hs hr ha h hQ)
 | d+1,c,pc,hm,S,F,w,H,E,a,r,K,Q,hs,hr,ha,h,hQ=>by
  cases hm with
  | seq h1 h2 =>
   rw [capp]
   simp only [code] at h
   refine wp_seq (code_ok hO hD hL h1 (fun x hx=>hs x (List.mem_append_left _ hx)) hr ha h fun x E1 H1 S1 F1 w1 a1 hK hr1 ha1 hA=>?_)
   cases x with
   | normal=>exact code_ok_app hO hD hL d h2 (fun x hx=>hs x (List.mem_append_right _ hx)) hr1 ha1 hK fun x E2 H2 S2 F2 w2 a2 k1 k2 k3 k4=>hQ _ _ _ _ _ _ _ k1 k2 k3 (hA.trans k4)
   | exit id=>exact hQ (.exit id) _ _ _ _ _ _ hK hr1 ha1 hA
   | ret=>exact hQ .ret _ _ _ _ _ _ hK hr1 ha1 hA
  | bad c=>cases h
  | skip=>exact wp_seq (code_ok hO hD hL .skip hs hr ha h hQ)
  | ret=>exact wp_seq (code_ok hO hD hL .ret hs hr ha h hQ)
  | exit id=>exact wp_seq (code_ok hO hD hL (.exit id) hs hr ha h hQ)
  | region id os d out hd=>exact wp_seq (code_ok hO hD hL (.region id os d out hd) hs hr ha h hQ)
  | cond c h1 h2=>exact wp_seq (code_ok hO hD hL (.cond c h1 h2) hs hr ha h hQ)
  | block id h1=>exact wp_seq (code_ok hO hD hL (.block id h1) hs hr ha h hQ)
  | loop i lv lx ap fz nb h1=>exact wp_seq (code_ok hO hD hL (.loop i lv lx ap fz nb h1) hs hr ha h hQ)
theorem Mid.front (d:Nat) (hM:P.follows .mixedOrders=true) {T:List Ent} (hT:TabF P T) {f:FuncId} {c z:Code} (hd:(opsIn (rawOf P c 0).1).all (dstIn n)=true) {p:Pce} (hs:subs (ann (rawOf P c 0).1 [(exNo p.e,p.ts2++us.map (·.1))] (p.ts1++us.map (·.1))).1=[])
  (hJ:JOk bs J) {y:SgEl p.sg1 ⊕ SgEl p.sg2} (h:Mid n S0 F0 w0 H0 ts sg us bs J S F w a s) (hw:walkC P T f c ts sg us p s=some (y,us.map fun u => .raw u.2))
  (k:∀ S' F' w' a',(match y with|.inl s1=>Mid n S0 F0 w0 H0 p.ts1 p.sg1 us bs J S' F' w' a' s1→z.wp P Q a' w'|.inr s2=>Mid n S0 F0 w0 H0 p.ts2 p.sg2 us bs J S' F' w' a' s2→Exit.then (z.wp P Q) Q (exOf p.e) a' w')):(capp d c z).wp P Q a w:=by
 have hO:=orc_table hT []
 have hm:Mt P n c (ann (rawOf P c 0).1 [(exNo p.e,p.ts2++us.map (·.1))] (p.ts1++us.map (·.1))).1:=mt_raw c 0 _ _ hd
 unfold walkC at hw
 refine code_ok_app (l:=[]) hO (drawn_ok hM hO) (fun i lv lx ap fz nb pc c hx=>by cases hx) d hm (by rw [hs];exact fun x hx=>hx) h.sta.rel h.sta.at' hw fun x E1 H1 S1 F1 w1 a1 hK hr1 ha1 hA=>?_
 have dec:∀ {sgo:List Sg} {tso:List Nat} {g:SgEl sgo→SgEl p.sg1 ⊕ SgEl p.sg2},(enter 0 tso p.ap [] false E1 H1 fun vs H=>(decIn sgo vs H).map fun a=>(g a,us.map fun u=>get E1 u.1))=some (y,us.map fun u => .raw u.2) →
   ∃ s1 S' F',y=g s1∧Sta n tso sgo us S' F' w1 a1 s1∧AdvM 0 S F w (heapOf sg s) S' F' w1 (heapOf sgo s1):=by
  intro sgo tso g hK
  obtain ⟨vs',H',S',F',g1,g2,g3,g4⟩:=enter_ok (m:=0) hr1 ha1.opd.tmp hK
  cases hdc:decIn sgo vs' H' with
  | none=>rw [hdc] at g1;cases g1
  | some s1 =>
   rw [hdc] at g1
   simp only [Option.map_some,Option.some.injEq,Prod.mk.injEq] at g1
   obtain ⟨e1,e2⟩:=decIn_some hdc
   subst e1;subst e2
   exact ⟨s1,S',F',g1.1.symm,⟨g2,g4,raws_of ha1 g1.2,ha1.size,ha1.defers⟩,hA.trans g3⟩
 cases x with
 | normal =>
  obtain ⟨s1,S',F',rfl,h1,h2⟩:=dec hK
  exact k S' F' w1 a1 (h.to hJ h2 h1)
 | ret =>
  obtain ⟨h0,hK⟩:=cond_some hK
  obtain ⟨s1,S',F',rfl,h1,h2⟩:=dec hK
  have e:p.e = .ret:=by
   cases hp:p.e<;>rw [hp] at h0<;>first|rfl|cases h0
  have:=k S' F' w1 a1 (h.to hJ h2 h1)
  rw [e] at this;exact this
 | exit i =>
  obtain ⟨h0,hK⟩:=cond_some hK
  obtain ⟨s1,S',F',rfl,h1,h2⟩:=dec hK
  have e:p.e = .exit i:=by
   cases hp:p.e with
   | exit j=>rw [hp] at h0;rw [Nat.eq_of_beq_eq_true h0]
   | ret=>rw [hp] at h0;cases h0
   | normal=>rw [hp] at h0;cases h0
  have:=k S' F' w1 a1 (h.to hJ h2 h1)
  rw [e] at this;exact this
theorem Mid.drew (h:Mid n S0 F0 w0 H0 ts sg us bs J S F w a s) (hk:J' w.drew):Mid n S0 F0 w0 H0 ts sg us bs J' S F w.drew a s :=
 ⟨h.sta.off (off_drew w),fun c hc=>⟨(h.frn c hc).1.grow (Nat.le_refl _),(h.frn c hc).2⟩,(off_drew w).adv h.adv fun k hk=>rfl,hk⟩
theorem Mid.alloc (h:Mid n S0 F0 w0 H0 ts sg us bs J S F w a s) (o:Obj) (hk:J' (w.alloc o)):Mid n S0 F0 w0 H0 ts sg us (w.heap.size ::bs) J' S F (w.alloc o) a s:=by
 have hO:=off_alloc (S:=S) (F:=F) (H:=heapOf sg s) w o
 have hsz:w.heap.size<(w.alloc o).heap.size:=by
  have e:(w.alloc o).heap=w.heap.push o:=rfl
  rw [e];simp
 refine ⟨h.sta.off hO,fun c hc=>?_,hO.adv h.adv fun k hk=>(MapKept.heap_alloc w o).2 k (Nat.lt_of_lt_of_le hk h.adv.sz),hk⟩
 rcases List.mem_cons.1 hc with rfl|hc
 ·exact ⟨Frn.new h.sta.rel hsz,h.adv.sz⟩
 ·exact ⟨(h.frn c hc).1.grow hO.sz,(h.frn c hc).2⟩
theorem Mid.more (h:Mid n S0 F0 w0 H0 ts sg us bs J S F w a s) {us':List (Nat×Value)} {a':Act} (hs:Sta n ts sg us' S F w a' s):Mid n S0 F0 w0 H0 ts sg us' bs J S F w a' s:=⟨hs,h.frn,h.adv,h.keep⟩
theorem get_app {xs:List (Nat×PV)} {t:Nat}:(∃ x∈xs,x.1=t∧get (xs++E) t=x.2)∨get (xs++E) t=get E t:=by
 induction xs with
 | nil=>exact .inr rfl
 | cons x xs ih =>
  rw [List.cons_append,get_cons]
  by_cases h:x.1=t
  ·rw [if_pos h];exact .inl ⟨x,List.mem_cons_self,h,rfl⟩
  ·rw [if_neg h]
   rcases ih with ⟨y,h1,h2⟩|h1
   ·exact .inl ⟨y,List.mem_cons_of_mem _ h1,h2⟩
   ·exact .inr h1
theorem At.app (ha:At S F w E a n) {xs:List (Nat×PV)} (hx:∀ x∈xs,Val S F w x.2 (a.eval (.tmp x.1))):At S F w (xs++E) a n:=by
 refine ⟨⟨fun k=>?_,ha.opd.const,ha.opd.func⟩,ha.size,ha.defers⟩
 rcases get_app (E:=E) (xs:=xs) (t:=k) with ⟨x,h1,h2,h3⟩|h1
 ·rw [h3,← h2];exact hx x h1
 ·rw [h1];exact ha.opd.tmp k
theorem Mid.ops {T:List Ent} (hT:TabF P T) {os:Array Oper} {L:List (Nat×POp)} (hL:∀ x∈L,IsOp P os n x) (hJ:JOk bs J) (h:Mid n S0 F0 w0 H0 ts sg us bs J S F w a s) {xs:List (Nat×PV)} (hx:∀ x∈xs,Val S F w x.2 (a.eval (.tmp x.1)))
  {ts1 ap:List Nat} {sg1:List Sg} {s1:SgEl sg1} {base:Nat}
  (hw:(ops (specO T []) base L (xs++envOf ts sg us s) (heapOf sg s) fun E H=>enter 0 ts1 ap [] false E H fun vs H=>(decIn sg1 vs H).map fun x=>(x,us.map fun u=>get E u.1))=some (s1,us.map fun u => .raw u.2))
  (k:∀ S' F' w' a',Mid n S0 F0 w0 H0 ts1 sg1 us bs J S' F' w' a' s1→Q .normal a' w'):wpOps P os Q (L.map (·.1)) a w:=by
 refine ops_ok (orc_table hT []) L hL h.sta.rel (h.sta.at'.app hx) hw fun S' F' w' H' E' a' hK hr ha hA=>?_
 obtain ⟨S2,F2,g1,g2⟩:=sta_of (us:=us) hr ha hK
 exact k _ _ _ _ (h.to hJ (hA.toM.trans g2) g1)
def lk:List (Nat×PAct)→Nat→Option PAct
 | [],_=>none
 | x ::r,i=>bif Nat.beq x.1 i then some x.2 else lk r i
def setRaw (l:List (Nat×PAct)):Nat→List POp→List POp
 | _,[]=>[]
 | i,o ::r=>(match lk l i with|some x=>{ o with act:=x }|none=>o) ::setRaw l (i+1) r
theorem setRaw_len (l:List (Nat×PAct)):∀ (i:Nat) (r:List POp),(setRaw l i r).length=r.length
 | _,[]=>rfl
 | i,_ ::r=>by simp [setRaw,setRaw_len l (i+1) r]
theorem setRaw_get (l:List (Nat×PAct)):∀ (i:Nat) (r:List POp) (j:Nat),(setRaw l i r)[j]?=(r[j]?).map fun o=>match lk l (i+j) with|some x=>{ o with act:=x }|none=>o
 | _,[],j=>by simp [setRaw]
 | i,o ::r,0=>by simp [setRaw]
 | i,o ::r,j+1=>by
  simp only [setRaw,List.getElem?_cons_succ]
  rw [setRaw_get l (i+1) r j,show i+1+j=i+(j+1) by omega]
def noDst (L:List POp) (t:Nat):Bool:=L.all fun o=>match o.dst with|some d => !(Nat.beq d t)|none=>true
theorem number_get:∀ (k:Nat) (l:List POp) (j:Nat),(number k l)[j]?=(l[j]?).map fun o=>(k+j,o)
 | _,[],j=>by simp [number]
 | k,o ::l,0=>by simp [number]
 | k,o ::l,j+1=>by
  simp only [number,List.getElem?_cons_succ]
  rw [number_get (k+1) l j,show k+1+j=k+(j+1) by omega]
theorem steps_place {Ls l l':List Stp} {s:Stp} {L:List POp} (hL:Ls.map (fun s=>(s.d.i,s.o))=number 0 L) (e:Ls=l++s ::l'):l.length=s.d.i∧∀ x∈s ::l',x.o∈L.drop s.d.i:=by
 have h1:∀ j:Nat,(Ls[j]?).map (fun (s:Stp)=>(s.d.i,s.o))=(L[j]?).map fun o=>(j,o):=fun j=>by
  have:=congrArg (fun z=>z[j]?) hL
  simp only [List.getElem?_map,number_get,Nat.zero_add] at this
  exact this
 have h2:l.length=s.d.i:=by
  have:=h1 l.length
  rw [e,List.getElem?_append_right (Nat.le_refl _),Nat.sub_self] at this
  simp only [List.getElem?_cons_zero,Option.map_some] at this
  cases hx:L[l.length]? with
  | none=>rw [hx] at this;cases this
  | some o=>rw [hx] at this;simp only [Option.map_some,Option.some.injEq,Prod.mk.injEq] at this;exact this.1.symm
 refine ⟨h2,fun x hx=>?_⟩
 obtain ⟨j,hj⟩:=List.getElem?_of_mem hx
 have:=h1 (l.length+j)
 rw [e,List.getElem?_append_right (by omega),Nat.add_sub_cancel_left,hj,Option.map_some] at this
 cases hy:L[l.length+j]? with
 | none=>rw [hy] at this;cases this
 | some o =>
  rw [hy] at this
  simp only [Option.map_some,Option.some.injEq,Prod.mk.injEq] at this
  rw [this.2,← h2]
  exact List.mem_of_getElem? (i:=j) (by rw [List.getElem?_drop];exact hy)
theorem allE_app:∀ (l l':List Stp) (E:Env),allE (l++l') E=allE l' (allE l E)
 | [],_,_=>rfl
 | s ::l,l',E=>allE_app l l' _
theorem allE_no {t:Nat}:∀ (l:List Stp) (E:Env),(∀ x∈l,∀ d,x.o.dst=some d→d≠t)→get (allE l E) t=get E t
 | [],_,_=>rfl
 | s ::l,E,h=>by
  show get (allE l _) t=_
  rw [allE_no l _ fun x hx=>h x (List.mem_cons_of_mem _ hx)]
  cases hd:s.o.dst with
  | none=>rfl
  | some d=>simp only [putD,get_cons];rw [if_neg (h s List.mem_cons_self d hd)]
end
end Go.Proofs.YtdcphpbimeoioaaGreatDoorE
end
section
set_option linter.unusedSectionVars false
namespace Go.Proofs.YtdcphpbimeoioaaGreatDoorE
open Go Go.RowKit Go.Shelf
set_option linter.unusedVariables false
set_option linter.unusedSimpArgs false
section
variable {β:Type} {P:Program} {S:Nat→SL} {F:Nat→Prop} {w:World} {H0:Heap} {E E0:Env} {O:Orc} {a:Act} {n base:Nat} {Ls:List Stp} {os:Array Oper} {Q:Exit→Act→World→Prop}
theorem any_rawA {J:(Nat→Bool)→Act→(Nat→SL)→(Nat→Prop)→World→Heap→Prop} {raw:Nat→Bool} {L:List POp} (hO:OrcOk P O) (hL:Ls.map (fun s=>(s.d.i,s.o))=number 0 L) (hlen:L.length=os.size)
  (hsame:∀ i o,os[i]?=some o→∃ po,L[i]?=some po∧po.dst=o.dst∧po.after=(opOf P os o).after∧po.guard=(opOf P os o).guard∧(raw i=false→po=opOf P os o)∧(raw i=true→o.guard=none∧∃ v us,po.act = .raw v us))
  (hd:(os.toList.map (opOf P os)).all (dstIn n)=true) (hs:StepsOk O base [] Ls E0 H0)
  (hJ:∀ (A A':Nat→Bool) (a a':Act) {S F w H S' F' w' H'},(∀ i,raw i=true→A' i=A i)→(a'=a∨∃ (i:Nat) (o:Oper) (v:Value),os[i]?=some o∧raw i=false∧a'=a.put o.dst v)→J A a S F w H→Adv S F w H S' F' w' H'→J A' a' S' F' w' H')
  (hR:∀ (l l':List Stp) (s:Stp) (o:Oper),Ls=l++s ::l'→os[s.d.i]?=some o→raw s.d.i=true→∀ (A B:Nat→Bool) (S1:Nat→SL) (F1:Nat→Prop) (w1:World) (H1:Heap) (E1:Env) (a1:Act),A s.d.i=false→(∀ k∈s.o.after,A k=true)→B s.d.i=true→(∀ i,i≠s.d.i→B i=A i) →
   Rel S1 F1 w1 H1→At S1 F1 w1 E1 a1 n→(∀ t∈usesO s.o,get E1 t=get (allE l E0) t)→J A a1 S1 F1 w1 H1 →
   ∀ (K:Act→World→Prop),(∀ v w',Val S1 F1 w' s.v v→Off S1 F1 w1 H1 w'→J B (a1.put o.dst v) S1 F1 w' H1→K (a1.put o.dst v) w')→o.wp P a1 w1 K Q)
  (hQ:∀ S' F' w' E' a' A,(∀ i,raw i=true→i<os.size→A i=true)→EqE E' (allE Ls E0)→Rel S' F' w' (allH Ls H0)→At S' F' w' E' a' n→J A a' S' F' w' (allH Ls H0)→Q .normal a' w') :
  ∀ (fuel:Nat) (listed:Array Bool) {S1:Nat→SL} {F1:Nat→Prop} {w1:World} {E1:Env} {a1:Act},listed.size=os.size→(∀ s∈Ls,listed.getD s.d.i false=true→∀ k∈s.o.after,listed.getD k false=true)→listed.toList.count false≤fuel →
   Rel S1 F1 w1 (subH (fun i=>listed.getD i false) Ls H0)→At S1 F1 w1 E1 a1 n→EqE E1 (subE (fun i=>listed.getD i false) Ls E0)→J (fun i=>listed.getD i false) a1 S1 F1 w1 (subH (fun i=>listed.getD i false) Ls H0)→wpAny P .any os Q fuel listed a1 w1:=by
 have hidx:∀ s∈Ls,s.d.i<os.size∧∃ o,os[s.d.i]?=some o∧L[s.d.i]?=some s.o∧s.o.after=(opOf P os o).after:=by
  intro s hs
  have hm:(s.d.i,s.o)∈number 0 L:=by rw [← hL];exact List.mem_map.2 ⟨s,hs,rfl⟩
  obtain ⟨_,h2⟩:=number_mem _ _ _ hm
  rw [Nat.sub_zero] at h2
  have hlt:s.d.i<os.size:=by have:=(List.getElem?_eq_some_iff.1 h2).1;omega
  obtain ⟨po,g1,_,g3,_⟩:=hsame s.d.i _ (Array.getElem?_eq_getElem hlt)
  rw [g1] at h2
  cases h2
  exact ⟨hlt,_,Array.getElem?_eq_getElem hlt,g1,g3⟩
 have hall':∀ i,i<os.size→∃ s∈Ls,s.d.i=i:=by
  intro i hi
  have h1:Ls.map (fun s=>s.d.i)=List.range' 0 L.length:=by
   have:=congrArg (List.map Prod.fst) hL
   rw [number_fst,List.map_map] at this
   simpa [Function.comp_def] using this
  have:i∈Ls.map (fun s=>s.d.i):=by rw [h1];simp [List.mem_range'_1];omega
  obtain ⟨s,hs,e⟩:=List.mem_map.1 this
  exact ⟨s,hs,e⟩
 have fin:∀ (listed:Array Bool) {S1:Nat→SL} {F1:Nat→Prop} {w1:World} {E1:Env} {a1:Act},(∀ s∈Ls,listed.getD s.d.i false=true)→Rel S1 F1 w1 (subH (fun i=>listed.getD i false) Ls H0)→At S1 F1 w1 E1 a1 n→EqE E1 (subE (fun i=>listed.getD i false) Ls E0)→J (fun i=>listed.getD i false) a1 S1 F1 w1 (subH (fun i=>listed.getD i false) Ls H0)→Q .normal a1 w1:=by
  intro listed S1 F1 w1 E1 a1 hall hr ha he hA
  rw [subH_true (B:=fun i=>listed.getD i false) Ls H0 hall] at hr hA
  rw [subE_true (B:=fun i=>listed.getD i false) Ls E0 hall] at he
  exact hQ _ _ _ _ _ _ (fun i _ hi=>by obtain ⟨s,h1,h2⟩:=hall' i hi;rw [← h2];exact hall s h1) he hr ha hA
 intro fuel
 induction fuel with
 | zero =>
  intro listed S1 F1 w1 E1 a1 hsz hcl hf hr ha he hA
  have hno:∀ i,i<os.size→listed.getD i false=true:=by
   intro i hi
   have h0:listed.toList.count false=0:=Nat.le_zero.1 hf
   rw [List.count_eq_zero] at h0
   have hi':i<listed.size:=by omega
   rw [Array.getD_eq_getD_getElem?,Array.getElem?_eq_getElem hi']
   simp only [Option.getD_some]
   cases hb:listed[i] with
   | true=>rfl
   | false=>exact absurd (by rw [← hb];exact Array.getElem_mem_toList hi') h0
  refine ⟨?_,fin listed (fun s hs=>hno _ (hidx s hs).1) hr ha he hA⟩
  refine List.eq_nil_iff_forall_not_mem.2 fun i hi=>?_
  obtain ⟨h1,o,h2,_⟩:=mem_ready.1 hi
  have hlt:i<os.size:=(Array.getElem?_eq_some_iff.1 h2).1
  have:=hno i hlt
  rw [Array.getD_eq_getD_getElem?,Array.getElem?_eq_getElem (by omega:i<listed.size)] at this h1
  simp only [Option.getD_some] at this h1
  rw [this] at h1;cases h1
 | succ fuel ih =>
  intro listed S1 F1 w1 E1 a1 hsz hcl hf hr ha he hA
  have hgd:∀ i,i<os.size→listed.getD i true=listed.getD i false:=by
   intro i hi
   rw [Array.getD_eq_getD_getElem?,Array.getD_eq_getD_getElem?,Array.getElem?_eq_getElem (by omega:i<listed.size)]
   rfl
  refine ⟨fun hnil=>fin listed ?_ hr ha he hA,fun i hi=>?_⟩
  ·
   have key:∀ (m:Nat),∀ s∈Ls,s.d.i≤m→listed.getD s.d.i false=true:=by
    intro m
    induction m with
    | zero =>
     intro s hsm hle
     cases hb:listed.getD s.d.i false with
     | true=>rfl
     | false =>
      obtain ⟨hlt,o,ho,_,hso⟩:=hidx s hsm
      have:s.d.i∈Region.ready .any os listed:=mem_ready.2 ⟨by rw [hgd _ hlt];exact hb,o,ho,fun e he' hbd=>by
       obtain ⟨l,l',hll⟩:=List.append_of_mem hsm
       have h2:=(steps_at (done:=[]) l (hll ▸ hs)).2.1
       have:e.on∈s.o.after:=by rw [hso];exact List.mem_map.2 ⟨e,List.mem_filter.2 ⟨by simpa using he',hbd⟩,rfl⟩
       have:=List.all_eq_true.1 h2 _ this
       have:=Nat.le_of_ble_eq_true this
       omega⟩
      rw [hnil] at this;cases this
    | succ m ihm =>
     intro s hsm hle
     cases hb:listed.getD s.d.i false with
     | true=>rfl
     | false =>
      obtain ⟨hlt,o,ho,_,hso⟩:=hidx s hsm
      have:s.d.i∈Region.ready .any os listed:=mem_ready.2 ⟨by rw [hgd _ hlt];exact hb,o,ho,fun e he' hbd=>by
       obtain ⟨l,l',hll⟩:=List.append_of_mem hsm
       have h2:=(steps_at (done:=[]) l (hll ▸ hs)).2.1
       have:e.on∈s.o.after:=by rw [hso];exact List.mem_map.2 ⟨e,List.mem_filter.2 ⟨by simpa using he',hbd⟩,rfl⟩
       have:=List.all_eq_true.1 h2 _ this
       have h3:=Nat.le_of_ble_eq_true this
       have hlt':e.on<os.size:=by omega
       obtain ⟨s',e1,e2⟩:=hall' e.on hlt'
       have:=ihm s' e1 (by omega)
       rwa [e2] at this⟩
      rw [hnil] at this;cases this
   exact fun s hs=>key _ s hs (Nat.le_refl _)
  ·obtain ⟨h1,o,ho,hrd⟩:=mem_ready.1 hi
   have hlt:i<os.size:=(Array.getElem?_eq_some_iff.1 ho).1
   rw [hgd i hlt] at h1
   obtain ⟨s,l,l',hll,hsi,hl,hl'⟩:∃ s l l',Ls=l++s ::l'∧s.d.i=i∧(∀ x∈l,x.d.i≠i)∧∀ x∈l',x.d.i≠i:=by
    obtain ⟨s,hsm,rfl⟩:=hall' i hlt
    obtain ⟨l,l',e0⟩:=List.append_of_mem hsm
    have h1:Ls.map (fun s=>s.d.i)=List.range' 0 L.length:=by
     have:=congrArg (List.map Prod.fst) hL
     rw [number_fst,List.map_map] at this
     simpa [Function.comp_def] using this
    have hn:((l++s ::l').map (fun s=>s.d.i)).Nodup:=by rw [← e0,h1];exact List.nodup_range' (step:=1)
    rw [List.map_append,List.map_cons,List.nodup_append] at hn
    obtain ⟨_,n2,n3⟩:=hn
    rw [List.nodup_cons] at n2
    exact ⟨s,l,l',e0,rfl,fun x hx e=>n3 _ (List.mem_map.2 ⟨x,hx,rfl⟩) _ (List.mem_cons_self ..) e,fun x hx e=>n2.1 (List.mem_map.2 ⟨x,hx,e⟩)⟩
   obtain ⟨_,o2,ho2,hLs,haft⟩:=hidx s (by rw [hll];simp)
   rw [hsi,ho] at ho2
   cases ho2
   obtain ⟨po,q1,q2,q3,q4,q5,q6⟩:=hsame i o ho
   rw [hsi,q1] at hLs
   cases hLs
   have hA0:listed.getD s.d.i false=false:=by rw [hsi];exact h1
   have hrdy:∀ k∈s.o.after,listed.getD k false=true:=by
    intro k hk
    rw [haft] at hk
    obtain ⟨e,he',rfl⟩:=List.mem_map.1 hk
    obtain ⟨g1,g2⟩:=List.mem_filter.1 he'
    exact hrd e (by simpa using g1) g2
   have hB:(listed.setIfInBounds i true).getD s.d.i false=true:=by rw [hsi];exact getD_set_self (by omega)
   have hne:∀ x:Stp,x.d.i≠i→(listed.setIfInBounds i true).getD x.d.i false=listed.getD x.d.i false:=fun x hx=>getD_set_ne false fun e=>hx e.symm
   have hmono:∀ k,listed.getD k false=true→(listed.setIfInBounds i true).getD k false=true:=fun k hk=>by
    by_cases e:i=k
    ·subst e;exact getD_set_self (by omega)
    ·rw [getD_set_ne false e];exact hk
   have hs':=hs
   rw [hll] at hs' hcl
   obtain ⟨e1,e2⟩:=step_env (A:=fun i=>listed.getD i false) hs' hcl hA0 hrdy
   obtain ⟨p1,p2⟩:=step_put (A:=fun i=>listed.getD i false) (B:=fun j=>(listed.setIfInBounds i true).getD j false) hs' hcl hA0 hrdy hB (fun x hx=>hne x (hl x hx)) (fun x hx=>hne x (hl' x hx))
   have hrun:=(steps_at (done:=[]) l hs').1
   rw [← hll] at e1 e2 p1 p2 hcl
   obtain ⟨d1,d2⟩:=dstIn_spec (List.all_eq_true.1 hd _ (List.mem_map.2 ⟨o,by simpa using Array.mem_of_getElem? ho,rfl⟩):dstIn n (opOf P os o)=true)
   have hcl':∀ x∈Ls,(listed.setIfInBounds i true).getD x.d.i false=true→∀ k∈x.o.after,(listed.setIfInBounds i true).getD k false=true:=by
    intro x hx hb k hk
    by_cases e:x.d.i=i
    ·refine hmono k (hrdy k ?_)
     have hx':=hx
     rw [hll] at hx'
     rcases List.mem_append.1 hx' with hx'|hx'
     ·exact absurd e (hl x hx')
     ·rcases List.mem_cons.1 hx' with rfl|hx'
      ·exact hk
      ·exact absurd e (hl' x hx')
    ·rw [hne x e] at hb
     exact hmono k (hcl x hx hb k hk)
   have hcnt:(listed.setIfInBounds i true).toList.count false≤fuel:=by
    have hi':i<listed.toList.length:=by simpa using (by omega:i<listed.size)
    have h0:listed.toList[i]=false:=by
     rw [Array.getD_eq_getD_getElem?,Array.getElem?_eq_getElem (by omega:i<listed.size)] at h1
     simpa using h1
    have hm:0<listed.toList.count false:=List.count_pos_iff.2 (by rw [← h0];exact List.getElem_mem hi')
    rw [Array.toList_setIfInBounds,List.count_set hi',h0]
    simp
    simp at hm hf
    omega
   have hus:∀ t∈usesO s.o,get E1 t=get (allE l E0) t:=fun t ht=>(he t).trans (e1 t ht)
   have hJmono:∀ {S' F' w' H'} (a':Act),raw i=false→(a'=a1∨∃ (i:Nat) (o:Oper) (v:Value),os[i]?=some o∧raw i=false∧a'=a1.put o.dst v)→Adv S1 F1 w1 (subH (fun i=>listed.getD i false) Ls H0) S' F' w' H'→J (fun j=>(listed.setIfInBounds i true).getD j false) a' S' F' w' H':=fun {S' F' w' H'} a' hr0 hac hA' =>
    hJ _ _ _ _ (fun j hj=>getD_set_ne false fun e=>by rw [e,hj] at hr0;cases hr0) hac hA hA'
   have hwant:Fires s.o.guard (allE l E0)→Region.wanted o (yielded os a1.tmps)=true:=by
    intro g1
    cases hg:o.guard with
    | none=>simp [Region.wanted,hg]
    | some g =>
     obtain ⟨j,b⟩:=g
     obtain ⟨t,hgo,ht⟩:=d2 j b hg
     rw [q4,hgo] at g1
     have hb:get E1 t = .bool b:=(hus t (by simp [usesO,q4,hgo])).trans g1
     simp [Region.wanted,hg,ha.yield hb ht]
   unfold wpOp
   simp only [ho]
   cases hraw:raw i with
   | true =>
    obtain ⟨hog,rv,us,hact⟩:=q6 hraw
    rcases hrun.run with ⟨g1,g2⟩|⟨g1,g3,g4⟩
    ·have ha':=g2 E1 _ hus e2 (fun v H=>some (v,H))
     rw [hact] at ha'
     have ha':some (rv,subH (fun i=>listed.getD i false) Ls H0)=some (s.v,upd (subH (fun i=>listed.getD i false) Ls H0) s.δ):=ha'
     simp only [Option.some.injEq,Prod.mk.injEq] at ha'
     simp only [hwant g1,if_true]
     refine .inl (hR l l' s o hll (by rw [hsi];exact ho) (by rw [hsi];exact hraw) (fun j=>listed.getD j false) (fun j=>(listed.setIfInBounds i true).getD j false) S1 F1 w1 _ E1 a1 hA0 hrdy hB (fun j hj=>getD_set_ne false fun e=>hj (by rw [hsi,e])) hr ha hus hA _ fun v w' c2 c3 c4=>?_)
     have p2':subH (fun j=>(listed.setIfInBounds i true).getD j false) Ls H0=subH (fun i=>listed.getD i false) Ls H0:=p2.trans ha'.2.symm
     refine ih _ (by simpa using hsz) hcl' hcnt (by rw [p2'];exact c3.rel hr) ((c3.at' hr ha).put c2 (fun d hd'=>d1 d (by simpa using hd'))) ?_ (by rw [p2'];exact c4)
     rw [← q2]
     exact (he.put _ _).trans p1
    ·exfalso
     have:s.o.guard=none:=by rw [q4];simp [opOf,hog]
     rw [this] at g1;exact g1
   | false =>
    have hso:=q5 hraw
    have fire:Fires s.o.guard (allE l E0)→(∀ E' H',(∀ t∈usesO s.o,get E' t=get (allE l E0) t)→Agr (s.d.rd++s.d.wr) (allH l H0) H'→∀ {β:Type} (K:PV→Heap→Option β),act O (base+s.d.i) E' H' s.o.act K=K s.v (upd H' s.δ)) →
      o.wp P a1 w1 (wpAny P .any os Q fuel (listed.setIfInBounds i true)) Q:=by
     intro _ hact
     have ha':=hact E1 _ hus e2 (fun v H=>some (v,H))
     rw [show s.o.act=actV P (appUses os o.dst) o by rw [hso];rfl] at ha'
     refine wp_of_runs (actV_ok hO hr ha.opd o _ ha') fun v w' hv=>?_
     obtain ⟨pv,H',S',F',hK,hr',hv',hA'⟩:=hv
     cases hK
     refine ih _ (by simpa using hsz) hcl' hcnt (by rw [p2];exact hr') ((ha.adv hr hA').put hv' d1) ?_ (by rw [p2];exact hJmono _ hraw (.inr ⟨i,o,_,ho,hraw,rfl⟩) hA')
     have hdst:s.o.dst=o.dst:=by rw [hso];rfl
     rw [← hdst]
     exact (he.put _ _).trans p1
    rcases hrun.run with ⟨g1,g2⟩|⟨g1,g2,g3⟩
    ·simp only [hwant g1,if_true]
     exact .inl (fire g1 g2)
    ·cases hg:o.guard with
     | none =>
      have:s.o.guard=none:=by rw [hso];simp [opOf,hg]
      rw [this] at g1;exact absurd g1 (fun h=>h)
     | some g =>
      obtain ⟨j,b⟩:=g
      obtain ⟨t,hgo,ht⟩:=d2 j b hg
      rw [hso,hgo] at g1
      have hu:=hus t (by rw [hso];simp [usesO,hgo])
      have hw:=ha.wantNo hg (g1.imp hu.trans hu.trans) ht
      simp only [hw,Bool.false_eq_true,if_false]
      rw [g3] at p2
      rw [g2] at p1
      have p2':subH (fun j=>(listed.setIfInBounds i true).getD j false) Ls H0=subH (fun i=>listed.getD i false) Ls H0:=p2
      have hdst:s.o.dst=o.dst:=by rw [hso];rfl
      refine ih _ (by simpa using hsz) hcl' hcnt (by rw [p2'];exact hr) (ha.skip d1) ?_ (by rw [p2'];exact hJmono _ hraw (.inr ⟨i,o,_,ho,hraw,rfl⟩) (Adv.refl _ _ _ _))
      rw [← hdst]
      exact (he.put _ _).trans p1
end
section
variable {P:Program} {S S' S0:Nat→SL} {F F' F0:Nat→Prop} {w w' w0:World} {H H' H0:Heap} {E E':Env} {O:Orc} {a:Act} {n:Nat} {Q:Exit→Act→World→Prop} {ts:List Nat} {sg:List Sg} {us:List (Nat×Value)} {s:SgEl sg} {bs:List Nat} {J J':World→Prop}
theorem region_rawA {β:Type} (hM:P.follows .mixedOrders=true) (hO:OrcOk P O) {id:Nat} {os:Array Oper} {l:List (Nat×PAct)} (hl:∀ i x,lk l i=some x→∃ v us,x = .raw v us) (hg:∀ i o,os[i]?=some o→(lk l i).isSome=true→o.guard=none)
  (hd:(os.toList.map (opOf P os)).all (dstIn n)=true) {J:(Nat→Bool)→Act→(Nat→SL)→(Nat→Prop)→World→Heap→Prop} {base:Nat} {r:β} {K:Env→Heap→Option β}
  (h:opsD O base [] (number 0 (setRaw l 0 (os.toList.map (opOf P os)))) E H K=some r) (hr:Rel S F w H) (ha:At S F w E a n)
  (hJ:∀ (A A':Nat→Bool) (a a':Act) {S F w H S' F' w' H'},(∀ i,(lk l i).isSome=true→A' i=A i)→(a'=a∨∃ (i:Nat) (o:Oper) (v:Value),os[i]?=some o∧(lk l i).isSome=false∧a'=a.put o.dst v)→J A a S F w H→Adv S F w H S' F' w' H'→J A' a' S' F' w' H') (hJ0:J (fun _=>false) a S F w H)
  (hR:∀ (Ef:Env) (Hf:Heap),K Ef Hf=some r→∀ (i:Nat) (v:PV) (vs:List Arg) (o:Oper),os[i]?=some o→lk l i=some (.raw v vs)→∀ (A B:Nat→Bool) (S1:Nat→SL) (F1:Nat→Prop) (w1:World) (H1:Heap) (E1:Env) (a1:Act),A i=false→(∀ k∈(opOf P os o).after,A k=true)→B i=true→(∀ j,j≠i→B j=A j) →
   Rel S1 F1 w1 H1→At S1 F1 w1 E1 a1 n→(∀ t∈(PAct.raw v vs).uses,noDst ((setRaw l 0 (os.toList.map (opOf P os))).drop i) t=true→get E1 t=get Ef t)→J A a1 S1 F1 w1 H1 →
   ∀ (K:Act→World→Prop),(∀ x w',Val S1 F1 w' v x→Off S1 F1 w1 H1 w'→J B (a1.put o.dst x) S1 F1 w' H1→K (a1.put o.dst x) w')→o.wp P a1 w1 K Q)
  (hQ:∀ S' F' w' E' a' H' A,K E' H'=some r→(∀ i,(lk l i).isSome=true→i<os.size→A i=true)→Rel S' F' w' H'→At S' F' w' E' a' n→J A a' S' F' w' H'→Q .normal a' w'):(Code.region id os true).wp P Q a w:=by
 obtain ⟨Ls,k1,k2,E',k3,k4⟩:=opsD_steps hO _ [] (fun _=>rfl) h
 have eqAt:∀ {S F w E1 E2 a1},EqE E1 E2→At S F w E1 a1 n→At S F w E2 a1 n:=fun he ha=>⟨⟨fun k=>he k ▸ ha.opd.tmp k,ha.opd.const,ha.opd.func⟩,ha.size,ha.defers⟩
 have h0:∀ i,(Array.replicate os.size false).getD i false=false:=fun i=>by
  simp [Array.getD_eq_getD_getElem?,Array.getElem?_replicate]
  split<;>rfl
 refine wp_region_any hM ?_
 have hst:∀ i o,os[i]?=some o→(os.toList.map (opOf P os))[i]?=some (opOf P os o):=fun i o ho=>by
  rw [List.getElem?_map,Array.getElem?_toList,ho];rfl
 have hA:=Adv.heap (w:=w) (w':={ w with drawn:=w.drawn+1 }) rfl ⟨rfl,rfl,rfl,(fun _=>Nat.le_succ _)⟩ S F H
 refine any_rawA (J:=J) (raw:=fun i=>(lk l i).isSome) (L:=setRaw l 0 (os.toList.map (opOf P os))) hO k1 (by rw [setRaw_len];simp) (fun i o ho=>?_) hd k2 hJ (fun l1 l2 s o hLs ho hraw A B S1 F1 w1 H1 E1 a1 g1 g2 g3 g4 g5 g6 g7 g8=>?_) (fun S' F' w' E2 a' A e1 e2 e3 e4 e5=>?_) os.size _ (by simp) (fun s _ hb=>?_) ?_ (S1:=S) (F1:=F) (E1:=E) ?_ (ha.adv hr hA) ?_ ?_
 ·have e:=setRaw_get l 0 (os.toList.map (opOf P os)) i
  rw [hst i o ho,Option.map_some,Nat.zero_add] at e
  cases hx:lk l i with
  | none=>rw [hx] at e;exact ⟨_,e,rfl,rfl,rfl,fun _=>rfl,fun h=>by simp at h⟩
  | some x =>
   rw [hx] at e
   exact ⟨_,e,rfl,rfl,rfl,fun h=>by simp at h,fun _=>⟨hg i o ho (by rw [hx];rfl),hl i x hx⟩⟩
 ·have hraw:(lk l s.d.i).isSome=true:=hraw
  obtain ⟨x,hx⟩:=Option.isSome_iff_exists.1 hraw
  obtain ⟨v,vs,rfl⟩:=hl _ _ hx
  obtain ⟨p1,p2⟩:=steps_place k1 hLs
  have e:=setRaw_get l 0 (os.toList.map (opOf P os)) s.d.i
  rw [hst _ o ho,Option.map_some,Nat.zero_add,hx] at e
  have hso:s.o={ opOf P os o with act := .raw v vs }:=by
   have h1:=congrArg (fun z=>z[s.d.i]?) k1
   simp only [List.getElem?_map,number_get,Nat.zero_add,e,Option.map_some] at h1
   rw [hLs,← p1,List.getElem?_append_right (Nat.le_refl _),Nat.sub_self] at h1
   simp only [List.getElem?_cons_zero,Option.map_some,Option.some.injEq,Prod.mk.injEq] at h1
   exact h1.2
  have hgn:=hg _ o ho hraw
  have hsv:s.v=v:=by
   have k2':=k2
   rw [hLs] at k2'
   have hrun:=(steps_at (done:=[]) l1 k2').1.run
   rcases hrun with ⟨_,f2⟩|⟨f1,_⟩
   ·have:=f2 (allE l1 E) (allH l1 H) (fun _ _=>rfl) (fun _ _=>rfl) (fun v H=>some v)
    rw [hso] at this
    exact (Option.some.inj this).symm
   ·rw [hso] at f1
    have:(opOf P os o).guard=none:=by simp [opOf,hgn]
    simp only [this] at f1
    exact f1.elim
  rw [hsv]
  refine hR E' (allH Ls H) k4 s.d.i v vs o ho hx A B S1 F1 w1 H1 E1 a1 g1 (fun k hk=>g2 k (by rw [hso];exact hk)) g3 g4 g5 g6 (fun t ht hn=>?_) g8
  rw [g7 t (by rw [hso];exact List.mem_append_left _ ht),k3 t,hLs,allE_app,allE_no (s ::l2) _ ?_]
  intro y hy d hd' hdt
  subst hdt
  have:=List.all_eq_true.1 hn _ (p2 y hy)
  rw [hd'] at this
  simp [show Nat.beq d d=true from Nat.beq_refl d] at this
 ·exact hQ _ _ _ _ _ _ A k4 e1 e3 (eqAt (fun t=>(e2 t).trans (k3 t).symm) e4) e5
 ·rw [h0] at hb;cases hb
 ·have:=List.count_le_length (a:=false) (l:=(Array.replicate os.size false).toList)
  simp
 ·rw [subH_false (B:=fun i=>(Array.replicate os.size false).getD i false) _ _ fun s _=>h0 _]
  exact Rel.heap (w:=w) rfl hr
 ·rw [subE_false (B:=fun i=>(Array.replicate os.size false).getD i false) _ _ fun s _=>h0 _]
  exact fun _=>rfl
 ·rw [subH_false (B:=fun i=>(Array.replicate os.size false).getD i false) _ _ fun s _=>h0 _]
  exact hJ _ _ _ _ (fun i _=>h0 i) (.inl rfl) hJ0 hA
end
end Go.Proofs.YtdcphpbimeoioaaGreatDoorE
end
section
set_option linter.unusedSectionVars false
namespace Go.Proofs.YtdcphpbimeoioaaGreatDoorE
open Go
set_option linter.unusedVariables false
set_option maxRecDepth 100000
abbrev query_series_sg:List Sg:=[.box [.tree tQuery], .tree .str]
abbrev query_series_rs:List Rt:=[.tree (.int .i64)]
def query_series (n:Nat) (x:SgEl query_series_sg):Option (RtEl query_series_rs×OutEl query_series_sg) :=
  bindN (s_Cut n (x.2.1,(⟨#[123]⟩:ByteArray),())) fun p1 =>
  bif p1.1.2.2.1 then
   bindN (s_CutSuffix n (p1.1.2.1,(⟨#[125]⟩:ByteArray),())) fun p2 =>
   bif !p2.1.2.1 then
    some (((2:Int),()),(x.1,(),()))
   else
   bif seq p2.1.1 (⟨#[]⟩:ByteArray) then
    some (((2:Int),()),(x.1,(),()))
   else
   bindN (word_Name n (p1.1.1,())) fun p3 =>
   bif !p3.1.1 then
    some (((2:Int),()),(x.1,(),()))
   else
   bindN (pick_Parse n (p2.1.1,())) fun p4 =>
   some (p4.1.2,(((x.1.1.1,p1.1.1,p4.1.1,x.1.1.2.2.2),()),(),()))
  else
  bindN (word_Name n (p1.1.1,())) fun p5 =>
  bif !p5.1.1 then
   some (((2:Int),()),(x.1,(),()))
  else
  bindN (pick_Parse n (p1.1.2.1,())) fun p6 =>
  some (p6.1.2,(((x.1.1.1,p1.1.1,p6.1.1,x.1.1.2.2.2),()),(),()))
abbrev query_series_ent (n:Nat):Ent:=⟨302,query_series_sg,query_series_rs,query_series n⟩
theorem query_series_ok (n:Nat):EntOk Tryz.prog (query_series_ent n):=ent_ok' mixed (T:=[s_Cut_ent n,s_CutSuffix_ent n,word_Name_ent n,pick_Parse_ent n]) (tabCons (s_Cut_ok n) (tabCons (s_CutSuffix_ok n) (tabCons (word_Name_ok n) (tabCons (pick_Parse_ok n) tabNil)))) tabLNil fun x=>by kernel_rfl
abbrev query_read_sg:List Sg:=[.box [.tree tQuery], .tree (.slice .str)]
abbrev query_read_rs:List Rt:=[.tree (.int .i64)]
def query_read (n:Nat) (x:SgEl query_read_sg):Option (RtEl query_read_rs×OutEl query_read_sg) :=
  bif !(ieq (ilen x.2.1) (2:Int)) then
   bif !(ieq (ilen x.2.1) (4:Int)) then
    some (((2:Int),()),(x.1,(),()))
   else
   bif ile (0:Int) (2:Int) then
    bindN (lat x.2.1 (iN (2:Int))) fun v1 =>
    bif !(seq v1 (⟨#[98,121]⟩:ByteArray)) then
     some (((2:Int),()),(x.1,(),()))
    else
    bif ile (0:Int) (0:Int) then
     bindN (lat x.2.1 (iN (0:Int))) fun v2 =>
     bindN (query_agg n (v2,())) fun p3 =>
     bif ieq p3.1.1 (0:Int) then
      some (((2:Int),()),(((p3.1.1,x.1.1.2),()),(),()))
     else
     bif ile (0:Int) (1:Int) then
      bindN (lat x.2.1 (iN (1:Int))) fun v4 =>
      bindN (query_series n (((p3.1.1,x.1.1.2),()),v4,())) fun p5 =>
      bif !(ieq p5.1.1 (0:Int)) then
       some (p5.1,(p5.2.1,(),()))
      else
      bif ieq (ilen x.2.1) (4:Int) then
       bif ile (0:Int) (3:Int) then
        bindN (lat x.2.1 (iN (3:Int))) fun v6 =>
        bindN (word_Split n (v6,(44:Int),())) fun p7 =>
        bindN (query_names n p7.1) fun p8 =>
        some (p8.1,(((p5.2.1.1.1,p5.2.1.1.2.1,p5.2.1.1.2.2.1,p7.1),()),(),()))
       else none
      else
      bindN (query_names n p5.2.1.1.2.2.2) fun p9 =>
      some (p9.1,(p5.2.1,(),()))
     else none
    else none
   else none
  else
  bif ile (0:Int) (0:Int) then
   bindN (lat x.2.1 (iN (0:Int))) fun v10 =>
   bindN (query_agg n (v10,())) fun p11 =>
   bif ieq p11.1.1 (0:Int) then
    some (((2:Int),()),(((p11.1.1,x.1.1.2),()),(),()))
   else
   bif ile (0:Int) (1:Int) then
    bindN (lat x.2.1 (iN (1:Int))) fun v12 =>
    bindN (query_series n (((p11.1.1,x.1.1.2),()),v12,())) fun p13 =>
    bif !(ieq p13.1.1 (0:Int)) then
     some (p13.1,(p13.2.1,(),()))
    else
    bif ieq (ilen x.2.1) (4:Int) then
     bif ile (0:Int) (3:Int) then
      bindN (lat x.2.1 (iN (3:Int))) fun v14 =>
      bindN (word_Split n (v14,(44:Int),())) fun p15 =>
      bindN (query_names n p15.1) fun p16 =>
      some (p16.1,(((p13.2.1.1.1,p13.2.1.1.2.1,p13.2.1.1.2.2.1,p15.1),()),(),()))
     else none
    else
    bindN (query_names n p13.2.1.1.2.2.2) fun p17 =>
    some (p17.1,(p13.2.1,(),()))
   else none
  else none
abbrev query_read_ent (n:Nat):Ent:=⟨267,query_read_sg,query_read_rs,query_read n⟩
theorem query_read_ok (n:Nat):EntOk Tryz.prog (query_read_ent n):=ent_ok' mixed (T:=[query_agg_ent n,query_series_ent n,word_Split_ent n,query_names_ent n]) (tabCons (query_agg_ok n) (tabCons (query_series_ok n) (tabCons (word_Split_ok n) (tabCons (query_names_ok n) tabNil)))) tabLNil fun x=>by kernel_rfl
abbrev query_Parse_sg:List Sg:=[.tree .str]
abbrev query_Parse_rs:List Rt:=[.tree tQuery, .tree (.int .i64)]
def query_Parse (n:Nat) (x:SgEl query_Parse_sg):Option (RtEl query_Parse_rs×OutEl query_Parse_sg) :=
  bindN (word_Fields n x) fun p1 =>
  bindN (query_read n ((((0:Int),(⟨#[]⟩:ByteArray),[],[],()),()),p1.1)) fun p2 =>
  bif !(ieq p2.1.1 (0:Int)) then
   some ((((0:Int),(⟨#[]⟩:ByteArray),[],[],()),p2.1),((),()))
  else
  some ((p2.2.1.1,(0:Int),()),((),()))
abbrev query_Parse_ent (n:Nat):Ent:=⟨214,query_Parse_sg,query_Parse_rs,query_Parse n⟩
theorem query_Parse_ok (n:Nat):EntOk Tryz.prog (query_Parse_ent n):=ent_ok' mixed (T:=[word_Fields_ent n,query_read_ent n]) (tabCons (word_Fields_ok n) (tabCons (query_read_ok n) tabNil)) tabLNil fun x=>by kernel_rfl
abbrev command_Same_sg:List Sg:=[.tree tCommand, .tree tCommand]
abbrev command_Same_rs:List Rt:=[.tree .bool]
def command_Same (n:Nat) (x:SgEl command_Same_sg):Option (RtEl command_Same_rs×OutEl command_Same_sg) :=
  bif ieq x.1.1 x.2.1.1 then
   bindN (key_Same n (x.1.2.1,x.2.1.2.1,())) fun p1 =>
   bif p1.1.1 then
    bif ieq x.1.2.2.1 x.2.1.2.2.1 then
     bif ieq x.1.2.2.2.1 x.2.1.2.2.2.1 then
      bindN (query_Same n (x.1.2.2.2.2.1,x.2.1.2.2.2.2.1,())) fun p2 =>
      bif p2.1.1 then
       some ((ieq x.1.2.2.2.2.2.1 x.2.1.2.2.2.2.2.1,()),((),(),()))
      else
      some ((false,()),((),(),()))
     else
     some ((false,()),((),(),()))
    else
    some ((false,()),((),(),()))
   else
   some ((false,()),((),(),()))
  else
  some ((false,()),((),(),()))
abbrev command_Same_ent (n:Nat):Ent:=⟨44,command_Same_sg,command_Same_rs,command_Same n⟩
theorem command_Same_ok (n:Nat):EntOk Tryz.prog (command_Same_ent n):=ent_ok' mixed (T:=[key_Same_ent n,query_Same_ent n]) (tabCons (key_Same_ok n) (tabCons (query_Same_ok n) tabNil)) tabLNil fun x=>by kernel_rfl
abbrev command_plain_sg:List Sg:=[.tree tCommand]
abbrev command_plain_rs:List Rt:=[.tree tCommand]
def command_plain (n:Nat) (x:SgEl command_plain_sg):Option (RtEl command_plain_rs×OutEl command_plain_sg) :=
  bif ieq x.1.1 (1:Int) then
   some (((x.1.1,x.1.2.1,x.1.2.2.1,x.1.2.2.2.1,((0:Int),(⟨#[]⟩:ByteArray),[],[],()),(0:Int),()),()),((),()))
  else
  bif ieq x.1.1 (2:Int) then
   some (((x.1.1,((⟨#[]⟩:ByteArray),[],()),(0:Int),(0:Int),x.1.2.2.2.2.1,(0:Int),()),()),((),()))
  else
  bif ieq x.1.1 (3:Int) then
   some (((x.1.1,((⟨#[]⟩:ByteArray),[],()),(0:Int),(0:Int),x.1.2.2.2.2.1,(0:Int),()),()),((),()))
  else
  bif ieq x.1.1 (4:Int) then
   some (((x.1.1,((⟨#[]⟩:ByteArray),[],()),(0:Int),(0:Int),((0:Int),(⟨#[]⟩:ByteArray),[],[],()),x.1.2.2.2.2.2),()),((),()))
  else
  some (((x.1.1,((⟨#[]⟩:ByteArray),[],()),(0:Int),(0:Int),((0:Int),(⟨#[]⟩:ByteArray),[],[],()),(0:Int),()),()),((),()))
abbrev command_plain_ent (n:Nat):Ent:=⟨75,command_plain_sg,command_plain_rs,command_plain n⟩
theorem command_plain_ok (n:Nat):EntOk Tryz.prog (command_plain_ent n):=ent_ok' mixed (T:=[]) tabNil tabLNil fun x=>by kernel_rfl
abbrev command_event_sg:List Sg:=[.tree (.int .i64)]
abbrev command_event_rs:List Rt:=[.tree .bool]
def command_event (n:Nat) (x:SgEl command_event_sg):Option (RtEl command_event_rs×OutEl command_event_sg) :=
  bif ile (0:Int) x.1 then
   some ((ile x.1 (1000000000000:Int),()),((),()))
  else
  some ((false,()),((),()))
abbrev command_event_ent (n:Nat):Ent:=⟨77,command_event_sg,command_event_rs,command_event n⟩
theorem command_event_ok (n:Nat):EntOk Tryz.prog (command_event_ent n):=ent_ok' mixed (T:=[]) tabNil tabLNil fun x=>by kernel_rfl
abbrev command_Right_sg:List Sg:=[.tree tCommand]
abbrev command_Right_rs:List Rt:=[.tree .bool]
def command_Right (n:Nat) (x:SgEl command_Right_sg):Option (RtEl command_Right_rs×OutEl command_Right_sg) :=
  bindN (command_plain n x) fun p1 =>
  bindN (command_Same n (x.1,p1.1)) fun p2 =>
  bif !p2.1.1 then
   some ((false,()),((),()))
  else
  bif ieq x.1.1 (1:Int) then
   bindN (key_Right n (x.1.2.1,())) fun p3 =>
   bif p3.1.1 then
    bindN (command_event n (x.1.2.2.1,())) fun p4 =>
    some (p4.1,((),()))
   else
   some ((false,()),((),()))
  else
  bif ieq x.1.1 (2:Int) then
   bindN (query_Right n (x.1.2.2.2.2.1,())) fun p5 =>
   some (p5.1,((),()))
  else
  bif ieq x.1.1 (3:Int) then
   bindN (query_Right n (x.1.2.2.2.2.1,())) fun p6 =>
   some (p6.1,((),()))
  else
  bif ieq x.1.1 (4:Int) then
   bif ile (0:Int) x.1.2.2.2.2.2.1 then
    some ((ilt x.1.2.2.2.2.2.1 (2147483648:Int),()),((),()))
   else
   some ((false,()),((),()))
  else
  some ((ieq x.1.1 (5:Int),()),((),()))
abbrev command_Right_ent (n:Nat):Ent:=⟨40,command_Right_sg,command_Right_rs,command_Right n⟩
theorem command_Right_ok (n:Nat):EntOk Tryz.prog (command_Right_ent n):=ent_ok' mixed (T:=[command_plain_ent n,command_Same_ent n,key_Right_ent n,command_event_ent n,query_Right_ent n]) (tabCons (command_plain_ok n) (tabCons (command_Same_ok n) (tabCons (key_Right_ok n) (tabCons (command_event_ok n) (tabCons (query_Right_ok n) tabNil))))) tabLNil fun x=>by kernel_rfl
abbrev command_Text_sg:List Sg:=[.tree tCommand]
abbrev command_Text_rs:List Rt:=[.tree .str]
def command_Text (n:Nat) (x:SgEl command_Text_sg):Option (RtEl command_Text_rs×OutEl command_Text_sg) :=
  bindN (command_Right n x) fun p1 =>
  bif !p1.1.1 then
   some (((⟨#[]⟩:ByteArray),()),((),()))
  else
  bif ieq x.1.1 (1:Int) then
   bindN (key_Text n (x.1.2.1,())) fun p2 =>
   bindN (sat_Number n (x.1.2.2.1,())) fun p3 =>
   bindN (sat_Number n (x.1.2.2.2.1,())) fun p4 =>
   bindN (word_Join n ((⟨#[32]⟩:ByteArray),[(⟨#[112,117,116]⟩:ByteArray),p2.1.1,p3.1.1,p4.1.1],())) fun p5 =>
   some (p5.1,((),()))
  else
  bif ieq x.1.1 (2:Int) then
   bindN (query_Text n (x.1.2.2.2.2.1,())) fun p6 =>
   bindN (word_Join n ((⟨#[32]⟩:ByteArray),[(⟨#[103,101,116]⟩:ByteArray),p6.1.1],())) fun p7 =>
   some (p7.1,((),()))
  else
  bif ieq x.1.1 (3:Int) then
   bindN (query_Text n (x.1.2.2.2.2.1,())) fun p8 =>
   bindN (word_Join n ((⟨#[32]⟩:ByteArray),[(⟨#[115,117,98]⟩:ByteArray),p8.1.1],())) fun p9 =>
   some (p9.1,((),()))
  else
  bif ieq x.1.1 (4:Int) then
   bindN (sat_Number n x.1.2.2.2.2.2) fun p10 =>
   bindN (word_Join n ((⟨#[32]⟩:ByteArray),[(⟨#[99,97,110,99,101,108]⟩:ByteArray),p10.1.1],())) fun p11 =>
   some (p11.1,((),()))
  else
  some (((⟨#[115,116,97,116]⟩:ByteArray),()),((),()))
abbrev command_Text_ent (n:Nat):Ent:=⟨42,command_Text_sg,command_Text_rs,command_Text n⟩
theorem command_Text_ok (n:Nat):EntOk Tryz.prog (command_Text_ent n):=ent_ok' mixed (T:=[command_Right_ent n,key_Text_ent n,sat_Number_ent n,word_Join_ent n,query_Text_ent n]) (tabCons (command_Right_ok n) (tabCons (key_Text_ok n) (tabCons (sat_Number_ok n) (tabCons (word_Join_ok n) (tabCons (query_Text_ok n) tabNil))))) tabLNil fun x=>by kernel_rfl
abbrev command_numberE_sg:List Sg:=[.tree .str, .fnv 77 []]
abbrev command_numberE_rs:List Rt:=[.tree (.int .i64), .tree (.int .i64)]
def command_numberE (n:Nat) (x:SgEl command_numberE_sg):Option (RtEl command_numberE_rs×OutEl command_numberE_sg) :=
  bindN (sat_Read n (x.1,())) fun p1 =>
  bif ieq p1.1.2.1 (0:Int) then
   bindN (command_event n (p1.1.1,())) fun p2 =>
   bif !p2.1.1 then
    some ((p1.1.1,(3:Int),()),((),(),()))
   else
   some (p1.1,((),(),()))
  else
  some (p1.1,((),(),()))
abbrev command_numberE_ent (n:Nat):Ent:=⟨213,command_numberE_sg,command_numberE_rs,command_numberE n⟩
theorem command_numberE_ok (n:Nat):EntOk Tryz.prog (command_numberE_ent n):=ent_ok' mixed (T:=[sat_Read_ent n,command_event_ent n]) (tabCons (sat_Read_ok n) (tabCons (command_event_ok n) tabNil)) tabLNil fun x=>by kernel_rfl
abbrev command_cancel1_sg:List Sg:=[.tree (.int .i64)]
abbrev command_cancel1_rs:List Rt:=[.tree .bool]
def command_cancel1 (n:Nat) (x:SgEl command_cancel1_sg):Option (RtEl command_cancel1_rs×OutEl command_cancel1_sg) :=
  bif ile (0:Int) x.1 then
   some ((ilt x.1 (2147483648:Int),()),((),()))
  else
  some ((false,()),((),()))
abbrev command_cancel1_ent (n:Nat):Ent:=⟨215,command_cancel1_sg,command_cancel1_rs,command_cancel1 n⟩
theorem command_cancel1_ok (n:Nat):EntOk Tryz.prog (command_cancel1_ent n):=ent_ok' mixed (T:=[]) tabNil tabLNil fun x=>by kernel_rfl
abbrev command_numberC_sg:List Sg:=[.tree .str, .fnv 215 []]
abbrev command_numberC_rs:List Rt:=[.tree (.int .i64), .tree (.int .i64)]
def command_numberC (n:Nat) (x:SgEl command_numberC_sg):Option (RtEl command_numberC_rs×OutEl command_numberC_sg) :=
  bindN (sat_Read n (x.1,())) fun p1 =>
  bif ieq p1.1.2.1 (0:Int) then
   bindN (command_cancel1 n (p1.1.1,())) fun p2 =>
   bif !p2.1.1 then
    some ((p1.1.1,(3:Int),()),((),(),()))
   else
   some (p1.1,((),(),()))
  else
  some (p1.1,((),(),()))
abbrev command_numberC_ent (n:Nat):Ent:=⟨213,command_numberC_sg,command_numberC_rs,command_numberC n⟩
theorem command_numberC_ok (n:Nat):EntOk Tryz.prog (command_numberC_ent n):=ent_ok' mixed (T:=[sat_Read_ent n,command_cancel1_ent n]) (tabCons (sat_Read_ok n) (tabCons (command_cancel1_ok n) tabNil)) tabLNil fun x=>by kernel_rfl
abbrev command_put_sg:List Sg:=[.box [.tree (.int .i64), .tree tKey, .tree (.int .i64), .tree (.int .i64), .tree tQuery, .tree (.int .i64)], .tree (.slice .str)]
abbrev command_put_rs:List Rt:=[.tree (.int .i64)]
def command_put (n:Nat) (x:SgEl command_put_sg):Option (RtEl command_put_rs×OutEl command_put_sg) :=
  bif !(ieq (ilen x.2.1) (3:Int)) then
   some (((2:Int),()),(x.1,(),()))
  else
  bif ile (0:Int) (0:Int) then
   bindN (lat x.2.1 (iN (0:Int))) fun v1 =>
   bindN (key_Parse n (v1,())) fun p2 =>
   bif !(ieq p2.1.2.1 (0:Int)) then
    some (p2.1.2,((x.1.1,p2.1.1,x.1.2.2),(),()))
   else
   bif ile (0:Int) (1:Int) then
    bindN (lat x.2.1 (iN (1:Int))) fun v3 =>
    bindN (command_numberE n (v3,(),())) fun p4 =>
    bif !(ieq p4.1.2.1 (0:Int)) then
     some (p4.1.2,((x.1.1,p2.1.1,p4.1.1,x.1.2.2.2),(),()))
    else
    bif ile (0:Int) (2:Int) then
     bindN (lat x.2.1 (iN (2:Int))) fun v5 =>
     bindN (sat_Read n (v5,())) fun p6 =>
     some (p6.1.2,((x.1.1,p2.1.1,p4.1.1,p6.1.1,x.1.2.2.2.2),(),()))
    else none
   else none
  else none
abbrev command_put_ent (n:Nat):Ent:=⟨162,command_put_sg,command_put_rs,command_put n⟩
theorem command_put_ok (n:Nat):EntOk Tryz.prog (command_put_ent n):=ent_ok' mixed (T:=[key_Parse_ent n,command_numberE_ent n,sat_Read_ent n]) (tabCons (key_Parse_ok n) (tabCons (command_numberE_ok n) (tabCons (sat_Read_ok n) tabNil))) tabLNil fun x=>by kernel_rfl
abbrev command_ask_sg:List Sg:=[.box [.tree (.int .i64), .tree tKey, .tree (.int .i64), .tree (.int .i64), .tree tQuery, .tree (.int .i64)], .tree (.slice .str)]
abbrev command_ask_rs:List Rt:=[.tree (.int .i64)]
def command_ask (n:Nat) (x:SgEl command_ask_sg):Option (RtEl command_ask_rs×OutEl command_ask_sg) :=
  bindN (word_Join n ((⟨#[32]⟩:ByteArray),x.2)) fun p1 =>
  bindN (query_Parse n p1.1) fun p2 =>
  some (p2.1.2,((x.1.1,x.1.2.1,x.1.2.2.1,x.1.2.2.2.1,p2.1.1,x.1.2.2.2.2.2),(),()))
abbrev command_ask_ent (n:Nat):Ent:=⟨163,command_ask_sg,command_ask_rs,command_ask n⟩
theorem command_ask_ok (n:Nat):EntOk Tryz.prog (command_ask_ent n):=ent_ok' mixed (T:=[word_Join_ent n,query_Parse_ent n]) (tabCons (word_Join_ok n) (tabCons (query_Parse_ok n) tabNil)) tabLNil fun x=>by kernel_rfl
abbrev command_cancel_sg:List Sg:=[.box [.tree (.int .i64), .tree tKey, .tree (.int .i64), .tree (.int .i64), .tree tQuery, .tree (.int .i64)], .tree (.slice .str)]
abbrev command_cancel_rs:List Rt:=[.tree (.int .i64)]
def command_cancel (n:Nat) (x:SgEl command_cancel_sg):Option (RtEl command_cancel_rs×OutEl command_cancel_sg) :=
  bif !(ieq (ilen x.2.1) (1:Int)) then
   some (((2:Int),()),(x.1,(),()))
  else
  bif ile (0:Int) (0:Int) then
   bindN (lat x.2.1 (iN (0:Int))) fun v1 =>
   bindN (command_numberC n (v1,(),())) fun p2 =>
   some (p2.1.2,((x.1.1,x.1.2.1,x.1.2.2.1,x.1.2.2.2.1,x.1.2.2.2.2.1,p2.1.1,()),(),()))
  else none
abbrev command_cancel_ent (n:Nat):Ent:=⟨164,command_cancel_sg,command_cancel_rs,command_cancel n⟩
theorem command_cancel_ok (n:Nat):EntOk Tryz.prog (command_cancel_ent n):=ent_ok' mixed (T:=[command_numberC_ent n]) (tabCons (command_numberC_ok n) tabNil) tabLNil fun x=>by kernel_rfl
abbrev command_alone_sg:List Sg:=[.box [.tree (.int .i64), .tree tKey, .tree (.int .i64), .tree (.int .i64), .tree tQuery, .tree (.int .i64)], .tree (.slice .str)]
abbrev command_alone_rs:List Rt:=[.tree (.int .i64)]
def command_alone (n:Nat) (x:SgEl command_alone_sg):Option (RtEl command_alone_rs×OutEl command_alone_sg) :=
  bif ilt (0:Int) (ilen x.2.1) then
   some (((2:Int),()),(x.1,(),()))
  else
  some (((0:Int),()),(x.1,(),()))
abbrev command_alone_ent (n:Nat):Ent:=⟨165,command_alone_sg,command_alone_rs,command_alone n⟩
theorem command_alone_ok (n:Nat):EntOk Tryz.prog (command_alone_ent n):=ent_ok' mixed (T:=[]) tabNil tabLNil fun x=>by kernel_rfl
end Go.Proofs.YtdcphpbimeoioaaGreatDoorE
end
section
set_option linter.unusedSectionVars false
namespace Go.Proofs.YtdcphpbimeoioaaGreatDoorE
open Go Go.RowKit Go.Shelf Go.Proofs
open Go.ChangeMaps (setBlock)
set_option linter.unusedVariables false
set_option linter.unusedSimpArgs false
set_option maxRecDepth 100000
namespace RC
theorem op_at {os:Array Oper} {i:Nat} {op:Op} {d:Option Nat} (h:(os[i]?).map (fun o=>(o.op,o.guard,o.dst))=some (op,none,d)):∃ o,os[i]?=some o∧o.op=op∧o.guard=none∧o.dst=d:=by
 cases ho:os[i]? with
 | none=>rw [ho] at h;cases h
 | some o =>
  rw [ho] at h
  simp only [Option.map_some,Option.some.injEq,Prod.mk.injEq] at h
  exact ⟨o,rfl,h.1,h.2.1,h.2.2⟩
def cL:Code→Code|.seq a _=>a|_ => .skip
def cR:Code→Code|.seq _ b=>b|_ => .skip
def cOps:Code→Array Oper|.region _ os _=>os|_=>#[]
abbrev mtR:TypeId:=130
abbrev rtR:TypeId:=128
abbrev fRd:FuncId:=93
theorem undM:Tryz.prog.underlying mtR=some (.map 9 rtR):=by kernel_rfl
theorem u9:Tryz.prog.underlying 9=some .string:=by kernel_rfl
def rdV (n:Int) (f:FuncId):Value := .agg #[.int .i64 n, .func (.func f) #[] #[]]
abbrev k_put:ByteArray:=⟨#[112,117,116]⟩
abbrev k_get:ByteArray:=⟨#[103,101,116]⟩
abbrev k_sub:ByteArray:=⟨#[115,117,98]⟩
abbrev k_cancel:ByteArray:=⟨#[99,97,110,99,101,108]⟩
abbrev k_stat:ByteArray:=⟨#[115,116,97,116]⟩
def esR (n:Nat):Array MapEntry:=(([{ key := .string k_put,val:=rdV 1 162,born:=0 },{ key := .string k_get,val:=rdV 2 163,born:=1 },{ key := .string k_sub,val:=rdV 3 163,born:=2 },{ key := .string k_cancel,val:=rdV 4 164,born:=3 },{ key := .string k_stat,val:=rdV 5 165,born:=4 }]:List MapEntry).take n).toArray
theorem chk_at (n:Nat) (e:Bool) (s:ByteArray) (w:World):(Instr.checkKey e (n+1) 9 (.string s)).run Tryz.prog w = .ok () w:=by simp [Instr.checkKey,run_underlying u9]
theorem chkS (e:Bool) (s:ByteArray) (w:World):(Instr.checkKey e 10000 9 (.string s)).run Tryz.prog w = .ok () w:=chk_at 9999 e s w
theorem updS {w:World} {b n:Nat} {es:Array MapEntry} {k:ByteArray} (v:Value) (h1:w.heap[b]?=some (.map es n)) (hf:Instr.findNow .string (.string k) es.toList 0=some none) :
  (Instr.mapUpdate mtR (.map (some b)) (.string k) v).run Tryz.prog w = .ok () (setBlock w b (.map (es.push { key := .string k,val:=v,born:=n }) (n+1))):=by
 simp [Instr.mapUpdate,run_underlying undM,MapKept.run_getObj_map h1,chkS,Instr.findKey,run_underlying u9,hf,MapKept.run_setObj_map _ h1,setBlock]
noncomputable def fsR:Array Field:=match Tryz.prog.underlying rtR with|some (.struct fs)=>fs|_=>#[]
theorem undR:Tryz.prog.underlying rtR=some (.struct fsR):=by kernel_rfl
theorem bld (n:Int) (f:FuncId) (w:World):(Instr.build rtR #[(0, .int .i64 n),(1, .func (.func f) #[] #[])]).run Tryz.prog w = .ok (rdV n f) w:=by
 have hd:Opd (fun _=>SL.unused) (fun _=>False) w [] (Act.eval { tmps:=#[],defers:=[] }):=⟨fun k => .junk _,fun _=>rfl,fun _=>rfl⟩
 obtain ⟨pv,u,h1,h2,h3⟩:=ok_build (P:=Tryz.prog) (t:=rtR) (parts:=#[(0, .const (.int .i64 n)),(1, .func f)]) (z:=[.int .i64 0, .junk]) (ps:=[(0,1, .c (.int .i64 n)),(1,1, .c (.fn f [] []))]) (K:=fun v=>some v) (r := .agg [.int .i64 n, .fn f [] []]) hd undR (by kernel_rfl) (by kernel_rfl) (by kernel_rfl) (by rfl)
 cases h1
 have hv:u=rdV n f:=by
  cases h2 with
  | agg cs vs hl hv ho =>
   obtain ⟨l⟩:=vs
   match l,hl with
   | [x,y],_ =>
    have hx:=hv 0 _ x rfl rfl
    have hy:=hv 1 _ y rfl rfl
    cases hx
    cases hy with
    | fn _ _ _ va vb la lb ha hb =>
     have e1:va=#[]:=Array.eq_empty_of_size_eq_zero la
     have e2:vb=#[]:=Array.eq_empty_of_size_eq_zero lb
     subst e1;subst e2;rfl
 rw [← hv]
 simp only [List.map_toArray,List.map_cons,List.map_nil,Act.eval] at h3
 exact h3
noncomputable def bodyR:Code:=match Tryz.f93.body with|some c=>c|none => .skip
noncomputable def Q0:Code:=cL bodyR
noncomputable def Q1:Code:=cL (cR bodyR)
theorem body_eq:bodyR = .seq (.region 0 (cOps Q0) false) (.seq (.region 1 (cOps Q1) false) .ret):=by kernel_rfl
theorem r0_range:List.range (cOps Q0).size=[0]:=by kernel_rfl
theorem r1_range:List.range (cOps Q1).size=[0,1,2,3,4,5,6,7,8,9,10,11,12]:=by kernel_rfl
theorem resR:Tryz.f93.results=#[.tmp 0]:=by kernel_rfl
theorem ntR:Tryz.f93.ntmps=8:=by kernel_rfl
theorem ev_same {a:Act} {t:Nat} {n:Nat} (h:a.tmps.size=n) (ht:t<n) (v:Value):(a.put (some t) v).eval (.tmp t)=v:=eval_put_same (by omega) v
theorem ev_ne {a:Act} {t d:Nat} (h:t≠d) (v:Value):(a.put (some d) v).eval (.tmp t)=a.eval (.tmp t):=Act.eval_put (fun d' hd' e'=>by cases hd';cases e';exact h rfl)
theorem sz_put {a:Act} {n:Nat} (d:Nat) (v:Value) (h:a.tmps.size=n):(a.put (some d) v).tmps.size=n:=by simp [Act.put,h]
theorem set_at {w:World} {b:Nat} {o o':Obj} (h:w.heap[b]?=some o'):(setBlock w b o).heap[b]?=some o:=by
 unfold setBlock
 have:=(Array.getElem?_eq_some_iff.1 h).1
 simp [Array.getElem?_setIfInBounds,this]
theorem set_bel {w0 w:World} (hB:BelD w0 w) (o:Obj):BelD w0 (setBlock w w0.heap.size o):=by
 refine ⟨⟨hB.os,hB.tape,hB.output,by simp [setBlock];exact hB.size,fun k hk=>?_⟩,hB.drawn⟩
 have:=hB.block k hk
 unfold setBlock
 rw [← this]
 simp [Array.getElem?_setIfInBounds,show w0.heap.size≠k by omega]
theorem made_bel (w:World) (o:Obj):BelD w (w.alloc o)∧(w.alloc o).heap[w.heap.size]?=some o:=by
 obtain ⟨h1,h2⟩:=MapKept.heap_alloc w o
 have hs:w.heap.size<(w.alloc o).heap.size:=(Array.getElem?_eq_some_iff.1 h1).1
 exact ⟨⟨⟨rfl,rfl,rfl,Nat.le_of_lt hs,h2⟩,fun _=>Nat.le_refl _⟩,h1⟩
theorem ins {Q:Exit→Act→World→Prop} {rest:List Nat} {os:Array Oper} {i d b n:Nat} {m:Int} {f:FuncId} {k:ByteArray} {a:Act} {w0 w:World} {es:Array MapEntry} (hb:b=w0.heap.size)
  (h0:(os[i]?).map (fun o=>(o.op,o.guard,o.dst))=some (.build rtR #[(0, .const (.int .i64 m)),(1, .func f)],none,some d)) (h1:(os[i+1]?).map (fun o=>(o.op,o.guard,o.dst))=some (.insert mtR (.tmp 1) (.const (.string k)) (.tmp d),none,none))
  (hs:a.tmps.size=8) (hd:d<8) (hd1:1≠d) (he:a.eval (.tmp 1) = .map (some b)) (hm:w.heap[b]?=some (.map es n)) (hB:BelD w0 w) (hf:Instr.findNow .string (.string k) es.toList 0=some none)
  (kk:∀ a' w',a'.tmps.size=8→a'.defers=a.defers→a'.eval (.tmp 1) = .map (some b)→w'.heap[b]?=some (.map (es.push { key := .string k,val:=rdV m f,born:=n }) (n+1))→BelD w0 w'→wpOps Tryz.prog os Q rest a' w'):wpOps Tryz.prog os Q (i ::(i+1) ::rest) a w:=by
 obtain ⟨o0,q0,p0,g0,d0⟩:=op_at h0
 obtain ⟨o1,q1,p1,g1,d1⟩:=op_at h1
 subst hb
 refine raw_step q0 g0 (v:=rdV m f) (w':=w) ?_ ?_
 ·have:=bld m f w
  unfold execOp;rw [p0]
  simp only [List.map_toArray,List.map_cons,List.map_nil]
  rw [Sem.run_bind]
  have e:(Instr.build rtR #[(0,Act.eval a (.const (.int .i64 m))),(1,Act.eval a (.func f))]).run Tryz.prog w = .ok (rdV m f) w:=this
  rw [e];rfl
 ·rw [d0]
  refine raw_skip q1 g1 (w':=setBlock w w0.heap.size (.map (es.push { key := .string k,val:=rdV m f,born:=n }) (n+1))) ?_ ?_
  ·unfold execOp;rw [p1]
   simp only
   rw [ev_ne hd1,he,ev_same hs hd,Sem.run_bind]
   have e:(Instr.mapUpdate mtR (.map (some w0.heap.size)) (Act.eval (a.put (some d) (rdV m f)) (.const (.string k))) (rdV m f)).run Tryz.prog w = .ok () (setBlock w w0.heap.size (.map (es.push { key := .string k,val:=rdV m f,born:=n }) (n+1))):=updS (rdV m f) hm hf
   rw [e];rfl
  ·rw [d1]
   exact kk (a.put (some d) (rdV m f)) _ (sz_put d _ hs) rfl ((ev_ne hd1 _).trans he) (set_at hm) (set_bel hB _)
theorem readers_calls (W:World):Calls Tryz.prog fRd #[] W fun e w'=>e = .returned (.map (some W.heap.size))∧w'.heap[W.heap.size]?=some (.map (esR 5) 5)∧BelD W w':=by
 have hb:Tryz.f93.body=some bodyR:=by kernel_rfl
 refine calls_of_wp Tryz.func93 hb ?_
 have hsz:(#[]++Array.replicate (Tryz.f93.ntmps - (#[]:Array Value).size) undef:Array Value).size=8:=by rw [ntR];simp
 generalize (#[]++Array.replicate (Tryz.f93.ntmps - (#[]:Array Value).size) undef:Array Value)=T at hsz
 rw [body_eq]
 refine wp_seq (wp_region ?_)
 rw [r0_range]
 obtain ⟨o0,q0,p0,g0,d0⟩:=op_at (os:=cOps Q0) (i:=0) (op := .assign (.const (.map none))) (d:=some 0) (by kernel_rfl)
 refine raw_step q0 g0 (v := .map none) (w':=W) (by unfold execOp;rw [p0];rfl) ?_
 rw [d0]
 show (Code.seq (.region 1 (cOps Q1) false) .ret).wp Tryz.prog _ _ W
 refine wp_seq (wp_region ?_)
 rw [r1_range]
 have hs0:(Act.put { tmps:=T,defers:=[] } (some 0) (.map none)).tmps.size=8:=sz_put 0 _ hsz
 generalize hA0:(Act.put { tmps:=T,defers:=[] } (some 0) (.map none))=a0 at hs0
 have hdf:a0.defers=[]:=by rw [← hA0];rfl
 obtain ⟨o1,q1,p1,g1,d1⟩:=op_at (os:=cOps Q1) (i:=0) (op := .makeMap mtR none) (d:=some 1) (by kernel_rfl)
 obtain ⟨b0,h0⟩:=made_bel W (.map #[] 0)
 refine raw_step q1 g1 (v := .map (some W.heap.size)) (w':=W.alloc (.map #[] 0)) (by unfold execOp;rw [p1];simp [Instr.makeMap,Result.andThen]) ?_
 rw [d1]
 refine ins rfl (i:=1) (d:=2) (es:=esR 0) (n:=0) (m:=1) (f:=162) (k:=k_put) (by kernel_rfl) (by kernel_rfl) (sz_put 1 _ hs0) (by decide) (by decide) (ev_same hs0 (by decide) _) h0 b0 (by kernel_rfl) fun a1 w1 hs1 hd1 he1 h1 b1=>?_
 refine ins rfl (i:=3) (d:=3) (es:=esR 1) (n:=1) (m:=2) (f:=163) (k:=k_get) (by kernel_rfl) (by kernel_rfl) hs1 (by decide) (by decide) he1 h1 b1 (by kernel_rfl) fun a2 w2 hs2 hd2 he2 h2 b2=>?_
 refine ins rfl (i:=5) (d:=4) (es:=esR 2) (n:=2) (m:=3) (f:=163) (k:=k_sub) (by kernel_rfl) (by kernel_rfl) hs2 (by decide) (by decide) he2 h2 b2 (by kernel_rfl) fun a3 w3 hs3 hd3 he3 h3 b3=>?_
 refine ins rfl (i:=7) (d:=5) (es:=esR 3) (n:=3) (m:=4) (f:=164) (k:=k_cancel) (by kernel_rfl) (by kernel_rfl) hs3 (by decide) (by decide) he3 h3 b3 (by kernel_rfl) fun a4 w4 hs4 hd4 he4 h4 b4=>?_
 refine ins rfl (i:=9) (d:=6) (es:=esR 4) (n:=4) (m:=5) (f:=165) (k:=k_stat) (by kernel_rfl) (by kernel_rfl) hs4 (by decide) (by decide) he4 h4 b4 (by kernel_rfl) fun a5 w5 hs5 hd5 he5 h5 b5=>?_
 obtain ⟨o2,q2,p2,g2,d2⟩:=op_at (os:=cOps Q1) (i:=11) (op := .move (.tmp 1)) (d:=some 7) (by kernel_rfl)
 obtain ⟨o3,q3,p3,g3,d3⟩:=op_at (os:=cOps Q1) (i:=12) (op := .assign (.tmp 7)) (d:=some 0) (by kernel_rfl)
 refine raw_step q2 g2 (v := .map (some W.heap.size)) (w':=w5) (by unfold execOp;rw [p2];simp only;rw [he5];rfl) ?_
 rw [d2]
 refine raw_step q3 g3 (v := .map (some W.heap.size)) (w':=w5) (by unfold execOp;rw [p3];simp only;rw [ev_same hs5 (by decide)];rfl) ?_
 rw [d3]
 have hfin:(((a5.put (some 7) (.map (some W.heap.size))).put (some 0) (.map (some W.heap.size))).eval (.tmp 0)) = .map (some W.heap.size):=ev_same (sz_put 7 _ hs5) (by decide) _
 have hdfs:a5.defers=[]:=by rw [hd5,hd4,hd3,hd2,hd1];exact hdf
 refine wp_ret ?_
 refine ⟨hdfs, .map (some W.heap.size),?_,rfl,h5,b5⟩
 unfold results
 rw [resR]
 simp [Act.eval] at hfin ⊢
 exact hfin
end RC
end Go.Proofs.YtdcphpbimeoioaaGreatDoorE
end
section
set_option linter.unusedSectionVars false
namespace Go.Proofs.YtdcphpbimeoioaaGreatDoorE
open Go Go.RowKit Go.Shelf Go.Proofs
open Go.ChangeMaps (setBlock)
set_option linter.unusedVariables false
set_option linter.unusedSimpArgs false
set_option maxRecDepth 100000
namespace RC
abbrev fP:FuncId:=46
noncomputable def body:Code:=match Tryz.f46.body with|some c=>c|none => .skip
noncomputable def C0:Code:=cL body
noncomputable def D1:Code:=cR body
noncomputable def C1:Code:=cL D1
noncomputable def D2:Code:=cR D1
noncomputable def X2:Code:=cL D2
noncomputable def D4:Code:=cR D2
noncomputable def C4:Code:=cL D4
noncomputable def Z5:Code:=cR D4
theorem body_eqP:body=capp 2 (.seq C0 (.seq C1 X2)) (.seq (.region 4 (cOps C4) true) Z5):=by kernel_rfl
noncomputable abbrev nP:Nat:=sizeF Tryz.prog fP
theorem hM:Tryz.prog.follows .mixedOrders=true:=by kernel_rfl
abbrev boxS:Sg := .box [.tree (.int .i64), .tree tKey, .tree (.int .i64), .tree (.int .i64), .tree tQuery, .tree (.int .i64)]
abbrev sgB:List Sg:=[boxS, .tree (.slice .str)]
abbrev sgE:List Sg:=[boxS, .tree (.int .i64)]
def zCmdR:El tCommand:=(0,(⟨#[]⟩,[],()),0,0,(0,⟨#[]⟩,[],[],()),0,())
def pA (n:Nat) (s:SgEl [.tree .str]):Option ((SgEl sgB ⊕ SgEl sgE)×List PV) :=
  bindN (word_Fields n (s.1,())) fun p1 =>
  bif ieq (ilen p1.1.1) (0:Int) then some (.inr (zCmdR,(2:Int),()),[]) else some (.inl (zCmdR,p1.1.1,()),[])
theorem pA_ok (n:Nat) (s):walkC Tryz.prog [word_Fields_ent n] fP (.seq C0 (.seq C1 X2)) [0] [.tree .str] [] ⟨[],[2,4],sgB, .ret,[2,3],sgE⟩ s=pA n s:=by kernel_rfl
def TC (n:Nat):List Ent:=[command_put_ent n,command_ask_ent n,command_cancel_ent n,command_alone_ent n]
def raw4 (pv:PV):List (Nat×PAct):=[(0, .raw .junk []),(4, .raw pv [.t 19])]
def outR4 (r:El tCommand×Int):PV×Heap:=(.tup [valPV tCommand r.1, .int .i64 r.2],[])
noncomputable def codeZ (n:Nat) (E:Env) (H:Heap):Option (PV×Heap) :=
  code (specO (TC n) []) fP 0 (ann (rawOf Tryz.prog Z5 0).1 [(1000000,[2,3])] []).1 E H fun x E' H'=>match x with
    | .ret=>resVals E' H' (Tryz.f46.results.toList.map (resOf Tryz.prog)) fun vs=>fin 0 false (oneOf vs) H' fun p H=>some (p,H)
    | _=>none
noncomputable def K4 (n:Nat) (E:Env) (H:Heap):Option ((PV×Heap)×List PV):=(codeZ n E H).map fun y=>(y,[get E 19])
abbrev CmdG:Type:=SgEl command_put_sg→Option (RtEl command_put_rs×OutEl command_put_sg)
def callW {γ:Type} (g:CmdG) (k:Int) (l:List ByteArray) (K:El tCommand×Int→Option γ):Option γ :=
  bif ile (1:Int) (ilen l) then
   bif ile (ilen l) (ilen l) then
    bindN (g ((k,(⟨#[]⟩,[],()),0,0,(0,⟨#[]⟩,[],[],()),0,()),winI l (1:Int) (ilen l),())) fun p=>bif !(ieq p.1.1 (0:Int)) then K (zCmdR,p.1.1) else K (p.2.1,(0:Int))
   else none
  else none
noncomputable def L4:List POp:=(cOps C4).toList.map (opOf Tryz.prog (cOps C4))
def found (k:Int) (f:FuncId):PV := .tup [.agg [.int .i64 k, .fn f [] []], .bool true]
def missed:PV := .tup [.agg [.int .i64 0, .junk], .bool false]
theorem ev_put (n:Nat) (k:Int) (s:SgEl sgB):opsD (specO (TC n) []) (heapOf sgB s).length [] (number 0 (setRaw (raw4 (found k 162)) 0 L4)) (envOf [2,4] sgB [] s) (heapOf sgB s) (K4 n) =
    bindN (lat s.2.1 (iN (0:Int))) fun v=>(callW (command_put n) k s.2.1 fun r=>some (outR4 r)).map fun y=>(y,[.str v]):=by kernel_rfl
theorem ev_ask (n:Nat) (k:Int) (s:SgEl sgB):opsD (specO (TC n) []) (heapOf sgB s).length [] (number 0 (setRaw (raw4 (found k 163)) 0 L4)) (envOf [2,4] sgB [] s) (heapOf sgB s) (K4 n) =
    bindN (lat s.2.1 (iN (0:Int))) fun v=>(callW (command_ask n) k s.2.1 fun r=>some (outR4 r)).map fun y=>(y,[.str v]):=by kernel_rfl
theorem ev_cancel (n:Nat) (k:Int) (s:SgEl sgB):opsD (specO (TC n) []) (heapOf sgB s).length [] (number 0 (setRaw (raw4 (found k 164)) 0 L4)) (envOf [2,4] sgB [] s) (heapOf sgB s) (K4 n) =
    bindN (lat s.2.1 (iN (0:Int))) fun v=>(callW (command_cancel n) k s.2.1 fun r=>some (outR4 r)).map fun y=>(y,[.str v]):=by kernel_rfl
theorem ev_alone (n:Nat) (k:Int) (s:SgEl sgB):opsD (specO (TC n) []) (heapOf sgB s).length [] (number 0 (setRaw (raw4 (found k 165)) 0 L4)) (envOf [2,4] sgB [] s) (heapOf sgB s) (K4 n) =
    bindN (lat s.2.1 (iN (0:Int))) fun v=>(callW (command_alone n) k s.2.1 fun r=>some (outR4 r)).map fun y=>(y,[.str v]):=by kernel_rfl
theorem ev_no (n:Nat) (s:SgEl sgB):opsD (specO (TC n) []) (heapOf sgB s).length [] (number 0 (setRaw (raw4 missed) 0 L4)) (envOf [2,4] sgB [] s) (heapOf sgB s) (K4 n) =
    bindN (lat s.2.1 (iN (0:Int))) fun v=>some (outR4 (zCmdR,2),[.str v]):=by kernel_rfl
def zR:Value := .agg #[.int .i64 0, .nilFunc]
theorem zero_run (w:World):(zeroValue rtR).run Tryz.prog w = .ok zR w:=by
  have h:(Tryz.prog.info? rtR).bind (·.zero)=some zR:=by kernel_rfl
  cases hi:Tryz.prog.info? rtR with
  | none=>rw [hi] at h;cases h
  | some i =>
    rw [hi] at h
    simp only [Option.bind_some] at h
    simp [zeroValue,run_typeInfo w hi,h]
theorem look_hit {w:World} {b i n:Nat} {es:Array MapEntry} {s:ByteArray} {v:Value} (hm:w.heap[b]?=some (.map es n)) (hf:Instr.findNow .string (.string s) es.toList 0=some (some (i,v))) :
    (Instr.lookup mtR (.map (some b)) (.string s) true).run Tryz.prog w = .ok (.tuple #[v, .bool true]) w:=by
  simp [Instr.lookup,run_underlying undM,MapKept.run_getObj_map hm,chkS,Instr.findKey,run_underlying u9,hf]
theorem look_miss {w:World} {b n:Nat} {es:Array MapEntry} {s:ByteArray} (hm:w.heap[b]?=some (.map es n)) (hf:Instr.findNow .string (.string s) es.toList 0=some none) :
    (Instr.lookup mtR (.map (some b)) (.string s) true).run Tryz.prog w = .ok (.tuple #[zR, .bool false]) w:=by
  simp [Instr.lookup,run_underlying undM,MapKept.run_getObj_map hm,chkS,Instr.findKey,run_underlying u9,hf,zero_run]
  rfl
theorem val_found (S:Nat→SL) (F:Nat→Prop) (w:World) (k:Int) (f:FuncId):Val S F w (found k f) (.tuple #[rdV k f, .bool true]):=by
  refine .tup _ _ rfl fun i p v hp hv=>?_
  match i,hp,hv with
  | 0,hp,hv =>
    cases hp;cases hv
    refine .agg _ _ rfl (fun j p v hp hv=>?_) (fun j v hv=>?_)
    · match j,hp,hv with
      | 0,hp,hv=>cases hp;cases hv;exact .int _ _
      | 1,hp,hv=>cases hp;cases hv;exact .fn _ _ _ _ _ rfl rfl (fun i p v h=>by simp at h) (fun i p v h=>by simp at h)
      | j+2,hp,hv=>simp at hp
    · match j,hv with
      | 0,hv=>cases hv;rfl
      | 1,hv=>cases hv;rfl
      | j+2,hv=>simp at hv
  | 1,hp,hv=>cases hp;cases hv;exact .bool _
  | i+2,hp,hv=>simp [found] at hp
theorem val_missed (S:Nat→SL) (F:Nat→Prop) (w:World):Val S F w missed (.tuple #[zR, .bool false]):=by
  refine .tup _ _ rfl fun i p v hp hv=>?_
  match i,hp,hv with
  | 0,hp,hv =>
    cases hp;cases hv
    refine .agg _ _ rfl (fun j p v hp hv=>?_) (fun j v hv=>?_)
    · match j,hp,hv with
      | 0,hp,hv=>cases hp;cases hv;exact .int _ _
      | 1,hp,hv=>cases hp;cases hv;exact .junk _
      | j+2,hp,hv=>simp at hp
    · match j,hv with
      | 0,hv=>cases hv;rfl
      | 1,hv=>cases hv;rfl
      | j+2,hv=>simp at hv
  | 1,hp,hv=>cases hp;cases hv;exact .bool _
  | i+2,hp,hv=>simp [missed] at hp
theorem C4_dst:L4.all (dstIn nP)=true:=by kernel_rfl
theorem C4_guard:(cOps C4).toList.all (fun o=>o.guard.isNone)=true:=by kernel_rfl
theorem C4_16:((cOps C4).toList.drop 1).all (fun o=>match o.dst with|some d => !(Nat.beq d 16)|none=>true)=true:=by kernel_rfl
theorem C4_after:((cOps C4)[4]?).map (fun o=>memN 0 (opOf Tryz.prog (cOps C4) o).after)=some true:=by kernel_rfl
theorem nP_big:Nat.blt 30 nP=true:=by kernel_rfl
theorem lk4 {pv x:PV} {vs:List Arg} {i:Nat} (h:lk (raw4 pv) i=some (.raw x vs)):(i=0∧x = .junk∧vs=[])∨(i=4∧x=pv∧vs=[.t 19]):=by
  unfold raw4 lk at h
  cases h0:Nat.beq 0 i with
  | true=>rw [h0] at h;cases h;exact .inl ⟨(Nat.eq_of_beq_eq_true h0).symm,rfl,rfl⟩
  | false =>
    rw [h0,cond_false] at h
    unfold lk at h
    cases h4:Nat.beq 4 i with
    | true=>rw [h4] at h;cases h;exact .inr ⟨(Nat.eq_of_beq_eq_true h4).symm,rfl,rfl⟩
    | false=>rw [h4] at h;cases h
theorem lk_raw {pv:PV} {i:Nat} {x:PAct} (h:lk (raw4 pv) i=some x):∃ v us,x = .raw v us:=by
  unfold raw4 lk at h
  cases h0:Nat.beq 0 i with
  | true=>rw [h0] at h;cases h;exact ⟨_,_,rfl⟩
  | false =>
    rw [h0,cond_false] at h
    unfold lk at h
    cases h4:Nat.beq 4 i with
    | true=>rw [h4] at h;cases h;exact ⟨_,_,rfl⟩
    | false=>rw [h4] at h;cases h
theorem dst16 {i:Nat} {o:Oper} (ho:(cOps C4)[i]?=some o) (hi:i≠0):o.dst≠some 16:=by
  intro hd
  obtain ⟨j,rfl⟩:∃ j,i=j+1:=⟨i - 1,by omega⟩
  have hm:o∈(cOps C4).toList.drop 1:=by
    refine List.mem_of_getElem? (i:=j) ?_
    rw [List.getElem?_drop,Nat.add_comm 1 j,Array.getElem?_toList];exact ho
  have:=List.all_eq_true.1 C4_16 o hm
  rw [hd] at this
  simp [show Nat.beq 16 16=true from rfl] at this
theorem subsZ:subs (ann (rawOf Tryz.prog Z5 0).1 [(1000000,[2,3])] []).1=[]:=by kernel_rfl
theorem dstZ:(opsIn (rawOf Tryz.prog Z5 0).1).all (dstIn nP)=true:=by kernel_rfl
theorem r4 {n:Nat} {s:SgEl sgB} {S0 S:Nat→SL} {F0 F:Nat→Prop} {w0 w:World} {a:Act} {R:Ending→World→Prop} (hT:TabF Tryz.prog (TC n)) (pv:PV) (v:ByteArray) (yr:PV×Heap)
    (hev:opsD (specO (TC n) []) (heapOf sgB s).length [] (number 0 (setRaw (raw4 pv) 0 L4)) (envOf [2,4] sgB [] s) (heapOf sgB s) (K4 n)=some (yr,[.str v]))
    (hlk:∀ (w:World) (b:Nat),w.heap[b]?=some (.map (esR 5) 5)→∃ x,(Instr.lookup mtR (.map (some b)) (.string v) true).run Tryz.prog w = .ok x w∧∀ S F,Val S F w pv x)
    (hr0:Rel S0 F0 w0 []) (h:Mid nP S0 F0 w0 [] [2,4] sgB [] [] (fun _=>True) S F w a s)
    (k:∀ v S2 F2 w',Rel S2 F2 w' yr.2→Val S2 F2 w' yr.1 v→Adv S0 F0 w0 [] S2 F2 w' yr.2→R (.returned v) w') :
    (Code.seq (.region 4 (cOps C4) true) Z5).wp Tryz.prog (bodyPost Tryz.prog Tryz.f46 R) a w:=by
  refine wp_seq ?_
  have hO:OrcOk Tryz.prog (specO (TC n) []):=orc_table hT []
  have hb16:16<nP:=by have:=Nat.le_of_ble_eq_true nP_big;omega
  have hb20:20<nP:=by have:=Nat.le_of_ble_eq_true nP_big;omega
  refine region_rawA hM hO (l:=raw4 pv) (fun i x hx=>lk_raw hx) (fun i o ho hi=>?_) C4_dst hev h.sta.rel h.sta.at'
    (J:=fun A a S F w H=>AdvM 0 S0 F0 w0 [] S F w H∧(A 0=true→∃ b,a.eval (.tmp 16) = .map (some b)∧Frn S F w H b∧w.heap[b]?=some (.map (esR 5) 5)))
    (fun A A' a a' S F w H S' F' w' H' hAA hac hj hAd=>?_) ⟨h.adv,fun hh=>Bool.noConfusion hh⟩ (fun Ef Hf hK i x vs o ho hlk' A B S1 F1 w1 H1 E1 a1 hAi hAft hBi hBo hr ha hus hj K hKK=>?_) (fun S' F' w' E' a' H' A hK hall hr ha hj=>?_)
  · have:=List.all_eq_true.1 C4_guard o (by simpa using Array.mem_of_getElem? ho)
    cases hg:o.guard with
    | none=>rfl
    | some g=>rw [hg] at this;cases this
  · refine ⟨hj.1.trans hAd.toM,fun h0=>?_⟩
    obtain ⟨b,e,f,g⟩:=hj.2 ((hAA 0 rfl).symm.trans h0)
    refine ⟨b,?_,f.adv (m:=0) hAd.toM,(f.same (m:=0) hAd.toM).trans g⟩
    rcases hac with rfl|⟨i,o,v,ho,hi,rfl⟩
    · exact e
    · have hne:i≠0:=fun e0=>by subst e0;cases hi
      have h16:=dst16 ho hne
      rw [Act.eval_put (fun d hd he=>by cases he;exact h16 hd)]
      exact e
  · rcases lk4 hlk' with ⟨rfl,rfl,rfl⟩|⟨rfl,rfl,rfl⟩
    · obtain ⟨o0,ho0,p0,g0,d0⟩:=op_at (os:=cOps C4) (i:=0) (op := .call { callee := .value (.func fRd),args:=#[],argTypes:=#[] }) (d:=some 16) (by kernel_rfl)
      rw [ho] at ho0;cases ho0
      have eg:(callFunc fRd #[]).run Tryz.prog w1 = .ok (.enter fRd #[]) w1:=enters_of Tryz.func93 (by kernel_rfl) rfl _ _
      unfold Oper.wp
      have hrun:(execOp a1.eval o).run Tryz.prog w1 = .ok (.enter fRd #[]) w1:=by
        unfold execOp
        rw [p0]
        simp only [resolve,Deferred.ofValue,invoke,Act.eval,Array.map_empty,pure_bind]
        exact eg
      rw [hrun]
      simp only [Oper.upon]
      refine (readers_calls w1).mono fun e w2 hx=>?_
      obtain ⟨rfl,hm,hB⟩:=hx
      have hOff:Off S1 F1 w1 H1 w2:=⟨hB.size,fun k hk _=>hB.block k hk,hB.os,hB.tape,hB.output,hB.drawn⟩
      have hlt:w1.heap.size<w2.heap.size:=(Array.getElem?_eq_some_iff.1 hm).1
      refine hKK _ _ (.junk _) hOff ⟨hOff.adv hj.1 fun k hk=>hB.block k (Nat.lt_of_lt_of_le hk hj.1.sz),fun _=>⟨w1.heap.size,?_,Frn.new hr hlt,hm⟩⟩
      rw [d0]
      exact eval_put_same (by rw [ha.size];exact hb16) _
    · obtain ⟨o4,ho4,p4,g4,d4⟩:=op_at (os:=cOps C4) (i:=4) (op := .lookup mtR (.tmp 16) (.tmp 19) true) (d:=some 20) (by kernel_rfl)
      rw [ho] at ho4;cases ho4
      have h0:A 0=true:=by
        have:=C4_after
        rw [ho] at this
        simp only [Option.map_some,Option.some.injEq] at this
        exact hAft 0 (memN_iff.1 this)
      obtain ⟨b,e16,f,g⟩:=hj.2 h0
      unfold K4 at hK
      obtain ⟨y,hy,hyr⟩:=Option.map_eq_some_iff.1 hK
      simp only [Prod.mk.injEq,List.cons.injEq,and_true] at hyr
      obtain ⟨_,q19⟩:=hyr
      have v19:=ha.opd.tmp 19
      rw [hus 19 (show 19∈[19] by decide) (by kernel_rfl),q19] at v19
      have e19:=val_str v19
      obtain ⟨x,hx,hv⟩:=hlk w1 b g
      unfold Oper.wp execOp
      rw [p4]
      simp only
      rw [e16,e19,Sem.run_bind,hx]
      refine hKK x w1 (hv _ _) ⟨Nat.le_refl _,fun _ _ _=>rfl,rfl,rfl,rfl,fun _=>Nat.le_refl _⟩ ⟨hj.1,fun _=>⟨b,?_,f,g⟩⟩
      rw [d4]
      exact (ev_ne (by decide) _).trans e16
  · show Z5.wp Tryz.prog _ a' w'
    unfold K4 at hK
    obtain ⟨y,hy,hyr⟩:=Option.map_eq_some_iff.1 hK
    simp only [Prod.mk.injEq] at hyr
    obtain ⟨rfl,_⟩:=hyr
    unfold codeZ at hy
    refine code_ok (l:=[]) hO (drawn_ok hM hO) (fun i lv lx ap fz nb pc c hx=>by cases hx) (mt_raw Z5 0 _ _ dstZ) (by rw [subsZ];exact fun x hx=>hx) hr ha hy fun x E1 H1 S2 F2 w2 a2 hK2 hr2 ha2 hA2=>?_
    cases x with
    | ret=>exact ret_ok (n:=nP) hr0 hr2 ha2 (hj.1.trans hA2) hK2 fun v S2 F2 k1 k2 k3=>k v S2 F2 _ k1 k2 k3
    | normal=>cases hK2
    | exit i=>cases hK2
theorem endE {R:Ending→World→Prop} {S S':Nat→SL} {F F':Nat→Prop} {w w':World} {a':Act} (hr:Rel S F w []) (h:Mid nP S F w [] [2,3] sgE [] [] (fun _=>True) S' F' w' a' (zCmdR,(2:Int),()))
    (k:∀ v S2 F2 w',Rel S2 F2 w' (outR4 (zCmdR,2)).2→Val S2 F2 w' (outR4 (zCmdR,2)).1 v→Adv S F w [] S2 F2 w' (outR4 (zCmdR,2)).2→R (.returned v) w'):bodyPost Tryz.prog Tryz.f46 R .ret a' w':=by
  have hK:(resVals (envOf [2,3] sgE [] ((zCmdR,(2:Int),()):SgEl sgE)) (heapOf sgE ((zCmdR,(2:Int),()):SgEl sgE)) (Tryz.f46.results.toList.map (resOf Tryz.prog)) fun vs=>fin ([]:Heap).length false (oneOf vs) (heapOf sgE ((zCmdR,(2:Int),()):SgEl sgE)) fun p H=>some (p,H))=some (outR4 (zCmdR,2)):=by kernel_rfl
  exact ret_ok (n:=nP) hr h.sta.rel h.sta.at' h.adv hK fun v S2 F2 k1 k2 k3=>k v S2 F2 _ k1 k2 k3
theorem hit_put:Instr.findNow .string (.string k_put) (esR 5).toList 0=some (some (0,rdV 1 162)):=by kernel_rfl
theorem hit_get:Instr.findNow .string (.string k_get) (esR 5).toList 0=some (some (1,rdV 2 163)):=by kernel_rfl
theorem hit_sub:Instr.findNow .string (.string k_sub) (esR 5).toList 0=some (some (2,rdV 3 163)):=by kernel_rfl
theorem hit_cancel:Instr.findNow .string (.string k_cancel) (esR 5).toList 0=some (some (3,rdV 4 164)):=by kernel_rfl
theorem hit_stat:Instr.findNow .string (.string k_stat) (esR 5).toList 0=some (some (4,rdV 5 165)):=by kernel_rfl
theorem beq_no {a b:ByteArray} (h:a≠b):(a ==b)=false:=by
  obtain ⟨a⟩:=a
  obtain ⟨b⟩:=b
  show (a ==b)=false
  exact beq_false_of_ne fun e=>h (by rw [e])
theorem miss {s:ByteArray} (h1:s≠k_put) (h2:s≠k_get) (h3:s≠k_sub) (h4:s≠k_cancel) (h5:s≠k_stat):Instr.findNow .string (.string s) (esR 5).toList 0=some none:=by
  simp [Instr.findNow,Instr.sameNow,esR,beq_no h1,beq_no h2,beq_no h3,beq_no h4,beq_no h5]
theorem callW_some {γ δ:Type} {g:CmdG} {k:Int} {l:List ByteArray} {K:El tCommand×Int→Option γ} {y:γ} (h:callW g k l K=some y):∃ r,K r=some y∧∀ {δ:Type} (K':El tCommand×Int→Option δ),callW g k l K'=K' r:=by
  unfold callW at h
  obtain ⟨h1,h⟩:=cond_some h
  obtain ⟨h2,h⟩:=cond_some h
  obtain ⟨p,h3,h⟩:=bindN_some h
  cases hc:(!(ieq p.1.1 (0:Int))) with
  | true =>
    rw [hc] at h
    exact ⟨_,h,fun K'=>by unfold callW;rw [h1,h2,cond_true,cond_true,h3,bindN_s,hc,cond_true]⟩
  | false =>
    rw [hc] at h
    exact ⟨_,h,fun K'=>by unfold callW;rw [h1,h2,cond_true,cond_true,h3,bindN_s,hc,cond_false]⟩
end RC
open RC
abbrev command_Parse_sg:List Sg:=[.tree .str]
abbrev command_Parse_rs:List Rt:=[.tree tCommand, .tree (.int .i64)]
def command_Parse (n:Nat) (x:SgEl command_Parse_sg):Option (RtEl command_Parse_rs×OutEl command_Parse_sg) :=
  bindN (word_Fields n (x.1,())) fun p1 =>
  bif ieq (ilen p1.1.1) (0:Int) then some ((zCmdR,(2:Int),()),((),()))
  else
  bindN (lat p1.1.1 (iN (0:Int))) fun v =>
  bif seq v k_put then callW (command_put n) 1 p1.1.1 fun r=>some ((r.1,r.2,()),((),()))
  else
  bif seq v k_get then callW (command_ask n) 2 p1.1.1 fun r=>some ((r.1,r.2,()),((),()))
  else
  bif seq v k_sub then callW (command_ask n) 3 p1.1.1 fun r=>some ((r.1,r.2,()),((),()))
  else
  bif seq v k_cancel then callW (command_cancel n) 4 p1.1.1 fun r=>some ((r.1,r.2,()),((),()))
  else
  bif seq v k_stat then callW (command_alone n) 5 p1.1.1 fun r=>some ((r.1,r.2,()),((),()))
  else
  some ((zCmdR,(2:Int),()),((),()))
abbrev command_Parse_ent (n:Nat):Ent:=⟨46,command_Parse_sg,command_Parse_rs,command_Parse n⟩
theorem command_Parse_ok (n:Nat):EntOk Tryz.prog (command_Parse_ent n):=by
  intro x y hy
  refine ⟨enters Tryz.func46 (by kernel_rfl) (by kernel_rfl),?_⟩
  intro S F w vs hr hA
  have hr:Rel S F w []:=hr
  have hvs:vs.size=1:=hA.1
  have hb:Tryz.f46.body=some body:=by kernel_rfl
  refine calls_of_wp Tryz.func46 hb ?_
  have hnt:nP=1+(Tryz.f46.ntmps - 1):=by kernel_rfl
  have hsz:(vs++Array.replicate (Tryz.f46.ntmps - vs.size) undef).size=nP:=by
    rw [Array.size_append,Array.size_replicate,hvs,hnt]
  have hev:∀ (k:Nat) (hk:k<vs.size),Act.eval { tmps:=vs++Array.replicate (Tryz.f46.ntmps - vs.size) undef,defers:=[] } (.tmp k)=vs[k]:=fun k hk=>by
    simp [Act.eval,Array.getElem?_append_left hk,hk]
  have h0:Mid nP S F w [] [0] [.tree .str] [] [] (fun _=>True) S F w { tmps:=vs++Array.replicate (Tryz.f46.ntmps - vs.size) undef,defers:=[] } x:=by
    refine ⟨⟨hr,fun j t p h1 h2=>?_,fun u hu=>(by cases hu),hsz,rfl⟩,fun c hc=>(by cases hc),(Adv.refl _ _ _ _).toM,trivial⟩
    match j,h1 with
    | 0,h1 =>
      cases h1
      rw [hev 0 (by rw [hvs];decide)]
      exact hA.2 0 p _ h2 (Array.getElem?_eq_getElem (by rw [hvs];decide))
    | j+1,h1=>simp at h1
  rw [body_eqP]
  have hJ0:JOk [] (fun _=>True):=fun _ _ _ _=>trivial
  have hy:command_Parse n x=some y:=hy
  unfold command_Parse at hy
  have hAok:=pA_ok n x
  unfold pA at hAok
  have hT1:TabF Tryz.prog [word_Fields_ent n]:=by
    intro x hx
    simp only [List.mem_singleton] at hx
    subst hx
    exact word_Fields_ok n
  have hT2:TabF Tryz.prog (TC n):=by
    intro x hx
    unfold TC at hx
    simp only [List.mem_cons,List.not_mem_nil,or_false] at hx
    rcases hx with rfl|rfl|rfl|rfl
    · exact command_put_ok n
    · exact command_ask_ok n
    · exact command_cancel_ok n
    · exact command_alone_ok n
  obtain ⟨p1,e1,hy⟩:=bindN_some hy
  rw [e1,bindN_s] at hAok
  cases c1:ieq (ilen p1.1.1) (0:Int) with
  | true =>
    rw [c1] at hy hAok
    cases hy
    exact Mid.front 2 hM hT1 (by kernel_rfl) (by kernel_rfl) hJ0 h0 hAok fun S' F' w' a' h'=>by
      simp only [exOf,Exit.then]
      exact endE hr h' fun v S2 F2 w2 k1 k2 k3=>⟨v,S2,F2,rfl,k1,k2,k3⟩
  | false =>
    rw [c1] at hy hAok
    simp only [cond_false] at hy
    obtain ⟨v,ev,hy⟩:=bindN_some hy
    refine Mid.front 2 hM hT1 (by kernel_rfl) (by kernel_rfl) hJ0 h0 hAok fun S1 F1 w1 a1 h1=>?_
    by_cases h_put:v=k_put
    · rw [show seq v k_put=true by rw [seq_eq,h_put];exact decide_eq_true rfl,cond_true] at hy
      obtain ⟨r,hK,hall⟩:=callW_some (δ:=Unit) hy
      cases hK
      have he:=ev_put n 1 (zCmdR,p1.1.1,())
      rw [ev,bindN_s,hall] at he
      exact r4 hT2 _ v (outR4 r) he (fun w b hm=>⟨_,look_hit hm (by rw [h_put];exact hit_put),fun S F=>val_found S F w _ _⟩) hr h1 fun v S2 F2 w2 k1 k2 k3=>⟨v,S2,F2,rfl,k1,k2,k3⟩
    rw [show seq v k_put=false by rw [seq_eq];exact decide_eq_false h_put,cond_false] at hy
    by_cases h_get:v=k_get
    · rw [show seq v k_get=true by rw [seq_eq,h_get];exact decide_eq_true rfl,cond_true] at hy
      obtain ⟨r,hK,hall⟩:=callW_some (δ:=Unit) hy
      cases hK
      have he:=ev_ask n 2 (zCmdR,p1.1.1,())
      rw [ev,bindN_s,hall] at he
      exact r4 hT2 _ v (outR4 r) he (fun w b hm=>⟨_,look_hit hm (by rw [h_get];exact hit_get),fun S F=>val_found S F w _ _⟩) hr h1 fun v S2 F2 w2 k1 k2 k3=>⟨v,S2,F2,rfl,k1,k2,k3⟩
    rw [show seq v k_get=false by rw [seq_eq];exact decide_eq_false h_get,cond_false] at hy
    by_cases h_sub:v=k_sub
    · rw [show seq v k_sub=true by rw [seq_eq,h_sub];exact decide_eq_true rfl,cond_true] at hy
      obtain ⟨r,hK,hall⟩:=callW_some (δ:=Unit) hy
      cases hK
      have he:=ev_ask n 3 (zCmdR,p1.1.1,())
      rw [ev,bindN_s,hall] at he
      exact r4 hT2 _ v (outR4 r) he (fun w b hm=>⟨_,look_hit hm (by rw [h_sub];exact hit_sub),fun S F=>val_found S F w _ _⟩) hr h1 fun v S2 F2 w2 k1 k2 k3=>⟨v,S2,F2,rfl,k1,k2,k3⟩
    rw [show seq v k_sub=false by rw [seq_eq];exact decide_eq_false h_sub,cond_false] at hy
    by_cases h_cancel:v=k_cancel
    · rw [show seq v k_cancel=true by rw [seq_eq,h_cancel];exact decide_eq_true rfl,cond_true] at hy
      obtain ⟨r,hK,hall⟩:=callW_some (δ:=Unit) hy
      cases hK
      have he:=ev_cancel n 4 (zCmdR,p1.1.1,())
      rw [ev,bindN_s,hall] at he
      exact r4 hT2 _ v (outR4 r) he (fun w b hm=>⟨_,look_hit hm (by rw [h_cancel];exact hit_cancel),fun S F=>val_found S F w _ _⟩) hr h1 fun v S2 F2 w2 k1 k2 k3=>⟨v,S2,F2,rfl,k1,k2,k3⟩
    rw [show seq v k_cancel=false by rw [seq_eq];exact decide_eq_false h_cancel,cond_false] at hy
    by_cases h_stat:v=k_stat
    · rw [show seq v k_stat=true by rw [seq_eq,h_stat];exact decide_eq_true rfl,cond_true] at hy
      obtain ⟨r,hK,hall⟩:=callW_some (δ:=Unit) hy
      cases hK
      have he:=ev_alone n 5 (zCmdR,p1.1.1,())
      rw [ev,bindN_s,hall] at he
      exact r4 hT2 _ v (outR4 r) he (fun w b hm=>⟨_,look_hit hm (by rw [h_stat];exact hit_stat),fun S F=>val_found S F w _ _⟩) hr h1 fun v S2 F2 w2 k1 k2 k3=>⟨v,S2,F2,rfl,k1,k2,k3⟩
    rw [show seq v k_stat=false by rw [seq_eq];exact decide_eq_false h_stat,cond_false] at hy
    cases hy
    have he:=ev_no n (zCmdR,p1.1.1,())
    rw [ev,bindN_s] at he
    exact r4 hT2 _ v (outR4 (zCmdR,2)) he (fun w b hm=>⟨_,look_miss hm (miss h_put h_get h_sub h_cancel h_stat),fun S F=>val_missed S F w⟩) hr h1 fun v S2 F2 w2 k1 k2 k3=>⟨v,S2,F2,rfl,k1,k2,k3⟩
end Go.Proofs.YtdcphpbimeoioaaGreatDoorE
end
section
set_option linter.unusedSectionVars false
namespace Go.Proofs.YtdcphpbimeoioaaGreatDoorE
open Go Go.Proofs
set_option linter.unusedVariables false
set_option linter.unusedSimpArgs false
set_option maxRecDepth 100000
theorem query_series_v {n:Nat} (hn:Big n) (q:El tQuery) (s:ByteArray) (hs:s.size≤100000) :
  ∃ q':El tQuery,query_series n ((q,()),s,())=some (((seriesQ s).1,()),((q',()),(),()))∧((seriesQ s).1=0→q'=(q.1,(seriesQ s).2.1,(seriesQ s).2.2,q.2.2.2)):=by
 have hc:=cut_size 123 s
 have hC:=s_Cut_v n 123 s (by omega)
 have hX:=cutSuffix1 n (cutB 123 s).2.1 125 (by omega)
 have he:endsL (bl (cutB 123 s).2.1)=endC 125 (bl (cutB 123 s).2.1):=rfl
 cases h1:(cutB 123 s).2.2 with
 | false =>
  obtain ⟨e1,e2⟩:=cutB_no 123 s h1
  have hN:=word_Name_v0 n s
  have hP:=(pick_Parse_v hn (⟨#[]⟩:ByteArray) (by decide)).1
  by_cases h2:nameL (bl s)=true
  ·have key:seriesQ s=((parseM (⟨#[]⟩:ByteArray)).2,s,(parseM (⟨#[]⟩:ByteArray)).1):=by unfold seriesQ cutK;simp [h1,h2]
   rw [key]
   refine ⟨(q.1,s,(parseM (⟨#[]⟩:ByteArray)).1,q.2.2.2),?_,fun _=>rfl⟩
   simp only [query_series,hC,bindN_s,h1,e1,e2,cond_false,hN,h2,Bool.not_true,hP]
  ·have key:seriesQ s=(2,NoB,[]):=by unfold seriesQ cutK;simp [h1,h2]
   rw [key]
   refine ⟨q,?_,fun h=>absurd h (by decide)⟩
   simp only [query_series,hC,bindN_s,h1,e1,e2,cond_false,hN,h2,Bool.not_false,cond_true]
 | true =>
  by_cases h2:endC 125 (bl (cutB 123 s).2.1)=true
  ·by_cases h3:(bl (cutB 123 s).2.1).dropLast=[]
   ·have key:seriesQ s=(2,NoB,[]):=by unfold seriesQ cutK;simp [h1,he,h2,h3]
    rw [key]
    refine ⟨q,?_,fun h=>absurd h (by decide)⟩
    simp only [query_series,hC,bindN_s,h1,cond_true,hX,h2,if_true,Bool.not_true,cond_false,seq_eq,bl_nil,bl_mkB,h3,decide_true]
   ·have hsz:(mkB (bl (cutB 123 s).2.1).dropLast).size≤s.size:=Nat.le_trans (dropLast_size _) hc.2
    have hN:=word_Name_v0 n (cutB 123 s).1
    have hP:=(pick_Parse_v hn (mkB (bl (cutB 123 s).2.1).dropLast) (by omega)).1
    by_cases h4:nameL (bl (cutB 123 s).1)=true
    ·have key:seriesQ s=((parseM (mkB (bl (cutB 123 s).2.1).dropLast)).2,(cutB 123 s).1,(parseM (mkB (bl (cutB 123 s).2.1).dropLast)).1):=by unfold seriesQ cutK;simp [h1,he,h2,h3,h4]
     rw [key]
     refine ⟨(q.1,(cutB 123 s).1,(parseM (mkB (bl (cutB 123 s).2.1).dropLast)).1,q.2.2.2),?_,fun _=>rfl⟩
     simp only [query_series,hC,bindN_s,h1,cond_true,hX,h2,if_true,Bool.not_true,cond_false,seq_eq,bl_nil,bl_mkB,h3,decide_false,hN,h4,hP]
    ·have key:seriesQ s=(2,NoB,[]):=by unfold seriesQ cutK;simp [h1,he,h2,h3,h4]
     rw [key]
     refine ⟨q,?_,fun h=>absurd h (by decide)⟩
     simp only [query_series,hC,bindN_s,h1,cond_true,hX,h2,if_true,Bool.not_true,Bool.not_false,cond_false,seq_eq,bl_nil,bl_mkB,h3,decide_false,hN,h4]
  ·have key:seriesQ s=(2,NoB,[]):=by unfold seriesQ cutK;simp [h1,he,h2]
   rw [key]
   refine ⟨q,?_,fun h=>absurd h (by decide)⟩
   simp only [query_series,hC,bindN_s,h1,cond_true,hX,h2,Bool.not_false]
theorem query_read_v {n:Nat} (hn:Big n) (l:List ByteArray) (hl:∀ x∈l,x.size≤100000) :
  ∃ q':El tQuery,query_read n ((zQ,()),l,())=some (((rdQ l).1,()),((q',()),(),()))∧((rdQ l).1=0→q'=((rdQ l).2.1,(rdQ l).2.2.1,(rdQ l).2.2.2.1,(rdQ l).2.2.2.2,())):=by
 have other:∀ l:List ByteArray,decide (ilen l=2)=false→decide (ilen l=4)=false→query_read n ((zQ,()),l,())=some (((2:Int),()),((zQ,()),(),())):=fun l e1 e2=>by
  simp only [query_read,ieq_eq,e1,e2,Bool.not_false,cond_true]
 rcases l with _|⟨x0,_|⟨x1,_|⟨x2,_|⟨x3,_|⟨x4,r⟩⟩⟩⟩⟩
 ·exact ⟨zQ,other _ rfl rfl,fun h=>absurd (show (2:Int)=0 from h) (by decide)⟩
 ·exact ⟨zQ,other _ rfl rfl,fun h=>absurd (show (2:Int)=0 from h) (by decide)⟩
 ·have e1:decide (ilen [x0,x1]=2)=true:=rfl
  have e2:decide (ilen [x0,x1]=4)=false:=rfl
  have A:=query_agg_v n x0
  have M:=query_names_v hn [] (by simp)
  have l0:lat [x0,x1] (iN (0:Int))=some x0:=by rw [lat_eq];rfl
  have l1:lat [x0,x1] (iN (1:Int))=some x1:=by rw [lat_eq];rfl
  have k0:decide ((0:Int)≤0)=true:=rfl
  have k1:decide ((0:Int)≤1)=true:=rfl
  obtain ⟨q',hS,hq⟩:=query_series_v hn (aggN x0,zQ.2) x1 (hl x1 (by simp))
  rw [show rdQ [x0,x1]=rd1Q x0 x1 none from rfl]
  unfold rd1Q
  by_cases q0:aggN x0=0
  ·rw [if_pos q0]
   refine ⟨(aggN x0,zQ.2),?_,fun h=>absurd (show (2:Int)=0 from h) (by decide)⟩
   simp only [query_read,ieq_eq,ile_eq,e1,k0,l0,Bool.not_true,cond_false,cond_true,bindN_s,A,q0,decide_true]
   rfl
  ·rw [if_neg q0]
   by_cases q3:(seriesQ x1).1=0
   ·rw [if_pos q3]
    have eq:=hq q3
    subst eq
    refine ⟨_,?_,fun _=>rfl⟩
    have M':query_names n ((aggN x0,zQ.2):El tQuery).2.2.2=some ((namesS [],()),((),())):=M
    simp only [query_read,ieq_eq,ile_eq,e1,e2,k0,k1,l0,l1,Bool.not_true,cond_false,cond_true,bindN_s,A,q0,decide_false,hS,q3,decide_true,M']
    rfl
   ·rw [if_neg q3]
    refine ⟨q',?_,fun h=>absurd h q3⟩
    simp only [query_read,ieq_eq,ile_eq,e1,k0,k1,l0,l1,Bool.not_true,cond_false,cond_true,bindN_s,A,q0,decide_false,hS,q3,Bool.not_false]
    rfl
 ·exact ⟨zQ,other _ rfl rfl,fun h=>absurd (show (2:Int)=0 from h) (by decide)⟩
 ·have e1:decide (ilen [x0,x1,x2,x3]=2)=false:=rfl
  have e2:decide (ilen [x0,x1,x2,x3]=4)=true:=rfl
  have A:=query_agg_v n x0
  have S:=word_Split_v hn 44 x3 (by have:=hl x3 (by simp);omega)
  have S':word_Split n (x3,(44:Int),())=some ((splitB 44 x3,()),((),(),())):=S
  have hsl:=splitB_len 44 x3
  have M:=query_names_v hn (splitB 44 x3) (by have:=hl x3 (by simp);omega)
  have l0:lat [x0,x1,x2,x3] (iN (0:Int))=some x0:=by rw [lat_eq];rfl
  have l1:lat [x0,x1,x2,x3] (iN (1:Int))=some x1:=by rw [lat_eq];rfl
  have l2:lat [x0,x1,x2,x3] (iN (2:Int))=some x2:=by rw [lat_eq];rfl
  have l3:lat [x0,x1,x2,x3] (iN (3:Int))=some x3:=by rw [lat_eq];rfl
  have k0:decide ((0:Int)≤0)=true:=rfl
  have k1:decide ((0:Int)≤1)=true:=rfl
  have k2:decide ((0:Int)≤2)=true:=rfl
  have k3:decide ((0:Int)≤3)=true:=rfl
  obtain ⟨q',hS,hq⟩:=query_series_v hn (aggN x0,zQ.2) x1 (hl x1 (by simp))
  have hb:seq x2 (⟨#[98,121]⟩:ByteArray)=decide (bl x2=[98,121]):=by rw [seq_eq,eqbl];rfl
  rw [show rdQ [x0,x1,x2,x3]=if bl x2=[98,121] then rd1Q x0 x1 (some x3) else bad2 2 from rfl]
  unfold rd1Q
  by_cases qb:bl x2=[98,121]
  ·rw [if_pos qb]
   by_cases q0:aggN x0=0
   ·rw [if_pos q0]
    refine ⟨(aggN x0,zQ.2),?_,fun h=>absurd (show (2:Int)=0 from h) (by decide)⟩
    simp only [query_read,ieq_eq,ile_eq,e1,e2,k0,k2,l0,l2,hb,qb,Bool.not_true,Bool.not_false,cond_false,cond_true,bindN_s,A,q0,decide_true]
    rfl
   ·rw [if_neg q0]
    by_cases q3:(seriesQ x1).1=0
    ·rw [if_pos q3]
     have eq:=hq q3
     subst eq
     refine ⟨_,?_,fun _=>rfl⟩
     simp only [query_read,ieq_eq,ile_eq,e1,e2,k0,k1,k2,k3,l0,l1,l2,l3,hb,qb,Bool.not_true,Bool.not_false,cond_false,cond_true,bindN_s,A,q0,decide_false,hS,q3,decide_true,S',M]
     rfl
    ·rw [if_neg q3]
     refine ⟨q',?_,fun h=>absurd h q3⟩
     simp only [query_read,ieq_eq,ile_eq,e1,e2,k0,k1,k2,l0,l1,l2,hb,qb,Bool.not_true,Bool.not_false,cond_false,cond_true,bindN_s,A,q0,decide_true,decide_false,hS,q3]
     rfl
  ·rw [if_neg qb]
   refine ⟨zQ,?_,fun h=>absurd (show (2:Int)=0 from h) (by decide)⟩
   simp only [query_read,ieq_eq,ile_eq,e1,e2,k2,l2,hb,qb,Bool.not_true,Bool.not_false,cond_false,cond_true,bindN_s,decide_false]
   rfl
 ·have f1:decide (ilen (x0 ::x1 ::x2 ::x3 ::x4 ::r)=2)=false:=decide_eq_false (by show ¬ ((x0 ::x1 ::x2 ::x3 ::x4 ::r).length:Int)=2;simp only [List.length_cons];omega)
  have f2:decide (ilen (x0 ::x1 ::x2 ::x3 ::x4 ::r)=4)=false:=decide_eq_false (by show ¬ ((x0 ::x1 ::x2 ::x3 ::x4 ::r).length:Int)=4;simp only [List.length_cons];omega)
  exact ⟨zQ,other _ f1 f2,fun h=>absurd (show (2:Int)=0 from h) (by decide)⟩
theorem query_Parse_v {n:Nat} (hn:Big n) (s:ByteArray) (hs:s.size≤90000):query_Parse n (s,())=some ((((parseQ s).1,(parseQ s).2.1,(parseQ s).2.2.1,(parseQ s).2.2.2.1,()),(parseQ s).2.2.2.2,()),((),())):=by
 have hF:=word_Fields_v hn s (by omega)
 have hsz:=fields_size s
 unfold parseQ finQ
 generalize fieldsB s=p at hF hsz
 obtain ⟨q',hR,hq⟩:=query_read_v hn p (fun x hx=>by have:=hsz x hx;omega)
 have hR':query_read n ((((0:Int),(⟨#[]⟩:ByteArray),[],[],()),()),p,())=_:=hR
 simp only [query_Parse,hF,bindN_s,hR',ieq_eq]
 by_cases h:(rdQ p).1=0
 ·rw [hq h];simp [h]
 ·simp [h]
theorem command_Same_v {n:Nat} (hn:Big n) {a b:El tCommand} (ha:LimC a):command_Same n (a,b,())=some ((eqb a b,()),((),(),())):=by
 have h0:=key_Same_v hn (b:=b.2.1) ha.1
 have h1:=query_Same_v hn (b:=b.2.2.2.2.1) ha.2
 obtain ⟨a0,a1,a2,a3,a4,a5,⟨⟩⟩:=a
 obtain ⟨b0,b1,b2,b3,b4,b5,⟨⟩⟩:=b
 simp only [Prod.mk.injEq,and_true] at *
 simp only [command_Same,h0,h1,bindN_s,ieq_eq,seq_eq]
 by_cases e0:a0=b0<;>by_cases e1:a1=b1<;>by_cases e2:a2=b2<;>by_cases e3:a3=b3<;>by_cases e4:a4=b4<;>by_cases e5:a5=b5<;>simp [*,eqb]
theorem command_plain_v (n:Nat) (c:CMD):command_plain n (c,())=some ((onlyC c,()),((),())):=by
 unfold onlyC
 simp only [command_plain,ieq_eq]
 by_cases h1:c.1=1
 ·simp [h1];rfl
 ·by_cases h2:c.1=2
  ·simp [h2];rfl
  ·by_cases h3:c.1=3
   ·simp [h3];rfl
   ·by_cases h4:c.1=4
    ·simp [h4];exact ⟨rfl,rfl⟩
    ·simp [h1,h2,h3,h4];exact ⟨rfl,rfl⟩
theorem command_event_v (n:Nat) (t:Int):command_event n (t,())=some ((decide (0≤t) && decide (t≤1000000000000),()),((),())):=by
 simp only [command_event,ile_eq]
 by_cases h:(0:Int)≤t<;>simp [h]
theorem command_Right_v {n:Nat} (hn:Big n) (c:CMD) (hf:FitC c):command_Right n (c,())=some ((rightC c,()),((),())):=by
 have hO:=command_plain_v n c
 have hS:=command_Same_v hn (a:=c) (b:=onlyC c) (limC_of hf)
 obtain ⟨⟨f1,f2⟩,f3,f4,f5⟩:=hf
 have hK:=key_Right_v hn c.2.1 (Nat.le_trans f2.1 (by decide)) (fun a ha=>sl_EqTag_v hn (show Lim a from Nat.le_trans ha (by decide)))
 have hQ:=query_Right_v hn c.2.2.2.2.1 f4 f5
 have hE:=command_event_v n c.2.2.1
 unfold rightC mayQ
 simp only [command_Right,hO,bindN_s,hS,hK,hQ,hE,ieq_eq,ile_eq,ilt_eq]
 cases eqb c (onlyC c) with
 | false=>simp
 | true =>
  simp only [Bool.not_true,cond_false,Bool.true_and]
  by_cases h1:c.1=1
  ·simp only [h1,decide_true,cond_true,if_true]
   cases rightK c.2.1.1 c.2.1.2.1 with
   | false=>simp
   | true=>simp
  ·by_cases h2:c.1=2
   ·simp [h2]
   ·by_cases h3:c.1=3
    ·simp [h3]
    ·by_cases h4:c.1=4
     ·by_cases h0:(0:Int)≤c.2.2.2.2.2.1<;>simp [h4,h0]
     ·simp [h1,h2,h3,h4]
theorem textK_small {c:CMD} (h:rightK c.2.1.1 c.2.1.2.1=true):(bl (textK c.2.1.1 c.2.1.2.1)).length≤2000:=by
 have:=(rightK_fit h).2.2.2
 rw [size_bl];exact this
theorem command_Text_v {n:Nat} (hn:Big n) (c:CMD) (hf:FitC c):command_Text n (c,())=some ((textC c,()),((),()))∧(textC c).size≤3000:=by
 have hR:=command_Right_v hn c hf
 obtain ⟨⟨f1,f2⟩,⟨i1,i2,i3⟩,f4,f5⟩:=hf
 unfold textC
 cases hr:rightC c with
 | false=>rw [hr] at hR;exact ⟨by simp [command_Text,hR],by show (⟨#[]⟩:ByteArray).size≤3000;decide⟩
 | true =>
  rw [hr] at hR
  have hp:=(rightC_parts hr).2
  simp only [command_Text,hR,bindN_s,Bool.not_true,cond_false,ieq_eq,if_true]
  by_cases h1:c.1=1
  ·rw [if_pos h1,Bool.and_eq_true] at hp
   have hz:=textK_small hp.1
   have hT:=key_Text_v hn c.2.1 f1 f2
   have hN1:=sat_Number_v n c.2.2.1 i1
   have hN2:=sat_Number_v n c.2.2.2.1 i2
   have z1:=numB_small i1
   have z2:=numB_small i2
   rw [← size_bl] at z1 z2
   generalize ht:textK c.2.1.1 c.2.1.2.1=t at *
   generalize hm:numB c.2.2.1=m1 at *
   generalize hk:numB c.2.2.2.1=m2 at *
   have hl:(bl (joinB (mkB [32]) [putW,t,m1,m2])).length≤3000:=by rw [bl_join4];simp [bl_mkB,putW];omega
   have hJ:=word_Join_v n (mkB [32]) [putW,t,m1,m2] (by simp) (by omega)
   have hJ':word_Join n ((⟨#[32]⟩:ByteArray),[(⟨#[112,117,116]⟩:ByteArray),t,m1,m2],())=some ((joinB (mkB [32]) [putW,t,m1,m2],()),((),(),())):=hJ
   refine ⟨?_,by rw [if_pos h1,← size_bl];exact hl⟩
   simp only [h1,decide_true,cond_true,hT,bindN_s,hN1,hN2,hJ',if_true]
  ·by_cases h2:c.1=2
   ·have hQ:=query_Text_v hn c.2.2.2.2.1 f4 f5
    have hz:=textQ_small c.2.2.2.2.1.1 c.2.2.2.2.1.2.1 c.2.2.2.2.1.2.2.1 c.2.2.2.2.1.2.2.2.1
    have hl:(bl (joinB (mkB [32]) [getW,textY c.2.2.2.2.1])).length≤3000:=by
     rw [bl_join2];unfold textY;simp [bl_mkB,getW];omega
    have hJ:=word_Join_v n (mkB [32]) [getW,textY c.2.2.2.2.1] (by simp) (by omega)
    have hJ':word_Join n ((⟨#[32]⟩:ByteArray),[(⟨#[103,101,116]⟩:ByteArray),textY c.2.2.2.2.1],())=some ((joinB (mkB [32]) [getW,textY c.2.2.2.2.1],()),((),(),())):=hJ
    have hQ':query_Text n (c.2.2.2.2.1,())=some ((textY c.2.2.2.2.1,()),((),())):=hQ
    refine ⟨?_,by rw [if_neg h1,if_pos h2,← size_bl];exact hl⟩
    simp only [h2,show ¬ (2:Int)=1 by decide,decide_true,decide_false,cond_true,cond_false,hQ',bindN_s,hJ',if_true,if_false]
   ·by_cases h3:c.1=3
    ·have hQ:=query_Text_v hn c.2.2.2.2.1 f4 f5
     have hz:=textQ_small c.2.2.2.2.1.1 c.2.2.2.2.1.2.1 c.2.2.2.2.1.2.2.1 c.2.2.2.2.1.2.2.2.1
     have hl:(bl (joinB (mkB [32]) [subW,textY c.2.2.2.2.1])).length≤3000:=by
      rw [bl_join2];unfold textY;simp [bl_mkB,subW];omega
     have hJ:=word_Join_v n (mkB [32]) [subW,textY c.2.2.2.2.1] (by simp) (by omega)
     have hJ':word_Join n ((⟨#[32]⟩:ByteArray),[(⟨#[115,117,98]⟩:ByteArray),textY c.2.2.2.2.1],())=some ((joinB (mkB [32]) [subW,textY c.2.2.2.2.1],()),((),(),())):=hJ
     have hQ':query_Text n (c.2.2.2.2.1,())=some ((textY c.2.2.2.2.1,()),((),())):=hQ
     refine ⟨?_,by rw [if_neg h1,if_neg h2,if_pos h3,← size_bl];exact hl⟩
     simp only [h3,show ¬ (3:Int)=1 by decide,show ¬ (3:Int)=2 by decide,decide_true,decide_false,cond_true,cond_false,hQ',bindN_s,hJ',if_true,if_false]
    ·by_cases h4:c.1=4
     ·have hN:=sat_Number_v n c.2.2.2.2.2.1 i3
      have hN':sat_Number n c.2.2.2.2.2=_:=hN
      have z1:=numB_small i3
      rw [← size_bl] at z1
      have hl:(bl (joinB (mkB [32]) [cancelW,numB c.2.2.2.2.2.1])).length≤3000:=by rw [bl_join2];simp [bl_mkB,cancelW];omega
      have hJ:=word_Join_v n (mkB [32]) [cancelW,numB c.2.2.2.2.2.1] (by simp) (by omega)
      have hJ':word_Join n ((⟨#[32]⟩:ByteArray),[(⟨#[99,97,110,99,101,108]⟩:ByteArray),numB c.2.2.2.2.2.1],())=some ((joinB (mkB [32]) [cancelW,numB c.2.2.2.2.2.1],()),((),(),())):=hJ
      refine ⟨?_,by rw [if_neg h1,if_neg h2,if_neg h3,if_pos h4,← size_bl];exact hl⟩
      simp only [h4,show ¬ (4:Int)=1 by decide,show ¬ (4:Int)=2 by decide,show ¬ (4:Int)=3 by decide,decide_true,decide_false,cond_true,cond_false,hN',bindN_s,hJ',if_true,if_false]
     ·refine ⟨?_,by rw [if_neg h1,if_neg h2,if_neg h3,if_neg h4];decide⟩
      simp only [h1,h2,h3,h4,decide_false,cond_false,if_false]
      rfl
end Go.Proofs.YtdcphpbimeoioaaGreatDoorE
end
section
set_option linter.unusedSectionVars false
namespace Go.Proofs.YtdcphpbimeoioaaGreatDoorE
open Go
set_option linter.unusedVariables false
set_option maxRecDepth 100000
abbrev law22_alive_sg:List Sg:=[]
abbrev law22_alive_rs:List Rt:=[.tree .bool]
def law22_alive (n:Nat) (x:SgEl law22_alive_sg):Option (RtEl law22_alive_rs×OutEl law22_alive_sg) :=
  bindN (command_Parse n ((⟨#[32,112,117,116,32,99,112,117,123,97,61,49,125,32,32,50,53,32,45,55]⟩:ByteArray),())) fun p1 =>
  bindN (command_Parse n ((⟨#[103,101,116,32,115,117,109,32,99,112,117,32,98,121,32,97]⟩:ByteArray),())) fun p2 =>
  bindN (command_Parse n ((⟨#[99,97,110,99,101,108,32,51]⟩:ByteArray),())) fun p3 =>
  bindN (command_Parse n ((⟨#[112,117,116,32,99,112,117,32,45,49,32,53]⟩:ByteArray),())) fun p4 =>
  bindN (command_Parse n ((⟨#[]⟩:ByteArray),())) fun p5 =>
  bindN (command_Parse n ((⟨#[115,116,97,116]⟩:ByteArray),())) fun p6 =>
  bif ieq p1.1.2.1 (0:Int) then
   bif ieq p2.1.2.1 (0:Int) then
    bif ieq p3.1.2.1 (0:Int) then
     bif ieq p4.1.2.1 (3:Int) then
      bif ieq p5.1.2.1 (2:Int) then
       bif ieq p6.1.2.1 (0:Int) then
        bif ieq p1.1.1.1 (1:Int) then
         bif ieq p1.1.1.2.2.1 (25:Int) then
          bif ieq p1.1.1.2.2.2.1 (-7:Int) then
           bindN (command_Text n (p1.1.1,())) fun p7 =>
           bif seq p7.1.1 (⟨#[112,117,116,32,99,112,117,123,97,61,49,125,32,50,53,32,45,55]⟩:ByteArray) then
            bif ieq p2.1.1.1 (2:Int) then
             bindN (command_Text n (p2.1.1,())) fun p8 =>
             bif seq p8.1.1 (⟨#[103,101,116,32,115,117,109,32,99,112,117,32,98,121,32,97]⟩:ByteArray) then
              bif ieq p3.1.1.2.2.2.2.2.1 (3:Int) then
               bif ieq p6.1.1.1 (5:Int) then
                bindN (command_Right n (p1.1.1,())) fun p9 =>
                bif p9.1.1 then
                 bindN (command_Right n (((0:Int),((⟨#[]⟩:ByteArray),[],()),(0:Int),(0:Int),((0:Int),(⟨#[]⟩:ByteArray),[],[],()),(0:Int),()),())) fun p10 =>
                 bif !p10.1.1 then
                  bindN (command_Same n (p1.1.1,p1.1.1,())) fun p11 =>
                  bif p11.1.1 then
                   bindN (command_Same n (p1.1.1,p2.1.1,())) fun p12 =>
                   some ((!p12.1.1,()),())
                  else
                  some ((false,()),())
                 else
                 some ((false,()),())
                else
                some ((false,()),())
               else
               some ((false,()),())
              else
              some ((false,()),())
             else
             some ((false,()),())
            else
            some ((false,()),())
           else
           some ((false,()),())
          else
          some ((false,()),())
         else
         some ((false,()),())
        else
        some ((false,()),())
       else
       some ((false,()),())
      else
      some ((false,()),())
     else
     some ((false,()),())
    else
    some ((false,()),())
   else
   some ((false,()),())
  else
  some ((false,()),())
abbrev law22_alive_ent (n:Nat):Ent:=⟨38,law22_alive_sg,law22_alive_rs,law22_alive n⟩
theorem law22_alive_ok (n:Nat):EntOk Tryz.prog (law22_alive_ent n):=ent_ok' mixed (T:=[command_Parse_ent n,command_Text_ent n,command_Right_ent n,command_Same_ent n]) (tabCons (command_Parse_ok n) (tabCons (command_Text_ok n) (tabCons (command_Right_ok n) (tabCons (command_Same_ok n) tabNil)))) tabLNil fun x=>by kernel_rfl
abbrev law22_great_sg:List Sg:=[.tree tCommand]
abbrev law22_great_rs:List Rt:=[.tree .bool]
def law22_great (n:Nat) (x:SgEl law22_great_sg):Option (RtEl law22_great_rs×OutEl law22_great_sg) :=
  bindN (r03_Great n x.1.2.1.2) fun p1 =>
  bif p1.1.1 then
   some ((true,()),((),()))
  else
  bif ilt (200:Int) (ssize x.1.2.1.1) then
   some ((true,()),((),()))
  else
  bindN (r07_Great n (x.1.2.2.2.2.1,())) fun p2 =>
  some (p2.1,((),()))
abbrev law22_great_ent (n:Nat):Ent:=⟨39,law22_great_sg,law22_great_rs,law22_great n⟩
theorem law22_great_ok (n:Nat):EntOk Tryz.prog (law22_great_ent n):=ent_ok' mixed (T:=[r03_Great_ent n,r07_Great_ent n]) (tabCons (r03_Great_ok n) (tabCons (r07_Great_ok n) tabNil)) tabLNil fun x=>by kernel_rfl
abbrev law_CommandTells_sg:List Sg:=[.tree tCommand, .tree tCommand]
abbrev law_CommandTells_rs:List Rt:=[.tree .bool]
def law_CommandTells (n:Nat) (x:SgEl law_CommandTells_sg):Option (RtEl law_CommandTells_rs×OutEl law_CommandTells_sg) :=
  bindN (law22_alive n ()) fun p1 =>
  bif !p1.1.1 then
   some ((false,()),((),(),()))
  else
  bindN (law22_great n (x.1,())) fun p2 =>
  bif p2.1.1 then
   some ((true,()),((),(),()))
  else
  bindN (law22_great n x.2) fun p3 =>
  bif p3.1.1 then
   some ((true,()),((),(),()))
  else
  bindN (command_Right n (x.1,())) fun p4 =>
  bindN (r22_Right n (x.1,())) fun p5 =>
  bif beqB p4.1.1 p5.1.1 then
   bindN (command_Text n (x.1,())) fun p6 =>
   bindN (r22_Text n (x.1,())) fun p7 =>
   bif seq p6.1.1 p7.1.1 then
    bindN (command_Same n x) fun p8 =>
    bindN (r22_Same n x) fun p9 =>
    bif beqB p8.1.1 p9.1.1 then
     bindN (command_Same n (x.1,x.1,())) fun p10 =>
     some (p10.1,((),(),()))
    else
    some ((false,()),((),(),()))
   else
   some ((false,()),((),(),()))
  else
  some ((false,()),((),(),()))
abbrev law_CommandTells_ent (n:Nat):Ent:=⟨7,law_CommandTells_sg,law_CommandTells_rs,law_CommandTells n⟩
theorem law_CommandTells_ok (n:Nat):EntOk Tryz.prog (law_CommandTells_ent n):=ent_ok' mixed (T:=[law22_alive_ent n,law22_great_ent n,command_Right_ent n,r22_Right_ent n,command_Text_ent n,r22_Text_ent n,command_Same_ent n,r22_Same_ent n]) (tabCons (law22_alive_ok n) (tabCons (law22_great_ok n) (tabCons (command_Right_ok n) (tabCons (r22_Right_ok n) (tabCons (command_Text_ok n) (tabCons (r22_Text_ok n) (tabCons (command_Same_ok n) (tabCons (r22_Same_ok n) tabNil)))))))) tabLNil fun x=>by kernel_rfl
abbrev law_CommandParses_sg:List Sg:=[.tree .str]
abbrev law_CommandParses_rs:List Rt:=[.tree .bool]
def law_CommandParses (n:Nat) (x:SgEl law_CommandParses_sg):Option (RtEl law_CommandParses_rs×OutEl law_CommandParses_sg) :=
  bindN (law22_alive n ()) fun p1 =>
  bif !p1.1.1 then
   some ((false,()),((),()))
  else
  bif ilt (500:Int) (ssize x.1) then
   some ((true,()),((),()))
  else
  bindN (command_Parse n x) fun p2 =>
  bindN (r22_Parse n x) fun p3 =>
  bindN (r22_Same n (p2.1.1,p3.1.1,())) fun p4 =>
  bif p4.1.1 then
   some ((ieq p2.1.2.1 p3.1.2.1,()),((),()))
  else
  some ((false,()),((),()))
abbrev law_CommandParses_ent (n:Nat):Ent:=⟨8,law_CommandParses_sg,law_CommandParses_rs,law_CommandParses n⟩
theorem law_CommandParses_ok (n:Nat):EntOk Tryz.prog (law_CommandParses_ent n):=ent_ok' mixed (T:=[law22_alive_ent n,command_Parse_ent n,r22_Parse_ent n,r22_Same_ent n]) (tabCons (law22_alive_ok n) (tabCons (command_Parse_ok n) (tabCons (r22_Parse_ok n) (tabCons (r22_Same_ok n) tabNil)))) tabLNil fun x=>by kernel_rfl
abbrev law_CommandBack_sg:List Sg:=[.tree tCommand, .tree .str]
abbrev law_CommandBack_rs:List Rt:=[.tree .bool]
def law_CommandBack (n:Nat) (x:SgEl law_CommandBack_sg):Option (RtEl law_CommandBack_rs×OutEl law_CommandBack_sg) :=
  bindN (law22_alive n ()) fun p1 =>
  bif !p1.1.1 then
   some ((false,()),((),(),()))
  else
  bindN (law22_great n (x.1,())) fun p2 =>
  bif p2.1.1 then
   some ((true,()),((),(),()))
  else
  bif ilt (500:Int) (ssize x.2.1) then
   some ((true,()),((),(),()))
  else
  bindN (r22_Right n (x.1,())) fun p3 =>
  bif p3.1.1 then
   bindN (command_Text n (x.1,())) fun p4 =>
   bindN (command_Parse n p4.1) fun p5 =>
   bif !(ieq p5.1.2.1 (0:Int)) then
    some ((false,()),((),(),()))
   else
   bindN (r22_Same n (p5.1.1,x.1,())) fun p6 =>
   bif !p6.1.1 then
    some ((false,()),((),(),()))
   else
   bindN (command_Parse n x.2) fun p7 =>
   bif !(ieq p7.1.2.1 (0:Int)) then
    bindN (r22_Same n (p7.1.1,((0:Int),((⟨#[]⟩:ByteArray),[],()),(0:Int),(0:Int),((0:Int),(⟨#[]⟩:ByteArray),[],[],()),(0:Int),()),())) fun p8 =>
    some (p8.1,((),(),()))
   else
   bindN (command_Text n (p7.1.1,())) fun p9 =>
   bindN (command_Parse n p9.1) fun p10 =>
   bindN (r22_Right n (p7.1.1,())) fun p11 =>
   bif p11.1.1 then
    bif ieq p10.1.2.1 (0:Int) then
     bindN (r22_Same n (p10.1.1,p7.1.1,())) fun p12 =>
     some (p12.1,((),(),()))
    else
    some ((false,()),((),(),()))
   else
   some ((false,()),((),(),()))
  else
  bindN (command_Parse n x.2) fun p13 =>
  bif !(ieq p13.1.2.1 (0:Int)) then
   bindN (r22_Same n (p13.1.1,((0:Int),((⟨#[]⟩:ByteArray),[],()),(0:Int),(0:Int),((0:Int),(⟨#[]⟩:ByteArray),[],[],()),(0:Int),()),())) fun p14 =>
   some (p14.1,((),(),()))
  else
  bindN (command_Text n (p13.1.1,())) fun p15 =>
  bindN (command_Parse n p15.1) fun p16 =>
  bindN (r22_Right n (p13.1.1,())) fun p17 =>
  bif p17.1.1 then
   bif ieq p16.1.2.1 (0:Int) then
    bindN (r22_Same n (p16.1.1,p13.1.1,())) fun p18 =>
    some (p18.1,((),(),()))
   else
   some ((false,()),((),(),()))
  else
  some ((false,()),((),(),()))
abbrev law_CommandBack_ent (n:Nat):Ent:=⟨9,law_CommandBack_sg,law_CommandBack_rs,law_CommandBack n⟩
theorem law_CommandBack_ok (n:Nat):EntOk Tryz.prog (law_CommandBack_ent n):=ent_ok' mixed (T:=[law22_alive_ent n,law22_great_ent n,r22_Right_ent n,command_Text_ent n,command_Parse_ent n,r22_Same_ent n]) (tabCons (law22_alive_ok n) (tabCons (law22_great_ok n) (tabCons (r22_Right_ok n) (tabCons (command_Text_ok n) (tabCons (command_Parse_ok n) (tabCons (r22_Same_ok n) tabNil)))))) tabLNil fun x=>by kernel_rfl
abbrev law_CommandBlanks_sg:List Sg:=[.tree .str]
abbrev law_CommandBlanks_rs:List Rt:=[.tree .bool]
def law_CommandBlanks_l0 (n:Nat):Nat→SgEl [.tree .str, .tree .str, .tree (.int .i64)]→Option (SgEl [.tree .str, .tree .str] ⊕ SgEl [])
  | 0,_=>none
  | g+1,s =>
    bif ilt s.2.2.1 (ssize s.1) then
     bif ile (0:Int) s.2.2.1 then
      bif ile s.2.2.1 (iadd .i64 s.2.2.1 (1:Int)) then
       bif ile (iadd .i64 s.2.2.1 (1:Int)) (ssize s.1) then
        bif sfits s.2.1 (sext s.1 s.2.2.1 (iadd .i64 s.2.2.1 (1:Int))) then
         bif ile (0:Int) s.2.2.1 then
          bif ilt s.2.2.1 (ssize s.1) then
           bif ieq (sat s.1 s.2.2.1) (32:Int) then
            bif sfits (scat s.2.1 (sext s.1 s.2.2.1 (iadd .i64 s.2.2.1 (1:Int)))) (⟨#[32]⟩:ByteArray) then
             bindL (law_CommandBlanks_l0 n g (s.1,scat (scat s.2.1 (sext s.1 s.2.2.1 (iadd .i64 s.2.2.1 (1:Int)))) (⟨#[32]⟩:ByteArray),iadd .i64 s.2.2.1 (1:Int),())) (fun a1 =>
              some (Sum.inl a1)) fun b2 =>
             some (Sum.inr ())
            else none
           else
           bindL (law_CommandBlanks_l0 n g (s.1,scat s.2.1 (sext s.1 s.2.2.1 (iadd .i64 s.2.2.1 (1:Int))),iadd .i64 s.2.2.1 (1:Int),())) (fun a3 =>
            some (Sum.inl a3)) fun b4 =>
           some (Sum.inr ())
          else none
         else none
        else none
       else none
      else none
     else none
    else
    some (Sum.inl (s.1,s.2.1,()))
theorem law_CommandBlanks_l0_ok (n:Nat):∀ g,LEntOk Tryz.prog 10 (nSl law_CommandBlanks_sg) ⟨0,[.tree .str, .tree .str, .tree (.int .i64)],0,[.tree .str, .tree .str],[],law_CommandBlanks_l0 n g⟩ g
  | 0=>loop_zero' fun _=>rfl
  | g+1=>loop_step' mixed (T:=[law22_alive_ent n,command_Parse_ent n,r22_Same_ent n]) (tabCons (law22_alive_ok n) (tabCons (command_Parse_ok n) (tabCons (r22_Same_ok n) tabNil))) tabLNil (law_CommandBlanks_l0_ok n g) fun s=>by kernel_rfl
def law_CommandBlanks (n:Nat) (x:SgEl law_CommandBlanks_sg):Option (RtEl law_CommandBlanks_rs×OutEl law_CommandBlanks_sg) :=
  bindN (law22_alive n ()) fun p1 =>
  bif !p1.1.1 then
   some ((false,()),((),()))
  else
  bif ilt (300:Int) (ssize x.1) then
   some ((true,()),((),()))
  else
  bindL (law_CommandBlanks_l0 n n (x.1,(⟨#[32]⟩:ByteArray),(0:Int),())) (fun a2 =>
   bindN (command_Parse n (a2.1,())) fun p4 =>
   bif sfits a2.2.1 (⟨#[32]⟩:ByteArray) then
    bindN (command_Parse n (scat a2.2.1 (⟨#[32]⟩:ByteArray),())) fun p5 =>
    bindN (r22_Same n (p4.1.1,p5.1.1,())) fun p6 =>
    bif p6.1.1 then
     some ((ieq p4.1.2.1 p5.1.2.1,()),((),()))
    else
    some ((false,()),((),()))
   else none) fun b3 =>
  none
abbrev law_CommandBlanks_ent (n:Nat):Ent:=⟨10,law_CommandBlanks_sg,law_CommandBlanks_rs,law_CommandBlanks n⟩
theorem law_CommandBlanks_ok (n:Nat):EntOk Tryz.prog (law_CommandBlanks_ent n):=ent_ok' mixed (T:=[law22_alive_ent n,command_Parse_ent n,r22_Same_ent n]) (tabCons (law22_alive_ok n) (tabCons (command_Parse_ok n) (tabCons (r22_Same_ok n) tabNil))) (tabLCons (law_CommandBlanks_l0_ok n n) tabLNil) fun x=>by kernel_rfl
end Go.Proofs.YtdcphpbimeoioaaGreatDoorE
end
section
set_option linter.unusedSectionVars false
namespace Go.Proofs.YtdcphpbimeoioaaGreatDoorE
open Go Go.Proofs
set_option linter.unusedVariables false
set_option linter.unusedSimpArgs false
set_option maxRecDepth 100000
theorem numberE_v (n:Nat) (s:ByteArray) (hs:s.size≤100000):command_numberE n (s,(),())=some (((readL (bl s)).1,(if (readL (bl s)).2=0 then (if (readL (bl s)).1<0 then 3 else if 1000000000000<(readL (bl s)).1 then 3 else 0) else (readL (bl s)).2),()),((),(),())):=by
 have hR:=sat_Read_v n s (by omega)
 have hE:=command_event_v n (readL (bl s)).1
 simp only [command_numberE,hR,bindN_s,hE,ieq_eq]
 by_cases h:(readL (bl s)).2=0
 ·by_cases h1:(readL (bl s)).1<0
  ·have h1':¬ (0:Int)≤(readL (bl s)).1:=by omega
   simp [h,h1,h1']
  ·have h1':(0:Int)≤(readL (bl s)).1:=by omega
   by_cases h2:1000000000000<(readL (bl s)).1
   ·have h2':¬ (readL (bl s)).1≤1000000000000:=by omega
    simp [h,h1,h1',h2,h2']
   ·have h2':(readL (bl s)).1≤1000000000000:=by omega
    simp [h,h1,h1',h2,h2']
 ·simp [h]
theorem numberC_v (n:Nat) (s:ByteArray) (hs:s.size≤100000):command_numberC n (s,(),())=some (((readL (bl s)).1,(if (readL (bl s)).2=0 then (if (readL (bl s)).1<0 then 3 else if 2147483648≤(readL (bl s)).1 then 3 else 0) else (readL (bl s)).2),()),((),(),())):=by
 have hR:=sat_Read_v n s (by omega)
 simp only [command_numberC,hR,bindN_s,command_cancel1,ieq_eq,ile_eq,ilt_eq]
 by_cases h:(readL (bl s)).2=0
 ·by_cases h1:(readL (bl s)).1<0
  ·have h1':¬ (0:Int)≤(readL (bl s)).1:=by omega
   simp [h,h1,h1']
  ·have h1':(0:Int)≤(readL (bl s)).1:=by omega
   by_cases h2:2147483648≤(readL (bl s)).1
   ·have h2':¬ (readL (bl s)).1<2147483648:=by omega
    simp [h,h1,h1',h2,h2']
   ·have h2':(readL (bl s)).1<2147483648:=by omega
    simp [h,h1,h1',h2,h2']
 ·simp [h]
def bare (k:Int):CMD:=(k,zK,0,0,zQ,0,())
theorem put_v {n:Nat} (hn:Big n) (l:List ByteArray) (hl:∀ x∈l,x.size≤90000) :
  ∃ c':CMD,command_put n (bare 1,l,())=some (((put3 l).2,()),(c',(),()))∧((put3 l).2=0→c'=(put3 l).1):=by
 have other:∀ l:List ByteArray,decide (ilen l=3)=false→command_put n (bare 1,l,())=some (((2:Int),()),(bare 1,(),())):=fun l e1=>by
  simp only [command_put,ieq_eq,e1,Bool.not_false,cond_true]
 have no:¬ (2:Int)=0:=by decide
 rcases l with _|⟨a,_|⟨b,_|⟨d,_|⟨e,r⟩⟩⟩⟩
 ·exact ⟨_,other _ rfl,fun h=>absurd (show (2:Int)=0 from h) no⟩
 ·exact ⟨_,other _ rfl,fun h=>absurd (show (2:Int)=0 from h) no⟩
 ·exact ⟨_,other _ rfl,fun h=>absurd (show (2:Int)=0 from h) no⟩
 ·have hK:=key_Parse_v hn a (by have:=hl a (by simp);omega)
  have hB:=numberE_v n b (by have:=hl b (by simp);omega)
  have hD:=sat_Read_v n d (by have:=hl d (by simp);omega)
  have l0:lat [a,b,d] (iN (0:Int))=some a:=by rw [lat_eq];rfl
  have l1:lat [a,b,d] (iN (1:Int))=some b:=by rw [lat_eq];rfl
  have l2:lat [a,b,d] (iN (2:Int))=some d:=by rw [lat_eq];rfl
  have k0:decide ((0:Int)≤0)=true:=rfl
  have k1:decide ((0:Int)≤1)=true:=rfl
  have k2:decide ((0:Int)≤2)=true:=rfl
  have e3:decide (ilen [a,b,d]=3)=true:=rfl
  have n3:¬ (3:Int)=0:=by decide
  have d3:decide ((3:Int)=0)=false:=rfl
  have d0:decide ((0:Int)=0)=true:=rfl
  show ∃ c':CMD,command_put n (bare 1,[a,b,d],())=some (((putC a b d).2,()),(c',(),()))∧((putC a b d).2=0→c'=(putC a b d).1)
  unfold putC
  by_cases q1:(parseK a).2.2=0
  ·rw [if_pos q1]
   by_cases q2:(readL (bl b)).2=0
   ·rw [if_pos q2]
    rw [if_pos q2] at hB
    by_cases q3:(readL (bl b)).1<0
    ·rw [if_pos q3]
     rw [if_pos q3] at hB
     refine ⟨(1,((parseK a).1,(parseK a).2.1,()),(readL (bl b)).1,0,zQ,0,()),?_,fun h=>absurd h n3⟩
     simp only [command_put,ieq_eq,ile_eq,e3,k0,k1,l0,l1,Bool.not_true,cond_false,cond_true,bindN_s,hK,q1,d0,hB,d3,Bool.not_false]
     try rfl
    ·rw [if_neg q3]
     rw [if_neg q3] at hB
     by_cases q4:1000000000000<(readL (bl b)).1
     ·rw [if_pos q4]
      rw [if_pos q4] at hB
      refine ⟨(1,((parseK a).1,(parseK a).2.1,()),(readL (bl b)).1,0,zQ,0,()),?_,fun h=>absurd h n3⟩
      simp only [command_put,ieq_eq,ile_eq,e3,k0,k1,l0,l1,Bool.not_true,cond_false,cond_true,bindN_s,hK,q1,d0,hB,d3,Bool.not_false]
      try rfl
     ·rw [if_neg q4]
      rw [if_neg q4] at hB
      by_cases q5:(readL (bl d)).2=0
      ·rw [if_pos q5]
       refine ⟨(1,((parseK a).1,(parseK a).2.1,()),(readL (bl b)).1,(readL (bl d)).1,zQ,0,()),?_,fun _=>rfl⟩
       simp only [command_put,ieq_eq,ile_eq,e3,k0,k1,k2,l0,l1,l2,Bool.not_true,cond_false,cond_true,bindN_s,hK,q1,d0,hB,hD,q5]
       rfl
      ·rw [if_neg q5]
       refine ⟨(1,((parseK a).1,(parseK a).2.1,()),(readL (bl b)).1,(readL (bl d)).1,zQ,0,()),?_,fun h=>absurd h q5⟩
       simp only [command_put,ieq_eq,ile_eq,e3,k0,k1,k2,l0,l1,l2,Bool.not_true,cond_false,cond_true,bindN_s,hK,q1,d0,hB,hD]
       try rfl
   ·rw [if_neg q2]
    rw [if_neg q2] at hB
    refine ⟨(1,((parseK a).1,(parseK a).2.1,()),(readL (bl b)).1,0,zQ,0,()),?_,fun h=>absurd h q2⟩
    simp only [command_put,ieq_eq,ile_eq,e3,k0,k1,l0,l1,Bool.not_true,cond_false,cond_true,bindN_s,hK,q1,d0,hB,q2,decide_false,Bool.not_false]
    try rfl
  ·rw [if_neg q1]
   refine ⟨(1,((parseK a).1,(parseK a).2.1,()),0,0,zQ,0,()),?_,fun h=>absurd h q1⟩
   simp only [command_put,ieq_eq,ile_eq,e3,k0,l0,Bool.not_true,cond_false,cond_true,bindN_s,hK,q1,decide_false,Bool.not_false]
   try rfl
 ·have f1:decide (ilen (a ::b ::d ::e ::r)=3)=false:=decide_eq_false (by show ¬ ((a ::b ::d ::e ::r).length:Int)=3;simp only [List.length_cons];omega)
  exact ⟨_,other _ f1,fun h=>absurd (show (2:Int)=0 from h) no⟩
theorem ask_v {n:Nat} (hn:Big n) (k:Int) (l:List ByteArray) (hl:l.length≤1000000) (hz:(joinB (mkB [32]) l).size≤90000) :
  ∃ c':CMD,command_ask n (bare k,l,())=some (((askC k l).2,()),(c',(),()))∧((askC k l).2=0→c'=(askC k l).1):=by
 have hJ:=word_Join_v n (mkB [32]) l hl (by rw [size_bl];omega)
 have hJ':word_Join n ((⟨#[32]⟩:ByteArray),l,())=_:=hJ
 have hP:=query_Parse_v hn (joinB (mkB [32]) l) hz
 unfold askC
 generalize parseQ (joinB (mkB [32]) l)=q at hP
 refine ⟨(k,zK,0,0,(q.1,q.2.1,q.2.2.1,q.2.2.2.1,()),0,()),?_,fun h=>?_⟩
 ·simp only [command_ask,hJ',bindN_s,hP]
  by_cases h:q.2.2.2.2=0
  ·simp [h,bare]
  ·simp [h,bare]
 ·by_cases h':q.2.2.2.2=0
  ·simp [h']
  ·simp [h'] at h
theorem cancel_v (n:Nat) (l:List ByteArray) (hl:∀ x∈l,x.size≤90000) :
  ∃ c':CMD,command_cancel n (bare 4,l,())=some (((cancel1 l).2,()),(c',(),()))∧((cancel1 l).2=0→c'=(cancel1 l).1):=by
 have other:∀ l:List ByteArray,decide (ilen l=1)=false→command_cancel n (bare 4,l,())=some (((2:Int),()),(bare 4,(),())):=fun l e1=>by
  simp only [command_cancel,ieq_eq,e1,Bool.not_false,cond_true]
 have no:¬ (2:Int)=0:=by decide
 rcases l with _|⟨a,_|⟨b,r⟩⟩
 ·exact ⟨_,other _ rfl,fun h=>absurd (show (2:Int)=0 from h) no⟩
 ·have hB:=numberC_v n a (by have:=hl a (by simp);omega)
  have l0:lat [a] (iN (0:Int))=some a:=by rw [lat_eq];rfl
  have k0:decide ((0:Int)≤0)=true:=rfl
  have e1:decide (ilen [a]=1)=true:=rfl
  show ∃ c':CMD,command_cancel n (bare 4,[a],())=some (((cancelC a).2,()),(c',(),()))∧((cancelC a).2=0→c'=(cancelC a).1)
  refine ⟨(4,zK,0,0,zQ,(readL (bl a)).1,()),?_,fun h=>?_⟩
  ·simp only [command_cancel,ieq_eq,ile_eq,e1,k0,l0,Bool.not_true,cond_false,cond_true,bindN_s,hB]
   unfold cancelC
   by_cases q2:(readL (bl a)).2=0
   ·by_cases q3:(readL (bl a)).1<0
    ·simp [q2,q3,bare]
    ·by_cases q4:2147483648≤(readL (bl a)).1
     ·simp [q2,q3,q4,bare]
     ·simp [q2,q3,q4,bare]
   ·simp [q2,bare]
  ·unfold cancelC at h ⊢
   by_cases q2:(readL (bl a)).2=0
   ·by_cases q3:(readL (bl a)).1<0
    ·simp [q2,q3] at h
    ·by_cases q4:2147483648≤(readL (bl a)).1
     ·simp [q2,q3,q4] at h
     ·simp [q2,q3,q4]
   ·simp [q2] at h
 ·have f1:decide (ilen (a ::b ::r)=1)=false:=decide_eq_false (by show ¬ ((a ::b ::r).length:Int)=1;simp only [List.length_cons];omega)
  exact ⟨_,other _ f1,fun h=>absurd (show (2:Int)=0 from h) no⟩
theorem alone_v (n:Nat) (l:List ByteArray):∃ c':CMD,command_alone n (bare 5,l,())=some (((stat0 l).2,()),(c',(),()))∧((stat0 l).2=0→c'=(stat0 l).1):=by
 refine ⟨bare 5,?_,?_⟩
 ·cases l with
  | nil =>
   have e1:decide ((0:Int)<ilen ([]:List ByteArray))=false:=rfl
   simp only [command_alone,ilt_eq,e1,cond_false];rfl
  | cons a r =>
   have e1:decide ((0:Int)<ilen (a ::r))=true:=decide_eq_true (by show (0:Int)<((a ::r).length:Int);simp only [List.length_cons];omega)
   simp only [command_alone,ilt_eq,e1,cond_true];rfl
 ·cases l with
  | nil=>exact fun _=>rfl
  | cons a r=>exact fun h=>absurd (show (2:Int)=0 from h) (by decide)
theorem callW_v {γ:Type} {g:RC.CmdG} {k:Int} {w:ByteArray} {r:List ByteArray} {x:CMD×Int} {c':CMD} (K:El tCommand×Int→Option γ) (h:g (bare k,r,())=some ((x.2,()),(c',(),()))) (hc:x.2=0→c'=x.1) (hz:x.2≠0→x.1=zCmd):RC.callW g k (w ::r) K=K x:=by
 have k2:(1:Int)≤((r.length+1:Nat):Int):=by omega
 have hlen:ilen (w ::r)=((r.length+1:Nat):Int):=rfl
 have ew:winI (w ::r) (1:Int) ((r.length+1:Nat):Int)=r:=by
  show win (w ::r) 1 (((r.length+1:Nat):Int).toNat - 1)=r
  rw [win_eq,Int.toNat_natCast]
  show r.take (r.length+1 - 1)=r
  exact List.take_of_length_le (by omega)
 have h':g ((k,((⟨#[]⟩:ByteArray),[],()),0,0,(0,(⟨#[]⟩:ByteArray),[],[],()),0,()),r,())=some ((x.2,()),(c',(),())):=h
 unfold RC.callW
 simp only [hlen,ile_eq,k2,decide_true,cond_true,Int.le_refl,ew,h',bindN_s,ieq_eq]
 obtain ⟨x1,x2⟩:=x
 simp only at hc hz
 by_cases q:x2=0
 ·rw [hc q];simp [q]
 ·have:=hz q
  subst this
  simp [q];rfl
theorem out_zero {x:CMD×Int} (h:OutC x):x.2≠0→x.1=zCmd:=fun hx=>by
 rcases h with h|h
 ·exact h.2
 ·exact absurd h.1 hx
theorem command_Parse_v {n:Nat} (hn:Big n) (s:ByteArray) (hs:s.size≤90000):command_Parse n (s,())=some (((parseC s).1,(parseC s).2,()),((),())):=by
 have hF:=word_Fields_v hn s (by omega)
 have hz:=fields_size s
 have hl:=fields_len s
 have ho:=out_zero (parseC_out s)
 unfold parseC at ho ⊢
 cases hw:fieldsB s with
 | nil =>
  rw [hw] at hF
  have e1:decide (ilen ([]:List ByteArray)=0)=true:=rfl
  simp only [command_Parse,hF,bindN_s,ieq_eq,e1,cond_true]
  rfl
 | cons w r =>
  have hj:=join_fields s r w hw
  rw [hw] at hF hz hl ho
  have hlr:r.length≤1000000:=by rw [List.length_cons] at hl;omega
  have hzr:∀ x∈r,x.size≤90000:=fun x hx=>by have:=hz x (List.mem_cons_of_mem _ hx);omega
  have hjr:(joinB (mkB [32]) r).size≤90000:=by omega
  have e1:decide (ilen (w ::r)=0)=false:=decide_eq_false (by show ¬ ((w ::r).length:Int)=0;rw [List.length_cons];omega)
  have l0:lat (w ::r) (iN (0:Int))=some w:=by rw [lat_eq];rfl
  have b1:seq w RC.k_put=decide (w=putW):=by rw [seq_eq];rfl
  have b2:seq w RC.k_get=decide (w=getW):=by rw [seq_eq];rfl
  have b3:seq w RC.k_sub=decide (w=subW):=by rw [seq_eq];rfl
  have b4:seq w RC.k_cancel=decide (w=cancelW):=by rw [seq_eq];rfl
  have b5:seq w RC.k_stat=decide (w=statW):=by rw [seq_eq];rfl
  show command_Parse n (s,())=some (((wordC w r).1,(wordC w r).2,()),((),()))
  have ho:(wordC w r).2≠0→(wordC w r).1=zCmd:=ho
  simp only [command_Parse,hF,bindN_s,ieq_eq,e1,cond_false,l0,b1,b2,b3,b4,b5]
  unfold wordC at ho ⊢
  by_cases q1:w=putW
  ·rw [if_pos q1] at ho
   obtain ⟨c',h1,h2⟩:=put_v hn r hzr
   rw [if_pos q1,callW_v _ h1 h2 ho]
   simp only [q1,decide_true,cond_true]
  ·rw [if_neg q1] at ho ⊢
   by_cases q2:w=getW
   ·rw [if_pos q2] at ho
    obtain ⟨c',h1,h2⟩:=ask_v hn 2 r hlr hjr
    rw [if_pos q2,callW_v (k:=2) _ h1 h2 ho]
    simp only [q1,q2,decide_true,decide_false,cond_true,cond_false,show ¬ getW=putW by decide]
   ·rw [if_neg q2] at ho ⊢
    by_cases q3:w=subW
    ·rw [if_pos q3] at ho
     obtain ⟨c',h1,h2⟩:=ask_v hn 3 r hlr hjr
     rw [if_pos q3,callW_v (k:=3) _ h1 h2 ho]
     simp only [q1,q2,q3,decide_true,decide_false,cond_true,cond_false,show ¬ subW=putW by decide,show ¬ subW=getW by decide]
    ·rw [if_neg q3] at ho ⊢
     by_cases q5:w=statW
     ·rw [if_pos q5] at ho
      obtain ⟨c',h1,h2⟩:=alone_v n r
      rw [if_pos q5,callW_v (k:=5) _ h1 h2 ho]
      simp only [q1,q2,q3,q5,decide_true,decide_false,cond_true,cond_false,show ¬ statW=putW by decide,show ¬ statW=getW by decide,show ¬ statW=subW by decide,show ¬ statW=cancelW by decide]
     ·rw [if_neg q5] at ho ⊢
      by_cases q4:w=cancelW
      ·rw [if_pos q4] at ho
       obtain ⟨c',h1,h2⟩:=cancel_v n r hzr
       rw [if_pos q4,callW_v (k:=4) _ h1 h2 ho]
       simp only [q1,q2,q3,q4,decide_true,decide_false,cond_true,cond_false,show ¬ cancelW=putW by decide,show ¬ cancelW=getW by decide,show ¬ cancelW=subW by decide]
      ·rw [if_neg q4]
       simp only [q1,q2,q3,q4,q5,decide_false,cond_false]
       rfl
end Go.Proofs.YtdcphpbimeoioaaGreatDoorE
end
section
set_option linter.unusedSectionVars false
namespace Go.Proofs.YtdcphpbimeoioaaGreatDoorE
open Go Go.Proofs
set_option linter.unusedVariables false
set_option linter.unusedSimpArgs false
set_option maxRecDepth 100000
theorem alive22_v:law22_alive 1000000000000000 ()=some ((true,()),()):=by kernel_rfl
theorem big22:Big 1000000000000000:=by unfold Big;omega
def great22 (c:CMD):Bool:=greatT c.2.1.2.1 || (decide ((200:Int)<(c.2.1.1.size:Int)) || greatQ c.2.2.2.2.1.2.1 c.2.2.2.2.1.2.2.1 c.2.2.2.2.1.2.2.2.1)
theorem law22_great_v {n:Nat} (hn:Big n) (c:CMD):law22_great n (c,())=some ((great22 c,()),((),())):=by
 have hG:=r03_Great_v hn c.2.1.2.1
 have hG':r03_Great n c.2.1.2=some ((greatT c.2.1.2.1,()),((),())):=hG
 have hQ:=r07_Great_v hn c.2.2.2.2.1
 unfold great22
 simp only [law22_great,hG',bindN_s,hQ,ilt_eq,ssize_eq]
 cases greatT c.2.1.2.1 with
 | true=>rfl
 | false=>by_cases h:(200:Int)<(c.2.1.1.size:Int)<;>simp [h]
theorem i64c_of {n:Int} (h:(Lit.int .i64 n).wf=true):I64 n:=by
 simp [Lit.wf,IntKind.bits,IntKind.signed,IntKind.min,IntKind.max] at h
 unfold I64
 omega
theorem fitC_of {c:CMD} (ho:okE tCommand c) (h:great22 c=false):FitC c:=by
 unfold great22 at h
 rw [Bool.or_eq_false_iff,Bool.or_eq_false_iff,decide_eq_false_iff_not] at h
 obtain ⟨h1,h2,h3⟩:=h
 obtain ⟨g1,g2,g3,g4⟩:=not_greatQ h3
 exact ⟨⟨by omega,not_great_fit h1⟩,⟨i64c_of ho.2.2.1,i64c_of ho.2.2.2.1,i64c_of ho.2.2.2.2.2.1⟩,by have:=g2.1;omega,by omega⟩
theorem fit_nil:Fit []:=⟨by decide,fun t ht=>by cases ht⟩
theorem i64_0:I64 0:=⟨by decide,by decide⟩
theorem right_fitC {c:CMD} (h:rightC c=true) (hv:I64 c.2.2.2.1):FitC c:=by
 obtain ⟨ho,hp⟩:=rightC_parts h
 have zk:c.2.1=zK→c.2.1.1.size≤1000000∧Fit c.2.1.2.1:=fun e=>by rw [e];exact ⟨by decide,fit_nil⟩
 have zq:c.2.2.2.2.1=zQ→c.2.2.2.2.1.2.2.1.length≤1000000∧c.2.2.2.2.1.2.2.2.1.length≤1000000:=fun e=>by rw [e];exact ⟨by decide,by decide⟩
 have may:mayQ c.2.2.2.2.1=true→c.2.2.2.2.1.2.2.1.length≤1000000∧c.2.2.2.2.1.2.2.2.1.length≤1000000:=fun e=>by
  have:=rightQ_len (show rightQ c.2.2.2.2.1.1 c.2.2.2.2.1.2.1 c.2.2.2.2.1.2.2.1 c.2.2.2.2.1.2.2.2.1=true from e)
  exact ⟨by omega,by omega⟩
 unfold onlyC at ho
 by_cases h1:c.1=1
 ·rw [if_pos h1,Bool.and_eq_true,Bool.and_eq_true,decide_eq_true_eq,decide_eq_true_eq] at hp
  rw [if_pos h1] at ho
  have e1:c.2.2.2.2.1=zQ:=congrArg (fun x:CMD=>x.2.2.2.2.1) ho
  have e2:c.2.2.2.2.2.1=0:=congrArg (fun x:CMD=>x.2.2.2.2.2.1) ho
  obtain ⟨k1,k2,k3⟩:=hp
  have f:=rightK_fit k1
  exact ⟨⟨by have:=f.1;omega,f.2.1⟩,⟨i64_small k2 k3,hv,by rw [e2];exact i64_0⟩,zq e1⟩
 ·rw [if_neg h1] at hp ho
  by_cases h2:c.1=2
  ·rw [if_pos h2] at hp ho
   have e1:c.2.1=zK:=congrArg (fun x:CMD=>x.2.1) ho
   have e2:c.2.2.1=0:=congrArg (fun x:CMD=>x.2.2.1) ho
   have e3:c.2.2.2.2.2.1=0:=congrArg (fun x:CMD=>x.2.2.2.2.2.1) ho
   exact ⟨zk e1,⟨by rw [e2];exact i64_0,hv,by rw [e3];exact i64_0⟩,may hp⟩
  ·rw [if_neg h2] at hp ho
   by_cases h3:c.1=3
   ·rw [if_pos h3] at hp ho
    have e1:c.2.1=zK:=congrArg (fun x:CMD=>x.2.1) ho
    have e2:c.2.2.1=0:=congrArg (fun x:CMD=>x.2.2.1) ho
    have e3:c.2.2.2.2.2.1=0:=congrArg (fun x:CMD=>x.2.2.2.2.2.1) ho
    exact ⟨zk e1,⟨by rw [e2];exact i64_0,hv,by rw [e3];exact i64_0⟩,may hp⟩
   ·rw [if_neg h3] at hp ho
    by_cases h4:c.1=4
    ·rw [if_pos h4] at hp ho
     rw [Bool.and_eq_true,decide_eq_true_eq,decide_eq_true_eq] at hp
     have e1:c.2.1=zK:=congrArg (fun x:CMD=>x.2.1) ho
     have e2:c.2.2.1=0:=congrArg (fun x:CMD=>x.2.2.1) ho
     have e3:c.2.2.2.2.1=zQ:=congrArg (fun x:CMD=>x.2.2.2.2.1) ho
     exact ⟨zk e1,⟨by rw [e2];exact i64_0,hv,i64_small hp.1 (i31_small hp.2)⟩,zq e3⟩
    ·rw [if_neg h4] at ho
     have e1:c.2.1=zK:=congrArg (fun x:CMD=>x.2.1) ho
     have e2:c.2.2.1=0:=congrArg (fun x:CMD=>x.2.2.1) ho
     have e3:c.2.2.2.2.1=zQ:=congrArg (fun x:CMD=>x.2.2.2.2.1) ho
     have e4:c.2.2.2.2.2.1=0:=congrArg (fun x:CMD=>x.2.2.2.2.2.1) ho
     exact ⟨zk e1,⟨by rw [e2];exact i64_0,hv,by rw [e4];exact i64_0⟩,zq e3⟩
theorem fit_z:FitC zCmd:=⟨⟨by decide,fit_nil⟩,⟨i64_0,i64_0,i64_0⟩,by decide,by decide⟩
theorem out_fit {x:CMD×Int} (h:OutC x):FitC x.1:=by
 rcases h with ⟨_,h⟩|⟨_,h1,h2⟩
 ·rw [h];exact fit_z
 ·exact right_fitC h1 h2
theorem commandTells_true:∀ x,okArgs [tCommand,tCommand] x→∃ o,law_CommandTells 1000000000000000 x=some ((true,()),o):=by
 intro x hx
 obtain ⟨c,d,⟨⟩⟩:=x
 obtain ⟨hc,hd,_⟩:=hx
 have hn:=big22
 have ha:=alive22_v
 generalize 1000000000000000=n at hn ha
 refine ⟨((),(),()),?_⟩
 have g0:=law22_great_v hn c
 have g1:=law22_great_v hn d
 cases h0:great22 c with
 | true=>simp only [law_CommandTells,ha,bindN_s,Bool.not_true,cond_false,g0,h0,cond_true]
 | false =>
  cases h1:great22 d with
  | true=>simp only [law_CommandTells,ha,bindN_s,Bool.not_true,cond_false,g0,h0,g1,h1,cond_true]
  | false =>
   have fc:=fitC_of hc h0
   have R1:=command_Right_v hn c fc
   have R2:=r22_Right_v hn c fc
   have T1:=(command_Text_v hn c fc).1
   have T2:=r22_Text_v hn c fc
   have S1:=command_Same_v hn (a:=c) (b:=d) (limC_of fc)
   have S2:=r22_Same_v hn (a:=c) (b:=d) (limC_of fc)
   have S3:=command_Same_v hn (a:=c) (b:=c) (limC_of fc)
   simp only [law_CommandTells,ha,bindN_s,Bool.not_true,cond_false,g0,h0,g1,h1,R1,R2,beqB_eq,decide_true,cond_true,T1,T2,seq_eq,S1,S2,S3,eqb_refl]
theorem commandParses_true:∀ x,okArgs [.str] x→∃ o,law_CommandParses 1000000000000000 x=some ((true,()),o):=by
 intro x hx
 obtain ⟨s,⟨⟩⟩:=x
 have hn:=big22
 have ha:=alive22_v
 generalize 1000000000000000=n at hn ha
 refine ⟨((),()),?_⟩
 by_cases h0:(500:Int)<(s.size:Int)
 ·simp only [law_CommandParses,ha,bindN_s,Bool.not_true,cond_false,ilt_eq,ssize_eq,h0,decide_true,cond_true]
 ·have P1:=command_Parse_v hn s (by omega)
  have P2:=r22_Parse_v hn s (by omega)
  have S:=r22_Same_v hn (a:=(parseC s).1) (b:=(parseC s).1) (limC_of (out_fit (parseC_out s)))
  simp only [law_CommandParses,ha,bindN_s,Bool.not_true,cond_false,ilt_eq,ssize_eq,h0,decide_false,P1,P2,S,eqb_refl,cond_true,ieq_eq,decide_true]
theorem back_tail {n:Nat} (hn:Big n) (s:ByteArray) (hs:s.size≤500) :
  ((parseC s).2≠0∧command_Parse n (s,())=some ((zCmd,(parseC s).2,()),((),()))∧r22_Same n (zCmd,zCmd,())=some ((true,()),((),(),()))) ∨
  (∃ d,command_Parse n (s,())=some ((d,(0:Int),()),((),()))∧command_Text n (d,())=some ((textC d,()),((),()))∧command_Parse n (textC d,())=some ((d,(0:Int),()),((),()))∧r22_Right n (d,())=some ((true,()),((),()))∧r22_Same n (d,d,())=some ((true,()),((),(),()))):=by
 have P1:=command_Parse_v hn s (by omega)
 rcases parseC_out s with ⟨h1,h2⟩|⟨h1,h2,h3⟩
 ·left
  rw [h2] at P1
  have S:=r22_Same_v hn (a:=zCmd) (b:=zCmd) (limC_of fit_z)
  rw [eqb_refl] at S
  exact ⟨h1,P1,S⟩
 ·right
  have fc:=right_fitC h2 h3
  obtain ⟨T,hz⟩:=command_Text_v hn (parseC s).1 fc
  have P2:=command_Parse_v hn (textC (parseC s).1) (by omega)
  rw [parse_textC h2 h3] at P2
  have R:=r22_Right_v hn (parseC s).1 fc
  have S:=r22_Same_v hn (a:=(parseC s).1) (b:=(parseC s).1) (limC_of fc)
  rw [eqb_refl] at S
  rw [h2] at R
  rw [h1] at P1
  exact ⟨_,P1,T,P2,R,S⟩
theorem commandBack_true:∀ x,okArgs [tCommand, .str] x→∃ o,law_CommandBack 1000000000000000 x=some ((true,()),o):=by
 intro x hx
 obtain ⟨c,s,⟨⟩⟩:=x
 obtain ⟨hc,_,_⟩:=hx
 have hn:=big22
 have ha:=alive22_v
 generalize 1000000000000000=n at hn ha
 refine ⟨((),(),()),?_⟩
 have g0:=law22_great_v hn c
 have z0:decide ((0:Int)=0)=true:=rfl
 cases h0:great22 c with
 | true=>simp only [law_CommandBack,ha,bindN_s,Bool.not_true,cond_false,g0,h0,cond_true]
 | false =>
  by_cases h1:(500:Int)<(s.size:Int)
  ·simp only [law_CommandBack,ha,bindN_s,Bool.not_true,cond_false,g0,h0,ilt_eq,ssize_eq,h1,decide_true,cond_true]
  ·have fc:=fitC_of hc h0
   have R1:=r22_Right_v hn c fc
   cases hr:rightC c with
   | false =>
    rw [hr] at R1
    rcases back_tail hn s (by omega) with ⟨t1,t2,t3⟩|⟨d,t1,t2,t3,t4,t5⟩
    ·have t3':r22_Same n (zCmd,((0:Int),((⟨#[]⟩:ByteArray),[],()),(0:Int),(0:Int),((0:Int),(⟨#[]⟩:ByteArray),[],[],()),(0:Int),()),())=some ((true,()),((),(),())):=t3
     simp only [law_CommandBack,ha,bindN_s,Bool.not_true,cond_false,g0,h0,ilt_eq,ssize_eq,h1,decide_false,R1,t2,ieq_eq,t1,Bool.not_false,cond_true,t3']
    ·simp only [law_CommandBack,ha,bindN_s,Bool.not_true,cond_false,g0,h0,ilt_eq,ssize_eq,h1,decide_false,R1,t1,ieq_eq,decide_true,t2,t3,t4,cond_true,t5]
   | true =>
    rw [hr] at R1
    obtain ⟨T,hz⟩:=command_Text_v hn c fc
    have P2:=command_Parse_v hn (textC c) (by omega)
    rw [parse_textC hr fc.2.1.2.1] at P2
    have S:=r22_Same_v hn (a:=c) (b:=c) (limC_of fc)
    rw [eqb_refl] at S
    rcases back_tail hn s (by omega) with ⟨t1,t2,t3⟩|⟨d,t1,t2,t3,t4,t5⟩
    ·have t3':r22_Same n (zCmd,((0:Int),((⟨#[]⟩:ByteArray),[],()),(0:Int),(0:Int),((0:Int),(⟨#[]⟩:ByteArray),[],[],()),(0:Int),()),())=some ((true,()),((),(),())):=t3
     simp only [law_CommandBack,ha,bindN_s,Bool.not_true,cond_false,g0,h0,ilt_eq,ssize_eq,h1,decide_false,R1,cond_true,T,P2,ieq_eq,decide_true,S,t2,t1,Bool.not_false,t3']
    ·simp only [law_CommandBack,ha,bindN_s,Bool.not_true,cond_false,g0,h0,ilt_eq,ssize_eq,h1,decide_false,R1,cond_true,T,P2,ieq_eq,decide_true,S,t1,t2,t3,t4,t5]
theorem dbl_snoc (l:List UInt8) (b:UInt8):dblB (l++[b])=dblB l++(if b=32 then [32,32] else [b]):=by unfold dblB;rw [List.flatMap_append];simp
theorem dbl_cons (b:UInt8) (l:List UInt8):dblB (b ::l)=(if b=32 then [32,32] else [b])++dblB l:=by unfold dblB;rw [List.flatMap_cons]
theorem dbl_len:∀ l:List UInt8,(dblB l).length≤2 * l.length
 | []=>Nat.le_refl _
 | b ::l=>by
  have ih:=dbl_len l
  rw [dbl_cons,List.length_append,List.length_cons]
  by_cases h:b=32
  ·rw [if_pos h];show 2+_≤_;omega
  ·rw [if_neg h];show 1+_≤_;omega
def wideB (s:ByteArray) (i:Nat):ByteArray:=mkB (32 ::dblB ((bl s).take i))
theorem wide_size (s:ByteArray) (i:Nat) (hs:s.size≤300):(wideB s i).size≤601:=by
 unfold wideB
 have h:=dbl_len ((bl s).take i)
 have h2:((bl s).take i).length≤s.size:=by rw [← size_bl,List.length_take];omega
 rw [size_mkB,List.length_cons];omega
theorem blanks_l0 (n:Nat) (s:ByteArray) (hs:s.size≤300):∀ (d i g:Nat),i+d=s.size→d<g→law_CommandBlanks_l0 n g (s,wideB s i,(i:Int),())=some (.inl (s,wideB s s.size,()))
 | 0,i,g,hd,hg=>by
  obtain ⟨g,rfl⟩:∃ g',g=g'+1:=⟨g - 1,by omega⟩
  have e:i=s.size:=by omega
  subst e
  have c:¬ (s.size:Int)<(s.size:Int):=by omega
  simp only [law_CommandBlanks_l0,ilt_eq,ssize_eq,c,decide_false,cond_false]
 | d+1,i,g,hd,hg=>by
  obtain ⟨g,rfl⟩:∃ g',g=g'+1:=⟨g - 1,by omega⟩
  have hz:=size_bl s
  have hi:i<(bl s).length:=by omega
  have ih:=blanks_l0 n s hs d (i+1) g (by omega) (by omega)
  have hw:=wide_size s i hs
  have c1:(i:Int)<(s.size:Int):=by omega
  have c2:(0:Int)≤i:=by omega
  have c3:(i:Int)≤((i+1:Nat):Int):=by omega
  have c4:((i+1:Nat):Int)≤(s.size:Int):=by omega
  have ex:sext s (i:Int) ((i+1:Nat):Int)=mkB [(bl s)[i]]:=by
   rw [sext_eq,Int.toNat_natCast,Int.toNat_natCast,ext_mid]
   show mkB (((bl s).take (i+1)).drop i)=_
   rw [List.take_add_one,List.getElem?_eq_getElem hi,List.drop_append_of_le_length (by rw [List.length_take];omega),List.drop_of_length_le (by rw [List.length_take];omega)]
   rfl
  have hsb:=sat_bl s i hi
  have e3:(bl s).take (i+1)=(bl s).take i++[(bl s)[i]]:=by rw [List.take_add_one,List.getElem?_eq_getElem hi];rfl
  have s1:(mkB [(bl s)[i]]).size=1:=rfl
  have s2:(⟨#[32]⟩:ByteArray).size=1:=rfl
  have g1:sfits (wideB s i) (mkB [(bl s)[i]])=true:=sfits_of (by omega)
  have g2:sfits (wideB s i++mkB [(bl s)[i]]) (⟨#[32]⟩:ByteArray)=true:=sfits_of (by rw [ByteArray.size_append];omega)
  by_cases hb:(bl s)[i]=32
  ·have ev:decide ((((bl s)[i]).toNat:Int)=32)=true:=by rw [hb];rfl
   have ew:wideB s i++mkB [(bl s)[i]]++(⟨#[32]⟩:ByteArray)=wideB s (i+1):=bl_inj (by
    unfold wideB
    rw [bl_append,bl_append,bl_mkB,bl_mkB,bl_mkB,e3,dbl_snoc,if_pos hb,hb]
    show _++[32]=_
    simp)
   simp only [law_CommandBlanks_l0,ilt_eq,ile_eq,ieq_eq,ssize_eq,c1,c2,decide_true,cond_true,iadd1 (i:=i) (by omega),c3,c4,ex,g1,hsb,ev,scat_eq,g2,ew,ih,bindL_inl]
  ·have ev:decide ((((bl s)[i]).toNat:Int)=32)=false:=decide_eq_false fun h=>hb (by
    have:((bl s)[i]).toNat=32:=by omega
    exact UInt8.toNat_inj.1 this)
   have ew:wideB s i++mkB [(bl s)[i]]=wideB s (i+1):=bl_inj (by
    unfold wideB
    rw [bl_append,bl_mkB,bl_mkB,bl_mkB,e3,dbl_snoc,if_neg hb]
    simp)
   simp only [law_CommandBlanks_l0,ilt_eq,ile_eq,ieq_eq,ssize_eq,c1,c2,decide_true,cond_true,iadd1 (i:=i) (by omega),c3,c4,ex,g1,hsb,ev,cond_false,scat_eq,ew,ih,bindL_inl]
theorem commandBlanks_true:∀ x,okArgs [.str] x→∃ o,law_CommandBlanks 1000000000000000 x=some ((true,()),o):=by
 intro x hx
 obtain ⟨s,⟨⟩⟩:=x
 have hn:=big22
 have ha:=alive22_v
 generalize 1000000000000000=n at hn ha
 refine ⟨((),()),?_⟩
 by_cases h0:(300:Int)<(s.size:Int)
 ·simp only [law_CommandBlanks,ha,bindN_s,Bool.not_true,cond_false,ilt_eq,ssize_eq,h0,decide_true,cond_true]
 ·have L:=blanks_l0 n s (by omega) s.size 0 n (by omega) (by unfold Big at hn;omega)
  have L':law_CommandBlanks_l0 n n (s,(⟨#[32]⟩:ByteArray),(0:Int),())=some (.inl (s,wideB s s.size,())):=L
  have hw:=wide_size s s.size (by omega)
  have s2:(⟨#[32]⟩:ByteArray).size=1:=rfl
  have g1:sfits (wideB s s.size) (⟨#[32]⟩:ByteArray)=true:=sfits_of (by omega)
  have ew:wideB s s.size++(⟨#[32]⟩:ByteArray)=mkB (32 ::dblB (bl s)++[32]):=bl_inj (by
   unfold wideB
   rw [bl_append,bl_mkB,bl_mkB,List.take_of_length_le (by rw [size_bl];exact Nat.le_refl _)]
   rfl)
  have P1:=command_Parse_v hn s (by omega)
  have P2:=command_Parse_v hn (mkB (32 ::dblB (bl s)++[32])) (by rw [← ew,ByteArray.size_append];omega)
  have ep:parseC (mkB (32 ::dblB (bl s)++[32]))=parseC s:=by unfold parseC;rw [fields_wide]
  rw [ep] at P2
  have S:=r22_Same_v hn (a:=(parseC s).1) (b:=(parseC s).1) (limC_of (out_fit (parseC_out s)))
  simp only [law_CommandBlanks,ha,bindN_s,Bool.not_true,cond_false,ilt_eq,ssize_eq,h0,decide_false,L',bindL_inl,P1,g1,cond_true,scat_eq,ew,P2,S,eqb_refl,ieq_eq,decide_true]
end Go.Proofs.YtdcphpbimeoioaaGreatDoorE
end
