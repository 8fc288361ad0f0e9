import Derived.Test.YteaadaaghhojfaaGreatDoorZQdPQux9
import Derived.Test.YteaadaaghhojfaaGreatDoorZQdPQux14
import Derived.Test.YteaadaaghhojfaaGreatDoorZQdPQux4
import Derived.Test.YteaadaaghhojfaaGreatDoorZQdPQux18
import Derived.Test.YteaadaaghhojfaaGreatDoorZQdQD
namespace Go.Proofs.YteaadaaghhojfaaGreatDoor.Pure
open Go.RowKit Go.Proofs.YteaadaaghhojfaaGreatDoor.PQu Go.Proofs.YteaadaaghhojfaaGreatDoorW.PrintWords Go.Proofs.YteaadaaghhojfaaGreatDoorW.PrintLast Go.Proofs.YteaadaaghhojfaaGreatDoorW.PrintMore Go.Proofs.YteaadaaghhojfaaGreatDoorW.XP Go.Proofs.YteaadaaghhojfaaGreatDoorW.XW
set_option linter.unusedVariables false
set_option linter.unusedSimpArgs false
theorem mayM_parts {m:MT} (h:mayM m=true):nameL (bl m.f1)=true∧((m.f0=1∧valueL (bl m.f2)=true)∨(m.f0=2∧valueL (bl m.f2)=true)∨(m.f0=3∧(bl m.f2=[]∨valueL (bl m.f2)=true))∨(m.f0=4∧bl m.f2=[])):=by
 unfold mayM at h
 rw [Bool.and_eq_true] at h
 refine ⟨h.1,?_⟩
 have h2:=h.2
 by_cases c1:m.f0=1
 ·rw [if_pos (.inl c1)] at h2;exact .inl ⟨c1,h2⟩
 by_cases c2:m.f0=2
 ·rw [if_pos (.inr c2)] at h2;exact .inr (.inl ⟨c2,h2⟩)
 rw [if_neg (fun e=>e.elim c1 c2)] at h2
 by_cases c3:m.f0=3
 ·rw [if_pos c3,Bool.or_eq_true,decide_eq_true_eq] at h2;exact .inr (.inr (.inl ⟨c3,h2⟩))
 rw [if_neg c3,Bool.and_eq_true,decide_eq_true_eq,decide_eq_true_eq] at h2
 exact .inr (.inr (.inr h2))
theorem mayM_len {m:MT} (h:mayM m=true):m.f1.size≤12∧m.f2.size≤12:=by
 obtain ⟨h1,h2⟩:=mayM_parts h
 have e1:=size_bl m.f1
 have e2:=size_bl m.f2
 have:=name_len _ h1
 refine ⟨by omega,?_⟩
 rcases h2 with ⟨_,h2⟩|⟨_,h2⟩|⟨_,h2|h2⟩|⟨_,h2⟩
 ·have:=value_len _ h2;omega
 ·have:=value_len _ h2;omega
 ·rw [h2] at e2;simp at e2;omega
 ·have:=value_len _ h2;omega
 ·rw [h2] at e2;simp at e2;omega
theorem rightM_parts {m:List MT} (h:rightM m=true):m.length≤4∧∀ t∈m,mayM t=true:=by
 unfold rightM at h
 rw [Bool.and_eq_true,decide_eq_true_eq,List.all_eq_true] at h;exact h
theorem rightM_fit {m:List MT} (h:rightM m=true):FitM m:=by
 obtain ⟨h1,h2⟩:=rightM_parts h
 exact ⟨by omega,fun t ht=>by have:=mayM_len (h2 t ht);omega⟩
theorem namesS_parts {b:List ByteArray} (h:namesS b=0):b.length≤4∧b.Nodup∧∀ x∈b,nameL (bl x)=true:=by
 unfold namesS at h
 by_cases h1:b.all nameB=true
 ·rw [if_pos h1] at h
  by_cases h2:4<b.length
  ·rw [if_pos h2] at h;cases h
  ·rw [if_neg h2] at h
   by_cases h3:b.Nodup
   ·exact ⟨by omega,h3,fun x hx=>(List.all_eq_true.1 h1) x hx⟩
   ·rw [if_neg h3] at h;cases h
 ·rw [if_neg h1] at h;cases h
theorem rightQ_parts {a:Int} {n:ByteArray} {m:List MT} {b:List ByteArray} (h:rightQ a n m b=true):(1≤a∧a≤4)∧nameL (bl n)=true∧rightM m=true∧namesS b=0:=by
 unfold rightQ at h
 simpa only [Bool.and_eq_true,decide_eq_true_eq] using h
theorem joinB_small (c:UInt8) (B:Nat) (l:List ByteArray) (h:∀ x∈l,x.size≤B) (hl:l.length≤4):(bl (joinB (mkB [c]) l)).length≤4 * (1+B):=by
 have:=joinB_len (mkB [c]) B l (fun x hx=>by rw [size_bl];exact h x hx)
 rw [bl_mkB] at this
 exact Nat.le_trans this (Nat.mul_le_mul hl (by simp))
theorem textM_small {m:List MT} (h:rightM m=true):(bl (textM m)).length≤120:=by
 obtain ⟨h1,h2⟩:=rightM_parts h
 have:=joinB_small 44 29 (m.map matchB) (fun x hx=>by
  obtain ⟨t,ht,rfl⟩:=List.mem_map.1 hx
  have h3:=mayM_len (h2 t ht)
  have e1:=size_bl t.f1
  have e2:=size_bl t.f2
  rw [← size_bl]
  unfold matchB
  split
  ·rw [bl_join2,bl_mkB];simp only [List.length_append,List.length_cons,List.length_nil];omega
  ·split
   ·rw [bl_join2,bl_mkB];simp only [List.length_append,List.length_cons,List.length_nil];omega
   ·split
    ·rw [bl_join2,bl_append,bl_mkB,bl_mkB];simp only [List.length_append,List.length_cons,List.length_nil];omega
    ·omega) (by rw [List.length_map];exact h1)
 unfold textM;omega
theorem by_small {b:List ByteArray} (h:namesS b=0):(bl (joinB (mkB [44]) b)).length≤52:=by
 obtain ⟨h1,_,h2⟩:=namesS_parts h
 exact joinB_small 44 12 b (fun x hx=>by have:=name_len _ (h2 x hx);have:=size_bl x;omega) h1
theorem nameN_small (a:Int):(bl (nameN a)).length≤5:=by
 unfold nameN
 split;· decide
 split;· decide
 split;· decide
 split;· decide
 decide
def serB (n:ByteArray) (m:List MT):ByteArray:=if m.length=0 then n else joinB (mkB []) [n,mkB [123],textM m,mkB [125]]
def wordsQ (a:Int) (n:ByteArray) (m:List MT) (b:List ByteArray):List ByteArray:=if b.length=0 then [nameN a,serB n m] else [nameN a,serB n m,mkB [98,121],joinB (mkB [44]) b]
def textQ (a:Int) (n:ByteArray) (m:List MT) (b:List ByteArray):ByteArray:=if rightQ a n m b=true then joinB (mkB [32]) (wordsQ a n m b) else NoB
theorem bl_ser (n:ByteArray) (m:List MT) (h:¬ m.length=0):bl (serB n m)=bl n++([123]++(bl (textM m)++[125])):=by
 unfold serB
 rw [if_neg h,joinB_cons]
 simp [tl_cons,Lib.joinTail,bl_mkB]
theorem ser_small {n:ByteArray} {m:List MT} (hn:nameL (bl n)=true) (h:rightM m=true):(bl (serB n m)).length≤140:=by
 have h1:=name_len _ hn
 have h2:=textM_small h
 by_cases h0:m.length=0
 ·unfold serB;rw [if_pos h0];omega
 ·rw [bl_ser n m h0];simp only [List.length_append,List.length_cons,List.length_nil];omega
theorem textQ_small (a:Int) (n:ByteArray) (m:List MT) (b:List ByteArray):(bl (textQ a n m b)).length≤600:=by
 unfold textQ
 by_cases h:rightQ a n m b=true
 ·rw [if_pos h]
  obtain ⟨_,hn,hm,hb⟩:=rightQ_parts h
  have h1:=nameN_small a
  have h2:=ser_small hn hm
  have h3:=by_small hb
  have:(wordsQ a n m b).length≤4∧∀ x∈wordsQ a n m b,x.size≤140:=by
   unfold wordsQ
   split
   ·refine ⟨by simp,fun x hx=>?_⟩
    simp only [List.mem_cons,List.not_mem_nil,or_false] at hx
    rw [← size_bl];rcases hx with rfl|rfl<;>omega
   ·refine ⟨by simp,fun x hx=>?_⟩
    simp only [List.mem_cons,List.not_mem_nil,or_false] at hx
    rw [← size_bl]
    rcases hx with rfl|rfl|rfl|rfl
    ·omega
    ·omega
    ·rw [bl_mkB];simp
    ·omega
  have:=joinB_small 32 140 (wordsQ a n m b) this.2 this.1
  omega
 ·rw [if_neg h];decide
theorem qtext_ev (a:Int) (n:ByteArray) (m:List MT) (b:List ByteArray) (hm:m.length≤1000000) (hb:b.length≤1000000):Ev (fun k=>query_Text.f k a n m b) (textQ a n m b):=by
 unfold query_Text.f
 refine Ev.bind (qright_ev a n m b hm hb) ?_
 have hsm:=textQ_small a n m b
 unfold textQ at hsm ⊢
 by_cases h:rightQ a n m b=true
 ·rw [if_pos h] at hsm ⊢
  refine Ev_if_pos h (Ev.bind (aggname_ev a) (Ev_bind0 rfl ?_))
  obtain ⟨_,hn,hr,hbn⟩:=rightQ_parts h
  have hs:=ser_small hn hr
  have hby:=by_small hbn
  have hj0:∀ c,c=serB n m→Ev (fun k=>query_Text.j0 k [nameN a,c] a n m b) (joinB (mkB [32]) (wordsQ a n m b)):=by
   rintro c rfl
   refine Ev_succ ?_
   simp only [query_Text.j0]
   unfold wordsQ at hsm ⊢
   by_cases h0:b.length=0
   ·rw [if_pos h0] at hsm ⊢
    exact Ev_if_neg (by omega) (Ev_bind0 (f:=fun _ t=>some t) (join_f (mkB [32]) [nameN a,serB n m] (by simp) (by omega)) (Ev.now _))
   ·rw [if_neg h0] at hsm ⊢
    refine Ev_if_pos (by omega) (Ev_bind0 (join_f (mkB [44]) b hb (by omega)) (Ev_bind0 rfl (Ev_if_pos (by simp) ?_)))
    exact Ev_bind0 (f:=fun _ t=>some t) (join_f (mkB [32]) [nameN a,serB n m,mkB [98,121],joinB (mkB [44]) b] (by simp) (by omega)) (Ev.now _)
  by_cases h0:m.length=0
  ·exact Ev_if_neg (by omega) (hj0 n (by unfold serB;rw [if_pos h0]))
  ·have e:serB n m=joinB (mkB []) [n,mkB [123],textM m,mkB [125]]:=by unfold serB;rw [if_neg h0]
   refine Ev_if_pos (by omega) (Ev.bind (textm_ev m (rightM_fit hr)) (Ev_bind0 (a:=serB n m) ?_ (Ev_if_pos (by simp) ?_)))
   ·rw [e]
    exact join_f (mkB []) [n,mkB [123],textM m,mkB [125]] (by simp) (by rw [← e];omega)
   ·exact hj0 (serB n m) rfl
 ·rw [if_neg h];exact Ev_if_neg h (Ev.now _)
abbrev RQ:=Int×Int×ByteArray×List MT×List ByteArray
abbrev QQ:=Int×ByteArray×List MT×List ByteArray×Int
def seriesQ (s:ByteArray):Int×ByteArray×List MT:=if (cutK s).2.2=true then (if nameL (bl (cutK s).1)=true then ((parseM (cutK s).2.1).2,(cutK s).1,(parseM (cutK s).2.1).1) else (2,NoB,[])) else (2,NoB,[])
def partsQ:Option ByteArray→List ByteArray
 | none=>[]
 | some x=>splitB 44 x
def bad2 (e:Int):RQ:=(e,0,NoB,[],[])
def rd1Q (x0 x1:ByteArray) (o:Option ByteArray):RQ:=if aggN x0=0 then bad2 2 else if (seriesQ x1).1=0 then (namesS (partsQ o),aggN x0,(seriesQ x1).2.1,(seriesQ x1).2.2,partsQ o) else bad2 (seriesQ x1).1
def rdQ:List ByteArray→RQ
 | [x0,x1]=>rd1Q x0 x1 none
 | [x0,x1,x2,x3]=>if bl x2=[98,121] then rd1Q x0 x1 (some x3) else bad2 2
 | _=>bad2 2
def finQ (r:RQ):QQ:=if r.1=0 then (r.2.1,r.2.2.1,r.2.2.2.1,r.2.2.2.2,0) else (0,NoB,[],[],r.1)
def parseQ (s:ByteArray):QQ:=finQ (rdQ (fieldsB s))
theorem sn_ev (hd inn:ByteArray) (hs:inn.size≤100000):Ev (fun k=>query_Parse.sn k hd inn) (if nameL (bl hd)=true then ((parseM inn).2,hd,(parseM inn).1) else (2,NoB,[])):=by
 unfold query_Parse.sn
 refine Ev_bind0 (name_f hd) ?_
 refine Ev_if (fun _=>Ev.bind (parsem_ev inn hs) (Ev.now _)) (fun _=>Ev.now _)
theorem sr_ev (s:ByteArray) (hs:s.size≤100000):Ev (fun k=>query_Parse.sr k s) (seriesQ s):=by
 have hc:=cut_size 123 s
 unfold query_Parse.sr seriesQ cutK
 refine Ev_bind0 (cut_f 123 s (by omega)) ?_
 by_cases h1:(cutB 123 s).2.2=true
 ·rw [if_pos h1]
  refine Ev_if_pos h1 (Ev_bind0 (suffix_f _ (by omega)) ?_)
  by_cases h2:endsL (bl (cutB 123 s).2.1)=true
  ·rw [if_pos h2,if_pos h2]
   refine Ev_if_pos rfl ?_
   rw [toList_bl,bl_mkB]
   by_cases h3:(bl (cutB 123 s).2.1).dropLast=[]
   ·rw [if_pos h3];exact Ev_if_pos h3 (Ev.now _)
   ·rw [if_neg h3]
    refine Ev_if_neg h3 ?_
    have hd:=dropLast_size (cutB 123 s).2.1
    exact sn_ev (cutB 123 s).1 (mkB (bl (cutB 123 s).2.1).dropLast) (by omega)
  ·rw [if_neg h2,if_neg h2]
   exact Ev_if_neg (by simp) (Ev.now _)
 ·rw [if_neg h1]
  refine Ev_if_neg h1 ?_
  have e:(cutB 123 s).1=s∧(cutB 123 s).2.1=NoB:=by
   unfold cutB at h1 ⊢
   split
   ·exact ⟨rfl,rfl⟩
   ·next h=>rw [if_neg h] at h1;exact absurd rfl h1
  rw [e.1,e.2]
  exact sn_ev s NoB (by decide)
theorem rd1_ev (x0 x1:ByteArray) (o:Option ByteArray) (h1:x1.size≤100000) (ho:∀ x,o=some x→x.size≤100000):Ev (fun k=>query_Parse.rd1 k x0 x1 o) (rd1Q x0 x1 o):=by
 unfold query_Parse.rd1 rd1Q
 refine Ev_bind0 (agg_f x0) ?_
 refine Ev_if (fun _=>Ev.now _) (fun _=>Ev.bind (sr_ev x1 h1) (Ev_if (fun _=>?_) (fun _=>Ev.now _)))
 have hp:Ev (fun k=>query_Parse.parts k o) (partsQ o)∧(partsQ o).length≤1000000:=by
  cases o with
  | none=>exact ⟨Ev.now _,by simp [partsQ]⟩
  | some x=>exact ⟨split_ev 44 x (by have:=ho x rfl;omega),by have:=splitB_len 44 x;have:=ho x rfl;show (splitB 44 x).length≤_;omega⟩
 exact Ev.bind hp.1 (Ev.bind (names_ev _ hp.2) (Ev.now _))
theorem rd_ev (l:List ByteArray) (hl:∀ x∈l,x.size≤100000):Ev (fun k=>query_Parse.rd k l) (rdQ l):=by
 match l,hl with
 | [x0,x1],hl=>exact rd1_ev x0 x1 none (hl x1 (by simp)) (fun x h=>by cases h)
 | [x0,x1,x2,x3],hl =>
  show Ev (fun k=>if x2.toList=([98,121]:List UInt8) then query_Parse.rd1 k x0 x1 (some x3) else some (2,0,⟨#[]⟩,[],[])) (if bl x2=[98,121] then rd1Q x0 x1 (some x3) else bad2 2)
  rw [toList_bl]
  exact Ev_if (fun _=>rd1_ev x0 x1 (some x3) (hl x1 (by simp)) (fun x h=>by cases h;exact hl x3 (by simp))) (fun _=>Ev.now _)
 | [],_=>exact Ev.now _
 | [_],_=>exact Ev.now _
 | [_,_,_],_=>exact Ev.now _
 | _ ::_ ::_ ::_ ::_ ::_,_=>exact Ev.now _
theorem qparse_ev (s:ByteArray) (hs:s.size≤100000):Ev (fun k=>query_Parse.f k s) (parseQ s):=by
 unfold query_Parse.f parseQ finQ
 refine Ev.bind (fields_ev s (by omega)) (Ev.bind (rd_ev _ (fun x hx=>by have:=fields_size s x hx;omega)) ?_)
 exact Ev_if (fun _=>Ev.now _) (fun _=>Ev.now _)
end Go.Proofs.YteaadaaghhojfaaGreatDoor.Pure
