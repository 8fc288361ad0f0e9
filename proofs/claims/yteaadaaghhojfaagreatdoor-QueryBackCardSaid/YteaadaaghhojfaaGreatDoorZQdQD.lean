import Derived.Test.YteaadaaghhojfaaGreatDoorZQdPQux4
import Derived.Test.YteaadaaghhojfaaGreatDoorZQdPQux13
import Derived.Test.YteaadaaghhojfaaGreatDoorZQdPQux8
import Derived.Test.YteaadaaghhojfaaGreatDoorZQdPQux3
import Derived.Test.YteaadaaghhojfaaGreatDoorZQdPQux17
import Derived.Test.YteaadaaghhojfaaGreatDoorZQdPQux9
import Derived.Test.YteaadaaghhojfaaGreatDoorZQdPQux11
import Derived.Test.YteaadaaghhojfaaGreatDoorZQdPQux15
import Derived.Test.YteaadaaghhojfaaGreatDoorZQdPQux10
import Derived.Test.YteaadaaghhojfaaGreatDoorZQdPQux19
import Derived.Test.YteaadaaghhojfaaGreatDoorZQdPQux20
import Derived.Test.YteaadaaghhojfaaGreatDoorZQdPQux12
import Derived.Test.YteaadaaghhojfaaGreatDoorZQdQC
namespace Go.Proofs.YteaadaaghhojfaaGreatDoor.Pure
open Go.RowKit Go.Proofs.YteaadaaghhojfaaGreatDoor.PQu Go.Proofs.YteaadaaghhojfaaGreatDoorW.PrintWords Go.Proofs.YteaadaaghhojfaaGreatDoorW.PrintLast Go.Proofs.YteaadaaghhojfaaGreatDoorW.PrintMore Go.Proofs.YteaadaaghhojfaaGreatDoorW.XP Go.Proofs.YteaadaaghhojfaaGreatDoorW.XW
set_option linter.unusedVariables false
set_option linter.unusedSimpArgs false
def nameB (x:ByteArray):Bool:=nameL (bl x)
def namesS (l:List ByteArray):Int:=if l.all nameB=true then (if 4<l.length then 4 else if l.Nodup then 0 else 5) else 2
theorem sorted_pair (ts:List (List UInt8)):(Go.Proofs.YteaadaaghhojfaaGreatDoorW.SV.sortedT ts).Pairwise (fun a b=>a≤b):=by
 have:=List.pairwise_mergeSort (le:=fun x y:List UInt8=>decide (x≤y)) (fun a b c h1 h2=>by
  simp only [decide_eq_true_eq] at h1 h2 ⊢;exact List.le_trans h1 h2) (fun a b=>by
  simp only [Bool.or_eq_true,decide_eq_true_eq];exact List.le_total a b) ts
 exact this.imp (fun h=>by simpa using h)
theorem compact_dup (ts:List (List UInt8)):(Lib.compact (Go.Proofs.YteaadaaghhojfaaGreatDoorW.SV.sortedT ts)).length<ts.length↔¬ ts.Nodup:=by
 have hlen:(Go.Proofs.YteaadaaghhojfaaGreatDoorW.SV.sortedT ts).length=ts.length:=List.length_mergeSort ts
 have hperm:(Go.Proofs.YteaadaaghhojfaaGreatDoorW.SV.sortedT ts).Perm ts:=List.mergeSort_perm ts _
 have hpw:=List.pairwise_iff_getElem.1 (sorted_pair ts)
 rw [← hperm.nodup_iff]
 generalize Go.Proofs.YteaadaaghhojfaaGreatDoorW.SV.sortedT ts=z at hlen hpw
 have hget:∀ j,(h:j<z.length)→z.toArray[j]! = z[j]:=fun j h=>by simp [getElem!_pos,h]
 constructor
 ·intro h hn
  rw [Lib.compact_all z (fun j hj=>?_)] at h
  ·omega
  ·by_cases h0:j=0
   ·subst h0;exact Lib.keeps_lt_one _ 0 (by omega)
   ·refine Lib.keeps_pos ?_
    rw [hget j hj,hget (j - 1) (by omega)]
    intro e
    exact List.pairwise_iff_getElem.1 hn (j - 1) j (by omega) hj (by omega) e.symm
 ·intro hn
  have hle:=Lib.compact_length_le z
  refine Classical.byContradiction fun hge=>hn ?_
  have heq:(Lib.compact z).length=z.length:=by omega
  unfold Lib.compact Lib.compactUpTo at heq
  rw [List.length_map] at heq
  have hall:∀ j,j<z.length→Lib.keeps z.toArray j=true:=by
   have h1:=List.length_filter_eq_length_iff (p:=Lib.keeps z.toArray) (l:=List.range z.length)
   rw [List.length_range] at h1
   exact fun j hj=>h1.1 heq j (List.mem_range.2 hj)
  have hadj:∀ j,(h:j+1<z.length)→z[j]≠z[j+1]:=by
   intro j h e
   have:=hall (j+1) h
   rw [Lib.keeps_neg (by omega) (by rw [hget (j+1) h,show j+1 - 1=j from rfl,hget j (by omega)];exact e.symm)] at this
   cases this
  refine List.pairwise_iff_getElem.2 (fun i j hi hj hij e=>?_)
  have h1:=hpw i (i+1) (by omega) (by omega) (by omega)
  refine hadj i (by omega) (List.le_antisymm h1 ?_)
  by_cases h2:i+1=j
  ·subst h2;rw [e];exact List.le_refl _
  ·rw [e];exact hpw (i+1) j (by omega) hj (by omega)
theorem badn_loop (l:List ByteArray) (hl:l.length≤1000000):∀ (d i:Nat),i+d=l.length→∃ r:Int,Ev (fun k=>slices_IndexFunc_string_by_query_names_1.l0 k l (l.length:Int) (i:Int)) r∧(0≤r↔¬ (l.drop i).all nameB=true)
 | 0,i,hd=>by
  refine ⟨-1,Ev.step (f:=fun _=>some (-1)) (fun k=>?_) (Ev.now _),?_⟩
  ·simp only [slices_IndexFunc_string_by_query_names_1.l0];rw [if_neg (by omega)]
  ·rw [List.drop_of_length_le (by omega)];simp
 | d+1,i,hd=>by
  have hi:i<l.length:=by omega
  obtain ⟨r,h1,h2⟩:=badn_loop l hl d (i+1) (by omega)
  rw [drop_cons l i hi,List.all_cons]
  have hst:∀ k,slices_IndexFunc_string_by_query_names_1.l0 (k+1) l (l.length:Int) (i:Int)=if nameB l[i]=true then slices_IndexFunc_string_by_query_names_1.l0 k l (l.length:Int) ((i+1:Nat):Int) else some (i:Int):=by
   intro k
   simp only [slices_IndexFunc_string_by_query_names_1.l0]
   rw [if_pos (by omega),if_pos (by omega),if_pos (by omega),rdOf_lt _ l i hi,query_names_1.f,name_f,wrap_up i (by omega)]
   simp only [Option.bind_some]
   unfold nameB
   cases nameL (bl l[i])<;>simp
  cases hm:nameB l[i] with
  | true=>exact ⟨r,Ev.step (fun k=>hst k) (Ev_if_pos hm h1),by simpa using h2⟩
  | false=>exact ⟨i,Ev.step (fun k=>hst k) (Ev_if_neg (by simp [hm]) (Ev.now _)),by simp⟩
theorem names_ev (l:List ByteArray) (hl:l.length≤1000000):Ev (fun k=>query_names.f k l) (namesS l):=by
 unfold query_names.f
 refine Ev_if_pos (by omega) ?_
 unfold slices_ContainsFunc_string_by_query_names_1.f slices_IndexFunc_string_by_query_names_1.f
 obtain ⟨r,h1,h2⟩:=badn_loop l hl l.length 0 (by omega)
 rw [List.drop_zero] at h2
 refine Ev.bind (Ev.bind h1 (Ev.now _)) ?_
 cases ha:l.all nameB with
 | false =>
  have hN:namesS l=2:=by unfold namesS;rw [ha];rfl
  rw [ha] at h2
  rw [hN]
  exact Ev_if_pos (decide_eq_true (h2.2 (by simp))) (Ev.now _)
 | true =>
  have hN:namesS l=(if 4<l.length then 4 else if l.Nodup then 0 else 5):=by unfold namesS;exact if_pos ha
  rw [ha] at h2
  rw [hN]
  refine Ev_if_neg (by rw [decide_eq_true_eq];exact fun h0=>(h2.1 h0) rfl) ?_
  by_cases h4:4<l.length
  ·rw [if_pos h4];exact Ev_if_pos (by omega) (Ev.now _)
  ·rw [if_neg h4]
   refine Ev_if_neg (by omega) ?_
   have hd:(Lib.compact (Go.Proofs.YteaadaaghhojfaaGreatDoorW.SV.sortedT (query_names.texts l))).length<l.length↔¬ l.Nodup:=by
    have:=compact_dup (query_names.texts l)
    rw [show (query_names.texts l).length=l.length from List.length_map ..] at this
    rw [this]
    refine not_congr ?_
    show (l.map bl).Nodup↔_
    exact ⟨fun h=>List.Pairwise.of_map bl (fun a b hab e=>hab (congrArg bl e)) h,fun h=>List.pairwise_map.2 (h.imp (fun hab e=>hab (bl_inj e)))⟩
   by_cases hn:l.Nodup
   ·rw [if_pos hn];exact Ev_if_neg (fun h=>(hd.1 h) hn) (Ev.now _)
   ·rw [if_neg hn];exact Ev_if_pos (hd.2 hn) (Ev.now _)
def hasB (l:List ByteArray) (x:ByteArray):Bool:=l.any fun y=>decide (y=x)
theorem hasB_iff (l:List ByteArray) (x:ByteArray):hasB l x=true↔x∈l:=by
 unfold hasB;rw [List.any_eq_true]
 exact ⟨fun ⟨y,hy,e⟩=>by rw [← of_decide_eq_true e];exact hy,fun h=>⟨x,h,decide_eq_true rfl⟩⟩
def noDup:List ByteArray→List ByteArray→Bool
 | _,[]=>true
 | pre,x ::r => !(hasB pre x) && noDup (pre++[x]) r
theorem noDup_iff:∀ (r pre:List ByteArray),pre.Nodup→(noDup pre r=true↔(pre++r).Nodup)
 | [],pre,h=>by simp [noDup,h]
 | x ::r,pre,h=>by
  rw [noDup,Bool.and_eq_true,Bool.not_eq_true',← Bool.not_eq_true,hasB_iff]
  by_cases hx:x∈pre
  ·constructor
   ·exact fun h2=>absurd hx h2.1
   ·intro h2
    rw [List.nodup_append] at h2
    exact absurd rfl (h2.2.2 x hx x (by simp))
  ·have hn:(pre++[x]).Nodup:=by rw [List.nodup_append];exact ⟨h,by simp,fun a ha b hb e=>hx (by simp at hb;rw [← hb,← e];exact ha)⟩
   rw [noDup_iff r (pre++[x]) hn,List.append_assoc,List.singleton_append]
   exact ⟨fun h2=>h2.2,fun h2=>⟨hx,h2⟩⟩
theorem rnames_in (l:List ByteArray) (hl:l.length≤1000000) (i:Nat) (hi:i<l.length) (v:Int) (hv:Ev (fun k=>ebbtideref07_names.l1 k l ((i+1:Nat):Int)) v):∀ (d j:Nat),j+d=i →
  Ev (fun k=>ebbtideref07_names.l2 k l (i:Int) (j:Int)) (if hasB ((l.take i).drop j) l[i]=true then 5 else v)
 | 0,j,hd=>by
  rw [List.drop_of_length_le (by rw [List.length_take];omega),show hasB [] l[i]=false from rfl,if_neg (by simp)]
  refine Ev.step (fun k=>?_) hv
  simp only [ebbtideref07_names.l2]
  rw [if_neg (by omega),wrap_up i (by omega)]
 | d+1,j,hd=>by
  have hj:j<l.length:=by omega
  have ih:=rnames_in l hl i hi v hv d (j+1) (by omega)
  have hjt:j<(l.take i).length:=by rw [List.length_take];omega
  rw [drop_cons (l.take i) j hjt,List.getElem_take]
  refine Ev.step (f:=fun k=>if l[j].toList=l[i].toList then some 5 else ebbtideref07_names.l2 k l (i:Int) ((j+1:Nat):Int)) (fun k=>?_) ?_
  ·simp only [ebbtideref07_names.l2]
   rw [if_pos (by omega),if_pos (by omega),if_pos (by omega),if_pos (by omega),if_pos (by omega),rdOf_lt _ l j hj,rdOf_lt _ l i hi,wrap_up j (by omega)]
  ·have e:hasB (l[j] ::(l.take i).drop (j+1)) l[i]=(decide (l[j]=l[i]) || hasB ((l.take i).drop (j+1)) l[i]):=rfl
   rw [e]
   by_cases h:l[j]=l[i]
   ·rw [decide_eq_true h,Bool.true_or];exact Ev_if_pos (by rw [h]) (Ev.now _)
   ·rw [decide_eq_false h,Bool.false_or];exact Ev_if_neg (fun e=>h ((ba_eq _ _).1 e)) ih
theorem rnames_dup (l:List ByteArray) (hl:l.length≤1000000):∀ (d i:Nat),i+d=l.length→Ev (fun k=>ebbtideref07_names.l1 k l (i:Int)) (if noDup (l.take i) (l.drop i)=true then 0 else 5)
 | 0,i,hd=>by
  rw [List.drop_of_length_le (by omega),noDup,if_pos rfl]
  refine Ev.step (f:=fun _=>some 0) (fun k=>?_) (Ev.now _)
  simp only [ebbtideref07_names.l1];rw [if_neg (by omega)]
 | d+1,i,hd=>by
  have hi:i<l.length:=by omega
  have ih:=rnames_dup l hl d (i+1) (by omega)
  have h2:=rnames_in l hl i hi _ ih i 0 (by omega)
  rw [List.drop_zero] at h2
  rw [drop_cons l i hi,noDup]
  refine Ev.step (f:=fun k=>ebbtideref07_names.l2 k l (i:Int) 0) (fun k=>?_) ?_
  ·simp only [ebbtideref07_names.l1];rw [if_pos (by omega)]
  ·rw [show l.take (i+1)=l.take i++[l[i]] by rw [List.take_succ_eq_append_getElem hi]] at h2
   cases h:hasB (l.take i) l[i] with
   | true=>rw [h,if_pos rfl] at h2;rw [show (!true && noDup (l.take i++[l[i]]) (l.drop (i+1)))=false from rfl];exact h2
   | false=>rw [h,if_neg (by simp)] at h2;rw [Bool.not_false,Bool.true_and];exact h2
theorem rnames_loop (l:List ByteArray) (hl:l.length≤1000000):∀ (d i:Nat),i+d=l.length→Ev (fun k=>ebbtideref07_names.l0 k l (i:Int)) (if (l.drop i).all nameB=true then (if 4<l.length then 4 else if l.Nodup then 0 else 5) else 2)
 | 0,i,hd=>by
  rw [List.drop_of_length_le (by omega),List.all_nil,if_pos rfl]
  have h2:=rnames_dup l hl l.length 0 (by omega)
  rw [List.take_zero,List.drop_zero] at h2
  have h3:=noDup_iff l [] (by simp)
  rw [List.nil_append] at h3
  refine Ev.step (f:=fun k=>if (l.length:Int)>4 then some 4 else ebbtideref07_names.l1 k l 0) (fun k=>?_) ?_
  ·simp only [ebbtideref07_names.l0];rw [if_neg (by omega)]
  ·by_cases h4:4<l.length
   ·rw [if_pos h4];exact Ev_if_pos (by omega) (Ev.now _)
   ·rw [if_neg h4]
    refine Ev_if_neg (by omega) ?_
    by_cases hn:l.Nodup
    ·rw [if_pos hn];rw [if_pos (h3.2 hn)] at h2;exact h2
    ·rw [if_neg hn];rw [if_neg (fun h=>hn (h3.1 h))] at h2;exact h2
 | d+1,i,hd=>by
  have hi:i<l.length:=by omega
  have ih:=rnames_loop l hl d (i+1) (by omega)
  rw [drop_cons l i hi,List.all_cons]
  refine Ev.step (f:=fun k=>(ebbtideref02_Name.f k l[i]).bind fun t=>if t=true then ebbtideref07_names.l0 k l ((i+1:Nat):Int) else some 2) (fun k=>?_) (Ev.bind (rname_ev l[i]) ?_)
  ·simp only [ebbtideref07_names.l0]
   rw [if_pos (by omega),if_pos (by omega),rdOf_lt _ l i hi,wrap_up i (by omega)]
  ·cases h:nameL (bl l[i]) with
   | true=>refine Ev_if_pos rfl ?_;rw [show nameB l[i]=true from h,Bool.true_and];exact ih
   | false=>refine Ev_if_neg (by simp) ?_;rw [show nameB l[i]=false from h,Bool.false_and,if_neg (by simp)];exact Ev.now _
theorem rnames_ev (l:List ByteArray) (hl:l.length≤1000000):Ev (fun k=>ebbtideref07_names.f k l) (namesS l):=by
 unfold ebbtideref07_names.f namesS
 simpa using rnames_loop l hl l.length 0 (by omega)
theorem names_nil:namesS []=0:=by decide
def aggN (s:ByteArray):Int:=if bl s=[99,111,117,110,116] then 1 else if bl s=[115,117,109] then 2 else if bl s=[109,105,110] then 3 else if bl s=[109,97,120] then 4 else 0
def nameN (n:Int):ByteArray:=if n=1 then mkB [99,111,117,110,116] else if n=2 then mkB [115,117,109] else if n=3 then mkB [109,105,110] else if n=4 then mkB [109,97,120] else NoB
theorem agg_f (s:ByteArray):query_agg.f s=some (aggN s):=by
 unfold query_agg.f aggN
 rw [toList_bl]
 by_cases h1:bl s=[99,111,117,110,116]
 ·rw [if_pos h1,if_pos h1]
 rw [if_neg h1,if_neg h1]
 by_cases h2:bl s=[115,117,109]
 ·rw [if_pos h2,if_pos h2]
 rw [if_neg h2,if_neg h2]
 by_cases h3:bl s=[109,105,110]
 ·rw [if_pos h3,if_pos h3]
 rw [if_neg h3,if_neg h3]
 by_cases h4:bl s=[109,97,120]
 ·rw [if_pos h4,if_pos h4]
 rw [if_neg h4,if_neg h4]
theorem name_step (n:Int) (L:List ByteArray) (hL:L.length=4) (i:Nat) (hi:i<4) (m:Int) (x:ByteArray) (hx:L[i]'(by omega)=x) (hm:aggN x=m) (v:ByteArray) (h:Ev (fun k=>query_name.l0 k n L (L.length:Int) ((i+1:Nat):Int)) v):Ev (fun k=>query_name.l0 k n L (L.length:Int) (i:Int)) (if n=m then x else v):=by
 refine Ev.step (f:=fun k=>if n=m then some x else query_name.l0 k n L (L.length:Int) ((i+1:Nat):Int)) (fun k=>?_) (Ev_if (fun _=>Ev.now _) (fun _=>h))
 simp only [query_name.l0]
 rw [if_pos (by omega),if_pos (by omega),if_pos (by omega),rdOf_lt _ L i (by omega),hx,agg_f,hm,wrap_up i (by omega)]
 simp only [Option.bind_some]
 by_cases h2:n=m
 ·rw [if_pos h2,if_pos h2.symm]
 ·rw [if_neg h2,if_neg (fun e=>h2 e.symm)]
theorem aggname_ev (n:Int):Ev (fun k=>query_name.f k n) (nameN n):=by
 unfold query_name.f
 refine Ev_bind0 rfl ?_
 generalize hL:([(⟨#[99,111,117,110,116]⟩:ByteArray),(⟨#[115,117,109]⟩:ByteArray),(⟨#[109,105,110]⟩:ByteArray),(⟨#[109,97,120]⟩:ByteArray)]:List ByteArray)=L
 have h4:L.length=4:=by rw [← hL];rfl
 have e0:Ev (fun k=>query_name.l0 k n L (L.length:Int) ((3+1:Nat):Int)) NoB:=by
  refine Ev.step (f:=fun _=>some NoB) (fun k=>?_) (Ev.now _)
  simp only [query_name.l0];rw [if_neg (by omega)]
 have e4:=name_step n L h4 3 (by omega) 4 (mkB [109,97,120]) (by subst hL;rfl) (by decide) NoB e0
 have e3:=name_step n L h4 2 (by omega) 3 (mkB [109,105,110]) (by subst hL;rfl) (by decide) _ e4
 have e2:=name_step n L h4 1 (by omega) 2 (mkB [115,117,109]) (by subst hL;rfl) (by decide) _ e3
 exact name_step n L h4 0 (by omega) 1 (mkB [99,111,117,110,116]) (by subst hL;rfl) (by decide) _ e2
theorem nameN_nil (n:Int):bl (nameN n)=[]↔¬ (1≤n∧n≤4):=by
 unfold nameN
 by_cases h1:n=1
 ·rw [if_pos h1,bl_mkB];simp;omega
 rw [if_neg h1]
 by_cases h2:n=2
 ·rw [if_pos h2,bl_mkB];simp;omega
 rw [if_neg h2]
 by_cases h3:n=3
 ·rw [if_pos h3,bl_mkB];simp;omega
 rw [if_neg h3]
 by_cases h4:n=4
 ·rw [if_pos h4,bl_mkB];simp;omega
 rw [if_neg h4]
 exact ⟨fun _=>by omega,fun _=>rfl⟩
theorem agg_name (n:Int) (h1:1≤n) (h2:n≤4):aggN (nameN n)=n:=by
 have:n=1∨n=2∨n=3∨n=4:=by omega
 rcases this with rfl|rfl|rfl|rfl<;>decide
theorem agg_range (s:ByteArray):aggN s=0∨(1≤aggN s∧aggN s≤4∧nameN (aggN s)=s):=by
 unfold aggN
 by_cases h1:bl s=[99,111,117,110,116]
 ·rw [if_pos h1];exact .inr ⟨by decide,by decide,bl_inj (by rw [h1];rfl)⟩
 rw [if_neg h1]
 by_cases h2:bl s=[115,117,109]
 ·rw [if_pos h2];exact .inr ⟨by decide,by decide,bl_inj (by rw [h2];rfl)⟩
 rw [if_neg h2]
 by_cases h3:bl s=[109,105,110]
 ·rw [if_pos h3];exact .inr ⟨by decide,by decide,bl_inj (by rw [h3];rfl)⟩
 rw [if_neg h3]
 by_cases h4:bl s=[109,97,120]
 ·rw [if_pos h4];exact .inr ⟨by decide,by decide,bl_inj (by rw [h4];rfl)⟩
 rw [if_neg h4];exact .inl rfl
def rightQ (a:Int) (n:ByteArray) (m:List MT) (b:List ByteArray):Bool:=(decide (1≤a) && decide (a≤4)) && (nameL (bl n) && (rightM m && decide (namesS b=0)))
theorem qright_ev (a:Int) (n:ByteArray) (m:List MT) (b:List ByteArray) (hm:m.length≤1000000) (hb:b.length≤1000000):Ev (fun k=>query_Right.f k a n m b) (rightQ a n m b):=by
 unfold query_Right.f rightQ
 refine Ev.bind (aggname_ev a) ?_
 rw [toList_bl]
 by_cases h:1≤a∧a≤4
 ·refine Ev_if_neg (fun e=>(nameN_nil a).1 e h) (Ev_bind0 (name_f n) ?_)
  rw [decide_eq_true h.1,decide_eq_true h.2,Bool.true_and,Bool.true_and]
  cases nameL (bl n) with
  | false=>exact Ev_if_neg (by simp) (Ev.now _)
  | true =>
   refine Ev_if_pos rfl (Ev.bind (rightm_ev m hm) ?_)
   rw [Bool.true_and]
   cases rightM m with
   | false=>exact Ev_if_neg (by simp) (Ev.now _)
   | true=>exact Ev_if_pos rfl (Ev.bind (names_ev b hb) (Ev_const (by rw [Bool.true_and];rfl)))
 ·rw [show (decide (1≤a) && decide (a≤4))=false by rw [Bool.and_eq_false_iff,decide_eq_false_iff_not,decide_eq_false_iff_not];omega,Bool.false_and]
  exact Ev_if_pos ((nameN_nil a).2 h) (Ev.now _)
theorem rqright_ev (a:Int) (n:ByteArray) (m:List MT) (b:List ByteArray) (hm:m.length≤1000000) (hb:b.length≤1000000):Ev (fun k=>ebbtideref07_Right.f k a n m b) (rightQ a n m b):=by
 unfold ebbtideref07_Right.f rightQ
 by_cases h1:a≥1
 ·by_cases h2:a≤4
  ·refine Ev_if_pos h1 (Ev_if_pos h2 (Ev.bind (rname_ev n) ?_))
   rw [decide_eq_true h1,decide_eq_true h2,Bool.true_and,Bool.true_and]
   cases nameL (bl n) with
   | false=>exact Ev_if_neg (by simp) (Ev.now _)
   | true =>
    refine Ev_if_pos rfl (Ev.bind (rrightm_ev m hm) ?_)
    rw [Bool.true_and]
    cases rightM m with
    | false=>exact Ev_if_neg (by simp) (Ev.now _)
    | true=>exact Ev_if_pos rfl (Ev.bind (rnames_ev b hb) (Ev_const (by rw [Bool.true_and];rfl)))
  ·rw [decide_eq_false h2,Bool.and_false,Bool.false_and];exact Ev_if_pos h1 (Ev_if_neg h2 (Ev.now _))
 ·rw [decide_eq_false h1,Bool.false_and,Bool.false_and];exact Ev_if_neg h1 (Ev.now _)
def sameQ (a:Int) (n:ByteArray) (m:List MT) (b:List ByteArray) (a2:Int) (n2:ByteArray) (m2:List MT) (b2:List ByteArray):Bool:=decide (a=a2) && (decide (n=n2) && (sameM m m2 && decide (b=b2)))
theorem sameQ_iff (a:Int) (n:ByteArray) (m:List MT) (b:List ByteArray) (a2:Int) (n2:ByteArray) (m2:List MT) (b2:List ByteArray):sameQ a n m b a2 n2 m2 b2=true↔a=a2∧n=n2∧m=m2∧b=b2:=by
 unfold sameQ;rw [Bool.and_eq_true,Bool.and_eq_true,Bool.and_eq_true,sameM_iff,decide_eq_true_eq,decide_eq_true_eq,decide_eq_true_eq]
theorem sameQ_refl (a:Int) (n:ByteArray) (m:List MT) (b:List ByteArray):sameQ a n m b a n m b=true:=(sameQ_iff ..).2 ⟨rfl,rfl,rfl,rfl⟩
theorem qsame_ev (a:Int) (n:ByteArray) (m:List MT) (b:List ByteArray) (a2:Int) (n2:ByteArray) (m2:List MT) (b2:List ByteArray) (hm:m.length≤1000000) (hb:b.length≤1000000):Ev (fun k=>query_Same.f k a n m b a2 n2 m2 b2) (sameQ a n m b a2 n2 m2 b2):=by
 unfold query_Same.f sameQ
 by_cases h1:a=a2
 ·refine Ev_if_pos h1 ?_
  rw [decide_eq_true h1,Bool.true_and]
  by_cases h2:n=n2
  ·refine Ev_if_pos (by rw [h2]) (Ev.bind (eqm_ev m m2 (by omega)) ?_)
   rw [decide_eq_true h2,Bool.true_and]
   cases sameM m m2 with
   | false=>exact Ev_if_neg (by simp) (Ev.now _)
   | true=>exact Ev_if_pos rfl (Ev.bind (eqs_ev b b2 (by omega)) (by rw [Bool.true_and];exact Ev.now _))
  ·rw [decide_eq_false h2,Bool.false_and];exact Ev_if_neg (fun e=>h2 ((ba_eq _ _).1 e)) (Ev.now _)
 ·rw [decide_eq_false h1,Bool.false_and];exact Ev_if_neg h1 (Ev.now _)
theorem rqsame_ev (a:Int) (n:ByteArray) (m:List MT) (b:List ByteArray) (a2:Int) (n2:ByteArray) (m2:List MT) (b2:List ByteArray) (hm:m.length≤1000000) (hb:b.length≤1000000):Ev (fun k=>ebbtideref07_Same.f k a n m b a2 n2 m2 b2) (sameQ a n m b a2 n2 m2 b2):=by
 unfold ebbtideref07_Same.f sameQ
 by_cases h1:a=a2
 ·refine Ev_if_pos h1 ?_
  rw [decide_eq_true h1,Bool.true_and]
  by_cases h2:n=n2
  ·refine Ev_if_pos (by rw [h2]) (Ev.bind (reqm_ev m m2 (by omega)) ?_)
   rw [decide_eq_true h2,Bool.true_and]
   cases sameM m m2 with
   | false=>exact Ev_if_neg (by simp) (Ev.now _)
   | true=>exact Ev_if_pos rfl (Ev.bind (reqs_ev b b2 (by omega)) (by rw [Bool.true_and];exact Ev.now _))
  ·rw [decide_eq_false h2,Bool.false_and];exact Ev_if_neg (fun e=>h2 ((ba_eq _ _).1 e)) (Ev.now _)
 ·rw [decide_eq_false h1,Bool.false_and];exact Ev_if_neg h1 (Ev.now _)
def fitsQ (n:ByteArray) (m:List MT) (kn:ByteArray) (tags:List TG):Bool:=decide (kn=n) && fitsM tags m
theorem qfits_ev (a:Int) (n:ByteArray) (m:List MT) (b:List ByteArray) (kn:ByteArray) (tags:List TG) (hm:m.length≤1000000) (ht:tags.length≤100000000):Ev (fun k=>query_Fits.f k a n m b kn tags) (fitsQ n m kn tags)∧Ev (fun k=>ebbtideref07_Fits.f k a n m b kn tags) (fitsQ n m kn tags):=by
 unfold query_Fits.f ebbtideref07_Fits.f fitsQ
 by_cases h:kn=n
 ·rw [decide_eq_true h,Bool.true_and]
  exact ⟨Ev_if_pos (by rw [h]) (Ev.bind (fits_ev tags m ht hm) (Ev.now _)),Ev_if_pos (by rw [h]) (Ev.bind (rfits_ev tags m ht hm) (Ev.now _))⟩
 ·rw [decide_eq_false h,Bool.false_and]
  exact ⟨Ev_if_neg (fun e=>h ((ba_eq _ _).1 e)) (Ev.now _),Ev_if_neg (fun e=>h ((ba_eq _ _).1 e)) (Ev.now _)⟩
def groupQ (b:List ByteArray) (tags:List TG):ByteArray:=textT (onlyT tags b)
theorem only_fit {b:List ByteArray} {tags:List TG} (h:Fit tags):Fit (onlyT tags b):=⟨Nat.le_trans (List.length_filter_le _ _) h.1,fun t ht=>h.2 t (List.mem_filter.1 ht).1⟩
theorem qgroup_ev (a:Int) (n:ByteArray) (m:List MT) (b:List ByteArray) (kn:ByteArray) (tags:List TG) (hb:b.length≤1000000) (ht:Fit tags):Ev (fun k=>query_Group.f k a n m b kn tags) (groupQ b tags)∧Ev (fun k=>ebbtideref07_Group.f k a n m b kn tags) (groupQ b tags):=by
 unfold query_Group.f ebbtideref07_Group.f groupQ
 have:=ht.1
 exact ⟨Ev.bind (only_ev tags b (by omega) hb) (Ev.bind (text_ev _ (only_fit ht)) (Ev.now _)),Ev.bind (ronly_ev tags b (by omega) hb) (Ev.bind (rtext_ev _ (only_fit ht)) (Ev.now _))⟩
def greatQ (n:ByteArray) (m:List MT) (b:List ByteArray):Bool:=decide (200<n.size) || (greatM m || (decide (20<b.length) || b.any fun x=>decide (100<x.size)))
theorem greatq_loop (a:Int) (n:ByteArray) (m:List MT) (b:List ByteArray) (hb:b.length≤20):∀ (d i:Nat),i+d=b.length→Ev (fun k=>ebbtideref07_Great.l0 k (i:Int) a n m b) ((b.drop i).any fun x=>decide (100<x.size))
 | 0,i,hd=>by
  refine Ev.step (f:=fun _=>some false) (fun k=>?_) (by rw [List.drop_of_length_le (by omega)];exact Ev.now _)
  simp only [ebbtideref07_Great.l0];rw [if_neg (by omega)]
 | d+1,i,hd=>by
  have hi:i<b.length:=by omega
  rw [drop_cons b i hi,List.any_cons]
  have ih:=greatq_loop a n m b hb d (i+1) (by omega)
  refine Ev.step (f:=fun k=>if (b[i].size:Int)>100 then some true else ebbtideref07_Great.l0 k ((i+1:Nat):Int) a n m b) (fun k=>?_) ?_
  ·simp only [ebbtideref07_Great.l0]
   rw [if_pos (by omega),if_pos (by omega),rdOf_lt _ b i hi,wrap_up i (by omega)]
  ·by_cases h:b[i].size>100
   ·rw [decide_eq_true h,Bool.true_or];exact Ev_if_pos (by omega) (Ev.now _)
   ·rw [decide_eq_false h,Bool.false_or];exact Ev_if_neg (by omega) ih
theorem greatq_ev (a:Int) (n:ByteArray) (m:List MT) (b:List ByteArray):Ev (fun k=>ebbtideref07_Great.f k a n m b) (greatQ n m b):=by
 have ht:Ev (fun k=>ebbtideref07_Great.j0 k true a n m b) true:=Ev.step (f:=fun _=>some true) (fun k=>by simp [ebbtideref07_Great.j0]) (Ev.now _)
 unfold ebbtideref07_Great.f greatQ
 by_cases h:n.size>200
 ·rw [decide_eq_true h,Bool.true_or];exact Ev_if_pos (by omega) ht
 ·rw [decide_eq_false h,Bool.false_or]
  refine Ev_if_neg (by omega) (Ev.bind (greatm_ev m) ?_)
  cases greatM m with
  | true=>exact Ev_if_pos rfl ht
  | false =>
   refine Ev_if_neg (by simp) ?_
   rw [Bool.false_or]
   by_cases h2:20<b.length
   ·rw [decide_eq_true h2,Bool.true_or,decide_eq_true (show (b.length:Int)>20 by omega)];exact ht
   ·rw [decide_eq_false h2,Bool.false_or,decide_eq_false (show ¬ (b.length:Int)>20 by omega)]
    refine Ev_succ ?_
    simp only [ebbtideref07_Great.j0]
    exact Ev_if_neg (by simp) (by simpa using greatq_loop a n m b (by omega) b.length 0 (by omega))
theorem not_greatQ {n:ByteArray} {m:List MT} {b:List ByteArray} (h:greatQ n m b=false):n.size≤200∧(m.length≤20∧∀ t∈m,t.f1.size≤100∧t.f2.size≤100)∧b.length≤20∧∀ x∈b,x.size≤100:=by
 unfold greatQ at h
 simp only [Bool.or_eq_false_iff,decide_eq_false_iff_not,List.any_eq_false] at h
 refine ⟨by omega,not_greatM h.2.1,by omega,fun x hx=>?_⟩
 have:=h.2.2.2 x hx
 simp only [decide_eq_true_eq] at this;omega
end Go.Proofs.YteaadaaghhojfaaGreatDoor.Pure
