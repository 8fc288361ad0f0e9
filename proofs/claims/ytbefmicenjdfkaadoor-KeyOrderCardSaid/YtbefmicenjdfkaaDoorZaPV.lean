import Derived.Test.YtbefmicenjdfkaaDoorZaPTkx9
import Derived.Test.YtbefmicenjdfkaaDoorZaPTkx3
import Derived.Test.YtbefmicenjdfkaaDoorZaPTkx11
import Derived.Test.YtbefmicenjdfkaaDoorZaPTkx4
import Derived.Test.YtbefmicenjdfkaaDoorZaPTkx8
import Derived.Test.YtbefmicenjdfkaaDoorZaPTkx7
import Derived.Test.YtbefmicenjdfkaaDoorZaPU
namespace Go.Proofs.YtbefmicenjdfkaaDoor.Pure
open Go.RowKit Go.Proofs.YtbefmicenjdfkaaDoor.PTk Go.Proofs.YtbefmicenjdfkaaDoorW.PrintWords Go.Proofs.YtbefmicenjdfkaaDoorW.PrintLast Go.Proofs.YtbefmicenjdfkaaDoorW.PrintMore Go.Proofs.YtbefmicenjdfkaaDoorW.XP Go.Proofs.YtbefmicenjdfkaaDoorW.XW
set_option linter.unusedVariables false
set_option linter.unusedSimpArgs false
def mkB (l:List UInt8):ByteArray:=⟨l.toArray⟩
theorem bl_mkB (l:List UInt8):bl (mkB l)=l:=rfl
theorem mkB_bl (s:ByteArray):mkB (bl s)=s:=rfl
theorem size_mkB (l:List UInt8):(mkB l).size=l.length:=by rw [← size_bl,bl_mkB]
def prT (t:TG):List UInt8×List UInt8:=(bl t.f0,bl t.f1)
theorem prT_inj {t u:TG} (h:prT t=prT u):t=u:=rev_eq (congrArg Prod.fst h) (congrArg Prod.snd h)
def sameT (a b:List TG):Bool:=decide (a.map prT=b.map prT)
theorem sameT_iff (a b:List TG):sameT a b=true↔a=b:=by
 unfold sameT
 rw [decide_eq_true_eq]
 exact ⟨fun h=>List.map_inj_right (fun _ _ h=>prT_inj h) |>.1 h,fun h=>by rw [h]⟩
theorem sameT_refl (a:List TG):sameT a a=true:=(sameT_iff a a).2 rfl
theorem ne_bool (t u:TG):(!((t.f0.toList) ==(u.f0.toList)) || (!((t.f1.toList) ==(u.f1.toList))))=decide (prT t≠prT u):=by
 rw [toList_bl,toList_bl,toList_bl,toList_bl,Bool.eq_iff_iff]
 unfold prT
 by_cases h0:bl t.f0=bl u.f0<;>by_cases h1:bl t.f1=bl u.f1<;>simp [h0,h1]
theorem rsame_loop (a b:List TG) (hl:a.length=b.length) (hb:a.length≤100000000):∀ (d i:Nat),i+d=a.length→Ev (fun k=>ebbtideref03_Same.l0 k a b (i:Int)) (decide ((a.drop i).map prT=(b.drop i).map prT))
 | 0,i,hd=>by
  refine Ev.step (f:=fun _=>some true) (fun k=>?_) ?_
  ·simp only [ebbtideref03_Same.l0];rw [if_neg (by omega)]
  ·rw [List.drop_of_length_le (by omega),List.drop_of_length_le (by omega)];simpa using Ev.now _
 | d+1,i,hd=>by
  have hi:i<a.length:=by omega
  have hi':i<b.length:=by omega
  refine Ev.step (f:=fun k=>if prT a[i]≠prT b[i] then some false else ebbtideref03_Same.l0 k a b ((i+1:Nat):Int)) (fun k=>?_) ?_
  ·simp only [ebbtideref03_Same.l0]
   rw [if_pos (by omega),if_pos (by omega),if_pos (by omega),rdT a i hi,rdT b i hi',ne_bool,wrap_up i (by omega)]
   by_cases h:prT a[i]=prT b[i]<;>simp [h]
  ·rw [drop_cons a i hi,drop_cons b i hi',List.map_cons,List.map_cons]
   by_cases h:prT a[i]=prT b[i]
   ·refine Ev_if_neg (by simpa using h) ?_
    have:=rsame_loop a b hl hb d (i+1) (by omega)
    simpa [h] using this
   ·refine Ev_if_pos h ?_
    simpa [h] using Ev.now _
theorem rsame_ev (a b:List TG) (hb:a.length≤100000000):Ev (fun k=>ebbtideref03_Same.f k a b) (sameT a b):=by
 unfold ebbtideref03_Same.f sameT
 by_cases h:a.length=b.length
 ·refine Ev_if_pos (by omega) ?_
  simpa using rsame_loop a b h hb a.length 0 (by omega)
 ·refine Ev_if_neg (by omega) ?_
  rw [decide_eq_false (fun e=>h (by simpa using congrArg List.length e))]
  exact Ev.now _
theorem eqt_loop (a b:List TG) (hl:a.length=b.length) (hb:a.length≤100000000):∀ (d i:Nat),i+d=a.length→Ev (fun k=>slices_Equal_Tag.l0 k a b (a.length:Int) (i:Int)) (decide ((a.drop i).map prT=(b.drop i).map prT))
 | 0,i,hd=>by
  refine Ev.step (f:=fun _=>some true) (fun k=>?_) ?_
  ·simp only [slices_Equal_Tag.l0];rw [if_neg (by omega)]
  ·rw [List.drop_of_length_le (by omega),List.drop_of_length_le (by omega)];simpa using Ev.now _
 | d+1,i,hd=>by
  have hi:i<a.length:=by omega
  have hi':i<b.length:=by omega
  refine Ev.step (f:=fun k=>if prT a[i]≠prT b[i] then some false else slices_Equal_Tag.l0 k a b (a.length:Int) ((i+1:Nat):Int)) (fun k=>?_) ?_
  ·simp only [slices_Equal_Tag.l0]
   rw [if_pos (by omega),if_pos (by omega),if_pos (by omega),if_pos (by omega),rdT a i hi,rdT b i hi',ne_bool,wrap_up i (by omega)]
   by_cases h:prT a[i]=prT b[i]<;>simp [h]
  ·rw [drop_cons a i hi,drop_cons b i hi',List.map_cons,List.map_cons]
   by_cases h:prT a[i]=prT b[i]
   ·refine Ev_if_neg (by simpa using h) ?_
    have:=eqt_loop a b hl hb d (i+1) (by omega)
    simpa [h] using this
   ·refine Ev_if_pos h ?_
    simpa [h] using Ev.now _
theorem eqt_ev (a b:List TG) (hb:a.length≤100000000):Ev (fun k=>slices_Equal_Tag.f k a b) (sameT a b):=by
 unfold slices_Equal_Tag.f sameT
 by_cases h:a.length=b.length
 ·refine Ev_if_pos (by omega) ?_
  simpa using eqt_loop a b h hb a.length 0 (by omega)
 ·refine Ev_if_neg (by omega) ?_
  rw [decide_eq_false (fun e=>h (by simpa using congrArg List.length e))]
  exact Ev.now _
def bigT (t:TG):Bool:=decide (100<t.f0.size) || decide (100<t.f1.size)
def greatT (l:List TG):Bool:=decide (20<l.length) || l.any bigT
theorem great_loop (l:List TG) (hl:l.length≤20):∀ (d i:Nat),i+d=l.length→Ev (fun k=>ebbtideref03_Great.l0 k l (i:Int)) ((l.drop i).any bigT)
 | 0,i,hd=>by
  refine Ev.step (f:=fun _=>some false) (fun k=>?_) (by rw [List.drop_of_length_le (by omega)];exact Ev.now _)
  simp only [ebbtideref03_Great.l0];rw [if_neg (by omega)]
 | d+1,i,hd=>by
  have hi:i<l.length:=by omega
  rw [drop_cons l i hi,List.any_cons]
  have ih:=great_loop l hl d (i+1) (by omega)
  refine Ev.step (f:=fun k=>if bigT l[i]=true then some true else ebbtideref03_Great.l0 k l ((i+1:Nat):Int)) (fun k=>?_) ?_
  ·simp only [ebbtideref03_Great.l0]
   rw [if_pos (by omega),if_pos (by omega),rdT l i hi,wrap_up i (by omega)]
   unfold bigT
   by_cases h0:l[i].f0.size>100
   ·rw [if_pos (by omega),decide_eq_true h0];rfl
   ·rw [if_neg (by omega),decide_eq_false h0,Bool.false_or]
    by_cases h1:l[i].f1.size>100
    ·rw [if_pos (by omega),decide_eq_true h1];rfl
    ·rw [if_neg (by omega),decide_eq_false h1];rfl
  ·cases h:bigT l[i] with
   | true=>exact Ev_if_pos rfl (Ev.now _)
   | false=>exact Ev_if_neg (by simp) (by simpa using ih)
theorem great_ev (l:List TG):Ev (fun k=>ebbtideref03_Great.f k l) (greatT l):=by
 unfold ebbtideref03_Great.f greatT
 by_cases h:20<l.length
 ·refine Ev_if_pos (by omega) ?_
  rw [decide_eq_true h];exact Ev.now _
 ·refine Ev_if_neg (by omega) ?_
  rw [decide_eq_false h];simpa using great_loop l (by omega) l.length 0 (by omega)
theorem not_great {l:List TG} (h:greatT l=false):l.length≤20∧∀ t∈l,t.f0.size≤100∧t.f1.size≤100:=by
 unfold greatT at h
 rw [Bool.or_eq_false_iff,decide_eq_false_iff_not,List.any_eq_false] at h
 refine ⟨by omega,fun t ht=>?_⟩
 have:=h.2 t ht
 unfold bigT at this
 simp at this;omega
def findT:List TG→ByteArray→ByteArray×Bool
 | [],_=>(⟨#[]⟩,false)
 | t ::l,key=>if bl t.f0=bl key then (t.f1,true) else findT l key
theorem find_loop (l:List TG) (key:ByteArray) (hl:l.length≤100000000):∀ (d i:Nat),i+d=l.length→Ev (fun k=>tag_Find.l0 k key l (l.length:Int) (i:Int)) (findT (l.drop i) key)∧Ev (fun k=>ebbtideref03_Find.l0 k l key (i:Int)) (findT (l.drop i) key)
 | 0,i,hd=>by
  rw [List.drop_of_length_le (by omega)]
  constructor
  ·refine Ev.step (f:=fun _=>some (⟨#[]⟩,false)) (fun k=>?_) (Ev.now _)
   simp only [tag_Find.l0];rw [if_neg (by omega)]
  ·refine Ev.step (f:=fun _=>some (⟨#[]⟩,false)) (fun k=>?_) (Ev.now _)
   simp only [ebbtideref03_Find.l0];rw [if_neg (by omega)]
 | d+1,i,hd=>by
  have hi:i<l.length:=by omega
  rw [drop_cons l i hi]
  have ih:=find_loop l key hl d (i+1) (by omega)
  constructor
  ·refine Ev.step (f:=fun k=>if bl l[i].f0=bl key then some (l[i].f1,true) else tag_Find.l0 k key l (l.length:Int) ((i+1:Nat):Int)) (fun k=>?_) ?_
   ·simp only [tag_Find.l0]
    rw [if_pos (by omega),if_pos (by omega),if_pos (by omega),rdT l i hi,toList_bl,toList_bl,wrap_up i (by omega)]
   ·rw [findT];exact Ev_if (fun _=>Ev.now _) (fun _=>ih.1)
  ·refine Ev.step (f:=fun k=>if bl l[i].f0=bl key then some (l[i].f1,true) else ebbtideref03_Find.l0 k l key ((i+1:Nat):Int)) (fun k=>?_) ?_
   ·simp only [ebbtideref03_Find.l0]
    rw [if_pos (by omega),if_pos (by omega),rdT l i hi,toList_bl,toList_bl,wrap_up i (by omega)]
   ·rw [findT];exact Ev_if (fun _=>Ev.now _) (fun _=>ih.2)
theorem find_ev (l:List TG) (key:ByteArray) (hl:l.length≤100000000):Ev (fun k=>tag_Find.f k l key) (findT l key):=(find_loop l key hl l.length 0 (by omega)).1
def hasT (ks:List ByteArray) (s:ByteArray):Bool:=ks.any fun x=>decide (bl x=bl s)
theorem has_loop (ks:List ByteArray) (s:ByteArray) (hl:ks.length≤100000000):∀ (d i:Nat),i+d=ks.length→Ev (fun k=>ebbtideref03_has.l0 k ks s (i:Int)) (hasT (ks.drop i) s)∧∃ r:Int,Ev (fun k=>slices_Index_string.l0 k ks s (ks.length:Int) (i:Int)) r∧(decide (r≥0))=hasT (ks.drop i) s
 | 0,i,hd=>by
  rw [List.drop_of_length_le (by omega)]
  constructor
  ·refine Ev.step (f:=fun _=>some false) (fun k=>?_) (Ev.now _)
   simp only [ebbtideref03_has.l0];rw [if_neg (by omega)]
  ·refine ⟨-1,Ev.step (f:=fun _=>some (-1)) (fun k=>?_) (Ev.now _),rfl⟩
   simp only [slices_Index_string.l0];rw [if_neg (by omega)]
 | d+1,i,hd=>by
  have hi:i<ks.length:=by omega
  rw [drop_cons ks i hi]
  obtain ⟨ih1,r,ih2,ih3⟩:=has_loop ks s hl d (i+1) (by omega)
  have e:hasT (ks[i] ::ks.drop (i+1)) s=(decide (bl ks[i]=bl s) || hasT (ks.drop (i+1)) s):=List.any_cons
  rw [e]
  constructor
  ·refine Ev.step (f:=fun k=>if bl ks[i]=bl s then some true else ebbtideref03_has.l0 k ks s ((i+1:Nat):Int)) (fun k=>?_) ?_
   ·simp only [ebbtideref03_has.l0]
    rw [if_pos (by omega),if_pos (by omega),rdOf_lt _ ks i hi,toList_bl,toList_bl,wrap_up i (by omega)]
   ·by_cases h:bl ks[i]=bl s
    ·rw [decide_eq_true h];exact Ev_if_pos h (Ev.now _)
    ·rw [decide_eq_false h,Bool.false_or];exact Ev_if_neg h ih1
  ·have hst:∀ k,slices_Index_string.l0 (k+1) ks s (ks.length:Int) (i:Int)=if bl ks[i]=bl s then some (i:Int) else slices_Index_string.l0 k ks s (ks.length:Int) ((i+1:Nat):Int):=by
    intro k
    simp only [slices_Index_string.l0]
    rw [if_pos (by omega),if_pos (by omega),if_pos (by omega),rdOf_lt _ ks i hi,toList_bl,toList_bl,wrap_up i (by omega)]
    by_cases h:bl ks[i]=bl s
    ·rw [if_pos h,if_pos h.symm]
    ·rw [if_neg h,if_neg (fun e=>h e.symm)]
   by_cases h:bl ks[i]=bl s
   ·exact ⟨i,Ev.step (fun k=>hst k) (Ev_if_pos h (Ev.now _)),by simp [h]⟩
   ·exact ⟨r,Ev.step (fun k=>hst k) (Ev_if_neg h ih2),by rw [decide_eq_false h,Bool.false_or];exact ih3⟩
theorem rhas_ev (ks:List ByteArray) (s:ByteArray) (hl:ks.length≤100000000):Ev (fun k=>ebbtideref03_has.f k ks s) (hasT ks s):=(has_loop ks s hl ks.length 0 (by omega)).1
theorem contains_ev (ks:List ByteArray) (s:ByteArray) (hl:ks.length≤100000000):Ev (fun k=>slices_Contains_string.f k ks s) (hasT ks s):=by
 obtain ⟨r,h1,h2⟩:=(has_loop ks s hl ks.length 0 (by omega)).2
 rw [List.drop_zero] at h2
 rw [← h2]
 exact Ev.bind h1 (Ev.now _)
def onlyT (l:List TG) (ks:List ByteArray):List TG:=l.filter fun t=>hasT ks t.f0
theorem only_loop (l:List TG) (ks:List ByteArray) (hl:l.length≤1000000) (hk:ks.length≤1000000):∀ (d i:Nat) (acc:List TG),i+d=l.length→acc.length≤i→Ev (fun k=>tag_Only.l0 k ks acc l (l.length:Int) (i:Int)) (acc++onlyT (l.drop i) ks)∧Ev (fun k=>ebbtideref03_Only.l0 k l ks acc (i:Int)) (acc++onlyT (l.drop i) ks)
 | 0,i,acc,hd,ha=>by
  rw [List.drop_of_length_le (by omega)]
  constructor
  ·refine Ev.step (f:=fun _=>some acc) (fun k=>?_) (by simpa [onlyT] using Ev.now _)
   simp only [tag_Only.l0];rw [if_neg (by omega)]
  ·refine Ev.step (f:=fun _=>some acc) (fun k=>?_) (by simpa [onlyT] using Ev.now _)
   simp only [ebbtideref03_Only.l0];rw [if_neg (by omega)]
 | d+1,i,acc,hd,ha=>by
  have hi:i<l.length:=by omega
  rw [drop_cons l i hi]
  have e:onlyT (l[i] ::l.drop (i+1)) ks=if hasT ks l[i].f0=true then l[i] ::onlyT (l.drop (i+1)) ks else onlyT (l.drop (i+1)) ks:=List.filter_cons
  rw [e]
  have ih0:=only_loop l ks hl hk d (i+1) acc (by omega) (by omega)
  have ih1:=only_loop l ks hl hk d (i+1) (acc++[l[i]]) (by omega) (by simp;omega)
  constructor
  ·refine Ev.step (f:=fun k=>(slices_Contains_string.f k ks l[i].f0).bind fun t=>if t=true then tag_Only.l0 k ks (acc++[l[i]]) l (l.length:Int) ((i+1:Nat):Int) else tag_Only.l0 k ks acc l (l.length:Int) ((i+1:Nat):Int)) (fun k=>?_) ?_
   ·simp only [tag_Only.l0]
    rw [if_pos (by omega),if_pos (by omega),if_pos (by omega),rdT l i hi,eta,wrap_up i (by omega)]
    simp only [if_pos (show acc.length<4398046511104 by omega)]
   ·refine Ev.bind (contains_ev ks _ (by omega)) ?_
    cases hasT ks l[i].f0 with
    | true=>exact Ev_if_pos rfl (by simpa using ih1.1)
    | false=>exact Ev_if_neg (by simp) (by simpa using ih0.1)
  ·refine Ev.step (f:=fun k=>(ebbtideref03_has.f k ks l[i].f0).bind fun t=>if t=true then ebbtideref03_Only.l0 k l ks (acc++[l[i]]) ((i+1:Nat):Int) else ebbtideref03_Only.l0 k l ks acc ((i+1:Nat):Int)) (fun k=>?_) ?_
   ·simp only [ebbtideref03_Only.l0]
    rw [if_pos (by omega),if_pos (by omega),rdT l i hi,eta,wrap_up i (by omega)]
    simp only [if_pos (show acc.length<4398046511104 by omega)]
   ·refine Ev.bind (rhas_ev ks _ (by omega)) ?_
    cases hasT ks l[i].f0 with
    | true=>exact Ev_if_pos rfl (by simpa using ih1.2)
    | false=>exact Ev_if_neg (by simp) (by simpa using ih0.2)
theorem only_ev (l:List TG) (ks:List ByteArray) (hl:l.length≤1000000) (hk:ks.length≤1000000):Ev (fun k=>tag_Only.f k l ks) (onlyT l ks):=by
 simpa [tag_Only.f] using (only_loop l ks hl hk l.length 0 [] (by omega) (by simp)).1
end Go.Proofs.YtbefmicenjdfkaaDoor.Pure
