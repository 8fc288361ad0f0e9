import Derived.Test.YteaadaaghhojfaaGreatDoorZQbPQux5
import Derived.Test.YteaadaaghhojfaaGreatDoorZQbPQux11
import Derived.Test.YteaadaaghhojfaaGreatDoorZQbPQux20
import Derived.Test.YteaadaaghhojfaaGreatDoorZQbPQux8
import Derived.Test.YteaadaaghhojfaaGreatDoorZQbPQux10
import Derived.Test.YteaadaaghhojfaaGreatDoorZQbPQux19
import Derived.Test.YteaadaaghhojfaaGreatDoorZQbPT
import Derived.Sort.AssemblyPlain
namespace Go.Proofs.YteaadaaghhojfaaGreatDoor.Pure
open Go.RowKit Go.Proofs.YteaadaaghhojfaaGreatDoor.PQu Go.Proofs.YteaadaaghhojfaaGreatDoorW.PrintWords Go.Proofs.YteaadaaghhojfaaGreatDoorW.PrintLast Go.Proofs.YteaadaaghhojfaaGreatDoorW.PrintMore Go.Proofs.YteaadaaghhojfaaGreatDoorW.XP Go.Proofs.YteaadaaghhojfaaGreatDoorW.XW
set_option linter.unusedVariables false
set_option linter.unusedSimpArgs false
def mkB (l:List UInt8):ByteArray:=⟨l.toArray⟩
theorem bl_mkB (l:List UInt8):bl (mkB l)=l:=rfl
theorem mkB_bl (s:ByteArray):mkB (bl s)=s:=rfl
theorem size_mkB (l:List UInt8):(mkB l).size=l.length:=by rw [← size_bl,bl_mkB]
def findT:List TG→ByteArray→ByteArray×Bool
 | [],_=>(⟨#[]⟩,false)
 | t ::l,key=>if bl t.f0=bl key then (t.f1,true) else findT l key
theorem find_loop (l:List TG) (key:ByteArray) (hl:l.length≤100000000):∀ (d i:Nat),i+d=l.length→Ev (fun k=>tag_Find.l0 k key l (l.length:Int) (i:Int)) (findT (l.drop i) key)∧Ev (fun k=>ebbtideref03_Find.l0 k l key (i:Int)) (findT (l.drop i) key)
 | 0,i,hd=>by
  rw [List.drop_of_length_le (by omega)]
  constructor
  ·refine Ev.step (f:=fun _=>some (⟨#[]⟩,false)) (fun k=>?_) (Ev.now _)
   simp only [tag_Find.l0];rw [if_neg (by omega)]
  ·refine Ev.step (f:=fun _=>some (⟨#[]⟩,false)) (fun k=>?_) (Ev.now _)
   simp only [ebbtideref03_Find.l0];rw [if_neg (by omega)]
 | d+1,i,hd=>by
  have hi:i<l.length:=by omega
  rw [drop_cons l i hi]
  have ih:=find_loop l key hl d (i+1) (by omega)
  constructor
  ·refine Ev.step (f:=fun k=>if bl l[i].f0=bl key then some (l[i].f1,true) else tag_Find.l0 k key l (l.length:Int) ((i+1:Nat):Int)) (fun k=>?_) ?_
   ·simp only [tag_Find.l0]
    rw [if_pos (by omega),if_pos (by omega),if_pos (by omega),rdT l i hi,toList_bl,toList_bl,wrap_up i (by omega)]
   ·rw [findT];exact Ev_if (fun _=>Ev.now _) (fun _=>ih.1)
  ·refine Ev.step (f:=fun k=>if bl l[i].f0=bl key then some (l[i].f1,true) else ebbtideref03_Find.l0 k l key ((i+1:Nat):Int)) (fun k=>?_) ?_
   ·simp only [ebbtideref03_Find.l0]
    rw [if_pos (by omega),if_pos (by omega),rdT l i hi,toList_bl,toList_bl,wrap_up i (by omega)]
   ·rw [findT];exact Ev_if (fun _=>Ev.now _) (fun _=>ih.2)
theorem find_ev (l:List TG) (key:ByteArray) (hl:l.length≤100000000):Ev (fun k=>tag_Find.f k l key) (findT l key):=(find_loop l key hl l.length 0 (by omega)).1
theorem rfind_ev (l:List TG) (key:ByteArray) (hl:l.length≤100000000):Ev (fun k=>ebbtideref03_Find.f k l key) (findT l key):=(find_loop l key hl l.length 0 (by omega)).2
def hasT (ks:List ByteArray) (s:ByteArray):Bool:=ks.any fun x=>decide (bl x=bl s)
theorem has_loop (ks:List ByteArray) (s:ByteArray) (hl:ks.length≤100000000):∀ (d i:Nat),i+d=ks.length→Ev (fun k=>ebbtideref03_has.l0 k ks s (i:Int)) (hasT (ks.drop i) s)∧∃ r:Int,Ev (fun k=>slices_Index_string.l0 k ks s (ks.length:Int) (i:Int)) r∧(decide (r≥0))=hasT (ks.drop i) s
 | 0,i,hd=>by
  rw [List.drop_of_length_le (by omega)]
  constructor
  ·refine Ev.step (f:=fun _=>some false) (fun k=>?_) (Ev.now _)
   simp only [ebbtideref03_has.l0];rw [if_neg (by omega)]
  ·refine ⟨-1,Ev.step (f:=fun _=>some (-1)) (fun k=>?_) (Ev.now _),rfl⟩
   simp only [slices_Index_string.l0];rw [if_neg (by omega)]
 | d+1,i,hd=>by
  have hi:i<ks.length:=by omega
  rw [drop_cons ks i hi]
  obtain ⟨ih1,r,ih2,ih3⟩:=has_loop ks s hl d (i+1) (by omega)
  have e:hasT (ks[i] ::ks.drop (i+1)) s=(decide (bl ks[i]=bl s) || hasT (ks.drop (i+1)) s):=List.any_cons
  rw [e]
  constructor
  ·refine Ev.step (f:=fun k=>if bl ks[i]=bl s then some true else ebbtideref03_has.l0 k ks s ((i+1:Nat):Int)) (fun k=>?_) ?_
   ·simp only [ebbtideref03_has.l0]
    rw [if_pos (by omega),if_pos (by omega),rdOf_lt _ ks i hi,toList_bl,toList_bl,wrap_up i (by omega)]
   ·by_cases h:bl ks[i]=bl s
    ·rw [decide_eq_true h];exact Ev_if_pos h (Ev.now _)
    ·rw [decide_eq_false h,Bool.false_or];exact Ev_if_neg h ih1
  ·have hst:∀ k,slices_Index_string.l0 (k+1) ks s (ks.length:Int) (i:Int)=if bl ks[i]=bl s then some (i:Int) else slices_Index_string.l0 k ks s (ks.length:Int) ((i+1:Nat):Int):=by
    intro k
    simp only [slices_Index_string.l0]
    rw [if_pos (by omega),if_pos (by omega),if_pos (by omega),rdOf_lt _ ks i hi,toList_bl,toList_bl,wrap_up i (by omega)]
    by_cases h:bl ks[i]=bl s
    ·rw [if_pos h,if_pos h.symm]
    ·rw [if_neg h,if_neg (fun e=>h e.symm)]
   by_cases h:bl ks[i]=bl s
   ·exact ⟨i,Ev.step (fun k=>hst k) (Ev_if_pos h (Ev.now _)),by simp [h]⟩
   ·exact ⟨r,Ev.step (fun k=>hst k) (Ev_if_neg h ih2),by rw [decide_eq_false h,Bool.false_or];exact ih3⟩
theorem rhas_ev (ks:List ByteArray) (s:ByteArray) (hl:ks.length≤100000000):Ev (fun k=>ebbtideref03_has.f k ks s) (hasT ks s):=(has_loop ks s hl ks.length 0 (by omega)).1
theorem contains_ev (ks:List ByteArray) (s:ByteArray) (hl:ks.length≤100000000):Ev (fun k=>slices_Contains_string.f k ks s) (hasT ks s):=by
 obtain ⟨r,h1,h2⟩:=(has_loop ks s hl ks.length 0 (by omega)).2
 rw [List.drop_zero] at h2
 rw [← h2]
 exact Ev.bind h1 (Ev.now _)
def onlyT (l:List TG) (ks:List ByteArray):List TG:=l.filter fun t=>hasT ks t.f0
theorem only_loop (l:List TG) (ks:List ByteArray) (hl:l.length≤1000000) (hk:ks.length≤1000000):∀ (d i:Nat) (acc:List TG),i+d=l.length→acc.length≤i→Ev (fun k=>tag_Only.l0 k ks acc l (l.length:Int) (i:Int)) (acc++onlyT (l.drop i) ks)∧Ev (fun k=>ebbtideref03_Only.l0 k l ks acc (i:Int)) (acc++onlyT (l.drop i) ks)
 | 0,i,acc,hd,ha=>by
  rw [List.drop_of_length_le (by omega)]
  constructor
  ·refine Ev.step (f:=fun _=>some acc) (fun k=>?_) (by simpa [onlyT] using Ev.now _)
   simp only [tag_Only.l0];rw [if_neg (by omega)]
  ·refine Ev.step (f:=fun _=>some acc) (fun k=>?_) (by simpa [onlyT] using Ev.now _)
   simp only [ebbtideref03_Only.l0];rw [if_neg (by omega)]
 | d+1,i,acc,hd,ha=>by
  have hi:i<l.length:=by omega
  rw [drop_cons l i hi]
  have e:onlyT (l[i] ::l.drop (i+1)) ks=if hasT ks l[i].f0=true then l[i] ::onlyT (l.drop (i+1)) ks else onlyT (l.drop (i+1)) ks:=List.filter_cons
  rw [e]
  have ih0:=only_loop l ks hl hk d (i+1) acc (by omega) (by omega)
  have ih1:=only_loop l ks hl hk d (i+1) (acc++[l[i]]) (by omega) (by simp;omega)
  constructor
  ·refine Ev.step (f:=fun k=>(slices_Contains_string.f k ks l[i].f0).bind fun t=>if t=true then tag_Only.l0 k ks (acc++[l[i]]) l (l.length:Int) ((i+1:Nat):Int) else tag_Only.l0 k ks acc l (l.length:Int) ((i+1:Nat):Int)) (fun k=>?_) ?_
   ·simp only [tag_Only.l0]
    rw [if_pos (by omega),if_pos (by omega),if_pos (by omega),rdT l i hi,eta,wrap_up i (by omega)]
    simp only [if_pos (show acc.length<4398046511104 by omega)]
   ·refine Ev.bind (contains_ev ks _ (by omega)) ?_
    cases hasT ks l[i].f0 with
    | true=>exact Ev_if_pos rfl (by simpa using ih1.1)
    | false=>exact Ev_if_neg (by simp) (by simpa using ih0.1)
  ·refine Ev.step (f:=fun k=>(ebbtideref03_has.f k ks l[i].f0).bind fun t=>if t=true then ebbtideref03_Only.l0 k l ks (acc++[l[i]]) ((i+1:Nat):Int) else ebbtideref03_Only.l0 k l ks acc ((i+1:Nat):Int)) (fun k=>?_) ?_
   ·simp only [ebbtideref03_Only.l0]
    rw [if_pos (by omega),if_pos (by omega),rdT l i hi,eta,wrap_up i (by omega)]
    simp only [if_pos (show acc.length<4398046511104 by omega)]
   ·refine Ev.bind (rhas_ev ks _ (by omega)) ?_
    cases hasT ks l[i].f0 with
    | true=>exact Ev_if_pos rfl (by simpa using ih1.2)
    | false=>exact Ev_if_neg (by simp) (by simpa using ih0.2)
theorem only_ev (l:List TG) (ks:List ByteArray) (hl:l.length≤1000000) (hk:ks.length≤1000000):Ev (fun k=>tag_Only.f k l ks) (onlyT l ks):=by
 simpa [tag_Only.f] using (only_loop l ks hl hk l.length 0 [] (by omega) (by simp)).1
theorem ronly_ev (l:List TG) (ks:List ByteArray) (hl:l.length≤1000000) (hk:ks.length≤1000000):Ev (fun k=>ebbtideref03_Only.f k l ks) (onlyT l ks):=by
 simpa [ebbtideref03_Only.f] using (only_loop l ks hl hk l.length 0 [] (by omega) (by simp)).2
end Go.Proofs.YteaadaaghhojfaaGreatDoor.Pure
