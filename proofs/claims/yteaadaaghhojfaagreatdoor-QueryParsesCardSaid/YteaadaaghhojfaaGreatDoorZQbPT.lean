import Derived.Test.YteaadaaghhojfaaGreatDoorZQbPQux7
import Derived.Test.YteaadaaghhojfaaGreatDoorZQbPX
namespace Go.Proofs.YteaadaaghhojfaaGreatDoor.Pure
open Go.RowKit Go.Proofs.YteaadaaghhojfaaGreatDoor.PQu Go.Proofs.YteaadaaghhojfaaGreatDoorW.PrintWords Go.Proofs.YteaadaaghhojfaaGreatDoorW.PrintLast Go.Proofs.YteaadaaghhojfaaGreatDoorW.PrintMore Go.Proofs.YteaadaaghhojfaaGreatDoorW.XP Go.Proofs.YteaadaaghhojfaaGreatDoorW.XW
set_option linter.unusedVariables false
set_option linter.unusedSimpArgs false
abbrev TG:=S93
def nm (t:TG):List UInt8:=bl t.f0
def mayT (t:TG):Bool:=nameL (bl t.f0) && valueL (bl t.f1)
def lessT (a b:TG):Bool:=Op.bytesLess (nm a) (nm b)
theorem rdT (l:List TG) (i:Nat) (h:i<l.length):rd_T93 l (i:Int)=l[i]:=by
 simp [rd_T93,List.getD,h]
theorem eta (t:TG):(⟨t.f0,t.f1⟩:TG)=t:=by cases t;rfl
def insT (t:TG):List TG→Option (List TG)
 | []=>some [t]
 | u ::r=>if lessT u t=true then (insT t r).map (u ::·) else if nm u=nm t then none else some (t ::u ::r)
def insAll:List TG→List TG→Option (List TG)
 | acc,[]=>some acc
 | acc,t ::l=>(insT t acc).bind fun a=>insAll a l
def canonT (l:List TG):List TG×Int :=
 if l.all mayT=true then (if 4<l.length then ([],4) else match insAll [] l with|some o=>(o,0)|none=>([],5)) else ([],2)
def Strict (l:List TG):Prop:=l.Pairwise (fun a b=>lessT a b=true)
theorem less_trans {a b c:TG} (h1:lessT a b=true) (h2:lessT b c=true):lessT a c=true:=bl_trans _ _ _ h1 h2
theorem rmay_ev (t:TG):Ev (fun k=>ebbtideref03_may.f k t.f0 t.f1) (mayT t):=by
 unfold ebbtideref03_may.f mayT
 refine Ev.bind (rname_ev _) ?_
 cases nameL (bl t.f0) with
 | false=>exact Ev_if_neg (by simp) (Ev.now _)
 | true=>exact Ev_if_pos rfl (by simpa using Ev.bind (rvalue_ev _) (Ev.now _))
theorem rcanon_in (l:List TG) (hl:l.length≤4) (t:TG) (i:Nat) (hi:i<l.length) (ht:l[i]=t)
  (hnext:∀ acc:List TG,acc.length=i+1→Ev (fun k=>ebbtideref03_Canon.l1 k l acc ((i+1:Nat):Int)) (match insAll acc (l.drop (i+1)) with|some o=>(o,0)|none=>([],5))) :
  ∀ (d j:Nat) (acc:List TG),j+d=acc.length→acc.length=i→(∀ (p:Nat) (hp:p<acc.length),p<j→lessT acc[p] t=true) →
  Ev (fun k=>ebbtideref03_Canon.l2 k l acc (i:Int) (j:Int)) (match (insT t (acc.drop j)).bind (fun a=>insAll (acc.take j++a) (l.drop (i+1))) with|some o=>(o,0)|none=>([],5))
 | 0,j,acc,hd,ha,hp=>by
  have hj:j=acc.length:=by omega
  subst hj
  refine Ev.step (f:=fun k=>ebbtideref03_Canon.l1 k l (acc++[t]) ((i+1:Nat):Int)) (fun k=>?_) ?_
  ·simp only [ebbtideref03_Canon.l2,Option.bind_some]
   rw [if_neg (by omega)]
   simp only [Int.toNat_natCast,List.drop_length,List.take_length,List.append_nil,List.nil_append,List.length_nil]
   rw [if_pos (by omega),if_pos (by omega),if_pos (by omega),if_pos (by omega),if_pos (by omega),if_pos (by omega),rdT l i hi,ht,eta,wrap_up i (by omega)]
   rw [if_pos (by simp;omega)]
  ·have:=hnext (acc++[t]) (by simp;omega)
   simpa [insT] using this
 | d+1,j,acc,hd,ha,hp=>by
  have hj:j<acc.length:=by omega
  rw [drop_cons acc j hj,insT]
  by_cases hu:lessT acc[j] t=true
  ·refine Ev.step (f:=fun k=>ebbtideref03_Canon.l2 k l acc (i:Int) ((j+1:Nat):Int)) (fun k=>?_) ?_
   ·simp only [ebbtideref03_Canon.l2]
    rw [if_pos (by omega),if_pos (by omega),if_pos (by omega),if_pos (by omega),rdT l i hi,rdT acc j hj,ht,if_pos (by rw [toList_bl,toList_bl];exact hu),wrap_up j (by omega)]
   ·have:=rcanon_in l hl t i hi ht hnext d (j+1) acc (by omega) ha (fun p hp1 hp2=>by
     by_cases e:p=j
     ·subst e;exact hu
     ·exact hp p hp1 (by omega))
    rw [if_pos hu]
    have e:(Option.map (fun x=>acc[j] ::x) (insT t (acc.drop (j+1)))).bind (fun a=>insAll (acc.take j++a) (l.drop (i+1)))=(insT t (acc.drop (j+1))).bind (fun a=>insAll (acc.take (j+1)++a) (l.drop (i+1))):=by
     cases insT t (acc.drop (j+1)) with
     | none=>rfl
     | some a =>
      rw [List.take_succ_eq_append_getElem hj]
      simp only [Option.map_some,Option.bind_some,List.append_assoc,List.cons_append,List.nil_append]
    rw [e];exact this
  ·rw [if_neg hu]
   by_cases hn:nm acc[j]=nm t
   ·rw [if_pos hn]
    refine Ev.step (f:=fun _=>some (([]:List TG),5)) (fun k=>?_) (Ev.now _)
    simp only [ebbtideref03_Canon.l2]
    rw [if_pos (by omega),if_pos (by omega),if_pos (by omega),if_pos (by omega),rdT l i hi,rdT acc j hj,ht,if_neg (by rw [toList_bl,toList_bl];exact hu),if_pos (by rw [toList_bl,toList_bl];exact hn)]
   ·rw [if_neg hn]
    refine Ev.step (f:=fun k=>ebbtideref03_Canon.l1 k l (acc.take j++[t]++acc.drop j) ((i+1:Nat):Int)) (fun k=>?_) ?_
    ·simp only [ebbtideref03_Canon.l2,Option.bind_some]
     rw [if_pos (by omega),if_pos (by omega),if_pos (by omega),if_pos (by omega),rdT l i hi,rdT acc j hj,ht,if_neg (by rw [toList_bl,toList_bl];exact hu),if_neg (by rw [toList_bl,toList_bl];exact hn)]
     simp only [Int.toNat_natCast,List.nil_append,List.length_nil]
     rw [if_pos (by omega),if_pos (by simp;omega),if_pos (by simp;omega),eta,if_pos (by simp;omega),wrap_up i (by omega)]
    ·have:=hnext (acc.take j++[t]++acc.drop j) (by simp;omega)
     rw [drop_cons acc j hj,List.append_assoc] at this ⊢
     simpa only [Option.bind_some,List.cons_append,List.nil_append] using this
theorem rcanon_all (l:List TG) (hl:l.length≤4):∀ (d i:Nat) (acc:List TG),i+d=l.length→acc.length=i→Ev (fun k=>ebbtideref03_Canon.l1 k l acc (i:Int)) (match insAll acc (l.drop i) with|some o=>(o,0)|none=>([],5))
 | 0,i,acc,hd,ha=>by
  refine Ev.step (f:=fun _=>some (acc,0)) (fun k=>?_) (by rw [List.drop_of_length_le (by omega)];exact Ev.now _)
  simp only [ebbtideref03_Canon.l1];rw [if_neg (by omega)]
 | d+1,i,acc,hd,ha=>by
  have hi:i<l.length:=by omega
  refine Ev.step (f:=fun k=>ebbtideref03_Canon.l2 k l acc (i:Int) ((0:Nat):Int)) (fun k=>by simp only [ebbtideref03_Canon.l1];rw [if_pos (by omega)];rfl) ?_
  have:=rcanon_in l hl l[i] i hi rfl (fun acc' ha'=>rcanon_all l hl d (i+1) acc' (by omega) ha') acc.length 0 acc (by omega) ha (fun p _ h=>by omega)
  rw [drop_cons l i hi,insAll]
  simpa using this
theorem rcanon_may (l:List TG) (hl:l.length≤1000000):∀ (d i:Nat),i+d=l.length →
  Ev (fun k=>ebbtideref03_Canon.l0 k l (i:Int)) (if (l.drop i).all mayT=true then (if 4<l.length then ([],4) else match insAll [] l with|some o=>(o,0)|none=>([],5)) else ([],2))
 | 0,i,hd=>by
  rw [List.drop_of_length_le (by omega),if_pos (by rfl)]
  by_cases h4:4<l.length
  ·rw [if_pos h4]
   refine Ev.step (f:=fun _=>some (([]:List TG),4)) (fun k=>?_) (Ev.now _)
   simp only [ebbtideref03_Canon.l0];rw [if_neg (by omega),if_pos (by omega)]
  ·rw [if_neg h4]
   refine Ev.step (f:=fun k=>ebbtideref03_Canon.l1 k l [] ((0:Nat):Int)) (fun k=>?_) (by simpa using rcanon_all l (by omega) l.length 0 [] (by omega) rfl)
   simp only [ebbtideref03_Canon.l0];rw [if_neg (by omega),if_neg (by omega)];rfl
 | d+1,i,hd=>by
  have hi:i<l.length:=by omega
  refine Ev.step (f:=fun k=>(ebbtideref03_may.f k l[i].f0 l[i].f1).bind fun t=>if t=true then ebbtideref03_Canon.l0 k l ((i+1:Nat):Int) else some (([]:List TG),2)) (fun k=>?_) ?_
  ·simp only [ebbtideref03_Canon.l0];rw [if_pos (by omega),if_pos (by omega),rdT l i hi,wrap_up i (by omega)]
  ·refine Ev.bind (rmay_ev _) ?_
   rw [drop_cons l i hi,List.all_cons]
   cases mayT l[i] with
   | true=>exact Ev_if_pos rfl (by simpa using rcanon_may l hl d (i+1) (by omega))
   | false=>exact Ev_if_neg (by simp) (by simpa using Ev.now _)
theorem rcanon_ev (l:List TG) (hl:l.length≤1000000):Ev (fun k=>ebbtideref03_Canon.f k l) (canonT l):=by
 have:=rcanon_may l hl l.length 0 (by omega)
 simpa [ebbtideref03_Canon.f,canonT] using this
end Go.Proofs.YteaadaaghhojfaaGreatDoor.Pure
