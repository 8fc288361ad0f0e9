import Derived.Test.YteaadaaghhojfaaGreatDoorZQcPY
namespace Go.Proofs.YteaadaaghhojfaaGreatDoor.Pure
open Go.RowKit Go.Proofs.YteaadaaghhojfaaGreatDoor.PQu Go.Proofs.YteaadaaghhojfaaGreatDoorW.PrintWords Go.Proofs.YteaadaaghhojfaaGreatDoorW.PrintLast Go.Proofs.YteaadaaghhojfaaGreatDoorW.PrintMore Go.Proofs.YteaadaaghhojfaaGreatDoorW.XP Go.Proofs.YteaadaaghhojfaaGreatDoorW.XW
set_option linter.unusedVariables false
set_option linter.unusedSimpArgs false
def chainT:List TG→Bool
 | a ::b ::r=>lessT a b && chainT (b ::r)
 | _=>true
def rightT (l:List TG):Bool:=l.all mayT && (chainT l && decide (l.length≤4))
theorem chain_strict:∀ l:List TG,chainT l=true↔Strict l
 | []=>⟨fun _=>List.Pairwise.nil,fun _=>rfl⟩
 | [a]=>⟨fun _=>List.pairwise_singleton _ _,fun _=>rfl⟩
 | a ::b ::r=>by
  have ih:=chain_strict (b ::r)
  rw [chainT,Bool.and_eq_true,ih,Strict,Strict,List.pairwise_cons (a:=a)]
  constructor
  ·rintro ⟨h1,h2⟩
   refine ⟨fun x hx=>?_,h2⟩
   rcases List.mem_cons.1 hx with rfl|hx
   ·exact h1
   ·rw [List.pairwise_cons] at h2
    exact less_trans h1 (h2.1 x hx)
  ·rintro ⟨h1,h2⟩
   exact ⟨h1 b List.mem_cons_self,h2⟩
theorem right_iff (l:List TG):rightT l=true↔(l.all mayT=true∧Strict l∧l.length≤4):=by
 unfold rightT
 rw [Bool.and_eq_true,Bool.and_eq_true,chain_strict,decide_eq_true_eq]
theorem name_len (l:List UInt8) (h:nameL l=true):1≤l.length∧l.length≤12:=by
 unfold nameL at h
 simp only [Bool.and_eq_true,decide_eq_true_eq] at h
 exact ⟨h.1.1.1,h.1.1.2⟩
theorem value_len (l:List UInt8) (h:valueL l=true):1≤l.length∧l.length≤12:=by
 unfold valueL at h
 simp only [Bool.and_eq_true,decide_eq_true_eq] at h
 exact ⟨h.1.1,h.1.2⟩
theorem may_parts {t:TG} (h:mayT t=true):nameL (bl t.f0)=true∧valueL (bl t.f1)=true:=by
 unfold mayT at h;rwa [Bool.and_eq_true] at h
theorem right_fit {l:List TG} (h:rightT l=true):Fit l∧(bl (textT l)).length≤1000:=by
 obtain ⟨h1,h2,h3⟩:=(right_iff l).1 h
 rw [List.all_eq_true] at h1
 have hs:∀ t∈l,(bl t.f0).length≤12∧(bl t.f1).length≤12:=fun t ht=>⟨(name_len _ (may_parts (h1 t ht)).1).2,(value_len _ (may_parts (h1 t ht)).2).2⟩
 refine ⟨⟨by omega,fun t ht=>?_⟩,?_⟩
 ·have:=hs t ht
  rw [size_bl,size_bl] at this;omega
 ·have:=joinB_len (mkB [44]) 25 (l.map pairB) (by
   intro x hx
   obtain ⟨t,ht,rfl⟩:=List.mem_map.1 hx
   have:=hs t ht
   rw [bl_pairB];simp;omega)
  rw [List.length_map,bl_mkB] at this
  have h5:l.length * ([44]:List UInt8).length+l.length * 25≤1000:=by simp;omega
  rw [Nat.mul_add] at this
  exact Nat.le_trans this h5
end Go.Proofs.YteaadaaghhojfaaGreatDoor.Pure
