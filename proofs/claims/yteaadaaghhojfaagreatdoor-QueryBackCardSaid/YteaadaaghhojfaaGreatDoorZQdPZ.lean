import Derived.Test.YteaadaaghhojfaaGreatDoorZQdPY
namespace Go.Proofs.YteaadaaghhojfaaGreatDoor.Pure
open Go.RowKit Go.Proofs.YteaadaaghhojfaaGreatDoor.PQu Go.Proofs.YteaadaaghhojfaaGreatDoorW.PrintWords Go.Proofs.YteaadaaghhojfaaGreatDoorW.PrintLast Go.Proofs.YteaadaaghhojfaaGreatDoorW.PrintMore Go.Proofs.YteaadaaghhojfaaGreatDoorW.XP Go.Proofs.YteaadaaghhojfaaGreatDoorW.XW
set_option linter.unusedVariables false
set_option linter.unusedSimpArgs false
def chainT:List TG→Bool
 | a ::b ::r=>lessT a b && chainT (b ::r)
 | _=>true
def rightT (l:List TG):Bool:=l.all mayT && (chainT l && decide (l.length≤4))
theorem chain_strict:∀ l:List TG,chainT l=true↔Strict l
 | []=>⟨fun _=>List.Pairwise.nil,fun _=>rfl⟩
 | [a]=>⟨fun _=>List.pairwise_singleton _ _,fun _=>rfl⟩
 | a ::b ::r=>by
  have ih:=chain_strict (b ::r)
  rw [chainT,Bool.and_eq_true,ih,Strict,Strict,List.pairwise_cons (a:=a)]
  constructor
  ·rintro ⟨h1,h2⟩
   refine ⟨fun x hx=>?_,h2⟩
   rcases List.mem_cons.1 hx with rfl|hx
   ·exact h1
   ·rw [List.pairwise_cons] at h2
    exact less_trans h1 (h2.1 x hx)
  ·rintro ⟨h1,h2⟩
   exact ⟨h1 b List.mem_cons_self,h2⟩
theorem right_iff (l:List TG):rightT l=true↔(l.all mayT=true∧Strict l∧l.length≤4):=by
 unfold rightT
 rw [Bool.and_eq_true,Bool.and_eq_true,chain_strict,decide_eq_true_eq]
theorem name_no (l:List UInt8) (h:nameL l=true) (c:UInt8) (hc:inNameB c=false):c ∉ l:=by
 unfold nameL at h
 rw [Bool.and_eq_true,List.all_eq_true] at h
 intro hm
 have:=h.2 c hm
 rw [hc] at this;cases this
theorem value_no (l:List UInt8) (h:valueL l=true) (c:UInt8) (hc:inValB c=false):c ∉ l:=by
 unfold valueL at h
 rw [Bool.and_eq_true,List.all_eq_true] at h
 intro hm
 have:=h.2 c hm
 rw [hc] at this;cases this
theorem name_len (l:List UInt8) (h:nameL l=true):1≤l.length∧l.length≤12:=by
 unfold nameL at h
 simp only [Bool.and_eq_true,decide_eq_true_eq] at h
 exact ⟨h.1.1.1,h.1.1.2⟩
theorem value_len (l:List UInt8) (h:valueL l=true):1≤l.length∧l.length≤12:=by
 unfold valueL at h
 simp only [Bool.and_eq_true,decide_eq_true_eq] at h
 exact ⟨h.1.1,h.1.2⟩
theorem split_none (c:UInt8):∀ l:List UInt8,c ∉ l→splitL c l=[l]
 | [],_=>rfl
 | b ::l,h=>by
  have hb:b≠c:=fun e=>h (by rw [e];simp)
  rw [splitL,if_neg hb,split_none c l (fun k=>h (List.mem_cons_of_mem _ k))]
theorem split_app (c:UInt8) (y:List UInt8):∀ x:List UInt8,c ∉ x→splitL c (x++c ::y)=x ::splitL c y
 | [],_=>by rw [List.nil_append,splitL,if_pos rfl]
 | b ::x,h=>by
  have hb:b≠c:=fun e=>h (by rw [e];simp)
  rw [List.cons_append,splitL,if_neg hb,split_app c y x (fun k=>h (List.mem_cons_of_mem _ k))]
theorem split_join (c:UInt8):∀ (l:List (List UInt8)) (x:List UInt8),(∀ y∈x ::l,c ∉ y)→splitL c (Lib.join (x ::l) [c])=x ::l
 | [],x,h=>by
  rw [Lib.join_one];exact split_none c x (h x List.mem_cons_self)
 | z ::l,x,h=>by
  have ih:=split_join c l z (fun y hy=>h y (List.mem_cons_of_mem _ hy))
  rw [Lib.join_cons]
  show splitL c (x++tl [c] (z ::l))=_
  rw [tl_cons,List.append_assoc,show [c]++(z++tl [c] l)=c ::(z++tl [c] l) from rfl,split_app c _ x (h x List.mem_cons_self)]
  rw [Lib.join_cons] at ih
  rw [ih]
theorem idx_app (c:UInt8) (y:List UInt8):∀ x:List UInt8,c ∉ x→Lib.indexByte (x++c ::y) c=(x.length:Int)
 | [],_=>by rw [List.nil_append,idx_cons,if_pos rfl];rfl
 | b ::x,h=>by
  have hb:b≠c:=fun e=>h (by rw [e];simp)
  rw [List.cons_append,idx_cons,if_neg hb,idx_app c y x (fun k=>h (List.mem_cons_of_mem _ k)),if_neg (by omega),List.length_cons]
  omega
theorem may_parts {t:TG} (h:mayT t=true):nameL (bl t.f0)=true∧valueL (bl t.f1)=true:=by
 unfold mayT at h;rwa [Bool.and_eq_true] at h
theorem cut_app (c:UInt8) (a b s:ByteArray) (hs:bl s=bl a++c ::bl b) (h:c ∉ bl a):cutB c s=(a,b,true):=by
 have e:Lib.indexByte (bl s) c=((bl a).length:Int):=by rw [hs];exact idx_app c _ _ h
 unfold cutB
 rw [e,if_neg (by omega),ext_take,ext_drop,hs]
 simp only [Int.toNat_natCast,Prod.mk.injEq,and_true]
 constructor
 ·apply bl_inj;rw [bl_mk];simp
 ·apply bl_inj;rw [bl_mk,List.drop_append];simp
theorem right_fit {l:List TG} (h:rightT l=true):Fit l∧(bl (textT l)).length≤1000:=by
 obtain ⟨h1,h2,h3⟩:=(right_iff l).1 h
 rw [List.all_eq_true] at h1
 have hs:∀ t∈l,(bl t.f0).length≤12∧(bl t.f1).length≤12:=fun t ht=>⟨(name_len _ (may_parts (h1 t ht)).1).2,(value_len _ (may_parts (h1 t ht)).2).2⟩
 refine ⟨⟨by omega,fun t ht=>?_⟩,?_⟩
 ·have:=hs t ht
  rw [size_bl,size_bl] at this;omega
 ·have:=joinB_len (mkB [44]) 25 (l.map pairB) (by
   intro x hx
   obtain ⟨t,ht,rfl⟩:=List.mem_map.1 hx
   have:=hs t ht
   rw [bl_pairB];simp;omega)
  rw [List.length_map,bl_mkB] at this
  have h5:l.length * ([44]:List UInt8).length+l.length * 25≤1000:=by simp;omega
  rw [Nat.mul_add] at this
  exact Nat.le_trans this h5
end Go.Proofs.YteaadaaghhojfaaGreatDoor.Pure
