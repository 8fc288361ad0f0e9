import Derived.Test.YtbefmicenjdfkaaDoorZaPTkx4
import Derived.Test.YtbefmicenjdfkaaDoorZaPTkx8
import Derived.Test.YtbefmicenjdfkaaDoorZaPY
namespace Go.Proofs.YtbefmicenjdfkaaDoor.Pure
open Go.RowKit Go.Proofs.YtbefmicenjdfkaaDoor.PTk Go.Proofs.YtbefmicenjdfkaaDoorW.PrintWords Go.Proofs.YtbefmicenjdfkaaDoorW.PrintLast Go.Proofs.YtbefmicenjdfkaaDoorW.PrintMore Go.Proofs.YtbefmicenjdfkaaDoorW.XP Go.Proofs.YtbefmicenjdfkaaDoorW.XW
set_option linter.unusedVariables false
set_option linter.unusedSimpArgs false
def chainT:List TG→Bool
 | a ::b ::r=>lessT a b && chainT (b ::r)
 | _=>true
def rightT (l:List TG):Bool:=l.all mayT && (chainT l && decide (l.length≤4))
theorem chain_strict:∀ l:List TG,chainT l=true↔Strict l
 | []=>⟨fun _=>List.Pairwise.nil,fun _=>rfl⟩
 | [a]=>⟨fun _=>List.pairwise_singleton _ _,fun _=>rfl⟩
 | a ::b ::r=>by
  have ih:=chain_strict (b ::r)
  rw [chainT,Bool.and_eq_true,ih,Strict,Strict,List.pairwise_cons (a:=a)]
  constructor
  ·rintro ⟨h1,h2⟩
   refine ⟨fun x hx=>?_,h2⟩
   rcases List.mem_cons.1 hx with rfl|hx
   ·exact h1
   ·rw [List.pairwise_cons] at h2
    exact less_trans h1 (h2.1 x hx)
  ·rintro ⟨h1,h2⟩
   exact ⟨h1 b List.mem_cons_self,h2⟩
theorem right_iff (l:List TG):rightT l=true↔(l.all mayT=true∧Strict l∧l.length≤4):=by
 unfold rightT
 rw [Bool.and_eq_true,Bool.and_eq_true,chain_strict,decide_eq_true_eq]
theorem insAll_strict (l:List TG) (h:Strict l):insAll [] l=some l:=by
 cases hh:insAll [] l with
 | none =>
  have:=insAll_none l [] hh List.Pairwise.nil
  rw [List.nil_append] at this
  exact absurd (strict_nodup h) this
 | some o =>
  obtain ⟨h1,h2⟩:=insAll_some l [] o hh List.Pairwise.nil
  rw [List.nil_append] at h2
  rw [strict_unique h1 h h2]
theorem canonT_eq (l:List TG):canonT l=if l.all mayT=true then (if 4<l.length then ([],4) else (insAll [] l).elim ([],5) fun o=>(o,0)) else ([],2):=by
 unfold canonT
 cases insAll [] l<;>rfl
theorem canon_right (l:List TG) (h:rightT l=true):canonT l=(l,0):=by
 obtain ⟨h1,h2,h3⟩:=(right_iff l).1 h
 rw [canonT_eq,if_pos h1,if_neg (by omega),insAll_strict l h2];rfl
theorem canon_out (l:List TG):((canonT l).2=0∧rightT (canonT l).1=true∧(canonT l).1.Perm l)∨((canonT l).2≠0∧(canonT l).1=[]):=by
 rw [canonT_eq]
 by_cases h1:l.all mayT=true
 ·rw [if_pos h1]
  by_cases h4:4<l.length
  ·rw [if_pos h4];exact .inr ⟨by decide,rfl⟩
  ·rw [if_neg h4]
   cases hh:insAll [] l with
   | none=>exact .inr ⟨by decide,rfl⟩
   | some o =>
    obtain ⟨h2,h3⟩:=insAll_some l [] o hh List.Pairwise.nil
    rw [List.nil_append] at h3
    refine .inl ⟨rfl,(right_iff o).2 ⟨?_,h2,?_⟩,h3⟩
    ·rw [List.all_eq_true] at h1 ⊢
     exact fun x hx=>h1 x (h3.mem_iff.1 hx)
    ·have:=h3.length_eq;omega
 ·rw [if_neg h1];exact .inr ⟨by decide,rfl⟩
theorem canon_perm {a b:List TG} (h:a.Perm b):canonT a=canonT b:=by
 rw [canonT_eq,canonT_eq]
 have e1:(a.all mayT=true)=(b.all mayT=true):=by
  rw [List.all_eq_true,List.all_eq_true]
  exact propext ⟨fun k x hx=>k x (h.mem_iff.2 hx),fun k x hx=>k x (h.mem_iff.1 hx)⟩
 have e2:insAll [] a=insAll [] b:=by
  cases ha:insAll [] a with
  | none =>
   have h1:=insAll_none a [] ha List.Pairwise.nil
   cases hb:insAll [] b with
   | none=>rfl
   | some o =>
    obtain ⟨h2,h3⟩:=insAll_some b [] o hb List.Pairwise.nil
    rw [List.nil_append] at h3 h1
    exact absurd (((h3.trans h.symm).map nm).nodup_iff.1 (strict_nodup h2)) h1
  | some o =>
   obtain ⟨h2,h3⟩:=insAll_some a [] o ha List.Pairwise.nil
   rw [List.nil_append] at h3
   cases hb:insAll [] b with
   | none =>
    have h1:=insAll_none b [] hb List.Pairwise.nil
    rw [List.nil_append] at h1
    exact absurd (((h3.trans h).map nm).nodup_iff.1 (strict_nodup h2)) h1
   | some q =>
    obtain ⟨h4,h5⟩:=insAll_some b [] q hb List.Pairwise.nil
    rw [List.nil_append] at h5
    rw [strict_unique h2 h4 (h3.trans (h.trans h5.symm))]
 simp only [e1,e2,h.length_eq]
theorem canon_same (l:List TG):((canonT l).2=0∧(canonT l).1=l)↔rightT l=true:=by
 constructor
 ·rintro ⟨h1,h2⟩
  rcases canon_out l with ⟨_,h3,_⟩|⟨h3,_⟩
  ·rwa [h2] at h3
  ·exact absurd h1 h3
 ·intro h
  rw [canon_right l h];exact ⟨rfl,rfl⟩
theorem tright_ev (l:List TG) (hl:l.length≤1000000):Ev (fun k=>tag_Right.f k l) (rightT l):=by
 unfold tag_Right.f
 refine Ev.bind (canon_ev l hl) ?_
 by_cases h:(canonT l).2=0
 ·refine Ev_if_pos h ?_
  have hlen:(canonT l).1.length≤100000000:=by
   rcases canon_out l with ⟨_,_,h3⟩|⟨_,h3⟩
   ·have:=h3.length_eq;omega
   ·rw [h3];simp
  refine Ev.bind (eqt_ev _ l hlen) ?_
  have:sameT (canonT l).1 l=rightT l:=by
   rw [Bool.eq_iff_iff,sameT_iff,← canon_same]
   exact ⟨fun k=>⟨h,k⟩,fun k=>k.2⟩
  rw [this];exact Ev.now _
 ·refine Ev_if_neg h ?_
  have:rightT l=false:=by
   cases hr:rightT l with
   | false=>rfl
   | true=>exact absurd ((canon_same l).2 hr).1 h
  rw [this];exact Ev.now _
theorem chain_drop (l:List TG) (i:Nat) (h:i+1<l.length):chainT (l.drop i)=(lessT l[i] l[i+1] && chainT (l.drop (i+1))):=by
 rw [drop_cons l i (by omega),drop_cons l (i+1) h,chainT]
theorem rright_loop (l:List TG) (hl:l.length≤1000000):∀ (d i:Nat),i+1+d=l.length→Ev (fun k=>ebbtideref03_Right.l0 k l ((i+1:Nat):Int)) ((l.drop (i+1)).all mayT && (chainT (l.drop i) && decide (l.length≤4)))
 | 0,i,hd=>by
  have hi:i<l.length:=by omega
  refine Ev.step (f:=fun _=>some (decide ((l.length:Int)≤4))) (fun k=>?_) ?_
  ·simp only [ebbtideref03_Right.l0];rw [if_neg (by omega)]
  ·rw [List.drop_of_length_le (by omega),drop_cons l i hi,List.drop_of_length_le (by omega)]
   have:decide ((l.length:Int)≤4)=(([]:List TG).all mayT && (chainT [l[i]] && decide (l.length≤4))):=by
    simp [chainT];omega
   rw [← this];exact Ev.now _
 | d+1,i,hd=>by
  have hi:i+1<l.length:=by omega
  have e0:wrap64 (((i+1:Nat):Int) - 1)=(i:Int):=by unfold wrap64;omega
  rw [chain_drop l i hi,drop_cons l (i+1) hi,List.all_cons]
  have ih:=rright_loop l hl d (i+1) (by omega)
  refine Ev.step (f:=fun k=>(ebbtideref03_may.f k l[i+1].f0 l[i+1].f1).bind fun t=>if t=true then (if lessT l[i] l[i+1]=true then ebbtideref03_Right.l0 k l ((i+1+1:Nat):Int) else some false) else some false) (fun k=>?_) ?_
  ·simp only [ebbtideref03_Right.l0]
   rw [if_pos (by omega),if_pos (by omega),rdT l (i+1) hi,e0,rdT l i (by omega),wrap_up (i+1) (by omega),toList_bl,toList_bl]
   simp only [if_pos (show ((i+1:Nat):Int)>0 by omega),if_pos (show 0≤(i:Int) by omega),if_pos (show (i:Int)<(l.length:Int) by omega)]
   rfl
  ·refine Ev.bind (rmay_ev _) ?_
   cases mayT l[i+1] with
   | false=>exact Ev_if_neg (by simp) (by simpa using Ev.now _)
   | true =>
    refine Ev_if_pos rfl ?_
    cases h:lessT l[i] l[i+1] with
    | false=>exact Ev_if_neg (by simp) (by simpa using Ev.now _)
    | true=>exact Ev_if_pos rfl (by simpa using ih)
theorem rright_ev (l:List TG) (hl:l.length≤1000000):Ev (fun k=>ebbtideref03_Right.f k l) (rightT l):=by
 unfold ebbtideref03_Right.f
 by_cases h0:l.length=0
 ·obtain rfl:=List.length_eq_zero_iff.1 h0
  refine Ev.step (f:=fun _=>some true) (fun k=>?_) (Ev.now _)
  simp only [ebbtideref03_Right.l0];rw [if_neg (by simp)];rfl
 ·have hi:0<l.length:=by omega
  have ih:=rright_loop l hl (l.length - 1) 0 (by omega)
  refine Ev.step (f:=fun k=>(ebbtideref03_may.f k l[0].f0 l[0].f1).bind fun t=>if t=true then ebbtideref03_Right.l0 k l ((0+1:Nat):Int) else some false) (fun k=>?_) ?_
  ·simp only [ebbtideref03_Right.l0]
   have e:=rdT l 0 hi
   rw [show ((0:Nat):Int)=0 from rfl] at e
   rw [if_pos (by omega),if_pos (by omega),e]
   simp only [if_neg (show ¬ (0:Int)>0 by omega)]
   rw [show wrap64 (0+1)=((0+1:Nat):Int) by decide+kernel]
  ·refine Ev.bind (rmay_ev _) ?_
   have e:rightT l=(mayT l[0] && ((l.drop (0+1)).all mayT && (chainT (l.drop 0) && decide (l.length≤4)))):=by
    have:=drop_cons l 0 hi
    rw [List.drop_zero] at this
    rw [List.drop_zero,rightT,show l.all mayT=(l[0] ::l.drop (0+1)).all mayT from by rw [← this],List.all_cons,Bool.and_assoc]
   rw [e]
   cases mayT l[0] with
   | false=>exact Ev_if_neg (by simp) (by simpa using Ev.now _)
   | true=>exact Ev_if_pos rfl (by simpa using ih)
theorem name_no (l:List UInt8) (h:nameL l=true) (c:UInt8) (hc:inNameB c=false):c ∉ l:=by
 unfold nameL at h
 rw [Bool.and_eq_true,List.all_eq_true] at h
 intro hm
 have:=h.2 c hm
 rw [hc] at this;cases this
theorem value_no (l:List UInt8) (h:valueL l=true) (c:UInt8) (hc:inValB c=false):c ∉ l:=by
 unfold valueL at h
 rw [Bool.and_eq_true,List.all_eq_true] at h
 intro hm
 have:=h.2 c hm
 rw [hc] at this;cases this
theorem name_len (l:List UInt8) (h:nameL l=true):1≤l.length∧l.length≤12:=by
 unfold nameL at h
 simp only [Bool.and_eq_true,decide_eq_true_eq] at h
 exact ⟨h.1.1.1,h.1.1.2⟩
theorem value_len (l:List UInt8) (h:valueL l=true):1≤l.length∧l.length≤12:=by
 unfold valueL at h
 simp only [Bool.and_eq_true,decide_eq_true_eq] at h
 exact ⟨h.1.1,h.1.2⟩
theorem split_none (c:UInt8):∀ l:List UInt8,c ∉ l→splitL c l=[l]
 | [],_=>rfl
 | b ::l,h=>by
  have hb:b≠c:=fun e=>h (by rw [e];simp)
  rw [splitL,if_neg hb,split_none c l (fun k=>h (List.mem_cons_of_mem _ k))]
theorem split_app (c:UInt8) (y:List UInt8):∀ x:List UInt8,c ∉ x→splitL c (x++c ::y)=x ::splitL c y
 | [],_=>by rw [List.nil_append,splitL,if_pos rfl]
 | b ::x,h=>by
  have hb:b≠c:=fun e=>h (by rw [e];simp)
  rw [List.cons_append,splitL,if_neg hb,split_app c y x (fun k=>h (List.mem_cons_of_mem _ k))]
theorem split_join (c:UInt8):∀ (l:List (List UInt8)) (x:List UInt8),(∀ y∈x ::l,c ∉ y)→splitL c (Lib.join (x ::l) [c])=x ::l
 | [],x,h=>by
  rw [Lib.join_one];exact split_none c x (h x List.mem_cons_self)
 | z ::l,x,h=>by
  have ih:=split_join c l z (fun y hy=>h y (List.mem_cons_of_mem _ hy))
  rw [Lib.join_cons]
  show splitL c (x++tl [c] (z ::l))=_
  rw [tl_cons,List.append_assoc,show [c]++(z++tl [c] l)=c ::(z++tl [c] l) from rfl,split_app c _ x (h x List.mem_cons_self)]
  rw [Lib.join_cons] at ih
  rw [ih]
theorem idx_app (c:UInt8) (y:List UInt8):∀ x:List UInt8,c ∉ x→Lib.indexByte (x++c ::y) c=(x.length:Int)
 | [],_=>by rw [List.nil_append,idx_cons,if_pos rfl];rfl
 | b ::x,h=>by
  have hb:b≠c:=fun e=>h (by rw [e];simp)
  rw [List.cons_append,idx_cons,if_neg hb,idx_app c y x (fun k=>h (List.mem_cons_of_mem _ k)),if_neg (by omega),List.length_cons]
  omega
theorem may_parts {t:TG} (h:mayT t=true):nameL (bl t.f0)=true∧valueL (bl t.f1)=true:=by
 unfold mayT at h;rwa [Bool.and_eq_true] at h
theorem cut_app (c:UInt8) (a b s:ByteArray) (hs:bl s=bl a++c ::bl b) (h:c ∉ bl a):cutB c s=(a,b,true):=by
 have e:Lib.indexByte (bl s) c=((bl a).length:Int):=by rw [hs];exact idx_app c _ _ h
 unfold cutB
 rw [e,if_neg (by omega),ext_take,ext_drop,hs]
 simp only [Int.toNat_natCast,Prod.mk.injEq,and_true]
 constructor
 ·apply bl_inj;rw [bl_mk];simp
 ·apply bl_inj;rw [bl_mk,List.drop_append];simp
theorem pairs_back:∀ l:List TG,l.all mayT=true→pairsT (l.map pairB)=some l
 | [],_=>rfl
 | t ::l,h=>by
  rw [List.all_cons,Bool.and_eq_true] at h
  have hm:=may_parts h.1
  have hc:cutB 61 (pairB t)=(t.f0,t.f1,true):=cut_app 61 t.f0 t.f1 (pairB t) (by rw [bl_pairB];simp) (name_no _ hm.1 61 (by decide+kernel))
  rw [List.map_cons,pairsT,hc,if_pos rfl,pairs_back l h.2];rfl
theorem pair_no {t:TG} (h:mayT t=true):(44:UInt8) ∉ bl (pairB t):=by
 have hm:=may_parts h
 rw [bl_pairB]
 intro k
 rcases List.mem_append.1 k with k|k
 ·rcases List.mem_append.1 k with k|k
  ·exact name_no _ hm.1 44 (by decide+kernel) k
  ·revert k;decide
 ·exact value_no _ hm.2 44 (by decide+kernel) k
theorem parse_text (l:List TG) (h:rightT l=true):parseT (textT l)=(l,0):=by
 obtain ⟨h1,h2,h3⟩:=(right_iff l).1 h
 cases l with
 | nil=>rfl
 | cons t r =>
  have hne:bl (textT (t ::r))≠[]:=by
   unfold textT
   rw [List.map_cons,joinB_cons,bl_pairB];simp
  unfold parseT
  rw [if_neg hne]
  have e:splitB 44 (textT (t ::r))=(t ::r).map pairB:=by
   unfold splitB textT joinB
   rw [bl_mk,bl_mkB,List.map_cons,List.map_cons,split_join]
   ·simp [mk_bl,Function.comp_def]
   ·intro y hy
    rw [List.all_eq_true] at h1
    rcases List.mem_cons.1 hy with rfl|hy
    ·exact pair_no (h1 t List.mem_cons_self)
    ·rw [List.map_map] at hy
     obtain ⟨u,hu,rfl⟩:=List.mem_map.1 hy
     exact pair_no (h1 u (List.mem_cons_of_mem _ hu))
  rw [e,pairs_back _ h1]
  show canonT ([]++(t ::r))=_
  rw [List.nil_append,canon_right _ h]
theorem parse_out (s:ByteArray):((parseT s).2=0∧rightT (parseT s).1=true)∨((parseT s).2≠0∧(parseT s).1=[]):=by
 unfold parseT
 split
 ·exact .inl ⟨rfl,rfl⟩
 ·cases h:pairsT (splitB 44 s) with
  | none=>exact .inr ⟨by decide,rfl⟩
  | some ps =>
   show (canonT ([]++ps)).2=0∧_∨_
   rcases canon_out ([]++ps) with ⟨h1,h2,_⟩|h1
   ·exact .inl ⟨h1,h2⟩
   ·exact .inr h1
theorem right_fit {l:List TG} (h:rightT l=true):Fit l∧(bl (textT l)).length≤1000:=by
 obtain ⟨h1,h2,h3⟩:=(right_iff l).1 h
 rw [List.all_eq_true] at h1
 have hs:∀ t∈l,(bl t.f0).length≤12∧(bl t.f1).length≤12:=fun t ht=>⟨(name_len _ (may_parts (h1 t ht)).1).2,(value_len _ (may_parts (h1 t ht)).2).2⟩
 refine ⟨⟨by omega,fun t ht=>?_⟩,?_⟩
 ·have:=hs t ht
  rw [size_bl,size_bl] at this;omega
 ·have:=joinB_len (mkB [44]) 25 (l.map pairB) (by
   intro x hx
   obtain ⟨t,ht,rfl⟩:=List.mem_map.1 hx
   have:=hs t ht
   rw [bl_pairB];simp;omega)
  rw [List.length_map,bl_mkB] at this
  have h5:l.length * ([44]:List UInt8).length+l.length * 25≤1000:=by simp;omega
  rw [Nat.mul_add] at this
  exact Nat.le_trans this h5
theorem talive_ev:Ev (fun k=>ebbtidelaw03_alive.f k) true:=by
 unfold ebbtidelaw03_alive.f
 refine Ev.bind (parse_ev _ (by decide)) (Ev.bind (parse_ev _ (by decide)) (Ev.bind (parse_ev _ (by decide)) ?_))
 refine Ev.bind (find_ev _ _ (by decide+kernel)) ?_
 refine Ev_if_pos (by decide+kernel) (Ev_if_pos (by decide+kernel) (Ev_if_pos (by decide+kernel) ?_))
 refine Ev.bind (text_ev _ (right_fit (by decide+kernel)).1) ?_
 refine Ev_if_pos (by rw [toList_bl];decide+kernel) (Ev_if_pos (by decide+kernel) (Ev_if_pos (by rw [toList_bl];decide+kernel) ?_))
 refine Ev.bind (tright_ev _ (by decide+kernel)) (Ev_if_pos (by decide+kernel) ?_)
 refine Ev.bind (only_ev _ _ (by decide+kernel) (by decide+kernel)) (Ev_if_pos (by decide+kernel) ?_)
 refine Ev.bind (tright_ev _ (by decide+kernel)) ?_
 exact Ev_const (by decide+kernel)
end Go.Proofs.YtbefmicenjdfkaaDoor.Pure
