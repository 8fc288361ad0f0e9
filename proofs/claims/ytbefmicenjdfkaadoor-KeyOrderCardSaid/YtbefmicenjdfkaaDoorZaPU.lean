import Derived.Test.YtbefmicenjdfkaaDoorZaPT
import Derived.Sort.AssemblyPlain
namespace Go.Proofs.YtbefmicenjdfkaaDoor.Pure
open Go.RowKit Go.Proofs.YtbefmicenjdfkaaDoor.PTk Go.Proofs.YtbefmicenjdfkaaDoorW.PrintWords Go.Proofs.YtbefmicenjdfkaaDoorW.PrintLast Go.Proofs.YtbefmicenjdfkaaDoorW.PrintMore Go.Proofs.YtbefmicenjdfkaaDoorW.XP Go.Proofs.YtbefmicenjdfkaaDoorW.XW
set_option linter.unusedVariables false
set_option linter.unusedSimpArgs false
abbrev srt (l:List TG):List TG:=slices_SortFunc_Tag_by_tag_order.sorted l
theorem cf_lt (x y:TG):Go.Proofs.ltOf slices_SortFunc_Tag_by_tag_order.cf x y=lessT x y:=ltOf_text (fun t:TG=>bl t.f0) x y
theorem srt_spec (l:List TG):(srt l).Perm l∧(srt l).Pairwise (fun a b=>lessT b a=false):=by
 have h:=Go.Sort.pdq_sorts (Go.Proofs.ltOf slices_SortFunc_Tag_by_tag_order.cf) (swo_text (fun t:TG=>bl t.f0)) l.toArray 0 l.toArray.size (Lib.bitLen l.toArray.size) true true (Nat.zero_le _) (Nat.le_refl _) (.inl rfl)
 unfold srt slices_SortFunc_Tag_by_tag_order.sorted
 generalize Go.Sort.pdq (Go.Proofs.ltOf slices_SortFunc_Tag_by_tag_order.cf) l.toArray 0 l.toArray.size (Lib.bitLen l.toArray.size) true true=q at h
 obtain ⟨⟨h1,h2,h3⟩,h4⟩:=h
 constructor
 ·have e1:q.extract 0 l.toArray.size=q:=by rw [← h1];simp
  have e2:l.toArray.extract 0 l.toArray.size=l.toArray:=by simp
  rw [e1,e2] at h3;simpa using h3
 ·rw [List.pairwise_iff_getElem]
  intro i j hi hj hij
  have hi':i<q.size:=by simpa using hi
  have hj':j<q.size:=by simpa using hj
  have:=h4 i j (Nat.zero_le _) hij (by rw [← h1];exact hj')
  rw [getElem!_pos q j hj',getElem!_pos q i hi',cf_lt] at this
  simpa using this
def adj:List TG→Bool
 | a ::b ::r=>decide (nm a=nm b) || adj (b ::r)
 | _=>false
theorem adj_strict:∀ l:List TG,l.Pairwise (fun a b=>lessT b a=false)→adj l=false→Strict l
 | [],_,_=>List.Pairwise.nil
 | [a],_,_=>List.pairwise_singleton _ _
 | a ::b ::r,h,ha=>by
  rw [adj,Bool.or_eq_false_iff] at ha
  rw [List.pairwise_cons] at h
  have ih:=adj_strict (b ::r) h.2 ha.2
  have hne:nm a≠nm b:=by simpa using ha.1
  have hab:lessT a b=true:=by
   rcases less_total hne with h1|h1
   ·exact h1
   ·rw [h.1 b List.mem_cons_self] at h1;cases h1
  rw [Strict,List.pairwise_cons]
  refine ⟨fun x hx=>?_,ih⟩
  rcases List.mem_cons.1 hx with rfl|hx
  ·exact hab
  ·rw [Strict,List.pairwise_cons] at ih
   exact less_trans hab (ih.1 x hx)
theorem adj_dup:∀ l:List TG,adj l=true→¬ (l.map nm).Nodup
 | [],h=>by simp [adj] at h
 | [a],h=>by simp [adj] at h
 | a ::b ::r,h=>by
  rw [adj,Bool.or_eq_true] at h
  intro hn
  rw [List.map_cons,List.nodup_cons] at hn
  rcases h with h|h
  ·exact hn.1 (by rw [of_decide_eq_true h];simp)
  ·exact adj_dup (b ::r) h hn.2
theorem canon_scan (l:List TG):(if adj (srt l)=true then (([]:List TG),(5:Int)) else (srt l,0))=(match insAll [] l with|some o=>(o,0)|none=>([],5)):=by
 obtain ⟨hp,hs⟩:=srt_spec l
 cases h:insAll [] l with
 | some o =>
  obtain ⟨h1,h2⟩:=insAll_some l [] o h List.Pairwise.nil
  rw [List.nil_append] at h2
  cases ha:adj (srt l) with
  | true =>
   exact absurd (((hp.trans h2.symm).map nm).nodup_iff.2 (strict_nodup h1)) (adj_dup _ ha)
  | false =>
   rw [if_neg (by simp),strict_unique (adj_strict _ hs ha) h1 (hp.trans h2.symm)]
 | none =>
  have hn:=insAll_none l [] h List.Pairwise.nil
  rw [List.nil_append] at hn
  cases ha:adj (srt l) with
  | true=>rw [if_pos rfl]
  | false=>exact absurd ((hp.map nm).nodup_iff.1 (strict_nodup (adj_strict _ hs ha))) hn
theorem adj_drop (l:List TG) (i:Nat) (h:i+1<l.length):adj (l.drop i)=(decide (nm l[i]=nm l[i+1]) || adj (l.drop (i+1))):=by
 rw [drop_cons l i (by omega),drop_cons l (i+1) h,adj]
theorem canon_loop (l:List TG) (hl:l.length≤4):∀ (d i:Nat),i+1+d=l.length→Ev (fun k=>tag_Canon.l0 k l ((i+1:Nat):Int)) (if adj (l.drop i)=true then (([]:List TG),(5:Int)) else (l,0))
 | 0,i,hd=>by
  have hi:i<l.length:=by omega
  refine Ev.step (f:=fun _=>some (l,0)) (fun k=>?_) ?_
  ·simp only [tag_Canon.l0];rw [if_neg (by omega)]
  ·rw [drop_cons l i hi,List.drop_of_length_le (by omega),show adj [l[i]]=false from rfl,if_neg (by simp)];exact Ev.now _
 | d+1,i,hd=>by
  have hi:i+1<l.length:=by omega
  have e0:wrap64 (((i+1:Nat):Int) - 1)=(i:Int):=by unfold wrap64;omega
  rw [adj_drop l i hi]
  refine Ev.step (f:=fun k=>if nm l[i]=nm l[i+1] then some (([]:List TG),5) else tag_Canon.l0 k l ((i+1+1:Nat):Int)) (fun k=>?_) ?_
  ·simp only [tag_Canon.l0]
   rw [if_pos (by omega),e0,if_pos (by omega),if_pos (by omega),if_pos (by omega),rdT l i (by omega),rdT l (i+1) hi,tag_order.f,strings_Compare.f,wrap_up (i+1) (by omega)]
   simp only [Option.bind_some]
   show (if Lib.compareBytes (nm l[i]) (nm l[i+1])=0 then _ else _)=_
   by_cases hn:nm l[i]=nm l[i+1]
   ·rw [if_pos hn,if_pos ((cmp_zero _ _).2 hn)]
   ·rw [if_neg hn,if_neg (fun h=>hn ((cmp_zero _ _).1 h))]
  ·by_cases hn:nm l[i]=nm l[i+1]
   ·refine Ev_if_pos hn ?_
    rw [decide_eq_true hn,Bool.true_or,if_pos rfl];exact Ev.now _
   ·refine Ev_if_neg hn ?_
    rw [decide_eq_false hn,Bool.false_or];exact canon_loop l hl d (i+1) (by omega)
theorem may_f (t:TG):tag_may.f t.f0 t.f1=some (mayT t):=by
 unfold tag_may.f mayT
 rw [name_f]
 simp only [Option.bind_some]
 cases nameL (bl t.f0) with
 | false=>rw [if_neg (by simp)];rfl
 | true=>rw [if_pos rfl,value_f];rfl
theorem bad_loop (l:List TG) (hl:l.length≤1000000):∀ (d i:Nat),i+d=l.length→∃ r:Int,Ev (fun k=>slices_IndexFunc_Tag_by_tag_Canon_1.l0 k l (l.length:Int) (i:Int)) r∧(0≤r↔¬ (l.drop i).all mayT=true)
 | 0,i,hd=>by
  refine ⟨-1,Ev.step (f:=fun _=>some (-1)) (fun k=>?_) (Ev.now _),?_⟩
  ·simp only [slices_IndexFunc_Tag_by_tag_Canon_1.l0];rw [if_neg (by omega)]
  ·rw [List.drop_of_length_le (by omega)];simp
 | d+1,i,hd=>by
  have hi:i<l.length:=by omega
  obtain ⟨r,h1,h2⟩:=bad_loop l hl d (i+1) (by omega)
  rw [drop_cons l i hi,List.all_cons]
  have hst:∀ k,slices_IndexFunc_Tag_by_tag_Canon_1.l0 (k+1) l (l.length:Int) (i:Int)=if mayT l[i]=true then slices_IndexFunc_Tag_by_tag_Canon_1.l0 k l (l.length:Int) ((i+1:Nat):Int) else some (i:Int):=by
   intro k
   simp only [slices_IndexFunc_Tag_by_tag_Canon_1.l0]
   rw [if_pos (by omega),if_pos (by omega),if_pos (by omega),rdT l i hi,tag_Canon_1.f,may_f,wrap_up i (by omega)]
   simp only [Option.bind_some]
   cases mayT l[i]<;>simp
  cases hm:mayT l[i] with
  | true=>exact ⟨r,Ev.step (fun k=>hst k) (Ev_if_pos hm h1),by simpa using h2⟩
  | false=>exact ⟨i,Ev.step (fun k=>hst k) (Ev_if_neg (by simp [hm]) (Ev.now _)),by simp⟩
theorem canon_ev (l:List TG) (hl:l.length≤1000000):Ev (fun k=>tag_Canon.f k l) (canonT l):=by
 unfold tag_Canon.f canonT slices_ContainsFunc_Tag_by_tag_Canon_1.f slices_IndexFunc_Tag_by_tag_Canon_1.f
 obtain ⟨r,h1,h2⟩:=bad_loop l hl l.length 0 (by omega)
 rw [List.drop_zero] at h2
 refine Ev.bind (a:=decide (r≥0)) (Ev.bind h1 (Ev.now _)) ?_
 by_cases ha:l.all mayT=true
 ·rw [if_pos ha]
  refine Ev_if_neg (by rw [decide_eq_true_eq];intro h;exact h2.1 h ha) ?_
  by_cases h4:4<l.length
  ·rw [if_pos h4];exact Ev_if_pos (by omega) (Ev.now _)
  ·rw [if_neg h4]
   refine Ev_if_neg (by omega) ?_
   refine Ev_bind0 (a:=l) (by simp [slices_Clone_Tag.f];omega) ?_
   refine Ev_bind0 (a:=srt l) (by rw [slices_SortFunc_Tag_by_tag_order.f,if_pos (by omega)]) ?_
   show Ev (fun n=>tag_Canon.l0 n (srt l) 1) (match insAll [] l with|some o=>(o,0)|none=>([],5))
   rw [← canon_scan l]
   have hlen:(srt l).length=l.length:=(srt_spec l).1.length_eq
   by_cases h0:(srt l).length=0
   ·have e:srt l=[]:=List.length_eq_zero_iff.1 h0
    rw [e]
    refine Ev.step (f:=fun _=>some (([]:List TG),0)) (fun k=>?_) (by simpa [adj] using Ev.now _)
    simp only [tag_Canon.l0];rw [if_neg (by simp)]
   ·have:=canon_loop (srt l) (by omega) ((srt l).length - 1) 0 (by omega)
    simpa using this
 ·rw [if_neg ha]
  exact Ev_if_pos (by rw [decide_eq_true_eq];exact h2.2 ha) (Ev.now _)
end Go.Proofs.YtbefmicenjdfkaaDoor.Pure
