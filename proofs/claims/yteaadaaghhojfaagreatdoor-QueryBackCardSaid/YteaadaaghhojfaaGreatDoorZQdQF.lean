import Derived.Test.YteaadaaghhojfaaGreatDoorZQdPQux11
import Derived.Test.YteaadaaghhojfaaGreatDoorZQdQE
namespace Go.Proofs.YteaadaaghhojfaaGreatDoor.Pure
open Go.RowKit Go.Proofs.YteaadaaghhojfaaGreatDoor.PQu Go.Proofs.YteaadaaghhojfaaGreatDoorW.PrintWords Go.Proofs.YteaadaaghhojfaaGreatDoorW.PrintLast Go.Proofs.YteaadaaghhojfaaGreatDoorW.PrintMore Go.Proofs.YteaadaaghhojfaaGreatDoorW.XP Go.Proofs.YteaadaaghhojfaaGreatDoorW.XW
set_option linter.unusedVariables false
set_option linter.unusedSimpArgs false
theorem splitB_join (c:UInt8) (x:ByteArray) (l:List ByteArray) (h:∀ y∈x ::l,c ∉ bl y):splitB c (joinB (mkB [c]) (x ::l))=x ::l:=by
 unfold splitB joinB
 rw [bl_mk (Lib.join ((x ::l).map bl) (bl (mkB [c]))),bl_mkB,List.map_cons,split_join]
 ·simp [mk_bl,Function.comp_def]
 ·intro y hy
  rcases List.mem_cons.1 hy with rfl|hy
  ·exact h x List.mem_cons_self
  ·obtain ⟨u,hu,rfl⟩:=List.mem_map.1 hy
   exact h u (List.mem_cons_of_mem _ hu)
theorem tl_no (c:UInt8) (sep:List UInt8) (hs:c ∉ sep):∀ l:List (List UInt8),(∀ y∈l,c ∉ y)→c ∉ tl sep l
 | [],_=>by simp [Lib.joinTail]
 | x ::l,h=>by
  rw [tl_cons]
  intro k
  rcases List.mem_append.1 k with k|k
  ·rcases List.mem_append.1 k with k|k
   ·exact hs k
   ·exact h x List.mem_cons_self k
  ·exact tl_no c sep hs l (fun y hy=>h y (List.mem_cons_of_mem _ hy)) k
theorem join_no (c:UInt8) (sep:ByteArray) (hs:c ∉ bl sep) (l:List ByteArray) (h:∀ y∈l,c ∉ bl y):c ∉ bl (joinB sep l):=by
 cases l with
 | nil=>rw [joinB_nil];intro k;cases k
 | cons x l =>
  rw [joinB_cons]
  intro k
  rcases List.mem_append.1 k with k|k
  ·exact h x List.mem_cons_self k
  ·refine tl_no c (bl sep) hs (l.map bl) (fun y hy=>?_) k
   obtain ⟨u,hu,rfl⟩:=List.mem_map.1 hy
   exact h u (List.mem_cons_of_mem _ hu)
theorem match_no {m:MT} (h:mayM m=true) (c:UInt8) (h1:inNameB c=false) (h2:inValB c=false) (h3:c≠33) (h4:c≠61) (h5:c≠42):c ∉ bl (matchB m):=by
 obtain ⟨hn,hv⟩:=mayM_parts h
 have hn':=name_no _ hn c h1
 have hv':c ∉ bl m.f2:=by
  rcases hv with ⟨_,hv⟩|⟨_,hv⟩|⟨_,hv|hv⟩|⟨_,hv⟩
  ·exact value_no _ hv c h2
  ·exact value_no _ hv c h2
  ·rw [hv];intro k;cases k
  ·exact value_no _ hv c h2
  ·rw [hv];intro k;cases k
 unfold matchB
 split
 ·rw [bl_join2,bl_mkB];simp only [List.mem_append,List.mem_cons,List.not_mem_nil,or_false];rintro ((k|k)|k)
  ·exact hn' k
  ·exact h4 k
  ·exact hv' k
 ·split
  ·rw [bl_join2,bl_mkB];simp only [List.mem_append,List.mem_cons,List.not_mem_nil,or_false];rintro ((k|k|k)|k)
   ·exact hn' k
   ·exact h3 k
   ·exact h4 k
   ·exact hv' k
  ·split
   ·rw [bl_join2,bl_append,bl_mkB,bl_mkB];simp only [List.mem_append,List.mem_cons,List.not_mem_nil,or_false];rintro ((k|k)|k|k)
    ·exact hn' k
    ·exact h4 k
    ·exact hv' k
    ·exact h5 k
   ·exact hn'
theorem idx2_none:∀ l:List UInt8,(33:UInt8) ∉ l→Lib.index l [33,61] = -1
 | [],_=>rfl
 | b ::l,h=>by
  have hb:b≠33:=fun e=>h (by rw [e];simp)
  rw [Lib.index,if_neg (by simp only [List.isPrefixOf,Bool.and_eq_true,beq_iff_eq];exact fun e=>hb e.1.symm),idx2_none l (fun k=>h (List.mem_cons_of_mem _ k))];rfl
theorem idx2_app (y:List UInt8):∀ x:List UInt8,(33:UInt8) ∉ x→Lib.index (x++33 ::61 ::y) [33,61]=(x.length:Int)
 | [],_=>by rw [List.nil_append,Lib.index,if_pos (by simp [List.isPrefixOf])];rfl
 | b ::x,h=>by
  have hb:b≠33:=fun e=>h (by rw [e];simp)
  rw [List.cons_append,Lib.index,if_neg (by simp only [List.isPrefixOf,Bool.and_eq_true,beq_iff_eq];exact fun e=>hb e.1.symm),idx2_app y x (fun k=>h (List.mem_cons_of_mem _ k)),if_neg (by simp),List.length_cons]
  omega
theorem endC_no (c:UInt8) (l:List UInt8) (h:c ∉ l):endC c l=false:=by
 unfold endC
 rw [decide_eq_false_iff_not]
 exact fun e=>h (List.mem_of_getElem? e)
theorem part_match (m:MT) (h:mayM m=true):partM (matchB m)=m:=by
 obtain ⟨m0,m1,m2⟩:=m
 obtain ⟨hn,hv⟩:=mayM_parts h
 simp only at hn hv
 have n33:=name_no _ hn 33 (by decide+kernel)
 have n61:=name_no _ hn 61 (by decide+kernel)
 have vno:∀ c,inValB c=false→valueL (bl m2)=true→c ∉ bl m2:=fun c hc hv=>value_no _ hv c hc
 rcases hv with ⟨rfl,hv⟩|⟨rfl,hv⟩|⟨rfl,hv⟩|⟨rfl,hv⟩
 ·have e:bl (matchB ⟨1,m1,m2⟩)=bl m1++61 ::bl m2:=by unfold matchB;rw [if_pos rfl,bl_join2,bl_mkB];simp
  have h33:neAt (matchB ⟨1,m1,m2⟩) = -1:=idx2_none _ (by rw [e];intro k;rcases List.mem_append.1 k with k|k;exact n33 k;rcases List.mem_cons.1 k with k|k;exact absurd k (by decide);exact vno 33 (by decide+kernel) hv k)
  have hc:=cut_app 61 m1 m2 _ e n61
  unfold partM
  rw [h33,if_neg (by decide),hc,if_pos rfl,if_neg (by rw [endC_no 42 _ (vno 42 (by decide+kernel) hv)];simp)]
 ·have e:bl (matchB ⟨2,m1,m2⟩)=bl m1++33 ::61 ::bl m2:=by unfold matchB;rw [if_neg (show ¬ ((2:Int)=1) by decide),if_pos rfl,bl_join2,bl_mkB];simp
  have h33:neAt (matchB ⟨2,m1,m2⟩)=((bl m1).length:Int):=by unfold neAt;rw [e];exact idx2_app _ _ n33
  unfold partM
  rw [h33,if_pos (by omega),e,Int.toNat_natCast,List.take_left',List.drop_append,List.drop_of_length_le (by omega)]
  ·simp [mkB_bl]
  ·rfl
 ·have e:bl (matchB ⟨3,m1,m2⟩)=bl m1++61 ::bl (m2++mkB [42]):=by unfold matchB;rw [if_neg (show ¬ ((3:Int)=1) by decide),if_neg (show ¬ ((3:Int)=2) by decide),if_pos rfl,bl_join2,bl_mkB];simp
  have hno:∀ c,inValB c=false→c ∉ bl m2:=fun c hc=>by
   rcases hv with hv|hv
   ·rw [hv];intro k;cases k
   ·exact vno c hc hv
  have h33:neAt (matchB ⟨3,m1,m2⟩) = -1:=idx2_none _ (by
   rw [e,bl_append,bl_mkB];intro k
   rcases List.mem_append.1 k with k|k
   ·exact n33 k
   rcases List.mem_cons.1 k with k|k
   ·exact absurd k (by decide)
   rcases List.mem_append.1 k with k|k
   ·exact hno 33 (by decide+kernel) k
   ·exact absurd k (by decide))
  have hc:=cut_app 61 m1 (m2++mkB [42]) _ e n61
  unfold partM
  rw [h33,if_neg (by decide),hc,if_pos rfl,bl_append,bl_mkB,if_pos (by unfold endC;simp),List.dropLast_concat,mkB_bl]
 ·have e:matchB ⟨4,m1,m2⟩=m1:=by unfold matchB;rw [if_neg (show ¬ ((4:Int)=1) by decide),if_neg (show ¬ ((4:Int)=2) by decide),if_neg (show ¬ ((4:Int)=3) by decide)]
  have h33:neAt m1 = -1:=idx2_none _ n33
  have hc:(cutB 61 m1).2.2=false:=by
   have hm:=idx_mem (bl m1) 61
   unfold cutB
   rw [if_pos]
   by_cases h5:0≤Lib.indexByte (bl m1) 61
   ·exact absurd (hm.1 h5) n61
   ·omega
  rw [e]
  unfold partM
  rw [h33,if_neg (by decide),if_neg (by rw [hc];simp)]
  congr 1
  exact (bl_inj (by rw [hv];rfl)).symm
theorem go_map:∀ (l acc:List MT),(∀ t∈l,mayM t=true)→goM acc (l.map matchB)=if (acc++l).length>4 then ([],4) else (acc++l,0)
 | [],acc,_=>by rw [List.map_nil,goM,List.append_nil]
 | t ::l,acc,h=>by
  rw [List.map_cons,goM,part_match t (h t List.mem_cons_self),if_pos (h t List.mem_cons_self),go_map l (acc++[t]) (fun u hu=>h u (List.mem_cons_of_mem _ hu))]
  simp
theorem match_ne {t:MT} (h:mayM t=true):bl (matchB t)≠[]:=by
 have:=name_len _ (mayM_parts h).1
 have hne:bl t.f1≠[]:=fun e=>by rw [e] at this;simp at this
 unfold matchB
 split
 ·rw [bl_join2];simp [hne]
 ·split
  ·rw [bl_join2];simp [hne]
  ·split
   ·rw [bl_join2];simp [hne]
   ·exact hne
theorem textM_ne {t:MT} {l:List MT} (h:mayM t=true):bl (textM (t ::l))≠[]:=by
 unfold textM
 rw [List.map_cons,joinB_cons];simp [match_ne h]
theorem parseM_text (l:List MT) (h:rightM l=true):parseM (textM l)=(l,0):=by
 obtain ⟨h1,h2⟩:=rightM_parts h
 cases l with
 | nil=>rfl
 | cons t r =>
  unfold parseM
  rw [if_neg (textM_ne (h2 t List.mem_cons_self))]
  have e:splitB 44 (textM (t ::r))=(t ::r).map matchB:=by
   unfold textM
   rw [List.map_cons]
   refine splitB_join 44 _ _ (fun y hy=>?_)
   rw [← List.map_cons] at hy
   obtain ⟨u,hu,rfl⟩:=List.mem_map.1 hy
   exact match_no (h2 u hu) 44 (by decide+kernel) (by decide+kernel) (by decide) (by decide) (by decide)
  rw [e,go_map _ _ h2,List.nil_append,if_neg (by omega)]
theorem cut_ser (n:ByteArray) (m:List MT) (hn:nameL (bl n)=true) (hm:rightM m=true):cutK (serB n m)=(n,textM m,true):=by
 have hno:=name_no _ hn 123 (by decide+kernel)
 by_cases h0:m.length=0
 ·obtain rfl:=List.length_eq_zero_iff.1 h0
  rw [show serB n []=n by simp [serB]]
  unfold cutK
  have e:cutB 123 n=(n,NoB,false):=by
   have hx:=idx_mem (bl n) 123
   unfold cutB
   rw [if_pos]
   by_cases h5:0≤Lib.indexByte (bl n) 123
   ·exact absurd (hx.1 h5) hno
   ·omega
  rw [e,if_neg (by simp)];rfl
 ·have e:cutB 123 (serB n m)=(n,mkB (bl (textM m)++[125]),true):=cut_app 123 _ _ _ (by rw [bl_ser n m h0,bl_mkB];simp) hno
  have hne:bl (textM m)≠[]:=by
   cases m with
   | nil=>simp at h0
   | cons t r=>exact textM_ne ((rightM_parts hm).2 t List.mem_cons_self)
  unfold cutK
  rw [e,if_pos rfl,bl_mkB,List.dropLast_concat,if_pos (by unfold endsL;simp),if_neg hne,mkB_bl]
theorem fields_join (x:ByteArray) (l:List ByteArray) (h:∀ y∈x ::l,(32:UInt8) ∉ bl y∧bl y≠[]):fieldsB (joinB (mkB [32]) (x ::l))=x ::l:=by
 unfold fieldsB
 rw [splitB_join 32 x l (fun y hy=>(h y hy).1)]
 exact List.filter_eq_self.2 (fun y hy=>decide_eq_true (h y hy).2)
theorem parse_textQ (a:Int) (n:ByteArray) (m:List MT) (b:List ByteArray) (h:rightQ a n m b=true):parseQ (textQ a n m b)=(a,n,m,b,0):=by
 obtain ⟨⟨ha1,ha4⟩,hn,hm,hb⟩:=rightQ_parts h
 have hbp:=namesS_parts hb
 have hmp:=rightM_parts hm
 have hagg:=agg_name a ha1 ha4
 have w0:(32:UInt8) ∉ bl (nameN a)∧bl (nameN a)≠[]:=by
  have:a=1∨a=2∨a=3∨a=4:=by omega
  rcases this with rfl|rfl|rfl|rfl<;>exact ⟨by decide,by decide⟩
 have n32:=name_no _ hn 32 (by decide+kernel)
 have nne:bl n≠[]:=fun e=>by have:=name_len _ hn;rw [e] at this;simp at this
 have w1:(32:UInt8) ∉ bl (serB n m)∧bl (serB n m)≠[]:=by
  by_cases h0:m.length=0
  ·unfold serB;rw [if_pos h0];exact ⟨n32,nne⟩
  ·rw [bl_ser n m h0]
   have ht:(32:UInt8) ∉ bl (textM m):=join_no 32 (mkB [44]) (by decide) _ (fun y hy=>by
    obtain ⟨u,hu,rfl⟩:=List.mem_map.1 hy
    exact match_no (hmp.2 u hu) 32 (by decide+kernel) (by decide+kernel) (by decide) (by decide) (by decide))
   refine ⟨fun k=>?_,by simp [nne]⟩
   simp only [List.mem_append,List.mem_cons,List.not_mem_nil,or_false] at k
   rcases k with k|k|k|k
   ·exact n32 k
   ·exact absurd k (by decide)
   ·exact ht k
   ·exact absurd k (by decide)
 have hser:seriesQ (serB n m)=(0,n,m):=by
  unfold seriesQ
  rw [cut_ser n m hn hm,if_pos rfl,if_pos hn,parseM_text m hm]
 unfold parseQ textQ
 rw [if_pos h]
 unfold wordsQ
 by_cases h0:b.length=0
 ·obtain rfl:=List.length_eq_zero_iff.1 h0
  rw [if_pos h0,fields_join _ _ (fun y hy=>by
   simp only [List.mem_cons,List.not_mem_nil,or_false] at hy
   rcases hy with rfl|rfl
   ·exact w0
   ·exact w1)]
  show finQ (rd1Q (nameN a) (serB n m) none)=_
  unfold rd1Q
  rw [hagg,hser,if_neg (by omega),if_pos rfl]
  unfold finQ
  rw [show partsQ none=[] from rfl,names_nil,if_pos rfl]
 ·rw [if_neg h0]
  obtain ⟨x,r,rfl⟩:∃ x r,b=x ::r:=by cases b with
   | nil=>simp at h0
   | cons x r=>exact ⟨x,r,rfl⟩
  have hj:(32:UInt8) ∉ bl (joinB (mkB [44]) (x ::r))∧bl (joinB (mkB [44]) (x ::r))≠[]:=by
   refine ⟨join_no 32 (mkB [44]) (by decide) _ (fun y hy=>name_no _ (hbp.2.2 y hy) 32 (by decide+kernel)),?_⟩
   have:=name_len _ (hbp.2.2 x List.mem_cons_self)
   rw [joinB_cons]
   intro e
   rw [(List.append_eq_nil_iff.1 e).1] at this;simp at this
  rw [fields_join _ _ (fun y hy=>by
   simp only [List.mem_cons,List.not_mem_nil,or_false] at hy
   rcases hy with rfl|rfl|rfl|rfl
   ·exact w0
   ·exact w1
   ·exact ⟨by decide,by decide⟩
   ·exact hj)]
  show finQ (if bl (mkB [98,121])=[98,121] then rd1Q (nameN a) (serB n m) (some (joinB (mkB [44]) (x ::r))) else bad2 2)=_
  rw [if_pos (bl_mkB [98,121])]
  have hsp:partsQ (some (joinB (mkB [44]) (x ::r)))=x ::r:=splitB_join 44 x r (fun y hy=>name_no _ (hbp.2.2 y hy) 44 (by decide+kernel))
  unfold rd1Q
  rw [hagg,hser,if_neg (by omega),if_pos rfl,hsp,hb]
  unfold finQ
  rw [if_pos rfl]
theorem go_out:∀ (ps:List ByteArray) (acc:List MT),(∀ t∈acc,mayM t=true)→(goM acc ps).2=0→rightM (goM acc ps).1=true
 | [],acc,h,h0=>by
  rw [goM] at h0 ⊢
  by_cases h4:acc.length>4
  ·rw [if_pos h4] at h0;exact absurd h0 (by decide)
  ·rw [if_neg h4]
   unfold rightM
   rw [Bool.and_eq_true,decide_eq_true_eq,List.all_eq_true]
   exact ⟨by show acc.length≤4;omega,h⟩
 | x ::r,acc,h,h0=>by
  rw [goM] at h0 ⊢
  by_cases hm:mayM (partM x)=true
  ·rw [if_pos hm] at h0 ⊢
   exact go_out r _ (fun t ht=>by
    rcases List.mem_append.1 ht with ht|ht
    ·exact h t ht
    ·simp only [List.mem_cons,List.not_mem_nil,or_false] at ht;rw [ht];exact hm) h0
  ·rw [if_neg hm] at h0;exact absurd h0 (by decide)
theorem parseM_out (s:ByteArray) (h:(parseM s).2=0):rightM (parseM s).1=true:=by
 unfold parseM at h ⊢
 by_cases h0:bl s=[]
 ·rw [if_pos h0];rfl
 ·rw [if_neg h0] at h ⊢;exact go_out _ _ (fun t ht=>by cases ht) h
theorem rd1_out (x0 x1:ByteArray) (o:Option ByteArray):(rd1Q x0 x1 o).1=0→rightQ (rd1Q x0 x1 o).2.1 (rd1Q x0 x1 o).2.2.1 (rd1Q x0 x1 o).2.2.2.1 (rd1Q x0 x1 o).2.2.2.2=true:=by
 unfold rd1Q
 by_cases ha:aggN x0=0
 ·rw [if_pos ha];exact fun h=>absurd h (by decide)
 ·rw [if_neg ha]
  have hr:=(agg_range x0).resolve_left ha
  by_cases hs:(seriesQ x1).1=0
  ·rw [if_pos hs]
   intro hn
   have hk:nameL (bl (seriesQ x1).2.1)=true∧rightM (seriesQ x1).2.2=true:=by
    unfold seriesQ at hs ⊢
    by_cases h1:(cutK x1).2.2=true
    ·rw [if_pos h1] at hs ⊢
     by_cases h2:nameL (bl (cutK x1).1)=true
     ·rw [if_pos h2] at hs ⊢;exact ⟨h2,parseM_out _ hs⟩
     ·rw [if_neg h2] at hs;exact absurd hs (by decide)
    ·rw [if_neg h1] at hs;exact absurd hs (by decide)
   unfold rightQ
   simp only [Bool.and_eq_true,decide_eq_true_eq]
   exact ⟨⟨hr.1,hr.2.1⟩,hk.1,hk.2,hn⟩
  ·rw [if_neg hs];exact fun h=>absurd h hs
theorem rd_out (l:List ByteArray):(rdQ l).1=0→rightQ (rdQ l).2.1 (rdQ l).2.2.1 (rdQ l).2.2.2.1 (rdQ l).2.2.2.2=true:=by
 match l with
 | [x0,x1]=>exact rd1_out x0 x1 none
 | [x0,x1,x2,x3] =>
  show (if bl x2=[98,121] then rd1Q x0 x1 (some x3) else bad2 2).1=0→rightQ (if bl x2=[98,121] then rd1Q x0 x1 (some x3) else bad2 2).2.1 _ _ _=true
  by_cases h:bl x2=[98,121]
  ·simp only [rdQ,if_pos h];exact rd1_out x0 x1 (some x3)
  ·simp only [rdQ,if_neg h];exact fun h=>absurd h (by decide)
 | []=>exact fun h=>absurd h (by decide)
 | [_]=>exact fun h=>absurd h (show ¬ ((2:Int)=0) by decide)
 | [_,_,_]=>exact fun h=>absurd h (show ¬ ((2:Int)=0) by decide)
 | _ ::_ ::_ ::_ ::_ ::_=>exact fun h=>absurd h (show ¬ ((2:Int)=0) by decide)
theorem parseQ_out (s:ByteArray):((parseQ s).2.2.2.2=0∧rightQ (parseQ s).1 (parseQ s).2.1 (parseQ s).2.2.1 (parseQ s).2.2.2.1=true)∨((parseQ s).2.2.2.2≠0∧(parseQ s).1=0∧(parseQ s).2.1=NoB∧(parseQ s).2.2.1=[]∧(parseQ s).2.2.2.1=[]):=by
 unfold parseQ finQ
 by_cases h:(rdQ (fieldsB s)).1=0
 ·rw [if_pos h];exact .inl ⟨rfl,rd_out _ h⟩
 ·rw [if_neg h];exact .inr ⟨h,rfl,rfl,rfl,rfl⟩
theorem rightQ_len {a:Int} {n:ByteArray} {m:List MT} {b:List ByteArray} (h:rightQ a n m b=true):m.length≤4∧b.length≤4:=by
 obtain ⟨_,_,hm,hb⟩:=rightQ_parts h
 exact ⟨(rightM_parts hm).1,(namesS_parts hb).1⟩
theorem parseQ_len (s:ByteArray):(parseQ s).2.2.1.length≤4∧(parseQ s).2.2.2.1.length≤4:=by
 rcases parseQ_out s with ⟨_,h⟩|⟨_,_,_,h1,h2⟩
 ·exact rightQ_len h
 ·rw [h1,h2];simp
theorem qalive_ev:Ev (fun k=>ebbtidelaw07_alive.f k) true:=by
 unfold ebbtidelaw07_alive.f
 refine Ev.bind (qparse_ev _ (by decide)) (Ev.bind (qparse_ev _ (by decide)) (Ev.bind (qparse_ev _ (by decide)) (Ev.bind (rkeyparse_ev _ (by decide)) ?_)))
 refine Ev_if_pos (by decide+kernel) (Ev_if_pos (by decide+kernel) (Ev_if_pos (by decide+kernel) (Ev_if_pos (by decide+kernel) ?_)))
 refine Ev_if_pos (by rw [toList_bl];decide+kernel) (Ev_if_pos (by decide+kernel) (Ev_if_pos (by decide+kernel) ?_))
 refine Ev.bind (qtext_ev _ _ _ _ (by decide+kernel) (by decide+kernel)) (Ev_if_pos (by rw [toList_bl];decide+kernel) ?_)
 refine Ev.bind (qright_ev _ _ _ _ (by decide+kernel) (by decide+kernel)) (Ev_if_pos (by decide+kernel) ?_)
 refine Ev.bind (qfits_ev _ _ _ _ _ _ (by decide+kernel) (by decide+kernel)).1 (Ev_if_pos (by decide+kernel) ?_)
 refine Ev.bind (qgroup_ev _ _ _ _ _ _ (by decide+kernel) ((rightK_fit (n:=⟨#[97]⟩) (by decide+kernel)).2.1)).1 (Ev_if_pos (by rw [toList_bl];decide+kernel) ?_)
 refine Ev.bind (qsame_ev _ _ _ _ _ _ _ _ (by decide+kernel) (by decide+kernel)) (Ev_if_pos (by decide+kernel) ?_)
 refine Ev.bind (qsame_ev _ _ _ _ _ _ _ _ (by decide+kernel) (by decide+kernel)) ?_
 exact Ev_const (by decide+kernel)
end Go.Proofs.YteaadaaghhojfaaGreatDoor.Pure
