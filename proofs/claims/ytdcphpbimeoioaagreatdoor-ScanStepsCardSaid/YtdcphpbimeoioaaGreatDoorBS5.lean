/- A part of the proof: ZSGZ4, ZSGZ5. No condition. -/
import Derived.Test.YtdcphpbimeoioaaGreatDoorBS4
section
set_option linter.unusedSectionVars false
namespace Go.Proofs.YtdcphpbimeoioaaGreatDoorE
open Go Go.Proofs
set_option linter.unusedVariables false
set_option linter.unusedSimpArgs false
theorem lastI_snoc (f:Int) (v:VS):∀ l:List VS,lastI f (l++[v])=if v.1≤f then some l.length else lastI f l
 | []=>by simp [lastI]
 | u ::l=>by
  have ih:=lastI_snoc f v l
  rw [List.cons_append,lastI,ih,lastI]
  by_cases h:v.1≤f
  ·simp [h]
  ·simp [h]
theorem at_last (st:Int):∀ l:List VS,match lastI st l with|some j=>∃ h:j<l.length,atO st l=some (l[j].2.1)|none=>atO st l=none
 | []=>rfl
 | v ::r=>by
  have ih:=at_last st r
  rw [lastI,atO]
  cases hl:lastI st r with
  | some j =>
   rw [hl] at ih
   simp only at ih
   obtain ⟨h,e⟩:=ih
   exact ⟨by simp;omega,by rw [e];simp⟩
  | none =>
   rw [hl] at ih
   simp only at ih
   rw [ih]
   by_cases h:v.1≤st
   ·simp [h]
   ·simp [h]
theorem newest_l0 (n:Nat) (l:List VS) (st:Int) (hl:l.length≤1000000):∀ (k g:Nat),k≤l.length→k<g →
  chain_newest_l0 n g (l,st,(k:Int) - 1,())=some (match lastI st (l.take k) with|some j => .inr ((j:Int),())|none => .inl ())
 | 0,g,hk,hg=>by
  obtain ⟨g,rfl⟩:∃ g',g=g'+1:=⟨g - 1,by omega⟩
  simp [chain_newest_l0,lastI]
 | k+1,g,hk,hg=>by
  obtain ⟨g,rfl⟩:∃ g',g=g'+1:=⟨g - 1,by omega⟩
  have hi:k<l.length:=by omega
  have c0:(0:Int)≤k:=by omega
  have e1:((k+1:Nat):Int) - 1=(k:Int):=by omega
  have e2:isub .i64 (k:Int) 1=(k:Int) - 1:=isub64 (by omega) (by omega)
  have ih:=newest_l0 n l st hl k g (by omega) (by omega)
  have e3:l.take (k+1)=l.take k++[l[k]]:=by rw [List.take_add_one,List.getElem?_eq_getElem hi];rfl
  have e4:(l.take k).length=k:=by rw [List.length_take];omega
  rw [e1,e3,lastI_snoc,e4]
  simp only [chain_newest_l0,ile_eq,c0,decide_true,cond_true,lat_eq,iN,Int.toNat_natCast,List.getElem?_eq_getElem hi,bindN_s,e2,ih,bindL_id1,bindL_id]
  by_cases h:l[k].1≤st<;>simp [h]
theorem chain_At_v {n:Nat} (hn:Big n) (l:List VS) (st:Int) (hl:l.length≤1000000):chain_At n (l,st,())=some ((atC l st,()),((),(),())):=by
 have h:=newest_l0 n l st hl l.length n (Nat.le_refl _) (by unfold Big at hn;omega)
 rw [List.take_length] at h
 have e2:isub .i64 (l.length:Int) 1=(l.length:Int) - 1:=isub64 (by omega) (by omega)
 have ha:=at_last st l
 unfold atC
 simp only [chain_At,chain_newest,ilen,e2,h]
 cases hq:lastI st l with
 | none =>
  rw [hq] at ha
  simp only at ha
  simp [ha,zCL]
 | some j =>
  rw [hq] at ha
  simp only at ha
  obtain ⟨hj,e⟩:=ha
  have c0:(0:Int)≤(j:Int):=by omega
  simp only [bindL_inr,bindN_s,ile_eq,c0,decide_true,cond_true,lat_eq,iN,Int.toNat_natCast,List.getElem?_eq_getElem hj,e,Option.getD_some]
theorem shard_dropped_v {n:Nat} (hn:Big n) (ds:List DR) (w st:Int) (hl:ds.length≤1000000):shard_dropped n (ds,w,st,())=some ((dropD ds w st,()),((),(),(),())):=by
 have hL:=find_loop' (a:=ds) (fun d=>decide (d.1=w) && decide (d.2.1≤st)) ((w,st,()),()) (fun i=>((w,st,()),i,())) (L:=fun g i=>sl_IndexDrop_l0 n g (ds,(w,st,()),(ds.length:Int),i,())) (fun g=>by simp [sl_IndexDrop_l0]) (fun g i hi=>by
  have k:(i:Int)<(ds.length:Int):=by omega
  have k0:(0:Int)≤i:=by omega
  simp only [sl_IndexDrop_l0,ilt_eq,ile_eq,ieq_eq,k,k0,decide_true,cond_true,lat_eq,iN,Int.toNat_natCast,List.getElem?_eq_getElem hi,bindN_s,shard_dropped1,iadd1 (i:=i) (by omega),bindL_id1]
  by_cases h1:ds[i].1=w
  ·by_cases h2:ds[i].2.1≤st<;>simp [h1,h2]
  ·simp [h1]) (g:=n) (by unfold Big at hn;omega)
 unfold shard_dropped sl_ContainsDrop sl_IndexDrop dropD
 simp only [ilen,hL]
 rcases idx_any (fun d:DR=>decide (d.1=w) && decide (d.2.1≤st)) ds with ⟨h1,h2⟩|⟨q,h1,h2⟩
 ·rw [h1,h2];simp
 ·have:(0:Int)≤q:=by omega
  rw [h1,h2];simp [this]
theorem sread_l0 {n:Nat} (hn:Big n) (s:SH) (hs:FitS s) (st:Int) (ds:List DR) (hd':ds.length≤1000000):∀ (d i g:Nat) (acc:List IT),i+d=s.1.length→acc.length≤i→d<g →
  shard_Read_l0 n g (st,ds,acc,s.1,(s.1.length:Int),(i:Int),())=some (.inl (acc++(s.1.drop i).filterMap (readE st ds),()))
 | 0,i,g,acc,hd,ha,hg=>by
  obtain ⟨g,rfl⟩:∃ g',g=g'+1:=⟨g - 1,by omega⟩
  have k:¬ (i:Int)<(s.1.length:Int):=by omega
  rw [List.drop_of_length_le (by omega)]
  simp [shard_Read_l0,k]
 | d+1,i,g,acc,hd,ha,hg=>by
  obtain ⟨g,rfl⟩:∃ g',g=g'+1:=⟨g - 1,by omega⟩
  have hs1:=hs.1
  have hi:i<s.1.length:=by omega
  have k:(i:Int)<(s.1.length:Int):=by omega
  have k0:(0:Int)≤i:=by omega
  have hA:=chain_At_v hn s.1[i].2.2.1 st (by have:=hs.2 _ (List.getElem_mem hi);omega)
  have hD:=shard_dropped_v hn ds s.1[i].1 st hd'
  have hE:cell_Empty n (atC s.1[i].2.2.1 st,())=some ((decide ((atC s.1[i].2.2.1 st).1<1),()),((),())):=by simp [cell_Empty]
  have r1:room (acc.length+1) 64=true:=room_of (by omega)
  have ih1:=fun x=>sread_l0 hn s hs st ds hd' d (i+1) g (acc++[x]) (by omega) (by simp;omega) (by omega)
  have ih2:=sread_l0 hn s hs st ds hd' d (i+1) g acc (by omega) (by omega) (by omega)
  rw [drop_eq hi,List.filterMap_cons]
  simp only [shard_Read_l0,ilt_eq,ile_eq,k,k0,decide_true,cond_true,lat_eq,iN,Int.toNat_natCast,List.getElem?_eq_getElem hi,bindN_s,hA,hD,hE,roomA,List.length_singleton,r1,app,iadd1 (i:=i) (by omega),bindL_id2,ih1,ih2]
  unfold readE
  generalize hc:atC s.1[i].2.2.1 st=c
  by_cases h1:(1:Int)≤c.1
  ·have h1':¬ c.1<1:=Int.not_lt.2 h1
   cases h2:dropD ds s.1[i].1 st<;>simp [h1,h1']
  ·have h1':c.1<1:=Int.not_le.1 h1
   cases h2:dropD ds s.1[i].1 st<;>simp [h1,h1']
theorem shard_Read_v {n:Nat} (hn:Big n) (s:SH) (hs:FitS s) (st:Int) (ds:List DR) (hd:ds.length≤1000000):shard_Read n (s,st,ds,())=some ((readS s st ds,()),((),(),(),())):=by
 have h:=sread_l0 hn s hs st ds hd s.1.length 0 n [] (by omega) (by simp) (by have:=hs.1;unfold Big at hn;omega)
 rw [show ((0:Nat):Int)=0 from rfl,List.drop_zero,List.nil_append] at h
 simp only [shard_Read,ilen,h,bindL_inl]
 rfl
theorem concatI_v {n:Nat} (hn:Big n) (x y:List IT) (hx:x.length≤1000000) (hy:y.length≤1000000):sl_ConcatItem n ([x,y],())=some ((x++y,()),((),())):=by
 obtain ⟨m,rfl⟩:∃ m,n=m+1+1+1:=⟨n - 3,by unfold Big at hn;omega⟩
 have e1:iadd .i64 0 (x.length:Int)=(x.length:Int):=by rw [iadd64 (by omega) (by omega)];omega
 have e2:iadd .i64 (x.length:Int) (y.length:Int)=(x.length:Int)+(y.length:Int):=iadd64 (by omega) (by omega)
 have e3:iadd .i64 0 1=1:=by decide+kernel
 have e4:iadd .i64 1 1=2:=by decide+kernel
 have k1:¬ (x.length:Int)<0:=by omega
 have k2:¬ (x.length:Int)+(y.length:Int)<0:=by omega
 have k3:(0:Int)≤(x.length:Int)+(y.length:Int):=by omega
 have r0:room ((x.length:Int)+(y.length:Int)).toNat 64=true:=room_of (by omega)
 have r1:room (0+x.length) 64=true:=room_of (by omega)
 have r2:room (x.length+y.length) 64=true:=room_of (by omega)
 have l0:lat [x,y] (iN (0:Int))=some x:=by rw [lat_eq];rfl
 have l1:lat [x,y] (iN (1:Int))=some y:=by rw [lat_eq];rfl
 have c1:decide ((0:Int)<2)=true:=rfl
 have c2:decide ((1:Int)<2)=true:=rfl
 have c3:decide ((2:Int)<2)=false:=rfl
 have d1:decide ((0:Int)≤0)=true:=rfl
 have d2:decide ((0:Int)≤1)=true:=rfl
 have el:ilen [x,y]=2:=rfl
 have h0:sl_ConcatItem_l0 (m+1+1+1) (m+1+1+1) ([x,y],(0:Int),[x,y],(2:Int),(0:Int),())=some (.inl ([x,y],(x.length:Int)+(y.length:Int),())):=by
  simp only [sl_ConcatItem_l0,ilt_eq,ile_eq,c1,c2,c3,d1,d2,cond_true,cond_false,l0,l1,bindN_s,ilen,e1,e2,e3,e4,k1,k2,decide_false,bindL_inl]
 have h1:sl_ConcatItem_l1 (m+1+1+1) (m+1+1+1) ([],[x,y],(2:Int),(0:Int),())=some (.inl (x++y,())):=by
  simp only [sl_ConcatItem_l1,ilt_eq,ile_eq,c1,c2,c3,d1,d2,cond_true,cond_false,l0,l1,bindN_s,roomA,app,List.nil_append,List.length_nil,r1,r2,e3,e4,bindL_inl]
 have hG:sl_GrowItem (m+1+1+1) ((),(x.length:Int)+(y.length:Int),())=some (([],()),((),((),()))):=by
  simp only [sl_GrowItem,ile_eq,k3,decide_true,r0,Bool.and_self,cond_true]
 simp only [sl_ConcatItem,el,h0,bindL_inl,hG,bindN_s,h1]
abbrev SC:=El tScan
def stepC (s:SC) (shards:List SH) (ds:List DR):SC :=
 if s.2.2.2.1<0 then s else match shards[s.2.2.2.1.toNat]? with|some sh=>(s.1,s.2.1,s.2.2.1,s.2.2.2.1+1,s.2.2.2.2.1++readS sh s.2.2.1 ds,())|none=>s
def FitSH (l:List SH):Prop:=l.length≤100000∧∀ s∈l,FitS s
theorem readS_len (s:SH) (st:Int) (ds:List DR):(readS s st ds).length≤s.1.length:=List.length_filterMap_le _ _
theorem stepI (n:Nat) (id:Int) (q:QY) (st nx:Int) (its:List IT) (shards:List SH) (ds:List DR) (hf:FitSH shards) (hd:ds.length≤1000000) (hi:its.length≤800000) (hn:Big n) :
  scan_Step n ((id,q,st,nx,its,()),shards,ds,())=some ((stepC (id,q,st,nx,its,()) shards ds,()),((),(),(),())) ∧
  scan_StepO n ((id,q,st,nx,its,()),shards,ds,())=some ((stepC (id,q,st,nx,its,()) shards ds,()),((),shards,(),())) ∧
  r16_Step n ((id,q,st,nx,its,()),shards,ds,())=some ((stepC (id,q,st,nx,its,()) shards ds,()),((),(),(),())):=by
 have hf1:=hf.1
 unfold stepC
 by_cases h0:nx<0
 ·simp only [scan_Step,scan_StepO,r16_Step,ilt_eq,h0,decide_true,cond_true,if_true]
  exact ⟨trivial,trivial,trivial⟩
 ·obtain ⟨k,rfl⟩:∃ k:Nat,nx=(k:Int):=⟨nx.toNat,by omega⟩
  by_cases h1:shards.length≤k
  ·have h1':(shards.length:Int)≤(k:Int):=by omega
   simp only [scan_Step,scan_StepO,r16_Step,ilt_eq,ile_eq,ilen,h0,h1',decide_true,decide_false,cond_true,cond_false,if_false,Int.toNat_natCast,List.getElem?_eq_none h1]
   exact ⟨trivial,trivial,trivial⟩
  ·have h1':¬ (shards.length:Int)≤(k:Int):=by omega
   have hk:k<shards.length:=by omega
   have c0:(0:Int)≤(k:Int):=by omega
   have hs:=hf.2 _ (List.getElem_mem hk)
   have hs1:=hs.1
   have hR:=shard_Read_v hn shards[k] hs st ds hd
   have hR':=r11_Read_v hn shards[k] hs st ds hd
   have hlen:=readS_len shards[k] st ds
   have hC:=concatI_v hn its (readS shards[k] st ds) (by omega) (by omega)
   have r1:room (0+its.length) 64=true:=room_of (by omega)
   have r2:room (its.length+(readS shards[k] st ds).length) 64=true:=room_of (by omega)
   have e1:iadd .i64 (k:Int) 1=(k:Int)+1:=iadd1 (i:=k) (by omega)
   simp only [scan_Step,scan_StepO,r16_Step,ilt_eq,ile_eq,ilen,h0,h1',c0,decide_true,decide_false,cond_true,cond_false,if_false,Int.toNat_natCast,lat_eq,iN,List.getElem?_eq_getElem hk,bindN_s,hR,hR',hC,roomA,app,List.nil_append,List.length_nil,r1,r2,e1]
   exact ⟨trivial,trivial,trivial⟩
theorem scan_Step_v {n:Nat} (hn:Big n) (s:SC) (shards:List SH) (ds:List DR) (hf:FitSH shards) (hd:ds.length≤1000000) (hi:s.2.2.2.2.1.length≤800000) :
  scan_Step n (s,shards,ds,())=some ((stepC s shards ds,()),((),(),(),())):=(stepI n s.1 s.2.1 s.2.2.1 s.2.2.2.1 s.2.2.2.2.1 shards ds hf hd hi hn).1
theorem scan_StepO_v {n:Nat} (hn:Big n) (s:SC) (shards:List SH) (ds:List DR) (hf:FitSH shards) (hd:ds.length≤1000000) (hi:s.2.2.2.2.1.length≤800000) :
  scan_StepO n (s,shards,ds,())=some ((stepC s shards ds,()),((),shards,(),())):=(stepI n s.1 s.2.1 s.2.2.1 s.2.2.2.1 s.2.2.2.2.1 shards ds hf hd hi hn).2.1
theorem r16_Step_v {n:Nat} (hn:Big n) (s:SC) (shards:List SH) (ds:List DR) (hf:FitSH shards) (hd:ds.length≤1000000) (hi:s.2.2.2.2.1.length≤800000) :
  r16_Step n (s,shards,ds,())=some ((stepC s shards ds,()),((),(),(),())):=(stepI n s.1 s.2.1 s.2.2.1 s.2.2.2.1 s.2.2.2.2.1 shards ds hf hd hi hn).2.2
theorem scan_Answer_v {n:Nat} (hn:Big n) (s:SC) (hq:FitQ s.2.1) (hi:FitI s.2.2.2.2.1):scan_Answer n (s,())=some (((s.1,s.2.2.1,answerQ s.2.1 s.2.2.2.2.1,()),()),((),())):=by
 have hA:=row_Answer_v hn s.2.1 hq s.2.2.2.2.1 hi
 have hA':row_Answer n (s.2.1,s.2.2.2.2)=_:=hA
 simp only [scan_Answer,hA',bindN_s]
theorem r16_Answer_v {n:Nat} (hn:Big n) (s:SC) (hq:FitQ s.2.1) (hi:FitI s.2.2.2.2.1):r16_Answer n (s,())=some (((s.1,s.2.2.1,answerQ s.2.1 s.2.2.2.2.1,()),()),((),())):=by
 have hA:=r08_Answer_v hn s.2.1 hq s.2.2.2.2.1 hi
 have hA':r08_Answer n (s.2.1,s.2.2.2.2)=_:=hA
 simp only [r16_Answer,hA',bindN_s]
theorem r16_Same_v {n:Nat} (hn:Big n) {a b:SC} (hq:LimQ a.2.1) (hi:Lim a.2.2.2.2.1):r16_Same n (a,b,())=some ((eqb a b,()),((),(),())):=by
 have h0:=r07_Same_v hn (b:=b.2.1) hq
 have h1:=r08_Items_v hn (b:=b.2.2.2.2.1) hi
 obtain ⟨a0,a1,a2,a3,a4,⟨⟩⟩:=a
 obtain ⟨b0,b1,b2,b3,b4,⟨⟩⟩:=b
 simp only [Prod.mk.injEq,and_true] at *
 simp only [r16_Same,h0,h1,bindN_s,ieq_eq]
 by_cases e0:a0=b0<;>by_cases e1:a1=b1<;>by_cases e2:a2=b2<;>by_cases e3:a3=b3<;>by_cases e4:a4=b4<;>simp [*,eqb]
theorem r16_Answers_v {n:Nat} (hn:Big n) {a b:El tAnswer} (hi:Lim a.2.2.1):r16_Answers n (a,b,())=some ((eqb a b,()),((),(),())):=by
 have h1:=r08_Same_v hn (b:=b.2.2.1) hi
 obtain ⟨a0,a1,a2,⟨⟩⟩:=a
 obtain ⟨b0,b1,b2,⟨⟩⟩:=b
 simp only [Prod.mk.injEq,and_true] at *
 simp only [r16_Answers,h1,bindN_s,ieq_eq]
 by_cases e0:a0=b0<;>by_cases e1:a1=b1<;>by_cases e2:a2=b2<;>simp [*,eqb]
def readsC (st:Int) (ds:List DR) (l:List SH):List IT:=(l.map fun s=>readS s st ds).flatten
def stC (id:Int) (q:QY) (st:Int) (ds:List DR) (l:List SH) (k:Nat):SC:=(id,q,st,(k:Int),readsC st ds (l.take k),())
theorem reads_len (st:Int) (ds:List DR) (B:Nat):∀ l:List SH,(∀ s∈l,s.1.length≤B)→(readsC st ds l).length≤l.length * B
 | [],_=>by simp [readsC]
 | s ::l,h=>by
  have h1:=reads_len st ds B l fun x hx=>h x (List.mem_cons_of_mem _ hx)
  have h2:=readS_len s st ds
  have h3:=h s List.mem_cons_self
  unfold readsC at h1 ⊢
  rw [List.map_cons,List.flatten_cons,List.length_append,List.length_cons,Nat.add_mul];omega
theorem step_st (id:Int) (q:QY) (st:Int) (ds:List DR) (l:List SH) (k:Nat) (h:k<l.length):stepC (stC id q st ds l k) l ds=stC id q st ds l (k+1):=by
 have e3:l.take (k+1)=l.take k++[l[k]]:=by rw [List.take_add_one,List.getElem?_eq_getElem h];rfl
 unfold stepC stC
 simp only [show ¬ (k:Int)<0 by omega,if_false,Int.toNat_natCast,List.getElem?_eq_getElem h,e3]
 unfold readsC
 rw [List.map_append,List.flatten_append]
 simp
def SmallC (l:List SH):Prop:=l.length≤8∧∀ s∈l,s.1.length≤30∧∀ e∈s.1,e.2.2.1.length≤100∧e.2.1.size≤300
theorem small_fit {l:List SH} (h:SmallC l):FitSH l:=⟨by have:=h.1;omega,fun s hs=>⟨by have:=(h.2 s hs).1;omega,fun e he=>by have:=((h.2 s hs).2 e he).1;omega⟩⟩
theorem small_reads {l:List SH} (h:SmallC l) (st:Int) (ds:List DR) (k:Nat):(readsC st ds (l.take k)).length≤240:=by
 have h1:=reads_len st ds 30 (l.take k) fun s hs=>(h.2 s (List.mem_of_mem_take hs)).1
 have h2:(l.take k).length≤8:=by have:=h.1;rw [List.length_take];omega
 omega
theorem at_mem {st:Int}:∀ {l:List VS} {c:CL},atO st l=some c→∃ v∈l,v.2.1=c
 | [],c,h=>by cases h
 | v ::r,c,h=>by
  rw [atO] at h
  cases hr:atO st r with
  | some c' =>
   rw [hr] at h
   obtain ⟨u,hu,e⟩:=at_mem hr
   exact ⟨u,List.mem_cons_of_mem _ hu,e.trans (Option.some.inj h)⟩
  | none =>
   rw [hr] at h
   simp only at h
   split at h
   ·exact ⟨v,List.mem_cons_self,Option.some.inj h⟩
   ·cases h
theorem zCL_fit:CellFit zCL:=zC_fit
theorem at_fit {l:List VS} (h:∀ v∈l,CellFit v.2.1) (st:Int):CellFit (atC l st):=by
 unfold atC
 cases ha:atO st l with
 | none=>exact zCL_fit
 | some c =>
  obtain ⟨v,hv,e⟩:=at_mem ha
  rw [Option.getD_some,← e];exact h v hv
theorem read_fit {s:SH} (ho:okE tShard s) (hk:∀ e∈s.1,e.2.1.size≤300) (st:Int) (ds:List DR):∀ x∈readS s st ds,x.2.1.size≤100000∧CellFit x.2.2.1:=by
 intro x hx
 obtain ⟨e,he,h⟩:=List.mem_filterMap.1 hx
 unfold readE at h
 have oe:=ho.1.2 e he
 split at h
 ·split at h
  ·cases h
  ·cases h
   exact ⟨by have:=hk e he;show e.2.1.size≤_;omega,at_fit (fun v hv=>cell_ok (oe.2.2.1.2 v hv).2.1) st⟩
 ·cases h
theorem small_items {l:List SH} (h:SmallC l) (ho:okE (.slice tShard) l) (st:Int) (ds:List DR) (k:Nat):FitI (readsC st ds (l.take k)):=by
 refine ⟨by have:=small_reads h st ds k;omega,fun x hx=>?_⟩
 obtain ⟨r,hr,hx⟩:=List.mem_flatten.1 hx
 obtain ⟨s,hs,rfl⟩:=List.mem_map.1 hr
 have hs':=List.mem_of_mem_take hs
 exact read_fit (ho.2 s hs') (fun e he=>((h.2 s hs').2 e he).2) st ds x hx
theorem scan_all_l0 {n:Nat} (hn:Big n) (id:Int) (q:QY) (st:Int) (ds:List DR) (l:List SH) (h:SmallC l) (hd:ds.length≤1000000):∀ (d k g:Nat),k+d=l.length→d<g →
  scan_All_l0 n g (ds,l,stC id q st ds l k,())=some (.inl (stC id q st ds l l.length,()))
 | 0,k,g,hk,hg=>by
  obtain ⟨g,rfl⟩:∃ g',g=g'+1:=⟨g - 1,by omega⟩
  have e:k=l.length:=by omega
  subst e
  have c:(l.length:Int)≤(stC id q st ds l l.length).2.2.2.1:=Int.le_refl _
  simp only [scan_All_l0,scan_Done,ilen,ile_eq,c,decide_true,bindN_s,Bool.not_true,cond_false]
 | d+1,k,g,hk,hg=>by
  obtain ⟨g,rfl⟩:∃ g',g=g'+1:=⟨g - 1,by omega⟩
  have hk':k<l.length:=by omega
  have c:¬ (l.length:Int)≤(stC id q st ds l k).2.2.2.1:=by show ¬ (l.length:Int)≤(k:Int);omega
  have hS:=scan_Step_v hn (stC id q st ds l k) l ds (small_fit h) hd (by have:=small_reads h st ds k;show (readsC st ds (l.take k)).length≤_;omega)
  rw [step_st id q st ds l k hk'] at hS
  have ih:=scan_all_l0 hn id q st ds l h hd d (k+1) g (by omega) (by omega)
  simp only [scan_All_l0,scan_Done,ilen,ile_eq,c,decide_false,bindN_s,Bool.not_false,cond_true,hS,ih,bindL_inl]
theorem scan_All_v {n:Nat} (hn:Big n) (q:QY) (hq:FitQ q) (st:Int) (ds:List DR) (l:List SH) (h:SmallC l) (ho:okE (.slice tShard) l) (hd:ds.length≤1000000):scan_All n (q,st,ds,l,())=some ((answerQ q (readsC st ds l),()),((),(),(),(),())):=by
 have h1:=h.1
 have h0:=scan_all_l0 hn 0 q st ds l h hd l.length 0 n (by omega) (by unfold Big at hn;omega)
 have hA:=scan_Answer_v hn (stC 0 q st ds l l.length) hq (small_items h ho st ds l.length)
 have e:(stC 0 q st ds l l.length).2.2.2.2.1=readsC st ds l:=by unfold stC;rw [List.take_length]
 have h0':scan_All_l0 n n (ds,l,((0:Int),q,st,(0:Int),[],()),())=some (.inl (stC 0 q st ds l l.length,())):=h0
 simp only [scan_All,scan_Start,bindN_s,h0',bindL_inl,hA,e]
 rfl
theorem r16_all_l0 {n:Nat} (hn:Big n) (id:Int) (q:QY) (st:Int) (ds:List DR) (l:List SH) (h:SmallC l) (hd:ds.length≤1000000):∀ (d k g:Nat),k+d=l.length→d<g →
  r16_All_l0 n g (ds,l,stC id q st ds l k,(k:Int),())=some (.inl (stC id q st ds l l.length,()))
 | 0,k,g,hk,hg=>by
  obtain ⟨g,rfl⟩:∃ g',g=g'+1:=⟨g - 1,by omega⟩
  have e:k=l.length:=by omega
  subst e
  have c:¬ (l.length:Int)<(l.length:Int):=by omega
  simp only [r16_All_l0,ilen,ilt_eq,c,decide_false,cond_false]
 | d+1,k,g,hk,hg=>by
  obtain ⟨g,rfl⟩:∃ g',g=g'+1:=⟨g - 1,by omega⟩
  have hk':k<l.length:=by omega
  have h1:=h.1
  have c:(k:Int)<(l.length:Int):=by omega
  have hS:=r16_Step_v hn (stC id q st ds l k) l ds (small_fit h) hd (by have:=small_reads h st ds k;show (readsC st ds (l.take k)).length≤_;omega)
  rw [step_st id q st ds l k hk'] at hS
  have ih:=r16_all_l0 hn id q st ds l h hd d (k+1) g (by omega) (by omega)
  simp only [r16_All_l0,ilen,ilt_eq,c,decide_true,cond_true,hS,bindN_s,iadd1 (i:=k) (by omega),ih,bindL_inl]
theorem r16_All_v {n:Nat} (hn:Big n) (q:QY) (hq:FitQ q) (st:Int) (ds:List DR) (l:List SH) (h:SmallC l) (ho:okE (.slice tShard) l) (hd:ds.length≤1000000):r16_All n (q,st,ds,l,())=some ((answerQ q (readsC st ds l),()),((),(),(),(),())):=by
 have h1:=h.1
 have h0:=r16_all_l0 hn 0 q st ds l h hd l.length 0 n (by omega) (by unfold Big at hn;omega)
 have hA:=r16_Answer_v hn (stC 0 q st ds l l.length) hq (small_items h ho st ds l.length)
 have e:(stC 0 q st ds l l.length).2.2.2.2.1=readsC st ds l:=by unfold stC;rw [List.take_length]
 have h0':r16_All_l0 n n (ds,l,((0:Int),q,st,(0:Int),[],()),(0:Int),())=some (.inl (stC 0 q st ds l l.length,())):=h0
 simp only [r16_All,h0',bindL_inl,hA,bindN_s,e]
 rfl
end Go.Proofs.YtdcphpbimeoioaaGreatDoorE
end
section
set_option linter.unusedSectionVars false
namespace Go.Proofs.YtdcphpbimeoioaaGreatDoorE
open Go Go.Proofs
set_option linter.unusedVariables false
set_option linter.unusedSimpArgs false
set_option maxRecDepth 100000
theorem alive16_v:law16_alive 1000000000000000 ()=some ((true,()),()):=by kernel_rfl
theorem stepC_q (s:SC) (l:List SH) (ds:List DR):(stepC s l ds).2.1=s.2.1:=by
 unfold stepC
 split
 ·rfl
 ·split<;>rfl
theorem stepC_items (s:SC) (l:List SH) (ds:List DR) (B:Nat) (h:∀ x∈l,x.1.length≤B):(stepC s l ds).2.2.2.2.1.length≤s.2.2.2.2.1.length+B:=by
 unfold stepC
 split
 ·omega
 ·split
  ·rename_i sh hs
   have h1:=readS_len sh s.2.2.1 ds
   have h2:=h sh (List.mem_of_getElem? hs)
   show (s.2.2.2.2.1++readS sh s.2.2.1 ds).length≤_
   rw [List.length_append];omega
  ·omega
theorem limQ_of {q:QY} (h:FitQ q):LimQ q:=⟨Nat.le_trans h.2.1 (by decide),Nat.le_trans h.2.2 (by decide)⟩
theorem scanSteps_true:∀ x,okArgs [tScan, .slice tShard, .slice tDrop] x→∃ o,law_ScanSteps 1000000000000000 x=some ((true,()),o):=by
 intro x hx
 obtain ⟨s,l,ds,⟨⟩⟩:=x
 obtain ⟨hs,hl,hd,_⟩:=hx
 have hn:=big_n
 have ha:=alive16_v
 generalize 1000000000000000=n at hn ha
 refine ⟨((),(),(),()),?_⟩
 have g0:=r16_Great_v hn l
 have g1:=r07_Great_v hn s.2.1
 have g2:=r08_Much_v hn s.2.2.2.2.1
 have g2':r08_Much n s.2.2.2.2=some ((muchI s.2.2.2.2.1,()),((),())):=g2
 cases h0:greatC l with
 | true=>simp only [law_ScanSteps,ha,bindN_s,Bool.not_true,cond_false,g0,h0,cond_true]
 | false =>
  by_cases h20:(20:Int)<(ds.length:Int)
  ·simp only [law_ScanSteps,ha,bindN_s,Bool.not_true,cond_false,g0,h0,ilt_eq,ilen,h20,decide_true,cond_true]
  ·cases h1:greatQ s.2.1.2.1 s.2.1.2.2.1 s.2.1.2.2.2.1 with
   | true=>simp only [law_ScanSteps,ha,bindN_s,Bool.not_true,cond_false,g0,h0,ilt_eq,ilen,h20,decide_false,g1,h1,cond_true]
   | false =>
    cases h2:muchI s.2.2.2.2.1 with
    | true=>simp only [law_ScanSteps,ha,bindN_s,Bool.not_true,cond_false,g0,h0,ilt_eq,ilen,h20,decide_false,g1,h1,g2',h2,cond_true]
    | false =>
     have fq:=fitQ_of h1
     have fi:=fitI_of hs.2.2.2.2.1 h2
     have fi1:=fi.1
     have fi2:=(not_muchI h2).1
     have sm:SmallC l:=not_greatC h0
     have S1:=scan_Step_v hn s l ds (small_fit sm) (by omega) (by omega)
     have S2:=r16_Step_v hn s l ds (small_fit sm) (by omega) (by omega)
     have hst:=stepC_items s l ds 30 fun x hx=>(sm.2 x hx).1
     have S3:=r16_Same_v hn (a:=stepC s l ds) (b:=stepC s l ds) (by rw [stepC_q];exact limQ_of fq) (by show (stepC s l ds).2.2.2.2.1.length≤_;omega)
     have A1:=scan_Answer_v hn s fq fi
     have A2:=r16_Answer_v hn s fq fi
     obtain ⟨R1,R2⟩:=answer_fit s.2.1 s.2.2.2.2.1 fi.1
     have A3:=r16_Answers_v hn (a:=(s.1,s.2.2.1,answerQ s.2.1 s.2.2.2.2.1,())) (b:=(s.1,s.2.2.1,answerQ s.2.1 s.2.2.2.2.1,())) (Nat.le_trans R1.1 (by decide))
     have U:=r08_Items_v hn (a:=s.2.2.2.2.1) (b:=s.2.2.2.2.1) (Nat.le_trans fi.1 (by decide))
     have U':r08_Items n (s.2.2.2.2.1,s.2.2.2.2)=_:=U
     have r1:room (([]:List (El tItem)).length+s.2.2.2.2.1.length) 64=true:=room_of (by simp;omega)
     simp only [law_ScanSteps,ha,bindN_s,Bool.not_true,cond_false,g0,h0,ilt_eq,ile_eq,ilen,h20,decide_false,g1,h1,g2',h2,roomA,r1,cond_true,S1,S2,S3,eqb_refl,scan_Done,beqB_eq,decide_true,A1,A2,A3,app,List.nil_append,U']
theorem law_all_l0 {n:Nat} (hn:Big n) (id:Int) (q:QY) (st:Int) (ds:List DR) (l:List SH) (rows:List RW') (h:SmallC l) (hd:ds.length≤1000000):∀ (d k g:Nat),k+d=l.length→d<g →
  law_ScanAll_l0 n g (st,l,q,ds,stC id q st ds l k,rows,(k:Int),())=some (.inl (st,l,q,ds,stC id q st ds l l.length,rows,()))
 | 0,k,g,hk,hg=>by
  obtain ⟨g,rfl⟩:∃ g',g=g'+1:=⟨g - 1,by omega⟩
  have e:k=l.length:=by omega
  subst e
  have c:¬ (l.length:Int)<(l.length:Int):=by omega
  simp only [law_ScanAll_l0,ilen,ilt_eq,c,decide_false,cond_false]
 | d+1,k,g,hk,hg=>by
  obtain ⟨g,rfl⟩:∃ g',g=g'+1:=⟨g - 1,by omega⟩
  have hk':k<l.length:=by omega
  have h1:=h.1
  have c:(k:Int)<(l.length:Int):=by omega
  have hS:=scan_Step_v hn (stC id q st ds l k) l ds (small_fit h) hd (by have:=small_reads h st ds k;show (readsC st ds (l.take k)).length≤_;omega)
  rw [step_st id q st ds l k hk'] at hS
  have ih:=law_all_l0 hn id q st ds l rows h hd d (k+1) g (by omega) (by omega)
  simp only [law_ScanAll_l0,ilen,ilt_eq,c,decide_true,cond_true,hS,bindN_s,iadd1 (i:=k) (by omega),ih,bindL_inl]
theorem scanAll_true:∀ x,okArgs [tQuery, .int .i64, .slice tShard] x→∃ o,law_ScanAll 1000000000000000 x=some ((true,()),o):=by
 intro x hx
 obtain ⟨q,st,l,⟨⟩⟩:=x
 obtain ⟨hq,hst,hl,_⟩:=hx
 have hn:=big_n
 have ha:=alive16_v
 generalize 1000000000000000=n at hn ha
 refine ⟨((),(),(),()),?_⟩
 have g0:=r16_Great_v hn l
 have g1:=r07_Great_v hn q
 cases h0:greatC l with
 | true=>simp only [law_ScanAll,ha,bindN_s,Bool.not_true,cond_false,g0,h0,cond_true]
 | false =>
  cases h1:greatQ q.2.1 q.2.2.1 q.2.2.2.1 with
  | true=>simp only [law_ScanAll,ha,bindN_s,Bool.not_true,cond_false,g0,h0,g1,h1,cond_true]
  | false =>
   have fq:=fitQ_of h1
   have sm:SmallC l:=not_greatC h0
   have sm1:=sm.1
   have Q:=r07_Same_v hn (a:=q) (b:=q) (limQ_of fq)
   generalize hds:[((1:Int),(6:Int),())]=ds
   have hd:ds.length≤1000000:=by rw [← hds];decide
   have A:=scan_All_v hn q fq st ds l sm hl hd
   have B:=r16_All_v hn q fq st ds l sm hl hd
   have L:=law_all_l0 hn 4 q st ds l (answerQ q (readsC st ds l)) sm hd l.length 0 n (by omega) (by unfold Big at hn;omega)
   have L':law_ScanAll_l0 n n (st,l,q,ds,((4:Int),q,st,(0:Int),[],()),answerQ q (readsC st ds l),(0:Int),())=_:=L
   have fi:=small_items sm hl st ds l.length
   have e:readsC st ds (l.take l.length)=readsC st ds l:=by rw [List.take_length]
   have C:=scan_Answer_v hn (stC 4 q st ds l l.length) fq fi
   have C':scan_Answer n (stC 4 q st ds l l.length,())=some ((((4:Int),st,answerQ q (readsC st ds l),()),()),((),())):=by
    rw [C]
    show some ((((4:Int),st,answerQ q (readsC st ds (l.take l.length)),()),()),((),()))=_
    rw [e]
   rw [e] at fi
   obtain ⟨R1,R2⟩:=answer_fit q (readsC st ds l) fi.1
   have S:=r08_Same_v hn (a:=answerQ q (readsC st ds l)) (b:=answerQ q (readsC st ds l)) (Nat.le_trans R1.1 (by decide))
   have D:scan_Done n (stC 4 q st ds l l.length,(l.length:Int),())=some ((true,()),((),(),())):=by
    have:decide ((l.length:Int)≤(stC 4 q st ds l l.length).2.2.2.1)=true:=decide_eq_true (Int.le_refl _)
    simp only [scan_Done,ile_eq,this]
   have e0:decide (ilen ([]:List (El tItem))=0)=true:=rfl
   simp only [law_ScanAll,ha,bindN_s,Bool.not_true,cond_false,g0,h0,g1,h1,scan_Start,ieq_eq,decide_true,e0,Q,eqb_refl,hds,A,L',bindL_inl,B,S,cond_true,C',ilen,D]
theorem stays_l0 {n:Nat} (hn:Big n) (l:List SH) (t:List (El tLaw16_Turn)) (s:SC) (h:SmallC l):∀ (d i g:Nat),i+d=l.length→d<g →
  law_ScanStays_l0 n g (l,t,s,(i:Int),())=some (.inr (true,()))∨law_ScanStays_l0 n g (l,t,s,(i:Int),())=some (.inl (l,t,s,()))
 | 0,i,g,hd,hg=>by
  obtain ⟨g,rfl⟩:∃ g',g=g'+1:=⟨g - 1,by omega⟩
  have c:¬ (i:Int)<(l.length:Int):=by omega
  exact .inr (by simp [law_ScanStays_l0,c])
 | d+1,i,g,hd,hg=>by
  obtain ⟨g,rfl⟩:∃ g',g=g'+1:=⟨g - 1,by omega⟩
  have h1:=h.1
  have hi:i<l.length:=by omega
  have c:(i:Int)<(l.length:Int):=by omega
  have c0:(0:Int)≤i:=by omega
  have hm:=h.2 _ (List.getElem_mem hi)
  have hb:=r11_Right_v hn l[i] (k:=100) (by omega) ⟨by omega,fun e he=>(hm.2 e he).1⟩
  generalize rightS l[i]=b at hb
  have ih:=stays_l0 hn l t s h d (i+1) g (by omega) (by omega)
  have e:law_ScanStays_l0 n (g+1) (l,t,s,(i:Int),())=bif !b then some (.inr (true,())) else law_ScanStays_l0 n g (l,t,s,((i+1:Nat):Int),()):=by
   simp only [law_ScanStays_l0,ilt_eq,ile_eq,ilen,c,c0,decide_true,cond_true,lat_eq,iN,Int.toNat_natCast,List.getElem?_eq_getElem hi,bindN_s,hb,iadd1 (i:=i) (by omega),bindL_id1]
  rw [e]
  cases b with
  | false=>exact .inl rfl
  | true=>exact ih
def FitC (k:Nat) (s:SH):Prop:=FitK k s∧CellsFit s
theorem prune_mem (f:Int):∀ (l:List VS) (v:VS),v∈pruneV f l→v∈l
 | [],v,h=>by cases h
 | u ::r,v,h=>by
  rw [pruneV] at h
  split at h
  ·rcases List.mem_cons.1 h with e|h
   ·rw [e];exact List.mem_cons_self
   ·exact List.mem_cons_of_mem _ (prune_mem f r v h)
  ·split at h
   ·exact List.mem_cons_of_mem _ (prune_mem f r v h)
   ·rcases List.mem_cons.1 h with e|h
    ·rw [e];exact List.mem_cons_self
    ·exact List.mem_cons_of_mem _ (prune_mem f r v h)
theorem prune_cells {s:SH} (f:Int) (ds:List DR) (h:CellsFit s):CellsFit (pruneS f ds s):=by
 intro e he v hv
 obtain ⟨e',he',rfl⟩:=List.mem_map.1 he
 exact h e' (List.mem_filter.1 he').1 v (prune_mem f _ v hv)
theorem fitC_up {k:Nat} {s:SH} (h:FitC k s):FitC (k+1) s:=⟨⟨Nat.le_succ_of_le h.1.1,fun e he=>Nat.le_succ_of_le (h.1.2 e he)⟩,h.2⟩
theorem fitC_app {k:Nat} {s:SH} {w:WT} (h:FitC k s) (hv:I64 w.2.2.2.1):FitC (k+1) (applyS s w).1:=⟨apply_fit h.1,apply_cells h.2 hv⟩
structure Keep (st:Int) (l now:List SH) (K:Nat→Nat):Prop where
 len:now.length=l.length
 each:∀ (j:Nat) (h1:j<now.length) (h2:j<l.length),readS now[j] st []=readS l[j] st []∧FitC (K j) now[j]
theorem Keep.mono {st:Int} {l now:List SH} {K K':Nat→Nat} (h:Keep st l now K) (hK:∀ j,K j≤K' j):Keep st l now K' :=
 ⟨h.len,fun j h1 h2=>⟨(h.each j h1 h2).1,⟨Nat.le_trans (h.each j h1 h2).2.1.1 (hK j),fun e he=>Nat.le_trans ((h.each j h1 h2).2.1.2 e he) (hK j)⟩,(h.each j h1 h2).2.2⟩⟩
theorem prune_fit {k:Nat} {s:SH} (f:Int) (h:FitK k s):FitK k (pruneS f [] s):=by
 unfold pruneS
 refine ⟨?_,fun e he=>?_⟩
 ·show (List.map _ _).length≤k
  rw [List.length_map]
  exact Nat.le_trans (List.length_filter_le _ _) h.1
 ·obtain ⟨e',he',rfl⟩:=List.mem_map.1 he
  exact Nat.le_trans (prune_len f _) (h.2 e' (List.mem_filter.1 he').1)
theorem fitK_fit {k:Nat} {s:SH} (hk:k≤10000) (h:FitK k s):FitS s:=⟨by have:=h.1;omega,fun e he=>by have:=h.2 e he;omega⟩
theorem stays_step {n:Nat} (hn:Big n) (l:List SH) (t:List (El tLaw16_Turn)) (s x:SC) (rows:List RW') (i:Nat) (hi:i<t.length) (ht:t.length≤10) (now:List SH) (k:Nat) (hk:k<now.length) (hl:now.length≤8) (K:Nat) (hK:K≤1000) (hf:FitC K now[k]) (hv:I64 t[i].1.2.2.2.1) :
  ∃ y,(∀ g,law_ScanStays_l2 n (g+1) (l,t,s,rows,x,now,(i:Int),(k:Int),())=law_ScanStays_l2 n g (l,t,s,rows,x,now.set k y,(i:Int),((k+1:Nat):Int),()))∧readS y s.2.2.1 []=readS now[k] s.2.2.1 []∧FitC (K+1) y:=by
 have c:(k:Int)<(now.length:Int):=by omega
 have c0:(0:Int)≤k:=by omega
 have c1:(0:Int)≤i:=by omega
 have same:now.set k now[k]=now:=List.set_getElem_self hk
 have up:FitC (K+1) now[k]:=fitC_up hf
 by_cases hfl:t[i].2.1≤s.2.2.1
 ·have hP:=r11_Prune_v hn now[k] (fitK_fit (by omega) hf.1) t[i].2.1 [] (by simp)
  have hrp:=read_prune hfl [] now[k]
  have fp:FitC K (pruneS t[i].2.1 [] now[k]):=⟨prune_fit t[i].2.1 hf.1,prune_cells t[i].2.1 [] hf.2⟩
  have up2:=fitC_up fp
  generalize pruneS t[i].2.1 [] now[k]=pr at hP hrp fp up2
  have hk2:k<(now.set k pr).length:=by rw [List.length_set];exact hk
  have hg:(now.set k pr)[k]?=some pr:=by rw [List.getElem?_set_self hk]
  have hA:=r11_Apply_v hn pr (k:=K) (by omega) fp.1 fp.2 t[i].1 hv
  have hq1:=fun (h:(applyS pr t[i].1).2=0)=>apply_read (s:=pr) (w:=t[i].1) (st:=s.2.2.1) (ds:=[]) h
  have hq2:=fitC_app fp hv
  generalize applyS pr t[i].1=r at hA hq1 hq2
  obtain ⟨y,e⟩:=r
  simp only at hA hq1 hq2
  by_cases he:e=0
  ·by_cases hw:s.2.2.1<t[i].1.1
   ·by_cases hz:(t[i].1.2.2.1.size:Int)<300
    ·have q1:=hq1 he hw
     have q2:=hq2
     refine ⟨y,fun g=>?_,q1.trans hrp,q2⟩
     simp only [law_ScanStays_l2,ilt_eq,ile_eq,ieq_eq,ssize_eq,ilen,c,c0,c1,hfl,decide_true,cond_true,lat_eq,lputS,iN,Int.toNat_natCast,List.getElem?_eq_getElem hi,List.getElem?_eq_getElem hk,bindN_s,hP,hg,hA,he,hw,hz,iadd1 (i:=k) (by omega),bindL_id2,List.set_set]
    ·refine ⟨pr,fun g=>?_,hrp,up2⟩
     simp only [law_ScanStays_l2,ilt_eq,ile_eq,ieq_eq,ssize_eq,ilen,c,c0,c1,hfl,decide_true,decide_false,cond_true,cond_false,lat_eq,lputS,iN,Int.toNat_natCast,List.getElem?_eq_getElem hi,List.getElem?_eq_getElem hk,bindN_s,hP,hg,hA,he,hw,hz,iadd1 (i:=k) (by omega),bindL_id2]
   ·refine ⟨pr,fun g=>?_,hrp,up2⟩
    simp only [law_ScanStays_l2,ilt_eq,ile_eq,ieq_eq,ssize_eq,ilen,c,c0,c1,hfl,decide_true,decide_false,cond_true,cond_false,lat_eq,lputS,iN,Int.toNat_natCast,List.getElem?_eq_getElem hi,List.getElem?_eq_getElem hk,bindN_s,hP,hg,hA,he,hw,iadd1 (i:=k) (by omega),bindL_id2]
  ·refine ⟨pr,fun g=>?_,hrp,up2⟩
   simp only [law_ScanStays_l2,ilt_eq,ile_eq,ieq_eq,ssize_eq,ilen,c,c0,c1,hfl,decide_true,decide_false,cond_true,cond_false,lat_eq,lputS,iN,Int.toNat_natCast,List.getElem?_eq_getElem hi,List.getElem?_eq_getElem hk,bindN_s,hP,hg,hA,he,iadd1 (i:=k) (by omega),bindL_id2]
 ·have hA:=r11_Apply_v hn now[k] (k:=K) (by omega) hf.1 hf.2 t[i].1 hv
  have hq1:=fun (h:(applyS now[k] t[i].1).2=0)=>apply_read (s:=now[k]) (w:=t[i].1) (st:=s.2.2.1) (ds:=[]) h
  have hq2:=fitC_app hf hv
  generalize applyS now[k] t[i].1=r at hA hq1 hq2
  obtain ⟨y,e⟩:=r
  simp only at hA hq1 hq2
  by_cases he:e=0
  ·by_cases hw:s.2.2.1<t[i].1.1
   ·by_cases hz:(t[i].1.2.2.1.size:Int)<300
    ·have q1:=hq1 he hw
     have q2:=hq2
     refine ⟨y,fun g=>?_,q1,q2⟩
     simp only [law_ScanStays_l2,ilt_eq,ile_eq,ieq_eq,ssize_eq,ilen,c,c0,c1,hfl,decide_true,decide_false,cond_true,cond_false,lat_eq,lputS,iN,Int.toNat_natCast,List.getElem?_eq_getElem hi,List.getElem?_eq_getElem hk,bindN_s,hA,he,hw,hz,iadd1 (i:=k) (by omega),bindL_id2]
    ·refine ⟨now[k],fun g=>?_,rfl,up⟩
     rw [same]
     simp only [law_ScanStays_l2,ilt_eq,ile_eq,ieq_eq,ssize_eq,ilen,c,c0,c1,hfl,decide_true,decide_false,cond_true,cond_false,lat_eq,iN,Int.toNat_natCast,List.getElem?_eq_getElem hi,List.getElem?_eq_getElem hk,bindN_s,hA,he,hw,hz,iadd1 (i:=k) (by omega),bindL_id2]
   ·refine ⟨now[k],fun g=>?_,rfl,up⟩
    rw [same]
    simp only [law_ScanStays_l2,ilt_eq,ile_eq,ieq_eq,ssize_eq,ilen,c,c0,c1,hfl,decide_true,decide_false,cond_true,cond_false,lat_eq,iN,Int.toNat_natCast,List.getElem?_eq_getElem hi,List.getElem?_eq_getElem hk,bindN_s,hA,he,hw,iadd1 (i:=k) (by omega),bindL_id2]
  ·refine ⟨now[k],fun g=>?_,rfl,up⟩
   rw [same]
   simp only [law_ScanStays_l2,ilt_eq,ile_eq,ieq_eq,ssize_eq,ilen,c,c0,c1,hfl,decide_true,decide_false,cond_true,cond_false,lat_eq,iN,Int.toNat_natCast,List.getElem?_eq_getElem hi,List.getElem?_eq_getElem hk,bindN_s,hA,he,iadd1 (i:=k) (by omega),bindL_id2]
theorem stays_l2 {n:Nat} (hn:Big n) (l:List SH) (hl:l.length≤8) (t:List (El tLaw16_Turn)) (s x:SC) (rows:List RW') (i:Nat) (hi:i<t.length) (ht:t.length≤10) (K:Nat) (hK:K≤1000) (hv:I64 t[i].1.2.2.2.1):∀ (d k g:Nat) (now:List SH),k+d=l.length→d<g →
  Keep s.2.2.1 l now (fun j=>if j<k then K+1 else K) →
  ∃ now',law_ScanStays_l2 n g (l,t,s,rows,x,now,(i:Int),(k:Int),())=some (.inl (l,t,s,rows,x,now',(i:Int),()))∧Keep s.2.2.1 l now' fun _=>K+1
 | 0,k,g,now,hd,hg,h=>by
  obtain ⟨g,rfl⟩:∃ g',g=g'+1:=⟨g - 1,by omega⟩
  have hlen:=h.len
  have c:¬ (k:Int)<(now.length:Int):=by omega
  exact ⟨now,by simp only [law_ScanStays_l2,ilen,ilt_eq,c,decide_false,cond_false],h.mono fun j=>by split<;>omega⟩
 | d+1,k,g,now,hd,hg,h=>by
  obtain ⟨g,rfl⟩:∃ g',g=g'+1:=⟨g - 1,by omega⟩
  have hlen:=h.len
  have hk:k<now.length:=by omega
  obtain ⟨f1,f2⟩:=h.each k hk (by omega)
  rw [if_neg (by omega)] at f2
  obtain ⟨y,e1,e2,e3⟩:=stays_step hn l t s x rows i hi ht now k hk (by omega) K hK f2 hv
  obtain ⟨now',g1,g2⟩:=stays_l2 hn l hl t s x rows i hi ht K hK hv d (k+1) g (now.set k y) (by omega) (by omega) ⟨by rw [List.length_set];exact hlen,fun j h1 h2=>by
   rw [List.length_set] at h1
   by_cases hj:j=k
   ·subst hj
    rw [List.getElem_set_self,if_pos (by omega)]
    exact ⟨e2.trans f1,e3⟩
   ·rw [List.getElem_set_ne (fun e=>hj e.symm)]
    obtain ⟨p1,p2⟩:=h.each j h1 h2
    refine ⟨p1,?_⟩
    by_cases hjk:j<k
    ·rw [if_pos hjk] at p2;rw [if_pos (by omega)];exact p2
    ·rw [if_neg hjk] at p2;rw [if_neg (by omega)];exact p2⟩
  exact ⟨now',(e1 g).trans g1,g2⟩
theorem step_keep {st:Int} {l now:List SH} {K:Nat→Nat} (h:Keep st l now K) (id:Int) (q:QY) (k:Nat) (hk:k<l.length):stepC (stC id q st [] l k) now []=stC id q st [] l (k+1):=by
 have hlen:=h.len
 have hk':k<now.length:=by omega
 have e:=(h.each k hk' hk).1
 rw [← step_st id q st [] l k hk]
 unfold stepC stC
 simp only [show ¬ (k:Int)<0 by omega,if_false,Int.toNat_natCast,List.getElem?_eq_getElem hk,List.getElem?_eq_getElem hk',e]
theorem stays_l1 {n:Nat} (hn:Big n) (l:List SH) (sm:SmallC l) (t:List (El tLaw16_Turn)) (s:SC) (rows:List RW') (ht:t.length≤10) (hv:∀ (j:Nat) (h:j<t.length),I64 t[j].1.2.2.2.1):∀ (d i g:Nat) (now:List SH),i+d=l.length→d<g→Keep s.2.2.1 l now (fun _=>100+i) →
  law_ScanStays_l1 n g (l,t,s,rows,stC s.1 s.2.1 s.2.2.1 [] l i,now,(i:Int),())=some (.inl (rows,stC s.1 s.2.1 s.2.2.1 [] l l.length,()))
 | 0,i,g,now,hd,hg,h=>by
  obtain ⟨g,rfl⟩:∃ g',g=g'+1:=⟨g - 1,by omega⟩
  have e:i=l.length:=by omega
  subst e
  have c:¬ (l.length:Int)<(l.length:Int):=by omega
  simp only [law_ScanStays_l1,ilen,ilt_eq,c,decide_false,cond_false]
 | d+1,i,g,now,hd,hg,h=>by
  obtain ⟨g,rfl⟩:∃ g',g=g'+1:=⟨g - 1,by omega⟩
  have sm1:=sm.1
  have hlen:=h.len
  have hi:i<l.length:=by omega
  have c:(i:Int)<(l.length:Int):=by omega
  have hS:=scan_StepO_v hn (stC s.1 s.2.1 s.2.2.1 [] l i) now [] ⟨by omega,fun x hx=>by
   obtain ⟨j,hj,e⟩:=List.getElem_of_mem hx
   rw [← e]
   exact fitK_fit (by omega) (h.each j hj (by omega)).2.1⟩ (by simp) (by have:=small_reads sm s.2.2.1 [] i;show (readsC s.2.2.1 [] (l.take i)).length≤_;omega)
  rw [step_keep h s.1 s.2.1 i hi] at hS
  by_cases hti:(t.length:Int)≤(i:Int)
  ·have ih:=stays_l1 hn l sm t s rows ht hv d (i+1) g now (by omega) (by omega) (h.mono fun j=>by omega)
   simp only [law_ScanStays_l1,ilen,ilt_eq,ile_eq,c,decide_true,cond_true,hS,bindN_s,hti,iadd1 (i:=i) (by omega),bindL_id2,ih]
  ·obtain ⟨now',g1,g2⟩:=stays_l2 hn l sm.1 t s (stC s.1 s.2.1 s.2.2.1 [] l (i+1)) rows i (by omega) ht (100+i) (by omega) (hv i (by omega)) l.length 0 n now (by omega) (by unfold Big at hn;omega) (h.mono fun j=>by simp)
   rw [show ((0:Nat):Int)=0 from rfl] at g1
   have ih:=stays_l1 hn l sm t s rows ht hv d (i+1) g now' (by omega) (by omega) (g2.mono fun j=>by omega)
   simp only [law_ScanStays_l1,ilen,ilt_eq,ile_eq,c,decide_true,cond_true,hS,bindN_s,hti,decide_false,cond_false,g1,bindL_inl,iadd1 (i:=i) (by omega),bindL_id2,ih]
theorem scanStays_true:∀ x,okArgs [tScan, .slice tShard, .slice tLaw16_Turn] x→∃ o,law_ScanStays 1000000000000000 x=some ((true,()),o):=by
 intro x hx
 obtain ⟨s,l,t,⟨⟩⟩:=x
 obtain ⟨hs,hl,ht,_⟩:=hx
 have hn:=big_n
 have ha:=alive16_v
 generalize 1000000000000000=n at hn ha
 refine ⟨((),(),(),()),?_⟩
 have g0:=r16_Great_v hn l
 have g1:=r07_Great_v hn s.2.1
 cases h0:greatC l with
 | true=>simp only [law_ScanStays,ha,bindN_s,Bool.not_true,cond_false,g0,h0,cond_true]
 | false =>
  cases h1:greatQ s.2.1.2.1 s.2.1.2.2.1 s.2.1.2.2.2.1 with
  | true=>simp only [law_ScanStays,ha,bindN_s,Bool.not_true,cond_false,g0,h0,g1,h1,cond_true]
  | false =>
   by_cases h10:(10:Int)<(t.length:Int)
   ·simp only [law_ScanStays,ha,bindN_s,Bool.not_true,cond_false,g0,h0,g1,h1,ilt_eq,ilen,h10,decide_true,cond_true]
   ·have fq:=fitQ_of h1
    have sm:SmallC l:=not_greatC h0
    have sm1:=sm.1
    have L0:=stays_l0 hn l t s sm l.length 0 n (by omega) (by unfold Big at hn;omega)
    rw [show ((0:Nat):Int)=0 from rfl] at L0
    rcases L0 with L0|L0
    ·simp only [law_ScanStays,ha,bindN_s,Bool.not_true,cond_false,g0,h0,g1,h1,ilt_eq,ilen,h10,decide_false,L0,bindL_inr]
    ·have A:=scan_All_v hn s.2.1 fq s.2.2.1 [] l sm hl (by simp)
     have r1:room (([]:List SH).length+l.length) 24=true:=room_of (by simp;omega)
     have K0:Keep s.2.2.1 l l (fun _=>100+0):=⟨rfl,fun j h1 h2=>⟨rfl,by
      have hm:=sm.2 _ (List.getElem_mem h1)
      exact ⟨⟨by omega,fun e he=>(hm.2 e he).1⟩,fun e he v hvv=>cell_ok ((((hl.2 _ (List.getElem_mem h1)).1.2 e he).2.2.1.2 v hvv).2.1)⟩⟩⟩
     have L1:=stays_l1 hn l sm t s (answerQ s.2.1 (readsC s.2.2.1 [] l)) (by omega) (fun j hj=>i64_of (ht.2 _ (List.getElem_mem hj)).1.2.2.2.1) l.length 0 n l (by omega) (by unfold Big at hn;omega) K0
     have L1':law_ScanStays_l1 n n (l,t,s,answerQ s.2.1 (readsC s.2.2.1 [] l),(s.1,s.2.1,s.2.2.1,(0:Int),[],()),l,(0:Int),())=_:=L1
     have fi:=small_items sm hl s.2.2.1 [] l.length
     have e:readsC s.2.2.1 [] (l.take l.length)=readsC s.2.2.1 [] l:=by rw [List.take_length]
     have C:=scan_Answer_v hn (stC s.1 s.2.1 s.2.2.1 [] l l.length) fq fi
     have C':scan_Answer n (stC s.1 s.2.1 s.2.2.1 [] l l.length,())=some (((s.1,s.2.2.1,answerQ s.2.1 (readsC s.2.2.1 [] l),()),()),((),())):=by
      rw [C]
      show some (((s.1,s.2.2.1,answerQ s.2.1 (readsC s.2.2.1 [] (l.take l.length)),()),()),((),()))=_
      rw [e]
     rw [e] at fi
     obtain ⟨R1,R2⟩:=answer_fit s.2.1 (readsC s.2.2.1 [] l) fi.1
     have S:=r08_Same_v hn (a:=answerQ s.2.1 (readsC s.2.2.1 [] l)) (b:=answerQ s.2.1 (readsC s.2.2.1 [] l)) (Nat.le_trans R1.1 (by decide))
     simp only [law_ScanStays,ha,bindN_s,Bool.not_true,cond_false,g0,h0,g1,h1,ilt_eq,ilen,h10,decide_false,L0,bindL_inl,A,scan_Start,roomA,r1,cond_true,app,List.nil_append,L1',C',S,eqb_refl]
def sharesP (a b:SH):Bool:=a.1.any fun x=>b.1.any fun y=>decide (x.2.1=y.2.1)
theorem shares_v {n:Nat} (hn:Big n) (a b:SH) (ha:a.1.length≤1000000) (hb:b.1.length≤1000000):law_shares n (a,b,())=some ((sharesP a b,()),((),(),())):=by
 have h1:=fun (i:Nat) (hi:i<a.1.length)=>any_loop' (a:=b.1) (fun y=>decide (a.1[i].2.1=y.2.1)) (a,b,(i:Int),()) (true,()) (L:=fun g k=>law_shares_l1 n g (a,b,(i:Int),k,())) (fun g=>by simp [law_shares_l1,ilen]) (fun g k hk=>by
  have c:(k:Int)<(b.1.length:Int):=by omega
  have c0:(0:Int)≤k:=by omega
  have c1:(0:Int)≤i:=by omega
  simp only [law_shares_l1,ilt_eq,ile_eq,seq_eq,ilen,c,c0,c1,decide_true,cond_true,lat_eq,iN,Int.toNat_natCast,List.getElem?_eq_getElem hi,List.getElem?_eq_getElem hk,bindN_s,iadd1 (i:=k) (by omega),bindL_id1]) (g:=n) (by unfold Big at hn;omega)
 have h0:=any_loop' (a:=a.1) (fun x=>b.1.any fun y=>decide (x.2.1=y.2.1)) () (true,()) (L:=fun g i=>law_shares_l0 n g (a,b,i,())) (fun g=>by simp [law_shares_l0,ilen]) (fun g i hi=>by
  have c:(i:Int)<(a.1.length:Int):=by omega
  have h2:=h1 i hi
  simp only [law_shares_l0,ilt_eq,ilen,c,decide_true,cond_true,h2]
  cases b.1.any (fun y=>decide (a.1[i].2.1=y.2.1)) with
  | true=>simp only [cond_true,bindL_inr]
  | false=>simp only [cond_false,bindL_inl,iadd1 (i:=i) (by omega),bindL_id]) (g:=n) (by unfold Big at hn;omega)
 unfold sharesP
 simp only [law_shares,h0]
 cases a.1.any (fun x=>b.1.any fun y=>decide (x.2.1=y.2.1))<;>simp
theorem turned_l1 {n:Nat} (hn:Big n) (st:Int) (l:List SH) (q:QY) (tu:List SH) (i:Nat) (hi:i<l.length) (sm:SmallC l):∀ (d k g:Nat),k+d=i→d<g →
  law_ScanTurned_l1 n g (st,l,q,tu,(i:Int),(k:Int),())=some (if ((l.take i).drop k).any (fun y=>sharesP l[i] y)=true then .inr (true,()) else .inl (st,l,q,tu,(i:Int),()))
 | 0,k,g,hd,hg=>by
  obtain ⟨g,rfl⟩:∃ g',g=g'+1:=⟨g - 1,by omega⟩
  have c:¬ (k:Int)<(i:Int):=by omega
  rw [List.drop_of_length_le (by simp;omega)]
  simp [law_ScanTurned_l1,c]
 | d+1,k,g,hd,hg=>by
  obtain ⟨g,rfl⟩:∃ g',g=g'+1:=⟨g - 1,by omega⟩
  have sm1:=sm.1
  have hk:k<(l.take i).length:=by simp;omega
  have hkl:k<l.length:=by omega
  have c:(k:Int)<(i:Int):=by omega
  have c0:(0:Int)≤k:=by omega
  have c1:(0:Int)≤i:=by omega
  have hS:=shares_v hn l[i] l[k] (by have:=(sm.2 _ (List.getElem_mem hi)).1;omega) (by have:=(sm.2 _ (List.getElem_mem hkl)).1;omega)
  have ih:=turned_l1 hn st l q tu i hi sm d (k+1) g (by omega) (by omega)
  rw [drop_eq hk,List.getElem_take,List.any_cons]
  simp only [law_ScanTurned_l1,ilt_eq,ile_eq,c,c0,c1,decide_true,cond_true,lat_eq,iN,Int.toNat_natCast,List.getElem?_eq_getElem hi,List.getElem?_eq_getElem hkl,bindN_s,hS,iadd1 (i:=k) (by omega),bindL_id1,ih]
  cases sharesP l[i] l[k]<;>rfl
theorem turned_l0 {n:Nat} (hn:Big n) (st:Int) (l:List SH) (q:QY) (sm:SmallC l):∀ (k g:Nat) (tu:List SH),k≤l.length→tu.length+k≤100→k<g →
  law_ScanTurned_l0 n g (st,l,q,tu,(k:Int) - 1,())=some (.inr (true,())) ∨
  (law_ScanTurned_l0 n g (st,l,q,tu,(k:Int) - 1,())=some (.inl (st,l,q,tu++(l.take k).reverse,()))∧∀ (i:Nat) (hi:i<l.length),i<k→∀ (j:Nat) (hj:j<i),sharesP l[i] (l[j]'(by omega))=false)
 | 0,g,tu,hk,ht,hg=>by
  obtain ⟨g,rfl⟩:∃ g',g=g'+1:=⟨g - 1,by omega⟩
  exact .inr ⟨by simp [law_ScanTurned_l0],fun i hi h=>by omega⟩
 | k+1,g,tu,hk,ht,hg=>by
  obtain ⟨g,rfl⟩:∃ g',g=g'+1:=⟨g - 1,by omega⟩
  have sm1:=sm.1
  have hi:k<l.length:=by omega
  have c0:(0:Int)≤k:=by omega
  have e1:((k+1:Nat):Int) - 1=(k:Int):=by omega
  have e2:isub .i64 (k:Int) 1=(k:Int) - 1:=isub64 (by omega) (by omega)
  have r1:room (tu.length+1) 24=true:=room_of (by omega)
  have h1:=turned_l1 hn st l q (tu++[l[k]]) k hi sm k 0 n (by omega) (by unfold Big at hn;omega)
  rw [show ((0:Nat):Int)=0 from rfl,List.drop_zero] at h1
  have ih:=turned_l0 hn st l q sm k g (tu++[l[k]]) (by omega) (by simp;omega) (by omega)
  rw [e1]
  cases ha:(l.take k).any (fun y=>sharesP l[k] y) with
  | true =>
   rw [ha,if_pos rfl] at h1
   exact .inl (by simp only [law_ScanTurned_l0,ile_eq,c0,decide_true,cond_true,lat_eq,iN,Int.toNat_natCast,List.getElem?_eq_getElem hi,bindN_s,roomA,List.length_singleton,r1,app,h1,bindL_inr])
  | false =>
   rw [ha,if_neg (by simp)] at h1
   have e:law_ScanTurned_l0 n (g+1) (st,l,q,tu,(k:Int),())=law_ScanTurned_l0 n g (st,l,q,tu++[l[k]],(k:Int) - 1,()):=by
    simp only [law_ScanTurned_l0,ile_eq,c0,decide_true,cond_true,lat_eq,iN,Int.toNat_natCast,List.getElem?_eq_getElem hi,bindN_s,roomA,List.length_singleton,r1,app,h1,bindL_inl,e2,bindL_id1]
   have e3:l.take (k+1)=l.take k++[l[k]]:=by rw [List.take_add_one,List.getElem?_eq_getElem hi];rfl
   rw [e,e3]
   rcases ih with ih|⟨ih1,ih2⟩
   ·exact .inl ih
   ·refine .inr ⟨by rw [ih1,List.reverse_append,List.reverse_singleton,List.append_assoc],fun i hi' hik j hj=>?_⟩
    by_cases hik2:i=k
    ·subst hik2
     rw [List.any_eq_false] at ha
     have hm:l[j]'(by omega)∈l.take i:=by
      rw [List.mem_take_iff_getElem]
      exact ⟨j,by omega,rfl⟩
     have:=ha _ hm
     simpa using this
    ·exact ih2 i hi' (by omega) j hj
theorem flatten_rev {α:Type}:∀ {M:List (List α)},M.Pairwise (fun a b=>a=[]∨b=[])→M.reverse.flatten=M.flatten
 | [],_=>rfl
 | a ::r,h=>by
  rw [List.pairwise_cons] at h
  rw [List.reverse_cons,List.flatten_append,flatten_rev h.2,List.flatten_cons]
  by_cases ha:a=[]
  ·subst ha;simp
  ·have:r.flatten=[]:=by
    rw [List.flatten_eq_nil_iff]
    intro b hb
    rcases h.1 b hb with e|e
    ·exact absurd e ha
    ·exact e
   rw [this,List.flatten_cons,this];simp
theorem eqv_key {z x:IT} (h:eqv ltK z x=true):x.2.1=z.2.1:=by
 apply bl_inj
 apply Classical.byContradiction
 intro hne
 unfold eqv at h
 unfold ltK at h
 rcases bl_total _ _ hne with g|g
 ·rw [g] at h;simp at h
 ·rw [g] at h;simp at h
theorem readS_keys {s:SH} {st:Int} {ds:List DR} {x:IT} (h:x∈readS s st ds):∃ e∈s.1,x.2.1=e.2.1:=by
 obtain ⟨e,he,h⟩:=List.mem_filterMap.1 h
 unfold readE at h
 split at h
 ·split at h
  ·cases h
  ·cases h;exact ⟨e,he,rfl⟩
 ·cases h
theorem turned_stb (st:Int) (ds:List DR) (l:List SH) (h:∀ (i:Nat) (hi:i<l.length) (j:Nat) (hj:j<i),sharesP l[i] (l[j]'(by omega))=false):Stb ltK (readsC st ds l.reverse) (readsC st ds l):=by
 intro z
 unfold readsC
 rw [List.map_reverse,List.filter_flatten,List.filter_flatten,List.map_reverse]
 apply flatten_rev
 rw [List.pairwise_map,List.pairwise_map,List.pairwise_iff_getElem]
 intro j i hj hi hji
 apply Classical.byContradiction
 intro hne
 rw [not_or] at hne
 obtain ⟨x,hx⟩:=List.exists_mem_of_ne_nil _ hne.1
 obtain ⟨y,hy⟩:=List.exists_mem_of_ne_nil _ hne.2
 rw [List.mem_filter] at hx hy
 obtain ⟨e1,he1,k1⟩:=readS_keys hx.1
 obtain ⟨e2,he2,k2⟩:=readS_keys hy.1
 have hs:=h i hi j hji
 unfold sharesP at hs
 rw [List.any_eq_false] at hs
 have h3:=hs e2 he2
 rw [List.any_eq_true] at h3
 exact h3 ⟨e1,he1,decide_eq_true (by rw [← k2,← k1,eqv_key hx.2,eqv_key hy.2])⟩
theorem scanTurned_true:∀ x,okArgs [tQuery, .int .i64, .slice tShard] x→∃ o,law_ScanTurned 1000000000000000 x=some ((true,()),o):=by
 intro x hx
 obtain ⟨q,st,l,⟨⟩⟩:=x
 obtain ⟨hq,hst,hl,_⟩:=hx
 have hn:=big_n
 have ha:=alive16_v
 generalize 1000000000000000=n at hn ha
 refine ⟨((),(),(),()),?_⟩
 have g0:=r16_Great_v hn l
 have g1:=r07_Great_v hn q
 cases h0:greatC l with
 | true=>simp only [law_ScanTurned,ha,bindN_s,Bool.not_true,cond_false,g0,h0,cond_true]
 | false =>
  cases h1:greatQ q.2.1 q.2.2.1 q.2.2.2.1 with
  | true=>simp only [law_ScanTurned,ha,bindN_s,Bool.not_true,cond_false,g0,h0,g1,h1,cond_true]
  | false =>
   have fq:=fitQ_of h1
   have sm:SmallC l:=not_greatC h0
   have sm1:=sm.1
   have e2:isub .i64 (l.length:Int) 1=(l.length:Int) - 1:=isub64 (by omega) (by omega)
   have L:=turned_l0 hn st l q sm l.length n [] (Nat.le_refl _) (by simp;omega) (by unfold Big at hn;omega)
   rcases L with L|⟨L,hA⟩
   ·simp only [law_ScanTurned,ha,bindN_s,Bool.not_true,cond_false,g0,h0,g1,h1,ilen,e2,L,bindL_inr]
   ·rw [List.nil_append,List.take_length] at L
    have smr:SmallC l.reverse:=⟨by rw [List.length_reverse];exact sm.1,fun s hs=>sm.2 s (List.mem_reverse.1 hs)⟩
    have hlr:okE (.slice tShard) l.reverse:=⟨by rw [List.length_reverse];exact hl.1,fun s hs=>hl.2 s (List.mem_reverse.1 hs)⟩
    have A:=scan_All_v hn q fq st [] l sm hl (by simp)
    have B:=scan_All_v hn q fq st [] l.reverse smr hlr (by simp)
    rw [answer_stb q (turned_stb st [] l fun i hi j hj=>hA i hi hi j hj)] at B
    have fi:=small_items sm hl st [] l.length
    rw [List.take_length] at fi
    obtain ⟨R1,R2⟩:=answer_fit q (readsC st [] l) fi.1
    have S:=r08_Same_v hn (a:=answerQ q (readsC st [] l)) (b:=answerQ q (readsC st [] l)) (Nat.le_trans R1.1 (by decide))
    simp only [law_ScanTurned,ha,bindN_s,Bool.not_true,cond_false,g0,h0,g1,h1,ilen,e2,L,bindL_inl,A,B,S,eqb_refl]
end Go.Proofs.YtdcphpbimeoioaaGreatDoorE
end
