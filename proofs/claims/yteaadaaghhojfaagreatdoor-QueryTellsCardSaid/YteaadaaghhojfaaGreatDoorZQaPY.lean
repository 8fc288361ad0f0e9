import Derived.Test.YteaadaaghhojfaaGreatDoorZQaPQux5
import Derived.Test.YteaadaaghhojfaaGreatDoorZQaPQux11
import Derived.Test.YteaadaaghhojfaaGreatDoorZQaPQux20
import Derived.Test.YteaadaaghhojfaaGreatDoorZQaPQux8
import Derived.Test.YteaadaaghhojfaaGreatDoorZQaPV
namespace Go.Proofs.YteaadaaghhojfaaGreatDoor.Pure
open Go.RowKit Go.Proofs.YteaadaaghhojfaaGreatDoor.PQu Go.Proofs.YteaadaaghhojfaaGreatDoorW.PrintWords Go.Proofs.YteaadaaghhojfaaGreatDoorW.PrintLast Go.Proofs.YteaadaaghhojfaaGreatDoorW.PrintMore Go.Proofs.YteaadaaghhojfaaGreatDoorW.XP Go.Proofs.YteaadaaghhojfaaGreatDoorW.XW
set_option linter.unusedVariables false
set_option linter.unusedSimpArgs false
abbrev tl (sep:List UInt8) (l:List (List UInt8)):List UInt8:=Lib.joinTail sep l
theorem tl_cons (sep x:List UInt8) (l:List (List UInt8)):tl sep (x ::l)=sep++x++tl sep l:=by simp [Lib.joinTail]
theorem joinB_nil (sep:ByteArray):joinB sep []=⟨#[]⟩:=rfl
theorem joinB_cons (sep x:ByteArray) (l:List ByteArray):bl (joinB sep (x ::l))=bl x++tl (bl sep) (l.map bl):=by
 unfold joinB;rw [bl_mk,List.map_cons,Lib.join_cons]
theorem tl_len (sep:List UInt8) (B:Nat):∀ l:List (List UInt8),(∀ x∈l,x.length≤B)→(tl sep l).length≤l.length * (sep.length+B)
 | [],_=>by simp [Lib.joinTail]
 | x ::l,h=>by
  have ih:=tl_len sep B l (fun y hy=>h y (List.mem_cons_of_mem _ hy))
  have h0:=h x List.mem_cons_self
  rw [tl_cons,List.length_append,List.length_append,List.length_cons,Nat.add_mul];omega
theorem joinB_len (sep:ByteArray) (B:Nat) (l:List ByteArray) (h:∀ x∈l,(bl x).length≤B):(bl (joinB sep l)).length≤l.length * ((bl sep).length+B):=by
 cases l with
 | nil=>simp [joinB_nil,empty_bl]
 | cons x l =>
  have ih:=tl_len (bl sep) B (l.map bl) (by
   intro y hy
   obtain ⟨z,hz,rfl⟩:=List.mem_map.1 hy
   exact h z (List.mem_cons_of_mem _ hz))
  have h0:=h x List.mem_cons_self
  rw [joinB_cons,List.length_append,List.length_cons,Nat.add_mul]
  rw [List.length_map] at ih;omega
theorem rjoin_loop (sep:ByteArray) (l:List ByteArray) (hl:l.length≤1000000):∀ (d i:Nat) (acc:ByteArray),i+1+d=l.length→(bl acc).length+(tl (bl sep) ((l.drop (i+1)).map bl)).length≤1000000000000 →
  Ev (fun k=>ebbtideref02_Join.l0 k sep l acc ((i+1:Nat):Int)) (mkB (bl acc++tl (bl sep) ((l.drop (i+1)).map bl)))
 | 0,i,acc,hd,hb=>by
  refine Ev.step (f:=fun _=>some acc) (fun k=>?_) ?_
  ·simp only [ebbtideref02_Join.l0];rw [if_neg (by omega)]
  ·rw [List.drop_of_length_le (by omega)]
   simpa [Lib.joinTail,mkB_bl] using Ev.now _
 | d+1,i,acc,hd,hb=>by
  have hi:i+1<l.length:=by omega
  rw [drop_cons l (i+1) hi,List.map_cons,tl_cons] at hb ⊢
  rw [List.length_append,List.length_append] at hb
  have h1:=size_bl acc
  have h2:=size_bl sep
  have h3:=size_bl l[i+1]
  refine Ev.step (f:=fun k=>ebbtideref02_Join.l0 k sep l ((acc++sep)++l[i+1]) ((i+1+1:Nat):Int)) (fun k=>?_) ?_
  ·simp only [ebbtideref02_Join.l0]
   rw [rdOf_lt _ l (i+1) hi]
   rw [if_pos (by omega),if_pos (by omega),if_pos (by omega),if_pos (by omega),if_pos (by omega),wrap_up (i+1) (by omega)]
  ·have:=rjoin_loop sep l hl d (i+1) ((acc++sep)++l[i+1]) (by omega) (by rw [bl_append,bl_append,List.length_append,List.length_append];omega)
   rw [bl_append,bl_append] at this
   simpa [List.append_assoc] using this
theorem rjoin_ev (sep:ByteArray) (l:List ByteArray) (hl:l.length≤1000000) (hb:(bl (joinB sep l)).length≤100000000000):Ev (fun k=>ebbtideref02_Join.f k sep l) (joinB sep l):=by
 unfold ebbtideref02_Join.f
 cases l with
 | nil =>
  refine Ev.step (f:=fun _=>some (⟨#[]⟩:ByteArray)) (fun k=>?_) (by rw [joinB_nil];exact Ev.now _)
  simp only [ebbtideref02_Join.l0];rw [if_neg (by simp)]
 | cons x r =>
  have hb':=hb
  rw [joinB_cons,List.length_append] at hb
  have h1:=size_bl x
  refine Ev.step (f:=fun k=>ebbtideref02_Join.l0 k sep (x ::r) (⟨#[]⟩++x) ((0+1:Nat):Int)) (fun k=>?_) ?_
  ·simp only [ebbtideref02_Join.l0]
   have e:rdOf ByteArray.empty (x ::r) 0=x:=rfl
   rw [e,if_pos (by simp),if_neg (by omega),if_pos (by omega),if_pos (by show 0+x.size≤_;omega)]
   rw [show wrap64 (0+1)=((0+1:Nat):Int) by decide+kernel]
  ·have:=rjoin_loop sep (x ::r) hl r.length 0 (⟨#[]⟩++x) (by simp;omega) (by
    rw [bl_append,empty_bl];simp only [List.nil_append,Nat.zero_add,List.drop_succ_cons,List.drop_zero];omega)
   rw [bl_append,empty_bl] at this
   have e:joinB sep (x ::r)=mkB (bl x++tl (bl sep) (r.map bl)):=bl_inj (by rw [joinB_cons,bl_mkB])
   rw [e]
   simpa using this
theorem join_split (c:UInt8):∀ l:List UInt8,Lib.join (splitL c l) [c]=l
 | []=>rfl
 | b ::l=>by
  have ih:=join_split c l
  rw [splitL]
  cases h:splitL c l with
  | nil=>exact absurd h (splitL_ne c l)
  | cons x t =>
   rw [h,Lib.join_cons] at ih
   by_cases hb:b=c
   ·subst hb
    rw [if_pos rfl,Lib.join_cons]
    show []++tl [b] (x ::t)=_
    rw [tl_cons,List.append_assoc,ih];rfl
   ·rw [if_neg hb,Lib.join_cons,List.cons_append,ih]
theorem joinB_split (c:UInt8) (s:ByteArray):joinB (mkB [c]) (splitB c s)=s:=by
 apply bl_inj
 unfold joinB splitB
 rw [bl_mk,bl_mkB,List.map_map]
 have:(bl ∘ fun l:List UInt8=>(⟨l.toArray⟩:ByteArray))=id:=by funext l;rfl
 rw [this,List.map_id,join_split]
def cutB (c:UInt8) (s:ByteArray):ByteArray×ByteArray×Bool :=
 if Lib.indexByte (bl s) c<0 then (s,⟨#[]⟩,false) else (s.extract 0 (Lib.indexByte (bl s) c).toNat,s.extract ((Lib.indexByte (bl s) c).toNat+1) s.size,true)
theorem cut_f (c:UInt8) (s:ByteArray) (hs:s.size≤9000000000000):strings_Cut.f s ⟨#[c]⟩=some (cutB c s):=by
 have h:=idx_lt (bl s) c
 rw [size_bl] at h
 unfold strings_Cut.f stringslite_Cut.f cutB
 have e:stringslite_Index.f s ⟨#[c]⟩=some (Lib.indexByte (bl s) c):=rfl
 rw [e]
 simp only [Option.bind_some]
 by_cases h0:Lib.indexByte (bl s) c<0
 ·rw [if_neg (by omega),if_pos h0];rfl
 ·obtain ⟨m,hm⟩:=Int.eq_ofNat_of_zero_le (show 0≤Lib.indexByte (bl s) c by omega)
  rw [hm] at h h0 ⊢
  have e1:(((⟨#[c]⟩:ByteArray).size:Nat):Int)=1:=rfl
  rw [e1,wrap_up m (by omega),if_pos (by omega),if_pos (by omega),if_pos (by omega),if_pos (by omega),if_pos (by omega),if_neg h0]
  simp
theorem split_cut (c:UInt8) (s:ByteArray):splitB c s=if (cutB c s).2.2=true then (cutB c s).1 ::splitB c (cutB c s).2.1 else [s]:=by
 have e:=splitL_idx c (bl s)
 unfold splitB cutB
 rw [e]
 by_cases h0:Lib.indexByte (bl s) c<0
 ·rw [if_pos h0,if_pos h0];rfl
 ·rw [if_neg h0,if_neg h0,if_pos rfl,ext_take,ext_drop,bl_mk ((bl s).drop ((Lib.indexByte (bl s) c).toNat+1))];rfl
theorem cut_size (c:UInt8) (s:ByteArray):(cutB c s).1.size≤s.size∧(cutB c s).2.1.size≤s.size:=by
 unfold cutB
 split
 ·exact ⟨Nat.le_refl _,Nat.zero_le _⟩
 ·constructor
  ·rw [← size_bl,bl_extract,← size_bl s];simp;omega
  ·rw [← size_bl,bl_extract,← size_bl s];simp
theorem splitB_size (c:UInt8) (s:ByteArray):∀ x∈splitB c s,x.size≤s.size:=by
 suffices h:∀ (l:List UInt8),∀ x∈splitL c l,x.length≤l.length by
  intro x hx
  unfold splitB at hx
  obtain ⟨y,hy,rfl⟩:=List.mem_map.1 hx
  have:=h _ _ hy
  rw [size_bl] at this
  rw [← size_bl,bl_mk];exact this
 intro l
 induction l with
 | nil=>intro x hx;simp [splitL] at hx;subst hx;simp
 | cons b l ih =>
  intro x hx
  rw [splitL] at hx
  split at hx
  ·rcases List.mem_cons.1 hx with rfl|hx
   ·simp
   ·have:=ih x hx;simp;omega
  ·split at hx
   ·simp at hx;subst hx;simp
   ·rename_i h t e
    rw [e] at ih
    rcases List.mem_cons.1 hx with rfl|hx
    ·have:=ih h List.mem_cons_self;simp;omega
    ·have:=ih x (List.mem_cons_of_mem _ hx);simp;omega
theorem splitB_len (c:UInt8) (s:ByteArray):(splitB c s).length≤s.size+1:=by
 unfold splitB
 rw [List.length_map,← size_bl];exact splitL_len c _
def pairB (t:TG):ByteArray:=joinB (mkB [61]) [t.f0,t.f1]
theorem bl_pairB (t:TG):bl (pairB t)=bl t.f0++[61]++bl t.f1:=by
 unfold pairB;rw [joinB_cons];simp [Lib.joinTail,bl_mkB]
def textT (l:List TG):ByteArray:=joinB (mkB [44]) (l.map pairB)
def Fit (l:List TG):Prop:=l.length≤1000∧∀ t∈l,t.f0.size≤1000000∧t.f1.size≤1000000
theorem fit_pair {l:List TG} (h:Fit l) (t:TG) (ht:t∈l):(bl (pairB t)).length≤2000001:=by
 have:=h.2 t ht
 rw [bl_pairB];simp [size_bl];omega
theorem fit_text {l:List TG} (h:Fit l):(bl (textT l)).length≤100000000000:=by
 have:=joinB_len (mkB [44]) 2000001 (l.map pairB) (by
  intro x hx
  obtain ⟨t,ht,rfl⟩:=List.mem_map.1 hx
  exact fit_pair h t ht)
 rw [List.length_map] at this
 refine Nat.le_trans this (Nat.le_trans (Nat.mul_le_mul_right _ h.1) ?_)
 rw [bl_mkB];simp
theorem text_loop (l:List TG) (hf:Fit l):∀ (d i:Nat) (acc:List ByteArray),i+d=l.length→acc.length=i→acc++(l.drop i).map pairB=l.map pairB →
  Ev (fun k=>tag_Text.l0 k acc l (l.length:Int) (i:Int)) (textT l)∧Ev (fun k=>ebbtideref03_Text.l0 k l acc (i:Int)) (textT l)
 | 0,i,acc,hd,ha,he=>by
  have h1:=hf.1
  rw [List.drop_of_length_le (by omega)] at he
  simp at he;subst he
  constructor
  ·refine Ev.step (f:=fun _=>some (textT l)) (fun k=>?_) (Ev.now _)
   simp only [tag_Text.l0];rw [if_neg (by omega)]
   have:=join_f (mkB [44]) (l.map pairB) (by simp;omega) (fit_text hf)
   rw [show (⟨#[44]⟩:ByteArray)=mkB [44] from rfl,this];rfl
  ·refine Ev.step (f:=fun k=>(ebbtideref02_Join.f k (mkB [44]) (l.map pairB)).bind fun t=>some t) (fun k=>?_) (Ev.bind (rjoin_ev _ _ (by simp;omega) (fit_text hf)) (Ev.now _))
   simp only [ebbtideref03_Text.l0];rw [if_neg (by omega)];rfl
 | d+1,i,acc,hd,ha,he=>by
  have h1:=hf.1
  have hi:i<l.length:=by omega
  have hft:=hf.2 l[i] (List.getElem_mem hi)
  rw [drop_cons l i hi,List.map_cons] at he
  have ih:=text_loop l hf d (i+1) (acc++[pairB l[i]]) (by omega) (by simp;omega) (by rw [← he];simp)
  constructor
  ·refine Ev.step (f:=fun k=>tag_Text.l0 k (acc++[pairB l[i]]) l (l.length:Int) ((i+1:Nat):Int)) (fun k=>?_) ih.1
   simp only [tag_Text.l0]
   have e:=join_f (mkB [61]) [l[i].f0,l[i].f1] (by simp) (Nat.le_trans (fit_pair hf _ (List.getElem_mem hi)) (by omega))
   rw [if_pos (by omega),if_pos (by omega),if_pos (by omega),rdT l i hi,show (⟨#[61]⟩:ByteArray)=mkB [61] from rfl,e,wrap_up i (by omega)]
   simp only [Option.bind_some]
   rw [if_pos (by omega)];rfl
  ·refine Ev.step (f:=fun k=>ebbtideref03_Text.l0 k l (acc++[pairB l[i]]) ((i+1:Nat):Int)) (fun k=>?_) ih.2
   have e:(l[i].f0++(⟨#[61]⟩:ByteArray))++l[i].f1=pairB l[i]:=bl_inj (by rw [bl_pairB,bl_append,bl_append];rfl)
   simp only [ebbtideref03_Text.l0]
   rw [if_pos (by omega),if_pos (by omega),rdT l i hi,if_pos (by omega),if_pos (by omega),if_pos (by omega),e,wrap_up i (by omega)]
theorem text_ev (l:List TG) (hf:Fit l):Ev (fun k=>tag_Text.f k l) (textT l):=(text_loop l hf l.length 0 [] (by omega) rfl (by simp)).1
theorem rtext_ev (l:List TG) (hf:Fit l):Ev (fun k=>ebbtideref03_Text.f k l) (textT l):=(text_loop l hf l.length 0 [] (by omega) rfl (by simp)).2
def pairsT:List ByteArray→Option (List TG)
 | []=>some []
 | x ::r=>if (cutB 61 x).2.2=true then (pairsT r).map ((⟨(cutB 61 x).1,(cutB 61 x).2.1⟩:TG) ::·) else none
def readT (acc:List TG) (o:Option (List TG)):List TG×Int:=o.elim ([],2) fun ps=>canonT (acc++ps)
def parseT (s:ByteArray):List TG×Int:=if bl s=[] then ([],0) else readT [] (pairsT (splitB 44 s))
end Go.Proofs.YteaadaaghhojfaaGreatDoor.Pure
