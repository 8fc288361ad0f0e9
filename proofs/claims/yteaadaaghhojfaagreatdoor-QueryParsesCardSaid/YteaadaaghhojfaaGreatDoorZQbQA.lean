import Derived.Test.YteaadaaghhojfaaGreatDoorZQbPQux8
import Derived.Test.YteaadaaghhojfaaGreatDoorZQbPQux11
import Derived.Test.YteaadaaghhojfaaGreatDoorZQbPQux15
import Derived.Test.YteaadaaghhojfaaGreatDoorZQbPQux14
import Derived.Test.YteaadaaghhojfaaGreatDoorZQbPQux3
import Derived.Test.YteaadaaghhojfaaGreatDoorZQbPQux16
import Derived.Test.YteaadaaghhojfaaGreatDoorZQbPQux12
import Derived.Test.YteaadaaghhojfaaGreatDoorZQbPQux2
import Derived.Test.YteaadaaghhojfaaGreatDoorZQbKP
namespace Go.Proofs.YteaadaaghhojfaaGreatDoor.Pure
open Go.RowKit Go.Proofs.YteaadaaghhojfaaGreatDoor.PQu Go.Proofs.YteaadaaghhojfaaGreatDoorW.PrintWords Go.Proofs.YteaadaaghhojfaaGreatDoorW.PrintLast Go.Proofs.YteaadaaghhojfaaGreatDoorW.PrintMore Go.Proofs.YteaadaaghhojfaaGreatDoorW.XP Go.Proofs.YteaadaaghhojfaaGreatDoorW.XW
set_option linter.unusedVariables false
set_option linter.unusedSimpArgs false
theorem rparse_loop (ps:List ByteArray) (hl:ps.length≤1000000) (hs:∀ x∈ps,x.size≤900000):∀ (d i:Nat) (acc:List TG),i+d=ps.length→acc.length≤i →
  Ev (fun k=>ebbtideref03_Parse.l0 k acc ps (i:Int)) (readT acc (pairsT (ps.drop i)))
 | 0,i,acc,hd,ha=>by
  rw [List.drop_of_length_le (by omega)]
  have e:readT acc (pairsT [])=canonT acc:=by simp [readT,pairsT]
  rw [e]
  refine Ev.step (f:=fun k=>(ebbtideref03_Canon.f k acc).bind fun bt=>some (bt.1,bt.2)) (fun k=>?_) (Ev.bind (rcanon_ev acc (by omega)) (Ev.now _))
  simp only [ebbtideref03_Parse.l0];rw [if_neg (by omega)]
 | d+1,i,acc,hd,ha=>by
  have hi:i<ps.length:=by omega
  have hx:=hs ps[i] (List.getElem_mem hi)
  rw [drop_cons ps i hi,pairsT]
  have ih:=rparse_loop ps hl hs d (i+1) (acc++[⟨(cutB 61 ps[i]).1,(cutB 61 ps[i]).2.1⟩]) (by omega) (by simp;omega)
  have er:readT (acc++[⟨(cutB 61 ps[i]).1,(cutB 61 ps[i]).2.1⟩]) (pairsT (ps.drop (i+1)))=readT acc ((pairsT (ps.drop (i+1))).map ((⟨(cutB 61 ps[i]).1,(cutB 61 ps[i]).2.1⟩:TG) ::·)):=by
   cases pairsT (ps.drop (i+1))<;>simp [readT]
  rw [er] at ih
  refine Ev.step (f:=fun k=>(ebbtideref02_Split.f k ps[i] 61).bind fun t=>if (t.length:Int)<2 then some (([]:List TG),2) else if 0<(t.length:Int) then if 1≤(t.length:Int) then ((ebbtideref02_Join.f k (⟨#[61]⟩:ByteArray) (t.drop 1)).bind fun t345=>(if acc.length<4398046511104 then (ebbtideref03_Parse.l0 k (acc++[⟨rdOf ByteArray.empty t 0,t345⟩]) ps ((i+1:Nat):Int)) else none)) else none else none) (fun k=>?_) ?_
  ·simp only [ebbtideref03_Parse.l0]
   rw [if_pos (by omega),if_pos (by omega),rdOf_lt _ ps i hi,wrap_up i (by omega)]
  ·refine Ev.bind (rsplit_ev 61 ps[i] (by omega)) ?_
   have hc:=split_cut 61 ps[i]
   cases h:(cutB 61 ps[i]).2.2 with
   | true =>
    rw [h,if_pos rfl] at hc
    have hne:1≤(splitB 61 (cutB 61 ps[i]).2.1).length:=by
     have:=splitL_ne 61 (bl (cutB 61 ps[i]).2.1)
     unfold splitB;rw [List.length_map];exact List.length_pos_iff.2 this
    have hsz:=(cut_size 61 ps[i]).2
    have hlen:=splitB_len 61 (cutB 61 ps[i]).2.1
    rw [hc]
    refine Ev_if_neg (by simp only [List.length_cons];omega) (Ev_if_pos (by simp only [List.length_cons];omega) (Ev_if_pos (by simp only [List.length_cons];omega) ?_))
    rw [List.drop_succ_cons,List.drop_zero]
    refine Ev.bind (a:=(cutB 61 ps[i]).2.1) ?_ (Ev_if_pos (by omega) (by rw [if_pos rfl];exact ih))
    have hj:=joinB_split 61 (cutB 61 ps[i]).2.1
    have:=rjoin_ev (mkB [61]) (splitB 61 (cutB 61 ps[i]).2.1) (by omega) (by rw [hj,size_bl];omega)
    rw [hj] at this;exact this
   | false =>
    rw [h,if_neg (by simp)] at hc
    rw [hc]
    exact Ev_if_pos (by simp) (by simpa [readT] using Ev.now _)
theorem rparse_ev (s:ByteArray) (hs:s.size≤100000):Ev (fun k=>ebbtideref03_Parse.f k s) (parseT s):=by
 unfold ebbtideref03_Parse.f parseT
 rw [toList_bl]
 refine Ev_if (fun _=>Ev.now _) (fun h=>?_)
 have h1:=splitB_len 44 s
 exact Ev.bind (rsplit_ev 44 s (by omega)) (rparse_loop (splitB 44 s) (by omega) (fun x hx=>by have:=splitB_size 44 s x hx;omega) (splitB 44 s).length 0 [] (by omega) (by simp))
theorem rkeyparse_ev (s:ByteArray) (hs:s.size≤100000):Ev (fun k=>ebbtideref04_Parse.f k s) (parseK s):=by
 unfold ebbtideref04_Parse.f parseK
 have hsz:=cutK_size s
 have hj:∀ n b:ByteArray,Ev (fun k=>ebbtideref04_Parse.j0 k n b true) (NoB,[],2):=fun n b=>Ev.step (f:=fun _=>some (NoB,[],2)) (fun k=>by simp [ebbtideref04_Parse.j0]) (Ev.now _)
 refine Ev.bind (rcut_ev s (by omega)) ?_
 by_cases h1:(cutK s).2.2=true
 ·rw [if_pos h1]
  refine Ev_if_pos h1 (Ev.bind (rname_ev _) ?_)
  cases h2:nameL (bl (cutK s).1) with
  | false=>rw [if_neg (by simp)];exact hj _ _
  | true =>
   rw [if_pos rfl]
   refine Ev.step (f:=fun k=>(ebbtideref03_Parse.f k (cutK s).2.1).bind fun bt524=>(if bt524.2=0 then (some ((cutK s).1,bt524.1,0)) else (some ((⟨#[]⟩:ByteArray),([]:List TG),bt524.2)))) (fun k=>by simp [ebbtideref04_Parse.j0]) ?_
   exact Ev.bind (rparse_ev _ (by omega)) (Ev_if (fun _=>Ev.now _) (fun _=>Ev.now _))
 ·rw [if_neg h1]
  exact Ev_if_neg h1 (hj _ _)
theorem eqs_loop (a b:List ByteArray) (hl:a.length=b.length) (hb:a.length≤100000000):∀ (d i:Nat),i+d=a.length →
  Ev (fun k=>slices_Equal_string.l0 k a b (a.length:Int) (i:Int)) (decide (a.drop i=b.drop i))∧Ev (fun k=>ebbtideref02_Same.l0 k a b (i:Int)) (decide (a.drop i=b.drop i))
 | 0,i,hd=>by
  rw [List.drop_of_length_le (by omega),List.drop_of_length_le (by omega),decide_eq_true rfl]
  constructor
  ·refine Ev.step (f:=fun _=>some true) (fun k=>?_) (Ev.now _)
   simp only [slices_Equal_string.l0];rw [if_neg (by omega)]
  ·refine Ev.step (f:=fun _=>some true) (fun k=>?_) (Ev.now _)
   simp only [ebbtideref02_Same.l0];rw [if_neg (by omega)]
 | d+1,i,hd=>by
  have hi:i<a.length:=by omega
  have hi':i<b.length:=by omega
  have ih:=eqs_loop a b hl hb d (i+1) (by omega)
  have e:decide (a.drop i=b.drop i)=if a[i].toList=b[i].toList then decide (a.drop (i+1)=b.drop (i+1)) else false:=by
   rw [drop_cons a i hi,drop_cons b i hi']
   by_cases h:a[i]=b[i]
   ·rw [if_pos (by rw [h]),Bool.eq_iff_iff,decide_eq_true_eq,decide_eq_true_eq];exact ⟨fun e=>(List.cons.inj e).2,fun e=>by rw [h,e]⟩
   ·rw [if_neg (fun h2=>h ((ba_eq _ _).1 h2))];exact decide_eq_false (fun e=>h (List.cons.inj e).1)
  rw [e]
  constructor
  ·refine Ev.step (f:=fun k=>if a[i].toList=b[i].toList then slices_Equal_string.l0 k a b (a.length:Int) ((i+1:Nat):Int) else some false) (fun k=>?_) (Ev_if (fun _=>ih.1) (fun _=>Ev.now _))
   simp only [slices_Equal_string.l0]
   rw [if_pos (by omega),if_pos (by omega),if_pos (by omega),if_pos (by omega),rdOf_lt _ a i hi,rdOf_lt _ b i hi',wrap_up i (by omega)]
  ·refine Ev.step (f:=fun k=>if a[i].toList=b[i].toList then ebbtideref02_Same.l0 k a b ((i+1:Nat):Int) else some false) (fun k=>?_) (Ev_if (fun _=>ih.2) (fun _=>Ev.now _))
   simp only [ebbtideref02_Same.l0]
   rw [if_pos (by omega),if_pos (by omega),if_pos (by omega),rdOf_lt _ a i hi,rdOf_lt _ b i hi',wrap_up i (by omega)]
theorem eqs_ev (a b:List ByteArray) (hb:a.length≤100000000):Ev (fun k=>slices_Equal_string.f k a b) (decide (a=b)):=by
 unfold slices_Equal_string.f
 by_cases h:a.length=b.length
 ·exact Ev_if_pos (by omega) (by simpa using (eqs_loop a b h hb a.length 0 (by omega)).1)
 ·refine Ev_if_neg (by omega) ?_
  rw [decide_eq_false (fun e=>h (congrArg List.length e))];exact Ev.now _
theorem reqs_ev (a b:List ByteArray) (hb:a.length≤100000000):Ev (fun k=>ebbtideref02_Same.f k a b) (decide (a=b)):=by
 unfold ebbtideref02_Same.f
 by_cases h:a.length=b.length
 ·exact Ev_if_pos (by omega) (by simpa using (eqs_loop a b h hb a.length 0 (by omega)).2)
 ·refine Ev_if_neg (by omega) ?_
  rw [decide_eq_false (fun e=>h (congrArg List.length e))];exact Ev.now _
abbrev MT:=S127
theorem rdM (l:List MT) (i:Nat) (h:i<l.length):rd_T127 l (i:Int)=l[i]:=by
 show l.getD ((i:Int)).toNat _=l[i]
 rw [Int.toNat_natCast,getD_lt _ l i h]
def prM (m:MT):Int×List UInt8×List UInt8:=(m.f0,bl m.f1,bl m.f2)
theorem prM_inj {t u:MT} (h:prM t=prM u):t=u:=by
 cases t;cases u
 simp only [prM,Prod.mk.injEq] at h
 obtain ⟨rfl,h1,h2⟩:=h
 rw [bl_inj h1,bl_inj h2]
def sameM (a b:List MT):Bool:=decide (a.map prM=b.map prM)
theorem sameM_iff (a b:List MT):sameM a b=true↔a=b:=by
 unfold sameM
 rw [decide_eq_true_eq]
 exact ⟨fun h=>List.map_inj_right (fun _ _ h=>prM_inj h) |>.1 h,fun h=>by rw [h]⟩
theorem neM_bool (t u:MT):(!(t.f0 ==u.f0) || (!((t.f1.toList) ==(u.f1.toList)) || (!((t.f2.toList) ==(u.f2.toList)))))=decide (prM t≠prM u):=by
 rw [toList_bl,toList_bl,toList_bl,toList_bl,Bool.eq_iff_iff]
 unfold prM
 by_cases h0:t.f0=u.f0<;>by_cases h1:bl t.f1=bl u.f1<;>by_cases h2:bl t.f2=bl u.f2<;>simp [h0,h1,h2]
theorem eqm_loop (a b:List MT) (hl:a.length=b.length) (hb:a.length≤100000000):∀ (d i:Nat),i+d=a.length →
  Ev (fun k=>slices_Equal_Match.l0 k a b (a.length:Int) (i:Int)) (decide ((a.drop i).map prM=(b.drop i).map prM))∧Ev (fun k=>ebbtideref05_Same.l0 k a b (i:Int)) (decide ((a.drop i).map prM=(b.drop i).map prM))
 | 0,i,hd=>by
  rw [List.drop_of_length_le (by omega),List.drop_of_length_le (by omega),decide_eq_true rfl]
  constructor
  ·refine Ev.step (f:=fun _=>some true) (fun k=>?_) (Ev.now _)
   simp only [slices_Equal_Match.l0];rw [if_neg (by omega)]
  ·refine Ev.step (f:=fun _=>some true) (fun k=>?_) (Ev.now _)
   simp only [ebbtideref05_Same.l0];rw [if_neg (by omega)]
 | d+1,i,hd=>by
  have hi:i<a.length:=by omega
  have hi':i<b.length:=by omega
  have ih:=eqm_loop a b hl hb d (i+1) (by omega)
  have e:decide ((a.drop i).map prM=(b.drop i).map prM)=if prM a[i]≠prM b[i] then false else decide ((a.drop (i+1)).map prM=(b.drop (i+1)).map prM):=by
   rw [drop_cons a i hi,drop_cons b i hi',List.map_cons,List.map_cons]
   by_cases h:prM a[i]=prM b[i]<;>simp [h]
  rw [e]
  constructor
  ·refine Ev.step (f:=fun k=>if prM a[i]≠prM b[i] then some false else slices_Equal_Match.l0 k a b (a.length:Int) ((i+1:Nat):Int)) (fun k=>?_) (Ev_if (fun _=>Ev.now _) (fun _=>ih.1))
   simp only [slices_Equal_Match.l0]
   rw [if_pos (by omega),if_pos (by omega),if_pos (by omega),if_pos (by omega),rdM a i hi,rdM b i hi',neM_bool,wrap_up i (by omega)]
   by_cases h:prM a[i]=prM b[i]<;>simp [h]
  ·refine Ev.step (f:=fun k=>if prM a[i]≠prM b[i] then some false else ebbtideref05_Same.l0 k a b ((i+1:Nat):Int)) (fun k=>?_) (Ev_if (fun _=>Ev.now _) (fun _=>ih.2))
   simp only [ebbtideref05_Same.l0]
   rw [if_pos (by omega),if_pos (by omega),if_pos (by omega),rdM a i hi,rdM b i hi',neM_bool,wrap_up i (by omega)]
   by_cases h:prM a[i]=prM b[i]<;>simp [h]
theorem eqm_ev (a b:List MT) (hb:a.length≤100000000):Ev (fun k=>pick_Same.f k a b) (sameM a b):=by
 unfold pick_Same.f slices_Equal_Match.f sameM
 refine Ev.bind (a:=decide (a.map prM=b.map prM)) ?_ (Ev.now _)
 by_cases h:a.length=b.length
 ·exact Ev_if_pos (by omega) (by simpa using (eqm_loop a b h hb a.length 0 (by omega)).1)
 ·refine Ev_if_neg (by omega) ?_
  rw [decide_eq_false (fun e=>h (by simpa using congrArg List.length e))];exact Ev.now _
theorem reqm_ev (a b:List MT) (hb:a.length≤100000000):Ev (fun k=>ebbtideref05_Same.f k a b) (sameM a b):=by
 unfold ebbtideref05_Same.f sameM
 by_cases h:a.length=b.length
 ·exact Ev_if_pos (by omega) (by simpa using (eqm_loop a b h hb a.length 0 (by omega)).2)
 ·refine Ev_if_neg (by omega) ?_
  rw [decide_eq_false (fun e=>h (by simpa using congrArg List.length e))];exact Ev.now _
def full (x:ByteArray):Bool:=decide (bl x≠[])
def fieldsB (s:ByteArray):List ByteArray:=(splitB 32 s).filter full
theorem fields_loop (ps:List ByteArray) (hl:ps.length≤10000000):∀ (d i:Nat) (acc:List ByteArray),i+d=ps.length→acc.length≤i →
  Ev (fun k=>word_Fields.l0 k acc ps (ps.length:Int) (i:Int)) (acc++(ps.drop i).filter full)∧Ev (fun k=>ebbtideref02_Fields.l0 k acc ps (i:Int)) (acc++(ps.drop i).filter full)
 | 0,i,acc,hd,ha=>by
  rw [List.drop_of_length_le (by omega),List.filter_nil,List.append_nil]
  constructor
  ·refine Ev.step (f:=fun _=>some acc) (fun k=>?_) (Ev.now _)
   simp only [word_Fields.l0];rw [if_neg (by omega)]
  ·refine Ev.step (f:=fun _=>some acc) (fun k=>?_) (Ev.now _)
   simp only [ebbtideref02_Fields.l0];rw [if_neg (by omega)]
 | d+1,i,acc,hd,ha=>by
  have hi:i<ps.length:=by omega
  rw [drop_cons ps i hi]
  by_cases h:bl ps[i]=[]
  ·have ih:=fields_loop ps hl d (i+1) acc (by omega) (by omega)
   rw [List.filter_cons_of_neg (by simp [full,h])]
   constructor
   ·refine Ev.step (f:=fun k=>word_Fields.l0 k acc ps (ps.length:Int) ((i+1:Nat):Int)) (fun k=>?_) ih.1
    simp only [word_Fields.l0]
    rw [if_pos (by omega),if_pos (by omega),if_pos (by omega),rdOf_lt _ ps i hi,toList_bl,if_pos h,wrap_up i (by omega)]
   ·refine Ev.step (f:=fun k=>ebbtideref02_Fields.l0 k acc ps ((i+1:Nat):Int)) (fun k=>?_) ih.2
    simp only [ebbtideref02_Fields.l0]
    rw [if_pos (by omega),if_pos (by omega),rdOf_lt _ ps i hi,toList_bl,if_pos h,wrap_up i (by omega)]
  ·have ih:=fields_loop ps hl d (i+1) (acc++[ps[i]]) (by omega) (by simp;omega)
   rw [List.filter_cons_of_pos (by simp [full,h])]
   rw [List.append_assoc,List.singleton_append] at ih
   constructor
   ·refine Ev.step (f:=fun k=>word_Fields.l0 k (acc++[ps[i]]) ps (ps.length:Int) ((i+1:Nat):Int)) (fun k=>?_) ih.1
    simp only [word_Fields.l0]
    rw [if_pos (by omega),if_pos (by omega),if_pos (by omega),rdOf_lt _ ps i hi,toList_bl,if_neg h,if_pos (by omega),wrap_up i (by omega)]
   ·refine Ev.step (f:=fun k=>ebbtideref02_Fields.l0 k (acc++[ps[i]]) ps ((i+1:Nat):Int)) (fun k=>?_) ih.2
    simp only [ebbtideref02_Fields.l0]
    rw [if_pos (by omega),if_pos (by omega),rdOf_lt _ ps i hi,toList_bl,if_neg h,if_pos (by omega),wrap_up i (by omega)]
theorem fields_ev (s:ByteArray) (hs:s.size≤1000000):Ev (fun k=>word_Fields.f k s) (fieldsB s):=by
 unfold word_Fields.f fieldsB
 have:=splitB_len 32 s
 refine Ev.bind (split_ev 32 s hs) ?_
 simpa using (fields_loop (splitB 32 s) (by omega) (splitB 32 s).length 0 [] (by omega) (by simp)).1
theorem rfields_ev (s:ByteArray) (hs:s.size≤1000000):Ev (fun k=>ebbtideref02_Fields.f k s) (fieldsB s):=by
 unfold ebbtideref02_Fields.f fieldsB
 have:=splitB_len 32 s
 refine Ev.bind (rsplit_ev 32 s hs) ?_
 simpa using (fields_loop (splitB 32 s) (by omega) (splitB 32 s).length 0 [] (by omega) (by simp)).2
theorem fields_size (s:ByteArray):∀ x∈fieldsB s,x.size≤s.size:=fun x hx=>splitB_size 32 s x (List.mem_filter.1 hx).1
def mayM (m:MT):Bool:=nameL (bl m.f1) && (if m.f0=1∨m.f0=2 then valueL (bl m.f2) else if m.f0=3 then decide (bl m.f2=[]) || valueL (bl m.f2) else decide (m.f0=4) && decide (bl m.f2=[]))
theorem maym_ev (m:MT):Ev (fun k=>pick_match_may.f k m.f0 m.f1 m.f2) (mayM m):=by
 unfold pick_match_may.f mayM
 refine Ev_bind0 (name_f _) ?_
 cases hn:nameL (bl m.f1) with
 | false=>exact Ev_if_neg (by simp) (Ev.now _)
 | true =>
  refine Ev_if_pos rfl ?_
  rw [Bool.true_and]
  by_cases h1:m.f0=1
  ·refine Ev_if_pos h1 ?_
   rw [if_pos (.inl h1),h1]
   refine Ev.step (f:=fun _=>some (valueL (bl m.f2))) (fun k=>?_) (Ev.now _)
   simp only [pick_match_may.j0];rw [if_pos (by rfl),value_f];rfl
  ·refine Ev_if_neg h1 ?_
   by_cases h2:m.f0=2
   ·rw [if_pos (.inr h2),h2]
    refine Ev.step (f:=fun _=>some (valueL (bl m.f2))) (fun k=>?_) (Ev.now _)
    simp only [pick_match_may.j0];rw [if_pos (by rfl),value_f];rfl
   ·rw [if_neg (fun h=>h.elim h1 h2)]
    refine Ev.step (f:=fun _=>some (if m.f0=3 then decide (bl m.f2=[]) || valueL (bl m.f2) else decide (m.f0=4) && decide (bl m.f2=[]))) (fun k=>?_) (Ev.now _)
    simp only [pick_match_may.j0]
    rw [if_neg (by simpa using h2),toList_bl,value_f]
    by_cases h3:m.f0=3
    ·rw [if_pos h3,if_pos h3]
     by_cases h:bl m.f2=[]<;>simp [h]
    ·rw [if_neg h3,if_neg h3]
     by_cases h4:m.f0=4
     ·rw [if_pos h4,decide_eq_true h4,Bool.true_and];by_cases h:bl m.f2=[]<;>simp [h]
     ·rw [if_neg h4,decide_eq_false h4];rfl
theorem rmaym_ev (m:MT):Ev (fun k=>ebbtideref05_may.f k m.f0 m.f1 m.f2) (mayM m):=by
 unfold ebbtideref05_may.f mayM
 refine Ev.bind (rname_ev _) ?_
 cases hn:nameL (bl m.f1) with
 | false=>exact Ev_if_neg (by simp) (Ev.now _)
 | true =>
  refine Ev_if_pos rfl ?_
  rw [Bool.true_and]
  by_cases h1:m.f0=1
  ·refine Ev_if_pos h1 ?_
   rw [if_pos (.inl h1),h1]
   refine Ev_succ ?_
   simp only [ebbtideref05_may.j0]
   exact Ev_if_pos (by rfl) (Ev.bind (rvalue_ev _) (Ev.now _))
  ·refine Ev_if_neg h1 ?_
   by_cases h2:m.f0=2
   ·rw [if_pos (.inr h2),h2]
    refine Ev_succ ?_
    simp only [ebbtideref05_may.j0]
    exact Ev_if_pos (by rfl) (Ev.bind (rvalue_ev _) (Ev.now _))
   ·rw [if_neg (fun h=>h.elim h1 h2)]
    refine Ev_succ ?_
    simp only [ebbtideref05_may.j0]
    refine Ev_if_neg (by simpa using h2) ?_
    rw [toList_bl]
    by_cases h3:m.f0=3
    ·rw [if_pos h3]
     refine Ev_if_pos h3 ?_
     by_cases h:bl m.f2=[]
     ·rw [decide_eq_true h,Bool.true_or];exact Ev_if_pos h (Ev.now _)
     ·rw [decide_eq_false h,Bool.false_or];exact Ev_if_neg h (Ev.bind (rvalue_ev _) (Ev.now _))
    ·rw [if_neg h3]
     refine Ev_if_neg h3 ?_
     by_cases h4:m.f0=4
     ·rw [decide_eq_true h4,Bool.true_and]
      refine Ev_if_pos h4 ?_
      by_cases h:bl m.f2=[]<;>simp only [h]<;>exact Ev_const (by simp [h])
     ·rw [decide_eq_false h4,Bool.false_and]
      exact Ev_if_neg h4 (Ev.now _)
def rightM (l:List MT):Bool:=decide (l.length≤4) && l.all mayM
theorem badm_loop (l:List MT) (hl:l.length≤1000000):∀ (d i:Nat),i+d=l.length→∃ r:Int,Ev (fun k=>slices_IndexFunc_Match_by_pick_Right_1.l0 k l (l.length:Int) (i:Int)) r∧(0≤r↔¬ (l.drop i).all mayM=true)
 | 0,i,hd=>by
  refine ⟨-1,Ev.step (f:=fun _=>some (-1)) (fun k=>?_) (Ev.now _),?_⟩
  ·simp only [slices_IndexFunc_Match_by_pick_Right_1.l0];rw [if_neg (by omega)]
  ·rw [List.drop_of_length_le (by omega)];simp
 | d+1,i,hd=>by
  have hi:i<l.length:=by omega
  obtain ⟨r,h1,h2⟩:=badm_loop l hl d (i+1) (by omega)
  rw [drop_cons l i hi,List.all_cons]
  have hst:∀ r':Int,Ev (fun k=>(pick_match_may.f k l[i].f0 l[i].f1 l[i].f2).bind fun t=>(some (!t)).bind fun t2=>if t2=true then some (i:Int) else slices_IndexFunc_Match_by_pick_Right_1.l0 k l (l.length:Int) ((i+1:Nat):Int)) r'→Ev (fun k=>slices_IndexFunc_Match_by_pick_Right_1.l0 k l (l.length:Int) (i:Int)) r':=by
   intro r' h
   refine Ev.step (fun k=>?_) h
   simp only [slices_IndexFunc_Match_by_pick_Right_1.l0]
   rw [if_pos (by omega),if_pos (by omega),if_pos (by omega),rdM l i hi,pick_Right_1.f,wrap_up i (by omega),Option.bind_assoc]
  cases hm:mayM l[i] with
  | true =>
   refine ⟨r,hst r (Ev.bind (maym_ev l[i]) ?_),by simpa using h2⟩
   rw [hm];exact Ev_bind0 (a:=false) rfl (Ev_if_neg (by simp) h1)
  | false =>
   refine ⟨i,hst i (Ev.bind (maym_ev l[i]) ?_),by simp⟩
   rw [hm];exact Ev_bind0 (a:=true) rfl (Ev_if_pos rfl (Ev.now _))
theorem rightm_ev (l:List MT) (hl:l.length≤1000000):Ev (fun k=>pick_Right.f k l) (rightM l):=by
 unfold pick_Right.f rightM
 by_cases h:l.length≤4
 ·refine Ev_if_pos (by omega) ?_
  rw [decide_eq_true h,Bool.true_and]
  unfold slices_ContainsFunc_Match_by_pick_Right_1.f slices_IndexFunc_Match_by_pick_Right_1.f
  obtain ⟨r,h1,h2⟩:=badm_loop l hl l.length 0 (by omega)
  refine Ev.bind (Ev.bind h1 (Ev.now _)) ?_
  rw [List.drop_zero] at h2
  refine Ev_const ?_
  cases ha:l.all mayM with
  | true=>rw [ha] at h2;rw [decide_eq_false (show ¬ (r≥0) from fun h0=>(h2.1 h0) rfl)];rfl
  | false=>rw [ha] at h2;rw [decide_eq_true (show r≥0 from h2.2 (by simp))];rfl
 ·refine Ev_if_neg (by omega) ?_
  rw [decide_eq_false h];exact Ev.now _
end Go.Proofs.YteaadaaghhojfaaGreatDoor.Pure
