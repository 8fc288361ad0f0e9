import Derived.Test.YteaadaaghhojfaaGreatDoorZQbPQux2
import Derived.Test.YteaadaaghhojfaaGreatDoorZQbPQux17
import Derived.Test.YteaadaaghhojfaaGreatDoorZQbPQux3
import Derived.Test.YteaadaaghhojfaaGreatDoorZQbPQux18
import Derived.Test.YteaadaaghhojfaaGreatDoorZQbPQux10
import Derived.Test.YteaadaaghhojfaaGreatDoorZQbPQux19
import Derived.Test.YteaadaaghhojfaaGreatDoorZQbPQux12
import Derived.Test.YteaadaaghhojfaaGreatDoorZQbPQux4
import Derived.Test.YteaadaaghhojfaaGreatDoorZQbPQux13
import Derived.Test.YteaadaaghhojfaaGreatDoorZQbPQux8
import Derived.Test.YteaadaaghhojfaaGreatDoorZQbQB
import Derived.Lib.RowBridge
namespace Go.Proofs.YteaadaaghhojfaaGreatDoor.Pure
open Go.RowKit Go.Proofs.YteaadaaghhojfaaGreatDoor.PQu Go.Proofs.YteaadaaghhojfaaGreatDoorW.PrintWords Go.Proofs.YteaadaaghhojfaaGreatDoorW.PrintLast Go.Proofs.YteaadaaghhojfaaGreatDoorW.PrintMore Go.Proofs.YteaadaaghhojfaaGreatDoorW.XP Go.Proofs.YteaadaaghhojfaaGreatDoorW.XW
set_option linter.unusedVariables false
set_option linter.unusedSimpArgs false
theorem idx_get (c:UInt8):∀ (l:List UInt8) (n:Nat),Lib.indexByte l c=(n:Int)→l[n]?=some c
 | [],n,h=>by have:=(idx_lt [] c).1;simp at this;omega
 | b ::l,n,h=>by
  rw [idx_cons] at h
  by_cases hb:b=c
  ·rw [if_pos hb] at h
   have:n=0:=by omega
   subst this;simp [hb]
  ·rw [if_neg hb] at h
   by_cases h2:Lib.indexByte l c = -1
   ·rw [if_pos h2] at h;omega
   ·rw [if_neg h2] at h
    have h3:=(idx_lt l c).2
    cases n with
    | zero=>omega
    | succ m=>simpa using idx_get c l m (by omega)
theorem rpart_ev (s:ByteArray) (hs:s.size≤1000000):Ev (fun k=>ebbtideref05_part.f k s) ((partM s).f0,(partM s).f1,(partM s).f2):=by
 have hz:=size_bl s
 unfold ebbtideref05_part.f
 refine Ev.bind (a:=neAt s) (find_all s ⟨#[33,61]⟩ hs (.inr rfl) (fun l=>take2 l 33 61)) ?_
 rcases index_le [33,61] (bl s) with h|⟨i,h,hi⟩
 ·have h':neAt s = -1:=h
  have hp0:partM s=if (cutB 61 s).2.2=true then (if endC 42 (bl (cutB 61 s).2.1)=true then ⟨3,(cutB 61 s).1,mkB (bl (cutB 61 s).2.1).dropLast⟩ else ⟨1,(cutB 61 s).1,(cutB 61 s).2.1⟩) else ⟨4,s,NoB⟩:=by
   unfold partM;rw [h',if_neg (by decide)]
  rw [h']
  refine Ev_if_neg (by decide) (Ev.bind (a:=Lib.indexByte (bl s) 61) (index_one 61 (bl s) ▸ find_all s ⟨#[61]⟩ hs (.inl rfl) (fun l=>take1 l 61)) ?_)
  have hlt:=idx_lt (bl s) 61
  by_cases h0:Lib.indexByte (bl s) 61<0
  ·have hc:cutB 61 s=(s,⟨#[]⟩,false):=by unfold cutB;rw [if_pos h0]
   have hp:partM s=⟨4,s,NoB⟩:=by rw [hp0,hc];exact if_neg (by simp)
   rw [hp]
   exact Ev_if_pos h0 (Ev.now _)
  ·obtain ⟨n,hn⟩:=Int.eq_ofNat_of_zero_le (show 0≤Lib.indexByte (bl s) 61 by omega)
   have hg:=idx_get 61 (bl s) n hn
   have hc:cutB 61 s=(s.extract 0 n,s.extract (n+1) s.size,true):=by unfold cutB;rw [if_neg h0,hn,Int.toNat_natCast]
   have hp1:partM s=(if endC 42 (bl (s.extract (n+1) s.size))=true then ⟨3,s.extract 0 n,mkB (bl (s.extract (n+1) s.size)).dropLast⟩ else ⟨1,s.extract 0 n,s.extract (n+1) s.size⟩):=by rw [hp0,hc];exact if_pos rfl
   rw [hn] at h0 hlt ⊢
   have e2:wrap64 ((s.size:Int) - 1)=((s.size - 1:Nat):Int):=by unfold wrap64;omega
   have e3:wrap64 ((n:Int)+1)=((n+1:Nat):Int):=wrap_up n (by omega)
   have hend:(bt s ((s.size - 1:Nat):Int)=42)↔endC 42 (bl (s.extract (n+1) s.size))=true:=by
    rw [bt_bl s (s.size - 1) (by omega),show (42:Int)=(((42:UInt8).toNat:Nat):Int) from rfl,u8_int,ext_drop,bl_mk ((bl s).drop (n+1))]
    unfold endC
    rw [decide_eq_true_eq,List.length_drop,List.getElem?_drop]
    by_cases hl:n+1=s.size
    ·have e4:(bl s)[s.size - 1]'(by omega)=61:=by
      have:s.size - 1=n:=by omega
      rw [List.getElem?_eq_getElem (by omega)] at hg
      simp only [this];exact Option.some.inj hg
     rw [e4,List.getElem?_eq_none (by omega)];simp
    ·rw [show n+1+((bl s).length - (n+1) - 1)=s.size - 1 by omega,List.getElem?_eq_getElem (by omega),Option.some.injEq]
   refine Ev_if_neg h0 ?_
   rw [e2,e3]
   refine Ev_if_pos (by omega) (Ev_if_pos (by omega) ?_)
   by_cases hl:bt s ((s.size - 1:Nat):Int)=42
   ·have hne:¬ n+1=s.size:=fun e=>by
     have h2:=hend.1 hl
     rw [ext_drop,bl_mk ((bl s).drop (n+1)),List.drop_of_length_le (by omega)] at h2
     simp [endC] at h2
    have hp:partM s=⟨3,s.extract 0 n,mkB (bl (s.extract (n+1) s.size)).dropLast⟩:=hp1.trans (if_pos (hend.1 hl))
    rw [hp]
    refine Ev_if_pos hl (Ev_if_pos (by omega) (Ev_if_pos (by omega) (Ev_if_pos (by omega) (Ev_if_pos (by omega) (Ev_if_pos (by omega) ?_)))))
    refine Ev_const ?_
    simp only [Int.toNat_natCast,Option.some.injEq,Prod.mk.injEq,true_and]
    apply bl_inj
    rw [bl_extract,bl_mkB,ext_drop,bl_mk ((bl s).drop (n+1)),List.dropLast_eq_take,List.length_drop,List.drop_take]
    congr 1;omega
   ·have hp:partM s=⟨1,s.extract 0 n,s.extract (n+1) s.size⟩:=hp1.trans (if_neg (fun h2=>hl (hend.2 h2)))
    rw [hp]
    refine Ev_if_neg hl (Ev_if_pos (by omega) (Ev_if_pos (by omega) (Ev_if_pos (by omega) (Ev_if_pos (by omega) ?_))))
    refine Ev_const ?_
    simp only [Int.toNat_natCast]
 ·have h':neAt s=(i:Int):=h
  simp only [List.length_cons,List.length_nil] at hi
  have e2:wrap64 ((i:Int)+2)=((i+2:Nat):Int):=by unfold wrap64;omega
  have hp:partM s=⟨2,mkB ((bl s).take i),mkB ((bl s).drop (i+2))⟩:=by unfold partM;rw [h',if_pos (by omega),Int.toNat_natCast]
  rw [hp,h',e2]
  refine Ev_if_pos (by omega) (Ev_if_pos (by omega) (Ev_if_pos (by omega) (Ev_if_pos (by omega) (Ev_if_pos (by omega) ?_))))
  rw [ext_takeI,ext_dropI];exact Ev.now _
def goM:List MT→List ByteArray→List MT×Int
 | acc,[]=>if acc.length>4 then ([],4) else (acc,0)
 | acc,x ::r=>if mayM (partM x)=true then goM (acc++[partM x]) r else ([],2)
def parseM (s:ByteArray):List MT×Int:=if bl s=[] then ([],0) else goM [] (splitB 44 s)
theorem parsem_loop (ps:List ByteArray) (hl:ps.length≤1000000) (hs:∀ x∈ps,x.size≤900000):∀ (d i:Nat) (acc:List MT),i+d=ps.length→acc.length≤i →
  Ev (fun k=>pick_Parse.l0 k acc ps (ps.length:Int) (i:Int)) (goM acc (ps.drop i))∧Ev (fun k=>ebbtideref05_Parse.l0 k acc ps (i:Int)) (goM acc (ps.drop i))
 | 0,i,acc,hd,ha=>by
  rw [List.drop_of_length_le (by omega),goM]
  constructor
  ·refine Ev.step (f:=fun _=>some (if acc.length>4 then ([],4) else (acc,0))) (fun k=>?_) (Ev.now _)
   simp only [pick_Parse.l0];rw [if_neg (by omega)]
   by_cases h:acc.length>4
   ·rw [if_pos h,if_pos (by omega)]
   ·rw [if_neg h,if_neg (by omega)]
  ·refine Ev.step (f:=fun _=>some (if acc.length>4 then ([],4) else (acc,0))) (fun k=>?_) (Ev.now _)
   simp only [ebbtideref05_Parse.l0];rw [if_neg (by omega)]
   by_cases h:acc.length>4
   ·rw [if_pos h,if_pos (by omega)]
   ·rw [if_neg h,if_neg (by omega)]
 | d+1,i,acc,hd,ha=>by
  have hi:i<ps.length:=by omega
  have hx:=hs ps[i] (List.getElem_mem hi)
  rw [drop_cons ps i hi,goM]
  have ih:=parsem_loop ps hl hs d (i+1) (acc++[partM ps[i]]) (by omega) (by simp;omega)
  have hread:=read_f ps[i] (by omega)
  have hpart:=rpart_ev ps[i] (by omega)
  generalize partM ps[i]=m at ih hread hpart ⊢
  obtain ⟨m0,m1,m2⟩:=m
  have hm1:=maym_ev ⟨m0,m1,m2⟩
  have hm2:=rmaym_ev ⟨m0,m1,m2⟩
  constructor
  ·refine Ev.step (f:=fun k=>(pick_match_may.f k m0 m1 m2).bind fun t=>if t=true then pick_Parse.l0 k (acc++[⟨m0,m1,m2⟩]) ps (ps.length:Int) ((i+1:Nat):Int) else some (([]:List MT),2)) (fun k=>?_) (Ev.bind hm1 (Ev_if (fun _=>ih.1) (fun _=>Ev.now _)))
   simp only [pick_Parse.l0]
   rw [if_pos (by omega),if_pos (by omega),if_pos (by omega),rdOf_lt _ ps i hi,hread,wrap_up i (by omega)]
   simp only [Option.bind_some]
   rw [if_pos (show acc.length<3518437208883 by omega)]
  ·refine Ev.step (f:=fun k=>(ebbtideref05_part.f k ps[i]).bind fun b=>(ebbtideref05_may.f k b.1 b.2.1 b.2.2).bind fun t=>if t=true then ebbtideref05_Parse.l0 k (acc++[⟨b.1,b.2.1,b.2.2⟩]) ps ((i+1:Nat):Int) else some (([]:List MT),2)) (fun k=>?_) (Ev.bind hpart (Ev.bind hm2 (Ev_if (fun _=>ih.2) (fun _=>Ev.now _))))
   simp only [ebbtideref05_Parse.l0]
   rw [if_pos (by omega),if_pos (by omega),rdOf_lt _ ps i hi,wrap_up i (by omega)]
   have hacc:acc.length<3518437208883:=by omega
   simp only [hacc,if_true]
theorem parsem_ev (s:ByteArray) (hs:s.size≤100000):Ev (fun k=>pick_Parse.f k s) (parseM s):=by
 unfold pick_Parse.f parseM
 rw [toList_bl]
 refine Ev_if (fun _=>Ev.now _) (fun h=>?_)
 have h1:=splitB_len 44 s
 exact Ev.bind (split_ev 44 s (by omega)) (parsem_loop (splitB 44 s) (by omega) (fun x hx=>by have:=splitB_size 44 s x hx;omega) (splitB 44 s).length 0 [] (by omega) (by simp)).1
theorem rparsem_ev (s:ByteArray) (hs:s.size≤100000):Ev (fun k=>ebbtideref05_Parse.f k s) (parseM s):=by
 unfold ebbtideref05_Parse.f parseM
 rw [toList_bl]
 refine Ev_if (fun _=>Ev.now _) (fun h=>?_)
 have h1:=splitB_len 44 s
 exact Ev.bind (rsplit_ev 44 s (by omega)) (parsem_loop (splitB 44 s) (by omega) (fun x hx=>by have:=splitB_size 44 s x hx;omega) (splitB 44 s).length 0 [] (by omega) (by simp)).2
def prefixB (v p:ByteArray):Bool:=decide ((bl v).take (bl p).length=bl p)
def fitM (tags:List TG) (m:MT):Bool :=
 if m.f0=1 then (findT tags m.f1).2 && decide (bl (findT tags m.f1).1=bl m.f2)
 else if m.f0=2 then !((findT tags m.f1).2 && decide (bl (findT tags m.f1).1=bl m.f2))
 else if m.f0=3 then (findT tags m.f1).2 && prefixB (findT tags m.f1).1 m.f2
 else decide (m.f0=4) && (findT tags m.f1).2
theorem prefix_f (v p:ByteArray):stringslite_HasPrefix.f v p=some (prefixB v p):=by
 have h1:=size_bl v
 have h2:=size_bl p
 unfold stringslite_HasPrefix.f prefixB
 by_cases h:(v.size:Int)≥(p.size:Int)
 ·rw [if_pos h,if_pos (by omega),if_pos (by omega),toList_bl,toList_bl,Int.toNat_natCast,bl_extract,List.drop_zero,h2]
  congr 1
  rw [Bool.eq_iff_iff,beq_iff_eq,decide_eq_true_eq]
 ·rw [if_neg h,decide_eq_false (fun e=>by have:=congrArg List.length e;rw [List.length_take] at this;omega)]
theorem bt_beq (a b:ByteArray):(a.toList ==b.toList)=decide (bl a=bl b):=by rw [toList_bl,toList_bl,Bool.eq_iff_iff,beq_iff_eq,decide_eq_true_eq]
theorem fitm_ev (tags:List TG) (m:MT) (hl:tags.length≤100000000):Ev (fun k=>pick_match_fits.f k m.f0 m.f1 m.f2 tags) (fitM tags m):=by
 unfold pick_match_fits.f fitM
 refine Ev.bind (find_ev tags m.f1 hl) ?_
 refine Ev_if (fun _=>?_) (fun _=>Ev_if (fun _=>?_) (fun _=>Ev_if (fun _=>?_) (fun _=>?_)))
 ·cases h:(findT tags m.f1).2 with
  | true=>refine Ev_if_pos rfl ?_;rw [bt_beq,Bool.true_and];exact Ev.now _
  | false=>exact Ev_if_neg (by simp) (Ev.now _)
 ·cases h:(findT tags m.f1).2 with
  | true=>refine Ev_if_pos rfl ?_;rw [bt_beq,Bool.true_and];exact Ev.now _
  | false=>exact Ev_if_neg (by simp) (Ev.now _)
 ·cases h:(findT tags m.f1).2 with
  | true =>
   refine Ev_if_pos rfl ?_
   refine Ev_const ?_
   rw [strings_HasPrefix.f,prefix_f,Bool.true_and];rfl
  | false=>exact Ev_if_neg (by simp) (Ev.now _)
 ·by_cases h4:m.f0=4
  ·rw [decide_eq_true h4,Bool.true_and];exact Ev_if_pos h4 (Ev.now _)
  ·rw [decide_eq_false h4];exact Ev_if_neg h4 (Ev.now _)
theorem rfitm_ev (tags:List TG) (m:MT) (hl:tags.length≤100000000):Ev (fun k=>ebbtideref05_one.f k tags m.f0 m.f1 m.f2) (fitM tags m):=by
 unfold ebbtideref05_one.f fitM
 refine Ev.bind (rfind_ev tags m.f1 hl) ?_
 refine Ev_if (fun _=>?_) (fun _=>Ev_if (fun _=>?_) (fun _=>Ev_if (fun _=>?_) (fun _=>?_)))
 ·cases h:(findT tags m.f1).2 with
  | true=>refine Ev_if_pos rfl ?_;rw [bt_beq,Bool.true_and];exact Ev.now _
  | false=>exact Ev_if_neg (by simp) (Ev.now _)
 ·cases h:(findT tags m.f1).2 with
  | true=>refine Ev_if_pos rfl ?_;rw [show ((findT tags m.f1).1.toList != m.f2.toList) = !((findT tags m.f1).1.toList ==m.f2.toList) from rfl,bt_beq,Bool.true_and];exact Ev.now _
  | false=>exact Ev_if_neg (by simp) (Ev.now _)
 ·have h1:=size_bl (findT tags m.f1).1
  have h2:=size_bl m.f2
  cases h:(findT tags m.f1).2 with
  | true =>
   refine Ev_if_pos rfl ?_
   rw [Bool.true_and]
   unfold prefixB
   by_cases hs:(((findT tags m.f1).1.size:Nat):Int)≥((m.f2.size:Nat):Int)
   ·refine Ev_if_pos hs (Ev_if_pos (by omega) (Ev_if_pos (by omega) (Ev_const ?_)))
    rw [toList_bl,toList_bl,Int.toNat_natCast,bl_extract,List.drop_zero,h2]
    congr 1
    rw [Bool.eq_iff_iff,beq_iff_eq,decide_eq_true_eq]
   ·refine Ev_if_neg hs ?_
    rw [decide_eq_false (fun e=>by have:=congrArg List.length e;rw [List.length_take] at this;omega)];exact Ev.now _
  | false=>exact Ev_if_neg (by simp) (Ev.now _)
 ·by_cases h4:m.f0=4
  ·rw [decide_eq_true h4,Bool.true_and];exact Ev_if_pos h4 (Ev.now _)
  ·rw [decide_eq_false h4];exact Ev_if_neg h4 (Ev.now _)
def fitsM (tags:List TG) (l:List MT):Bool:=l.all (fitM tags)
theorem fits_loop (tags:List TG) (l:List MT) (ht:tags.length≤100000000) (hl:l.length≤1000000):∀ (d i:Nat),i+d=l.length →
  (∃ r:Int,Ev (fun k=>pick_Fits.l0 k l tags (i:Int)) r∧(0≤r↔¬ fitsM tags (l.drop i)=true))∧Ev (fun k=>ebbtideref05_Fits.l0 k tags l (i:Int)) (fitsM tags (l.drop i))
 | 0,i,hd=>by
  rw [List.drop_of_length_le (by omega)]
  refine ⟨⟨-1,Ev.step (f:=fun _=>some (-1)) (fun k=>?_) (Ev.now _),by simp [fitsM]⟩,Ev.step (f:=fun _=>some true) (fun k=>?_) (Ev.now _)⟩
  ·simp only [pick_Fits.l0];rw [if_neg (by omega)]
  ·simp only [ebbtideref05_Fits.l0];rw [if_neg (by omega)]
 | d+1,i,hd=>by
  have hi:i<l.length:=by omega
  obtain ⟨⟨r,h1,h2⟩,ih⟩:=fits_loop tags l ht hl d (i+1) (by omega)
  have e:fitsM tags (l.drop i)=(fitM tags l[i] && fitsM tags (l.drop (i+1))):=by unfold fitsM;rw [drop_cons l i hi,List.all_cons]
  rw [e]
  constructor
  ·have hst:∀ r':Int,Ev (fun k=>(pick_Fits.one k l[i] tags).bind fun t=>if t=true then some (i:Int) else pick_Fits.l0 k l tags ((i+1:Nat):Int)) r'→Ev (fun k=>pick_Fits.l0 k l tags (i:Int)) r':=by
    intro r' h
    refine Ev.step (fun k=>?_) h
    simp only [pick_Fits.l0]
    rw [if_pos (by omega),if_pos (by omega),rdM l i hi,wrap_up i (by omega)]
   have hone:Ev (fun k=>pick_Fits.one k l[i] tags) (!(fitM tags l[i])):=Ev.bind (fitm_ev tags l[i] ht) (Ev.now _)
   cases hm:fitM tags l[i] with
   | true =>
    rw [hm] at hone
    exact ⟨r,hst r (Ev.bind hone (Ev_if_neg (by simp) h1)),by simpa using h2⟩
   | false =>
    rw [hm] at hone
    exact ⟨i,hst i (Ev.bind hone (Ev_if_pos rfl (Ev.now _))),by simp⟩
  ·refine Ev.step (f:=fun k=>(ebbtideref05_one.f k tags l[i].f0 l[i].f1 l[i].f2).bind fun t=>if t=true then ebbtideref05_Fits.l0 k tags l ((i+1:Nat):Int) else some false) (fun k=>?_) (Ev.bind (rfitm_ev tags l[i] ht) ?_)
   ·simp only [ebbtideref05_Fits.l0]
    rw [if_pos (by omega),if_pos (by omega),rdM l i hi,wrap_up i (by omega)]
   ·cases fitM tags l[i] with
    | true=>exact Ev_if_pos rfl (by simpa using ih)
    | false=>exact Ev_if_neg (by simp) (by simpa using Ev.now _)
theorem fits_ev (tags:List TG) (l:List MT) (ht:tags.length≤100000000) (hl:l.length≤1000000):Ev (fun k=>pick_Fits.f k tags l) (fitsM tags l):=by
 obtain ⟨r,h1,h2⟩:=(fits_loop tags l ht hl l.length 0 (by omega)).1
 rw [List.drop_zero] at h2
 unfold pick_Fits.f
 refine Ev.bind h1 (Ev_const ?_)
 cases ha:fitsM tags l with
 | true=>rw [ha] at h2;rw [decide_eq_false (show ¬ (r≥0) from fun h0=>(h2.1 h0) rfl)];rfl
 | false=>rw [ha] at h2;rw [decide_eq_true (show r≥0 from h2.2 (by simp))];rfl
theorem rfits_ev (tags:List TG) (l:List MT) (ht:tags.length≤100000000) (hl:l.length≤1000000):Ev (fun k=>ebbtideref05_Fits.f k tags l) (fitsM tags l):=by
 unfold ebbtideref05_Fits.f
 simpa using (fits_loop tags l ht hl l.length 0 (by omega)).2
end Go.Proofs.YteaadaaghhojfaaGreatDoor.Pure
