import Derived.Test.YteaadaaghhojfaaGreatDoorZQdPQux4
import Derived.Test.YteaadaaghhojfaaGreatDoorZQdPQux8
import Derived.Test.YteaadaaghhojfaaGreatDoorZQdPZ
namespace Go.Proofs.YteaadaaghhojfaaGreatDoor.Pure
open Go.RowKit Go.Proofs.YteaadaaghhojfaaGreatDoor.PQu Go.Proofs.YteaadaaghhojfaaGreatDoorW.PrintWords Go.Proofs.YteaadaaghhojfaaGreatDoorW.PrintLast Go.Proofs.YteaadaaghhojfaaGreatDoorW.PrintMore Go.Proofs.YteaadaaghhojfaaGreatDoorW.XP Go.Proofs.YteaadaaghhojfaaGreatDoorW.XW
set_option linter.unusedVariables false
set_option linter.unusedSimpArgs false
theorem Ev_succ {α:Type} {g:Nat→Option α} {r:α} (h:Ev (fun k=>g (k+1)) r):Ev g r:=Ev.step (f:=fun k=>g (k+1)) (fun _=>rfl) h
abbrev NoB:ByteArray:=⟨#[]⟩
abbrev KY:=ByteArray×List TG×Int
def rightK (n:ByteArray) (l:List TG):Bool:=nameL (bl n) && rightT l
def textK (n:ByteArray) (l:List TG):ByteArray:=if l.length=0 then n else ((n++mkB [123])++textT l)++mkB [125]
def endsL (l:List UInt8):Bool:=decide (l[l.length - 1]?=some 125)
theorem endsL_pos (l:List UInt8) (h:0<l.length):endsL l=true↔l[l.length - 1]'(by omega)=125:=by
 unfold endsL
 rw [List.getElem?_eq_getElem (by omega),decide_eq_true_eq,Option.some.injEq]
def cutK (s:ByteArray):ByteArray×ByteArray×Bool :=
 if (cutB 123 s).2.2=true then (if endsL (bl (cutB 123 s).2.1)=true then (if (bl (cutB 123 s).2.1).dropLast=[] then (NoB,NoB,false) else ((cutB 123 s).1,mkB (bl (cutB 123 s).2.1).dropLast,true)) else (NoB,NoB,false)) else (s,NoB,true)
def parseK (s:ByteArray):KY :=
 if (cutK s).2.2=true then (if nameL (bl (cutK s).1)=true then (if (parseT (cutK s).2.1).2=0 then ((cutK s).1,(parseT (cutK s).2.1).1,0) else (NoB,[],(parseT (cutK s).2.1).2)) else (NoB,[],2)) else (NoB,[],2)
theorem last_drop (l:List UInt8) (h:0<l.length):l.drop (l.length - 1)=[l[l.length - 1]'(by omega)]:=by
 rw [drop_cons l (l.length - 1) (by omega),List.drop_of_length_le (by omega)]
theorem suffix_f (a:ByteArray) (hs:a.size≤1000000):strings_CutSuffix.f a (⟨#[125]⟩:ByteArray)=some (if endsL (bl a)=true then (mkB (bl a).dropLast,true) else (a,false)):=by
 have e1:(((⟨#[125]⟩:ByteArray).size:Nat):Int)=1:=rfl
 have hz:=size_bl a
 have e3:(⟨#[125]⟩:ByteArray).toList=[125]:=by rw [toList_bl];rfl
 unfold strings_CutSuffix.f stringslite_CutSuffix.f stringslite_HasSuffix.f
 rw [e1,e3]
 by_cases h0:bl a=[]
 ·have:a.size=0:=by rw [← hz,h0];rfl
  rw [if_neg (by omega),h0,if_neg (show ¬ endsL []=true by decide)]
  simp
 ·have hpos:0<(bl a).length:=List.length_pos_iff.2 h0
  have e2:wrap64 ((a.size:Int) - 1)=((a.size - 1:Nat):Int):=by unfold wrap64;omega
  rw [if_pos (by omega),e2,if_pos (by omega),if_pos (by omega),toList_bl,bl_extract]
  simp only [Option.bind_some,Int.toNat_natCast]
  rw [List.take_of_length_le (by omega),← hz,last_drop _ hpos]
  by_cases hl:(bl a)[(bl a).length - 1]'(by omega)=125
  ·rw [if_pos (by rw [hl];rfl),if_pos (by omega),if_pos (by omega)]
   rw [if_pos ((endsL_pos _ hpos).2 hl)]
   simp only [Option.bind_some,Option.some.injEq,Prod.mk.injEq,and_true]
   apply bl_inj
   rw [bl_extract,bl_mkB,List.dropLast_eq_take];simp
  ·rw [if_neg (by simpa using hl)]
   rw [if_neg (fun h=>hl ((endsL_pos _ hpos).1 h))]
   rfl
theorem dropLast_size (a:ByteArray):(mkB (bl a).dropLast).size≤a.size:=by rw [size_mkB,← size_bl a];simp
def atK (s:ByteArray) (m:Nat):ByteArray×ByteArray×Bool :=
 if m=s.size then (s,NoB,true) else if endsL (bl s)=true then (if m+2=s.size then (NoB,NoB,false) else (s.extract 0 m,s.extract (m+1) (s.size - 1),true)) else (NoB,NoB,false)
theorem ends_bt (s:ByteArray) (h:0<s.size):(bt s ((s.size - 1:Nat):Int)=125)↔endsL (bl s)=true:=by
 have hz:=size_bl s
 have h0:bl s≠[]:=List.length_pos_iff.1 (by omega)
 rw [bt_bl s (s.size - 1) (by omega),endsL_pos _ (by omega)]
 simp only [hz]
 constructor
 ·intro h;exact (u8_int _ 125).1 h
 ·intro h;rw [h];rfl
theorem rcut_j1 (s:ByteArray) (m:Nat) (hm:m≤s.size) (hs:s.size≤1000000) (hb:∀ h:m<(bl s).length,(bl s)[m]=123):Ev (fun k=>ebbtideref04_Cut.j1 k s (m:Int)) (atK s m):=by
 have hz:=size_bl s
 unfold atK
 by_cases h1:m=s.size
 ·rw [if_pos h1]
  refine Ev.step (f:=fun _=>some (s,NoB,true)) (fun k=>?_) (Ev.now _)
  simp only [ebbtideref04_Cut.j1];rw [if_pos (by omega)]
 ·rw [if_neg h1]
  have e2:wrap64 ((s.size:Int) - 1)=((s.size - 1:Nat):Int):=by unfold wrap64;omega
  have hbt:=ends_bt s (by omega)
  by_cases h2:endsL (bl s)=true
  ·rw [if_pos h2]
   have hne:m+1≤s.size - 1:=by
    by_cases h3:m+1≤s.size - 1
    ·exact h3
    ·exfalso
     have h4:=hbt.2 h2
     have h5:=hb (by omega)
     have h6:=bt_bl s m (by omega)
     rw [show s.size - 1=m by omega,h6,h5] at h4
     revert h4;decide
   by_cases h3:m+2=s.size
   ·rw [if_pos h3]
    refine Ev.step (f:=fun _=>some (NoB,NoB,false)) (fun k=>?_) (Ev.now _)
    simp only [ebbtideref04_Cut.j1]
    rw [if_neg (by omega),e2,if_pos (by omega),if_pos (by omega),if_pos (hbt.2 h2),wrap_up m (by omega),if_pos (by omega)]
   ·rw [if_neg h3]
    refine Ev.step (f:=fun _=>some (s.extract 0 m,s.extract (m+1) (s.size - 1),true)) (fun k=>?_) (Ev.now _)
    simp only [ebbtideref04_Cut.j1]
    rw [if_neg (by omega),e2,if_pos (by omega),if_pos (by omega),if_pos (hbt.2 h2),wrap_up m (by omega),if_neg (by omega),if_pos (by omega),if_pos (by omega),if_pos (by omega),if_pos (by omega),if_pos (by omega)]
    simp
  ·rw [if_neg h2]
   refine Ev.step (f:=fun _=>some (NoB,NoB,false)) (fun k=>?_) (Ev.now _)
   simp only [ebbtideref04_Cut.j1]
   rw [if_neg (by omega),e2,if_pos (by omega),if_pos (by omega),if_neg (fun h=>h2 (hbt.1 h))]
def placeK (l:List UInt8) (c:UInt8):Nat:=if Lib.indexByte l c<0 then l.length else (Lib.indexByte l c).toNat
theorem place_cons (b c:UInt8) (l:List UInt8):placeK (b ::l) c=if b=c then 0 else placeK l c+1:=by
 have h:=idx_lt l c
 unfold placeK
 rw [idx_cons]
 by_cases hb:b=c
 ·simp [hb]
 ·rw [if_neg hb,if_neg hb]
  by_cases h1:Lib.indexByte l c = -1
  ·rw [if_pos h1,if_pos (by omega),if_pos (by omega)];simp
  ·rw [if_neg h1,if_neg (by omega),if_neg (by omega)];omega
theorem rcut_loop (s:ByteArray) (hs:s.size≤1000000):∀ (d i:Nat),i+d=s.size→Ev (fun k=>ebbtideref04_Cut.l0 k s (i:Int)) (atK s (i+placeK ((bl s).drop i) 123))
 | 0,i,hd=>by
  have hz:=size_bl s
  refine Ev.step (f:=fun k=>ebbtideref04_Cut.j1 k s (i:Int)) (fun k=>?_) ?_
  ·simp only [ebbtideref04_Cut.l0];rw [if_neg (by omega)]
  ·rw [List.drop_of_length_le (by omega)]
   exact rcut_j1 s i (by omega) hs (fun h=>by omega)
 | d+1,i,hd=>by
  have hz:=size_bl s
  have hi:i<(bl s).length:=by omega
  rw [drop_cons (bl s) i hi,place_cons]
  by_cases h:(bl s)[i]=123
  ·rw [if_pos h]
   refine Ev.step (f:=fun k=>ebbtideref04_Cut.j1 k s (i:Int)) (fun k=>?_) (rcut_j1 s i (by omega) hs (fun _=>h))
   simp only [ebbtideref04_Cut.l0]
   rw [if_pos (by omega),if_pos (by omega),bt_bl s i hi,if_pos (by rw [h];rfl)]
  ·rw [if_neg h]
   have:=rcut_loop s hs d (i+1) (by omega)
   rw [show i+(placeK ((bl s).drop (i+1)) 123+1)=i+1+placeK ((bl s).drop (i+1)) 123 by omega]
   refine Ev.step (f:=fun k=>ebbtideref04_Cut.l0 k s ((i+1:Nat):Int)) (fun k=>?_) this
   simp only [ebbtideref04_Cut.l0]
   rw [if_pos (by omega),if_pos (by omega),bt_bl s i hi,if_neg (show ¬ (((bl s)[i].toNat:Int)=123) from fun e=>h ((u8_int _ 123).1 e)),wrap_up i (by omega)]
theorem at_cut (s:ByteArray):atK s (placeK (bl s) 123)=cutK s:=by
 have hz:=size_bl s
 have h:=idx_lt (bl s) 123
 unfold atK cutK placeK cutB
 by_cases h0:Lib.indexByte (bl s) 123<0
 ·simp only [if_pos h0,hz]
  rw [if_pos trivial,if_neg (by simp)]
 ·obtain ⟨m,hm⟩:=Int.eq_ofNat_of_zero_le (show 0≤Lib.indexByte (bl s) 123 by omega)
  rw [hm] at h
  have hmm:m<(bl s).length:=by omega
  have h0':¬ ((m:Int)<0):=by omega
  simp only [hm,if_neg h0',Int.toNat_natCast]
  rw [if_neg (by omega),if_pos trivial]
  have hb:(bl s)[m]=123:=by
   have e:=splitL_idx 123 (bl s)
   have hj:=join_split 123 (bl s)
   rw [e,if_neg h0,hm,Int.toNat_natCast,Lib.join_cons] at hj
   cases hh:splitL 123 ((bl s).drop (m+1)) with
   | nil=>exact absurd hh (splitL_ne _ _)
   | cons a t =>
    rw [hh] at hj
    have hj2:(bl s).take m++(123 ::(a++tl [123] t))=bl s:=by
     have h8:=tl_cons [123] a t
     have h9:(bl s).take m++tl [123] (a ::t)=bl s:=hj
     rw [h8] at h9
     simpa using h9
    have h3:((bl s).take m++(123 ::(a++tl [123] t)))[m]?=some 123:=by
     have h10:((bl s).take m).length=m:=by rw [List.length_take];omega
     rw [List.getElem?_append_right (by omega),h10]
     simp
    rw [hj2] at h3
    exact (List.getElem?_eq_some_iff.1 h3).2
  rw [bl_extract,List.take_of_length_le (by omega)]
  by_cases hl:m+1=(bl s).length
  ·have e1:(bl s).drop (m+1)=[]:=List.drop_of_length_le (by omega)
   have e2:endsL (bl s)=false:=by
    unfold endsL
    rw [show (bl s).length - 1=m by omega,List.getElem?_eq_getElem hmm,hb];decide
   rw [e1,e2,if_neg (by simp),if_neg (by decide)]
  ·have e1:endsL ((bl s).drop (m+1))=endsL (bl s):=by
    unfold endsL
    rw [List.getElem?_drop,List.length_drop,show m+1+((bl s).length - (m+1) - 1)=(bl s).length - 1 by omega]
   rw [e1]
   by_cases he:endsL (bl s)=true
   ·rw [if_pos he,if_pos he]
    have e3:((bl s).drop (m+1)).dropLast=((bl s).take ((bl s).length - 1)).drop (m+1):=by
     rw [List.dropLast_eq_take,List.length_drop,List.drop_take]
     congr 1;omega
    by_cases h2:m+2=s.size
    ·rw [if_pos h2,if_pos (by rw [e3];exact List.drop_of_length_le (by simp;omega))]
    ·rw [if_neg h2,if_neg]
     ·simp only [Prod.mk.injEq,and_true,true_and]
      apply bl_inj
      rw [bl_extract,bl_mkB,e3,hz]
     ·rw [e3]
      intro h5
      have h6:=congrArg List.length h5
      simp at h6;omega
   ·rw [if_neg he,if_neg he]
theorem rcut_ev (s:ByteArray) (hs:s.size≤1000000):Ev (fun k=>ebbtideref04_Cut.f k s) (cutK s):=by
 have:=rcut_loop s hs s.size 0 (by omega)
 rw [List.drop_zero,Nat.zero_add,at_cut] at this
 exact this
theorem cutK_size (s:ByteArray):(cutK s).2.1.size≤s.size:=by
 have h:=cut_size 123 s
 have h2:=dropLast_size (cutB 123 s).2.1
 unfold cutK
 split
 ·split
  ·split
   ·exact Nat.zero_le _
   ·exact Nat.le_trans h2 h.2
  ·exact Nat.zero_le _
 ·exact Nat.zero_le _
theorem rightK_iff (n:ByteArray) (l:List TG):rightK n l=true↔nameL (bl n)=true∧rightT l=true:=by
 unfold rightK;rw [Bool.and_eq_true]
theorem rightK_fit {n:ByteArray} {l:List TG} (h:rightK n l=true):n.size≤12∧Fit l∧l.length≤4∧(textK n l).size≤2000:=by
 obtain ⟨h1,h2⟩:=(rightK_iff n l).1 h
 have h3:=(name_len _ h1).2
 rw [size_bl] at h3
 obtain ⟨hf,ht⟩:=right_fit h2
 refine ⟨h3,hf,((right_iff l).1 h2).2.2,?_⟩
 rw [size_bl] at ht
 unfold textK
 split
 ·omega
 ·rw [← size_bl,bl_append,bl_append,bl_append]
  simp only [List.length_append,bl_mkB,size_bl,List.length_cons,List.length_nil]
  omega
end Go.Proofs.YteaadaaghhojfaaGreatDoor.Pure
