import Derived.Test.YteaadaaghhojfaaGreatDoorZQdPQux2
import Derived.Test.YteaadaaghhojfaaGreatDoorZQdPQux5
import Derived.Test.YteaadaaghhojfaaGreatDoorZQdPQux6
import Derived.Test.YteaadaaghhojfaaGreatDoorZQdPQux9
import Derived.Test.YteaadaaghhojfaaGreatDoorZQdXPure
import Derived.Test.YteaadaaghhojfaaGreatDoorZQdXText
namespace Go.Proofs.YteaadaaghhojfaaGreatDoor.Pure
open Go.RowKit Go.Proofs.YteaadaaghhojfaaGreatDoor.PQu Go.Proofs.YteaadaaghhojfaaGreatDoorW.PrintWords Go.Proofs.YteaadaaghhojfaaGreatDoorW.PrintLast Go.Proofs.YteaadaaghhojfaaGreatDoorW.PrintMore Go.Proofs.YteaadaaghhojfaaGreatDoorW.XP Go.Proofs.YteaadaaghhojfaaGreatDoorW.XW
set_option linter.unusedVariables false
set_option linter.unusedSimpArgs false
def bl (s:ByteArray):List UInt8:=s.data.toList
theorem bl_inj {a b:ByteArray} (h:bl a=bl b):a=b:=by cases a;cases b;simpa [bl] using h
theorem bl_mk (l:List UInt8):bl ⟨l.toArray⟩=l:=rfl
theorem mk_bl (s:ByteArray):(⟨(bl s).toArray⟩:ByteArray)=s:=rfl
theorem toList_bl (s:ByteArray):s.toList=bl s:=ba_eq.ba_toList s
theorem size_bl (s:ByteArray):(bl s).length=s.size:=by show s.data.toList.length=s.data.size;exact Array.length_toList
theorem bl_append (a b:ByteArray):bl (a++b)=bl a++bl b:=by simp [bl,ByteArray.data_append]
theorem bl_extract (s:ByteArray) (i j:Nat):bl (s.extract i j)=((bl s).take j).drop i:=by
 simp [bl,ByteArray.data_extract,Array.toList_extract,List.extract_eq_take_drop,List.drop_take]
theorem bt_bl (s:ByteArray) (i:Nat) (h:i<(bl s).length):bt s (i:Int)=(((bl s)[i]).toNat:Int):=by
 unfold bt
 have h':i<s.size:=by rwa [size_bl] at h
 rw [dif_pos (by simpa using h')]
 rfl
theorem u8_int (a b:UInt8):((a.toNat:Int)=(b.toNat:Int))↔a=b:=by
 constructor
 ·intro h;exact UInt8.toNat_inj.1 (by omega)
 ·rintro rfl;rfl
theorem empty_bl:bl (⟨#[]⟩:ByteArray)=[]:=rfl
theorem idx_cons (b c:UInt8) (l:List UInt8):Lib.indexByte (b ::l) c=if b=c then 0 else if Lib.indexByte l c = -1 then -1 else Lib.indexByte l c+1:=by
 simp [Lib.indexByte]
theorem idx_lt:∀ (l:List UInt8) (c:UInt8),Lib.indexByte l c<(l.length:Int) ∧ -1≤Lib.indexByte l c
 | [],c=>by simp [Lib.indexByte]
 | b ::l,c=>by
  have:=idx_lt l c
  rw [idx_cons,List.length_cons]
  split
  ·omega
  ·split<;>omega
theorem idx_mem:∀ (l:List UInt8) (c:UInt8),0≤Lib.indexByte l c↔c∈l
 | [],c=>by simp [Lib.indexByte]
 | b ::l,c=>by
  have h1:=idx_mem l c
  have h2:=idx_lt l c
  rw [idx_cons,List.mem_cons]
  by_cases hb:b=c
  ·simp [hb]
  ·rw [if_neg hb]
   have:¬ c=b:=fun h=>hb h.symm
   split
   ·rename_i h
    constructor
    ·omega
    ·rintro (h3|h3)
     ·exact absurd h3 this
     ·have:=h1.2 h3;omega
   ·rename_i h
    constructor
    ·intro _;exact .inr (h1.1 (by omega))
    ·rintro (h3|h3)
     ·exact absurd h3 this
     ·have:=h1.2 h3;omega
def splitL (c:UInt8):List UInt8→List (List UInt8)
 | []=>[[]]
 | b ::l=>if b=c then [] ::splitL c l else match splitL c l with
  | []=>[[b]]
  | h ::t=>(b ::h) ::t
theorem splitL_ne (c:UInt8):∀ l,splitL c l≠[]
 | []=>by simp [splitL]
 | b ::l=>by
  unfold splitL
  split
  ·simp
  ·split<;>simp
theorem splitL_len (c:UInt8):∀ l,(splitL c l).length≤l.length+1
 | []=>by simp [splitL]
 | b ::l=>by
  have:=splitL_len c l
  unfold splitL
  split
  ·simp;omega
  ·split
   ·simp
   ·rename_i h t e
    rw [e] at this
    simp at *;omega
theorem splitL_idx (c:UInt8):∀ l,splitL c l=if Lib.indexByte l c<0 then [l] else l.take (Lib.indexByte l c).toNat ::splitL c (l.drop ((Lib.indexByte l c).toNat+1))
 | []=>by simp [splitL,Lib.indexByte]
 | b ::l=>by
  have ih:=splitL_idx c l
  have h2:=idx_lt l c
  rw [splitL,idx_cons]
  by_cases hb:b=c
  ·simp [hb]
  ·rw [if_neg hb,if_neg hb]
   by_cases h:Lib.indexByte l c = -1
   ·rw [h] at ih
    simp at ih
    rw [if_pos h,ih]
    simp
   ·rw [if_neg h]
    rw [if_neg (by omega)] at ih
    rw [if_neg (by omega),ih]
    obtain ⟨m,hm⟩:=Int.eq_ofNat_of_zero_le (show 0≤Lib.indexByte l c by omega)
    rw [hm]
    simp [show ((m:Int)+1).toNat=m+1 by omega]
def splitB (c:UInt8) (s:ByteArray):List ByteArray:=(splitL c (bl s)).map fun l=>⟨l.toArray⟩
theorem ext_take (s:ByteArray) (i:Nat):s.extract 0 i=⟨((bl s).take i).toArray⟩:=bl_inj (by rw [bl_extract,bl_mk ((bl s).take i)];simp)
theorem ext_drop (s:ByteArray) (i:Nat):s.extract i s.size=⟨((bl s).drop i).toArray⟩:=bl_inj (by rw [bl_extract,bl_mk ((bl s).drop i),List.take_of_length_le (by rw [size_bl];exact Nat.le_refl _)])
theorem ext_mid (s:ByteArray) (i j:Nat):s.extract i j=⟨(((bl s).take j).drop i).toArray⟩:=bl_inj (by rw [bl_extract,bl_mk (((bl s).take j).drop i)])
theorem split_loop (c:UInt8):∀ (n:Nat) (s:ByteArray) (acc:List ByteArray),s.size≤n→acc.length+s.size≤1000000000 →
  Ev (fun k=>word_Split.l0 k s (c.toNat:Int) acc) (acc++splitB c s):=by
 intro n
 induction n with
 | zero =>
  intro s acc hn hb
  have hs:s=⟨#[]⟩:=bl_inj (List.length_eq_zero_iff.1 (by rw [size_bl];omega))
  subst hs
  refine Ev.step (f:=fun _=>some (acc++[(⟨#[]⟩:ByteArray)])) (fun k=>?_) (Ev.now _)
  simp only [word_Split.l0,strings_IndexByte.f,Option.bind_some]
  rw [if_pos (by simp [Lib.indexByte]),if_pos (by omega)]
 | succ n ih =>
  intro s acc hn hb
  have hlt:=idx_lt (bl s) c
  rw [size_bl] at hlt
  have hc:((c.toNat:Int).toNat).toUInt8=c:=by simp
  have e:=splitL_idx c (bl s)
  by_cases h:Lib.indexByte (bl s) c<0
  ·refine Ev.step (f:=fun _=>some (acc++[s])) (fun k=>?_) (by rw [splitB,e,if_pos h];exact Ev.now _)
   simp only [word_Split.l0,strings_IndexByte.f,Option.bind_some,hc]
   rw [show Lib.indexByte s.data.toList c=Lib.indexByte (bl s) c from rfl,if_pos h,if_pos (by omega)]
  ·obtain ⟨m,hm⟩:=Int.eq_ofNat_of_zero_le (show 0≤Lib.indexByte (bl s) c by omega)
   rw [hm] at hlt e h
   have hsz:(s.extract (m+1) s.size).size=s.size - (m+1):=by rw [← size_bl,bl_extract];simp [size_bl]
   refine Ev.step (f:=fun k=>word_Split.l0 k (s.extract (m+1) s.size) (c.toNat:Int) (acc++[s.extract 0 m])) (fun k=>?_) ?_
   ·simp only [word_Split.l0,strings_IndexByte.f,Option.bind_some,hc]
    rw [show Lib.indexByte s.data.toList c=(m:Int) from hm,if_neg h,if_pos (by omega),if_pos (by omega),if_pos (by omega),wrap_up m (by omega),if_pos (by omega),if_pos (by omega)]
    simp
   ·have:=ih (s.extract (m+1) s.size) (acc++[s.extract 0 m]) (by rw [hsz];omega) (by rw [hsz,List.length_append];simp;omega)
    have e2:acc++splitB c s=acc++[s.extract 0 m]++splitB c (s.extract (m+1) s.size):=by
     unfold splitB
     rw [e,if_neg h,List.append_assoc,ext_take,ext_drop,bl_mk ((bl s).drop (m+1))]
     simp
    rw [e2];exact this
theorem split_ev (c:UInt8) (s:ByteArray) (hs:s.size≤1000000):Ev (fun k=>word_Split.f k s (c.toNat:Int)) (splitB c s):=by
 have:=split_loop c s.size s [] (Nat.le_refl _) (by simp;omega)
 simpa [word_Split.f] using this
def glue (a:List UInt8):List (List UInt8)→List (List UInt8)
 | []=>[a]
 | h ::t=>(a++h) ::t
theorem rsplit_loop (c:UInt8) (s:ByteArray) (hs:s.size≤1000000):∀ (d i f:Nat) (acc:List ByteArray),i+d=s.size→f≤i→acc.length≤i →
  Ev (fun k=>ebbtideref02_Split.l0 k s (c.toNat:Int) acc (f:Int) (i:Int)) (acc++(glue (((bl s).take i).drop f) (splitL c ((bl s).drop i))).map fun l=>⟨l.toArray⟩)
 | 0,i,f,acc,hd,hf,ha=>by
  refine Ev.step (f:=fun _=>some (acc++[s.extract f s.size])) (fun k=>?_) ?_
  ·simp only [ebbtideref02_Split.l0]
   rw [if_neg (by omega),if_pos (by omega),if_pos (by omega),if_pos (by omega)];rfl
  ·have hi:i=s.size:=by omega
   subst hi
   rw [show (bl s).drop s.size=[] from List.drop_of_length_le (by rw [size_bl];exact Nat.le_refl _),ext_mid]
   simp only [splitL,glue,List.append_nil,List.map_cons,List.map_nil]
   exact Ev.now _
 | d+1,i,f,acc,hd,hf,ha=>by
  have hi:i<(bl s).length:=by rw [size_bl];omega
  rw [drop_cons (bl s) i hi]
  by_cases hc:(bl s)[i]=c
  ·refine Ev.step (f:=fun k=>ebbtideref02_Split.l0 k s (c.toNat:Int) (acc++[s.extract f i]) ((i+1:Nat):Int) ((i+1:Nat):Int)) (fun k=>?_) ?_
   ·simp only [ebbtideref02_Split.l0]
    rw [if_pos (by omega),if_pos (by omega),bt_bl s i hi,if_pos (by rw [hc]),if_pos (by omega),if_pos (by omega),if_pos (by omega),if_pos (by omega),wrap_up i (by omega)];rfl
   ·have:=rsplit_loop c s hs d (i+1) (i+1) (acc++[s.extract f i]) (by omega) (by omega) (by simp;omega)
    rw [splitL,if_pos hc]
    have e1:((bl s).take (i+1)).drop (i+1)=[]:=List.drop_of_length_le (by simp;omega)
    rw [e1] at this
    have e2:glue [] (splitL c ((bl s).drop (i+1)))=splitL c ((bl s).drop (i+1)):=by
     cases h:splitL c ((bl s).drop (i+1)) with
     | nil=>exact absurd h (splitL_ne _ _)
     | cons a t=>rfl
    rw [e2] at this
    simpa [glue,ext_mid] using this
  ·refine Ev.step (f:=fun k=>ebbtideref02_Split.l0 k s (c.toNat:Int) acc (f:Int) ((i+1:Nat):Int)) (fun k=>?_) ?_
   ·simp only [ebbtideref02_Split.l0]
    rw [if_pos (by omega),if_pos (by omega),bt_bl s i hi,if_neg (by rw [u8_int];exact hc),wrap_up i (by omega)]
   ·have:=rsplit_loop c s hs d (i+1) f acc (by omega) (by omega) (by omega)
    rw [splitL,if_neg hc]
    have e1:((bl s).take (i+1)).drop f=((bl s).take i).drop f++[(bl s)[i]]:=by
     rw [List.take_succ_eq_append_getElem hi,List.drop_append_of_le_length (by simp;omega)]
    rw [e1] at this
    cases h:splitL c ((bl s).drop (i+1)) with
    | nil=>exact absurd h (splitL_ne _ _)
    | cons a t=>rw [h] at this;simpa [glue] using this
theorem rsplit_ev (c:UInt8) (s:ByteArray) (hs:s.size≤1000000):Ev (fun k=>ebbtideref02_Split.f k s (c.toNat:Int)) (splitB c s):=by
 have:=rsplit_loop c s hs s.size 0 0 [] (by omega) (by omega) (by simp)
 unfold ebbtideref02_Split.f splitB
 cases h:splitL c (bl s) with
 | nil=>exact absurd h (splitL_ne _ _)
 | cons a t=>simpa [glue,h] using this
end Go.Proofs.YteaadaaghhojfaaGreatDoor.Pure
