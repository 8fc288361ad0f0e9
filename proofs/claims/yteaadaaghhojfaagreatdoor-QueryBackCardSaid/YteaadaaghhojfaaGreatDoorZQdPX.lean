import Derived.Test.YteaadaaghhojfaaGreatDoorZQdPW
import Derived.Lib.SlTrimSet
import Derived.Lib.Join
namespace Go.Proofs.YteaadaaghhojfaaGreatDoor.Pure
open Go.RowKit Go.Proofs.YteaadaaghhojfaaGreatDoor.PQu Go.Proofs.YteaadaaghhojfaaGreatDoorW.PrintWords Go.Proofs.YteaadaaghhojfaaGreatDoorW.PrintLast Go.Proofs.YteaadaaghhojfaaGreatDoorW.PrintMore Go.Proofs.YteaadaaghhojfaaGreatDoorW.XP Go.Proofs.YteaadaaghhojfaaGreatDoorW.XW
set_option linter.unusedVariables false
set_option linter.unusedSimpArgs false
def smallB (b:UInt8):Bool:=decide (97≤b.toNat) && decide (b.toNat≤122)
def digitB (b:UInt8):Bool:=decide (48≤b.toNat) && decide (b.toNat≤57)
def inNameB (b:UInt8):Bool:=smallB b || digitB b || decide (b.toNat=95)
def inValB (b:UInt8):Bool:=smallB b || digitB b || decide (b.toNat=95) || decide (b.toNat=45) || decide (b.toNat=46)
def nameL (l:List UInt8):Bool:=decide (1≤l.length) && decide (l.length≤12) && smallB (l.headD 0) && l.all inNameB
def valueL (l:List UInt8):Bool:=decide (1≤l.length) && decide (l.length≤12) && l.all inValB
theorem all_u8 {p:UInt8→Bool} (h:∀ n:Fin 256,p (UInt8.ofNat n.val)=true) (b:UInt8):p b=true:=by
 have:=h ⟨b.toNat,b.toNat_lt⟩
 simpa using this
theorem in_name (b:UInt8):([97,98,99,100,101,102,103,104,105,106,107,108,109,110,111,112,113,114,115,116,117,118,119,120,121,122,48,49,50,51,52,53,54,55,56,57,95]:List UInt8).contains b=inNameB b:=by
 have:=all_u8 (p:=fun b=>([97,98,99,100,101,102,103,104,105,106,107,108,109,110,111,112,113,114,115,116,117,118,119,120,121,122,48,49,50,51,52,53,54,55,56,57,95]:List UInt8).contains b ==inNameB b) (by decide+kernel) b
 simpa using this
theorem in_val (b:UInt8):([97,98,99,100,101,102,103,104,105,106,107,108,109,110,111,112,113,114,115,116,117,118,119,120,121,122,48,49,50,51,52,53,54,55,56,57,95,45,46]:List UInt8).contains b=inValB b:=by
 have:=all_u8 (p:=fun b=>([97,98,99,100,101,102,103,104,105,106,107,108,109,110,111,112,113,114,115,116,117,118,119,120,121,122,48,49,50,51,52,53,54,55,56,57,95,45,46]:List UInt8).contains b ==inValB b) (by decide+kernel) b
 simpa using this
theorem in_small (b:UInt8):decide (0≤Lib.indexByte ([97,98,99,100,101,102,103,104,105,106,107,108,109,110,111,112,113,114,115,116,117,118,119,120,121,122]:List UInt8) b)=smallB b:=by
 have:=all_u8 (p:=fun b=>decide (0≤Lib.indexByte ([97,98,99,100,101,102,103,104,105,106,107,108,109,110,111,112,113,114,115,116,117,118,119,120,121,122]:List UInt8) b) ==smallB b) (by decide+kernel) b
 simpa using this
theorem dw_nil (p:UInt8→Bool):∀ l:List UInt8,l.dropWhile p=[]↔∀ x∈l,p x=true
 | []=>by simp
 | a ::l=>by
  rw [List.dropWhile_cons]
  cases h:p a with
  | true=>simp [dw_nil p l,h]
  | false=>simp [h]
theorem dw_head (p:UInt8→Bool) (a:UInt8) (t:List UInt8):∀ l:List UInt8,l.dropWhile p=a ::t→p a=false
 | [],h=>by simp at h
 | b ::l,h=>by
  rw [List.dropWhile_cons] at h
  cases hb:p b with
  | true=>rw [if_pos hb] at h;exact dw_head p a t l h
  | false=>rw [if_neg (by simp [hb])] at h;cases h;exact hb
theorem head_get (l:List UInt8) (h:0<l.length):l[0]=l.headD 0:=by
 cases l with
 | nil=>simp at h
 | cons a t=>rfl
theorem trim_nil (l cs:List UInt8):Lib.trimS l cs=[]↔l.all (fun b=>cs.contains b)=true:=by
 unfold Lib.trimS Lib.trimLeftS Lib.trimRightS
 rw [List.all_eq_true]
 constructor
 ·intro h
  rw [dw_nil] at h
  have e:l.reverse.dropWhile (cs.contains ·)=[]:=by
   cases hh:l.reverse.dropWhile (cs.contains ·) with
   | nil=>rfl
   | cons a t =>
    have h1:=h a (by rw [hh];simp)
    have h2:=dw_head _ _ _ _ hh
    rw [h2] at h1;cases h1
  rw [dw_nil] at e
  intro x hx
  exact e x (by simpa using hx)
 ·intro h
  have e:l.reverse.dropWhile (cs.contains ·)=[]:=by
   rw [dw_nil]
   intro x hx;exact h x (by simpa using hx)
  rw [e];rfl
theorem made_f (s cs:ByteArray) (h1:cs.size<4294967281) (h2:(cs.data.toList.all fun b=>decide (b.toNat<128))=true) :
  word_made.f s cs=some (decide (1≤(bl s).length) && decide ((bl s).length≤12) && (bl s).all (fun b=>cs.data.toList.contains b)):=by
 unfold word_made.f
 rw [toList_bl]
 by_cases h:bl s=[]
 ·rw [if_pos h,h];rfl
 ·have hl:1≤(bl s).length:=by cases hh:bl s with
   | nil=>exact absurd hh h
   | cons a t=>simp
  rw [if_neg h]
  by_cases hz:(s.size:Int)≤12
  ·have hz':(bl s).length≤12:=by rw [size_bl];omega
   rw [if_pos hz,strings_Trim.f,if_pos (by omega),if_pos h1,if_pos h2]
   simp only [Option.bind_some,Option.some.injEq]
   rw [toList_bl,bl_mk,decide_eq_true hl,decide_eq_true hz',Bool.true_and,Bool.true_and,Bool.eq_iff_iff,beq_iff_eq]
   exact trim_nil _ _
  ·have hz':¬ (bl s).length≤12:=by rw [size_bl];omega
   rw [if_neg hz,decide_eq_false hz'];simp
theorem bt_head (s:ByteArray) (h:1≤(bl s).length):bt s 0=(((bl s).headD 0).toNat:Int):=by
 have:=bt_bl s 0 (by omega)
 rw [show ((0:Nat):Int)=0 from rfl] at this
 rw [this,head_get _ (by omega)]
theorem name_f (s:ByteArray):word_Name.f s=some (nameL (bl s)):=by
 unfold word_Name.f
 rw [made_f _ _ (by decide) (by decide+kernel)]
 simp only [Option.bind_some]
 have e:(bl s).all (fun b=>(⟨#[97,98,99,100,101,102,103,104,105,106,107,108,109,110,111,112,113,114,115,116,117,118,119,120,121,122,48,49,50,51,52,53,54,55,56,57,95]⟩:ByteArray).data.toList.contains b)=(bl s).all inNameB:=by
  congr 1;funext b;exact in_name b
 rw [e]
 unfold nameL
 by_cases h:(decide (1≤(bl s).length) && decide ((bl s).length≤12) && (bl s).all inNameB)=true
 ·rw [if_pos h]
  have h':=h
  simp only [Bool.and_eq_true,decide_eq_true_eq] at h'
  rw [if_pos (by have:=h'.1.1;rw [size_bl] at this;omega),strings_IndexByte.f]
  simp only [Option.bind_some,Option.some.injEq]
  rw [bt_head s h'.1.1]
  have e2:=in_small ((bl s).headD 0)
  rw [show (((((bl s).headD 0).toNat:Nat):Int).toNat).toUInt8=(bl s).headD 0 by simp]
  rw [show (decide (Lib.indexByte ([97,98,99,100,101,102,103,104,105,106,107,108,109,110,111,112,113,114,115,116,117,118,119,120,121,122]:List UInt8) ((bl s).headD 0)≥0))=smallB ((bl s).headD 0) from e2]
  rw [decide_eq_true h'.1.1,decide_eq_true h'.1.2,h'.2];simp
 ·rw [if_neg h]
  cases h1:decide (1≤(bl s).length)<;>cases h2:decide ((bl s).length≤12)<;>cases h3:(bl s).all inNameB<;>simp_all
theorem value_f (s:ByteArray):word_Value.f s=some (valueL (bl s)):=by
 unfold word_Value.f
 rw [made_f _ _ (by decide) (by decide+kernel)]
 simp only [Option.bind_some,Option.some.injEq]
 unfold valueL
 congr 2;funext b;exact in_val b
theorem small_f (b:UInt8):ebbtideref02_small.f (b.toNat:Int)=some (smallB b):=by
 unfold ebbtideref02_small.f smallB
 by_cases h:((b.toNat:Nat):Int)≥97
 ·rw [if_pos h,decide_eq_true (show 97≤b.toNat by omega),Bool.true_and]
  congr 1;rw [Bool.eq_iff_iff];simp only [decide_eq_true_eq];omega
 ·rw [if_neg h,decide_eq_false (show ¬ 97≤b.toNat by omega),Bool.false_and]
theorem digit_f (b:UInt8):ebbtideref02_digit.f (b.toNat:Int)=some (digitB b):=by
 unfold ebbtideref02_digit.f digitB
 by_cases h:((b.toNat:Nat):Int)≥48
 ·rw [if_pos h,decide_eq_true (show 48≤b.toNat by omega),Bool.true_and]
  congr 1;rw [Bool.eq_iff_iff];simp only [decide_eq_true_eq];omega
 ·rw [if_neg h,decide_eq_false (show ¬ 48≤b.toNat by omega),Bool.false_and]
theorem rname_loop (s:ByteArray) (hs:s.size≤12):∀ (d i:Nat),i+d=s.size→Ev (fun k=>ebbtideref02_Name.l0 k s (i:Int)) (((bl s).drop i).all inNameB)
 | 0,i,hd=>by
  refine Ev.step (f:=fun _=>some true) (fun k=>?_) (by rw [List.drop_of_length_le (by rw [size_bl];omega)];exact Ev.now _)
  simp only [ebbtideref02_Name.l0];rw [if_neg (by omega)]
 | d+1,i,hd=>by
  have hi:i<(bl s).length:=by rw [size_bl];omega
  have ih:=rname_loop s hs d (i+1) (by omega)
  rw [drop_cons _ _ hi,List.all_cons]
  refine Ev.step (f:=fun k=>if inNameB (bl s)[i]=true then ebbtideref02_Name.l0 k s ((i+1:Nat):Int) else some false) (fun k=>?_) ?_
  ·simp only [ebbtideref02_Name.l0]
   rw [if_pos (by omega),if_pos (by omega),bt_bl s i hi,small_f,digit_f,wrap_up i (by omega)]
   simp only [Option.bind_some]
   unfold inNameB
   cases smallB (bl s)[i]<;>cases digitB (bl s)[i]<;>simp
   by_cases h95:(bl s)[i].toNat=95
   ·rw [if_pos (by omega)];simp [h95]
   ·rw [if_neg (by omega)];simp [h95]
  ·cases inNameB (bl s)[i] with
   | true=>exact Ev_if_pos rfl (by simpa using ih)
   | false=>exact Ev_if_neg (by simp) (Ev.now _)
theorem rname_ev (s:ByteArray):Ev (fun k=>ebbtideref02_Name.f k s) (nameL (bl s)):=by
 unfold ebbtideref02_Name.f nameL
 have hz:=size_bl s
 have hj:Ev (fun k=>ebbtideref02_Name.j0 k s true) false:=Ev.step (f:=fun _=>some false) (fun k=>by simp [ebbtideref02_Name.j0]) (Ev.now _)
 by_cases h1:(s.size:Int)<1
 ·rw [decide_eq_false (show ¬ 1≤(bl s).length by omega)]
  exact Ev_if_pos h1 hj
 refine Ev_if_neg h1 ?_
 rw [decide_eq_true (show 1≤(bl s).length by omega),Bool.true_and]
 by_cases h2:(s.size:Int)>12
 ·rw [decide_eq_false (show ¬ (bl s).length≤12 by omega)]
  exact Ev_if_pos h2 hj
 refine Ev_if_neg h2 (Ev_if_pos (by omega) ?_)
 rw [decide_eq_true (show (bl s).length≤12 by omega),Bool.true_and,bt_head s (by omega),small_f]
 simp only [Option.bind_some]
 cases smallB ((bl s).headD 0) with
 | false=>exact hj
 | true =>
  refine Ev.step (f:=fun k=>ebbtideref02_Name.l0 k s ((0:Nat):Int)) (fun k=>by simp [ebbtideref02_Name.j0]) ?_
  simpa using rname_loop s (by omega) s.size 0 (by omega)
theorem rvalue_loop (s:ByteArray) (hs:s.size≤12):∀ (d i:Nat),i+d=s.size→Ev (fun k=>ebbtideref02_Value.l0 k s (i:Int)) (((bl s).drop i).all inValB)
 | 0,i,hd=>by
  refine Ev.step (f:=fun _=>some true) (fun k=>?_) (by rw [List.drop_of_length_le (by rw [size_bl];omega)];exact Ev.now _)
  simp only [ebbtideref02_Value.l0];rw [if_neg (by omega)]
 | d+1,i,hd=>by
  have hi:i<(bl s).length:=by rw [size_bl];omega
  have ih:=rvalue_loop s hs d (i+1) (by omega)
  rw [drop_cons _ _ hi,List.all_cons]
  refine Ev.step (f:=fun k=>if inValB (bl s)[i]=true then ebbtideref02_Value.l0 k s ((i+1:Nat):Int) else some false) (fun k=>?_) ?_
  ·simp only [ebbtideref02_Value.l0]
   rw [if_pos (by omega),if_pos (by omega),bt_bl s i hi,small_f,digit_f,wrap_up i (by omega)]
   simp only [Option.bind_some]
   unfold inValB
   cases smallB (bl s)[i]<;>cases digitB (bl s)[i]<;>simp
   by_cases h95:(bl s)[i].toNat=95
   ·rw [if_pos (by omega)];simp [h95]
   ·rw [if_neg (by omega)]
    by_cases h45:(bl s)[i].toNat=45
    ·rw [if_pos (by omega)];simp [h45]
    ·rw [if_neg (by omega)]
     by_cases h46:(bl s)[i].toNat=46
     ·rw [if_pos (by omega)];simp [h46]
     ·rw [if_neg (by omega)];simp [h95,h45,h46]
  ·cases inValB (bl s)[i] with
   | true=>exact Ev_if_pos rfl (by simpa using ih)
   | false=>exact Ev_if_neg (by simp) (Ev.now _)
theorem rvalue_ev (s:ByteArray):Ev (fun k=>ebbtideref02_Value.f k s) (valueL (bl s)):=by
 unfold ebbtideref02_Value.f valueL
 have hz:=size_bl s
 have hj:Ev (fun k=>ebbtideref02_Value.j0 k s true) false:=Ev.step (f:=fun _=>some false) (fun k=>by simp [ebbtideref02_Value.j0]) (Ev.now _)
 by_cases h1:(s.size:Int)<1
 ·rw [decide_eq_false (show ¬ 1≤(bl s).length by omega)]
  exact Ev_if_pos h1 hj
 refine Ev_if_neg h1 ?_
 rw [decide_eq_true (show 1≤(bl s).length by omega),Bool.true_and]
 by_cases h2:(s.size:Int)>12
 ·rw [decide_eq_false (show ¬ (bl s).length≤12 by omega),decide_eq_true h2]
  exact hj
 rw [decide_eq_true (show (bl s).length≤12 by omega),Bool.true_and,decide_eq_false h2]
 refine Ev.step (f:=fun k=>ebbtideref02_Value.l0 k s ((0:Nat):Int)) (fun k=>by simp [ebbtideref02_Value.j0]) ?_
 simpa using rvalue_loop s (by omega) s.size 0 (by omega)
def joinB (sep:ByteArray) (l:List ByteArray):ByteArray:=⟨(Lib.join (l.map bl) (bl sep)).toArray⟩
theorem join_f (sep:ByteArray) (l:List ByteArray) (h1:l.length≤1000000) (h2:(bl (joinB sep l)).length≤100000000000):word_Join.f sep l=some (joinB sep l):=by
 unfold word_Join.f strings_Join.f
 rw [if_pos (by omega),if_pos (by rw [joinB,bl_mk] at h2;exact Nat.le_trans h2 (by omega))]
 rfl
end Go.Proofs.YteaadaaghhojfaaGreatDoor.Pure
