/- A part of the proof: ZSHD, ZSHE0, ZSGE3, ZSGT, ZSGP1, ZSGE5, ZSHE4, ZSGQ1. No condition. -/
import Derived.Test.YtdcphpbimeoioaaGreatDoorBS1
import Derived.Test.YtdcphpbimeoioaaGreatDoorProg
import Derived.Shelf.GgSortFunc.InsertionK
import Derived.Shelf.Spec.SlicesGrow
import Derived.Lib.Bytealg
import Derived.Sort.Statements
import Derived.Shelf.SlSortCmp.InsertionK
import Derived.Shelf.SlSortCmp.NoneTotal
import Derived.WalkKit
import Derived.Maps.AppendAt
import Derived.Lib.SliceRun
import Derived.Lib.Walk
import Derived.Deep.LoopGhost
import Derived.Lib.SlTrimSet
import Derived.Lib.Join
import Derived.Sort.AssemblyPlain
section
set_option linter.unusedSectionVars false
namespace Go.Proofs.YtdcphpbimeoioaaGreatDoorE
open Go
set_option linter.unusedVariables false
set_option maxRecDepth 100000
abbrev tSum:Ty := .pair (.int .i64) (.pair .bool .unit)
abbrev tTag:Ty := .pair .str (.pair .str .unit)
abbrev tKey:Ty := .pair .str (.pair (.slice tTag) .unit)
abbrev tMatch:Ty := .pair (.int .i64) tTag
abbrev tCell:Ty := .pair (.int .i64) (.pair tSum (.pair (.int .i64) (.pair (.int .i64) .unit)))
abbrev tQuery:Ty := .pair (.int .i64) (.pair .str (.pair (.slice tMatch) (.pair (.slice .str) .unit)))
abbrev tRow:Ty := .pair (.int .i64) (.pair .str (.pair tSum .unit))
abbrev tItem:Ty := .pair (.int .i64) (.pair .str (.pair tCell .unit))
abbrev tVersion:Ty := .pair (.int .i64) (.pair tCell .unit)
abbrev tEntry:Ty := .pair (.int .i64) (.pair .str (.pair (.slice tVersion) .unit))
abbrev tShard:Ty := .pair (.slice tEntry) .unit
abbrev tWrite:Ty := .pair (.int .i64) (.pair (.int .i64) (.pair .str (.pair (.int .i64) .unit)))
abbrev tDrop:Ty := .pair (.int .i64) (.pair (.int .i64) .unit)
abbrev tScan:Ty := .pair (.int .i64) (.pair tQuery (.pair (.int .i64) (.pair (.int .i64) (.pair (.slice tItem) .unit))))
abbrev tAnswer:Ty := .pair (.int .i64) (.pair (.int .i64) (.pair (.slice tRow) .unit))
abbrev r01_Add_sg:List Sg:=[.tree tSum, .tree tSum]
abbrev r01_Add_rs:List Rt:=[.tree tSum]
def r01_Add (n:Nat) (x:SgEl r01_Add_sg):Option (RtEl r01_Add_rs×OutEl r01_Add_sg) :=
  bif x.1.2.1 then
   some ((x.1,()),((),(),()))
  else
  bif x.2.1.2.1 then
   some (x.2,((),(),()))
  else
  bif ilt (0:Int) x.1.1 then
   bif ilt (isub .i64 (9223372036854775807:Int) x.1.1) x.2.1.1 then
    some ((((9223372036854775807:Int),true,()),()),((),(),()))
   else
   bif ilt x.1.1 (0:Int) then
    bif ilt x.2.1.1 (isub .i64 (-9223372036854775808:Int) x.1.1) then
     some ((((-9223372036854775808:Int),true,()),()),((),(),()))
    else
    some (((iadd .i64 x.1.1 x.2.1.1,false,()),()),((),(),()))
   else
   some (((iadd .i64 x.1.1 x.2.1.1,false,()),()),((),(),()))
  else
  bif ilt x.1.1 (0:Int) then
   bif ilt x.2.1.1 (isub .i64 (-9223372036854775808:Int) x.1.1) then
    some ((((-9223372036854775808:Int),true,()),()),((),(),()))
   else
   some (((iadd .i64 x.1.1 x.2.1.1,false,()),()),((),(),()))
  else
  some (((iadd .i64 x.1.1 x.2.1.1,false,()),()),((),(),()))
abbrev r01_Add_ent (n:Nat):Ent:=⟨194,r01_Add_sg,r01_Add_rs,r01_Add n⟩
theorem r01_Add_ok (n:Nat):EntOk Tryz.prog (r01_Add_ent n):=ent_ok' mixed (T:=[]) tabNil tabLNil fun x=>by kernel_rfl
abbrev r01_Number_sg:List Sg:=[.tree (.int .i64)]
abbrev r01_Number_rs:List Rt:=[.tree .str]
def r01_Number_l0 (n:Nat):Nat→SgEl [.tree (.int .i64), .tree (.int .i64), .tree .str]→Option (SgEl [.tree (.int .i64), .tree .str] ⊕ SgEl [])
  | 0,_=>none
  | g+1,s =>
    bif ieq (10:Int) (0:Int) then
     none
    else
    bif sfits (ofBytes [iconv .u8 (iadd .i64 (48:Int) (isub .i64 (0:Int) (irem s.2.1 (10:Int))))]) s.2.2.1 then
     bif ieq (10:Int) (0:Int) then
      none
     else
     bif ieq (iquo .i64 s.2.1 (10:Int)) (0:Int) then
      some (Sum.inl (s.1,scat (ofBytes [iconv .u8 (iadd .i64 (48:Int) (isub .i64 (0:Int) (irem s.2.1 (10:Int))))]) s.2.2.1,()))
     else
     bindL (r01_Number_l0 n g (s.1,iquo .i64 s.2.1 (10:Int),scat (ofBytes [iconv .u8 (iadd .i64 (48:Int) (isub .i64 (0:Int) (irem s.2.1 (10:Int))))]) s.2.2.1,())) (fun a1 =>
      some (Sum.inl a1)) fun b2 =>
     some (Sum.inr ())
    else none
theorem r01_Number_l0_ok (n:Nat):∀ g,LEntOk Tryz.prog 87 (nSl r01_Number_sg) ⟨0,[.tree (.int .i64), .tree (.int .i64), .tree .str],0,[.tree (.int .i64), .tree .str],[],r01_Number_l0 n g⟩ g
  | 0=>loop_zero' fun _=>rfl
  | g+1=>loop_step' mixed (T:=[]) tabNil tabLNil (r01_Number_l0_ok n g) fun s=>by kernel_rfl
def r01_Number (n:Nat) (x:SgEl r01_Number_sg):Option (RtEl r01_Number_rs×OutEl r01_Number_sg) :=
  bif ilt (0:Int) x.1 then
   bindL (r01_Number_l0 n n (x.1,isub .i64 (0:Int) x.1,(⟨#[]⟩:ByteArray),())) (fun a1 =>
    bif ilt a1.1 (0:Int) then
     bif sfits (⟨#[45]⟩:ByteArray) a1.2.1 then
      some ((scat (⟨#[45]⟩:ByteArray) a1.2.1,()),((),()))
     else none
    else
    some (a1.2,((),()))) fun b2 =>
   none
  else
  bindL (r01_Number_l0 n n (x.1,x.1,(⟨#[]⟩:ByteArray),())) (fun a3 =>
   bif ilt a3.1 (0:Int) then
    bif sfits (⟨#[45]⟩:ByteArray) a3.2.1 then
     some ((scat (⟨#[45]⟩:ByteArray) a3.2.1,()),((),()))
    else none
   else
   some (a3.2,((),()))) fun b4 =>
  none
abbrev r01_Number_ent (n:Nat):Ent:=⟨87,r01_Number_sg,r01_Number_rs,r01_Number n⟩
theorem r01_Number_ok (n:Nat):EntOk Tryz.prog (r01_Number_ent n):=ent_ok' mixed (T:=[]) tabNil (tabLCons (r01_Number_l0_ok n n) tabLNil) fun x=>by kernel_rfl
abbrev r01_Text_sg:List Sg:=[.tree tSum]
abbrev r01_Text_rs:List Rt:=[.tree .str]
def r01_Text (n:Nat) (x:SgEl r01_Text_sg):Option (RtEl r01_Text_rs×OutEl r01_Text_sg) :=
  bif x.1.2.1 then
   bindN (r01_Number n (x.1.1,())) fun p1 =>
   bif sfits p1.1.1 (⟨#[33]⟩:ByteArray) then
    some ((scat p1.1.1 (⟨#[33]⟩:ByteArray),()),((),()))
   else none
  else
  bindN (r01_Number n (x.1.1,())) fun p2 =>
  some (p2.1,((),()))
abbrev r01_Text_ent (n:Nat):Ent:=⟨108,r01_Text_sg,r01_Text_rs,r01_Text n⟩
theorem r01_Text_ok (n:Nat):EntOk Tryz.prog (r01_Text_ent n):=ent_ok' mixed (T:=[r01_Number_ent n]) (tabCons (r01_Number_ok n) tabNil) tabLNil fun x=>by kernel_rfl
abbrev r02_small_sg:List Sg:=[.tree (.int .u8)]
abbrev r02_small_rs:List Rt:=[.tree .bool]
def r02_small (n:Nat) (x:SgEl r02_small_sg):Option (RtEl r02_small_rs×OutEl r02_small_sg) :=
  bif ile (97:Int) x.1 then
   some ((ile x.1 (122:Int),()),((),()))
  else
  some ((false,()),((),()))
abbrev r02_small_ent (n:Nat):Ent:=⟨187,r02_small_sg,r02_small_rs,r02_small n⟩
theorem r02_small_ok (n:Nat):EntOk Tryz.prog (r02_small_ent n):=ent_ok' mixed (T:=[]) tabNil tabLNil fun x=>by kernel_rfl
abbrev r02_digit_sg:List Sg:=[.tree (.int .u8)]
abbrev r02_digit_rs:List Rt:=[.tree .bool]
def r02_digit (n:Nat) (x:SgEl r02_digit_sg):Option (RtEl r02_digit_rs×OutEl r02_digit_sg) :=
  bif ile (48:Int) x.1 then
   some ((ile x.1 (57:Int),()),((),()))
  else
  some ((false,()),((),()))
abbrev r02_digit_ent (n:Nat):Ent:=⟨188,r02_digit_sg,r02_digit_rs,r02_digit n⟩
theorem r02_digit_ok (n:Nat):EntOk Tryz.prog (r02_digit_ent n):=ent_ok' mixed (T:=[]) tabNil tabLNil fun x=>by kernel_rfl
abbrev r02_Name_sg:List Sg:=[.tree .str]
abbrev r02_Name_rs:List Rt:=[.tree .bool]
def r02_Name_l0 (n:Nat):Nat→SgEl [.tree .str, .tree (.int .i64)]→Option (SgEl [] ⊕ SgEl [.tree .bool])
  | 0,_=>none
  | g+1,s =>
    bif ilt s.2.1 (ssize s.1) then
     bif ile (0:Int) s.2.1 then
      bif ilt s.2.1 (ssize s.1) then
       bindN (r02_small n (sat s.1 s.2.1,())) fun p1 =>
       bif !p1.1.1 then
        bif ile (0:Int) s.2.1 then
         bif ilt s.2.1 (ssize s.1) then
          bindN (r02_digit n (sat s.1 s.2.1,())) fun p2 =>
          bif !p2.1.1 then
           bif ile (0:Int) s.2.1 then
            bif ilt s.2.1 (ssize s.1) then
             bif !(ieq (sat s.1 s.2.1) (95:Int)) then
              some (Sum.inr (false,()))
             else
             bindL (r02_Name_l0 n g (s.1,iadd .i64 s.2.1 (1:Int),())) (fun a3 =>
              some (Sum.inl ())) fun b4 =>
             some (Sum.inr b4)
            else none
           else none
          else
          bindL (r02_Name_l0 n g (s.1,iadd .i64 s.2.1 (1:Int),())) (fun a5 =>
           some (Sum.inl ())) fun b6 =>
          some (Sum.inr b6)
         else none
        else none
       else
       bindL (r02_Name_l0 n g (s.1,iadd .i64 s.2.1 (1:Int),())) (fun a7 =>
        some (Sum.inl ())) fun b8 =>
       some (Sum.inr b8)
      else none
     else none
    else
    some (Sum.inl ())
theorem r02_Name_l0_ok (n:Nat):∀ g,LEntOk Tryz.prog 135 (nSl r02_Name_sg) ⟨0,[.tree .str, .tree (.int .i64)],0,[],[.tree .bool],r02_Name_l0 n g⟩ g
  | 0=>loop_zero' fun _=>rfl
  | g+1=>loop_step' mixed (T:=[r02_small_ent n,r02_digit_ent n]) (tabCons (r02_small_ok n) (tabCons (r02_digit_ok n) tabNil)) tabLNil (r02_Name_l0_ok n g) fun s=>by kernel_rfl
def r02_Name (n:Nat) (x:SgEl r02_Name_sg):Option (RtEl r02_Name_rs×OutEl r02_Name_sg) :=
  bif ilt (ssize x.1) (1:Int) then
   some ((false,()),((),()))
  else
  bif ilt (12:Int) (ssize x.1) then
   some ((false,()),((),()))
  else
  bif ile (0:Int) (0:Int) then
   bif ilt (0:Int) (ssize x.1) then
    bindN (r02_small n (sat x.1 (0:Int),())) fun p1 =>
    bif !p1.1.1 then
     some ((false,()),((),()))
    else
    bindL (r02_Name_l0 n n (x.1,(0:Int),())) (fun a2 =>
     some ((true,()),((),()))) fun b3 =>
    some (b3,((),()))
   else none
  else none
abbrev r02_Name_ent (n:Nat):Ent:=⟨135,r02_Name_sg,r02_Name_rs,r02_Name n⟩
theorem r02_Name_ok (n:Nat):EntOk Tryz.prog (r02_Name_ent n):=ent_ok' mixed (T:=[r02_small_ent n,r02_digit_ent n]) (tabCons (r02_small_ok n) (tabCons (r02_digit_ok n) tabNil)) (tabLCons (r02_Name_l0_ok n n) tabLNil) fun x=>by kernel_rfl
abbrev r02_Value_sg:List Sg:=[.tree .str]
abbrev r02_Value_rs:List Rt:=[.tree .bool]
def r02_Value_l0 (n:Nat):Nat→SgEl [.tree .str, .tree (.int .i64)]→Option (SgEl [] ⊕ SgEl [.tree .bool])
  | 0,_=>none
  | g+1,s =>
    bif ilt s.2.1 (ssize s.1) then
     bif ile (0:Int) s.2.1 then
      bif ilt s.2.1 (ssize s.1) then
       bindN (r02_small n (sat s.1 s.2.1,())) fun p1 =>
       bif !p1.1.1 then
        bif ile (0:Int) s.2.1 then
         bif ilt s.2.1 (ssize s.1) then
          bindN (r02_digit n (sat s.1 s.2.1,())) fun p2 =>
          bif !p2.1.1 then
           bif ile (0:Int) s.2.1 then
            bif ilt s.2.1 (ssize s.1) then
             bif !(ieq (sat s.1 s.2.1) (95:Int)) then
              bif ile (0:Int) s.2.1 then
               bif ilt s.2.1 (ssize s.1) then
                bif !(ieq (sat s.1 s.2.1) (45:Int)) then
                 bif ile (0:Int) s.2.1 then
                  bif ilt s.2.1 (ssize s.1) then
                   bif !(ieq (sat s.1 s.2.1) (46:Int)) then
                    some (Sum.inr (false,()))
                   else
                   bindL (r02_Value_l0 n g (s.1,iadd .i64 s.2.1 (1:Int),())) (fun a3 =>
                    some (Sum.inl ())) fun b4 =>
                   some (Sum.inr b4)
                  else none
                 else none
                else
                bindL (r02_Value_l0 n g (s.1,iadd .i64 s.2.1 (1:Int),())) (fun a5 =>
                 some (Sum.inl ())) fun b6 =>
                some (Sum.inr b6)
               else none
              else none
             else
             bindL (r02_Value_l0 n g (s.1,iadd .i64 s.2.1 (1:Int),())) (fun a7 =>
              some (Sum.inl ())) fun b8 =>
             some (Sum.inr b8)
            else none
           else none
          else
          bindL (r02_Value_l0 n g (s.1,iadd .i64 s.2.1 (1:Int),())) (fun a9 =>
           some (Sum.inl ())) fun b10 =>
          some (Sum.inr b10)
         else none
        else none
       else
       bindL (r02_Value_l0 n g (s.1,iadd .i64 s.2.1 (1:Int),())) (fun a11 =>
        some (Sum.inl ())) fun b12 =>
       some (Sum.inr b12)
      else none
     else none
    else
    some (Sum.inl ())
theorem r02_Value_l0_ok (n:Nat):∀ g,LEntOk Tryz.prog 246 (nSl r02_Value_sg) ⟨0,[.tree .str, .tree (.int .i64)],0,[],[.tree .bool],r02_Value_l0 n g⟩ g
  | 0=>loop_zero' fun _=>rfl
  | g+1=>loop_step' mixed (T:=[r02_small_ent n,r02_digit_ent n]) (tabCons (r02_small_ok n) (tabCons (r02_digit_ok n) tabNil)) tabLNil (r02_Value_l0_ok n g) fun s=>by kernel_rfl
def r02_Value (n:Nat) (x:SgEl r02_Value_sg):Option (RtEl r02_Value_rs×OutEl r02_Value_sg) :=
  bif ilt (ssize x.1) (1:Int) then
   some ((false,()),((),()))
  else
  bif ilt (12:Int) (ssize x.1) then
   some ((false,()),((),()))
  else
  bindL (r02_Value_l0 n n (x.1,(0:Int),())) (fun a1 =>
   some ((true,()),((),()))) fun b2 =>
  some (b2,((),()))
abbrev r02_Value_ent (n:Nat):Ent:=⟨246,r02_Value_sg,r02_Value_rs,r02_Value n⟩
theorem r02_Value_ok (n:Nat):EntOk Tryz.prog (r02_Value_ent n):=ent_ok' mixed (T:=[r02_small_ent n,r02_digit_ent n]) (tabCons (r02_small_ok n) (tabCons (r02_digit_ok n) tabNil)) (tabLCons (r02_Value_l0_ok n n) tabLNil) fun x=>by kernel_rfl
abbrev r02_Split_sg:List Sg:=[.tree .str, .tree (.int .u8)]
abbrev r02_Split_rs:List Rt:=[.tree (.slice .str)]
def r02_Split_l0 (n:Nat):Nat→SgEl [.tree .str, .tree (.int .u8), .own .str, .tree (.int .i64), .tree (.int .i64)]→Option (SgEl [.tree .str, .own .str, .tree (.int .i64)] ⊕ SgEl [])
  | 0,_=>none
  | g+1,s =>
    bif ilt s.2.2.2.2.1 (ssize s.1) then
     bif ile (0:Int) s.2.2.2.2.1 then
      bif ilt s.2.2.2.2.1 (ssize s.1) then
       bif ieq (sat s.1 s.2.2.2.2.1) s.2.1 then
        bif ile (0:Int) s.2.2.2.1 then
         bif ile s.2.2.2.1 s.2.2.2.2.1 then
          bif ile s.2.2.2.2.1 (ssize s.1) then
           bif roomA s.2.2.1 [sext s.1 s.2.2.2.1 s.2.2.2.2.1] 16 then
            bindL (r02_Split_l0 n g (s.1,s.2.1,app s.2.2.1 [sext s.1 s.2.2.2.1 s.2.2.2.2.1],iadd .i64 s.2.2.2.2.1 (1:Int),iadd .i64 s.2.2.2.2.1 (1:Int),())) (fun a1 =>
             some (Sum.inl a1)) fun b2 =>
            some (Sum.inr ())
           else none
          else none
         else none
        else none
       else
       bindL (r02_Split_l0 n g (s.1,s.2.1,s.2.2.1,s.2.2.2.1,iadd .i64 s.2.2.2.2.1 (1:Int),())) (fun a3 =>
        some (Sum.inl a3)) fun b4 =>
       some (Sum.inr ())
      else none
     else none
    else
    some (Sum.inl (s.1,s.2.2.1,s.2.2.2.1,()))
theorem r02_Split_l0_ok (n:Nat):∀ g,LEntOk Tryz.prog 113 (nSl r02_Split_sg) ⟨0,[.tree .str, .tree (.int .u8), .own .str, .tree (.int .i64), .tree (.int .i64)],0,[.tree .str, .own .str, .tree (.int .i64)],[],r02_Split_l0 n g⟩ g
  | 0=>loop_zero' fun _=>rfl
  | g+1=>loop_step' mixed (T:=[]) tabNil tabLNil (r02_Split_l0_ok n g) fun s=>by kernel_rfl
def r02_Split (n:Nat) (x:SgEl r02_Split_sg):Option (RtEl r02_Split_rs×OutEl r02_Split_sg) :=
  bindL (r02_Split_l0 n n (x.1,x.2.1,[],(0:Int),(0:Int),())) (fun a1 =>
   bif ile (0:Int) a1.2.2.1 then
    bif ile a1.2.2.1 (ssize a1.1) then
     bif ile (ssize a1.1) (ssize a1.1) then
      bif roomA a1.2.1 [sext a1.1 a1.2.2.1 (ssize a1.1)] 16 then
       some ((app a1.2.1 [sext a1.1 a1.2.2.1 (ssize a1.1)],()),((),(),()))
      else none
     else none
    else none
   else none) fun b2 =>
  none
abbrev r02_Split_ent (n:Nat):Ent:=⟨113,r02_Split_sg,r02_Split_rs,r02_Split n⟩
theorem r02_Split_ok (n:Nat):EntOk Tryz.prog (r02_Split_ent n):=ent_ok' mixed (T:=[]) tabNil (tabLCons (r02_Split_l0_ok n n) tabLNil) fun x=>by kernel_rfl
abbrev r02_Join_sg:List Sg:=[.tree .str, .tree (.slice .str)]
abbrev r02_Join_rs:List Rt:=[.tree .str]
def r02_Join_l0 (n:Nat):Nat→SgEl [.tree .str, .tree (.slice .str), .tree .str, .tree (.int .i64)]→Option (SgEl [.tree .str] ⊕ SgEl [])
  | 0,_=>none
  | g+1,s =>
    bif ilt s.2.2.2.1 (ilen s.2.1) then
     bif ilt (0:Int) s.2.2.2.1 then
      bif sfits s.2.2.1 s.1 then
       bif ile (0:Int) s.2.2.2.1 then
        bindN (lat s.2.1 (iN s.2.2.2.1)) fun v1 =>
        bif sfits (scat s.2.2.1 s.1) v1 then
         bindL (r02_Join_l0 n g (s.1,s.2.1,scat (scat s.2.2.1 s.1) v1,iadd .i64 s.2.2.2.1 (1:Int),())) (fun a2 =>
          some (Sum.inl a2)) fun b3 =>
         some (Sum.inr ())
        else none
       else none
      else none
     else
     bif ile (0:Int) s.2.2.2.1 then
      bindN (lat s.2.1 (iN s.2.2.2.1)) fun v4 =>
      bif sfits s.2.2.1 v4 then
       bindL (r02_Join_l0 n g (s.1,s.2.1,scat s.2.2.1 v4,iadd .i64 s.2.2.2.1 (1:Int),())) (fun a5 =>
        some (Sum.inl a5)) fun b6 =>
       some (Sum.inr ())
      else none
     else none
    else
    some (Sum.inl (s.2.2.1,()))
theorem r02_Join_l0_ok (n:Nat):∀ g,LEntOk Tryz.prog 109 (nSl r02_Join_sg) ⟨0,[.tree .str, .tree (.slice .str), .tree .str, .tree (.int .i64)],0,[.tree .str],[],r02_Join_l0 n g⟩ g
  | 0=>loop_zero' fun _=>rfl
  | g+1=>loop_step' mixed (T:=[]) tabNil tabLNil (r02_Join_l0_ok n g) fun s=>by kernel_rfl
def r02_Join (n:Nat) (x:SgEl r02_Join_sg):Option (RtEl r02_Join_rs×OutEl r02_Join_sg) :=
  bindL (r02_Join_l0 n n (x.1,x.2.1,(⟨#[]⟩:ByteArray),(0:Int),())) (fun a1 =>
   some (a1,((),(),()))) fun b2 =>
  none
abbrev r02_Join_ent (n:Nat):Ent:=⟨109,r02_Join_sg,r02_Join_rs,r02_Join n⟩
theorem r02_Join_ok (n:Nat):EntOk Tryz.prog (r02_Join_ent n):=ent_ok' mixed (T:=[]) tabNil (tabLCons (r02_Join_l0_ok n n) tabLNil) fun x=>by kernel_rfl
abbrev r02_Fields_sg:List Sg:=[.tree .str]
abbrev r02_Fields_rs:List Rt:=[.tree (.slice .str)]
def r02_Fields_l0 (n:Nat):Nat→SgEl [.own .str, .tree (.slice .str), .tree (.int .i64)]→Option (SgEl [.own .str] ⊕ SgEl [])
  | 0,_=>none
  | g+1,s =>
    bif ilt s.2.2.1 (ilen s.2.1) then
     bif ile (0:Int) s.2.2.1 then
      bindN (lat s.2.1 (iN s.2.2.1)) fun v1 =>
      bif !(seq v1 (⟨#[]⟩:ByteArray)) then
       bif ile (0:Int) s.2.2.1 then
        bindN (lat s.2.1 (iN s.2.2.1)) fun v2 =>
        bif roomA s.1 [v2] 16 then
         bindL (r02_Fields_l0 n g (app s.1 [v2],s.2.1,iadd .i64 s.2.2.1 (1:Int),())) (fun a3 =>
          some (Sum.inl a3)) fun b4 =>
         some (Sum.inr ())
        else none
       else none
      else
      bindL (r02_Fields_l0 n g (s.1,s.2.1,iadd .i64 s.2.2.1 (1:Int),())) (fun a5 =>
       some (Sum.inl a5)) fun b6 =>
      some (Sum.inr ())
     else none
    else
    some (Sum.inl (s.1,()))
theorem r02_Fields_l0_ok (n:Nat):∀ g,LEntOk Tryz.prog 94 (nSl r02_Fields_sg) ⟨0,[.own .str, .tree (.slice .str), .tree (.int .i64)],0,[.own .str],[],r02_Fields_l0 n g⟩ g
  | 0=>loop_zero' fun _=>rfl
  | g+1=>loop_step' mixed (T:=[r02_Split_ent n]) (tabCons (r02_Split_ok n) tabNil) tabLNil (r02_Fields_l0_ok n g) fun s=>by kernel_rfl
def r02_Fields (n:Nat) (x:SgEl r02_Fields_sg):Option (RtEl r02_Fields_rs×OutEl r02_Fields_sg) :=
  bindN (r02_Split n (x.1,(32:Int),())) fun p1 =>
  bindL (r02_Fields_l0 n n ([],p1.1.1,(0:Int),())) (fun a2 =>
   some (a2,((),()))) fun b3 =>
  none
abbrev r02_Fields_ent (n:Nat):Ent:=⟨94,r02_Fields_sg,r02_Fields_rs,r02_Fields n⟩
theorem r02_Fields_ok (n:Nat):EntOk Tryz.prog (r02_Fields_ent n):=ent_ok' mixed (T:=[r02_Split_ent n]) (tabCons (r02_Split_ok n) tabNil) (tabLCons (r02_Fields_l0_ok n n) tabLNil) fun x=>by kernel_rfl
abbrev r02_Same_sg:List Sg:=[.tree (.slice .str), .tree (.slice .str)]
abbrev r02_Same_rs:List Rt:=[.tree .bool]
def r02_Same_l0 (n:Nat):Nat→SgEl [.tree (.slice .str), .tree (.slice .str), .tree (.int .i64)]→Option (SgEl [] ⊕ SgEl [.tree .bool])
  | 0,_=>none
  | g+1,s =>
    bif ilt s.2.2.1 (ilen s.1) then
     bif ile (0:Int) s.2.2.1 then
      bindN (lat s.1 (iN s.2.2.1)) fun v1 =>
      bif ile (0:Int) s.2.2.1 then
       bindN (lat s.2.1 (iN s.2.2.1)) fun v2 =>
       bif !(seq v1 v2) then
        some (Sum.inr (false,()))
       else
       bindL (r02_Same_l0 n g (s.1,s.2.1,iadd .i64 s.2.2.1 (1:Int),())) (fun a3 =>
        some (Sum.inl ())) fun b4 =>
       some (Sum.inr b4)
      else none
     else none
    else
    some (Sum.inl ())
theorem r02_Same_l0_ok (n:Nat):∀ g,LEntOk Tryz.prog 68 (nSl r02_Same_sg) ⟨0,[.tree (.slice .str), .tree (.slice .str), .tree (.int .i64)],0,[],[.tree .bool],r02_Same_l0 n g⟩ g
  | 0=>loop_zero' fun _=>rfl
  | g+1=>loop_step' mixed (T:=[]) tabNil tabLNil (r02_Same_l0_ok n g) fun s=>by kernel_rfl
def r02_Same (n:Nat) (x:SgEl r02_Same_sg):Option (RtEl r02_Same_rs×OutEl r02_Same_sg) :=
  bif !(ieq (ilen x.1) (ilen x.2.1)) then
   some ((false,()),((),(),()))
  else
  bindL (r02_Same_l0 n n (x.1,x.2.1,(0:Int),())) (fun a1 =>
   some ((true,()),((),(),()))) fun b2 =>
  some (b2,((),(),()))
abbrev r02_Same_ent (n:Nat):Ent:=⟨68,r02_Same_sg,r02_Same_rs,r02_Same n⟩
theorem r02_Same_ok (n:Nat):EntOk Tryz.prog (r02_Same_ent n):=ent_ok' mixed (T:=[]) tabNil (tabLCons (r02_Same_l0_ok n n) tabLNil) fun x=>by kernel_rfl
abbrev r03_may_sg:List Sg:=[.tree tTag]
abbrev r03_may_rs:List Rt:=[.tree .bool]
def r03_may (n:Nat) (x:SgEl r03_may_sg):Option (RtEl r03_may_rs×OutEl r03_may_sg) :=
  bindN (r02_Name n (x.1.1,())) fun p1 =>
  bif p1.1.1 then
   bindN (r02_Value n x.1.2) fun p2 =>
   some (p2.1,((),()))
  else
  some ((false,()),((),()))
abbrev r03_may_ent (n:Nat):Ent:=⟨206,r03_may_sg,r03_may_rs,r03_may n⟩
theorem r03_may_ok (n:Nat):EntOk Tryz.prog (r03_may_ent n):=ent_ok' mixed (T:=[r02_Name_ent n,r02_Value_ent n]) (tabCons (r02_Name_ok n) (tabCons (r02_Value_ok n) tabNil)) tabLNil fun x=>by kernel_rfl
abbrev r03_Canon_sg:List Sg:=[.tree (.slice tTag)]
abbrev r03_Canon_rs:List Rt:=[.tree (.slice tTag), .tree (.int .i64)]
def r03_Canon_l2 (n:Nat):Nat→SgEl [.tree (.slice tTag), .own tTag, .tree (.int .i64), .tree (.int .i64)]→Option (SgEl [.tree (.slice tTag), .own tTag, .tree (.int .i64), .tree (.int .i64)] ⊕ SgEl [])
  | 0,_=>none
  | g+1,s =>
    bif ilt s.2.2.2.1 (ilen s.2.1) then
     bif ile (0:Int) s.2.2.2.1 then
      bindN (lat s.2.1 (iN s.2.2.2.1)) fun v1 =>
      bindN (lat s.2.1 (iN s.2.2.2.1)) fun v2 =>
      bif ile (0:Int) s.2.2.1 then
       bindN (lat s.1 (iN s.2.2.1)) fun v3 =>
       bif slt v2.1 v3.1 then
        bindL (r03_Canon_l2 n g (s.1,s.2.1,s.2.2.1,iadd .i64 s.2.2.2.1 (1:Int),())) (fun a4 =>
         some (Sum.inl a4)) fun b5 =>
        some (Sum.inr ())
       else
       some (Sum.inl s)
      else none
     else none
    else
    some (Sum.inl s)
theorem r03_Canon_l2_ok (n:Nat):∀ g,LEntOk Tryz.prog 218 (nSl r03_Canon_sg) ⟨2,[.tree (.slice tTag), .own tTag, .tree (.int .i64), .tree (.int .i64)],4,[.tree (.slice tTag), .own tTag, .tree (.int .i64), .tree (.int .i64)],[],r03_Canon_l2 n g⟩ g
  | 0=>loop_zero' fun _=>rfl
  | g+1=>loop_step' mixed (T:=[r03_may_ent n]) (tabCons (r03_may_ok n) tabNil) tabLNil (r03_Canon_l2_ok n g) fun s=>by kernel_rfl
def r03_Canon_l1 (n:Nat):Nat→SgEl [.tree (.slice tTag), .own tTag, .tree (.int .i64)]→Option (SgEl [.own tTag] ⊕ SgEl [.tree (.slice tTag), .tree (.int .i64)])
  | 0,_=>none
  | g+1,s =>
    bif ilt s.2.2.1 (ilen s.1) then
     bindL (r03_Canon_l2 n n (s.1,s.2.1,s.2.2.1,(0:Int),())) (fun a1 =>
      bif ilt a1.2.2.2.1 (ilen a1.2.1) then
       bif ile (0:Int) a1.2.2.2.1 then
        bindN (lat a1.2.1 (iN a1.2.2.2.1)) fun v3 =>
        bindN (lat a1.2.1 (iN a1.2.2.2.1)) fun v4 =>
        bif ile (0:Int) a1.2.2.1 then
         bindN (lat a1.1 (iN a1.2.2.1)) fun v5 =>
         bif seq v4.1 v5.1 then
          some (Sum.inr ([],(5:Int),()))
         else
         bif ile (0:Int) a1.2.2.2.1 then
          bif ile a1.2.2.2.1 (ilen a1.2.1) then
           bif ile (ilen a1.2.1) (ilen a1.2.1) then
            bif roomA ([]:List (El tTag)) (win a1.2.1 (iN a1.2.2.2.1) (iN (ilen a1.2.1) - iN a1.2.2.2.1)) 32 then
             bif ile (0:Int) (0:Int) then
              bif ile (0:Int) a1.2.2.2.1 then
               bif ile a1.2.2.2.1 (ilen a1.2.1) then
                bif ile (0:Int) a1.2.2.1 then
                 bindN (lat a1.1 (iN a1.2.2.1)) fun v6 =>
                 bif roomA (win a1.2.1 0 (iN a1.2.2.2.1 - iN (0:Int))) [v6] 32 then
                  bif roomA (app (win a1.2.1 0 (iN a1.2.2.2.1 - iN (0:Int))) [v6]) (app ([]:List (El tTag)) (win a1.2.1 (iN a1.2.2.2.1) (iN (ilen a1.2.1) - iN a1.2.2.2.1))) 32 then
                   bindL (r03_Canon_l1 n g (a1.1,app (app (win a1.2.1 0 (iN a1.2.2.2.1 - iN (0:Int))) [v6]) (app ([]:List (El tTag)) (win a1.2.1 (iN a1.2.2.2.1) (iN (ilen a1.2.1) - iN a1.2.2.2.1))),iadd .i64 a1.2.2.1 (1:Int),())) (fun a7 =>
                    some (Sum.inl a7)) fun b8 =>
                   some (Sum.inr b8)
                  else none
                 else none
                else none
               else none
              else none
             else none
            else none
           else none
          else none
         else none
        else none
       else none
      else
      bif ile (0:Int) a1.2.2.2.1 then
       bif ile a1.2.2.2.1 (ilen a1.2.1) then
        bif ile (ilen a1.2.1) (ilen a1.2.1) then
         bif roomA ([]:List (El tTag)) (win a1.2.1 (iN a1.2.2.2.1) (iN (ilen a1.2.1) - iN a1.2.2.2.1)) 32 then
          bif ile (0:Int) (0:Int) then
           bif ile (0:Int) a1.2.2.2.1 then
            bif ile a1.2.2.2.1 (ilen a1.2.1) then
             bif ile (0:Int) a1.2.2.1 then
              bindN (lat a1.1 (iN a1.2.2.1)) fun v9 =>
              bif roomA (win a1.2.1 0 (iN a1.2.2.2.1 - iN (0:Int))) [v9] 32 then
               bif roomA (app (win a1.2.1 0 (iN a1.2.2.2.1 - iN (0:Int))) [v9]) (app ([]:List (El tTag)) (win a1.2.1 (iN a1.2.2.2.1) (iN (ilen a1.2.1) - iN a1.2.2.2.1))) 32 then
                bindL (r03_Canon_l1 n g (a1.1,app (app (win a1.2.1 0 (iN a1.2.2.2.1 - iN (0:Int))) [v9]) (app ([]:List (El tTag)) (win a1.2.1 (iN a1.2.2.2.1) (iN (ilen a1.2.1) - iN a1.2.2.2.1))),iadd .i64 a1.2.2.1 (1:Int),())) (fun a10 =>
                 some (Sum.inl a10)) fun b11 =>
                some (Sum.inr b11)
               else none
              else none
             else none
            else none
           else none
          else none
         else none
        else none
       else none
      else none) fun b2 =>
     none
    else
    some (Sum.inl (s.2.1,()))
theorem r03_Canon_l1_ok (n:Nat):∀ g,LEntOk Tryz.prog 218 (nSl r03_Canon_sg) ⟨1,[.tree (.slice tTag), .own tTag, .tree (.int .i64)],2,[.own tTag],[.tree (.slice tTag), .tree (.int .i64)],r03_Canon_l1 n g⟩ g
  | 0=>loop_zero' fun _=>rfl
  | g+1=>loop_step' mixed (T:=[r03_may_ent n]) (tabCons (r03_may_ok n) tabNil) (tabLCons (r03_Canon_l2_ok n n) tabLNil) (r03_Canon_l1_ok n g) fun s=>by kernel_rfl
def r03_Canon_l0 (n:Nat):Nat→SgEl [.tree (.slice tTag), .tree (.int .i64)]→Option (SgEl [.tree (.slice tTag)] ⊕ SgEl [.tree (.slice tTag), .tree (.int .i64)])
  | 0,_=>none
  | g+1,s =>
    bif ilt s.2.1 (ilen s.1) then
     bif ile (0:Int) s.2.1 then
      bindN (lat s.1 (iN s.2.1)) fun v1 =>
      bindN (r03_may n (v1,())) fun p2 =>
      bif !p2.1.1 then
       some (Sum.inr ([],(2:Int),()))
      else
      bindL (r03_Canon_l0 n g (s.1,iadd .i64 s.2.1 (1:Int),())) (fun a3 =>
       some (Sum.inl a3)) fun b4 =>
      some (Sum.inr b4)
     else none
    else
    some (Sum.inl (s.1,()))
theorem r03_Canon_l0_ok (n:Nat):∀ g,LEntOk Tryz.prog 218 (nSl r03_Canon_sg) ⟨0,[.tree (.slice tTag), .tree (.int .i64)],0,[.tree (.slice tTag)],[.tree (.slice tTag), .tree (.int .i64)],r03_Canon_l0 n g⟩ g
  | 0=>loop_zero' fun _=>rfl
  | g+1=>loop_step' mixed (T:=[r03_may_ent n]) (tabCons (r03_may_ok n) tabNil) (tabLCons (r03_Canon_l1_ok n n) (tabLCons (r03_Canon_l2_ok n n) tabLNil)) (r03_Canon_l0_ok n g) fun s=>by kernel_rfl
def r03_Canon (n:Nat) (x:SgEl r03_Canon_sg):Option (RtEl r03_Canon_rs×OutEl r03_Canon_sg) :=
  bindL (r03_Canon_l0 n n (x.1,(0:Int),())) (fun a1 =>
   bif ilt (4:Int) (ilen a1.1) then
    some (([],(4:Int),()),((),()))
   else
   bindL (r03_Canon_l1 n n (a1.1,[],(0:Int),())) (fun a3 =>
    some ((a3.1,(0:Int),()),((),()))) fun b4 =>
   some (b4,((),()))) fun b2 =>
  some (b2,((),()))
abbrev r03_Canon_ent (n:Nat):Ent:=⟨218,r03_Canon_sg,r03_Canon_rs,r03_Canon n⟩
theorem r03_Canon_ok (n:Nat):EntOk Tryz.prog (r03_Canon_ent n):=ent_ok' mixed (T:=[r03_may_ent n]) (tabCons (r03_may_ok n) tabNil) (tabLCons (r03_Canon_l0_ok n n) (tabLCons (r03_Canon_l1_ok n n) (tabLCons (r03_Canon_l2_ok n n) tabLNil))) fun x=>by kernel_rfl
abbrev r03_Find_sg:List Sg:=[.tree (.slice tTag), .tree .str]
abbrev r03_Find_rs:List Rt:=[.tree .str, .tree .bool]
def r03_Find_l0 (n:Nat):Nat→SgEl [.tree (.slice tTag), .tree .str, .tree (.int .i64)]→Option (SgEl [] ⊕ SgEl [.tree .str, .tree .bool])
  | 0,_=>none
  | g+1,s =>
    bif ilt s.2.2.1 (ilen s.1) then
     bif ile (0:Int) s.2.2.1 then
      bindN (lat s.1 (iN s.2.2.1)) fun v1 =>
      bif seq v1.1 s.2.1 then
       bif ile (0:Int) s.2.2.1 then
        bindN (lat s.1 (iN s.2.2.1)) fun v2 =>
        some (Sum.inr (v2.2.1,true,()))
       else none
      else
      bindL (r03_Find_l0 n g (s.1,s.2.1,iadd .i64 s.2.2.1 (1:Int),())) (fun a3 =>
       some (Sum.inl ())) fun b4 =>
      some (Sum.inr b4)
     else none
    else
    some (Sum.inl ())
theorem r03_Find_l0_ok (n:Nat):∀ g,LEntOk Tryz.prog 284 (nSl r03_Find_sg) ⟨0,[.tree (.slice tTag), .tree .str, .tree (.int .i64)],0,[],[.tree .str, .tree .bool],r03_Find_l0 n g⟩ g
  | 0=>loop_zero' fun _=>rfl
  | g+1=>loop_step' mixed (T:=[]) tabNil tabLNil (r03_Find_l0_ok n g) fun s=>by kernel_rfl
def r03_Find (n:Nat) (x:SgEl r03_Find_sg):Option (RtEl r03_Find_rs×OutEl r03_Find_sg) :=
  bindL (r03_Find_l0 n n (x.1,x.2.1,(0:Int),())) (fun a1 =>
   some (((⟨#[]⟩:ByteArray),false,()),((),(),()))) fun b2 =>
  some (b2,((),(),()))
abbrev r03_Find_ent (n:Nat):Ent:=⟨284,r03_Find_sg,r03_Find_rs,r03_Find n⟩
theorem r03_Find_ok (n:Nat):EntOk Tryz.prog (r03_Find_ent n):=ent_ok' mixed (T:=[]) tabNil (tabLCons (r03_Find_l0_ok n n) tabLNil) fun x=>by kernel_rfl
abbrev r03_has_sg:List Sg:=[.tree (.slice .str), .tree .str]
abbrev r03_has_rs:List Rt:=[.tree .bool]
def r03_has_l0 (n:Nat):Nat→SgEl [.tree (.slice .str), .tree .str, .tree (.int .i64)]→Option (SgEl [] ⊕ SgEl [.tree .bool])
  | 0,_=>none
  | g+1,s =>
    bif ilt s.2.2.1 (ilen s.1) then
     bif ile (0:Int) s.2.2.1 then
      bindN (lat s.1 (iN s.2.2.1)) fun v1 =>
      bif seq v1 s.2.1 then
       some (Sum.inr (true,()))
      else
      bindL (r03_has_l0 n g (s.1,s.2.1,iadd .i64 s.2.2.1 (1:Int),())) (fun a2 =>
       some (Sum.inl ())) fun b3 =>
      some (Sum.inr b3)
     else none
    else
    some (Sum.inl ())
theorem r03_has_l0_ok (n:Nat):∀ g,LEntOk Tryz.prog 244 (nSl r03_has_sg) ⟨0,[.tree (.slice .str), .tree .str, .tree (.int .i64)],0,[],[.tree .bool],r03_has_l0 n g⟩ g
  | 0=>loop_zero' fun _=>rfl
  | g+1=>loop_step' mixed (T:=[]) tabNil tabLNil (r03_has_l0_ok n g) fun s=>by kernel_rfl
def r03_has (n:Nat) (x:SgEl r03_has_sg):Option (RtEl r03_has_rs×OutEl r03_has_sg) :=
  bindL (r03_has_l0 n n (x.1,x.2.1,(0:Int),())) (fun a1 =>
   some ((false,()),((),(),()))) fun b2 =>
  some (b2,((),(),()))
abbrev r03_has_ent (n:Nat):Ent:=⟨244,r03_has_sg,r03_has_rs,r03_has n⟩
theorem r03_has_ok (n:Nat):EntOk Tryz.prog (r03_has_ent n):=ent_ok' mixed (T:=[]) tabNil (tabLCons (r03_has_l0_ok n n) tabLNil) fun x=>by kernel_rfl
abbrev r03_Only_sg:List Sg:=[.tree (.slice tTag), .tree (.slice .str)]
abbrev r03_Only_rs:List Rt:=[.tree (.slice tTag)]
def r03_Only_l0 (n:Nat):Nat→SgEl [.tree (.slice tTag), .tree (.slice .str), .own tTag, .tree (.int .i64)]→Option (SgEl [.own tTag] ⊕ SgEl [])
  | 0,_=>none
  | g+1,s =>
    bif ilt s.2.2.2.1 (ilen s.1) then
     bif ile (0:Int) s.2.2.2.1 then
      bindN (lat s.1 (iN s.2.2.2.1)) fun v1 =>
      bindN (r03_has n (s.2.1,v1.1,())) fun p2 =>
      bif p2.1.1 then
       bif ile (0:Int) s.2.2.2.1 then
        bindN (lat s.1 (iN s.2.2.2.1)) fun v3 =>
        bif roomA s.2.2.1 [v3] 32 then
         bindL (r03_Only_l0 n g (s.1,s.2.1,app s.2.2.1 [v3],iadd .i64 s.2.2.2.1 (1:Int),())) (fun a4 =>
          some (Sum.inl a4)) fun b5 =>
         some (Sum.inr ())
        else none
       else none
      else
      bindL (r03_Only_l0 n g (s.1,s.2.1,s.2.2.1,iadd .i64 s.2.2.2.1 (1:Int),())) (fun a6 =>
       some (Sum.inl a6)) fun b7 =>
      some (Sum.inr ())
     else none
    else
    some (Sum.inl (s.2.2.1,()))
theorem r03_Only_l0_ok (n:Nat):∀ g,LEntOk Tryz.prog 186 (nSl r03_Only_sg) ⟨0,[.tree (.slice tTag), .tree (.slice .str), .own tTag, .tree (.int .i64)],0,[.own tTag],[],r03_Only_l0 n g⟩ g
  | 0=>loop_zero' fun _=>rfl
  | g+1=>loop_step' mixed (T:=[r03_has_ent n]) (tabCons (r03_has_ok n) tabNil) tabLNil (r03_Only_l0_ok n g) fun s=>by kernel_rfl
def r03_Only (n:Nat) (x:SgEl r03_Only_sg):Option (RtEl r03_Only_rs×OutEl r03_Only_sg) :=
  bindL (r03_Only_l0 n n (x.1,x.2.1,[],(0:Int),())) (fun a1 =>
   some (a1,((),(),()))) fun b2 =>
  none
abbrev r03_Only_ent (n:Nat):Ent:=⟨186,r03_Only_sg,r03_Only_rs,r03_Only n⟩
theorem r03_Only_ok (n:Nat):EntOk Tryz.prog (r03_Only_ent n):=ent_ok' mixed (T:=[r03_has_ent n]) (tabCons (r03_has_ok n) tabNil) (tabLCons (r03_Only_l0_ok n n) tabLNil) fun x=>by kernel_rfl
abbrev r03_Text_sg:List Sg:=[.tree (.slice tTag)]
abbrev r03_Text_rs:List Rt:=[.tree .str]
def r03_Text_l0 (n:Nat):Nat→SgEl [.tree (.slice tTag), .own .str, .tree (.int .i64)]→Option (SgEl [.own .str] ⊕ SgEl [])
  | 0,_=>none
  | g+1,s =>
    bif ilt s.2.2.1 (ilen s.1) then
     bif ile (0:Int) s.2.2.1 then
      bindN (lat s.1 (iN s.2.2.1)) fun v1 =>
      bif sfits v1.1 (⟨#[61]⟩:ByteArray) then
       bif ile (0:Int) s.2.2.1 then
        bindN (lat s.1 (iN s.2.2.1)) fun v2 =>
        bif sfits (scat v1.1 (⟨#[61]⟩:ByteArray)) v2.2.1 then
         bif roomA s.2.1 [scat (scat v1.1 (⟨#[61]⟩:ByteArray)) v2.2.1] 16 then
          bindL (r03_Text_l0 n g (s.1,app s.2.1 [scat (scat v1.1 (⟨#[61]⟩:ByteArray)) v2.2.1],iadd .i64 s.2.2.1 (1:Int),())) (fun a3 =>
           some (Sum.inl a3)) fun b4 =>
          some (Sum.inr ())
         else none
        else none
       else none
      else none
     else none
    else
    some (Sum.inl (s.2.1,()))
theorem r03_Text_l0_ok (n:Nat):∀ g,LEntOk Tryz.prog 155 (nSl r03_Text_sg) ⟨0,[.tree (.slice tTag), .own .str, .tree (.int .i64)],0,[.own .str],[],r03_Text_l0 n g⟩ g
  | 0=>loop_zero' fun _=>rfl
  | g+1=>loop_step' mixed (T:=[r02_Join_ent n]) (tabCons (r02_Join_ok n) tabNil) tabLNil (r03_Text_l0_ok n g) fun s=>by kernel_rfl
def r03_Text (n:Nat) (x:SgEl r03_Text_sg):Option (RtEl r03_Text_rs×OutEl r03_Text_sg) :=
  bindL (r03_Text_l0 n n (x.1,[],(0:Int),())) (fun a1 =>
   bindN (r02_Join n ((⟨#[44]⟩:ByteArray),a1)) fun p3 =>
   some (p3.1,((),()))) fun b2 =>
  none
abbrev r03_Text_ent (n:Nat):Ent:=⟨155,r03_Text_sg,r03_Text_rs,r03_Text n⟩
theorem r03_Text_ok (n:Nat):EntOk Tryz.prog (r03_Text_ent n):=ent_ok' mixed (T:=[r02_Join_ent n]) (tabCons (r02_Join_ok n) tabNil) (tabLCons (r03_Text_l0_ok n n) tabLNil) fun x=>by kernel_rfl
abbrev r03_Parse_sg:List Sg:=[.tree .str]
abbrev r03_Parse_rs:List Rt:=[.tree (.slice tTag), .tree (.int .i64)]
def r03_Parse_l0 (n:Nat):Nat→SgEl [.own tTag, .tree (.slice .str), .tree (.int .i64)]→Option (SgEl [.own tTag] ⊕ SgEl [.tree (.slice tTag), .tree (.int .i64)])
  | 0,_=>none
  | g+1,s =>
    bif ilt s.2.2.1 (ilen s.2.1) then
     bif ile (0:Int) s.2.2.1 then
      bindN (lat s.2.1 (iN s.2.2.1)) fun v1 =>
      bindN (r02_Split n (v1,(61:Int),())) fun p2 =>
      bif ilt (ilen p2.1.1) (2:Int) then
       some (Sum.inr ([],(2:Int),()))
      else
      bif ile (0:Int) (0:Int) then
       bindN (lat p2.1.1 (iN (0:Int))) fun v3 =>
       bif ile (0:Int) (1:Int) then
        bif ile (1:Int) (ilen p2.1.1) then
         bif ile (ilen p2.1.1) (ilen p2.1.1) then
          bindN (r02_Join n ((⟨#[61]⟩:ByteArray),winI p2.1.1 (1:Int) (ilen p2.1.1),())) fun p4 =>
          bif roomA s.1 [(v3,p4.1)] 32 then
           bindL (r03_Parse_l0 n g (app s.1 [(v3,p4.1)],s.2.1,iadd .i64 s.2.2.1 (1:Int),())) (fun a5 =>
            some (Sum.inl a5)) fun b6 =>
           some (Sum.inr b6)
          else none
         else none
        else none
       else none
      else none
     else none
    else
    some (Sum.inl (s.1,()))
theorem r03_Parse_l0_ok (n:Nat):∀ g,LEntOk Tryz.prog 170 (nSl r03_Parse_sg) ⟨0,[.own tTag, .tree (.slice .str), .tree (.int .i64)],0,[.own tTag],[.tree (.slice tTag), .tree (.int .i64)],r03_Parse_l0 n g⟩ g
  | 0=>loop_zero' fun _=>rfl
  | g+1=>loop_step' mixed (T:=[r02_Split_ent n,r02_Join_ent n,r03_Canon_ent n]) (tabCons (r02_Split_ok n) (tabCons (r02_Join_ok n) (tabCons (r03_Canon_ok n) tabNil))) tabLNil (r03_Parse_l0_ok n g) fun s=>by kernel_rfl
def r03_Parse (n:Nat) (x:SgEl r03_Parse_sg):Option (RtEl r03_Parse_rs×OutEl r03_Parse_sg) :=
  bif seq x.1 (⟨#[]⟩:ByteArray) then
   some (([],(0:Int),()),((),()))
  else
  bindN (r02_Split n (x.1,(44:Int),())) fun p1 =>
  bindL (r03_Parse_l0 n n ([],p1.1.1,(0:Int),())) (fun a2 =>
   bindN (r03_Canon n a2) fun p4 =>
   some (p4.1,((),()))) fun b3 =>
  some (b3,((),()))
abbrev r03_Parse_ent (n:Nat):Ent:=⟨170,r03_Parse_sg,r03_Parse_rs,r03_Parse n⟩
theorem r03_Parse_ok (n:Nat):EntOk Tryz.prog (r03_Parse_ent n):=ent_ok' mixed (T:=[r02_Split_ent n,r02_Join_ent n,r03_Canon_ent n]) (tabCons (r02_Split_ok n) (tabCons (r02_Join_ok n) (tabCons (r03_Canon_ok n) tabNil))) (tabLCons (r03_Parse_l0_ok n n) tabLNil) fun x=>by kernel_rfl
abbrev r04_Text_sg:List Sg:=[.tree tKey]
abbrev r04_Text_rs:List Rt:=[.tree .str]
def r04_Text (n:Nat) (x:SgEl r04_Text_sg):Option (RtEl r04_Text_rs×OutEl r04_Text_sg) :=
  bif ieq (ilen x.1.2.1) (0:Int) then
   some ((x.1.1,()),((),()))
  else
  bif sfits x.1.1 (⟨#[123]⟩:ByteArray) then
   bindN (r03_Text n x.1.2) fun p1 =>
   bif sfits (scat x.1.1 (⟨#[123]⟩:ByteArray)) p1.1.1 then
    bif sfits (scat (scat x.1.1 (⟨#[123]⟩:ByteArray)) p1.1.1) (⟨#[125]⟩:ByteArray) then
     some ((scat (scat (scat x.1.1 (⟨#[123]⟩:ByteArray)) p1.1.1) (⟨#[125]⟩:ByteArray),()),((),()))
    else none
   else none
  else none
abbrev r04_Text_ent (n:Nat):Ent:=⟨86,r04_Text_sg,r04_Text_rs,r04_Text n⟩
theorem r04_Text_ok (n:Nat):EntOk Tryz.prog (r04_Text_ent n):=ent_ok' mixed (T:=[r03_Text_ent n]) (tabCons (r03_Text_ok n) tabNil) tabLNil fun x=>by kernel_rfl
abbrev r04_Cut_sg:List Sg:=[.tree .str]
abbrev r04_Cut_rs:List Rt:=[.tree .str, .tree .str, .tree .bool]
def r04_Cut_l0 (n:Nat):Nat→SgEl [.tree .str, .tree (.int .i64)]→Option (SgEl [.tree .str, .tree (.int .i64)] ⊕ SgEl [])
  | 0,_=>none
  | g+1,s =>
    bif ilt s.2.1 (ssize s.1) then
     bif ile (0:Int) s.2.1 then
      bif ilt s.2.1 (ssize s.1) then
       bif !(ieq (sat s.1 s.2.1) (123:Int)) then
        bindL (r04_Cut_l0 n g (s.1,iadd .i64 s.2.1 (1:Int),())) (fun a1 =>
         some (Sum.inl a1)) fun b2 =>
        some (Sum.inr ())
       else
       some (Sum.inl s)
      else none
     else none
    else
    some (Sum.inl s)
theorem r04_Cut_l0_ok (n:Nat):∀ g,LEntOk Tryz.prog 134 (nSl r04_Cut_sg) ⟨0,[.tree .str, .tree (.int .i64)],0,[.tree .str, .tree (.int .i64)],[],r04_Cut_l0 n g⟩ g
  | 0=>loop_zero' fun _=>rfl
  | g+1=>loop_step' mixed (T:=[]) tabNil tabLNil (r04_Cut_l0_ok n g) fun s=>by kernel_rfl
def r04_Cut (n:Nat) (x:SgEl r04_Cut_sg):Option (RtEl r04_Cut_rs×OutEl r04_Cut_sg) :=
  bindL (r04_Cut_l0 n n (x.1,(0:Int),())) (fun a1 =>
   bif ieq a1.2.1 (ssize a1.1) then
    some ((a1.1,(⟨#[]⟩:ByteArray),true,()),((),()))
   else
   bif ile (0:Int) (isub .i64 (ssize a1.1) (1:Int)) then
    bif ilt (isub .i64 (ssize a1.1) (1:Int)) (ssize a1.1) then
     bif !(ieq (sat a1.1 (isub .i64 (ssize a1.1) (1:Int))) (125:Int)) then
      some (((⟨#[]⟩:ByteArray),(⟨#[]⟩:ByteArray),false,()),((),()))
     else
     bif ieq (iadd .i64 a1.2.1 (1:Int)) (isub .i64 (ssize a1.1) (1:Int)) then
      some (((⟨#[]⟩:ByteArray),(⟨#[]⟩:ByteArray),false,()),((),()))
     else
     bif ile (0:Int) (0:Int) then
      bif ile (0:Int) a1.2.1 then
       bif ile a1.2.1 (ssize a1.1) then
        bif ile (0:Int) (iadd .i64 a1.2.1 (1:Int)) then
         bif ile (iadd .i64 a1.2.1 (1:Int)) (isub .i64 (ssize a1.1) (1:Int)) then
          bif ile (isub .i64 (ssize a1.1) (1:Int)) (ssize a1.1) then
           some ((sext a1.1 (0:Int) a1.2.1,sext a1.1 (iadd .i64 a1.2.1 (1:Int)) (isub .i64 (ssize a1.1) (1:Int)),true,()),((),()))
          else none
         else none
        else none
       else none
      else none
     else none
    else none
   else none) fun b2 =>
  none
abbrev r04_Cut_ent (n:Nat):Ent:=⟨134,r04_Cut_sg,r04_Cut_rs,r04_Cut n⟩
theorem r04_Cut_ok (n:Nat):EntOk Tryz.prog (r04_Cut_ent n):=ent_ok' mixed (T:=[]) tabNil (tabLCons (r04_Cut_l0_ok n n) tabLNil) fun x=>by kernel_rfl
abbrev r04_Parse_sg:List Sg:=[.tree .str]
abbrev r04_Parse_rs:List Rt:=[.tree tKey, .tree (.int .i64)]
def r04_Parse (n:Nat) (x:SgEl r04_Parse_sg):Option (RtEl r04_Parse_rs×OutEl r04_Parse_sg) :=
  bindN (r04_Cut n x) fun p1 =>
  bif !p1.1.2.2.1 then
   some ((((⟨#[]⟩:ByteArray),[],()),(2:Int),()),((),()))
  else
  bindN (r02_Name n (p1.1.1,())) fun p2 =>
  bif !p2.1.1 then
   some ((((⟨#[]⟩:ByteArray),[],()),(2:Int),()),((),()))
  else
  bindN (r03_Parse n (p1.1.2.1,())) fun p3 =>
  bif !(ieq p3.1.2.1 (0:Int)) then
   some ((((⟨#[]⟩:ByteArray),[],()),p3.1.2),((),()))
  else
  some (((p1.1.1,p3.1.1,()),(0:Int),()),((),()))
abbrev r04_Parse_ent (n:Nat):Ent:=⟨128,r04_Parse_sg,r04_Parse_rs,r04_Parse n⟩
theorem r04_Parse_ok (n:Nat):EntOk Tryz.prog (r04_Parse_ent n):=ent_ok' mixed (T:=[r04_Cut_ent n,r02_Name_ent n,r03_Parse_ent n]) (tabCons (r04_Cut_ok n) (tabCons (r02_Name_ok n) (tabCons (r03_Parse_ok n) tabNil))) tabLNil fun x=>by kernel_rfl
abbrev r05_may_sg:List Sg:=[.tree tMatch]
abbrev r05_may_rs:List Rt:=[.tree .bool]
def r05_may (n:Nat) (x:SgEl r05_may_sg):Option (RtEl r05_may_rs×OutEl r05_may_sg) :=
  bindN (r02_Name n (x.1.2.1,())) fun p1 =>
  bif !p1.1.1 then
   some ((false,()),((),()))
  else
  bif ieq x.1.1 (1:Int) then
   bindN (r02_Value n x.1.2.2) fun p2 =>
   some (p2.1,((),()))
  else
  bif ieq x.1.1 (2:Int) then
   bindN (r02_Value n x.1.2.2) fun p3 =>
   some (p3.1,((),()))
  else
  bif ieq x.1.1 (3:Int) then
   bif seq x.1.2.2.1 (⟨#[]⟩:ByteArray) then
    some ((true,()),((),()))
   else
   bindN (r02_Value n x.1.2.2) fun p4 =>
   some (p4.1,((),()))
  else
  bif ieq x.1.1 (4:Int) then
   some ((seq x.1.2.2.1 (⟨#[]⟩:ByteArray),()),((),()))
  else
  some ((false,()),((),()))
abbrev r05_may_ent (n:Nat):Ent:=⟨190,r05_may_sg,r05_may_rs,r05_may n⟩
theorem r05_may_ok (n:Nat):EntOk Tryz.prog (r05_may_ent n):=ent_ok' mixed (T:=[r02_Name_ent n,r02_Value_ent n]) (tabCons (r02_Name_ok n) (tabCons (r02_Value_ok n) tabNil)) tabLNil fun x=>by kernel_rfl
abbrev r05_Right_sg:List Sg:=[.tree (.slice tMatch)]
abbrev r05_Right_rs:List Rt:=[.tree .bool]
def r05_Right_l0 (n:Nat):Nat→SgEl [.tree (.slice tMatch), .tree (.int .i64)]→Option (SgEl [.tree (.slice tMatch)] ⊕ SgEl [.tree .bool])
  | 0,_=>none
  | g+1,s =>
    bif ilt s.2.1 (ilen s.1) then
     bif ile (0:Int) s.2.1 then
      bindN (lat s.1 (iN s.2.1)) fun v1 =>
      bindN (r05_may n (v1,())) fun p2 =>
      bif !p2.1.1 then
       some (Sum.inr (false,()))
      else
      bindL (r05_Right_l0 n g (s.1,iadd .i64 s.2.1 (1:Int),())) (fun a3 =>
       some (Sum.inl a3)) fun b4 =>
      some (Sum.inr b4)
     else none
    else
    some (Sum.inl (s.1,()))
theorem r05_Right_l0_ok (n:Nat):∀ g,LEntOk Tryz.prog 150 (nSl r05_Right_sg) ⟨0,[.tree (.slice tMatch), .tree (.int .i64)],0,[.tree (.slice tMatch)],[.tree .bool],r05_Right_l0 n g⟩ g
  | 0=>loop_zero' fun _=>rfl
  | g+1=>loop_step' mixed (T:=[r05_may_ent n]) (tabCons (r05_may_ok n) tabNil) tabLNil (r05_Right_l0_ok n g) fun s=>by kernel_rfl
def r05_Right (n:Nat) (x:SgEl r05_Right_sg):Option (RtEl r05_Right_rs×OutEl r05_Right_sg) :=
  bindL (r05_Right_l0 n n (x.1,(0:Int),())) (fun a1 =>
   some ((ile (ilen a1.1) (4:Int),()),((),()))) fun b2 =>
  some (b2,((),()))
abbrev r05_Right_ent (n:Nat):Ent:=⟨150,r05_Right_sg,r05_Right_rs,r05_Right n⟩
theorem r05_Right_ok (n:Nat):EntOk Tryz.prog (r05_Right_ent n):=ent_ok' mixed (T:=[r05_may_ent n]) (tabCons (r05_may_ok n) tabNil) (tabLCons (r05_Right_l0_ok n n) tabLNil) fun x=>by kernel_rfl
abbrev r05_one_sg:List Sg:=[.tree (.slice tTag), .tree tMatch]
abbrev r05_one_rs:List Rt:=[.tree .bool]
def r05_one (n:Nat) (x:SgEl r05_one_sg):Option (RtEl r05_one_rs×OutEl r05_one_sg) :=
  bindN (r03_Find n (x.1,x.2.1.2.1,())) fun p1 =>
  bif ieq x.2.1.1 (1:Int) then
   bif p1.1.2.1 then
    some ((seq p1.1.1 x.2.1.2.2.1,()),((),(),()))
   else
   some ((false,()),((),(),()))
  else
  bif ieq x.2.1.1 (2:Int) then
   bif !p1.1.2.1 then
    some ((true,()),((),(),()))
   else
   some ((!(seq p1.1.1 x.2.1.2.2.1),()),((),(),()))
  else
  bif ieq x.2.1.1 (3:Int) then
   bif p1.1.2.1 then
    bif ile (ssize x.2.1.2.2.1) (ssize p1.1.1) then
     bif ile (0:Int) (0:Int) then
      bif ile (0:Int) (ssize x.2.1.2.2.1) then
       bif ile (ssize x.2.1.2.2.1) (ssize p1.1.1) then
        some ((seq (sext p1.1.1 (0:Int) (ssize x.2.1.2.2.1)) x.2.1.2.2.1,()),((),(),()))
       else none
      else none
     else none
    else
    some ((false,()),((),(),()))
   else
   some ((false,()),((),(),()))
  else
  bif ieq x.2.1.1 (4:Int) then
   some (p1.1.2,((),(),()))
  else
  some ((false,()),((),(),()))
abbrev r05_one_ent (n:Nat):Ent:=⟨243,r05_one_sg,r05_one_rs,r05_one n⟩
theorem r05_one_ok (n:Nat):EntOk Tryz.prog (r05_one_ent n):=ent_ok' mixed (T:=[r03_Find_ent n]) (tabCons (r03_Find_ok n) tabNil) tabLNil fun x=>by kernel_rfl
abbrev r05_Fits_sg:List Sg:=[.tree (.slice tTag), .tree (.slice tMatch)]
abbrev r05_Fits_rs:List Rt:=[.tree .bool]
def r05_Fits_l0 (n:Nat):Nat→SgEl [.tree (.slice tTag), .tree (.slice tMatch), .tree (.int .i64)]→Option (SgEl [] ⊕ SgEl [.tree .bool])
  | 0,_=>none
  | g+1,s =>
    bif ilt s.2.2.1 (ilen s.2.1) then
     bif ile (0:Int) s.2.2.1 then
      bindN (lat s.2.1 (iN s.2.2.1)) fun v1 =>
      bindN (r05_one n (s.1,v1,())) fun p2 =>
      bif !p2.1.1 then
       some (Sum.inr (false,()))
      else
      bindL (r05_Fits_l0 n g (s.1,s.2.1,iadd .i64 s.2.2.1 (1:Int),())) (fun a3 =>
       some (Sum.inl ())) fun b4 =>
      some (Sum.inr b4)
     else none
    else
    some (Sum.inl ())
theorem r05_Fits_l0_ok (n:Nat):∀ g,LEntOk Tryz.prog 184 (nSl r05_Fits_sg) ⟨0,[.tree (.slice tTag), .tree (.slice tMatch), .tree (.int .i64)],0,[],[.tree .bool],r05_Fits_l0 n g⟩ g
  | 0=>loop_zero' fun _=>rfl
  | g+1=>loop_step' mixed (T:=[r05_one_ent n]) (tabCons (r05_one_ok n) tabNil) tabLNil (r05_Fits_l0_ok n g) fun s=>by kernel_rfl
def r05_Fits (n:Nat) (x:SgEl r05_Fits_sg):Option (RtEl r05_Fits_rs×OutEl r05_Fits_sg) :=
  bindL (r05_Fits_l0 n n (x.1,x.2.1,(0:Int),())) (fun a1 =>
   some ((true,()),((),(),()))) fun b2 =>
  some (b2,((),(),()))
abbrev r05_Fits_ent (n:Nat):Ent:=⟨184,r05_Fits_sg,r05_Fits_rs,r05_Fits n⟩
theorem r05_Fits_ok (n:Nat):EntOk Tryz.prog (r05_Fits_ent n):=ent_ok' mixed (T:=[r05_one_ent n]) (tabCons (r05_one_ok n) tabNil) (tabLCons (r05_Fits_l0_ok n n) tabLNil) fun x=>by kernel_rfl
abbrev r05_find_sg:List Sg:=[.tree .str, .tree .str]
abbrev r05_find_rs:List Rt:=[.tree (.int .i64)]
def r05_find_l0 (n:Nat):Nat→SgEl [.tree .str, .tree .str, .tree (.int .i64)]→Option (SgEl [] ⊕ SgEl [.tree (.int .i64)])
  | 0,_=>none
  | g+1,s =>
    bif ile (iadd .i64 s.2.2.1 (ssize s.2.1)) (ssize s.1) then
     bif ile (0:Int) s.2.2.1 then
      bif ile s.2.2.1 (iadd .i64 s.2.2.1 (ssize s.2.1)) then
       bif ile (iadd .i64 s.2.2.1 (ssize s.2.1)) (ssize s.1) then
        bif seq (sext s.1 s.2.2.1 (iadd .i64 s.2.2.1 (ssize s.2.1))) s.2.1 then
         some (Sum.inr s.2.2)
        else
        bindL (r05_find_l0 n g (s.1,s.2.1,iadd .i64 s.2.2.1 (1:Int),())) (fun a1 =>
         some (Sum.inl ())) fun b2 =>
        some (Sum.inr b2)
       else none
      else none
     else none
    else
    some (Sum.inl ())
theorem r05_find_l0_ok (n:Nat):∀ g,LEntOk Tryz.prog 245 (nSl r05_find_sg) ⟨0,[.tree .str, .tree .str, .tree (.int .i64)],0,[],[.tree (.int .i64)],r05_find_l0 n g⟩ g
  | 0=>loop_zero' fun _=>rfl
  | g+1=>loop_step' mixed (T:=[]) tabNil tabLNil (r05_find_l0_ok n g) fun s=>by kernel_rfl
def r05_find (n:Nat) (x:SgEl r05_find_sg):Option (RtEl r05_find_rs×OutEl r05_find_sg) :=
  bindL (r05_find_l0 n n (x.1,x.2.1,(0:Int),())) (fun a1 =>
   some (((-1:Int),()),((),(),()))) fun b2 =>
  some (b2,((),(),()))
abbrev r05_find_ent (n:Nat):Ent:=⟨245,r05_find_sg,r05_find_rs,r05_find n⟩
theorem r05_find_ok (n:Nat):EntOk Tryz.prog (r05_find_ent n):=ent_ok' mixed (T:=[]) tabNil (tabLCons (r05_find_l0_ok n n) tabLNil) fun x=>by kernel_rfl
abbrev r05_part_sg:List Sg:=[.tree .str]
abbrev r05_part_rs:List Rt:=[.tree tMatch]
def r05_part (n:Nat) (x:SgEl r05_part_sg):Option (RtEl r05_part_rs×OutEl r05_part_sg) :=
  bindN (r05_find n (x.1,(⟨#[33,61]⟩:ByteArray),())) fun p1 =>
  bif ile (0:Int) p1.1.1 then
   bif ile (0:Int) (0:Int) then
    bif ile (0:Int) p1.1.1 then
     bif ile p1.1.1 (ssize x.1) then
      bif ile (0:Int) (iadd .i64 p1.1.1 (2:Int)) then
       bif ile (iadd .i64 p1.1.1 (2:Int)) (ssize x.1) then
        bif ile (ssize x.1) (ssize x.1) then
         some ((((2:Int),sext x.1 (0:Int) p1.1.1,sext x.1 (iadd .i64 p1.1.1 (2:Int)) (ssize x.1),()),()),((),()))
        else none
       else none
      else none
     else none
    else none
   else none
  else
  bindN (r05_find n (x.1,(⟨#[61]⟩:ByteArray),())) fun p2 =>
  bif ilt p2.1.1 (0:Int) then
   some ((((4:Int),x.1,(⟨#[]⟩:ByteArray),()),()),((),()))
  else
  bif ile (0:Int) (isub .i64 (ssize x.1) (1:Int)) then
   bif ilt (isub .i64 (ssize x.1) (1:Int)) (ssize x.1) then
    bif ieq (sat x.1 (isub .i64 (ssize x.1) (1:Int))) (42:Int) then
     bif ile (0:Int) (0:Int) then
      bif ile (0:Int) p2.1.1 then
       bif ile p2.1.1 (ssize x.1) then
        bif ile (0:Int) (iadd .i64 p2.1.1 (1:Int)) then
         bif ile (iadd .i64 p2.1.1 (1:Int)) (isub .i64 (ssize x.1) (1:Int)) then
          bif ile (isub .i64 (ssize x.1) (1:Int)) (ssize x.1) then
           some ((((3:Int),sext x.1 (0:Int) p2.1.1,sext x.1 (iadd .i64 p2.1.1 (1:Int)) (isub .i64 (ssize x.1) (1:Int)),()),()),((),()))
          else none
         else none
        else none
       else none
      else none
     else none
    else
    bif ile (0:Int) (0:Int) then
     bif ile (0:Int) p2.1.1 then
      bif ile p2.1.1 (ssize x.1) then
       bif ile (0:Int) (iadd .i64 p2.1.1 (1:Int)) then
        bif ile (iadd .i64 p2.1.1 (1:Int)) (ssize x.1) then
         bif ile (ssize x.1) (ssize x.1) then
          some ((((1:Int),sext x.1 (0:Int) p2.1.1,sext x.1 (iadd .i64 p2.1.1 (1:Int)) (ssize x.1),()),()),((),()))
         else none
        else none
       else none
      else none
     else none
    else none
   else none
  else none
abbrev r05_part_ent (n:Nat):Ent:=⟨189,r05_part_sg,r05_part_rs,r05_part n⟩
theorem r05_part_ok (n:Nat):EntOk Tryz.prog (r05_part_ent n):=ent_ok' mixed (T:=[r05_find_ent n]) (tabCons (r05_find_ok n) tabNil) tabLNil fun x=>by kernel_rfl
abbrev r05_Parse_sg:List Sg:=[.tree .str]
abbrev r05_Parse_rs:List Rt:=[.tree (.slice tMatch), .tree (.int .i64)]
def r05_Parse_l0 (n:Nat):Nat→SgEl [.own tMatch, .tree (.slice .str), .tree (.int .i64)]→Option (SgEl [.own tMatch] ⊕ SgEl [.tree (.slice tMatch), .tree (.int .i64)])
  | 0,_=>none
  | g+1,s =>
    bif ilt s.2.2.1 (ilen s.2.1) then
     bif ile (0:Int) s.2.2.1 then
      bindN (lat s.2.1 (iN s.2.2.1)) fun v1 =>
      bindN (r05_part n (v1,())) fun p2 =>
      bindN (r05_may n p2.1) fun p3 =>
      bif !p3.1.1 then
       some (Sum.inr ([],(2:Int),()))
      else
      bif roomA s.1 [p2.1.1] 40 then
       bindL (r05_Parse_l0 n g (app s.1 [p2.1.1],s.2.1,iadd .i64 s.2.2.1 (1:Int),())) (fun a4 =>
        some (Sum.inl a4)) fun b5 =>
       some (Sum.inr b5)
      else none
     else none
    else
    some (Sum.inl (s.1,()))
theorem r05_Parse_l0_ok (n:Nat):∀ g,LEntOk Tryz.prog 136 (nSl r05_Parse_sg) ⟨0,[.own tMatch, .tree (.slice .str), .tree (.int .i64)],0,[.own tMatch],[.tree (.slice tMatch), .tree (.int .i64)],r05_Parse_l0 n g⟩ g
  | 0=>loop_zero' fun _=>rfl
  | g+1=>loop_step' mixed (T:=[r02_Split_ent n,r05_part_ent n,r05_may_ent n]) (tabCons (r02_Split_ok n) (tabCons (r05_part_ok n) (tabCons (r05_may_ok n) tabNil))) tabLNil (r05_Parse_l0_ok n g) fun s=>by kernel_rfl
def r05_Parse (n:Nat) (x:SgEl r05_Parse_sg):Option (RtEl r05_Parse_rs×OutEl r05_Parse_sg) :=
  bif seq x.1 (⟨#[]⟩:ByteArray) then
   some (([],(0:Int),()),((),()))
  else
  bindN (r02_Split n (x.1,(44:Int),())) fun p1 =>
  bindL (r05_Parse_l0 n n ([],p1.1.1,(0:Int),())) (fun a2 =>
   bif ilt (4:Int) (ilen a2.1) then
    some (([],(4:Int),()),((),()))
   else
   some ((a2.1,(0:Int),()),((),()))) fun b3 =>
  some (b3,((),()))
abbrev r05_Parse_ent (n:Nat):Ent:=⟨136,r05_Parse_sg,r05_Parse_rs,r05_Parse n⟩
theorem r05_Parse_ok (n:Nat):EntOk Tryz.prog (r05_Parse_ent n):=ent_ok' mixed (T:=[r02_Split_ent n,r05_part_ent n,r05_may_ent n]) (tabCons (r02_Split_ok n) (tabCons (r05_part_ok n) (tabCons (r05_may_ok n) tabNil))) (tabLCons (r05_Parse_l0_ok n n) tabLNil) fun x=>by kernel_rfl
abbrev r05_Same_sg:List Sg:=[.tree (.slice tMatch), .tree (.slice tMatch)]
abbrev r05_Same_rs:List Rt:=[.tree .bool]
def r05_Same_l0 (n:Nat):Nat→SgEl [.tree (.slice tMatch), .tree (.slice tMatch), .tree (.int .i64)]→Option (SgEl [] ⊕ SgEl [.tree .bool])
  | 0,_=>none
  | g+1,s =>
    bif ilt s.2.2.1 (ilen s.1) then
     bif ile (0:Int) s.2.2.1 then
      bindN (lat s.1 (iN s.2.2.1)) fun v1 =>
      bif ile (0:Int) s.2.2.1 then
       bindN (lat s.2.1 (iN s.2.2.1)) fun v2 =>
       bif !(ieq v1.1 v2.1 && (seq v1.2.1 v2.2.1 && (seq v1.2.2.1 v2.2.2.1 && true))) then
        some (Sum.inr (false,()))
       else
       bindL (r05_Same_l0 n g (s.1,s.2.1,iadd .i64 s.2.2.1 (1:Int),())) (fun a3 =>
        some (Sum.inl ())) fun b4 =>
       some (Sum.inr b4)
      else none
     else none
    else
    some (Sum.inl ())
theorem r05_Same_l0_ok (n:Nat):∀ g,LEntOk Tryz.prog 67 (nSl r05_Same_sg) ⟨0,[.tree (.slice tMatch), .tree (.slice tMatch), .tree (.int .i64)],0,[],[.tree .bool],r05_Same_l0 n g⟩ g
  | 0=>loop_zero' fun _=>rfl
  | g+1=>loop_step' mixed (T:=[]) tabNil tabLNil (r05_Same_l0_ok n g) fun s=>by kernel_rfl
def r05_Same (n:Nat) (x:SgEl r05_Same_sg):Option (RtEl r05_Same_rs×OutEl r05_Same_sg) :=
  bif !(ieq (ilen x.1) (ilen x.2.1)) then
   some ((false,()),((),(),()))
  else
  bindL (r05_Same_l0 n n (x.1,x.2.1,(0:Int),())) (fun a1 =>
   some ((true,()),((),(),()))) fun b2 =>
  some (b2,((),(),()))
abbrev r05_Same_ent (n:Nat):Ent:=⟨67,r05_Same_sg,r05_Same_rs,r05_Same n⟩
theorem r05_Same_ok (n:Nat):EntOk Tryz.prog (r05_Same_ent n):=ent_ok' mixed (T:=[]) tabNil (tabLCons (r05_Same_l0_ok n n) tabLNil) fun x=>by kernel_rfl
abbrev r05_Great_sg:List Sg:=[.tree (.slice tMatch)]
abbrev r05_Great_rs:List Rt:=[.tree .bool]
def r05_Great_l0 (n:Nat):Nat→SgEl [.tree (.slice tMatch), .tree (.int .i64)]→Option (SgEl [] ⊕ SgEl [.tree .bool])
  | 0,_=>none
  | g+1,s =>
    bif ilt s.2.1 (ilen s.1) then
     bif ile (0:Int) s.2.1 then
      bindN (lat s.1 (iN s.2.1)) fun v1 =>
      bif ilt (100:Int) (ssize v1.2.1) then
       some (Sum.inr (true,()))
      else
      bif ile (0:Int) s.2.1 then
       bindN (lat s.1 (iN s.2.1)) fun v2 =>
       bif ilt (100:Int) (ssize v2.2.2.1) then
        some (Sum.inr (true,()))
       else
       bindL (r05_Great_l0 n g (s.1,iadd .i64 s.2.1 (1:Int),())) (fun a3 =>
        some (Sum.inl ())) fun b4 =>
       some (Sum.inr b4)
      else none
     else none
    else
    some (Sum.inl ())
theorem r05_Great_l0_ok (n:Nat):∀ g,LEntOk Tryz.prog 63 (nSl r05_Great_sg) ⟨0,[.tree (.slice tMatch), .tree (.int .i64)],0,[],[.tree .bool],r05_Great_l0 n g⟩ g
  | 0=>loop_zero' fun _=>rfl
  | g+1=>loop_step' mixed (T:=[]) tabNil tabLNil (r05_Great_l0_ok n g) fun s=>by kernel_rfl
def r05_Great (n:Nat) (x:SgEl r05_Great_sg):Option (RtEl r05_Great_rs×OutEl r05_Great_sg) :=
  bif ilt (20:Int) (ilen x.1) then
   some ((true,()),((),()))
  else
  bindL (r05_Great_l0 n n (x.1,(0:Int),())) (fun a1 =>
   some ((false,()),((),()))) fun b2 =>
  some (b2,((),()))
abbrev r05_Great_ent (n:Nat):Ent:=⟨63,r05_Great_sg,r05_Great_rs,r05_Great n⟩
theorem r05_Great_ok (n:Nat):EntOk Tryz.prog (r05_Great_ent n):=ent_ok' mixed (T:=[]) tabNil (tabLCons (r05_Great_l0_ok n n) tabLNil) fun x=>by kernel_rfl
abbrev r06_Fold_sg:List Sg:=[.tree tCell, .tree (.int .i64)]
abbrev r06_Fold_rs:List Rt:=[.tree tCell]
def r06_Fold (n:Nat) (x:SgEl r06_Fold_sg):Option (RtEl r06_Fold_rs×OutEl r06_Fold_sg) :=
  bif ilt x.1.1 (1:Int) then
   some ((((1:Int),(x.2.1,false,()),x.2.1,x.2),()),((),(),()))
  else
  bif ilt x.1.1 (9223372036854775807:Int) then
   bindN (r01_Add n (x.1.2.1,(x.2.1,false,()),())) fun p1 =>
   bif ilt x.2.1 x.1.2.2.1 then
    bif ilt x.1.2.2.2.1 x.2.1 then
     some (((iadd .i64 x.1.1 (1:Int),p1.1.1,x.2.1,x.2),()),((),(),()))
    else
    some (((iadd .i64 x.1.1 (1:Int),p1.1.1,x.2.1,x.1.2.2.2),()),((),(),()))
   else
   bif ilt x.1.2.2.2.1 x.2.1 then
    some (((iadd .i64 x.1.1 (1:Int),p1.1.1,x.1.2.2.1,x.2),()),((),(),()))
   else
   some (((iadd .i64 x.1.1 (1:Int),p1.1.1,x.1.2.2),()),((),(),()))
  else
  bindN (r01_Add n (x.1.2.1,(x.2.1,false,()),())) fun p2 =>
  bif ilt x.2.1 x.1.2.2.1 then
   bif ilt x.1.2.2.2.1 x.2.1 then
    some (((x.1.1,p2.1.1,x.2.1,x.2),()),((),(),()))
   else
   some (((x.1.1,p2.1.1,x.2.1,x.1.2.2.2),()),((),(),()))
  else
  bif ilt x.1.2.2.2.1 x.2.1 then
   some (((x.1.1,p2.1.1,x.1.2.2.1,x.2),()),((),(),()))
  else
  some (((x.1.1,p2.1.1,x.1.2.2),()),((),(),()))
abbrev r06_Fold_ent (n:Nat):Ent:=⟨143,r06_Fold_sg,r06_Fold_rs,r06_Fold n⟩
theorem r06_Fold_ok (n:Nat):EntOk Tryz.prog (r06_Fold_ent n):=ent_ok' mixed (T:=[r01_Add_ent n]) (tabCons (r01_Add_ok n) tabNil) tabLNil fun x=>by kernel_rfl
abbrev r06_Two_sg:List Sg:=[.tree tCell, .tree tCell]
abbrev r06_Two_rs:List Rt:=[.tree tCell]
def r06_Two (n:Nat) (x:SgEl r06_Two_sg):Option (RtEl r06_Two_rs×OutEl r06_Two_sg) :=
  bif ilt x.2.1.1 (1:Int) then
   some ((x.1,()),((),(),()))
  else
  bif ilt x.1.1 (1:Int) then
   some (x.2,((),(),()))
  else
  bif ilt (isub .i64 (9223372036854775807:Int) x.2.1.1) x.1.1 then
   bindN (r01_Add n (x.1.2.1,x.2.1.2.1,())) fun p1 =>
   bif ilt x.2.1.2.2.1 x.1.2.2.1 then
    bif ilt x.1.2.2.2.1 x.2.1.2.2.2.1 then
     some ((((9223372036854775807:Int),p1.1.1,x.2.1.2.2),()),((),(),()))
    else
    some ((((9223372036854775807:Int),p1.1.1,x.2.1.2.2.1,x.1.2.2.2),()),((),(),()))
   else
   bif ilt x.1.2.2.2.1 x.2.1.2.2.2.1 then
    some ((((9223372036854775807:Int),p1.1.1,x.1.2.2.1,x.2.1.2.2.2),()),((),(),()))
   else
   some ((((9223372036854775807:Int),p1.1.1,x.1.2.2),()),((),(),()))
  else
  bindN (r01_Add n (x.1.2.1,x.2.1.2.1,())) fun p2 =>
  bif ilt x.2.1.2.2.1 x.1.2.2.1 then
   bif ilt x.1.2.2.2.1 x.2.1.2.2.2.1 then
    some (((iadd .i64 x.1.1 x.2.1.1,p2.1.1,x.2.1.2.2),()),((),(),()))
   else
   some (((iadd .i64 x.1.1 x.2.1.1,p2.1.1,x.2.1.2.2.1,x.1.2.2.2),()),((),(),()))
  else
  bif ilt x.1.2.2.2.1 x.2.1.2.2.2.1 then
   some (((iadd .i64 x.1.1 x.2.1.1,p2.1.1,x.1.2.2.1,x.2.1.2.2.2),()),((),(),()))
  else
  some (((iadd .i64 x.1.1 x.2.1.1,p2.1.1,x.1.2.2),()),((),(),()))
abbrev r06_Two_ent (n:Nat):Ent:=⟨185,r06_Two_sg,r06_Two_rs,r06_Two n⟩
theorem r06_Two_ok (n:Nat):EntOk Tryz.prog (r06_Two_ent n):=ent_ok' mixed (T:=[r01_Add_ent n]) (tabCons (r01_Add_ok n) tabNil) tabLNil fun x=>by kernel_rfl
abbrev r06_Value_sg:List Sg:=[.tree tCell, .tree (.int .i64)]
abbrev r06_Value_rs:List Rt:=[.tree tSum]
def r06_Value (n:Nat) (x:SgEl r06_Value_sg):Option (RtEl r06_Value_rs×OutEl r06_Value_sg) :=
  bif ieq x.2.1 (1:Int) then
   some (((x.1.1,false,()),()),((),(),()))
  else
  bif ieq x.2.1 (2:Int) then
   some ((x.1.2.1,()),((),(),()))
  else
  bif ieq x.2.1 (3:Int) then
   some (((x.1.2.2.1,false,()),()),((),(),()))
  else
  bif ieq x.2.1 (4:Int) then
   some (((x.1.2.2.2.1,false,()),()),((),(),()))
  else
  some ((((0:Int),false,()),()),((),(),()))
abbrev r06_Value_ent (n:Nat):Ent:=⟨132,r06_Value_sg,r06_Value_rs,r06_Value n⟩
theorem r06_Value_ok (n:Nat):EntOk Tryz.prog (r06_Value_ent n):=ent_ok' mixed (T:=[]) tabNil tabLNil fun x=>by kernel_rfl
abbrev r07_aggs_sg:List Sg:=[]
abbrev r07_aggs_rs:List Rt:=[.tree (.slice .str)]
def r07_aggs (n:Nat) (x:SgEl r07_aggs_sg):Option (RtEl r07_aggs_rs×OutEl r07_aggs_sg) :=
  some (([(⟨#[]⟩:ByteArray),(⟨#[99,111,117,110,116]⟩:ByteArray),(⟨#[115,117,109]⟩:ByteArray),(⟨#[109,105,110]⟩:ByteArray),(⟨#[109,97,120]⟩:ByteArray)],()),())
abbrev r07_aggs_ent (n:Nat):Ent:=⟨156,r07_aggs_sg,r07_aggs_rs,r07_aggs n⟩
theorem r07_aggs_ok (n:Nat):EntOk Tryz.prog (r07_aggs_ent n):=ent_ok' mixed (T:=[]) tabNil tabLNil fun x=>by kernel_rfl
abbrev r07_names_sg:List Sg:=[.tree (.slice .str)]
abbrev r07_names_rs:List Rt:=[.tree (.int .i64)]
def r07_names_l2 (n:Nat):Nat→SgEl [.tree (.slice .str), .tree (.int .i64), .tree (.int .i64)]→Option (SgEl [.tree (.slice .str), .tree (.int .i64)] ⊕ SgEl [.tree (.int .i64)])
  | 0,_=>none
  | g+1,s =>
    bif ilt s.2.2.1 s.2.1 then
     bif ile (0:Int) s.2.2.1 then
      bindN (lat s.1 (iN s.2.2.1)) fun v1 =>
      bif ile (0:Int) s.2.1 then
       bindN (lat s.1 (iN s.2.1)) fun v2 =>
       bif seq v1 v2 then
        some (Sum.inr ((5:Int),()))
       else
       bindL (r07_names_l2 n g (s.1,s.2.1,iadd .i64 s.2.2.1 (1:Int),())) (fun a3 =>
        some (Sum.inl a3)) fun b4 =>
       some (Sum.inr b4)
      else none
     else none
    else
    some (Sum.inl (s.1,s.2.1,()))
theorem r07_names_l2_ok (n:Nat):∀ g,LEntOk Tryz.prog 137 (nSl r07_names_sg) ⟨2,[.tree (.slice .str), .tree (.int .i64), .tree (.int .i64)],4,[.tree (.slice .str), .tree (.int .i64)],[.tree (.int .i64)],r07_names_l2 n g⟩ g
  | 0=>loop_zero' fun _=>rfl
  | g+1=>loop_step' mixed (T:=[r02_Name_ent n]) (tabCons (r02_Name_ok n) tabNil) tabLNil (r07_names_l2_ok n g) fun s=>by kernel_rfl
def r07_names_l1 (n:Nat):Nat→SgEl [.tree (.slice .str), .tree (.int .i64)]→Option (SgEl [] ⊕ SgEl [.tree (.int .i64)])
  | 0,_=>none
  | g+1,s =>
    bif ilt s.2.1 (ilen s.1) then
     bindL (r07_names_l2 n n (s.1,s.2.1,(0:Int),())) (fun a1 =>
      bindL (r07_names_l1 n g (a1.1,iadd .i64 a1.2.1 (1:Int),())) (fun a3 =>
       some (Sum.inl ())) fun b4 =>
      some (Sum.inr b4)) fun b2 =>
     some (Sum.inr b2)
    else
    some (Sum.inl ())
theorem r07_names_l1_ok (n:Nat):∀ g,LEntOk Tryz.prog 137 (nSl r07_names_sg) ⟨1,[.tree (.slice .str), .tree (.int .i64)],2,[],[.tree (.int .i64)],r07_names_l1 n g⟩ g
  | 0=>loop_zero' fun _=>rfl
  | g+1=>loop_step' mixed (T:=[r02_Name_ent n]) (tabCons (r02_Name_ok n) tabNil) (tabLCons (r07_names_l2_ok n n) tabLNil) (r07_names_l1_ok n g) fun s=>by kernel_rfl
def r07_names_l0 (n:Nat):Nat→SgEl [.tree (.slice .str), .tree (.int .i64)]→Option (SgEl [.tree (.slice .str)] ⊕ SgEl [.tree (.int .i64)])
  | 0,_=>none
  | g+1,s =>
    bif ilt s.2.1 (ilen s.1) then
     bif ile (0:Int) s.2.1 then
      bindN (lat s.1 (iN s.2.1)) fun v1 =>
      bindN (r02_Name n (v1,())) fun p2 =>
      bif !p2.1.1 then
       some (Sum.inr ((2:Int),()))
      else
      bindL (r07_names_l0 n g (s.1,iadd .i64 s.2.1 (1:Int),())) (fun a3 =>
       some (Sum.inl a3)) fun b4 =>
      some (Sum.inr b4)
     else none
    else
    some (Sum.inl (s.1,()))
theorem r07_names_l0_ok (n:Nat):∀ g,LEntOk Tryz.prog 137 (nSl r07_names_sg) ⟨0,[.tree (.slice .str), .tree (.int .i64)],0,[.tree (.slice .str)],[.tree (.int .i64)],r07_names_l0 n g⟩ g
  | 0=>loop_zero' fun _=>rfl
  | g+1=>loop_step' mixed (T:=[r02_Name_ent n]) (tabCons (r02_Name_ok n) tabNil) (tabLCons (r07_names_l1_ok n n) (tabLCons (r07_names_l2_ok n n) tabLNil)) (r07_names_l0_ok n g) fun s=>by kernel_rfl
def r07_names (n:Nat) (x:SgEl r07_names_sg):Option (RtEl r07_names_rs×OutEl r07_names_sg) :=
  bindL (r07_names_l0 n n (x.1,(0:Int),())) (fun a1 =>
   bif ilt (4:Int) (ilen a1.1) then
    some (((4:Int),()),((),()))
   else
   bindL (r07_names_l1 n n (a1.1,(0:Int),())) (fun a3 =>
    some (((0:Int),()),((),()))) fun b4 =>
   some (b4,((),()))) fun b2 =>
  some (b2,((),()))
abbrev r07_names_ent (n:Nat):Ent:=⟨137,r07_names_sg,r07_names_rs,r07_names n⟩
theorem r07_names_ok (n:Nat):EntOk Tryz.prog (r07_names_ent n):=ent_ok' mixed (T:=[r02_Name_ent n]) (tabCons (r02_Name_ok n) tabNil) (tabLCons (r07_names_l0_ok n n) (tabLCons (r07_names_l1_ok n n) (tabLCons (r07_names_l2_ok n n) tabLNil))) fun x=>by kernel_rfl
abbrev r07_Right_sg:List Sg:=[.tree tQuery]
abbrev r07_Right_rs:List Rt:=[.tree .bool]
def r07_Right (n:Nat) (x:SgEl r07_Right_sg):Option (RtEl r07_Right_rs×OutEl r07_Right_sg) :=
  bif ile (1:Int) x.1.1 then
   bif ile x.1.1 (4:Int) then
    bindN (r02_Name n (x.1.2.1,())) fun p1 =>
    bif p1.1.1 then
     bindN (r05_Right n (x.1.2.2.1,())) fun p2 =>
     bif p2.1.1 then
      bindN (r07_names n x.1.2.2.2) fun p3 =>
      some ((ieq p3.1.1 (0:Int),()),((),()))
     else
     some ((false,()),((),()))
    else
    some ((false,()),((),()))
   else
   some ((false,()),((),()))
  else
  some ((false,()),((),()))
abbrev r07_Right_ent (n:Nat):Ent:=⟨81,r07_Right_sg,r07_Right_rs,r07_Right n⟩
theorem r07_Right_ok (n:Nat):EntOk Tryz.prog (r07_Right_ent n):=ent_ok' mixed (T:=[r02_Name_ent n,r05_Right_ent n,r07_names_ent n]) (tabCons (r02_Name_ok n) (tabCons (r05_Right_ok n) (tabCons (r07_names_ok n) tabNil))) tabLNil fun x=>by kernel_rfl
abbrev r07_agg_sg:List Sg:=[.tree .str]
abbrev r07_agg_rs:List Rt:=[.tree (.int .i64)]
def r07_agg_l0 (n:Nat):Nat→SgEl [.tree .str, .tree (.slice .str), .tree (.int .i64)]→Option (SgEl [] ⊕ SgEl [.tree (.int .i64)])
  | 0,_=>none
  | g+1,s =>
    bif ilt s.2.2.1 (ilen s.2.1) then
     bif ile (0:Int) s.2.2.1 then
      bindN (lat s.2.1 (iN s.2.2.1)) fun v1 =>
      bif seq v1 s.1 then
       some (Sum.inr s.2.2)
      else
      bindL (r07_agg_l0 n g (s.1,s.2.1,iadd .i64 s.2.2.1 (1:Int),())) (fun a2 =>
       some (Sum.inl ())) fun b3 =>
      some (Sum.inr b3)
     else none
    else
    some (Sum.inl ())
theorem r07_agg_l0_ok (n:Nat):∀ g,LEntOk Tryz.prog 133 (nSl r07_agg_sg) ⟨0,[.tree .str, .tree (.slice .str), .tree (.int .i64)],0,[],[.tree (.int .i64)],r07_agg_l0 n g⟩ g
  | 0=>loop_zero' fun _=>rfl
  | g+1=>loop_step' mixed (T:=[r07_aggs_ent n]) (tabCons (r07_aggs_ok n) tabNil) tabLNil (r07_agg_l0_ok n g) fun s=>by kernel_rfl
def r07_agg (n:Nat) (x:SgEl r07_agg_sg):Option (RtEl r07_agg_rs×OutEl r07_agg_sg) :=
  bindN (r07_aggs n ()) fun p1 =>
  bindL (r07_agg_l0 n n (x.1,p1.1.1,(1:Int),())) (fun a2 =>
   some (((0:Int),()),((),()))) fun b3 =>
  some (b3,((),()))
abbrev r07_agg_ent (n:Nat):Ent:=⟨133,r07_agg_sg,r07_agg_rs,r07_agg n⟩
theorem r07_agg_ok (n:Nat):EntOk Tryz.prog (r07_agg_ent n):=ent_ok' mixed (T:=[r07_aggs_ent n]) (tabCons (r07_aggs_ok n) tabNil) (tabLCons (r07_agg_l0_ok n n) tabLNil) fun x=>by kernel_rfl
abbrev r07_Parse_sg:List Sg:=[.tree .str]
abbrev r07_Parse_rs:List Rt:=[.tree tQuery, .tree (.int .i64)]
def r07_Parse (n:Nat) (x:SgEl r07_Parse_sg):Option (RtEl r07_Parse_rs×OutEl r07_Parse_sg) :=
  bindN (r02_Fields n x) fun p1 =>
  bif !(ieq (ilen p1.1.1) (2:Int)) then
   bif !(ieq (ilen p1.1.1) (4:Int)) then
    some ((((0:Int),(⟨#[]⟩:ByteArray),[],[],()),(2:Int),()),((),()))
   else
   bif ile (0:Int) (2:Int) then
    bindN (lat p1.1.1 (iN (2:Int))) fun v2 =>
    bif !(seq v2 (⟨#[98,121]⟩:ByteArray)) then
     some ((((0:Int),(⟨#[]⟩:ByteArray),[],[],()),(2:Int),()),((),()))
    else
    bif ile (0:Int) (0:Int) then
     bindN (lat p1.1.1 (iN (0:Int))) fun v3 =>
     bindN (r07_agg n (v3,())) fun p4 =>
     bif ieq p4.1.1 (0:Int) then
      some ((((0:Int),(⟨#[]⟩:ByteArray),[],[],()),(2:Int),()),((),()))
     else
     bif ile (0:Int) (1:Int) then
      bindN (lat p1.1.1 (iN (1:Int))) fun v5 =>
      bindN (r04_Cut n (v5,())) fun p6 =>
      bif !p6.1.2.2.1 then
       some ((((0:Int),(⟨#[]⟩:ByteArray),[],[],()),(2:Int),()),((),()))
      else
      bindN (r02_Name n (p6.1.1,())) fun p7 =>
      bif !p7.1.1 then
       some ((((0:Int),(⟨#[]⟩:ByteArray),[],[],()),(2:Int),()),((),()))
      else
      bindN (r05_Parse n (p6.1.2.1,())) fun p8 =>
      bif !(ieq p8.1.2.1 (0:Int)) then
       some ((((0:Int),(⟨#[]⟩:ByteArray),[],[],()),p8.1.2),((),()))
      else
      bif ieq (ilen p1.1.1) (4:Int) then
       bif ile (0:Int) (3:Int) then
        bindN (lat p1.1.1 (iN (3:Int))) fun v9 =>
        bindN (r02_Split n (v9,(44:Int),())) fun p10 =>
        bindN (r07_names n p10.1) fun p11 =>
        bif !(ieq p11.1.1 (0:Int)) then
         some ((((0:Int),(⟨#[]⟩:ByteArray),[],[],()),p11.1),((),()))
        else
        some (((p4.1.1,p6.1.1,p8.1.1,p10.1),(0:Int),()),((),()))
       else none
      else
      bindN (r07_names n ([],())) fun p12 =>
      bif !(ieq p12.1.1 (0:Int)) then
       some ((((0:Int),(⟨#[]⟩:ByteArray),[],[],()),p12.1),((),()))
      else
      some (((p4.1.1,p6.1.1,p8.1.1,[],()),(0:Int),()),((),()))
     else none
    else none
   else none
  else
  bif ile (0:Int) (0:Int) then
   bindN (lat p1.1.1 (iN (0:Int))) fun v13 =>
   bindN (r07_agg n (v13,())) fun p14 =>
   bif ieq p14.1.1 (0:Int) then
    some ((((0:Int),(⟨#[]⟩:ByteArray),[],[],()),(2:Int),()),((),()))
   else
   bif ile (0:Int) (1:Int) then
    bindN (lat p1.1.1 (iN (1:Int))) fun v15 =>
    bindN (r04_Cut n (v15,())) fun p16 =>
    bif !p16.1.2.2.1 then
     some ((((0:Int),(⟨#[]⟩:ByteArray),[],[],()),(2:Int),()),((),()))
    else
    bindN (r02_Name n (p16.1.1,())) fun p17 =>
    bif !p17.1.1 then
     some ((((0:Int),(⟨#[]⟩:ByteArray),[],[],()),(2:Int),()),((),()))
    else
    bindN (r05_Parse n (p16.1.2.1,())) fun p18 =>
    bif !(ieq p18.1.2.1 (0:Int)) then
     some ((((0:Int),(⟨#[]⟩:ByteArray),[],[],()),p18.1.2),((),()))
    else
    bif ieq (ilen p1.1.1) (4:Int) then
     bif ile (0:Int) (3:Int) then
      bindN (lat p1.1.1 (iN (3:Int))) fun v19 =>
      bindN (r02_Split n (v19,(44:Int),())) fun p20 =>
      bindN (r07_names n p20.1) fun p21 =>
      bif !(ieq p21.1.1 (0:Int)) then
       some ((((0:Int),(⟨#[]⟩:ByteArray),[],[],()),p21.1),((),()))
      else
      some (((p14.1.1,p16.1.1,p18.1.1,p20.1),(0:Int),()),((),()))
     else none
    else
    bindN (r07_names n ([],())) fun p22 =>
    bif !(ieq p22.1.1 (0:Int)) then
     some ((((0:Int),(⟨#[]⟩:ByteArray),[],[],()),p22.1),((),()))
    else
    some (((p14.1.1,p16.1.1,p18.1.1,[],()),(0:Int),()),((),()))
   else none
  else none
abbrev r07_Parse_ent (n:Nat):Ent:=⟨61,r07_Parse_sg,r07_Parse_rs,r07_Parse n⟩
theorem r07_Parse_ok (n:Nat):EntOk Tryz.prog (r07_Parse_ent n):=ent_ok' mixed (T:=[r02_Fields_ent n,r07_agg_ent n,r04_Cut_ent n,r02_Name_ent n,r05_Parse_ent n,r02_Split_ent n,r07_names_ent n]) (tabCons (r02_Fields_ok n) (tabCons (r07_agg_ok n) (tabCons (r04_Cut_ok n) (tabCons (r02_Name_ok n) (tabCons (r05_Parse_ok n) (tabCons (r02_Split_ok n) (tabCons (r07_names_ok n) tabNil))))))) tabLNil fun x=>by kernel_rfl
abbrev r07_Fits_sg:List Sg:=[.tree tQuery, .tree tKey]
abbrev r07_Fits_rs:List Rt:=[.tree .bool]
def r07_Fits (n:Nat) (x:SgEl r07_Fits_sg):Option (RtEl r07_Fits_rs×OutEl r07_Fits_sg) :=
  bif seq x.2.1.1 x.1.2.1 then
   bindN (r05_Fits n (x.2.1.2.1,x.1.2.2.1,())) fun p1 =>
   some (p1.1,((),(),()))
  else
  some ((false,()),((),(),()))
abbrev r07_Fits_ent (n:Nat):Ent:=⟨129,r07_Fits_sg,r07_Fits_rs,r07_Fits n⟩
theorem r07_Fits_ok (n:Nat):EntOk Tryz.prog (r07_Fits_ent n):=ent_ok' mixed (T:=[r05_Fits_ent n]) (tabCons (r05_Fits_ok n) tabNil) tabLNil fun x=>by kernel_rfl
abbrev r07_Group_sg:List Sg:=[.tree tQuery, .tree tKey]
abbrev r07_Group_rs:List Rt:=[.tree .str]
def r07_Group (n:Nat) (x:SgEl r07_Group_sg):Option (RtEl r07_Group_rs×OutEl r07_Group_sg) :=
  bindN (r03_Only n (x.2.1.2.1,x.1.2.2.2)) fun p1 =>
  bindN (r03_Text n p1.1) fun p2 =>
  some (p2.1,((),(),()))
abbrev r07_Group_ent (n:Nat):Ent:=⟨131,r07_Group_sg,r07_Group_rs,r07_Group n⟩
theorem r07_Group_ok (n:Nat):EntOk Tryz.prog (r07_Group_ent n):=ent_ok' mixed (T:=[r03_Only_ent n,r03_Text_ent n]) (tabCons (r03_Only_ok n) (tabCons (r03_Text_ok n) tabNil)) tabLNil fun x=>by kernel_rfl
abbrev r07_Same_sg:List Sg:=[.tree tQuery, .tree tQuery]
abbrev r07_Same_rs:List Rt:=[.tree .bool]
def r07_Same (n:Nat) (x:SgEl r07_Same_sg):Option (RtEl r07_Same_rs×OutEl r07_Same_sg) :=
  bif ieq x.1.1 x.2.1.1 then
   bif seq x.1.2.1 x.2.1.2.1 then
    bindN (r05_Same n (x.1.2.2.1,x.2.1.2.2.1,())) fun p1 =>
    bif p1.1.1 then
     bindN (r02_Same n (x.1.2.2.2.1,x.2.1.2.2.2)) fun p2 =>
     some (p2.1,((),(),()))
    else
    some ((false,()),((),(),()))
   else
   some ((false,()),((),(),()))
  else
  some ((false,()),((),(),()))
abbrev r07_Same_ent (n:Nat):Ent:=⟨30,r07_Same_sg,r07_Same_rs,r07_Same n⟩
theorem r07_Same_ok (n:Nat):EntOk Tryz.prog (r07_Same_ent n):=ent_ok' mixed (T:=[r05_Same_ent n,r02_Same_ent n]) (tabCons (r05_Same_ok n) (tabCons (r02_Same_ok n) tabNil)) tabLNil fun x=>by kernel_rfl
abbrev r07_Great_sg:List Sg:=[.tree tQuery]
abbrev r07_Great_rs:List Rt:=[.tree .bool]
def r07_Great_l0 (n:Nat):Nat→SgEl [.boxr tQuery, .tree (.int .i64)]→Option (SgEl [] ⊕ SgEl [.tree .bool])
  | 0,_=>none
  | g+1,s =>
    bif ilt s.2.1 (ilen s.1.2.2.2.1) then
     bif ile (0:Int) s.2.1 then
      bindN (lat s.1.2.2.2.1 (iN s.2.1)) fun v1 =>
      bif ilt (100:Int) (ssize v1) then
       some (Sum.inr (true,()))
      else
      bindL (r07_Great_l0 n g (s.1,iadd .i64 s.2.1 (1:Int),())) (fun a2 =>
       some (Sum.inl ())) fun b3 =>
      some (Sum.inr b3)
     else none
    else
    some (Sum.inl ())
theorem r07_Great_l0_ok (n:Nat):∀ g,LEntOk Tryz.prog 19 (nSl r07_Great_sg) ⟨0,[.boxr tQuery, .tree (.int .i64)],0,[],[.tree .bool],r07_Great_l0 n g⟩ g
  | 0=>loop_zero' fun _=>rfl
  | g+1=>loop_step' mixed (T:=[r05_Great_ent n]) (tabCons (r05_Great_ok n) tabNil) tabLNil (r07_Great_l0_ok n g) fun s=>by kernel_rfl
def r07_Great (n:Nat) (x:SgEl r07_Great_sg):Option (RtEl r07_Great_rs×OutEl r07_Great_sg) :=
  bif ilt (200:Int) (ssize x.1.2.1) then
   some ((true,()),((),()))
  else
  bindN (r05_Great n (x.1.2.2.1,())) fun p1 =>
  bif p1.1.1 then
   some ((true,()),((),()))
  else
  bif ilt (20:Int) (ilen x.1.2.2.2.1) then
   some ((true,()),((),()))
  else
  bindL (r07_Great_l0 n n (x.1,(0:Int),())) (fun a2 =>
   some ((false,()),((),()))) fun b3 =>
  some (b3,((),()))
abbrev r07_Great_ent (n:Nat):Ent:=⟨19,r07_Great_sg,r07_Great_rs,r07_Great n⟩
theorem r07_Great_ok (n:Nat):EntOk Tryz.prog (r07_Great_ent n):=ent_ok' mixed (T:=[r05_Great_ent n]) (tabCons (r05_Great_ok n) tabNil) (tabLCons (r07_Great_l0_ok n n) tabLNil) fun x=>by kernel_rfl
abbrev r08_sorted_sg:List Sg:=[.tree (.slice tItem)]
abbrev r08_sorted_rs:List Rt:=[.tree (.slice tItem)]
def r08_sorted_l1 (n:Nat):Nat→SgEl [.tree (.slice tItem), .own tItem, .tree (.int .i64), .tree (.int .i64)]→Option (SgEl [.tree (.slice tItem), .own tItem, .tree (.int .i64), .tree (.int .i64)] ⊕ SgEl [])
  | 0,_=>none
  | g+1,s =>
    bif ilt s.2.2.2.1 (ilen s.2.1) then
     bif ile (0:Int) s.2.2.2.1 then
      bindN (lat s.2.1 (iN s.2.2.2.1)) fun v1 =>
      bindN (lat s.2.1 (iN s.2.2.2.1)) fun v2 =>
      bif ile (0:Int) s.2.2.1 then
       bindN (lat s.1 (iN s.2.2.1)) fun v3 =>
       bif slt v2.2.1 v3.2.1 || seq v2.2.1 v3.2.1 then
        bindL (r08_sorted_l1 n g (s.1,s.2.1,s.2.2.1,iadd .i64 s.2.2.2.1 (1:Int),())) (fun a4 =>
         some (Sum.inl a4)) fun b5 =>
        some (Sum.inr ())
       else
       some (Sum.inl s)
      else none
     else none
    else
    some (Sum.inl s)
theorem r08_sorted_l1_ok (n:Nat):∀ g,LEntOk Tryz.prog 127 (nSl r08_sorted_sg) ⟨1,[.tree (.slice tItem), .own tItem, .tree (.int .i64), .tree (.int .i64)],2,[.tree (.slice tItem), .own tItem, .tree (.int .i64), .tree (.int .i64)],[],r08_sorted_l1 n g⟩ g
  | 0=>loop_zero' fun _=>rfl
  | g+1=>loop_step' mixed (T:=[]) tabNil tabLNil (r08_sorted_l1_ok n g) fun s=>by kernel_rfl
def r08_sorted_l0 (n:Nat):Nat→SgEl [.tree (.slice tItem), .own tItem, .tree (.int .i64)]→Option (SgEl [.own tItem] ⊕ SgEl [])
  | 0,_=>none
  | g+1,s =>
    bif ilt s.2.2.1 (ilen s.1) then
     bindL (r08_sorted_l1 n n (s.1,s.2.1,s.2.2.1,(0:Int),())) (fun a1 =>
      bif ile (0:Int) a1.2.2.2.1 then
       bif ile a1.2.2.2.1 (ilen a1.2.1) then
        bif ile (ilen a1.2.1) (ilen a1.2.1) then
         bif roomA ([]:List (El tItem)) (win a1.2.1 (iN a1.2.2.2.1) (iN (ilen a1.2.1) - iN a1.2.2.2.1)) 64 then
          bif ile (0:Int) (0:Int) then
           bif ile (0:Int) a1.2.2.2.1 then
            bif ile a1.2.2.2.1 (ilen a1.2.1) then
             bif ile (0:Int) a1.2.2.1 then
              bindN (lat a1.1 (iN a1.2.2.1)) fun v3 =>
              bif roomA (win a1.2.1 0 (iN a1.2.2.2.1 - iN (0:Int))) [v3] 64 then
               bif roomA (app (win a1.2.1 0 (iN a1.2.2.2.1 - iN (0:Int))) [v3]) (app ([]:List (El tItem)) (win a1.2.1 (iN a1.2.2.2.1) (iN (ilen a1.2.1) - iN a1.2.2.2.1))) 64 then
                bindL (r08_sorted_l0 n g (a1.1,app (app (win a1.2.1 0 (iN a1.2.2.2.1 - iN (0:Int))) [v3]) (app ([]:List (El tItem)) (win a1.2.1 (iN a1.2.2.2.1) (iN (ilen a1.2.1) - iN a1.2.2.2.1))),iadd .i64 a1.2.2.1 (1:Int),())) (fun a4 =>
                 some (Sum.inl a4)) fun b5 =>
                some (Sum.inr ())
               else none
              else none
             else none
            else none
           else none
          else none
         else none
        else none
       else none
      else none) fun b2 =>
     some (Sum.inr ())
    else
    some (Sum.inl (s.2.1,()))
theorem r08_sorted_l0_ok (n:Nat):∀ g,LEntOk Tryz.prog 127 (nSl r08_sorted_sg) ⟨0,[.tree (.slice tItem), .own tItem, .tree (.int .i64)],0,[.own tItem],[],r08_sorted_l0 n g⟩ g
  | 0=>loop_zero' fun _=>rfl
  | g+1=>loop_step' mixed (T:=[]) tabNil (tabLCons (r08_sorted_l1_ok n n) tabLNil) (r08_sorted_l0_ok n g) fun s=>by kernel_rfl
def r08_sorted (n:Nat) (x:SgEl r08_sorted_sg):Option (RtEl r08_sorted_rs×OutEl r08_sorted_sg) :=
  bindL (r08_sorted_l0 n n (x.1,[],(0:Int),())) (fun a1 =>
   some (a1,((),()))) fun b2 =>
  none
abbrev r08_sorted_ent (n:Nat):Ent:=⟨127,r08_sorted_sg,r08_sorted_rs,r08_sorted n⟩
theorem r08_sorted_ok (n:Nat):EntOk Tryz.prog (r08_sorted_ent n):=ent_ok' mixed (T:=[]) tabNil (tabLCons (r08_sorted_l0_ok n n) (tabLCons (r08_sorted_l1_ok n n) tabLNil)) fun x=>by kernel_rfl
abbrev r08_into_sg:List Sg:=[.ownx tItem, .tree tItem]
abbrev r08_into_rs:List Rt:=[.own tItem]
def r08_into_l0 (n:Nat):Nat→SgEl [.own tItem, .boxr tItem, .tree (.int .i64)]→Option (SgEl [.own tItem, .boxr tItem, .tree (.int .i64)] ⊕ SgEl [])
  | 0,_=>none
  | g+1,s =>
    bif ilt s.2.2.1 (ilen s.1) then
     bif ile (0:Int) s.2.2.1 then
      bindN (lat s.1 (iN s.2.2.1)) fun v1 =>
      bindN (lat s.1 (iN s.2.2.1)) fun v2 =>
      bif ilt v2.1 s.2.1.1 then
       bindL (r08_into_l0 n g (s.1,s.2.1,iadd .i64 s.2.2.1 (1:Int),())) (fun a3 =>
        some (Sum.inl a3)) fun b4 =>
       some (Sum.inr ())
      else
      bif ile (0:Int) s.2.2.1 then
       bindN (lat s.1 (iN s.2.2.1)) fun v5 =>
       bindN (lat s.1 (iN s.2.2.1)) fun v6 =>
       bif ieq v6.1 s.2.1.1 then
        bif ile (0:Int) s.2.2.1 then
         bindN (lat s.1 (iN s.2.2.1)) fun v7 =>
         bindN (lat s.1 (iN s.2.2.1)) fun v8 =>
         bif slt v8.2.1 s.2.1.2.1 then
          bindL (r08_into_l0 n g (s.1,s.2.1,iadd .i64 s.2.2.1 (1:Int),())) (fun a9 =>
           some (Sum.inl a9)) fun b10 =>
          some (Sum.inr ())
         else
         some (Sum.inl s)
        else none
       else
       some (Sum.inl s)
      else none
     else none
    else
    some (Sum.inl s)
theorem r08_into_l0_ok (n:Nat):∀ g,LEntOk Tryz.prog 130 (nSl r08_into_sg) ⟨0,[.own tItem, .boxr tItem, .tree (.int .i64)],0,[.own tItem, .boxr tItem, .tree (.int .i64)],[],r08_into_l0 n g⟩ g
  | 0=>loop_zero' fun _=>rfl
  | g+1=>loop_step' mixed (T:=[r06_Two_ent n]) (tabCons (r06_Two_ok n) tabNil) tabLNil (r08_into_l0_ok n g) fun s=>by kernel_rfl
def r08_into (n:Nat) (x:SgEl r08_into_sg):Option (RtEl r08_into_rs×OutEl r08_into_sg) :=
  bindL (r08_into_l0 n n (x.1,x.2.1,(0:Int),())) (fun a1 =>
   bif ilt a1.2.2.1 (ilen a1.1) then
    bif ile (0:Int) a1.2.2.1 then
     bindN (lat a1.1 (iN a1.2.2.1)) fun v3 =>
     bindN (lat a1.1 (iN a1.2.2.1)) fun v4 =>
     bif ieq v4.1 a1.2.1.1 then
      bif ile (0:Int) a1.2.2.1 then
       bindN (lat a1.1 (iN a1.2.2.1)) fun v5 =>
       bindN (lat a1.1 (iN a1.2.2.1)) fun v6 =>
       bif seq v6.2.1 a1.2.1.2.1 then
        bif ile (0:Int) a1.2.2.1 then
         bindN (lat a1.1 (iN a1.2.2.1)) fun v7 =>
         bindN (lat a1.1 (iN a1.2.2.1)) fun v8 =>
         bindN (r06_Two n (v8.2.2.1,a1.2.1.2.2)) fun p9 =>
         bif ile (0:Int) a1.2.2.1 then
          bindN (lat a1.1 (iN a1.2.2.1)) fun v10 =>
          bindN (lat a1.1 (iN a1.2.2.1)) fun v11 =>
          some ((lput a1.1 (iN a1.2.2.1) (v11.1,v11.2.1,p9.1),()),((),(),()))
         else none
        else none
       else
       bif ile (0:Int) a1.2.2.1 then
        bif ile a1.2.2.1 (ilen a1.1) then
         bif ile (ilen a1.1) (ilen a1.1) then
          bif roomA ([]:List (El tItem)) (win a1.1 (iN a1.2.2.1) (iN (ilen a1.1) - iN a1.2.2.1)) 64 then
           bif ile (0:Int) (0:Int) then
            bif ile (0:Int) a1.2.2.1 then
             bif ile a1.2.2.1 (ilen a1.1) then
              bif roomA (win a1.1 0 (iN a1.2.2.1 - iN (0:Int))) [a1.2.1] 64 then
               bif roomA (app (win a1.1 0 (iN a1.2.2.1 - iN (0:Int))) [a1.2.1]) (app ([]:List (El tItem)) (win a1.1 (iN a1.2.2.1) (iN (ilen a1.1) - iN a1.2.2.1))) 64 then
                some ((app (app (win a1.1 0 (iN a1.2.2.1 - iN (0:Int))) [a1.2.1]) (app ([]:List (El tItem)) (win a1.1 (iN a1.2.2.1) (iN (ilen a1.1) - iN a1.2.2.1))),()),((),(),()))
               else none
              else none
             else none
            else none
           else none
          else none
         else none
        else none
       else none
      else none
     else
     bif ile (0:Int) a1.2.2.1 then
      bif ile a1.2.2.1 (ilen a1.1) then
       bif ile (ilen a1.1) (ilen a1.1) then
        bif roomA ([]:List (El tItem)) (win a1.1 (iN a1.2.2.1) (iN (ilen a1.1) - iN a1.2.2.1)) 64 then
         bif ile (0:Int) (0:Int) then
          bif ile (0:Int) a1.2.2.1 then
           bif ile a1.2.2.1 (ilen a1.1) then
            bif roomA (win a1.1 0 (iN a1.2.2.1 - iN (0:Int))) [a1.2.1] 64 then
             bif roomA (app (win a1.1 0 (iN a1.2.2.1 - iN (0:Int))) [a1.2.1]) (app ([]:List (El tItem)) (win a1.1 (iN a1.2.2.1) (iN (ilen a1.1) - iN a1.2.2.1))) 64 then
              some ((app (app (win a1.1 0 (iN a1.2.2.1 - iN (0:Int))) [a1.2.1]) (app ([]:List (El tItem)) (win a1.1 (iN a1.2.2.1) (iN (ilen a1.1) - iN a1.2.2.1))),()),((),(),()))
             else none
            else none
           else none
          else none
         else none
        else none
       else none
      else none
     else none
    else none
   else
   bif ile (0:Int) a1.2.2.1 then
    bif ile a1.2.2.1 (ilen a1.1) then
     bif ile (ilen a1.1) (ilen a1.1) then
      bif roomA ([]:List (El tItem)) (win a1.1 (iN a1.2.2.1) (iN (ilen a1.1) - iN a1.2.2.1)) 64 then
       bif ile (0:Int) (0:Int) then
        bif ile (0:Int) a1.2.2.1 then
         bif ile a1.2.2.1 (ilen a1.1) then
          bif roomA (win a1.1 0 (iN a1.2.2.1 - iN (0:Int))) [a1.2.1] 64 then
           bif roomA (app (win a1.1 0 (iN a1.2.2.1 - iN (0:Int))) [a1.2.1]) (app ([]:List (El tItem)) (win a1.1 (iN a1.2.2.1) (iN (ilen a1.1) - iN a1.2.2.1))) 64 then
            some ((app (app (win a1.1 0 (iN a1.2.2.1 - iN (0:Int))) [a1.2.1]) (app ([]:List (El tItem)) (win a1.1 (iN a1.2.2.1) (iN (ilen a1.1) - iN a1.2.2.1))),()),((),(),()))
           else none
          else none
         else none
        else none
       else none
      else none
     else none
    else none
   else none) fun b2 =>
  none
abbrev r08_into_ent (n:Nat):Ent:=⟨130,r08_into_sg,r08_into_rs,r08_into n⟩
theorem r08_into_ok (n:Nat):EntOk Tryz.prog (r08_into_ent n):=ent_ok' mixed (T:=[r06_Two_ent n]) (tabCons (r06_Two_ok n) tabNil) (tabLCons (r08_into_l0_ok n n) tabLNil) fun x=>by kernel_rfl
abbrev r08_Answer_sg:List Sg:=[.tree tQuery, .tree (.slice tItem)]
abbrev r08_Answer_rs:List Rt:=[.tree (.slice tRow)]
def r08_Answer_l1 (n:Nat):Nat→SgEl [.boxr tQuery, .own tItem, .own tRow, .tree (.int .i64)]→Option (SgEl [.own tRow] ⊕ SgEl [])
  | 0,_=>none
  | g+1,s =>
    bif ilt s.2.2.2.1 (ilen s.2.1) then
     bif ile (0:Int) s.2.2.2.1 then
      bindN (lat s.2.1 (iN s.2.2.2.1)) fun v1 =>
      bindN (lat s.2.1 (iN s.2.2.2.1)) fun v2 =>
      bif ile (0:Int) s.2.2.2.1 then
       bindN (lat s.2.1 (iN s.2.2.2.1)) fun v3 =>
       bindN (lat s.2.1 (iN s.2.2.2.1)) fun v4 =>
       bif ile (0:Int) s.2.2.2.1 then
        bindN (lat s.2.1 (iN s.2.2.2.1)) fun v5 =>
        bindN (lat s.2.1 (iN s.2.2.2.1)) fun v6 =>
        bindN (r06_Value n (v6.2.2.1,s.1.1,())) fun p7 =>
        bif roomA s.2.2.1 [(v2.1,v4.2.1,p7.1)] 40 then
         bindL (r08_Answer_l1 n g (s.1,s.2.1,app s.2.2.1 [(v2.1,v4.2.1,p7.1)],iadd .i64 s.2.2.2.1 (1:Int),())) (fun a8 =>
          some (Sum.inl a8)) fun b9 =>
         some (Sum.inr ())
        else none
       else none
      else none
     else none
    else
    some (Sum.inl (s.2.2.1,()))
theorem r08_Answer_l1_ok (n:Nat):∀ g,LEntOk Tryz.prog 60 (nSl r08_Answer_sg) ⟨1,[.boxr tQuery, .own tItem, .own tRow, .tree (.int .i64)],2,[.own tRow],[],r08_Answer_l1 n g⟩ g
  | 0=>loop_zero' fun _=>rfl
  | g+1=>loop_step' mixed (T:=[r07_Right_ent n,r08_sorted_ent n,r04_Parse_ent n,r04_Text_ent n,r07_Fits_ent n,r07_Group_ent n,r08_into_ent n,r06_Value_ent n]) (tabCons (r07_Right_ok n) (tabCons (r08_sorted_ok n) (tabCons (r04_Parse_ok n) (tabCons (r04_Text_ok n) (tabCons (r07_Fits_ok n) (tabCons (r07_Group_ok n) (tabCons (r08_into_ok n) (tabCons (r06_Value_ok n) tabNil)))))))) tabLNil (r08_Answer_l1_ok n g) fun s=>by kernel_rfl
def r08_Answer_l0 (n:Nat):Nat→SgEl [.boxr tQuery, .own tItem, .tree (.slice tItem), .tree (.int .i64)]→Option (SgEl [.boxr tQuery, .own tItem] ⊕ SgEl [])
  | 0,_=>none
  | g+1,s =>
    bif ilt s.2.2.2.1 (ilen s.2.2.1) then
     bif ile (0:Int) s.2.2.2.1 then
      bindN (lat s.2.2.1 (iN s.2.2.2.1)) fun v1 =>
      bindN (r04_Parse n (v1.2.1,())) fun p2 =>
      bif !(ieq p2.1.2.1 (0:Int)) then
       bindL (r08_Answer_l0 n g (s.1,s.2.1,s.2.2.1,iadd .i64 s.2.2.2.1 (1:Int),())) (fun a3 =>
        some (Sum.inl a3)) fun b4 =>
       some (Sum.inr ())
      else
      bindN (r04_Text n (p2.1.1,())) fun p5 =>
      bif ile (0:Int) s.2.2.2.1 then
       bindN (lat s.2.2.1 (iN s.2.2.2.1)) fun v6 =>
       bif !(seq p5.1.1 v6.2.1) then
        bindL (r08_Answer_l0 n g (s.1,s.2.1,s.2.2.1,iadd .i64 s.2.2.2.1 (1:Int),())) (fun a7 =>
         some (Sum.inl a7)) fun b8 =>
        some (Sum.inr ())
       else
       bif ile (0:Int) s.2.2.2.1 then
        bindN (lat s.2.2.1 (iN s.2.2.2.1)) fun v9 =>
        bif ilt v9.2.2.1.1 (1:Int) then
         bindL (r08_Answer_l0 n g (s.1,s.2.1,s.2.2.1,iadd .i64 s.2.2.2.1 (1:Int),())) (fun a10 =>
          some (Sum.inl a10)) fun b11 =>
         some (Sum.inr ())
        else
        bindN (r07_Fits n (s.1,p2.1.1,())) fun p12 =>
        bif !p12.1.1 then
         bindL (r08_Answer_l0 n g (s.1,s.2.1,s.2.2.1,iadd .i64 s.2.2.2.1 (1:Int),())) (fun a13 =>
          some (Sum.inl a13)) fun b14 =>
         some (Sum.inr ())
        else
        bif ile (0:Int) s.2.2.2.1 then
         bindN (lat s.2.2.1 (iN s.2.2.2.1)) fun v15 =>
         bindN (r07_Group n (s.1,p2.1.1,())) fun p16 =>
         bif ile (0:Int) s.2.2.2.1 then
          bindN (lat s.2.2.1 (iN s.2.2.2.1)) fun v17 =>
          bindN (r08_into n (s.2.1,(v15.1,p16.1.1,v17.2.2),())) fun p18 =>
          bindL (r08_Answer_l0 n g (s.1,p18.1.1,s.2.2.1,iadd .i64 s.2.2.2.1 (1:Int),())) (fun a19 =>
           some (Sum.inl a19)) fun b20 =>
          some (Sum.inr ())
         else none
        else none
       else none
      else none
     else none
    else
    some (Sum.inl (s.1,s.2.1,()))
theorem r08_Answer_l0_ok (n:Nat):∀ g,LEntOk Tryz.prog 60 (nSl r08_Answer_sg) ⟨0,[.boxr tQuery, .own tItem, .tree (.slice tItem), .tree (.int .i64)],0,[.boxr tQuery, .own tItem],[],r08_Answer_l0 n g⟩ g
  | 0=>loop_zero' fun _=>rfl
  | g+1=>loop_step' mixed (T:=[r07_Right_ent n,r08_sorted_ent n,r04_Parse_ent n,r04_Text_ent n,r07_Fits_ent n,r07_Group_ent n,r08_into_ent n,r06_Value_ent n]) (tabCons (r07_Right_ok n) (tabCons (r08_sorted_ok n) (tabCons (r04_Parse_ok n) (tabCons (r04_Text_ok n) (tabCons (r07_Fits_ok n) (tabCons (r07_Group_ok n) (tabCons (r08_into_ok n) (tabCons (r06_Value_ok n) tabNil)))))))) (tabLCons (r08_Answer_l1_ok n n) tabLNil) (r08_Answer_l0_ok n g) fun s=>by kernel_rfl
def r08_Answer (n:Nat) (x:SgEl r08_Answer_sg):Option (RtEl r08_Answer_rs×OutEl r08_Answer_sg) :=
  bindN (r07_Right n (x.1,())) fun p1 =>
  bif !p1.1.1 then
   some (([],()),((),(),()))
  else
  bindN (r08_sorted n x.2) fun p2 =>
  bindL (r08_Answer_l0 n n (x.1,[],p2.1.1,(0:Int),())) (fun a3 =>
   bindL (r08_Answer_l1 n n (a3.1,a3.2.1,[],(0:Int),())) (fun a5 =>
    some (a5,((),(),()))) fun b6 =>
   none) fun b4 =>
  none
abbrev r08_Answer_ent (n:Nat):Ent:=⟨60,r08_Answer_sg,r08_Answer_rs,r08_Answer n⟩
theorem r08_Answer_ok (n:Nat):EntOk Tryz.prog (r08_Answer_ent n):=ent_ok' mixed (T:=[r07_Right_ent n,r08_sorted_ent n,r04_Parse_ent n,r04_Text_ent n,r07_Fits_ent n,r07_Group_ent n,r08_into_ent n,r06_Value_ent n]) (tabCons (r07_Right_ok n) (tabCons (r08_sorted_ok n) (tabCons (r04_Parse_ok n) (tabCons (r04_Text_ok n) (tabCons (r07_Fits_ok n) (tabCons (r07_Group_ok n) (tabCons (r08_into_ok n) (tabCons (r06_Value_ok n) tabNil)))))))) (tabLCons (r08_Answer_l0_ok n n) (tabLCons (r08_Answer_l1_ok n n) tabLNil)) fun x=>by kernel_rfl
abbrev r08_Text_sg:List Sg:=[.tree (.slice tRow)]
abbrev r08_Text_rs:List Rt:=[.tree .str]
def r08_Text_l0 (n:Nat):Nat→SgEl [.tree (.slice tRow), .own .str, .tree (.int .i64)]→Option (SgEl [.own .str] ⊕ SgEl [])
  | 0,_=>none
  | g+1,s =>
    bif ilt s.2.2.1 (ilen s.1) then
     bif ile (0:Int) s.2.2.1 then
      bindN (lat s.1 (iN s.2.2.1)) fun v1 =>
      bindN (r01_Number n (v1.1,())) fun p2 =>
      bif sfits p2.1.1 (⟨#[124]⟩:ByteArray) then
       bif ile (0:Int) s.2.2.1 then
        bindN (lat s.1 (iN s.2.2.1)) fun v3 =>
        bif sfits (scat p2.1.1 (⟨#[124]⟩:ByteArray)) v3.2.1 then
         bif sfits (scat (scat p2.1.1 (⟨#[124]⟩:ByteArray)) v3.2.1) (⟨#[124]⟩:ByteArray) then
          bif ile (0:Int) s.2.2.1 then
           bindN (lat s.1 (iN s.2.2.1)) fun v4 =>
           bindN (r01_Text n v4.2.2) fun p5 =>
           bif sfits (scat (scat (scat p2.1.1 (⟨#[124]⟩:ByteArray)) v3.2.1) (⟨#[124]⟩:ByteArray)) p5.1.1 then
            bif roomA s.2.1 [scat (scat (scat (scat p2.1.1 (⟨#[124]⟩:ByteArray)) v3.2.1) (⟨#[124]⟩:ByteArray)) p5.1.1] 16 then
             bindL (r08_Text_l0 n g (s.1,app s.2.1 [scat (scat (scat (scat p2.1.1 (⟨#[124]⟩:ByteArray)) v3.2.1) (⟨#[124]⟩:ByteArray)) p5.1.1],iadd .i64 s.2.2.1 (1:Int),())) (fun a6 =>
              some (Sum.inl a6)) fun b7 =>
             some (Sum.inr ())
            else none
           else none
          else none
         else none
        else none
       else none
      else none
     else none
    else
    some (Sum.inl (s.2.1,()))
theorem r08_Text_l0_ok (n:Nat):∀ g,LEntOk Tryz.prog 55 (nSl r08_Text_sg) ⟨0,[.tree (.slice tRow), .own .str, .tree (.int .i64)],0,[.own .str],[],r08_Text_l0 n g⟩ g
  | 0=>loop_zero' fun _=>rfl
  | g+1=>loop_step' mixed (T:=[r01_Number_ent n,r01_Text_ent n,r02_Join_ent n]) (tabCons (r01_Number_ok n) (tabCons (r01_Text_ok n) (tabCons (r02_Join_ok n) tabNil))) tabLNil (r08_Text_l0_ok n g) fun s=>by kernel_rfl
def r08_Text (n:Nat) (x:SgEl r08_Text_sg):Option (RtEl r08_Text_rs×OutEl r08_Text_sg) :=
  bif ieq (ilen x.1) (0:Int) then
   some (((⟨#[45]⟩:ByteArray),()),((),()))
  else
  bindL (r08_Text_l0 n n (x.1,[],(0:Int),())) (fun a1 =>
   bindN (r02_Join n ((⟨#[59]⟩:ByteArray),a1)) fun p3 =>
   some (p3.1,((),()))) fun b2 =>
  none
abbrev r08_Text_ent (n:Nat):Ent:=⟨55,r08_Text_sg,r08_Text_rs,r08_Text n⟩
theorem r08_Text_ok (n:Nat):EntOk Tryz.prog (r08_Text_ent n):=ent_ok' mixed (T:=[r01_Number_ent n,r01_Text_ent n,r02_Join_ent n]) (tabCons (r01_Number_ok n) (tabCons (r01_Text_ok n) (tabCons (r02_Join_ok n) tabNil))) (tabLCons (r08_Text_l0_ok n n) tabLNil) fun x=>by kernel_rfl
abbrev r08_Same_sg:List Sg:=[.tree (.slice tRow), .tree (.slice tRow)]
abbrev r08_Same_rs:List Rt:=[.tree .bool]
def r08_Same_l0 (n:Nat):Nat→SgEl [.tree (.slice tRow), .tree (.slice tRow), .tree (.int .i64)]→Option (SgEl [] ⊕ SgEl [.tree .bool])
  | 0,_=>none
  | g+1,s =>
    bif ilt s.2.2.1 (ilen s.1) then
     bif ile (0:Int) s.2.2.1 then
      bindN (lat s.1 (iN s.2.2.1)) fun v1 =>
      bif ile (0:Int) s.2.2.1 then
       bindN (lat s.2.1 (iN s.2.2.1)) fun v2 =>
       bif !(ieq v1.1 v2.1 && (seq v1.2.1 v2.2.1 && (ieq v1.2.2.1.1 v2.2.2.1.1 && (beqB v1.2.2.1.2.1 v2.2.2.1.2.1 && true)))) then
        some (Sum.inr (false,()))
       else
       bindL (r08_Same_l0 n g (s.1,s.2.1,iadd .i64 s.2.2.1 (1:Int),())) (fun a3 =>
        some (Sum.inl ())) fun b4 =>
       some (Sum.inr b4)
      else none
     else none
    else
    some (Sum.inl ())
theorem r08_Same_l0_ok (n:Nat):∀ g,LEntOk Tryz.prog 32 (nSl r08_Same_sg) ⟨0,[.tree (.slice tRow), .tree (.slice tRow), .tree (.int .i64)],0,[],[.tree .bool],r08_Same_l0 n g⟩ g
  | 0=>loop_zero' fun _=>rfl
  | g+1=>loop_step' mixed (T:=[]) tabNil tabLNil (r08_Same_l0_ok n g) fun s=>by kernel_rfl
def r08_Same (n:Nat) (x:SgEl r08_Same_sg):Option (RtEl r08_Same_rs×OutEl r08_Same_sg) :=
  bif !(ieq (ilen x.1) (ilen x.2.1)) then
   some ((false,()),((),(),()))
  else
  bindL (r08_Same_l0 n n (x.1,x.2.1,(0:Int),())) (fun a1 =>
   some ((true,()),((),(),()))) fun b2 =>
  some (b2,((),(),()))
abbrev r08_Same_ent (n:Nat):Ent:=⟨32,r08_Same_sg,r08_Same_rs,r08_Same n⟩
theorem r08_Same_ok (n:Nat):EntOk Tryz.prog (r08_Same_ent n):=ent_ok' mixed (T:=[]) tabNil (tabLCons (r08_Same_l0_ok n n) tabLNil) fun x=>by kernel_rfl
abbrev r08_Items_sg:List Sg:=[.tree (.slice tItem), .tree (.slice tItem)]
abbrev r08_Items_rs:List Rt:=[.tree .bool]
def r08_Items_l0 (n:Nat):Nat→SgEl [.tree (.slice tItem), .tree (.slice tItem), .tree (.int .i64)]→Option (SgEl [] ⊕ SgEl [.tree .bool])
  | 0,_=>none
  | g+1,s =>
    bif ilt s.2.2.1 (ilen s.1) then
     bif ile (0:Int) s.2.2.1 then
      bindN (lat s.1 (iN s.2.2.1)) fun v1 =>
      bif ile (0:Int) s.2.2.1 then
       bindN (lat s.2.1 (iN s.2.2.1)) fun v2 =>
       bif !(ieq v1.1 v2.1 && (seq v1.2.1 v2.2.1 && (ieq v1.2.2.1.1 v2.2.2.1.1 && (ieq v1.2.2.1.2.1.1 v2.2.2.1.2.1.1 && (beqB v1.2.2.1.2.1.2.1 v2.2.2.1.2.1.2.1 && (ieq v1.2.2.1.2.2.1 v2.2.2.1.2.2.1 && (ieq v1.2.2.1.2.2.2.1 v2.2.2.1.2.2.2.1 && true))))))) then
        some (Sum.inr (false,()))
       else
       bindL (r08_Items_l0 n g (s.1,s.2.1,iadd .i64 s.2.2.1 (1:Int),())) (fun a3 =>
        some (Sum.inl ())) fun b4 =>
       some (Sum.inr b4)
      else none
     else none
    else
    some (Sum.inl ())
theorem r08_Items_l0_ok (n:Nat):∀ g,LEntOk Tryz.prog 28 (nSl r08_Items_sg) ⟨0,[.tree (.slice tItem), .tree (.slice tItem), .tree (.int .i64)],0,[],[.tree .bool],r08_Items_l0 n g⟩ g
  | 0=>loop_zero' fun _=>rfl
  | g+1=>loop_step' mixed (T:=[]) tabNil tabLNil (r08_Items_l0_ok n g) fun s=>by kernel_rfl
def r08_Items (n:Nat) (x:SgEl r08_Items_sg):Option (RtEl r08_Items_rs×OutEl r08_Items_sg) :=
  bif !(ieq (ilen x.1) (ilen x.2.1)) then
   some ((false,()),((),(),()))
  else
  bindL (r08_Items_l0 n n (x.1,x.2.1,(0:Int),())) (fun a1 =>
   some ((true,()),((),(),()))) fun b2 =>
  some (b2,((),(),()))
abbrev r08_Items_ent (n:Nat):Ent:=⟨28,r08_Items_sg,r08_Items_rs,r08_Items n⟩
theorem r08_Items_ok (n:Nat):EntOk Tryz.prog (r08_Items_ent n):=ent_ok' mixed (T:=[]) tabNil (tabLCons (r08_Items_l0_ok n n) tabLNil) fun x=>by kernel_rfl
abbrev r08_Much_sg:List Sg:=[.tree (.slice tItem)]
abbrev r08_Much_rs:List Rt:=[.tree .bool]
def r08_Much_l0 (n:Nat):Nat→SgEl [.tree (.slice tItem), .tree (.int .i64)]→Option (SgEl [] ⊕ SgEl [.tree .bool])
  | 0,_=>none
  | g+1,s =>
    bif ilt s.2.1 (ilen s.1) then
     bif ile (0:Int) s.2.1 then
      bindN (lat s.1 (iN s.2.1)) fun v1 =>
      bif ilt (300:Int) (ssize v1.2.1) then
       some (Sum.inr (true,()))
      else
      bindL (r08_Much_l0 n g (s.1,iadd .i64 s.2.1 (1:Int),())) (fun a2 =>
       some (Sum.inl ())) fun b3 =>
      some (Sum.inr b3)
     else none
    else
    some (Sum.inl ())
theorem r08_Much_l0_ok (n:Nat):∀ g,LEntOk Tryz.prog 20 (nSl r08_Much_sg) ⟨0,[.tree (.slice tItem), .tree (.int .i64)],0,[],[.tree .bool],r08_Much_l0 n g⟩ g
  | 0=>loop_zero' fun _=>rfl
  | g+1=>loop_step' mixed (T:=[]) tabNil tabLNil (r08_Much_l0_ok n g) fun s=>by kernel_rfl
def r08_Much (n:Nat) (x:SgEl r08_Much_sg):Option (RtEl r08_Much_rs×OutEl r08_Much_sg) :=
  bif ilt (100:Int) (ilen x.1) then
   some ((true,()),((),()))
  else
  bindL (r08_Much_l0 n n (x.1,(0:Int),())) (fun a1 =>
   some ((false,()),((),()))) fun b2 =>
  some (b2,((),()))
abbrev r08_Much_ent (n:Nat):Ent:=⟨20,r08_Much_sg,r08_Much_rs,r08_Much n⟩
theorem r08_Much_ok (n:Nat):EntOk Tryz.prog (r08_Much_ent n):=ent_ok' mixed (T:=[]) tabNil (tabLCons (r08_Much_l0_ok n n) tabLNil) fun x=>by kernel_rfl
abbrev r10_Right_sg:List Sg:=[.tree (.slice tVersion)]
abbrev r10_Right_rs:List Rt:=[.tree .bool]
def r10_Right_l0 (n:Nat):Nat→SgEl [.tree (.slice tVersion), .tree (.int .i64)]→Option (SgEl [] ⊕ SgEl [.tree .bool])
  | 0,_=>none
  | g+1,s =>
    bif ilt s.2.1 (ilen s.1) then
     bif ile (0:Int) s.2.1 then
      bindN (lat s.1 (iN s.2.1)) fun v1 =>
      bif ilt v1.1 (1:Int) then
       some (Sum.inr (false,()))
      else
      bif ile (0:Int) s.2.1 then
       bindN (lat s.1 (iN s.2.1)) fun v2 =>
       bif ilt (1000000000000000:Int) v2.1 then
        some (Sum.inr (false,()))
       else
       bif ilt (0:Int) s.2.1 then
        bif ile (0:Int) (isub .i64 s.2.1 (1:Int)) then
         bindN (lat s.1 (iN (isub .i64 s.2.1 (1:Int)))) fun v3 =>
         bif ile (0:Int) s.2.1 then
          bindN (lat s.1 (iN s.2.1)) fun v4 =>
          bif ile v4.1 v3.1 then
           some (Sum.inr (false,()))
          else
          bindL (r10_Right_l0 n g (s.1,iadd .i64 s.2.1 (1:Int),())) (fun a5 =>
           some (Sum.inl ())) fun b6 =>
          some (Sum.inr b6)
         else none
        else none
       else
       bindL (r10_Right_l0 n g (s.1,iadd .i64 s.2.1 (1:Int),())) (fun a7 =>
        some (Sum.inl ())) fun b8 =>
       some (Sum.inr b8)
      else none
     else none
    else
    some (Sum.inl ())
theorem r10_Right_l0_ok (n:Nat):∀ g,LEntOk Tryz.prog 69 (nSl r10_Right_sg) ⟨0,[.tree (.slice tVersion), .tree (.int .i64)],0,[],[.tree .bool],r10_Right_l0 n g⟩ g
  | 0=>loop_zero' fun _=>rfl
  | g+1=>loop_step' mixed (T:=[]) tabNil tabLNil (r10_Right_l0_ok n g) fun s=>by kernel_rfl
def r10_Right (n:Nat) (x:SgEl r10_Right_sg):Option (RtEl r10_Right_rs×OutEl r10_Right_sg) :=
  bindL (r10_Right_l0 n n (x.1,(0:Int),())) (fun a1 =>
   some ((true,()),((),()))) fun b2 =>
  some (b2,((),()))
abbrev r10_Right_ent (n:Nat):Ent:=⟨69,r10_Right_sg,r10_Right_rs,r10_Right n⟩
theorem r10_Right_ok (n:Nat):EntOk Tryz.prog (r10_Right_ent n):=ent_ok' mixed (T:=[]) tabNil (tabLCons (r10_Right_l0_ok n n) tabLNil) fun x=>by kernel_rfl
abbrev r10_At_sg:List Sg:=[.tree (.slice tVersion), .tree (.int .i64)]
abbrev r10_At_rs:List Rt:=[.tree tCell]
def r10_At_l0 (n:Nat):Nat→SgEl [.tree (.slice tVersion), .tree (.int .i64), .boxr tCell, .boxr tCell, .tree (.int .i64)]→Option (SgEl [.boxr tCell, .boxr tCell] ⊕ SgEl [])
  | 0,_=>none
  | g+1,s =>
    bif ilt s.2.2.2.2.1 (ilen s.1) then
     bif ile (0:Int) s.2.2.2.2.1 then
      bindN (lat s.1 (iN s.2.2.2.2.1)) fun v1 =>
      bif ile v1.1 s.2.1 then
       bif ile (0:Int) s.2.2.2.2.1 then
        bindN (lat s.1 (iN s.2.2.2.2.1)) fun v2 =>
        bindL (r10_At_l0 n g (s.1,s.2.1,s.2.2.1,v2.2.1,iadd .i64 s.2.2.2.2.1 (1:Int),())) (fun a3 =>
         some (Sum.inl a3)) fun b4 =>
        some (Sum.inr ())
       else none
      else
      bindL (r10_At_l0 n g (s.1,s.2.1,s.2.2.1,s.2.2.2.1,iadd .i64 s.2.2.2.2.1 (1:Int),())) (fun a5 =>
       some (Sum.inl a5)) fun b6 =>
      some (Sum.inr ())
     else none
    else
    some (Sum.inl (s.2.2.1,s.2.2.2.1,()))
theorem r10_At_l0_ok (n:Nat):∀ g,LEntOk Tryz.prog 141 (nSl r10_At_sg) ⟨0,[.tree (.slice tVersion), .tree (.int .i64), .boxr tCell, .boxr tCell, .tree (.int .i64)],0,[.boxr tCell, .boxr tCell],[],r10_At_l0 n g⟩ g
  | 0=>loop_zero' fun _=>rfl
  | g+1=>loop_step' mixed (T:=[]) tabNil tabLNil (r10_At_l0_ok n g) fun s=>by kernel_rfl
def r10_At (n:Nat) (x:SgEl r10_At_sg):Option (RtEl r10_At_rs×OutEl r10_At_sg) :=
  bindL (r10_At_l0 n n (x.1,x.2.1,((0:Int),((0:Int),false,()),(0:Int),(0:Int),()),((0:Int),((0:Int),false,()),(0:Int),(0:Int),()),(0:Int),())) (fun a1 =>
   some (a1.2,((),(),()))) fun b2 =>
  none
abbrev r10_At_ent (n:Nat):Ent:=⟨141,r10_At_sg,r10_At_rs,r10_At n⟩
theorem r10_At_ok (n:Nat):EntOk Tryz.prog (r10_At_ent n):=ent_ok' mixed (T:=[]) tabNil (tabLCons (r10_At_l0_ok n n) tabLNil) fun x=>by kernel_rfl
abbrev r10_Put_sg:List Sg:=[.tree (.slice tVersion), .tree (.slice tVersion)]
abbrev r10_Put_rs:List Rt:=[.tree (.slice tVersion), .tree (.int .i64)]
def r10_Put (n:Nat) (x:SgEl r10_Put_sg):Option (RtEl r10_Put_rs×OutEl r10_Put_sg) :=
  bif roomA ([]:List (El tVersion)) x.1 48 then
   bif roomA (app ([]:List (El tVersion)) x.1) x.2.1 48 then
    bindN (r10_Right n (app (app ([]:List (El tVersion)) x.1) x.2.1,())) fun p1 =>
    bif !p1.1.1 then
     some (([],(9:Int),()),((),(),()))
    else
    some ((app (app ([]:List (El tVersion)) x.1) x.2.1,(0:Int),()),((),(),()))
   else none
  else none
abbrev r10_Put_ent (n:Nat):Ent:=⟨142,r10_Put_sg,r10_Put_rs,r10_Put n⟩
theorem r10_Put_ok (n:Nat):EntOk Tryz.prog (r10_Put_ent n):=ent_ok' mixed (T:=[r10_Right_ent n]) (tabCons (r10_Right_ok n) tabNil) tabLNil fun x=>by kernel_rfl
abbrev r10_Fold_sg:List Sg:=[.tree (.slice tVersion), .tree (.int .i64), .tree (.int .i64)]
abbrev r10_Fold_rs:List Rt:=[.tree (.slice tVersion), .tree (.int .i64)]
def r10_Fold (n:Nat) (x:SgEl r10_Fold_sg):Option (RtEl r10_Fold_rs×OutEl r10_Fold_sg) :=
  bif ilt (0:Int) (ilen x.1) then
   bif ile (0:Int) (isub .i64 (ilen x.1) (1:Int)) then
    bindN (lat x.1 (iN (isub .i64 (ilen x.1) (1:Int)))) fun v1 =>
    bindN (r06_Fold n (v1.2.1,x.2.2)) fun p2 =>
    bindN (r10_Put n (x.1,[(x.2.1,p2.1)],())) fun p3 =>
    some (p3.1,((),(),(),()))
   else none
  else
  bindN (r06_Fold n (((0:Int),((0:Int),false,()),(0:Int),(0:Int),()),x.2.2)) fun p4 =>
  bindN (r10_Put n (x.1,[(x.2.1,p4.1)],())) fun p5 =>
  some (p5.1,((),(),(),()))
abbrev r10_Fold_ent (n:Nat):Ent:=⟨73,r10_Fold_sg,r10_Fold_rs,r10_Fold n⟩
theorem r10_Fold_ok (n:Nat):EntOk Tryz.prog (r10_Fold_ent n):=ent_ok' mixed (T:=[r06_Fold_ent n,r10_Put_ent n]) (tabCons (r06_Fold_ok n) (tabCons (r10_Put_ok n) tabNil)) tabLNil fun x=>by kernel_rfl
abbrev r10_Prune_sg:List Sg:=[.tree (.slice tVersion), .tree (.int .i64)]
abbrev r10_Prune_rs:List Rt:=[.tree (.slice tVersion)]
def r10_Prune_l1 (n:Nat):Nat→SgEl [.tree (.slice tVersion), .tree (.int .i64), .tree (.int .i64), .own tVersion, .tree (.int .i64)]→Option (SgEl [.own tVersion] ⊕ SgEl [])
  | 0,_=>none
  | g+1,s =>
    bif ilt s.2.2.2.2.1 (ilen s.1) then
     bif ile (0:Int) s.2.2.2.2.1 then
      bindN (lat s.1 (iN s.2.2.2.2.1)) fun v1 =>
      bif ilt s.2.1 v1.1 then
       bif ile (0:Int) s.2.2.2.2.1 then
        bindN (lat s.1 (iN s.2.2.2.2.1)) fun v2 =>
        bif roomA s.2.2.2.1 [v2] 48 then
         bindL (r10_Prune_l1 n g (s.1,s.2.1,s.2.2.1,app s.2.2.2.1 [v2],iadd .i64 s.2.2.2.2.1 (1:Int),())) (fun a3 =>
          some (Sum.inl a3)) fun b4 =>
         some (Sum.inr ())
        else none
       else none
      else
      bif ieq s.2.2.2.2.1 s.2.2.1 then
       bif ile (0:Int) s.2.2.2.2.1 then
        bindN (lat s.1 (iN s.2.2.2.2.1)) fun v5 =>
        bif roomA s.2.2.2.1 [v5] 48 then
         bindL (r10_Prune_l1 n g (s.1,s.2.1,s.2.2.1,app s.2.2.2.1 [v5],iadd .i64 s.2.2.2.2.1 (1:Int),())) (fun a6 =>
          some (Sum.inl a6)) fun b7 =>
         some (Sum.inr ())
        else none
       else none
      else
      bindL (r10_Prune_l1 n g (s.1,s.2.1,s.2.2.1,s.2.2.2.1,iadd .i64 s.2.2.2.2.1 (1:Int),())) (fun a8 =>
       some (Sum.inl a8)) fun b9 =>
      some (Sum.inr ())
     else none
    else
    some (Sum.inl (s.2.2.2.1,()))
theorem r10_Prune_l1_ok (n:Nat):∀ g,LEntOk Tryz.prog 72 (nSl r10_Prune_sg) ⟨1,[.tree (.slice tVersion), .tree (.int .i64), .tree (.int .i64), .own tVersion, .tree (.int .i64)],2,[.own tVersion],[],r10_Prune_l1 n g⟩ g
  | 0=>loop_zero' fun _=>rfl
  | g+1=>loop_step' mixed (T:=[]) tabNil tabLNil (r10_Prune_l1_ok n g) fun s=>by kernel_rfl
def r10_Prune_l0 (n:Nat):Nat→SgEl [.tree (.slice tVersion), .tree (.int .i64), .tree (.int .i64), .tree (.int .i64)]→Option (SgEl [.tree (.slice tVersion), .tree (.int .i64), .tree (.int .i64)] ⊕ SgEl [])
  | 0,_=>none
  | g+1,s =>
    bif ilt s.2.2.2.1 (ilen s.1) then
     bif ile (0:Int) s.2.2.2.1 then
      bindN (lat s.1 (iN s.2.2.2.1)) fun v1 =>
      bif ile v1.1 s.2.1 then
       bindL (r10_Prune_l0 n g (s.1,s.2.1,s.2.2.2.1,iadd .i64 s.2.2.2.1 (1:Int),())) (fun a2 =>
        some (Sum.inl a2)) fun b3 =>
       some (Sum.inr ())
      else
      bindL (r10_Prune_l0 n g (s.1,s.2.1,s.2.2.1,iadd .i64 s.2.2.2.1 (1:Int),())) (fun a4 =>
       some (Sum.inl a4)) fun b5 =>
      some (Sum.inr ())
     else none
    else
    some (Sum.inl (s.1,s.2.1,s.2.2.1,()))
theorem r10_Prune_l0_ok (n:Nat):∀ g,LEntOk Tryz.prog 72 (nSl r10_Prune_sg) ⟨0,[.tree (.slice tVersion), .tree (.int .i64), .tree (.int .i64), .tree (.int .i64)],0,[.tree (.slice tVersion), .tree (.int .i64), .tree (.int .i64)],[],r10_Prune_l0 n g⟩ g
  | 0=>loop_zero' fun _=>rfl
  | g+1=>loop_step' mixed (T:=[]) tabNil (tabLCons (r10_Prune_l1_ok n n) tabLNil) (r10_Prune_l0_ok n g) fun s=>by kernel_rfl
def r10_Prune (n:Nat) (x:SgEl r10_Prune_sg):Option (RtEl r10_Prune_rs×OutEl r10_Prune_sg) :=
  bindL (r10_Prune_l0 n n (x.1,x.2.1,(-1:Int),(0:Int),())) (fun a1 =>
   bindL (r10_Prune_l1 n n (a1.1,a1.2.1,a1.2.2.1,[],(0:Int),())) (fun a3 =>
    some (a3,((),(),()))) fun b4 =>
   none) fun b2 =>
  none
abbrev r10_Prune_ent (n:Nat):Ent:=⟨72,r10_Prune_sg,r10_Prune_rs,r10_Prune n⟩
theorem r10_Prune_ok (n:Nat):EntOk Tryz.prog (r10_Prune_ent n):=ent_ok' mixed (T:=[]) tabNil (tabLCons (r10_Prune_l0_ok n n) (tabLCons (r10_Prune_l1_ok n n) tabLNil)) fun x=>by kernel_rfl
abbrev r11_less_sg:List Sg:=[.tree tEntry, .tree (.int .i64), .tree .str]
abbrev r11_less_rs:List Rt:=[.tree .bool]
def r11_less (n:Nat) (x:SgEl r11_less_sg):Option (RtEl r11_less_rs×OutEl r11_less_sg) :=
  bif ilt x.1.1 x.2.1 then
   some ((true,()),((),(),(),()))
  else
  bif ieq x.1.1 x.2.1 then
   some ((slt x.1.2.1 x.2.2.1,()),((),(),(),()))
  else
  some ((false,()),((),(),(),()))
abbrev r11_less_ent (n:Nat):Ent:=⟨70,r11_less_sg,r11_less_rs,r11_less n⟩
theorem r11_less_ok (n:Nat):EntOk Tryz.prog (r11_less_ent n):=ent_ok' mixed (T:=[]) tabNil tabLNil fun x=>by kernel_rfl
abbrev r11_Right_sg:List Sg:=[.tree tShard]
abbrev r11_Right_rs:List Rt:=[.tree .bool]
def r11_Right_l0 (n:Nat):Nat→SgEl [.boxr tShard, .tree (.int .i64)]→Option (SgEl [] ⊕ SgEl [.tree .bool])
  | 0,_=>none
  | g+1,s =>
    bif ilt s.2.1 (ilen s.1.1) then
     bif ile (0:Int) s.2.1 then
      bindN (lat s.1.1 (iN s.2.1)) fun v1 =>
      bif ieq (ilen v1.2.2.1) (0:Int) then
       some (Sum.inr (false,()))
      else
      bindN (r10_Right n v1.2.2) fun p2 =>
      bif !p2.1.1 then
       some (Sum.inr (false,()))
      else
      bif ilt (0:Int) s.2.1 then
       bif ile (0:Int) (isub .i64 s.2.1 (1:Int)) then
        bindN (lat s.1.1 (iN (isub .i64 s.2.1 (1:Int)))) fun v3 =>
        bindN (r11_less n (v3,v1.1,v1.2.1,())) fun p4 =>
        bif !p4.1.1 then
         some (Sum.inr (false,()))
        else
        bindL (r11_Right_l0 n g (s.1,iadd .i64 s.2.1 (1:Int),())) (fun a5 =>
         some (Sum.inl ())) fun b6 =>
        some (Sum.inr b6)
       else none
      else
      bindL (r11_Right_l0 n g (s.1,iadd .i64 s.2.1 (1:Int),())) (fun a7 =>
       some (Sum.inl ())) fun b8 =>
      some (Sum.inr b8)
     else none
    else
    some (Sum.inl ())
theorem r11_Right_l0_ok (n:Nat):∀ g,LEntOk Tryz.prog 34 (nSl r11_Right_sg) ⟨0,[.boxr tShard, .tree (.int .i64)],0,[],[.tree .bool],r11_Right_l0 n g⟩ g
  | 0=>loop_zero' fun _=>rfl
  | g+1=>loop_step' mixed (T:=[r10_Right_ent n,r11_less_ent n]) (tabCons (r10_Right_ok n) (tabCons (r11_less_ok n) tabNil)) tabLNil (r11_Right_l0_ok n g) fun s=>by kernel_rfl
def r11_Right (n:Nat) (x:SgEl r11_Right_sg):Option (RtEl r11_Right_rs×OutEl r11_Right_sg) :=
  bindL (r11_Right_l0 n n (x.1,(0:Int),())) (fun a1 =>
   some ((true,()),((),()))) fun b2 =>
  some (b2,((),()))
abbrev r11_Right_ent (n:Nat):Ent:=⟨34,r11_Right_sg,r11_Right_rs,r11_Right n⟩
theorem r11_Right_ok (n:Nat):EntOk Tryz.prog (r11_Right_ent n):=ent_ok' mixed (T:=[r10_Right_ent n,r11_less_ent n]) (tabCons (r10_Right_ok n) (tabCons (r11_less_ok n) tabNil)) (tabLCons (r11_Right_l0_ok n n) tabLNil) fun x=>by kernel_rfl
abbrev r11_Apply_sg:List Sg:=[.tree tShard, .tree tWrite]
abbrev r11_Apply_rs:List Rt:=[.tree tShard, .tree (.int .i64)]
def r11_Apply_l0 (n:Nat):Nat→SgEl [.boxr tShard, .boxr tWrite, .boxr tShard, .tree (.int .i64)]→Option (SgEl [.boxr tShard, .boxr tWrite, .boxr tShard, .tree (.int .i64)] ⊕ SgEl [])
  | 0,_=>none
  | g+1,s =>
    bif ilt s.2.2.2.1 (ilen s.1.1) then
     bif ile (0:Int) s.2.2.2.1 then
      bindN (lat s.1.1 (iN s.2.2.2.1)) fun v1 =>
      bindN (r11_less n (v1,s.2.1.2.1,s.2.1.2.2.1,())) fun p2 =>
      bif p2.1.1 then
       bindL (r11_Apply_l0 n g (s.1,s.2.1,s.2.2.1,iadd .i64 s.2.2.2.1 (1:Int),())) (fun a3 =>
        some (Sum.inl a3)) fun b4 =>
       some (Sum.inr ())
      else
      some (Sum.inl s)
     else none
    else
    some (Sum.inl s)
theorem r11_Apply_l0_ok (n:Nat):∀ g,LEntOk Tryz.prog 36 (nSl r11_Apply_sg) ⟨0,[.boxr tShard, .boxr tWrite, .boxr tShard, .tree (.int .i64)],0,[.boxr tShard, .boxr tWrite, .boxr tShard, .tree (.int .i64)],[],r11_Apply_l0 n g⟩ g
  | 0=>loop_zero' fun _=>rfl
  | g+1=>loop_step' mixed (T:=[r11_Right_ent n,r11_less_ent n,r10_Fold_ent n]) (tabCons (r11_Right_ok n) (tabCons (r11_less_ok n) (tabCons (r10_Fold_ok n) tabNil))) tabLNil (r11_Apply_l0_ok n g) fun s=>by kernel_rfl
def r11_Apply (n:Nat) (x:SgEl r11_Apply_sg):Option (RtEl r11_Apply_rs×OutEl r11_Apply_sg) :=
  bindN (r11_Right n (x.1,())) fun p1 =>
  bif !p1.1.1 then
   some ((([],()),(9:Int),()),((),(),()))
  else
  bindL (r11_Apply_l0 n n (x.1,x.2.1,([],()),(0:Int),())) (fun a2 =>
   bif ile (0:Int) a2.2.2.2.1 then
    bif ile a2.2.2.2.1 (ilen a2.1.1) then
     bif ile (ilen a2.1.1) (ilen a2.1.1) then
      bif ilt (0:Int) (ilen (winI a2.1.1 a2.2.2.2.1 (ilen a2.1.1))) then
       bif ile (0:Int) (0:Int) then
        bindN (lat (winI a2.1.1 a2.2.2.2.1 (ilen a2.1.1)) (iN (0:Int))) fun v4 =>
        bif ieq v4.1 a2.2.1.2.1 then
         bif ile (0:Int) (0:Int) then
          bindN (lat (winI a2.1.1 a2.2.2.2.1 (ilen a2.1.1)) (iN (0:Int))) fun v5 =>
          bif seq v5.2.1 a2.2.1.2.2.1 then
           bif ile (0:Int) (0:Int) then
            bindN (lat (winI a2.1.1 a2.2.2.2.1 (ilen a2.1.1)) (iN (0:Int))) fun v6 =>
            bif ile (0:Int) (1:Int) then
             bif ile (1:Int) (ilen (winI a2.1.1 a2.2.2.2.1 (ilen a2.1.1))) then
              bif ile (ilen (winI a2.1.1 a2.2.2.2.1 (ilen a2.1.1))) (ilen (winI a2.1.1 a2.2.2.2.1 (ilen a2.1.1))) then
               bindN (r10_Fold n (v6.2.2.1,a2.2.1.1,a2.2.1.2.2.2)) fun p7 =>
               bif !(ieq p7.1.2.1 (0:Int)) then
                some ((([],()),p7.1.2),((),(),()))
               else
               bif ile (0:Int) (0:Int) then
                bif ile (0:Int) a2.2.2.2.1 then
                 bif ile a2.2.2.2.1 (ilen a2.1.1) then
                  bif roomA ([]:List (El tEntry)) (winI a2.1.1 (0:Int) a2.2.2.2.1) 48 then
                   bif roomA (app ([]:List (El tEntry)) (winI a2.1.1 (0:Int) a2.2.2.2.1)) [(a2.2.1.2.1,a2.2.1.2.2.1,p7.1.1,())] 48 then
                    bif roomA (app (app ([]:List (El tEntry)) (winI a2.1.1 (0:Int) a2.2.2.2.1)) [(a2.2.1.2.1,a2.2.1.2.2.1,p7.1.1,())]) (winI (winI a2.1.1 a2.2.2.2.1 (ilen a2.1.1)) (1:Int) (ilen (winI a2.1.1 a2.2.2.2.1 (ilen a2.1.1)))) 48 then
                     some (((app (app (app ([]:List (El tEntry)) (winI a2.1.1 (0:Int) a2.2.2.2.1)) [(a2.2.1.2.1,a2.2.1.2.2.1,p7.1.1,())]) (winI (winI a2.1.1 a2.2.2.2.1 (ilen a2.1.1)) (1:Int) (ilen (winI a2.1.1 a2.2.2.2.1 (ilen a2.1.1)))),()),(0:Int),()),((),(),()))
                    else none
                   else none
                  else none
                 else none
                else none
               else none
              else none
             else none
            else none
           else none
          else
          bindN (r10_Fold n ([],a2.2.1.1,a2.2.1.2.2.2)) fun p8 =>
          bif !(ieq p8.1.2.1 (0:Int)) then
           some ((([],()),p8.1.2),((),(),()))
          else
          bif ile (0:Int) (0:Int) then
           bif ile (0:Int) a2.2.2.2.1 then
            bif ile a2.2.2.2.1 (ilen a2.1.1) then
             bif roomA ([]:List (El tEntry)) (winI a2.1.1 (0:Int) a2.2.2.2.1) 48 then
              bif roomA (app ([]:List (El tEntry)) (winI a2.1.1 (0:Int) a2.2.2.2.1)) [(a2.2.1.2.1,a2.2.1.2.2.1,p8.1.1,())] 48 then
               bif roomA (app (app ([]:List (El tEntry)) (winI a2.1.1 (0:Int) a2.2.2.2.1)) [(a2.2.1.2.1,a2.2.1.2.2.1,p8.1.1,())]) (winI a2.1.1 a2.2.2.2.1 (ilen a2.1.1)) 48 then
                some (((app (app (app ([]:List (El tEntry)) (winI a2.1.1 (0:Int) a2.2.2.2.1)) [(a2.2.1.2.1,a2.2.1.2.2.1,p8.1.1,())]) (winI a2.1.1 a2.2.2.2.1 (ilen a2.1.1)),()),(0:Int),()),((),(),()))
               else none
              else none
             else none
            else none
           else none
          else none
         else none
        else
        bindN (r10_Fold n ([],a2.2.1.1,a2.2.1.2.2.2)) fun p9 =>
        bif !(ieq p9.1.2.1 (0:Int)) then
         some ((([],()),p9.1.2),((),(),()))
        else
        bif ile (0:Int) (0:Int) then
         bif ile (0:Int) a2.2.2.2.1 then
          bif ile a2.2.2.2.1 (ilen a2.1.1) then
           bif roomA ([]:List (El tEntry)) (winI a2.1.1 (0:Int) a2.2.2.2.1) 48 then
            bif roomA (app ([]:List (El tEntry)) (winI a2.1.1 (0:Int) a2.2.2.2.1)) [(a2.2.1.2.1,a2.2.1.2.2.1,p9.1.1,())] 48 then
             bif roomA (app (app ([]:List (El tEntry)) (winI a2.1.1 (0:Int) a2.2.2.2.1)) [(a2.2.1.2.1,a2.2.1.2.2.1,p9.1.1,())]) (winI a2.1.1 a2.2.2.2.1 (ilen a2.1.1)) 48 then
              some (((app (app (app ([]:List (El tEntry)) (winI a2.1.1 (0:Int) a2.2.2.2.1)) [(a2.2.1.2.1,a2.2.1.2.2.1,p9.1.1,())]) (winI a2.1.1 a2.2.2.2.1 (ilen a2.1.1)),()),(0:Int),()),((),(),()))
             else none
            else none
           else none
          else none
         else none
        else none
       else none
      else
      bindN (r10_Fold n ([],a2.2.1.1,a2.2.1.2.2.2)) fun p10 =>
      bif !(ieq p10.1.2.1 (0:Int)) then
       some ((([],()),p10.1.2),((),(),()))
      else
      bif ile (0:Int) (0:Int) then
       bif ile (0:Int) a2.2.2.2.1 then
        bif ile a2.2.2.2.1 (ilen a2.1.1) then
         bif roomA ([]:List (El tEntry)) (winI a2.1.1 (0:Int) a2.2.2.2.1) 48 then
          bif roomA (app ([]:List (El tEntry)) (winI a2.1.1 (0:Int) a2.2.2.2.1)) [(a2.2.1.2.1,a2.2.1.2.2.1,p10.1.1,())] 48 then
           bif roomA (app (app ([]:List (El tEntry)) (winI a2.1.1 (0:Int) a2.2.2.2.1)) [(a2.2.1.2.1,a2.2.1.2.2.1,p10.1.1,())]) (winI a2.1.1 a2.2.2.2.1 (ilen a2.1.1)) 48 then
            some (((app (app (app ([]:List (El tEntry)) (winI a2.1.1 (0:Int) a2.2.2.2.1)) [(a2.2.1.2.1,a2.2.1.2.2.1,p10.1.1,())]) (winI a2.1.1 a2.2.2.2.1 (ilen a2.1.1)),()),(0:Int),()),((),(),()))
           else none
          else none
         else none
        else none
       else none
      else none
     else none
    else none
   else none) fun b3 =>
  none
abbrev r11_Apply_ent (n:Nat):Ent:=⟨36,r11_Apply_sg,r11_Apply_rs,r11_Apply n⟩
theorem r11_Apply_ok (n:Nat):EntOk Tryz.prog (r11_Apply_ent n):=ent_ok' mixed (T:=[r11_Right_ent n,r11_less_ent n,r10_Fold_ent n]) (tabCons (r11_Right_ok n) (tabCons (r11_less_ok n) (tabCons (r10_Fold_ok n) tabNil))) (tabLCons (r11_Apply_l0_ok n n) tabLNil) fun x=>by kernel_rfl
abbrev r11_Dropped_sg:List Sg:=[.tree (.slice tDrop), .tree (.int .i64), .tree (.int .i64)]
abbrev r11_Dropped_rs:List Rt:=[.tree .bool]
def r11_Dropped_l0 (n:Nat):Nat→SgEl [.tree (.slice tDrop), .tree (.int .i64), .tree (.int .i64), .tree (.int .i64)]→Option (SgEl [] ⊕ SgEl [.tree .bool])
  | 0,_=>none
  | g+1,s =>
    bif ilt s.2.2.2.1 (ilen s.1) then
     bif ile (0:Int) s.2.2.2.1 then
      bindN (lat s.1 (iN s.2.2.2.1)) fun v1 =>
      bif ieq v1.1 s.2.1 then
       bif ile (0:Int) s.2.2.2.1 then
        bindN (lat s.1 (iN s.2.2.2.1)) fun v2 =>
        bif ile v2.2.1 s.2.2.1 then
         some (Sum.inr (true,()))
        else
        bindL (r11_Dropped_l0 n g (s.1,s.2.1,s.2.2.1,iadd .i64 s.2.2.2.1 (1:Int),())) (fun a3 =>
         some (Sum.inl ())) fun b4 =>
        some (Sum.inr b4)
       else none
      else
      bindL (r11_Dropped_l0 n g (s.1,s.2.1,s.2.2.1,iadd .i64 s.2.2.2.1 (1:Int),())) (fun a5 =>
       some (Sum.inl ())) fun b6 =>
      some (Sum.inr b6)
     else none
    else
    some (Sum.inl ())
theorem r11_Dropped_l0_ok (n:Nat):∀ g,LEntOk Tryz.prog 71 (nSl r11_Dropped_sg) ⟨0,[.tree (.slice tDrop), .tree (.int .i64), .tree (.int .i64), .tree (.int .i64)],0,[],[.tree .bool],r11_Dropped_l0 n g⟩ g
  | 0=>loop_zero' fun _=>rfl
  | g+1=>loop_step' mixed (T:=[]) tabNil tabLNil (r11_Dropped_l0_ok n g) fun s=>by kernel_rfl
def r11_Dropped (n:Nat) (x:SgEl r11_Dropped_sg):Option (RtEl r11_Dropped_rs×OutEl r11_Dropped_sg) :=
  bindL (r11_Dropped_l0 n n (x.1,x.2.1,x.2.2.1,(0:Int),())) (fun a1 =>
   some ((false,()),((),(),(),()))) fun b2 =>
  some (b2,((),(),(),()))
abbrev r11_Dropped_ent (n:Nat):Ent:=⟨71,r11_Dropped_sg,r11_Dropped_rs,r11_Dropped n⟩
theorem r11_Dropped_ok (n:Nat):EntOk Tryz.prog (r11_Dropped_ent n):=ent_ok' mixed (T:=[]) tabNil (tabLCons (r11_Dropped_l0_ok n n) tabLNil) fun x=>by kernel_rfl
abbrev r11_Read_sg:List Sg:=[.tree tShard, .tree (.int .i64), .tree (.slice tDrop)]
abbrev r11_Read_rs:List Rt:=[.tree (.slice tItem)]
def r11_Read_l0 (n:Nat):Nat→SgEl [.tree (.int .i64), .tree (.slice tDrop), .boxr tShard, .own tItem, .tree (.int .i64)]→Option (SgEl [.own tItem] ⊕ SgEl [])
  | 0,_=>none
  | g+1,s =>
    bif ilt s.2.2.2.2.1 (ilen s.2.2.1.1) then
     bif ile (0:Int) s.2.2.2.2.1 then
      bindN (lat s.2.2.1.1 (iN s.2.2.2.2.1)) fun v1 =>
      bindN (r10_At n (v1.2.2.1,s.1,())) fun p2 =>
      bif ile (1:Int) p2.1.1.1 then
       bindN (r11_Dropped n (s.2.1,v1.1,s.1,())) fun p3 =>
       bif !p3.1.1 then
        bif roomA s.2.2.2.1 [(v1.1,v1.2.1,p2.1)] 64 then
         bindL (r11_Read_l0 n g (s.1,s.2.1,s.2.2.1,app s.2.2.2.1 [(v1.1,v1.2.1,p2.1)],iadd .i64 s.2.2.2.2.1 (1:Int),())) (fun a4 =>
          some (Sum.inl a4)) fun b5 =>
         some (Sum.inr ())
        else none
       else
       bindL (r11_Read_l0 n g (s.1,s.2.1,s.2.2.1,s.2.2.2.1,iadd .i64 s.2.2.2.2.1 (1:Int),())) (fun a6 =>
        some (Sum.inl a6)) fun b7 =>
       some (Sum.inr ())
      else
      bindL (r11_Read_l0 n g (s.1,s.2.1,s.2.2.1,s.2.2.2.1,iadd .i64 s.2.2.2.2.1 (1:Int),())) (fun a8 =>
       some (Sum.inl a8)) fun b9 =>
      some (Sum.inr ())
     else none
    else
    some (Sum.inl (s.2.2.2.1,()))
theorem r11_Read_l0_ok (n:Nat):∀ g,LEntOk Tryz.prog 66 (nSl r11_Read_sg) ⟨0,[.tree (.int .i64), .tree (.slice tDrop), .boxr tShard, .own tItem, .tree (.int .i64)],0,[.own tItem],[],r11_Read_l0 n g⟩ g
  | 0=>loop_zero' fun _=>rfl
  | g+1=>loop_step' mixed (T:=[r10_At_ent n,r11_Dropped_ent n]) (tabCons (r10_At_ok n) (tabCons (r11_Dropped_ok n) tabNil)) tabLNil (r11_Read_l0_ok n g) fun s=>by kernel_rfl
def r11_Read (n:Nat) (x:SgEl r11_Read_sg):Option (RtEl r11_Read_rs×OutEl r11_Read_sg) :=
  bindL (r11_Read_l0 n n (x.2.1,x.2.2.1,x.1,[],(0:Int),())) (fun a1 =>
   some (a1,((),(),(),()))) fun b2 =>
  none
abbrev r11_Read_ent (n:Nat):Ent:=⟨66,r11_Read_sg,r11_Read_rs,r11_Read n⟩
theorem r11_Read_ok (n:Nat):EntOk Tryz.prog (r11_Read_ent n):=ent_ok' mixed (T:=[r10_At_ent n,r11_Dropped_ent n]) (tabCons (r10_At_ok n) (tabCons (r11_Dropped_ok n) tabNil)) (tabLCons (r11_Read_l0_ok n n) tabLNil) fun x=>by kernel_rfl
abbrev r11_Prune_sg:List Sg:=[.tree tShard, .tree (.int .i64), .tree (.slice tDrop)]
abbrev r11_Prune_rs:List Rt:=[.tree tShard]
def r11_Prune_l0 (n:Nat):Nat→SgEl [.tree (.int .i64), .tree (.slice tDrop), .boxr tShard, .boxr tShard, .own tEntry, .tree (.int .i64)]→Option (SgEl [.boxr tShard, .own tEntry] ⊕ SgEl [])
  | 0,_=>none
  | g+1,s =>
    bif ilt s.2.2.2.2.2.1 (ilen s.2.2.1.1) then
     bif ile (0:Int) s.2.2.2.2.2.1 then
      bindN (lat s.2.2.1.1 (iN s.2.2.2.2.2.1)) fun v1 =>
      bindN (r11_Dropped n (s.2.1,v1.1,s.1,())) fun p2 =>
      bif p2.1.1 then
       bindL (r11_Prune_l0 n g (s.1,s.2.1,s.2.2.1,s.2.2.2.1,s.2.2.2.2.1,iadd .i64 s.2.2.2.2.2.1 (1:Int),())) (fun a3 =>
        some (Sum.inl a3)) fun b4 =>
       some (Sum.inr ())
      else
      bindN (r10_Prune n (v1.2.2.1,s.1,())) fun p5 =>
      bif roomA s.2.2.2.2.1 [(v1.1,v1.2.1,p5.1)] 48 then
       bindL (r11_Prune_l0 n g (s.1,s.2.1,s.2.2.1,s.2.2.2.1,app s.2.2.2.2.1 [(v1.1,v1.2.1,p5.1)],iadd .i64 s.2.2.2.2.2.1 (1:Int),())) (fun a6 =>
        some (Sum.inl a6)) fun b7 =>
       some (Sum.inr ())
      else none
     else none
    else
    some (Sum.inl (s.2.2.2.1,s.2.2.2.2.1,()))
theorem r11_Prune_l0_ok (n:Nat):∀ g,LEntOk Tryz.prog 35 (nSl r11_Prune_sg) ⟨0,[.tree (.int .i64), .tree (.slice tDrop), .boxr tShard, .boxr tShard, .own tEntry, .tree (.int .i64)],0,[.boxr tShard, .own tEntry],[],r11_Prune_l0 n g⟩ g
  | 0=>loop_zero' fun _=>rfl
  | g+1=>loop_step' mixed (T:=[r11_Dropped_ent n,r10_Prune_ent n]) (tabCons (r11_Dropped_ok n) (tabCons (r10_Prune_ok n) tabNil)) tabLNil (r11_Prune_l0_ok n g) fun s=>by kernel_rfl
def r11_Prune (n:Nat) (x:SgEl r11_Prune_sg):Option (RtEl r11_Prune_rs×OutEl r11_Prune_sg) :=
  bindL (r11_Prune_l0 n n (x.2.1,x.2.2.1,x.1,([],()),[],(0:Int),())) (fun a1 =>
   some ((a1.2,()),((),(),(),()))) fun b2 =>
  none
abbrev r11_Prune_ent (n:Nat):Ent:=⟨35,r11_Prune_sg,r11_Prune_rs,r11_Prune n⟩
theorem r11_Prune_ok (n:Nat):EntOk Tryz.prog (r11_Prune_ent n):=ent_ok' mixed (T:=[r11_Dropped_ent n,r10_Prune_ent n]) (tabCons (r11_Dropped_ok n) (tabCons (r10_Prune_ok n) tabNil)) (tabLCons (r11_Prune_l0_ok n n) tabLNil) fun x=>by kernel_rfl
abbrev r11_Great_sg:List Sg:=[.tree tShard]
abbrev r11_Great_rs:List Rt:=[.tree .bool]
def r11_Great_l0 (n:Nat):Nat→SgEl [.boxr tShard, .tree (.int .i64)]→Option (SgEl [] ⊕ SgEl [.tree .bool])
  | 0,_=>none
  | g+1,s =>
    bif ilt s.2.1 (ilen s.1.1) then
     bif ile (0:Int) s.2.1 then
      bindN (lat s.1.1 (iN s.2.1)) fun v1 =>
      bif ilt (100:Int) (ilen v1.2.2.1) then
       some (Sum.inr (true,()))
      else
      bif ile (0:Int) s.2.1 then
       bindN (lat s.1.1 (iN s.2.1)) fun v2 =>
       bif ilt (300:Int) (ssize v2.2.1) then
        some (Sum.inr (true,()))
       else
       bindL (r11_Great_l0 n g (s.1,iadd .i64 s.2.1 (1:Int),())) (fun a3 =>
        some (Sum.inl ())) fun b4 =>
       some (Sum.inr b4)
      else none
     else none
    else
    some (Sum.inl ())
theorem r11_Great_l0_ok (n:Nat):∀ g,LEntOk Tryz.prog 62 (nSl r11_Great_sg) ⟨0,[.boxr tShard, .tree (.int .i64)],0,[],[.tree .bool],r11_Great_l0 n g⟩ g
  | 0=>loop_zero' fun _=>rfl
  | g+1=>loop_step' mixed (T:=[]) tabNil tabLNil (r11_Great_l0_ok n g) fun s=>by kernel_rfl
def r11_Great (n:Nat) (x:SgEl r11_Great_sg):Option (RtEl r11_Great_rs×OutEl r11_Great_sg) :=
  bif ilt (100:Int) (ilen x.1.1) then
   some ((true,()),((),()))
  else
  bindL (r11_Great_l0 n n (x.1,(0:Int),())) (fun a1 =>
   some ((false,()),((),()))) fun b2 =>
  some (b2,((),()))
abbrev r11_Great_ent (n:Nat):Ent:=⟨62,r11_Great_sg,r11_Great_rs,r11_Great n⟩
theorem r11_Great_ok (n:Nat):EntOk Tryz.prog (r11_Great_ent n):=ent_ok' mixed (T:=[]) tabNil (tabLCons (r11_Great_l0_ok n n) tabLNil) fun x=>by kernel_rfl
abbrev r16_Step_sg:List Sg:=[.tree tScan, .tree (.slice tShard), .tree (.slice tDrop)]
abbrev r16_Step_rs:List Rt:=[.tree tScan]
def r16_Step (n:Nat) (x:SgEl r16_Step_sg):Option (RtEl r16_Step_rs×OutEl r16_Step_sg) :=
  bif ilt x.1.2.2.2.1 (0:Int) then
   some ((x.1,()),((),(),(),()))
  else
  bif ile (ilen x.2.1) x.1.2.2.2.1 then
   some ((x.1,()),((),(),(),()))
  else
  bif roomA ([]:List (El tItem)) x.1.2.2.2.2.1 64 then
   bif ile (0:Int) x.1.2.2.2.1 then
    bindN (lat x.2.1 (iN x.1.2.2.2.1)) fun v1 =>
    bindN (r11_Read n (v1,x.1.2.2.1,x.2.2)) fun p2 =>
    bif roomA (app ([]:List (El tItem)) x.1.2.2.2.2.1) p2.1.1 64 then
     some (((x.1.1,x.1.2.1,x.1.2.2.1,iadd .i64 x.1.2.2.2.1 (1:Int),app (app ([]:List (El tItem)) x.1.2.2.2.2.1) p2.1.1,()),()),((),(),(),()))
    else none
   else none
  else none
abbrev r16_Step_ent (n:Nat):Ent:=⟨22,r16_Step_sg,r16_Step_rs,r16_Step n⟩
theorem r16_Step_ok (n:Nat):EntOk Tryz.prog (r16_Step_ent n):=ent_ok' mixed (T:=[r11_Read_ent n]) (tabCons (r11_Read_ok n) tabNil) tabLNil fun x=>by kernel_rfl
abbrev r16_Answer_sg:List Sg:=[.tree tScan]
abbrev r16_Answer_rs:List Rt:=[.tree tAnswer]
def r16_Answer (n:Nat) (x:SgEl r16_Answer_sg):Option (RtEl r16_Answer_rs×OutEl r16_Answer_sg) :=
  bindN (r08_Answer n (x.1.2.1,x.1.2.2.2.2)) fun p1 =>
  some (((x.1.1,x.1.2.2.1,p1.1),()),((),()))
abbrev r16_Answer_ent (n:Nat):Ent:=⟨27,r16_Answer_sg,r16_Answer_rs,r16_Answer n⟩
theorem r16_Answer_ok (n:Nat):EntOk Tryz.prog (r16_Answer_ent n):=ent_ok' mixed (T:=[r08_Answer_ent n]) (tabCons (r08_Answer_ok n) tabNil) tabLNil fun x=>by kernel_rfl
abbrev r16_All_sg:List Sg:=[.tree tQuery, .tree (.int .i64), .tree (.slice tDrop), .tree (.slice tShard)]
abbrev r16_All_rs:List Rt:=[.tree (.slice tRow)]
def r16_All_l0 (n:Nat):Nat→SgEl [.tree (.slice tDrop), .tree (.slice tShard), .boxr tScan, .tree (.int .i64)]→Option (SgEl [.boxr tScan] ⊕ SgEl [])
  | 0,_=>none
  | g+1,s =>
    bif ilt s.2.2.2.1 (ilen s.2.1) then
     bindN (r16_Step n (s.2.2.1,s.2.1,s.1,())) fun p1 =>
     bindL (r16_All_l0 n g (s.1,s.2.1,p1.1.1,iadd .i64 s.2.2.2.1 (1:Int),())) (fun a2 =>
      some (Sum.inl a2)) fun b3 =>
     some (Sum.inr ())
    else
    some (Sum.inl (s.2.2.1,()))
theorem r16_All_l0_ok (n:Nat):∀ g,LEntOk Tryz.prog 33 (nSl r16_All_sg) ⟨0,[.tree (.slice tDrop), .tree (.slice tShard), .boxr tScan, .tree (.int .i64)],0,[.boxr tScan],[],r16_All_l0 n g⟩ g
  | 0=>loop_zero' fun _=>rfl
  | g+1=>loop_step' mixed (T:=[r16_Step_ent n,r16_Answer_ent n]) (tabCons (r16_Step_ok n) (tabCons (r16_Answer_ok n) tabNil)) tabLNil (r16_All_l0_ok n g) fun s=>by kernel_rfl
def r16_All (n:Nat) (x:SgEl r16_All_sg):Option (RtEl r16_All_rs×OutEl r16_All_sg) :=
  bindL (r16_All_l0 n n (x.2.2.1,x.2.2.2.1,((0:Int),x.1,x.2.1,(0:Int),[],()),(0:Int),())) (fun a1 =>
   bindN (r16_Answer n a1) fun p3 =>
   some (p3.1.1.2.2,((),(),(),(),()))) fun b2 =>
  none
abbrev r16_All_ent (n:Nat):Ent:=⟨33,r16_All_sg,r16_All_rs,r16_All n⟩
theorem r16_All_ok (n:Nat):EntOk Tryz.prog (r16_All_ent n):=ent_ok' mixed (T:=[r16_Step_ent n,r16_Answer_ent n]) (tabCons (r16_Step_ok n) (tabCons (r16_Answer_ok n) tabNil)) (tabLCons (r16_All_l0_ok n n) tabLNil) fun x=>by kernel_rfl
abbrev r16_Same_sg:List Sg:=[.tree tScan, .tree tScan]
abbrev r16_Same_rs:List Rt:=[.tree .bool]
def r16_Same (n:Nat) (x:SgEl r16_Same_sg):Option (RtEl r16_Same_rs×OutEl r16_Same_sg) :=
  bif ieq x.1.1 x.2.1.1 then
   bindN (r07_Same n (x.1.2.1,x.2.1.2.1,())) fun p1 =>
   bif p1.1.1 then
    bif ieq x.1.2.2.1 x.2.1.2.2.1 then
     bif ieq x.1.2.2.2.1 x.2.1.2.2.2.1 then
      bindN (r08_Items n (x.1.2.2.2.2.1,x.2.1.2.2.2.2)) fun p2 =>
      some (p2.1,((),(),()))
     else
     some ((false,()),((),(),()))
    else
    some ((false,()),((),(),()))
   else
   some ((false,()),((),(),()))
  else
  some ((false,()),((),(),()))
abbrev r16_Same_ent (n:Nat):Ent:=⟨23,r16_Same_sg,r16_Same_rs,r16_Same n⟩
theorem r16_Same_ok (n:Nat):EntOk Tryz.prog (r16_Same_ent n):=ent_ok' mixed (T:=[r07_Same_ent n,r08_Items_ent n]) (tabCons (r07_Same_ok n) (tabCons (r08_Items_ok n) tabNil)) tabLNil fun x=>by kernel_rfl
abbrev r16_Answers_sg:List Sg:=[.tree tAnswer, .tree tAnswer]
abbrev r16_Answers_rs:List Rt:=[.tree .bool]
def r16_Answers (n:Nat) (x:SgEl r16_Answers_sg):Option (RtEl r16_Answers_rs×OutEl r16_Answers_sg) :=
  bif ieq x.1.1 x.2.1.1 then
   bif ieq x.1.2.1 x.2.1.2.1 then
    bindN (r08_Same n (x.1.2.2.1,x.2.1.2.2)) fun p1 =>
    some (p1.1,((),(),()))
   else
   some ((false,()),((),(),()))
  else
  some ((false,()),((),(),()))
abbrev r16_Answers_ent (n:Nat):Ent:=⟨25,r16_Answers_sg,r16_Answers_rs,r16_Answers n⟩
theorem r16_Answers_ok (n:Nat):EntOk Tryz.prog (r16_Answers_ent n):=ent_ok' mixed (T:=[r08_Same_ent n]) (tabCons (r08_Same_ok n) tabNil) tabLNil fun x=>by kernel_rfl
abbrev r16_Great_sg:List Sg:=[.tree (.slice tShard)]
abbrev r16_Great_rs:List Rt:=[.tree .bool]
def r16_Great_l0 (n:Nat):Nat→SgEl [.tree (.slice tShard), .tree (.int .i64)]→Option (SgEl [] ⊕ SgEl [.tree .bool])
  | 0,_=>none
  | g+1,s =>
    bif ilt s.2.1 (ilen s.1) then
     bif ile (0:Int) s.2.1 then
      bindN (lat s.1 (iN s.2.1)) fun v1 =>
      bindN (r11_Great n (v1,())) fun p2 =>
      bif p2.1.1 then
       some (Sum.inr (true,()))
      else
      bif ile (0:Int) s.2.1 then
       bindN (lat s.1 (iN s.2.1)) fun v3 =>
       bif ilt (30:Int) (ilen v3.1) then
        some (Sum.inr (true,()))
       else
       bindL (r16_Great_l0 n g (s.1,iadd .i64 s.2.1 (1:Int),())) (fun a4 =>
        some (Sum.inl ())) fun b5 =>
       some (Sum.inr b5)
      else none
     else none
    else
    some (Sum.inl ())
theorem r16_Great_l0_ok (n:Nat):∀ g,LEntOk Tryz.prog 18 (nSl r16_Great_sg) ⟨0,[.tree (.slice tShard), .tree (.int .i64)],0,[],[.tree .bool],r16_Great_l0 n g⟩ g
  | 0=>loop_zero' fun _=>rfl
  | g+1=>loop_step' mixed (T:=[r11_Great_ent n]) (tabCons (r11_Great_ok n) tabNil) tabLNil (r16_Great_l0_ok n g) fun s=>by kernel_rfl
def r16_Great (n:Nat) (x:SgEl r16_Great_sg):Option (RtEl r16_Great_rs×OutEl r16_Great_sg) :=
  bif ilt (8:Int) (ilen x.1) then
   some ((true,()),((),()))
  else
  bindL (r16_Great_l0 n n (x.1,(0:Int),())) (fun a1 =>
   some ((false,()),((),()))) fun b2 =>
  some (b2,((),()))
abbrev r16_Great_ent (n:Nat):Ent:=⟨18,r16_Great_sg,r16_Great_rs,r16_Great n⟩
theorem r16_Great_ok (n:Nat):EntOk Tryz.prog (r16_Great_ent n):=ent_ok' mixed (T:=[r11_Great_ent n]) (tabCons (r11_Great_ok n) tabNil) (tabLCons (r16_Great_l0_ok n n) tabLNil) fun x=>by kernel_rfl
end Go.Proofs.YtdcphpbimeoioaaGreatDoorE
end
section
set_option linter.unusedSectionVars false
namespace Go.Proofs.YtdcphpbimeoioaaGreatDoorE
open Go
set_option linter.unusedVariables false
set_option maxRecDepth 100000
abbrev tRow_place:Ty := .pair (.int .i64) (.pair .str .unit)
abbrev cmp_isNaN_sg:List Sg:=[.tree (.int .i64)]
abbrev cmp_isNaN_rs:List Rt:=[.tree .bool]
def cmp_isNaN (n:Nat) (x:SgEl cmp_isNaN_sg):Option (RtEl cmp_isNaN_rs×OutEl cmp_isNaN_sg) :=
  some ((!(ieq x.1 x.1),()),((),()))
abbrev cmp_isNaN_ent (n:Nat):Ent:=⟨216,cmp_isNaN_sg,cmp_isNaN_rs,cmp_isNaN n⟩
theorem cmp_isNaN_ok [Dm] (n:Nat):EntOk Tryz.prog (cmp_isNaN_ent n):=ent_ok' mixed (T:=[]) tabNil tabLNil fun x=>by kernel_rfl
abbrev cmp_Compare_sg:List Sg:=[.tree (.int .i64), .tree (.int .i64)]
abbrev cmp_Compare_rs:List Rt:=[.tree (.int .i64)]
def cmp_Compare (n:Nat) (x:SgEl cmp_Compare_sg):Option (RtEl cmp_Compare_rs×OutEl cmp_Compare_sg) :=
  bindN (cmp_isNaN n (x.1,())) fun p1 =>
  bindN (cmp_isNaN n x.2) fun p2 =>
  bif p1.1.1 then
   bif p2.1.1 then
    some (((0:Int),()),((),(),()))
   else
   some (((-1:Int),()),((),(),()))
  else
  bif p2.1.1 then
   some (((1:Int),()),((),(),()))
  else
  bif ilt x.1 x.2.1 then
   some (((-1:Int),()),((),(),()))
  else
  bif ilt x.2.1 x.1 then
   some (((1:Int),()),((),(),()))
  else
  some (((0:Int),()),((),(),()))
abbrev cmp_Compare_ent (n:Nat):Ent:=⟨167,cmp_Compare_sg,cmp_Compare_rs,cmp_Compare n⟩
theorem cmp_Compare_ok [Dm] (n:Nat):EntOk Tryz.prog (cmp_Compare_ent n):=ent_ok' mixed (T:=[cmp_isNaN_ent n]) (tabCons (cmp_isNaN_ok n) tabNil) tabLNil fun x=>by kernel_rfl
abbrev cmp_Or_sg:List Sg:=[.tree (.slice (.int .i64))]
abbrev cmp_Or_rs:List Rt:=[.tree (.int .i64)]
def cmp_Or_l0 (n:Nat):Nat→SgEl [.tree (.int .i64), .tree (.slice (.int .i64)), .tree (.int .i64), .tree (.int .i64)]→Option (SgEl [.tree (.int .i64)] ⊕ SgEl [.tree (.int .i64)])
  | 0,_=>none
  | g+1,s =>
    bif ilt s.2.2.2.1 s.2.2.1 then
     bif ile (0:Int) s.2.2.2.1 then
      bindN (lat s.2.1 (iN s.2.2.2.1)) fun v1 =>
      bif !(ieq v1 s.1) then
       some (Sum.inr (v1,()))
      else
      bindL (cmp_Or_l0 n g (s.1,s.2.1,s.2.2.1,iadd .i64 s.2.2.2.1 (1:Int),())) (fun a2 =>
       some (Sum.inl a2)) fun b3 =>
      some (Sum.inr b3)
     else none
    else
    some (Sum.inl (s.1,()))
theorem cmp_Or_l0_ok [Dm] (n:Nat):∀ g,LEntOk Tryz.prog 166 (nSl cmp_Or_sg) ⟨0,[.tree (.int .i64), .tree (.slice (.int .i64)), .tree (.int .i64), .tree (.int .i64)],0,[.tree (.int .i64)],[.tree (.int .i64)],cmp_Or_l0 n g⟩ g
  | 0=>loop_zero' fun _=>rfl
  | g+1=>loop_step' mixed (T:=[]) tabNil tabLNil (cmp_Or_l0_ok n g) fun s=>by kernel_rfl
def cmp_Or (n:Nat) (x:SgEl cmp_Or_sg):Option (RtEl cmp_Or_rs×OutEl cmp_Or_sg) :=
  bindL (cmp_Or_l0 n n ((0:Int),x.1,ilen x.1,(0:Int),())) (fun a1 =>
   some (a1,((),()))) fun b2 =>
  some (b2,((),()))
abbrev cmp_Or_ent (n:Nat):Ent:=⟨166,cmp_Or_sg,cmp_Or_rs,cmp_Or n⟩
theorem cmp_Or_ok [Dm] (n:Nat):EntOk Tryz.prog (cmp_Or_ent n):=ent_ok' mixed (T:=[]) tabNil (tabLCons (cmp_Or_l0_ok n n) tabLNil) fun x=>by kernel_rfl
abbrev row_of_sg:List Sg:=[.tree tRow]
abbrev row_of_rs:List Rt:=[.tree tRow_place]
def row_of (n:Nat) (x:SgEl row_of_sg):Option (RtEl row_of_rs×OutEl row_of_sg) :=
  some (((x.1.1,x.1.2.1,()),()),((),()))
abbrev row_of_ent (n:Nat):Ent:=⟨100,row_of_sg,row_of_rs,row_of n⟩
theorem row_of_ok [Dm] (n:Nat):EntOk Tryz.prog (row_of_ent n):=ent_ok' mixed (T:=[]) tabNil tabLNil fun x=>by kernel_rfl
abbrev row_order_sg:List Sg:=[.tree tRow_place, .tree tRow_place]
abbrev row_order_rs:List Rt:=[.tree (.int .i64)]
def row_order (n:Nat) (x:SgEl row_order_sg):Option (RtEl row_order_rs×OutEl row_order_sg) :=
  bindN (cmp_Compare n (x.1.1,x.2.1.1,())) fun p1 =>
  bindN (s_Compare n (x.1.2.1,x.2.1.2)) fun p2 =>
  bindN (cmp_Or n ([p1.1.1,p2.1.1],())) fun p3 =>
  some (p3.1,((),(),()))
abbrev row_order_ent (n:Nat):Ent:=⟨99,row_order_sg,row_order_rs,row_order n⟩
theorem row_order_ok [Dm] (n:Nat):EntOk Tryz.prog (row_order_ent n):=ent_ok' mixed (T:=[cmp_Compare_ent n,s_Compare_ent n,cmp_Or_ent n]) (tabCons (cmp_Compare_ok n) (tabCons (s_Compare_ok n) (tabCons (cmp_Or_ok n) tabNil))) tabLNil fun x=>by kernel_rfl
abbrev row_Answer2_sg:List Sg:=[.tree tRow, .tree tRow]
abbrev row_Answer2_rs:List Rt:=[.tree (.int .i64)]
def row_Answer2 (n:Nat) (x:SgEl row_Answer2_sg):Option (RtEl row_Answer2_rs×OutEl row_Answer2_sg) :=
  bindN (row_of n (x.1,())) fun p1 =>
  bindN (row_of n x.2) fun p2 =>
  bindN (row_order n (p1.1.1,p2.1)) fun p3 =>
  some (p3.1,((),(),()))
abbrev row_Answer2_ent (n:Nat):Ent:=⟨126,row_Answer2_sg,row_Answer2_rs,row_Answer2 n⟩
theorem row_Answer2_ok [Dm] (n:Nat):EntOk Tryz.prog (row_Answer2_ent n):=ent_ok' mixed (T:=[row_of_ent n,row_order_ent n]) (tabCons (row_of_ok n) (tabCons (row_order_ok n) tabNil)) tabLNil fun x=>by kernel_rfl
end Go.Proofs.YtdcphpbimeoioaaGreatDoorE
end
section
set_option linter.unusedSectionVars false
namespace Go.Proofs.YtdcphpbimeoioaaGreatDoorE
open Go Go.RowKit Go.Shelf
open Go.Sort (HoldsK flatK get_flatK size_flatK putCells)
set_option linter.unusedVariables false
set_option linter.unusedSimpArgs false
section
variable {P:Program} {S:Nat→SL} {F:Nat→Prop} {w w':World} {H:Heap}
theorem below_rel (hr:Rel S F w H) (bel:BelD w w'):Rel S F w' H∧Adv S F w H S F w' H:=by
 have hlive:∀ b k,blkOf (S b)=some k→k<w.heap.size:=by
  intro b k hb
  cases hg:hget H b with
  | unused=>rw [unused_S hr hg] at hb;cases hb
  | dead =>
   have:=hr.slots b;rw [hg] at this
   cases hs:S b<;>rw [hs] at this hb<;>simp only [SlotOk] at this
   cases hb
  | live y=>exact blkOf_lt hr hg hb
 exact ⟨⟨fun b=>(hr.slots b).mono (fun _ h=>h) (fun k hk=>bel.block k (hr.fsz k hk)) (fun _ _ => .inl rfl) (fun k hk=>bel.block k (hlive b k hk)) (fun _ _ h=>h),hr.inj,fun k hk=>Nat.lt_of_lt_of_le (hr.fsz k hk) bel.size,hr.gl.mono (fun _ h=>h) fun k hk=>bel.block k (hr.fsz k hk)⟩,
  ⟨fun _ h=>h,fun _ _ => .inl rfl,bel.size,fun k hk _=>bel.block k hk,fun k hk => .inl hk,fun k h => .inl h,bel.os,bel.tape,bel.output,bel.drawn⟩⟩
theorem app_copy {t:Ty} {xs:List (El t)} {v:Value} {tS e ty:TypeId} {z:List PV} {bytes:Nat} (hr:Rel S F w []) (hv:Val S F w (.lst t xs) v) (ht:P.underlying tS=some (.slice e)) (hz:zeroPV P e=some z) (hs:szOf P e=some t.size) (hby:0<bytes) (hbe:P.bytesOf e=bytes)
  (hroom:room xs.length bytes=true) (a:Option Addr) :
  ∃ u' w' S' F',(Builtin.append_ #[tS,tS] ty #[.slice a 0 0,v]).run P w = .ok u' w'∧Rel S' F' w' [.live (.arr t xs true)]∧Val S' F' w' (.own 0) u'∧Adv S F w [] S' F' w' [.live (.arr t xs true)]:=by
 have h:appendV 0 [] t.size bytes (.emp t) (.lst t xs) (fun p H=>some (p,H))=some (.own 0,[.live (.arr t xs true)]):=by
  simp [appendV,elsOf,castL,optK,hroom,fresh,fH_eq,hset,hget]
 obtain ⟨u',w',h1,p,H',S',F',h2,h3,h4,h5⟩:=ok_appendE (nb:=0) (ty:=ty) hr (.emp t a) hv ht hz hs hby hbe (.inl ⟨e,ht⟩) (by simp [ht]) h
 simp only [Option.some.injEq,Prod.mk.injEq] at h2
 obtain ⟨rfl,rfl⟩:=h2
 exact ⟨u',w',S',F',h1,h3,h4,h5⟩
theorem own_none (hr:Rel S F w []) (bel:BelD w w') (t:Ty) (a:Option Addr) :
  ∃ S' F',Rel S' F' w' [.live (.arr t [] true)]∧Val S' F' w' (.own 0) (.slice a 0 0)∧Adv S F w [] S' F' w' [.live (.arr t [] true)]:=by
 obtain ⟨h1,h2⟩:=below_rel hr bel
 obtain ⟨S',n1,n2,n3⟩:=new_none (nb:=0) h1 (by simp [hget]) t a
 exact ⟨S',F,n1,n3,h2.trans' n2⟩
def pvVal:PV→Value
 | .int k n => .int k n
 | .bool b => .bool b
 | .str s => .string s
 | _=>undef
def flatY:Ty→Bool
 | .int _|.bool|.str|.unit=>true
 | .pair a b=>flatY a && flatY b
 | _=>false
def encT (t:Ty) (x:El t):List Value:=(cellsOf t x).map pvVal
theorem flat_pv:∀ (t:Ty),flatY t=true→∀ (x:El t) (p:PV),p∈cellsOf t x→(pvVal p).oneCell=true∧∀ (S:Nat→SL) (F:Nat→Prop) (w:World),Val S F w p (pvVal p)∧∀ v,Val S F w p v→v=pvVal p
 | .int k,_,n,p,h=>by simp [cellsOf] at h;subst h;exact ⟨rfl,fun S F w=>⟨.int _ _,fun v hv=>val_int hv⟩⟩
 | .bool,_,b,p,h=>by simp [cellsOf] at h;subst h;exact ⟨rfl,fun S F w=>⟨.bool _,fun v hv=>val_bool hv⟩⟩
 | .str,_,s,p,h=>by simp [cellsOf] at h;subst h;exact ⟨rfl,fun S F w=>⟨.str _,fun v hv=>val_str hv⟩⟩
 | .unit,_,_,p,h=>by simp [cellsOf] at h
 | .slice t,h,_,_,_=>by cases h
 | .none,h,_,_,_=>by cases h
 | .pair a b,hf,x,p,h=>by
  simp only [flatY,Bool.and_eq_true] at hf
  simp only [cellsOf,List.mem_append] at h
  rcases h with h|h
  ·exact flat_pv a hf.1 _ p h
  ·exact flat_pv b hf.2 _ p h
theorem encT_len (t:Ty) (x:El t):(encT t x).length=t.size:=by simp [encT,cellsOf_size]
theorem encT_one {t:Ty} (h:flatY t=true) (x:El t):∀ v∈encT t x,v.oneCell'=true:=by
 intro v hv
 obtain ⟨p,hp,rfl⟩:=List.mem_map.1 hv
 exact one' (flat_pv t h x p hp).1
theorem place_lt {j i k n:Nat} (hj:j<n) (hi:i<k):j * k+i<n * k:=by
 have h1:(j+1) * k≤n * k:=Nat.mul_le_mul_right k hj
 rw [Nat.succ_mul] at h1;omega
theorem place_div {j i k:Nat} (hi:i<k):(j * k+i) / k=j:=by
 rw [Nat.mul_comm,Nat.mul_add_div (by omega),Nat.div_eq_of_lt hi,Nat.add_zero]
theorem place_mod {j i k:Nat} (hi:i<k):(j * k+i) % k=i:=by
 rw [Nat.mul_comm,Nat.mul_add_mod,Nat.mod_eq_of_lt hi]
theorem flat_get {t:Ty} [Inhabited (El t)] {r:List (El t)} {i j:Nat} {x:El t} {p:PV} (hx:r[i]?=some x) (hp:(cellsOf t x)[j]?=some p) :
  i * t.size+j<(flatK (encT t) t.size r.toArray).size∧(flatK (encT t) t.size r.toArray)[i * t.size+j]! = pvVal p:=by
 have hi:=(List.getElem?_eq_some_iff.1 hx).1
 have hj:j<t.size:=by have:=(List.getElem?_eq_some_iff.1 hp).1;rwa [cellsOf_size] at this
 have hT:i * t.size+j<r.toArray.size * t.size:=by simpa using place_lt hi hj
 refine ⟨by rw [size_flatK];exact hT,?_⟩
 rw [get_flatK _ _ _ _ hT,place_div hj,place_mod hj]
 have e1:r.toArray[i]! = x:=by rw [getElem!_pos r.toArray i (by simpa using hi)];simpa using (List.getElem?_eq_some_iff.1 hx).2
 rw [e1,getElem!_pos (encT t x) j (by rw [encT_len];exact hj)]
 simp only [encT,List.getElem_map]
 rw [(List.getElem?_eq_some_iff.1 hp).2]
theorem sortW_holds {α:Type} [Inhabited α] {enc:α→List Value} {k:Nat} {w:World} {blk off m:Nat} {dk:Array α} {os:Array Obj} (hg:gHolds w) (hne:∀ j∈gBlocks,j≠blk):gHolds (sortWorldK enc k w blk off m dk os):=by
 refine gHolds_same (fun j hj=>?_) hg
 have hlt:=gHolds_lt hg j hj
 show ((w.heap.modify blk _)++os)[j]?=w.heap[j]?
 rw [Array.getElem?_append_left (by simpa using hlt),Array.getElem?_modify,if_neg (fun e=>hne j hj e.symm)]
theorem enc_val {S:Nat→SL} {F:Nat→Prop} {w:World} {a b:Ty} (hfl:flatY (.pair a b)=true) (x:El (.pair a b)):Val S F w (valPV (.pair a b) x) (.agg (encT (.pair a b) x).toArray):=by
 refine .agg _ _ (by simp [encT]) (fun i p v hp hv=>?_) (fun i v hv=>?_)
 ·simp only [encT,List.getElem?_toArray,List.getElem?_map,hp,Option.map_some,Option.some.injEq] at hv
  rw [← hv]
  exact ((flat_pv _ hfl x p (List.mem_of_getElem? hp)).2 S F w).1
 ·simp only [encT,List.getElem?_toArray,List.getElem?_map] at hv
  cases hp:(cellsOf (.pair a b) x)[i]? with
  | none=>rw [hp] at hv;cases hv
  | some p =>
   rw [hp] at hv
   cases hv
   exact (flat_pv _ hfl x p (List.mem_of_getElem? hp)).1
theorem drew_grow {w w':World} (h1:w'.os=w.os) (h2:w'.tape=w.tape) (h3:w'.output=w.output) (h4:w.drawn≤w'.drawn) (h5:w.heap.size≤w'.heap.size) (h6:∀ k,k<w.heap.size→w'.heap[k]?=w.heap[k]?):∃ q os,w'=Go.Sort.grow (w.drewN q) os:=by
 refine ⟨w'.drawn - w.drawn,w'.heap.extract w.heap.size w'.heap.size,?_⟩
 have e:w'.heap=w.heap++w'.heap.extract w.heap.size w'.heap.size:=by
  apply Array.ext_getElem?
  intro i
  rw [Array.getElem?_append]
  split
  ·rename_i hi;exact h6 i hi
  ·rename_i hi
   rw [Array.getElem?_extract]
   split
   ·congr 1;omega
   ·exact Array.getElem?_eq_none (by omega)
 obtain ⟨hp,tp,dr,o,out⟩:=w'
 simp only at *
 subst h1;subst h2;subst h3
 show (⟨hp,w.tape,dr,w.os,w.output⟩:World)=⟨w.heap++_,w.tape,w.drawn+(dr - w.drawn),w.os,w.output⟩
 rw [show w.drawn+(dr - w.drawn)=dr by omega,← e]
theorem order_of {f:FuncId} {a b:Ty} (hfl:flatY (.pair a b)=true) {G:SgEl [.tree (.pair a b), .tree (.pair a b)]→Option (RtEl [.tree (.int .i64)]×OutEl [.tree (.pair a b), .tree (.pair a b)])} (h:@EntOk ⟨true⟩ P ⟨f,[.tree (.pair a b), .tree (.pair a b)],[.tree (.int .i64)],G⟩)
  {x y:El (.pair a b)} {c:Int} (hG:G (x,y,())=some ((c,()),((),(),()))) {W:World} (hg:gHolds W) :
  Calls P f #[.agg (encT (.pair a b) x).toArray, .agg (encT (.pair a b) y).toArray] W fun e w'=>e = .returned (.int .i64 c)∧∃ q os',w'=Go.Sort.grow (W.drewN q) os':=by
 obtain ⟨_,h2⟩:=h (x,y,()) _ hG
 have hR:Rel (fun _ => .unused) (fun k=>k∈gBlocks) W (heapOf [.tree (.pair a b), .tree (.pair a b)] (x,y,())):=by
  show Rel (fun _=>SL.unused) (fun k=>k∈gBlocks) W []
  exact ⟨fun b=>by simp [hget,SlotOk],fun b b' k h1=>(by simp [blkOf] at h1),fun k hk=>gHolds_lt hg k hk,⟨fun k hk=>hk,hg⟩⟩
 have hA:Args (fun _=>SL.unused) (fun k=>k∈gBlocks) W (argsOf [.tree (.pair a b), .tree (.pair a b)] (x,y,()) 0) #[.agg (encT (.pair a b) x).toArray, .agg (encT (.pair a b) y).toArray]:=by
  refine ⟨rfl,fun i p v hp hv=>?_⟩
  match i,hp,hv with
  | 0,hp,hv=>cases hp;cases hv;exact enc_val hfl x
  | 1,hp,hv=>cases hp;cases hv;exact enc_val hfl y
  | i+2,hp,hv=>simp at hv
 refine (h2 _ _ W _ hR hA).mono ?_
 rintro e w' ⟨v,S',F',rfl,_,hv,hAd⟩
 have e1:v = .int .i64 c:=val_int hv
 refine ⟨by rw [e1],drew_grow (@Adv.st ⟨true⟩ _ _ _ _ _ _ _ _ hAd).1 (@Adv.st ⟨true⟩ _ _ _ _ _ _ _ _ hAd).2.1 (@Adv.st ⟨true⟩ _ _ _ _ _ _ _ _ hAd).2.2.1 ((@Adv.st ⟨true⟩ _ _ _ _ _ _ _ _ hAd).2.2.2 rfl) (@Adv.sz ⟨true⟩ _ _ _ _ _ _ _ _ hAd) fun k hk=>@Adv.same ⟨true⟩ _ _ _ _ _ _ _ _ hAd k hk ?_⟩
 rintro ⟨b',z,hz,hw,_⟩
 have hz:hget ([]:Heap) b' = .live z:=hz
 simp [hget] at hz
theorem ent_sort {f g:FuncId} {t:Ty} [Inhabited (El t)] (hfl:flatY t=true) (hE:Enters P f) (sorted:List (El t)→List (El t)) (hlen:∀ l,(sorted l).length=l.length)
  (hcell:∀ (l:List (El t)) (blk off cap:Nat) (w:World),HoldsK (encT t) t.size w blk off l.toArray→blk<w.heap.size→l.length<4611686018427387904→gHolds w→(∀ k∈gBlocks,k≠blk) →
   Calls P f #[.slice (some ⟨blk,off,none⟩) l.length cap, .func (.func g) #[] #[]] w fun e w'=>e = .returned (.tuple #[])∧∃ n os,w'=sortWorldK (encT t) t.size w blk off n (sorted l).toArray os)
  (hnone:∀ A c w,Calls P f #[.slice A 0 c, .func (.func g) #[] #[]] w fun e w'=>e = .returned (.tuple #[])∧w'=w) :
  EntOk P ⟨f,[.own t, .fnv g []],[],fun x=>bif Nat.blt x.1.length 4611686018427387904 then some ((),(sorted x.1,((),()))) else none⟩:=by
 intro x y hy
 obtain ⟨l,cs,u⟩:=x
 obtain ⟨h0,hy⟩:=cond_some hy
 simp only [Option.some.injEq] at hy
 subst hy
 refine ⟨hE,?_⟩
 intro S F w vs hr hA
 have hlt:l.length<4611686018427387904:=Nat.le_of_ble_eq_true h0
 have hsz:vs.size=2:=hA.1
 obtain ⟨v0,v1,rfl⟩:∃ v0 v1,vs=#[v0,v1]:=by
  obtain ⟨q⟩:=vs
  match q,hsz with
  | [a,b],_=>exact ⟨a,b,rfl⟩
 have a0:Val S F w (.own 0) v0:=hA.2 0 _ v0 rfl rfl
 have a1:Val S F w (.fn g [] []) v1:=hA.2 1 _ v1 rfl rfl
 obtain rfl:v1 = .func (.func g) #[] #[]:=by
  cases a1 with
  | fn _ _ _ va vb la lb _ _=>rw [Array.eq_empty_of_size_eq_zero la,Array.eq_empty_of_size_eq_zero lb]
 have hH:heapOf [.own t, .fnv g []] (l,cs,u)=[.live (.arr t l true)]:=rfl
 rw [hH] at hr
 have hb:hget [Slot.live (.arr t l true)] 0 = .live (.arr t l true):=rfl
 have hres:encOut [.own t, .fnv g []] [] (l,cs,u) ((),(sorted l,((),())))=(.tup [],[.live (.arr t (sorted l) true)]):=rfl
 rw [hres]
 show Calls P f #[v0, .func (.func g) #[] #[]] w fun e w'=>∃ v S' F',e = .returned v∧Rel S' F' w' [.live (.arr t (sorted l) true)]∧Val S' F' w' (.tup []) v∧Adv S F w (heapOf [.own t, .fnv g []] (l,cs,u)) S' F' w' [.live (.arr t (sorted l) true)]
 rw [hH]
 have hT:∀ (S:Nat→SL) (F:Nat→Prop) (w:World),Val S F w (.tup []) (.tuple #[]):=fun S F w => .tup _ _ rfl fun i p v hp=>by simp at hp
 obtain ⟨a,cap,hS,hcap,hor,hsp⟩:=hget_arr hr hb
 obtain rfl:v0 = .slice a l.length cap:=by
  cases a0 with
  | own _ _ _ _ _ h=>rw [hS] at h;cases h;rfl
  | ownd _ _ h _=>rw [hS] at h;cases h
 by_cases hl:l=[]
 ·subst hl
  have:sorted []=[]:=List.length_eq_zero_iff.1 (hlen [])
  rw [this]
  refine (hnone a cap w).mono ?_
  rintro e w' ⟨rfl,rfl⟩
  exact ⟨_,S,F,rfl,hr,hT _ _ _,Adv.refl _ _ _ _⟩
 ·have hpos:0<l.length:=List.length_pos_iff.2 hl
  rcases hor with h0|⟨ad,rfl,hAr,hF1,hF2⟩
  ·omega
  obtain ⟨g0,c,tt,fr,g1,g2,g3,g4,g5⟩:=hAr
  obtain ⟨blk,off,sp⟩:=ad
  simp only at g0 g1 g2 g5 hF1
  subst g0
  have hbk:blk<w.heap.size:=(Array.getElem?_eq_some_iff.1 g1).1
  have hcapk:l.length * t.size≤cap * t.size:=Nat.mul_le_mul_right _ hcap
  have hHo:HoldsK (encT t) t.size w blk off l.toArray:=by
   intro T hT'
   have hT2:T<l.length * t.size:=by simpa [size_flatK] using hT'
   obtain ⟨e1,e2,e3⟩:=split_lt hT2
   have hx:=List.getElem?_eq_getElem e1
   have hl2:T % t.size<(cellsOf t l[T / t.size]).length:=by rw [cellsOf_size];exact e2
   have hp:=List.getElem?_eq_getElem hl2
   obtain ⟨v,k1,k2⟩:=g5 _ _ _ _ hx hp
   obtain ⟨k3,k4⟩:=flat_get (t:=t) hx hp
   rw [e3] at k4
   have k5:=((flat_pv t hfl _ _ (List.mem_of_getElem? hp)).2 S F w).2 v k2
   have e4:off+T / t.size * t.size+T % t.size=off+T:=by omega
   rw [e4] at k1
   refine ⟨?_,?_⟩
   ·show w.cell? ⟨blk,off+T,none⟩=some (id (flatK (encT t) t.size l.toArray)[T]!)
    rw [k4]
    simp [World.cell?,g1,k1,k5]
   ·have:=g3 (off+T)
    simp only [World.frozen?,g1]
    have q0:off+T<c.size:=by omega
    have q3:=this q0
    by_cases q1:fr.1≤off+T
    ·have q2:¬ off+T<fr.2:=fun h=>q3 ⟨q1,h⟩
     simp [q1,q2]
    ·simp [q1]
  refine (hcell l blk off cap w hHo hbk hlt hr.gl.2 fun k hk e=>hF1 trivial (e ▸ hr.gl.1 k hk)).mono ?_
  rintro e w' ⟨rfl,n,os,rfl⟩
  generalize hr':sorted l=r
  have hrl:r.length=l.length:=hr' ▸ hlen l
  let c':Array Value:=putCells id off (flatK (encT t) t.size r.toArray) c
  let w1:World:=Go.Sort.putRowK (encT t) t.size (Go.Sort.ahead w n) blk off r.toArray
  have hw1:∀ k,w1.heap[k]?=if blk=k then some (.cells c' tt fr) else w.heap[k]?:=by
   intro k
   show (w.heap.modify blk _)[k]?=_
   rw [Array.getElem?_modify]
   by_cases hk:blk=k
   ·subst hk
    rw [if_pos rfl,if_pos rfl,g1];rfl
   ·rw [if_neg hk,if_neg hk]
  have hs1:w1.heap.size=w.heap.size:=by show (w.heap.modify blk _).size=_;simp
  have hc's:c'.size=c.size:=by simp [c',putCells]
  have hfs:(flatK (encT t) t.size r.toArray).size=l.length * t.size:=by rw [size_flatK];simp [hrl]
  have hbo:blkOf (S 0)=some blk:=by rw [hS];simp [blkOf];omega
  have hx1:Blk.wr (.arr t l true)=true:=rfl
  have hin:∀ i x j p,r[i]?=some x→(cellsOf t x)[j]?=some p→c'[off+i * t.size+j]?=some (pvVal p):=by
   intro i x j p hx hp
   obtain ⟨k3,k4⟩:=flat_get (t:=t) hx hp
   rw [hfs] at k3
   simp only [c',putCells,Array.getElem?_mapIdx]
   rw [Array.getElem?_eq_getElem (by omega:off+i * t.size+j<c.size),Option.map_some,if_pos ⟨by omega,by rw [hfs];omega⟩]
   rw [show off+i * t.size+j - off=i * t.size+j by omega,k4];rfl
  have hok:SlotOk S F w1 (.live (.arr t r true)) (S 0):=by
   rw [hS]
   simp only [SlotOk]
   refine ⟨by rw [hrl],trivial,hcap,fun _ ad h=>by cases h;rfl, .inr ⟨_,rfl,⟨rfl,c',tt,fr,by rw [hw1,if_pos rfl],by rw [hc's];exact g2,by rw [hc's];exact g3,fun j v hv=>?_,fun i x j p hx hp=>⟨_,hin i x j p hx hp,((flat_pv t hfl _ _ (List.mem_of_getElem? hp)).2 S F w1).1⟩⟩,hF1,hF2⟩⟩
   simp only [c',putCells,Array.getElem?_mapIdx] at hv
   cases hcj:c[j]? with
   | none=>rw [hcj] at hv;cases hv
   | some q =>
    rw [hcj] at hv
    simp only [Option.map_some,Option.some.injEq] at hv
    split at hv
    ·subst hv
     rename_i hj
     have hT2:j - off<r.length * t.size:=by rw [hrl];rw [hfs] at hj;omega
     obtain ⟨e1,e2,e3⟩:=split_lt hT2
     have hx:=List.getElem?_eq_getElem e1
     have hl2:(j - off) % t.size<(cellsOf t r[(j - off) / t.size]).length:=by rw [cellsOf_size];exact e2
     have hp:=List.getElem?_eq_getElem hl2
     obtain ⟨_,k4⟩:=flat_get (t:=t) hx hp
     rw [e3] at k4
     rw [k4]
     exact (flat_pv t hfl _ _ (List.mem_of_getElem? hp)).1
    ·subst hv;exact g4 j _ hcj
  obtain ⟨q1,q2⟩:=upd_rel (w':=w1) (y := .arr t r true) hr hb hx1 rfl hbo hs1 (fun k' hk'=>by rw [hw1,if_neg (fun h=>hk' h.symm)]) ⟨rfl,rfl,rfl,fun d=>Bool.noConfusion d⟩ hok
  have bel:BelD w1 (sortWorldK (encT t) t.size w blk off n r.toArray os):=by
   refine ⟨⟨rfl,rfl,rfl,?_,fun k hk=>?_⟩,fun d=>Bool.noConfusion d⟩
   ·show w1.heap.size≤(w1.heap++os).size
    rw [Array.size_append];omega
   ·show (w1.heap++os)[k]?=_
    rw [Array.getElem?_append_left hk]
  obtain ⟨q3,q4⟩:=below_rel q1 bel
  exact ⟨_,S,F,rfl,q3,hT _ _ _,q2.trans' q4⟩
theorem ent_grow {ρ:Ren} (L:Lays8.n4 P ρ) {t:Ty} {bytes:Nat} {zp:List PV} (hz:zeroPV P (ρ.t 25)=some zp) (hs:szOf P (ρ.t 25)=some t.size) (ht:0<t.size) (hb:P.bytesOf (ρ.t 25)=bytes) (hb0:0<bytes) (hE:Enters P (ρ.f 4)) :
  EntOk P ⟨ρ.f 4,[.nl t, .tree (.int .i64)],[.own t],fun x=>bif ile 0 x.2.1 && room x.2.1.toNat bytes then some (([],()),((),((),()))) else none⟩:=by
 intro x y hy
 obtain ⟨u0,n,u⟩:=x
 obtain ⟨h0,hy⟩:=cond_some hy
 simp only [Option.some.injEq] at hy
 subst hy
 simp only [Bool.and_eq_true] at h0
 have hn0:0≤n:=by have:=h0.1;unfold ile at this;simpa using this
 obtain ⟨k,rfl⟩:=Int.eq_ofNat_of_zero_le hn0
 have hk:k * bytes≤70368744177664:=by have:=h0.2;unfold room at this;simpa using this
 have hk':k≤70368744177664:=Nat.le_trans (Nat.le_mul_of_pos_right k hb0) hk
 refine ⟨hE,?_⟩
 intro S F w vs hr hA
 have hsz:vs.size=2:=hA.1
 obtain ⟨v0,v1,rfl⟩:∃ v0 v1,vs=#[v0,v1]:=by
  obtain ⟨q⟩:=vs
  match q,hsz with
  | [a,b],_=>exact ⟨a,b,rfl⟩
 have a0:Val S F w (.nil t) v0:=hA.2 0 _ v0 rfl rfl
 have a1:Val S F w (.int .i64 (k:Int)) v1:=hA.2 1 _ v1 rfl rfl
 have e1:=val_int a1
 subst e1
 cases a0
 have hr':Rel S F w []:=hr
 show Calls P (ρ.f 4) #[.slice none 0 0, .int .i64 k] w fun e w'=>∃ v S' F',e = .returned v∧Rel S' F' w' [.live (.arr t [] true)]∧Val S' F' w' (.own 0) v∧Adv S F w [] S' F' w' [.live (.arr t [] true)]
 obtain ⟨i0,z,hi,hz0,hzs,hzf⟩:=zeroPV_spec hz
 have hisz:i0.size=t.size:=by unfold szOf at hs;rw [hi] at hs;simpa using hs
 have hib:i0.bytes=bytes:=by unfold Program.bytesOf at hb;rw [hi] at hb;simpa using hb
 by_cases hk0:k=0
 ·subst hk0
  refine (Any8.slices_Grow_room L none 0 0 0 w (Nat.le_refl _) (by omega) (by omega) (by omega)).mono ?_
  rintro e w' ⟨rfl,rfl⟩
  obtain ⟨S',F',n1,n2,n3⟩:=own_none hr' (BelD.refl _) t none
  exact ⟨_,S',F',rfl,n1,n2,n3⟩
 ·refine (Any8.slices_Grow_grow L i0 z hi hz0 (by omega) none 0 0 k [] w (Nat.le_refl _) (by omega) (by rw [hib,Nat.zero_add];omega) (by omega) (by simp) (fun _=>rfl) (fun a h=>by cases h)).mono ?_
  rintro e w' ⟨rfl,rfl⟩
  have hG:=grownCap_ge w (0+k) 0 (ρ.t 25)
  generalize grownCap w (0+k) 0 (ρ.t 25)=G at hG ⊢
  have hdr:(w.drew).heap=w.heap:=rfl
  have hr2:Rel S F w.drew []:=hr'.heap hdr
  obtain ⟨S',n1,n2,n3⟩:=new_arr (nb:=0) (t:=t) (xs:=[]) (c:=(([]:List Value).toArray++Builtin.zeroCells z.cells (0+k - 0)++Builtin.zeroCells z.cells (G - (0+k)))) (e:=ρ.t 25) (cap:=G) (fr:=(0,0)) hr2 (by simp [hget])
   (by simp) (by
    simp only [Array.size_append,size_zeroCells,List.size_toArray,List.length_nil,hzs,hisz]
    rw [Nat.zero_add,Nat.sub_zero,Nat.zero_add,← Nat.add_mul];exact Nat.mul_le_mul_right _ (by omega)) (fun k _ hh=>by simp at hh) (fun i x j p a b=>by simp at a)
   (fun j vv hvv=>by
    rw [Array.getElem?_append] at hvv
    split at hvv
    ·rw [Array.getElem?_append] at hvv
     split at hvv
     ·simp at hvv
     ·exact zeroCells_get (hzf S F w).2.2 hvv
    ·exact zeroCells_get (hzf S F w).2.2 hvv)
  have:=(Adv.heap hdr ⟨rfl,rfl,rfl,(fun _=>Nat.le_succ _)⟩ S F []).trans' n2
  exact ⟨_,S',F,rfl,n1,n3,this⟩
end
end Go.Proofs.YtdcphpbimeoioaaGreatDoorE
end
section
set_option linter.unusedSectionVars false
namespace Go.Proofs.YtdcphpbimeoioaaGreatDoorE
open Go
set_option linter.unusedVariables false
set_option linter.unusedSimpArgs false
theorem u8_lt_irrefl (a:UInt8):¬ a<a:=by simp
theorem bl_cons (a b:UInt8) (x y:List UInt8):Op.bytesLess (a ::x) (b ::y)=true↔a<b∨(a=b∧Op.bytesLess x y=true):=by
 simp [Op.bytesLess]
theorem cmp_lt:∀ a b:List UInt8,Lib.compareBytes a b<0↔Op.bytesLess a b=true
 | [],[]=>by simp [Lib.compareBytes,Op.bytesLess]
 | [],_ ::_=>by simp [Lib.compareBytes,Op.bytesLess]
 | _ ::_,[]=>by simp [Lib.compareBytes,Op.bytesLess]
 | a ::x,b ::y=>by
  rw [bl_cons,Lib.compareBytes]
  split
  ·rename_i h;simp [h]
  ·rename_i h
   split
   ·rename_i h2
    have hne:a≠b:=fun e=>by subst e;exact u8_lt_irrefl _ h2
    simp [h,hne]
   ·rename_i h2
    have e:a=b:=by
     apply UInt8.toNat_inj.1
     rw [UInt8.lt_iff_toNat_lt] at h h2;omega
    subst e
    simp [cmp_lt x y]
theorem cmp_zero:∀ a b:List UInt8,Lib.compareBytes a b=0↔a=b
 | [],[]=>by simp [Lib.compareBytes]
 | [],_ ::_=>by simp [Lib.compareBytes]
 | _ ::_,[]=>by simp [Lib.compareBytes]
 | a ::x,b ::y=>by
  rw [Lib.compareBytes]
  split
  ·rename_i h
   have hne:a≠b:=fun e=>by subst e;exact u8_lt_irrefl _ h
   simp [hne]
  ·rename_i h
   split
   ·rename_i h2
    have hne:a≠b:=fun e=>by subst e;exact u8_lt_irrefl _ h2
    simp [hne]
   ·rename_i h2
    have e:a=b:=by
     apply UInt8.toNat_inj.1
     rw [UInt8.lt_iff_toNat_lt] at h h2;omega
    subst e
    simp [cmp_zero x y]
theorem bl_irrefl:∀ a:List UInt8,Op.bytesLess a a=false
 | []=>rfl
 | a ::x=>by simp [Op.bytesLess,bl_irrefl x]
theorem bl_trans:∀ a b c:List UInt8,Op.bytesLess a b=true→Op.bytesLess b c=true→Op.bytesLess a c=true
 | _,_,[],_,h=>by simp [Op.bytesLess] at h
 | [],_,_ ::_,_,_=>rfl
 | _ ::_,[],_ ::_,h,_=>by simp [Op.bytesLess] at h
 | a ::x,b ::y,c ::z,h1,h2=>by
  rw [bl_cons] at *
  rcases h1 with h1|⟨rfl,h1⟩
  ·rcases h2 with h2|⟨rfl,h2⟩
   ·left;rw [UInt8.lt_iff_toNat_lt] at *;omega
   ·exact .inl h1
  ·rcases h2 with h2|⟨rfl,h2⟩
   ·exact .inl h2
   ·exact .inr ⟨rfl,bl_trans _ _ _ h1 h2⟩
theorem bl_total:∀ a b:List UInt8,a≠b→Op.bytesLess a b=true∨Op.bytesLess b a=true
 | [],[],h=>absurd rfl h
 | [],_ ::_,_ => .inl rfl
 | _ ::_,[],_ => .inr rfl
 | a ::x,b ::y,h=>by
  rw [bl_cons,bl_cons]
  by_cases e:a=b
  ·subst e
   rcases bl_total x y (fun e=>h (by rw [e])) with h1|h1
   ·exact .inl (.inr ⟨rfl,h1⟩)
   ·exact .inr (.inr ⟨rfl,h1⟩)
  ·have:a.toNat≠b.toNat:=fun h=>e (UInt8.toNat_inj.1 h)
   rcases Nat.lt_or_gt_of_ne this with h1|h1
   ·exact .inl (.inl (UInt8.lt_iff_toNat_lt.2 h1))
   ·exact .inr (.inl (UInt8.lt_iff_toNat_lt.2 h1))
theorem bl_asymm (a b:List UInt8) (h:Op.bytesLess a b=true):Op.bytesLess b a=false:=by
 cases h2:Op.bytesLess b a with
 | false=>rfl
 | true=>have:=bl_trans _ _ _ h h2;rw [bl_irrefl] at this;cases this
theorem ltOf_text {α:Type} (g:α→List UInt8) (x y:α):ltOf (fun x y=>Lib.compareBytes (g x) (g y)) x y=Op.bytesLess (g x) (g y):=by
 unfold ltOf
 rw [Bool.eq_iff_iff,decide_eq_true_iff]
 exact cmp_lt _ _
theorem swo_text {α:Type} (g:α→List UInt8):Sort.SWO (ltOf (fun x y:α=>Lib.compareBytes (g x) (g y))) where
 irrefl x:=by rw [ltOf_text,bl_irrefl]
 trans x y z h1 h2:=by rw [ltOf_text] at *;exact bl_trans _ _ _ h1 h2
 ntrans x y z h1 h2:=by
  rw [ltOf_text] at *
  cases h:Op.bytesLess (g x) (g z) with
  | false=>rfl
  | true =>
   by_cases e:g x=g y
   ·rw [e] at h;rw [h] at h2;cases h2
   ·rcases bl_total _ _ e with h3|h3
    ·rw [h3] at h1;cases h1
    ·have:=bl_trans _ _ _ h3 h;rw [this] at h2;cases h2
end Go.Proofs.YtdcphpbimeoioaaGreatDoorE
end
section
set_option linter.unusedSectionVars false
namespace Go.Proofs.YtdcphpbimeoioaaGreatDoorE
open Go
set_option linter.unusedVariables false
section
variable {α β ω:Type}
@[simp] theorem ilt_eq (a b:Int):ilt a b=decide (a<b):=by unfold ilt;rfl
@[simp] theorem ile_eq (a b:Int):ile a b=decide (a≤b):=by unfold ile;rfl
@[simp] theorem ieq_eq (a b:Int):ieq a b=decide (a=b):=by unfold ieq;by_cases h:a=b<;>simp [h]
@[simp] theorem seq_eq (a b:ByteArray):seq a b=decide (a=b):=by
 unfold seq
 rw [ByteArray.toList_eq,ByteArray.toList_eq]
 by_cases h:a=b
 ·subst h;simp
 ·have:¬ a.data.toList=b.data.toList:=fun e=>h (ByteArray.ext (Array.ext' e))
  rw [decide_eq_false h];exact beq_eq_false_iff_ne.2 this
@[simp] theorem slt_eq (a b:ByteArray):slt a b=Op.bytesLess a.data.toList b.data.toList:=by unfold slt;rw [ByteArray.toList_eq,ByteArray.toList_eq]
@[simp] theorem ssize_eq (a:ByteArray):ssize a=(a.size:Int):=by unfold ssize;rfl
@[simp] theorem bindN_s (x:α) (K:α→Option β):bindN (some x) K=K x:=by unfold bindN;rfl
@[simp] theorem bindN_n (K:α→Option β):bindN none K=none:=by unfold bindN;rfl
@[simp] theorem bindL_inl (x:α) (K:α→Option β) (R:ω→Option β):bindL (some (.inl x)) K R=K x:=by unfold bindL;rfl
@[simp] theorem bindL_inr (x:ω) (K:α→Option β) (R:ω→Option β):bindL (some (.inr x)) K R=R x:=by unfold bindL;rfl
@[simp] theorem bindL_none (K:α→Option β) (R:ω→Option β):bindL none K R=none:=by unfold bindL;rfl
@[simp] theorem beqB_eq (a b:Bool):beqB a b=decide (a=b):=by cases a<;>cases b<;>rfl
theorem nth_get:∀ (xs:List α) (i:Nat),nth xs i=xs[i]?
 | [],_=>by simp [nth]
 | x ::r,0=>by simp [nth]
 | x ::r,n+1=>by simp [nth,nth_get r n]
@[simp] theorem lat_eq (xs:List α) (i:Nat):lat xs i=xs[i]?:=by unfold lat;exact nth_get xs i
@[simp] theorem win_eq (xs:List α) (i n:Nat):win xs i n=(xs.drop i).take n:=by unfold win;rfl
theorem wrap64 {n:Int} (h1 : -9223372036854775808≤n) (h2:n≤9223372036854775807):IntKind.i64.wrap n=n:=by
 simp [IntKind.wrap,IntKind.bits,IntKind.signed];omega
theorem iadd64 {a b:Int} (h1 : -9223372036854775808≤a+b) (h2:a+b≤9223372036854775807):iadd .i64 a b=a+b:=by unfold iadd;exact wrap64 h1 h2
theorem isub64 {a b:Int} (h1 : -9223372036854775808≤a - b) (h2:a - b≤9223372036854775807):isub .i64 a b=a - b:=by unfold isub;exact wrap64 h1 h2
theorem iadd1 {i:Nat} (h:i<4611686018427387904):iadd .i64 (i:Int) 1=((i+1:Nat):Int):=by rw [iadd64 (by omega) (by omega)];rfl
@[simp] theorem bindL_id (X:Option (Unit ⊕ ω)):bindL X (fun _=>some (Sum.inl ())) (fun b=>some (Sum.inr b))=X:=by
 rcases X with _|⟨⟨⟩|_⟩<;>simp
@[simp] theorem bindL_id1 (X:Option (α ⊕ ω)):bindL X (fun a=>some (Sum.inl a)) (fun b=>some (Sum.inr b))=X:=by
 rcases X with _|_|_<;>simp
@[simp] theorem bindL_id2 (X:Option (α ⊕ Unit)):bindL X (fun a=>some (Sum.inl a)) (fun _=>some (Sum.inr ()))=X:=by
 rcases X with _|_|⟨⟨⟩⟩<;>simp
theorem room_of {n bytes:Nat} (h:n * bytes≤70368744177664):room n bytes=true:=by unfold room;simpa using h
noncomputable def eqb (a b:α):Bool:=@decide (a=b) (Classical.propDecidable _)
@[simp] theorem eqb_refl (a:α):eqb a a=true:=by unfold eqb;exact @decide_eq_true _ (Classical.propDecidable _) rfl
theorem eqb_f {a b:α} (h:¬ a=b):eqb a b=false:=by unfold eqb;exact @decide_eq_false _ (Classical.propDecidable _) h
def Big (n:Nat):Prop:=1000000000000000≤n
@[reducible] def Lim (xs:List α):Prop:=xs.length≤140737488355328
theorem up_loop {ρ:Type} {m:Nat} {L:Nat→Int→Option ρ} {spec:Nat→ρ} (hend:∀ g,L (g+1) (m:Int)=some (spec m))
  (hstep:∀ g i,i<m→L g ((i+1:Nat):Int)=some (spec (i+1))→L (g+1) (i:Int)=some (spec i)):∀ k i g,i+k=m→k<g→L g (i:Int)=some (spec i)
 | 0,i,g,h,hg=>by
  obtain ⟨g,rfl⟩:∃ g',g=g'+1:=⟨g - 1,by omega⟩
  have:i=m:=by omega
  rw [this];exact hend g
 | k+1,i,g,h,hg=>by
  obtain ⟨g,rfl⟩:∃ g',g=g'+1:=⟨g - 1,by omega⟩
  exact hstep g i (by omega) (up_loop hend hstep k (i+1) g (by omega) (by omega))
theorem drop_eq {xs:List α} {i:Nat} (h:i<xs.length):xs.drop i=xs[i] ::xs.drop (i+1):=List.drop_eq_getElem_cons h
theorem drops_eq {a b:List α} {i:Nat} (h1:i<a.length) (h2:i<b.length):(a.drop i=b.drop i)↔(a[i]=b[i]∧a.drop (i+1)=b.drop (i+1)):=by rw [drop_eq h1,drop_eq h2,List.cons.injEq]
theorem any_drop {a:List α} {i:Nat} (p:α→Bool) (h1:i<a.length):(a.drop i).any p=(p a[i] || (a.drop (i+1)).any p):=by rw [drop_eq h1,List.any_cons]
theorem eq_loop [DecidableEq α] {a b:List α} (h:a.length=b.length) {L:Nat→Int→Option (Unit ⊕ (Bool×Unit))} (hend:∀ g,L (g+1) (a.length:Int)=some (.inl ()))
  (hstep:∀ g i (h1:i<a.length) (h2:i<b.length),L (g+1) (i:Int)=if a[i]=b[i] then L g ((i+1:Nat):Int) else some (.inr (false,()))) {g:Nat} (hg:a.length<g) :
  L g (0:Int)=some (if a=b then .inl () else .inr (false,())):=by
 have:=up_loop (L:=L) (m:=a.length) (spec:=fun i=>if a.drop i=b.drop i then .inl () else .inr (false,())) (fun g=>by
  rw [hend g]
  have e:b.drop a.length=[]:=by rw [h];exact List.drop_length
  simp [e]) (fun g i hi ih=>by
  rw [hstep g i hi (by omega),ih]
  simp only [drops_eq hi (b:=b) (by omega)]
  by_cases e:a[i]=b[i]<;>simp [e]) a.length 0 g (by omega) hg
 simpa using this
theorem any_loop {a:List α} (p:α→Bool) (c:Bool) {L:Nat→Int→Option (Unit ⊕ (Bool×Unit))} (hend:∀ g,L (g+1) (a.length:Int)=some (.inl ()))
  (hstep:∀ g i (h1:i<a.length),L (g+1) (i:Int)=bif p a[i] then some (.inr (c,())) else L g ((i+1:Nat):Int)) {g:Nat} (hg:a.length<g) :
  L g (0:Int)=some (bif a.any p then .inr (c,()) else .inl ()):=by
 have:=up_loop (L:=L) (m:=a.length) (spec:=fun i=>bif (a.drop i).any p then .inr (c,()) else .inl ()) (fun g=>by
  rw [hend g];simp) (fun g i hi ih=>by
  rw [hstep g i hi,ih,any_drop p hi]
  cases p a[i]<;>simp) a.length 0 g (by omega) hg
 simpa using this
theorem any_loop' {E R:Type} {a:List α} (p:α→Bool) (e:E) (r:R) {L:Nat→Int→Option (E ⊕ R)} (hend:∀ g,L (g+1) (a.length:Int)=some (.inl e))
  (hstep:∀ g i (h1:i<a.length),L (g+1) (i:Int)=bif p a[i] then some (.inr r) else L g ((i+1:Nat):Int)) {g:Nat} (hg:a.length<g) :
  L g (0:Int)=some (bif a.any p then .inr r else .inl e):=by
 have:=up_loop (L:=L) (m:=a.length) (spec:=fun i=>bif (a.drop i).any p then .inr r else .inl e) (fun g=>by
  rw [hend g];simp) (fun g i hi ih=>by
  rw [hstep g i hi,ih,any_drop p hi]
  cases p a[i]<;>simp) a.length 0 g (by omega) hg
 simpa using this
end
end Go.Proofs.YtdcphpbimeoioaaGreatDoorE
end
section
set_option linter.unusedSectionVars false
namespace Go.Proofs.YtdcphpbimeoioaaGreatDoorE
open Go Go.Proofs
set_option linter.unusedVariables false
set_option linter.unusedSimpArgs false
def cfRow (x y:El tRow):Int:=if x.1<y.1 then -1 else if y.1<x.1 then 1 else Lib.compareBytes x.2.1.data.toList y.2.1.data.toList
theorem ltRow (x y:El tRow):ltOf cfRow x y=(decide (x.1<y.1) || (decide (x.1=y.1) && Op.bytesLess x.2.1.data.toList y.2.1.data.toList)):=by
 have h:=ltOf_text (fun x:El tRow=>x.2.1.data.toList) x y
 unfold ltOf at h ⊢
 unfold cfRow
 by_cases h1:x.1<y.1
 ·simp [h1]
 ·by_cases h2:y.1<x.1
  ·have h3:¬ x.1=y.1:=fun e=>Int.lt_irrefl y.1 (by rw [e] at h2;exact h2)
   simp [h1,h2,h3]
  ·have h3:x.1=y.1:=Int.le_antisymm (Int.not_lt.1 h2) (Int.not_lt.1 h1)
   rw [if_neg h1,if_neg h2,h]
   simp [h1,h3]
theorem swoRow:Go.Sort.SWO (ltOf cfRow) where
 irrefl x:=by rw [ltRow,bl_irrefl];simp
 trans x y z h1 h2:=by
  rw [ltRow] at *
  simp only [Bool.or_eq_true,Bool.and_eq_true,decide_eq_true_eq] at *
  rcases h1 with h1|⟨h1,g1⟩
  ·rcases h2 with h2|⟨h2,g2⟩
   ·exact .inl (Int.lt_trans h1 h2)
   ·exact .inl (h2 ▸ h1)
  ·rcases h2 with h2|⟨h2,g2⟩
   ·exact .inl (h1 ▸ h2)
   ·exact .inr ⟨h1.trans h2,bl_trans _ _ _ g1 g2⟩
 ntrans x y z h1 h2:=by
  rw [ltRow] at *
  simp only [Bool.or_eq_false_iff,Bool.and_eq_false_iff,decide_eq_false_iff_not] at *
  obtain ⟨a1,b1⟩:=h1
  obtain ⟨a2,b2⟩:=h2
  have a3:¬ x.1<z.1:=Int.not_lt.2 (Int.le_trans (Int.not_lt.1 a2) (Int.not_lt.1 a1))
  refine ⟨a3,?_⟩
  by_cases e:x.1=z.1
  ·right
   have e1:x.1=y.1:=Int.le_antisymm (by rw [e];exact Int.not_lt.1 a2) (Int.not_lt.1 a1)
   have e2:y.1=z.1:=e1.symm.trans e
   have c1:=b1.resolve_left (fun h=>h e1)
   have c2:=b2.resolve_left (fun h=>h e2)
   by_cases q1:x.2.1.data.toList=y.2.1.data.toList
   ·rw [q1];exact c2
   ·by_cases q2:y.2.1.data.toList=z.2.1.data.toList
    ·rw [← q2];exact c1
    ·have g1:=(bl_total _ _ q1).resolve_left (by rw [c1];simp)
     have g2:=(bl_total _ _ q2).resolve_left (by rw [c2];simp)
     exact bl_asymm _ _ (bl_trans _ _ _ g2 g1)
  ·exact .inl e
theorem or2 (a b:Int):cmp_Or 10 ([a,b],())=some ((if a=0 then b else a,()),((),())):=by
 show cmp_Or (7+1+1+1) ([a,b],())=_
 have e1:iadd .i64 (0:Int) 1=1:=by rw [iadd64 (by omega) (by omega)];rfl
 have e2:iadd .i64 (1:Int) 1=2:=by rw [iadd64 (by omega) (by omega)];rfl
 by_cases h:a=0
 ·by_cases h':b=0<;>simp [cmp_Or,cmp_Or_l0,ilen,e1,e2,h,h']
 ·simp [cmp_Or,cmp_Or_l0,ilen,e1,e2,h]
theorem cmp2 (n:Nat) (a b:Int):cmp_Compare n (a,b,())=some ((if a<b then -1 else if b<a then 1 else 0,()),((),(),())):=by
 have e:∀ k:Int,cmp_isNaN n (k,())=some ((false,()),((),())):=fun k=>by simp [cmp_isNaN]
 unfold cmp_Compare
 rw [e a,e b]
 by_cases h:a<b
 ·simp [h]
 ·by_cases h':b<a<;>simp [h,h']
theorem row_Answer2_cf (x y:El tRow):row_Answer2 10 (x,y,())=some ((cfRow x y,()),((),(),())):=by
 have h1:=cmp2 10 x.1 y.1
 have h2:=or2 (if x.1<y.1 then -1 else if y.1<x.1 then 1 else 0) (Lib.compareBytes x.2.1.data.toList y.2.1.data.toList)
 simp only [row_Answer2,row_of,row_order,bindN_s,h1,s_Compare,h2]
 unfold cfRow
 by_cases p:x.1<y.1
 ·simp [p]
 ·by_cases q:y.1<x.1
  ·simp [p,q]
  ·simp [p,q]
end Go.Proofs.YtdcphpbimeoioaaGreatDoorE
end
section
set_option linter.unusedSectionVars false
namespace Go.Proofs.YtdcphpbimeoioaaGreatDoorE
open Go Go.RowKit Go.Shelf Go.Proofs
set_option linter.unusedVariables false
set_option linter.unusedSimpArgs false
theorem wpList_app {P:Program} {w:World} {ops:Array Oper} {rest:List Oper} {o:Oper} {a:Act} {Q:Exit→Act→World→Prop} (hgd:o.guard=none) (s x:Operand) (t t':TypeId) (ho:o.op = .call { callee := .builtin .append,args:=#[s,x],argTypes:=#[t,t'] })
  (v y u:Value) (w':World) (hs:a.eval s=v) (hx:a.eval x=y) (hr:(Builtin.append_ #[t,t'] o.type #[v,y]).run P w = .ok u w') (h:wpList P ops Q rest (a.put o.dst u) w'):wpList P ops Q (o ::rest) a w:=by
 refine wpList_plain hgd fun K hK=>?_
 unfold Oper.wp execOp
 simp only [ho,resolve,invoke,builtin,Sem.run_bind,Sem.run_pure,Result.andThen_ok,List.map_toArray,List.map_cons,List.map_nil,hs,hx,hr]
 exact hK _ _ h
theorem ent_clone {P:Program} {f:FuncId} {t:Ty} {tS e:TypeId} {z:List PV} {bytes:Nat} (ht:P.underlying tS=some (.slice e)) (hz:zeroPV P e=some z) (hs:szOf P e=some t.size) (hby:0<bytes) (hbe:P.bytesOf e=bytes) (hE:Enters P f)
  (hnone:∀ c w,Calls P f #[.slice none 0 c] w fun e w'=>e = .returned (.slice none 0 0)∧w'=w)
  (hsome:∀ ad n c w u w',(Builtin.append_ #[tS,tS] tS #[.slice (some ⟨w.heap.size,0,none⟩) 0 0, .slice (some ad) n c]).run P (w.alloc (.cells #[] e)) = .ok u w'→Calls P f #[.slice (some ad) n c] w fun e W=>e = .returned u∧W=w') :
  EntOk P ⟨f,[.tree (.slice t)],[.own t],fun x=>bif room x.1.length bytes then some ((x.1,()),((),())) else none⟩:=by
 intro x y hy
 obtain ⟨xs,u⟩:=x
 obtain ⟨h0,hy⟩:=cond_some hy
 simp only [Option.some.injEq] at hy
 subst hy
 refine ⟨hE,?_⟩
 intro S F w vs hr hA
 have hsz:vs.size=1:=hA.1
 obtain ⟨v0,rfl⟩:∃ v0,vs=#[v0]:=by
  obtain ⟨q⟩:=vs
  match q,hsz with
  | [a],_=>exact ⟨a,rfl⟩
 have a0:Val S F w (.lst t xs) v0:=hA.2 0 _ v0 rfl rfl
 have hr':Rel S F w []:=hr
 show Calls P f #[v0] w fun e w'=>∃ v S' F',e = .returned v∧Rel S' F' w' [.live (.arr t xs true)]∧Val S' F' w' (.own 0) v∧Adv S F w [] S' F' w' [.live (.arr t xs true)]
 have a0':=a0
 cases a0 with
 | lst _ _ a cap vf hc ha hsp hcell hv =>
  cases a with
  | none =>
   have:xs=[]:=by
    cases xs with
    | nil=>rfl
    | cons x r=>obtain ⟨_,h⟩:=ha (by simp);cases h
   subst this
   refine (hnone cap w).mono ?_
   rintro e w' ⟨rfl,rfl⟩
   obtain ⟨S',F',n1,n2,n3⟩:=own_none hr' (BelD.refl _) t none
   exact ⟨_,S',F',rfl,n1,n2,n3⟩
  | some ad =>
   have bel:BelD w (w.alloc (.cells #[] e)):=⟨(Below.refl _ w).alloc (Nat.le_refl _) _,fun _=>Nat.le_refl _⟩
   obtain ⟨g1,g2⟩:=below_rel hr' bel
   obtain ⟨u',w',S',F',k1,k2,k3,k4⟩:=app_copy (ty:=tS) g1 (a0'.adv hr' g2) ht hz hs hby hbe h0 (some ⟨w.heap.size,0,none⟩)
   refine (hsome ad _ _ w u' w' k1).mono ?_
   rintro e w'' ⟨rfl,rfl⟩
   exact ⟨_,S',F',rfl,k2,k3,g2.trans' k4⟩
abbrev sl_SortTag_sg:List Sg:=[.own tTag, .fnv 254 []]
abbrev sl_SortTag_rs:List Rt:=[]
def sl_SortTag_cf (x y:El tTag):Int:=Lib.compareBytes x.1.data.toList y.1.data.toList
instance sl_SortTag_inh:Inhabited (El tTag):=by unfold tTag;infer_instance
theorem sl_SortTag_swo:Go.Sort.SWO (ltOf sl_SortTag_cf):=swo_text (fun x:El tTag=>x.1.data.toList)
def sl_SortTag_sorted (l:List (El tTag)):List (El tTag):=(Go.Sort.pdq (ltOf sl_SortTag_cf) l.toArray 0 l.toArray.size (Lib.bitLen l.toArray.size) true true).toList
def sl_SortTag (n:Nat) (x:SgEl sl_SortTag_sg):Option (RtEl sl_SortTag_rs×OutEl sl_SortTag_sg):=bif Nat.blt x.1.length 4611686018427387904 then some ((),(sl_SortTag_sorted x.1,((),()))) else none
abbrev sl_SortTag_ent (n:Nat):Ent:=⟨253,sl_SortTag_sg,sl_SortTag_rs,sl_SortTag n⟩
theorem sl_SortTag_len (l:List (El tTag)):(sl_SortTag_sorted l).length=l.length:=by
 have h:=Go.Sort.pdq_sorts (ltOf sl_SortTag_cf) sl_SortTag_swo l.toArray 0 l.toArray.size (Lib.bitLen l.toArray.size) true true (Nat.zero_le _) (Nat.le_refl _) (Or.inl rfl)
 have:=h.1.1
 unfold sl_SortTag_sorted
 rw [Array.length_toList,this];simp
set_option maxHeartbeats 1000000 in
theorem sl_SortTag_order (x y:El tTag) (W:World) (hg:gHolds W):Calls Tryz.prog 254 #[.agg #[.string x.1, .string x.2.1], .agg #[.string y.1, .string y.2.1]] W fun e w'=>e = .returned (.int .i64 (sl_SortTag_cf x y))∧∃ q os',w'=Go.Sort.grow (W.drewN q) os':=by
 have hcon:=fun W'=>Tryz.strings_Compare x.1 y.1 W'
 unfold sl_SortTag_cf
 generalize Lib.compareBytes x.1.data.toList y.1.data.toList=r at hcon ⊢
 go_enter Tryz.func254,Tryz.ntmps254
 go_wp2_with (go_at_call 118;refine (hcon _).mono ?_;rintro e w' ⟨rfl,rfl⟩)
 go_ret
 exact ⟨rfl,0,_,by rw [Go.Sort.alloc_eq_grow,Go.Sort.alloc_eq_grow,Go.Sort.grow_grow];rfl⟩
theorem sl_SortTag_ok (n:Nat):EntOk Tryz.prog (sl_SortTag_ent n) :=
 ent_sort rfl (enters Tryz.func253 (by kernel_rfl) (by kernel_rfl)) sl_SortTag_sorted sl_SortTag_len (fun l blk off cap w hH hblk hlt hg hne=>by
  have eg:∀ args w,(callFunc 254 args).run Tryz.prog w = .ok (.enter 254 args) w:=enters_of Tryz.func254 (by kernel_rfl) rfl
  have e:l.toArray.size=l.length:=by simp
  have hcon:=AnyQ.slices_SortFunc_eq Tryz.sort253 (Ty.size tTag) Tryz.isAgg187 Tryz.sizeOf187 (encT tTag) (encT_len tTag) (encT_one rfl) sl_SortTag_cf sl_SortTag_swo 254 #[] blk off cap l.toArray w eg (fun _ _ _ _ x y=>sl_SortTag_order x y _ (sortW_holds hg hne)) hH hblk (by rw [e];exact hlt)
  rw [e] at hcon
  refine hcon.mono ?_
  rintro e' w' ⟨rfl,n,os,rfl⟩
  exact ⟨rfl,n,os,by unfold sl_SortTag_sorted;rw [Array.toArray_toList,e]⟩) fun A c w=>AnyF.slices_SortFunc_none Tryz.sort253 A c _ w
abbrev sl_CloneTag_sg:List Sg:=[.tree (.slice tTag)]
abbrev sl_CloneTag_rs:List Rt:=[.own tTag]
def sl_CloneTag (n:Nat) (x:SgEl sl_CloneTag_sg):Option (RtEl sl_CloneTag_rs×OutEl sl_CloneTag_sg):=bif room x.1.length 32 then some ((x.1,()),((),())) else none
abbrev sl_CloneTag_ent (n:Nat):Ent:=⟨252,sl_CloneTag_sg,sl_CloneTag_rs,sl_CloneTag n⟩
theorem sl_CloneTag_none (c:Nat) (w:World):Calls Tryz.prog 252 #[.slice none 0 c] w fun e w'=>e = .returned (.slice none 0 0)∧w'=w:=by
 have hnil:=fun (W:World)=>Go.Lib.run_eql_slice_nil (P:=Tryz.prog) W 69 187 none 0 c 0 0 Tryz.underlying69
 simp only [Option.isNone_none] at hnil
 go_enter Tryz.func252,Tryz.ntmps252
 go_wp2
 go_ret
 exact ⟨rfl,rfl⟩
theorem sl_CloneTag_some (ad:Addr) (n c:Nat) (w:World) (u:Value) (w':World) (h:(Builtin.append_ #[69,69] 69 #[.slice (some ⟨w.heap.size,0,none⟩) 0 0, .slice (some ad) n c]).run Tryz.prog (w.alloc (.cells #[] 187)) = .ok u w') :
  Calls Tryz.prog 252 #[.slice (some ad) n c] w fun e W=>e = .returned u∧W=w':=by
 have hnil:=fun (W:World)=>Go.Lib.run_eql_slice_nil (P:=Tryz.prog) W 69 187 (some ad) n c 0 0 Tryz.underlying69
 simp only [Option.isNone_some] at hnil
 have A:Aside ((Builtin.append_ #[69,69] 69 #[.slice (some ⟨w.heap.size,0,none⟩) 0 0, .slice (some ad) n c]).run Tryz.prog (w.alloc (.cells #[] 187)) = .ok u w'):=h
 clear h
 go_enter Tryz.func252,Tryz.ntmps252
 go_wp2_with (at_builtin;refine wpList_app rfl _ _ _ _ rfl _ _ _ _ rfl rfl A.out ?_)
 go_wp2
 go_ret
 exact ⟨rfl,rfl⟩
theorem sl_CloneTag_ok (n:Nat):EntOk Tryz.prog (sl_CloneTag_ent n) :=
 ent_clone (t:=tTag) (z:=(zeroPV Tryz.prog 187).getD []) Tryz.underlying69 (by kernel_rfl) (by kernel_rfl) (by decide) (by kernel_rfl) (enters Tryz.func252 (by kernel_rfl) (by kernel_rfl)) sl_CloneTag_none sl_CloneTag_some
abbrev sl_SortRow_sg:List Sg:=[.own tRow, .fnv 126 []]
abbrev sl_SortRow_rs:List Rt:=[]
def sl_SortRow_cf (x y:El tRow):Int:=cfRow x y
instance sl_SortRow_inh:Inhabited (El tRow):=by unfold tRow;infer_instance
theorem sl_SortRow_swo:Go.Sort.SWO (ltOf sl_SortRow_cf):=swoRow
def sl_SortRow_sorted (l:List (El tRow)):List (El tRow):=(Go.Sort.pdq (ltOf sl_SortRow_cf) l.toArray 0 l.toArray.size (Lib.bitLen l.toArray.size) true true).toList
def sl_SortRow (n:Nat) (x:SgEl sl_SortRow_sg):Option (RtEl sl_SortRow_rs×OutEl sl_SortRow_sg):=bif Nat.blt x.1.length 4611686018427387904 then some ((),(sl_SortRow_sorted x.1,((),()))) else none
abbrev sl_SortRow_ent (n:Nat):Ent:=⟨125,sl_SortRow_sg,sl_SortRow_rs,sl_SortRow n⟩
theorem sl_SortRow_len (l:List (El tRow)):(sl_SortRow_sorted l).length=l.length:=by
 have h:=Go.Sort.pdq_sorts (ltOf sl_SortRow_cf) sl_SortRow_swo l.toArray 0 l.toArray.size (Lib.bitLen l.toArray.size) true true (Nat.zero_le _) (Nat.le_refl _) (Or.inl rfl)
 have:=h.1.1
 unfold sl_SortRow_sorted
 rw [Array.length_toList,this];simp
set_option maxHeartbeats 1000000 in
theorem sl_SortRow_order (x y:El tRow) (W:World) (hg:gHolds W):Calls Tryz.prog 126 #[.agg #[.int .i64 x.1, .string x.2.1, .int .i64 x.2.2.1.1, .bool x.2.2.1.2.1], .agg #[.int .i64 y.1, .string y.2.1, .int .i64 y.2.2.1.1, .bool y.2.2.1.2.1]] W fun e w'=>e = .returned (.int .i64 (sl_SortRow_cf x y))∧∃ q os',w'=Go.Sort.grow (W.drewN q) os':=by
 exact order_of rfl (@row_Answer2_ok ⟨true⟩ 10) (row_Answer2_cf x y) hg
theorem sl_SortRow_ok (n:Nat):EntOk Tryz.prog (sl_SortRow_ent n) :=
 ent_sort rfl (enters Tryz.func125 (by kernel_rfl) (by kernel_rfl)) sl_SortRow_sorted sl_SortRow_len (fun l blk off cap w hH hblk hlt hg hne=>by
  have eg:∀ args w,(callFunc 126 args).run Tryz.prog w = .ok (.enter 126 args) w:=enters_of Tryz.func126 (by kernel_rfl) rfl
  have e:l.toArray.size=l.length:=by simp
  have hcon:=AnyQ.slices_SortFunc_eq Tryz.sort125 (Ty.size tRow) Tryz.isAgg86 Tryz.sizeOf86 (encT tRow) (encT_len tRow) (encT_one rfl) sl_SortRow_cf sl_SortRow_swo 126 #[] blk off cap l.toArray w eg (fun _ _ _ _ x y=>sl_SortRow_order x y _ (sortW_holds hg hne)) hH hblk (by rw [e];exact hlt)
  rw [e] at hcon
  refine hcon.mono ?_
  rintro e' w' ⟨rfl,n,os,rfl⟩
  exact ⟨rfl,n,os,by unfold sl_SortRow_sorted;rw [Array.toArray_toList,e]⟩) fun A c w=>AnyF.slices_SortFunc_none Tryz.sort125 A c _ w
abbrev sl_CloneItem_sg:List Sg:=[.tree (.slice tItem)]
abbrev sl_CloneItem_rs:List Rt:=[.own tItem]
def sl_CloneItem (n:Nat) (x:SgEl sl_CloneItem_sg):Option (RtEl sl_CloneItem_rs×OutEl sl_CloneItem_sg):=bif room x.1.length 64 then some ((x.1,()),((),())) else none
abbrev sl_CloneItem_ent (n:Nat):Ent:=⟨115,sl_CloneItem_sg,sl_CloneItem_rs,sl_CloneItem n⟩
theorem sl_CloneItem_none (c:Nat) (w:World):Calls Tryz.prog 115 #[.slice none 0 c] w fun e w'=>e = .returned (.slice none 0 0)∧w'=w:=by
 have hnil:=fun (W:World)=>Go.Lib.run_eql_slice_nil (P:=Tryz.prog) W 26 96 none 0 c 0 0 Tryz.underlying26
 simp only [Option.isNone_none] at hnil
 go_enter Tryz.func115,Tryz.ntmps115
 go_wp2
 go_ret
 exact ⟨rfl,rfl⟩
theorem sl_CloneItem_some (ad:Addr) (n c:Nat) (w:World) (u:Value) (w':World) (h:(Builtin.append_ #[26,26] 26 #[.slice (some ⟨w.heap.size,0,none⟩) 0 0, .slice (some ad) n c]).run Tryz.prog (w.alloc (.cells #[] 96)) = .ok u w') :
  Calls Tryz.prog 115 #[.slice (some ad) n c] w fun e W=>e = .returned u∧W=w':=by
 have hnil:=fun (W:World)=>Go.Lib.run_eql_slice_nil (P:=Tryz.prog) W 26 96 (some ad) n c 0 0 Tryz.underlying26
 simp only [Option.isNone_some] at hnil
 have A:Aside ((Builtin.append_ #[26,26] 26 #[.slice (some ⟨w.heap.size,0,none⟩) 0 0, .slice (some ad) n c]).run Tryz.prog (w.alloc (.cells #[] 96)) = .ok u w'):=h
 clear h
 go_enter Tryz.func115,Tryz.ntmps115
 go_wp2_with (at_builtin;refine wpList_app rfl _ _ _ _ rfl _ _ _ _ rfl rfl A.out ?_)
 go_wp2
 go_ret
 exact ⟨rfl,rfl⟩
theorem sl_CloneItem_ok (n:Nat):EntOk Tryz.prog (sl_CloneItem_ent n) :=
 ent_clone (t:=tItem) (z:=(zeroPV Tryz.prog 96).getD []) Tryz.underlying26 (by kernel_rfl) (by kernel_rfl) (by decide) (by kernel_rfl) (enters Tryz.func115 (by kernel_rfl) (by kernel_rfl)) sl_CloneItem_none sl_CloneItem_some
abbrev sl_GrowItem_sg:List Sg:=[.nl tItem, .tree (.int .i64)]
abbrev sl_GrowItem_rs:List Rt:=[.own tItem]
def sl_GrowItem (n:Nat) (x:SgEl sl_GrowItem_sg):Option (RtEl sl_GrowItem_rs×OutEl sl_GrowItem_sg):=bif ile 0 x.2.1 && room x.2.1.toNat 64 then some (([],()),((),((),()))) else none
abbrev sl_GrowItem_ent (n:Nat):Ent:=⟨138,sl_GrowItem_sg,sl_GrowItem_rs,sl_GrowItem n⟩
theorem sl_GrowItem_ok (n:Nat):EntOk Tryz.prog (sl_GrowItem_ent n) :=
 ent_grow (t:=tItem) (bytes:=64) (zp:=(zeroPV Tryz.prog 96).getD []) Tryz.grow138 (by kernel_rfl) (by kernel_rfl) (by decide) (by kernel_rfl) (by decide) (enters Tryz.func138 (by kernel_rfl) (by kernel_rfl))
end Go.Proofs.YtdcphpbimeoioaaGreatDoorE
end
section
set_option linter.unusedSectionVars false
namespace Go.Proofs.YtdcphpbimeoioaaGreatDoorE
open Go Go.Proofs
set_option linter.unusedVariables false
set_option linter.unusedSimpArgs false
abbrev TG:=El tTag
theorem drop_cons {α:Type} (l:List α) (i:Nat) (h:i<l.length):l.drop i=l[i] ::l.drop (i+1):=List.drop_eq_getElem_cons h
def bl (s:ByteArray):List UInt8:=s.data.toList
theorem bl_inj {a b:ByteArray} (h:bl a=bl b):a=b:=by cases a;cases b;simpa [bl] using h
theorem bl_mk (l:List UInt8):bl ⟨l.toArray⟩=l:=rfl
theorem mk_bl (s:ByteArray):(⟨(bl s).toArray⟩:ByteArray)=s:=rfl
theorem size_bl (s:ByteArray):(bl s).length=s.size:=by show s.data.toList.length=s.data.size;exact Array.length_toList
theorem bl_append (a b:ByteArray):bl (a++b)=bl a++bl b:=by simp [bl,ByteArray.data_append]
theorem bl_extract (s:ByteArray) (i j:Nat):bl (s.extract i j)=((bl s).take j).drop i:=by
 simp [bl,ByteArray.data_extract,Array.toList_extract,List.extract_eq_take_drop,List.drop_take]
theorem u8_int (a b:UInt8):((a.toNat:Int)=(b.toNat:Int))↔a=b:=by
 constructor
 ·intro h;exact UInt8.toNat_inj.1 (by omega)
 ·rintro rfl;rfl
theorem empty_bl:bl (⟨#[]⟩:ByteArray)=[]:=rfl
theorem idx_cons (b c:UInt8) (l:List UInt8):Lib.indexByte (b ::l) c=if b=c then 0 else if Lib.indexByte l c = -1 then -1 else Lib.indexByte l c+1:=by
 simp [Lib.indexByte]
theorem idx_lt:∀ (l:List UInt8) (c:UInt8),Lib.indexByte l c<(l.length:Int) ∧ -1≤Lib.indexByte l c
 | [],c=>by simp [Lib.indexByte]
 | b ::l,c=>by
  have:=idx_lt l c
  rw [idx_cons,List.length_cons]
  split
  ·omega
  ·split<;>omega
def splitL (c:UInt8):List UInt8→List (List UInt8)
 | []=>[[]]
 | b ::l=>if b=c then [] ::splitL c l else match splitL c l with
  | []=>[[b]]
  | h ::t=>(b ::h) ::t
theorem splitL_ne (c:UInt8):∀ l,splitL c l≠[]
 | []=>by simp [splitL]
 | b ::l=>by
  unfold splitL
  split
  ·simp
  ·split<;>simp
theorem splitL_len (c:UInt8):∀ l,(splitL c l).length≤l.length+1
 | []=>by simp [splitL]
 | b ::l=>by
  have:=splitL_len c l
  unfold splitL
  split
  ·simp;omega
  ·split
   ·simp
   ·rename_i h t e
    rw [e] at this
    simp at *;omega
theorem splitL_idx (c:UInt8):∀ l,splitL c l=if Lib.indexByte l c<0 then [l] else l.take (Lib.indexByte l c).toNat ::splitL c (l.drop ((Lib.indexByte l c).toNat+1))
 | []=>by simp [splitL,Lib.indexByte]
 | b ::l=>by
  have ih:=splitL_idx c l
  have h2:=idx_lt l c
  rw [splitL,idx_cons]
  by_cases hb:b=c
  ·simp [hb]
  ·rw [if_neg hb,if_neg hb]
   by_cases h:Lib.indexByte l c = -1
   ·rw [h] at ih
    simp at ih
    rw [if_pos h,ih]
    simp
   ·rw [if_neg h]
    rw [if_neg (by omega)] at ih
    rw [if_neg (by omega),ih]
    obtain ⟨m,hm⟩:=Int.eq_ofNat_of_zero_le (show 0≤Lib.indexByte l c by omega)
    rw [hm]
    simp [show ((m:Int)+1).toNat=m+1 by omega]
def splitB (c:UInt8) (s:ByteArray):List ByteArray:=(splitL c (bl s)).map fun l=>⟨l.toArray⟩
theorem ext_take (s:ByteArray) (i:Nat):s.extract 0 i=⟨((bl s).take i).toArray⟩:=bl_inj (by rw [bl_extract,bl_mk ((bl s).take i)];simp)
theorem ext_drop (s:ByteArray) (i:Nat):s.extract i s.size=⟨((bl s).drop i).toArray⟩:=bl_inj (by rw [bl_extract,bl_mk ((bl s).drop i),List.take_of_length_le (by rw [size_bl];exact Nat.le_refl _)])
theorem ext_mid (s:ByteArray) (i j:Nat):s.extract i j=⟨(((bl s).take j).drop i).toArray⟩:=bl_inj (by rw [bl_extract,bl_mk (((bl s).take j).drop i)])
def glue (a:List UInt8):List (List UInt8)→List (List UInt8)
 | []=>[a]
 | h ::t=>(a++h) ::t
def smallB (b:UInt8):Bool:=decide (97≤b.toNat) && decide (b.toNat≤122)
def digitB (b:UInt8):Bool:=decide (48≤b.toNat) && decide (b.toNat≤57)
def inNameB (b:UInt8):Bool:=smallB b || digitB b || decide (b.toNat=95)
def inValB (b:UInt8):Bool:=smallB b || digitB b || decide (b.toNat=95) || decide (b.toNat=45) || decide (b.toNat=46)
def nameL (l:List UInt8):Bool:=decide (1≤l.length) && decide (l.length≤12) && smallB (l.headD 0) && l.all inNameB
def valueL (l:List UInt8):Bool:=decide (1≤l.length) && decide (l.length≤12) && l.all inValB
theorem all_u8 {p:UInt8→Bool} (h:∀ n:Fin 256,p (UInt8.ofNat n.val)=true) (b:UInt8):p b=true:=by
 have:=h ⟨b.toNat,b.toNat_lt⟩
 simpa using this
theorem in_name (b:UInt8):([97,98,99,100,101,102,103,104,105,106,107,108,109,110,111,112,113,114,115,116,117,118,119,120,121,122,48,49,50,51,52,53,54,55,56,57,95]:List UInt8).contains b=inNameB b:=by
 have:=all_u8 (p:=fun b=>([97,98,99,100,101,102,103,104,105,106,107,108,109,110,111,112,113,114,115,116,117,118,119,120,121,122,48,49,50,51,52,53,54,55,56,57,95]:List UInt8).contains b ==inNameB b) (by decide+kernel) b
 simpa using this
theorem in_val (b:UInt8):([97,98,99,100,101,102,103,104,105,106,107,108,109,110,111,112,113,114,115,116,117,118,119,120,121,122,48,49,50,51,52,53,54,55,56,57,95,45,46]:List UInt8).contains b=inValB b:=by
 have:=all_u8 (p:=fun b=>([97,98,99,100,101,102,103,104,105,106,107,108,109,110,111,112,113,114,115,116,117,118,119,120,121,122,48,49,50,51,52,53,54,55,56,57,95,45,46]:List UInt8).contains b ==inValB b) (by decide+kernel) b
 simpa using this
theorem in_small (b:UInt8):decide (0≤Lib.indexByte ([97,98,99,100,101,102,103,104,105,106,107,108,109,110,111,112,113,114,115,116,117,118,119,120,121,122]:List UInt8) b)=smallB b:=by
 have:=all_u8 (p:=fun b=>decide (0≤Lib.indexByte ([97,98,99,100,101,102,103,104,105,106,107,108,109,110,111,112,113,114,115,116,117,118,119,120,121,122]:List UInt8) b) ==smallB b) (by decide+kernel) b
 simpa using this
theorem dw_nil (p:UInt8→Bool):∀ l:List UInt8,l.dropWhile p=[]↔∀ x∈l,p x=true
 | []=>by simp
 | a ::l=>by
  rw [List.dropWhile_cons]
  cases h:p a with
  | true=>simp [dw_nil p l,h]
  | false=>simp [h]
theorem dw_head (p:UInt8→Bool) (a:UInt8) (t:List UInt8):∀ l:List UInt8,l.dropWhile p=a ::t→p a=false
 | [],h=>by simp at h
 | b ::l,h=>by
  rw [List.dropWhile_cons] at h
  cases hb:p b with
  | true=>rw [if_pos hb] at h;exact dw_head p a t l h
  | false=>rw [if_neg (by simp [hb])] at h;cases h;exact hb
theorem trim_nil (l cs:List UInt8):Lib.trimS l cs=[]↔l.all (fun b=>cs.contains b)=true:=by
 unfold Lib.trimS Lib.trimLeftS Lib.trimRightS
 rw [List.all_eq_true]
 constructor
 ·intro h
  rw [dw_nil] at h
  have e:l.reverse.dropWhile (cs.contains ·)=[]:=by
   cases hh:l.reverse.dropWhile (cs.contains ·) with
   | nil=>rfl
   | cons a t =>
    have h1:=h a (by rw [hh];simp)
    have h2:=dw_head _ _ _ _ hh
    rw [h2] at h1;cases h1
  rw [dw_nil] at e
  intro x hx
  exact e x (by simpa using hx)
 ·intro h
  have e:l.reverse.dropWhile (cs.contains ·)=[]:=by
   rw [dw_nil]
   intro x hx;exact h x (by simpa using hx)
  rw [e];rfl
def joinB (sep:ByteArray) (l:List ByteArray):ByteArray:=⟨(Lib.join (l.map bl) (bl sep)).toArray⟩
def nm (t:TG):List UInt8:=bl t.1
def mayT (t:TG):Bool:=nameL (bl t.1) && valueL (bl t.2.1)
def lessT (a b:TG):Bool:=Op.bytesLess (nm a) (nm b)
def insT (t:TG):List TG→Option (List TG)
 | []=>some [t]
 | u ::r=>if lessT u t=true then (insT t r).map (u ::·) else if nm u=nm t then none else some (t ::u ::r)
def insAll:List TG→List TG→Option (List TG)
 | acc,[]=>some acc
 | acc,t ::l=>(insT t acc).bind fun a=>insAll a l
def canonT (l:List TG):List TG×Int :=
 if l.all mayT=true then (if 4<l.length then ([],4) else match insAll [] l with|some o=>(o,0)|none=>([],5)) else ([],2)
def Strict (l:List TG):Prop:=l.Pairwise (fun a b=>lessT a b=true)
theorem less_trans {a b c:TG} (h1:lessT a b=true) (h2:lessT b c=true):lessT a c=true:=bl_trans _ _ _ h1 h2
theorem less_asymm {a b:TG} (h:lessT a b=true):lessT b a=false:=bl_asymm _ _ h
theorem less_total {a b:TG} (h:nm a≠nm b):lessT a b=true∨lessT b a=true:=bl_total _ _ h
theorem less_ne {a b:TG} (h:lessT a b=true):nm a≠nm b:=by
 intro e
 unfold lessT at h
 rw [e,bl_irrefl] at h;cases h
theorem strict_nodup {l:List TG} (h:Strict l):(l.map nm).Nodup:=by
 unfold Strict at h
 rw [List.Nodup,List.pairwise_map]
 exact h.imp (fun h=>less_ne h)
theorem insT_some (t:TG):∀ (l o:List TG),insT t l=some o→Strict l→Strict o∧o.Perm (t ::l)
 | [],o,h,_=>by
  simp [insT] at h;subst h
  exact ⟨List.pairwise_singleton _ _,List.Perm.refl _⟩
 | u ::r,o,h,hs=>by
  rw [insT] at h
  rw [Strict,List.pairwise_cons] at hs
  split at h
  ·rename_i hu
   cases hr:insT t r with
   | none=>rw [hr] at h;cases h
   | some q =>
    rw [hr] at h
    simp at h;subst h
    obtain ⟨h1,h2⟩:=insT_some t r q hr hs.2
    refine ⟨?_,(List.Perm.cons u h2).trans (List.Perm.swap t u r)⟩
    rw [Strict,List.pairwise_cons]
    refine ⟨fun x hx=>?_,h1⟩
    rcases List.mem_cons.1 (h2.mem_iff.1 hx) with rfl|hx
    ·exact hu
    ·exact hs.1 x hx
  ·rename_i hu
   split at h
   ·cases h
   ·rename_i hn
    simp at h;subst h
    have htu:lessT t u=true:=by
     rcases less_total (fun e=>hn e.symm) with h1|h1
     ·exact h1
     ·exact absurd h1 hu
    refine ⟨?_,List.Perm.refl _⟩
    rw [Strict,List.pairwise_cons]
    refine ⟨fun x hx=>?_,by rw [List.pairwise_cons];exact hs⟩
    rcases List.mem_cons.1 hx with rfl|hx
    ·exact htu
    ·exact less_trans htu (hs.1 x hx)
theorem insT_none (t:TG):∀ (l:List TG),insT t l=none→nm t∈l.map nm
 | [],h=>by simp [insT] at h
 | u ::r,h=>by
  rw [insT] at h
  split at h
  ·cases hr:insT t r with
   | none=>exact List.mem_cons_of_mem _ (insT_none t r hr)
   | some q=>rw [hr] at h;cases h
  ·split at h
   ·rename_i hn;rw [List.map_cons,hn];exact List.mem_cons_self
   ·cases h
theorem insAll_some:∀ (l acc o:List TG),insAll acc l=some o→Strict acc→Strict o∧o.Perm (acc++l)
 | [],acc,o,h,hs=>by
  simp [insAll] at h;subst h
  exact ⟨hs,by simp⟩
 | t ::l,acc,o,h,hs=>by
  rw [insAll] at h
  cases hr:insT t acc with
  | none=>rw [hr] at h;cases h
  | some q =>
   rw [hr] at h
   obtain ⟨h1,h2⟩:=insT_some t acc q hr hs
   obtain ⟨h3,h4⟩:=insAll_some l q o h h1
   refine ⟨h3,h4.trans ((h2.append_right l).trans ?_)⟩
   exact (List.perm_middle).symm
theorem insAll_none:∀ (l acc:List TG),insAll acc l=none→Strict acc→¬ ((acc++l).map nm).Nodup
 | [],acc,h,hs=>by simp [insAll] at h
 | t ::l,acc,h,hs=>by
  rw [insAll] at h
  cases hr:insT t acc with
  | none =>
   have hm:=insT_none t acc hr
   intro hn
   rw [List.map_append,List.map_cons,List.nodup_append] at hn
   exact hn.2.2 _ hm _ List.mem_cons_self rfl
  | some q =>
   rw [hr] at h
   obtain ⟨h1,h2⟩:=insT_some t acc q hr hs
   have h3:=insAll_none l q h h1
   intro hn
   refine h3 ?_
   have hp:(q++l).Perm (acc++t ::l):=(h2.append_right l).trans (List.perm_middle).symm
   exact ((hp.map nm).nodup_iff).2 hn
theorem strict_unique:∀ {a b:List TG},Strict a→Strict b→a.Perm b→a=b
 | [],b,_,_,hp=>by rw [List.nil_perm.1 hp]
 | x ::a,[],_,_,hp=>by have:=hp.length_eq;simp at this
 | x ::a,y ::b,ha,hb,hp=>by
  rw [Strict,List.pairwise_cons] at ha hb
  have hxy:x=y:=by
   rcases List.mem_cons.1 (hp.mem_iff.1 List.mem_cons_self) with h|h
   ·exact h
   ·rcases List.mem_cons.1 (hp.mem_iff.2 (List.mem_cons_self (a:=y))) with h2|h2
    ·exact h2.symm
    ·have h3:=hb.1 x h
     have h4:=ha.1 y h2
     rw [less_asymm h3] at h4;cases h4
  subst hxy
  rw [strict_unique ha.2 hb.2 (List.Perm.cons_inv hp)]
abbrev srt (l:List TG):List TG:=sl_SortTag_sorted l
theorem cf_lt (x y:TG):Go.Proofs.ltOf sl_SortTag_cf x y=lessT x y:=ltOf_text (fun t:TG=>bl t.1) x y
theorem srt_spec (l:List TG):(srt l).Perm l∧(srt l).Pairwise (fun a b=>lessT b a=false):=by
 have h:=Go.Sort.pdq_sorts (Go.Proofs.ltOf sl_SortTag_cf) sl_SortTag_swo l.toArray 0 l.toArray.size (Lib.bitLen l.toArray.size) true true (Nat.zero_le _) (Nat.le_refl _) (.inl rfl)
 unfold srt sl_SortTag_sorted
 generalize Go.Sort.pdq (Go.Proofs.ltOf sl_SortTag_cf) l.toArray 0 l.toArray.size (Lib.bitLen l.toArray.size) true true=q at h
 obtain ⟨⟨h1,h2,h3⟩,h4⟩:=h
 constructor
 ·have e1:q.extract 0 l.toArray.size=q:=by rw [← h1];simp
  have e2:l.toArray.extract 0 l.toArray.size=l.toArray:=by simp
  rw [e1,e2] at h3;simpa using h3
 ·rw [List.pairwise_iff_getElem]
  intro i j hi hj hij
  have hi':i<q.size:=by simpa using hi
  have hj':j<q.size:=by simpa using hj
  have:=h4 i j (Nat.zero_le _) hij (by rw [← h1];exact hj')
  rw [getElem!_pos q j hj',getElem!_pos q i hi',cf_lt] at this
  simpa using this
def adj:List TG→Bool
 | a ::b ::r=>decide (nm a=nm b) || adj (b ::r)
 | _=>false
theorem adj_strict:∀ l:List TG,l.Pairwise (fun a b=>lessT b a=false)→adj l=false→Strict l
 | [],_,_=>List.Pairwise.nil
 | [a],_,_=>List.pairwise_singleton _ _
 | a ::b ::r,h,ha=>by
  rw [adj,Bool.or_eq_false_iff] at ha
  rw [List.pairwise_cons] at h
  have ih:=adj_strict (b ::r) h.2 ha.2
  have hne:nm a≠nm b:=by simpa using ha.1
  have hab:lessT a b=true:=by
   rcases less_total hne with h1|h1
   ·exact h1
   ·rw [h.1 b List.mem_cons_self] at h1;cases h1
  rw [Strict,List.pairwise_cons]
  refine ⟨fun x hx=>?_,ih⟩
  rcases List.mem_cons.1 hx with rfl|hx
  ·exact hab
  ·rw [Strict,List.pairwise_cons] at ih
   exact less_trans hab (ih.1 x hx)
theorem adj_dup:∀ l:List TG,adj l=true→¬ (l.map nm).Nodup
 | [],h=>by simp [adj] at h
 | [a],h=>by simp [adj] at h
 | a ::b ::r,h=>by
  rw [adj,Bool.or_eq_true] at h
  intro hn
  rw [List.map_cons,List.nodup_cons] at hn
  rcases h with h|h
  ·exact hn.1 (by rw [of_decide_eq_true h];simp)
  ·exact adj_dup (b ::r) h hn.2
theorem canon_scan (l:List TG):(if adj (srt l)=true then (([]:List TG),(5:Int)) else (srt l,0))=(match insAll [] l with|some o=>(o,0)|none=>([],5)):=by
 obtain ⟨hp,hs⟩:=srt_spec l
 cases h:insAll [] l with
 | some o =>
  obtain ⟨h1,h2⟩:=insAll_some l [] o h List.Pairwise.nil
  rw [List.nil_append] at h2
  cases ha:adj (srt l) with
  | true =>
   exact absurd (((hp.trans h2.symm).map nm).nodup_iff.2 (strict_nodup h1)) (adj_dup _ ha)
  | false =>
   rw [if_neg (by simp),strict_unique (adj_strict _ hs ha) h1 (hp.trans h2.symm)]
 | none =>
  have hn:=insAll_none l [] h List.Pairwise.nil
  rw [List.nil_append] at hn
  cases ha:adj (srt l) with
  | true=>rw [if_pos rfl]
  | false=>exact absurd ((hp.map nm).nodup_iff.1 (strict_nodup (adj_strict _ hs ha))) hn
theorem adj_drop (l:List TG) (i:Nat) (h:i+1<l.length):adj (l.drop i)=(decide (nm l[i]=nm l[i+1]) || adj (l.drop (i+1))):=by
 rw [drop_cons l i (by omega),drop_cons l (i+1) h,adj]
def mkB (l:List UInt8):ByteArray:=⟨l.toArray⟩
theorem bl_mkB (l:List UInt8):bl (mkB l)=l:=rfl
theorem mkB_bl (s:ByteArray):mkB (bl s)=s:=rfl
theorem size_mkB (l:List UInt8):(mkB l).size=l.length:=by rw [← size_bl,bl_mkB]
def findT:List TG→ByteArray→ByteArray×Bool
 | [],_=>(⟨#[]⟩,false)
 | t ::l,key=>if bl t.1=bl key then (t.2.1,true) else findT l key
def hasT (ks:List ByteArray) (s:ByteArray):Bool:=ks.any fun x=>decide (bl x=bl s)
def onlyT (l:List TG) (ks:List ByteArray):List TG:=l.filter fun t=>hasT ks t.1
abbrev tl (sep:List UInt8) (l:List (List UInt8)):List UInt8:=Lib.joinTail sep l
theorem tl_cons (sep x:List UInt8) (l:List (List UInt8)):tl sep (x ::l)=sep++x++tl sep l:=by simp [Lib.joinTail]
theorem joinB_nil (sep:ByteArray):joinB sep []=⟨#[]⟩:=rfl
theorem joinB_cons (sep x:ByteArray) (l:List ByteArray):bl (joinB sep (x ::l))=bl x++tl (bl sep) (l.map bl):=by
 unfold joinB;rw [bl_mk,List.map_cons,Lib.join_cons]
theorem tl_len (sep:List UInt8) (B:Nat):∀ l:List (List UInt8),(∀ x∈l,x.length≤B)→(tl sep l).length≤l.length * (sep.length+B)
 | [],_=>by simp [Lib.joinTail]
 | x ::l,h=>by
  have ih:=tl_len sep B l (fun y hy=>h y (List.mem_cons_of_mem _ hy))
  have h0:=h x List.mem_cons_self
  rw [tl_cons,List.length_append,List.length_append,List.length_cons,Nat.add_mul];omega
theorem joinB_len (sep:ByteArray) (B:Nat) (l:List ByteArray) (h:∀ x∈l,(bl x).length≤B):(bl (joinB sep l)).length≤l.length * ((bl sep).length+B):=by
 cases l with
 | nil=>simp [joinB_nil,empty_bl]
 | cons x l =>
  have ih:=tl_len (bl sep) B (l.map bl) (by
   intro y hy
   obtain ⟨z,hz,rfl⟩:=List.mem_map.1 hy
   exact h z (List.mem_cons_of_mem _ hz))
  have h0:=h x List.mem_cons_self
  rw [joinB_cons,List.length_append,List.length_cons,Nat.add_mul]
  rw [List.length_map] at ih;omega
theorem join_split (c:UInt8):∀ l:List UInt8,Lib.join (splitL c l) [c]=l
 | []=>rfl
 | b ::l=>by
  have ih:=join_split c l
  rw [splitL]
  cases h:splitL c l with
  | nil=>exact absurd h (splitL_ne c l)
  | cons x t =>
   rw [h,Lib.join_cons] at ih
   by_cases hb:b=c
   ·subst hb
    rw [if_pos rfl,Lib.join_cons]
    show []++tl [b] (x ::t)=_
    rw [tl_cons,List.append_assoc,ih];rfl
   ·rw [if_neg hb,Lib.join_cons,List.cons_append,ih]
theorem joinB_split (c:UInt8) (s:ByteArray):joinB (mkB [c]) (splitB c s)=s:=by
 apply bl_inj
 unfold joinB splitB
 rw [bl_mk,bl_mkB,List.map_map]
 have:(bl ∘ fun l:List UInt8=>(⟨l.toArray⟩:ByteArray))=id:=by funext l;rfl
 rw [this,List.map_id,join_split]
def cutB (c:UInt8) (s:ByteArray):ByteArray×ByteArray×Bool :=
 if Lib.indexByte (bl s) c<0 then (s,⟨#[]⟩,false) else (s.extract 0 (Lib.indexByte (bl s) c).toNat,s.extract ((Lib.indexByte (bl s) c).toNat+1) s.size,true)
theorem split_cut (c:UInt8) (s:ByteArray):splitB c s=if (cutB c s).2.2=true then (cutB c s).1 ::splitB c (cutB c s).2.1 else [s]:=by
 have e:=splitL_idx c (bl s)
 unfold splitB cutB
 rw [e]
 by_cases h0:Lib.indexByte (bl s) c<0
 ·rw [if_pos h0,if_pos h0];rfl
 ·rw [if_neg h0,if_neg h0,if_pos rfl,ext_take,ext_drop,bl_mk ((bl s).drop ((Lib.indexByte (bl s) c).toNat+1))];rfl
theorem cut_size (c:UInt8) (s:ByteArray):(cutB c s).1.size≤s.size∧(cutB c s).2.1.size≤s.size:=by
 unfold cutB
 split
 ·exact ⟨Nat.le_refl _,Nat.zero_le _⟩
 ·constructor
  ·rw [← size_bl,bl_extract,← size_bl s];simp;omega
  ·rw [← size_bl,bl_extract,← size_bl s];simp
theorem splitB_size (c:UInt8) (s:ByteArray):∀ x∈splitB c s,x.size≤s.size:=by
 suffices h:∀ (l:List UInt8),∀ x∈splitL c l,x.length≤l.length by
  intro x hx
  unfold splitB at hx
  obtain ⟨y,hy,rfl⟩:=List.mem_map.1 hx
  have:=h _ _ hy
  rw [size_bl] at this
  rw [← size_bl,bl_mk];exact this
 intro l
 induction l with
 | nil=>intro x hx;simp [splitL] at hx;subst hx;simp
 | cons b l ih =>
  intro x hx
  rw [splitL] at hx
  split at hx
  ·rcases List.mem_cons.1 hx with rfl|hx
   ·simp
   ·have:=ih x hx;simp;omega
  ·split at hx
   ·simp at hx;subst hx;simp
   ·rename_i h t e
    rw [e] at ih
    rcases List.mem_cons.1 hx with rfl|hx
    ·have:=ih h List.mem_cons_self;simp;omega
    ·have:=ih x (List.mem_cons_of_mem _ hx);simp;omega
theorem splitB_len (c:UInt8) (s:ByteArray):(splitB c s).length≤s.size+1:=by
 unfold splitB
 rw [List.length_map,← size_bl];exact splitL_len c _
def pairB (t:TG):ByteArray:=joinB (mkB [61]) [t.1,t.2.1]
theorem bl_pairB (t:TG):bl (pairB t)=bl t.1++[61]++bl t.2.1:=by
 unfold pairB;rw [joinB_cons];simp [Lib.joinTail,bl_mkB]
def textT (l:List TG):ByteArray:=joinB (mkB [44]) (l.map pairB)
def Fit (l:List TG):Prop:=l.length≤1000∧∀ t∈l,t.1.size≤1000000∧t.2.1.size≤1000000
theorem fit_pair {l:List TG} (h:Fit l) (t:TG) (ht:t∈l):(bl (pairB t)).length≤2000001:=by
 have:=h.2 t ht
 rw [bl_pairB];simp [size_bl];omega
theorem fit_text {l:List TG} (h:Fit l):(bl (textT l)).length≤100000000000:=by
 have:=joinB_len (mkB [44]) 2000001 (l.map pairB) (by
  intro x hx
  obtain ⟨t,ht,rfl⟩:=List.mem_map.1 hx
  exact fit_pair h t ht)
 rw [List.length_map] at this
 refine Nat.le_trans this (Nat.le_trans (Nat.mul_le_mul_right _ h.1) ?_)
 rw [bl_mkB];simp
def pairsT:List ByteArray→Option (List TG)
 | []=>some []
 | x ::r=>if (cutB 61 x).2.2=true then (pairsT r).map ((((cutB 61 x).1,(cutB 61 x).2.1,()):TG) ::·) else none
def readT (acc:List TG) (o:Option (List TG)):List TG×Int:=o.elim ([],2) fun ps=>canonT (acc++ps)
def parseT (s:ByteArray):List TG×Int:=if bl s=[] then ([],0) else readT [] (pairsT (splitB 44 s))
def chainT:List TG→Bool
 | a ::b ::r=>lessT a b && chainT (b ::r)
 | _=>true
def rightT (l:List TG):Bool:=l.all mayT && (chainT l && decide (l.length≤4))
theorem chain_strict:∀ l:List TG,chainT l=true↔Strict l
 | []=>⟨fun _=>List.Pairwise.nil,fun _=>rfl⟩
 | [a]=>⟨fun _=>List.pairwise_singleton _ _,fun _=>rfl⟩
 | a ::b ::r=>by
  have ih:=chain_strict (b ::r)
  rw [chainT,Bool.and_eq_true,ih,Strict,Strict,List.pairwise_cons (a:=a)]
  constructor
  ·rintro ⟨h1,h2⟩
   refine ⟨fun x hx=>?_,h2⟩
   rcases List.mem_cons.1 hx with rfl|hx
   ·exact h1
   ·rw [List.pairwise_cons] at h2
    exact less_trans h1 (h2.1 x hx)
  ·rintro ⟨h1,h2⟩
   exact ⟨h1 b List.mem_cons_self,h2⟩
theorem right_iff (l:List TG):rightT l=true↔(l.all mayT=true∧Strict l∧l.length≤4):=by
 unfold rightT
 rw [Bool.and_eq_true,Bool.and_eq_true,chain_strict,decide_eq_true_eq]
theorem insAll_strict (l:List TG) (h:Strict l):insAll [] l=some l:=by
 cases hh:insAll [] l with
 | none =>
  have:=insAll_none l [] hh List.Pairwise.nil
  rw [List.nil_append] at this
  exact absurd (strict_nodup h) this
 | some o =>
  obtain ⟨h1,h2⟩:=insAll_some l [] o hh List.Pairwise.nil
  rw [List.nil_append] at h2
  rw [strict_unique h1 h h2]
theorem canonT_eq (l:List TG):canonT l=if l.all mayT=true then (if 4<l.length then ([],4) else (insAll [] l).elim ([],5) fun o=>(o,0)) else ([],2):=by
 unfold canonT
 cases insAll [] l<;>rfl
theorem canon_right (l:List TG) (h:rightT l=true):canonT l=(l,0):=by
 obtain ⟨h1,h2,h3⟩:=(right_iff l).1 h
 rw [canonT_eq,if_pos h1,if_neg (by omega),insAll_strict l h2];rfl
theorem canon_out (l:List TG):((canonT l).2=0∧rightT (canonT l).1=true∧(canonT l).1.Perm l)∨((canonT l).2≠0∧(canonT l).1=[]):=by
 rw [canonT_eq]
 by_cases h1:l.all mayT=true
 ·rw [if_pos h1]
  by_cases h4:4<l.length
  ·rw [if_pos h4];exact .inr ⟨by decide,rfl⟩
  ·rw [if_neg h4]
   cases hh:insAll [] l with
   | none=>exact .inr ⟨by decide,rfl⟩
   | some o =>
    obtain ⟨h2,h3⟩:=insAll_some l [] o hh List.Pairwise.nil
    rw [List.nil_append] at h3
    refine .inl ⟨rfl,(right_iff o).2 ⟨?_,h2,?_⟩,h3⟩
    ·rw [List.all_eq_true] at h1 ⊢
     exact fun x hx=>h1 x (h3.mem_iff.1 hx)
    ·have:=h3.length_eq;omega
 ·rw [if_neg h1];exact .inr ⟨by decide,rfl⟩
theorem name_no (l:List UInt8) (h:nameL l=true) (c:UInt8) (hc:inNameB c=false):c ∉ l:=by
 unfold nameL at h
 rw [Bool.and_eq_true,List.all_eq_true] at h
 intro hm
 have:=h.2 c hm
 rw [hc] at this;cases this
theorem value_no (l:List UInt8) (h:valueL l=true) (c:UInt8) (hc:inValB c=false):c ∉ l:=by
 unfold valueL at h
 rw [Bool.and_eq_true,List.all_eq_true] at h
 intro hm
 have:=h.2 c hm
 rw [hc] at this;cases this
theorem name_len (l:List UInt8) (h:nameL l=true):1≤l.length∧l.length≤12:=by
 unfold nameL at h
 simp only [Bool.and_eq_true,decide_eq_true_eq] at h
 exact ⟨h.1.1.1,h.1.1.2⟩
theorem value_len (l:List UInt8) (h:valueL l=true):1≤l.length∧l.length≤12:=by
 unfold valueL at h
 simp only [Bool.and_eq_true,decide_eq_true_eq] at h
 exact ⟨h.1.1,h.1.2⟩
theorem split_none (c:UInt8):∀ l:List UInt8,c ∉ l→splitL c l=[l]
 | [],_=>rfl
 | b ::l,h=>by
  have hb:b≠c:=fun e=>h (by rw [e];simp)
  rw [splitL,if_neg hb,split_none c l (fun k=>h (List.mem_cons_of_mem _ k))]
theorem split_app (c:UInt8) (y:List UInt8):∀ x:List UInt8,c ∉ x→splitL c (x++c ::y)=x ::splitL c y
 | [],_=>by rw [List.nil_append,splitL,if_pos rfl]
 | b ::x,h=>by
  have hb:b≠c:=fun e=>h (by rw [e];simp)
  rw [List.cons_append,splitL,if_neg hb,split_app c y x (fun k=>h (List.mem_cons_of_mem _ k))]
theorem split_join (c:UInt8):∀ (l:List (List UInt8)) (x:List UInt8),(∀ y∈x ::l,c ∉ y)→splitL c (Lib.join (x ::l) [c])=x ::l
 | [],x,h=>by
  rw [Lib.join_one];exact split_none c x (h x List.mem_cons_self)
 | z ::l,x,h=>by
  have ih:=split_join c l z (fun y hy=>h y (List.mem_cons_of_mem _ hy))
  rw [Lib.join_cons]
  show splitL c (x++tl [c] (z ::l))=_
  rw [tl_cons,List.append_assoc,show [c]++(z++tl [c] l)=c ::(z++tl [c] l) from rfl,split_app c _ x (h x List.mem_cons_self)]
  rw [Lib.join_cons] at ih
  rw [ih]
theorem idx_app (c:UInt8) (y:List UInt8):∀ x:List UInt8,c ∉ x→Lib.indexByte (x++c ::y) c=(x.length:Int)
 | [],_=>by rw [List.nil_append,idx_cons,if_pos rfl];rfl
 | b ::x,h=>by
  have hb:b≠c:=fun e=>h (by rw [e];simp)
  rw [List.cons_append,idx_cons,if_neg hb,idx_app c y x (fun k=>h (List.mem_cons_of_mem _ k)),if_neg (by omega),List.length_cons]
  omega
theorem may_parts {t:TG} (h:mayT t=true):nameL (bl t.1)=true∧valueL (bl t.2.1)=true:=by
 unfold mayT at h;rwa [Bool.and_eq_true] at h
theorem cut_app (c:UInt8) (a b s:ByteArray) (hs:bl s=bl a++c ::bl b) (h:c ∉ bl a):cutB c s=(a,b,true):=by
 have e:Lib.indexByte (bl s) c=((bl a).length:Int):=by rw [hs];exact idx_app c _ _ h
 unfold cutB
 rw [e,if_neg (by omega),ext_take,ext_drop,hs]
 simp only [Int.toNat_natCast,Prod.mk.injEq,and_true]
 constructor
 ·apply bl_inj;rw [bl_mk];simp
 ·apply bl_inj;rw [bl_mk,List.drop_append];simp
theorem pairs_back:∀ l:List TG,l.all mayT=true→pairsT (l.map pairB)=some l
 | [],_=>rfl
 | t ::l,h=>by
  rw [List.all_cons,Bool.and_eq_true] at h
  have hm:=may_parts h.1
  have hc:cutB 61 (pairB t)=(t.1,t.2.1,true):=cut_app 61 t.1 t.2.1 (pairB t) (by rw [bl_pairB];simp) (name_no _ hm.1 61 (by decide+kernel))
  rw [List.map_cons,pairsT,hc,if_pos rfl,pairs_back l h.2];rfl
theorem pair_no {t:TG} (h:mayT t=true):(44:UInt8) ∉ bl (pairB t):=by
 have hm:=may_parts h
 rw [bl_pairB]
 intro k
 rcases List.mem_append.1 k with k|k
 ·rcases List.mem_append.1 k with k|k
  ·exact name_no _ hm.1 44 (by decide+kernel) k
  ·revert k;decide
 ·exact value_no _ hm.2 44 (by decide+kernel) k
theorem parse_text (l:List TG) (h:rightT l=true):parseT (textT l)=(l,0):=by
 obtain ⟨h1,h2,h3⟩:=(right_iff l).1 h
 cases l with
 | nil=>rfl
 | cons t r =>
  have hne:bl (textT (t ::r))≠[]:=by
   unfold textT
   rw [List.map_cons,joinB_cons,bl_pairB];simp
  unfold parseT
  rw [if_neg hne]
  have e:splitB 44 (textT (t ::r))=(t ::r).map pairB:=by
   unfold splitB textT joinB
   rw [bl_mk,bl_mkB,List.map_cons,List.map_cons,split_join]
   ·simp [mk_bl,Function.comp_def]
   ·intro y hy
    rw [List.all_eq_true] at h1
    rcases List.mem_cons.1 hy with rfl|hy
    ·exact pair_no (h1 t List.mem_cons_self)
    ·rw [List.map_map] at hy
     obtain ⟨u,hu,rfl⟩:=List.mem_map.1 hy
     exact pair_no (h1 u (List.mem_cons_of_mem _ hu))
  rw [e,pairs_back _ h1]
  show canonT ([]++(t ::r))=_
  rw [List.nil_append,canon_right _ h]
theorem parse_out (s:ByteArray):((parseT s).2=0∧rightT (parseT s).1=true)∨((parseT s).2≠0∧(parseT s).1=[]):=by
 unfold parseT
 split
 ·exact .inl ⟨rfl,rfl⟩
 ·cases h:pairsT (splitB 44 s) with
  | none=>exact .inr ⟨by decide,rfl⟩
  | some ps =>
   show (canonT ([]++ps)).2=0∧_∨_
   rcases canon_out ([]++ps) with ⟨h1,h2,_⟩|h1
   ·exact .inl ⟨h1,h2⟩
   ·exact .inr h1
theorem right_fit {l:List TG} (h:rightT l=true):Fit l∧(bl (textT l)).length≤1000:=by
 obtain ⟨h1,h2,h3⟩:=(right_iff l).1 h
 rw [List.all_eq_true] at h1
 have hs:∀ t∈l,(bl t.1).length≤12∧(bl t.2.1).length≤12:=fun t ht=>⟨(name_len _ (may_parts (h1 t ht)).1).2,(value_len _ (may_parts (h1 t ht)).2).2⟩
 refine ⟨⟨by omega,fun t ht=>?_⟩,?_⟩
 ·have:=hs t ht
  rw [size_bl,size_bl] at this;omega
 ·have:=joinB_len (mkB [44]) 25 (l.map pairB) (by
   intro x hx
   obtain ⟨t,ht,rfl⟩:=List.mem_map.1 hx
   have:=hs t ht
   rw [bl_pairB];simp;omega)
  rw [List.length_map,bl_mkB] at this
  have h5:l.length * ([44]:List UInt8).length+l.length * 25≤1000:=by simp;omega
  rw [Nat.mul_add] at this
  exact Nat.le_trans this h5
end Go.Proofs.YtdcphpbimeoioaaGreatDoorE
end
