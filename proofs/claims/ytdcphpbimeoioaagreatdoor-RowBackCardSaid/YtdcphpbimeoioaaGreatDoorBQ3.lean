/- A part of the proof: ZQHFa, ZQHN, ZQSV, ZQSW, ZQHM, ZQHFb, ZQGQ2, ZQGQ3, ZQGV2, ZQGV3, ZQGR1, ZQGK1, ZQGW1, ZQGY1, ZQGN1, ZQGN2. No condition. -/
import Derived.Test.YtdcphpbimeoioaaGreatDoorBQ2
import Derived.Test.YtdcphpbimeoioaaGreatDoorProg
import Derived.WalkKit
import Derived.Lib.SmallJoins
import Derived.RangeFuncBox
import Derived.RangeFuncLeaves
import Derived.Shelf.Abstract
import Derived.OwnWalkIn
import Derived.TacticsInMore
import Derived.LoopNIn
import Derived.LoopIn
import Derived.Maps.AppendAt
import Derived.Sort.OwnSorted
import Derived.Lib.ItoaLen
import Derived.Maps.RangeRun
import Derived.MapKept
import Derived.ChangeMaps5
section
set_option linter.unusedSectionVars false
namespace Go.Proofs.YtdcphpbimeoioaaGreatDoorE
open Go
set_option linter.unusedVariables false
set_option maxRecDepth 100000
abbrev tPick_match:Ty := .pair tMatch .unit
abbrev s_slCut_sg:List Sg:=[.tree .str, .tree .str]
abbrev s_slCut_rs:List Rt:=[.tree .str, .tree .str, .tree .bool]
def s_slCut (n:Nat) (x:SgEl s_slCut_sg):Option (RtEl s_slCut_rs×OutEl s_slCut_sg) :=
  bindN (s_Index1 n x) fun p1 =>
  bif ile (0:Int) p1.1.1 then
   bif ile (0:Int) (0:Int) then
    bif ile (0:Int) p1.1.1 then
     bif ile p1.1.1 (ssize x.1) then
      bif ile (0:Int) (iadd .i64 p1.1.1 (ssize x.2.1)) then
       bif ile (iadd .i64 p1.1.1 (ssize x.2.1)) (ssize x.1) then
        bif ile (ssize x.1) (ssize x.1) then
         some ((sext x.1 (0:Int) p1.1.1,sext x.1 (iadd .i64 p1.1.1 (ssize x.2.1)) (ssize x.1),true,()),((),(),()))
        else none
       else none
      else none
     else none
    else none
   else none
  else
  some ((x.1,(⟨#[]⟩:ByteArray),false,()),((),(),()))
abbrev s_slCut_ent (n:Nat):Ent:=⟨268,s_slCut_sg,s_slCut_rs,s_slCut n⟩
theorem s_slCut_ok (n:Nat):EntOk Tryz.prog (s_slCut_ent n):=ent_ok' mixed (T:=[s_Index1_ent n]) (tabCons (s_Index1_ok n) tabNil) tabLNil fun x=>by kernel_rfl
abbrev s_Cut_sg:List Sg:=[.tree .str, .tree .str]
abbrev s_Cut_rs:List Rt:=[.tree .str, .tree .str, .tree .bool]
def s_Cut (n:Nat) (x:SgEl s_Cut_sg):Option (RtEl s_Cut_rs×OutEl s_Cut_sg) :=
  bindN (s_slCut n x) fun p1 =>
  some (p1.1,((),(),()))
abbrev s_Cut_ent (n:Nat):Ent:=⟨217,s_Cut_sg,s_Cut_rs,s_Cut n⟩
theorem s_Cut_ok (n:Nat):EntOk Tryz.prog (s_Cut_ent n):=ent_ok' mixed (T:=[s_slCut_ent n]) (tabCons (s_slCut_ok n) tabNil) tabLNil fun x=>by kernel_rfl
abbrev s_slHasPrefix_sg:List Sg:=[.tree .str, .tree .str]
abbrev s_slHasPrefix_rs:List Rt:=[.tree .bool]
def s_slHasPrefix (n:Nat) (x:SgEl s_slHasPrefix_sg):Option (RtEl s_slHasPrefix_rs×OutEl s_slHasPrefix_sg) :=
  bif ile (ssize x.2.1) (ssize x.1) then
   bif ile (0:Int) (0:Int) then
    bif ile (0:Int) (ssize x.2.1) then
     bif ile (ssize x.2.1) (ssize x.1) then
      some ((seq (sext x.1 (0:Int) (ssize x.2.1)) x.2.1,()),((),(),()))
     else none
    else none
   else none
  else
  some ((false,()),((),(),()))
abbrev s_slHasPrefix_ent (n:Nat):Ent:=⟨304,s_slHasPrefix_sg,s_slHasPrefix_rs,s_slHasPrefix n⟩
theorem s_slHasPrefix_ok (n:Nat):EntOk Tryz.prog (s_slHasPrefix_ent n):=ent_ok' mixed (T:=[]) tabNil tabLNil fun x=>by kernel_rfl
abbrev s_HasPrefix_sg:List Sg:=[.tree .str, .tree .str]
abbrev s_HasPrefix_rs:List Rt:=[.tree .bool]
def s_HasPrefix (n:Nat) (x:SgEl s_HasPrefix_sg):Option (RtEl s_HasPrefix_rs×OutEl s_HasPrefix_sg) :=
  bindN (s_slHasPrefix n x) fun p1 =>
  some (p1.1,((),(),()))
abbrev s_HasPrefix_ent (n:Nat):Ent:=⟨277,s_HasPrefix_sg,s_HasPrefix_rs,s_HasPrefix n⟩
theorem s_HasPrefix_ok (n:Nat):EntOk Tryz.prog (s_HasPrefix_ent n):=ent_ok' mixed (T:=[s_slHasPrefix_ent n]) (tabCons (s_slHasPrefix_ok n) tabNil) tabLNil fun x=>by kernel_rfl
abbrev s_slHasSuffix_sg:List Sg:=[.tree .str, .tree .str]
abbrev s_slHasSuffix_rs:List Rt:=[.tree .bool]
def s_slHasSuffix (n:Nat) (x:SgEl s_slHasSuffix_sg):Option (RtEl s_slHasSuffix_rs×OutEl s_slHasSuffix_sg) :=
  bif ile (ssize x.2.1) (ssize x.1) then
   bif ile (0:Int) (isub .i64 (ssize x.1) (ssize x.2.1)) then
    bif ile (isub .i64 (ssize x.1) (ssize x.2.1)) (ssize x.1) then
     bif ile (ssize x.1) (ssize x.1) then
      some ((seq (sext x.1 (isub .i64 (ssize x.1) (ssize x.2.1)) (ssize x.1)) x.2.1,()),((),(),()))
     else none
    else none
   else none
  else
  some ((false,()),((),(),()))
abbrev s_slHasSuffix_ent (n:Nat):Ent:=⟨310,s_slHasSuffix_sg,s_slHasSuffix_rs,s_slHasSuffix n⟩
theorem s_slHasSuffix_ok (n:Nat):EntOk Tryz.prog (s_slHasSuffix_ent n):=ent_ok' mixed (T:=[]) tabNil tabLNil fun x=>by kernel_rfl
abbrev s_slTrimPrefix_sg:List Sg:=[.tree .str, .tree .str]
abbrev s_slTrimPrefix_rs:List Rt:=[.tree .str]
def s_slTrimPrefix (n:Nat) (x:SgEl s_slTrimPrefix_sg):Option (RtEl s_slTrimPrefix_rs×OutEl s_slTrimPrefix_sg) :=
  bindN (s_slHasPrefix n x) fun p1 =>
  bif p1.1.1 then
   bif ile (0:Int) (ssize x.2.1) then
    bif ile (ssize x.2.1) (ssize x.1) then
     bif ile (ssize x.1) (ssize x.1) then
      some ((sext x.1 (ssize x.2.1) (ssize x.1),()),((),(),()))
     else none
    else none
   else none
  else
  some ((x.1,()),((),(),()))
abbrev s_slTrimPrefix_ent (n:Nat):Ent:=⟨270,s_slTrimPrefix_sg,s_slTrimPrefix_rs,s_slTrimPrefix n⟩
theorem s_slTrimPrefix_ok (n:Nat):EntOk Tryz.prog (s_slTrimPrefix_ent n):=ent_ok' mixed (T:=[s_slHasPrefix_ent n]) (tabCons (s_slHasPrefix_ok n) tabNil) tabLNil fun x=>by kernel_rfl
abbrev s_TrimPrefix_sg:List Sg:=[.tree .str, .tree .str]
abbrev s_TrimPrefix_rs:List Rt:=[.tree .str]
def s_TrimPrefix (n:Nat) (x:SgEl s_TrimPrefix_sg):Option (RtEl s_TrimPrefix_rs×OutEl s_TrimPrefix_sg) :=
  bindN (s_slTrimPrefix n x) fun p1 =>
  some (p1.1,((),(),()))
abbrev s_TrimPrefix_ent (n:Nat):Ent:=⟨220,s_TrimPrefix_sg,s_TrimPrefix_rs,s_TrimPrefix n⟩
theorem s_TrimPrefix_ok (n:Nat):EntOk Tryz.prog (s_TrimPrefix_ent n):=ent_ok' mixed (T:=[s_slTrimPrefix_ent n]) (tabCons (s_slTrimPrefix_ok n) tabNil) tabLNil fun x=>by kernel_rfl
abbrev s_slTrimSuffix_sg:List Sg:=[.tree .str, .tree .str]
abbrev s_slTrimSuffix_rs:List Rt:=[.tree .str]
def s_slTrimSuffix (n:Nat) (x:SgEl s_slTrimSuffix_sg):Option (RtEl s_slTrimSuffix_rs×OutEl s_slTrimSuffix_sg) :=
  bindN (s_slHasSuffix n x) fun p1 =>
  bif p1.1.1 then
   bif ile (0:Int) (0:Int) then
    bif ile (0:Int) (isub .i64 (ssize x.1) (ssize x.2.1)) then
     bif ile (isub .i64 (ssize x.1) (ssize x.2.1)) (ssize x.1) then
      some ((sext x.1 (0:Int) (isub .i64 (ssize x.1) (ssize x.2.1)),()),((),(),()))
     else none
    else none
   else none
  else
  some ((x.1,()),((),(),()))
abbrev s_slTrimSuffix_ent (n:Nat):Ent:=⟨273,s_slTrimSuffix_sg,s_slTrimSuffix_rs,s_slTrimSuffix n⟩
theorem s_slTrimSuffix_ok (n:Nat):EntOk Tryz.prog (s_slTrimSuffix_ent n):=ent_ok' mixed (T:=[s_slHasSuffix_ent n]) (tabCons (s_slHasSuffix_ok n) tabNil) tabLNil fun x=>by kernel_rfl
abbrev s_TrimSuffix_sg:List Sg:=[.tree .str, .tree .str]
abbrev s_TrimSuffix_rs:List Rt:=[.tree .str]
def s_TrimSuffix (n:Nat) (x:SgEl s_TrimSuffix_sg):Option (RtEl s_TrimSuffix_rs×OutEl s_TrimSuffix_sg) :=
  bindN (s_slTrimSuffix n x) fun p1 =>
  some (p1.1,((),(),()))
abbrev s_TrimSuffix_ent (n:Nat):Ent:=⟨223,s_TrimSuffix_sg,s_TrimSuffix_rs,s_TrimSuffix n⟩
theorem s_TrimSuffix_ok (n:Nat):EntOk Tryz.prog (s_TrimSuffix_ent n):=ent_ok' mixed (T:=[s_slTrimSuffix_ent n]) (tabCons (s_slTrimSuffix_ok n) tabNil) tabLNil fun x=>by kernel_rfl
abbrev s_slCutSuffix_sg:List Sg:=[.tree .str, .tree .str]
abbrev s_slCutSuffix_rs:List Rt:=[.tree .str, .tree .bool]
def s_slCutSuffix (n:Nat) (x:SgEl s_slCutSuffix_sg):Option (RtEl s_slCutSuffix_rs×OutEl s_slCutSuffix_sg) :=
  bindN (s_slHasSuffix n x) fun p1 =>
  bif !p1.1.1 then
   some ((x.1,false,()),((),(),()))
  else
  bif ile (0:Int) (0:Int) then
   bif ile (0:Int) (isub .i64 (ssize x.1) (ssize x.2.1)) then
    bif ile (isub .i64 (ssize x.1) (ssize x.2.1)) (ssize x.1) then
     some ((sext x.1 (0:Int) (isub .i64 (ssize x.1) (ssize x.2.1)),true,()),((),(),()))
    else none
   else none
  else none
abbrev s_slCutSuffix_ent (n:Nat):Ent:=⟨275,s_slCutSuffix_sg,s_slCutSuffix_rs,s_slCutSuffix n⟩
theorem s_slCutSuffix_ok (n:Nat):EntOk Tryz.prog (s_slCutSuffix_ent n):=ent_ok' mixed (T:=[s_slHasSuffix_ent n]) (tabCons (s_slHasSuffix_ok n) tabNil) tabLNil fun x=>by kernel_rfl
abbrev s_CutSuffix_sg:List Sg:=[.tree .str, .tree .str]
abbrev s_CutSuffix_rs:List Rt:=[.tree .str, .tree .bool]
def s_CutSuffix (n:Nat) (x:SgEl s_CutSuffix_sg):Option (RtEl s_CutSuffix_rs×OutEl s_CutSuffix_sg) :=
  bindN (s_slCutSuffix n x) fun p1 =>
  some (p1.1,((),(),()))
abbrev s_CutSuffix_ent (n:Nat):Ent:=⟨227,s_CutSuffix_sg,s_CutSuffix_rs,s_CutSuffix n⟩
theorem s_CutSuffix_ok (n:Nat):EntOk Tryz.prog (s_CutSuffix_ent n):=ent_ok' mixed (T:=[s_slCutSuffix_ent n]) (tabCons (s_slCutSuffix_ok n) tabNil) tabLNil fun x=>by kernel_rfl
abbrev sat_Of_sg:List Sg:=[.tree (.int .i64)]
abbrev sat_Of_rs:List Rt:=[.tree tSum]
def sat_Of (n:Nat) (x:SgEl sat_Of_sg):Option (RtEl sat_Of_rs×OutEl sat_Of_sg) :=
  some (((x.1,false,()),()),((),()))
abbrev sat_Of_ent (n:Nat):Ent:=⟨181,sat_Of_sg,sat_Of_rs,sat_Of n⟩
theorem sat_Of_ok (n:Nat):EntOk Tryz.prog (sat_Of_ent n):=ent_ok' mixed (T:=[]) tabNil tabLNil fun x=>by kernel_rfl
abbrev sat_Add_sg:List Sg:=[.tree tSum, .tree tSum]
abbrev sat_Add_rs:List Rt:=[.tree tSum]
def sat_Add (n:Nat) (x:SgEl sat_Add_sg):Option (RtEl sat_Add_rs×OutEl sat_Add_sg) :=
  bif x.1.2.1 then
   some ((x.1,()),((),(),()))
  else
  bif x.2.1.2.1 then
   some (x.2,((),(),()))
  else
  bif ilt (0:Int) x.1.1 then
   bif ilt (0:Int) x.2.1.1 then
    bif ilt (iadd .i64 x.1.1 x.2.1.1) (0:Int) then
     some ((((9223372036854775807:Int),true,()),()),((),(),()))
    else
    bif ilt x.1.1 (0:Int) then
     bif ilt x.2.1.1 (0:Int) then
      bif ile (0:Int) (iadd .i64 x.1.1 x.2.1.1) then
       some ((((-9223372036854775808:Int),true,()),()),((),(),()))
      else
      bindN (sat_Of n (iadd .i64 x.1.1 x.2.1.1,())) fun p1 =>
      some (p1.1,((),(),()))
     else
     bindN (sat_Of n (iadd .i64 x.1.1 x.2.1.1,())) fun p2 =>
     some (p2.1,((),(),()))
    else
    bindN (sat_Of n (iadd .i64 x.1.1 x.2.1.1,())) fun p3 =>
    some (p3.1,((),(),()))
   else
   bif ilt x.1.1 (0:Int) then
    bif ilt x.2.1.1 (0:Int) then
     bif ile (0:Int) (iadd .i64 x.1.1 x.2.1.1) then
      some ((((-9223372036854775808:Int),true,()),()),((),(),()))
     else
     bindN (sat_Of n (iadd .i64 x.1.1 x.2.1.1,())) fun p4 =>
     some (p4.1,((),(),()))
    else
    bindN (sat_Of n (iadd .i64 x.1.1 x.2.1.1,())) fun p5 =>
    some (p5.1,((),(),()))
   else
   bindN (sat_Of n (iadd .i64 x.1.1 x.2.1.1,())) fun p6 =>
   some (p6.1,((),(),()))
  else
  bif ilt x.1.1 (0:Int) then
   bif ilt x.2.1.1 (0:Int) then
    bif ile (0:Int) (iadd .i64 x.1.1 x.2.1.1) then
     some ((((-9223372036854775808:Int),true,()),()),((),(),()))
    else
    bindN (sat_Of n (iadd .i64 x.1.1 x.2.1.1,())) fun p7 =>
    some (p7.1,((),(),()))
   else
   bindN (sat_Of n (iadd .i64 x.1.1 x.2.1.1,())) fun p8 =>
   some (p8.1,((),(),()))
  else
  bindN (sat_Of n (iadd .i64 x.1.1 x.2.1.1,())) fun p9 =>
  some (p9.1,((),(),()))
abbrev sat_Add_ent (n:Nat):Ent:=⟨232,sat_Add_sg,sat_Add_rs,sat_Add n⟩
theorem sat_Add_ok (n:Nat):EntOk Tryz.prog (sat_Add_ent n):=ent_ok' mixed (T:=[sat_Of_ent n]) (tabCons (sat_Of_ok n) tabNil) tabLNil fun x=>by kernel_rfl
abbrev sat_Number_sg:List Sg:=[.tree (.int .i64)]
abbrev sat_Number_rs:List Rt:=[.tree .str]
def sat_Number (n:Nat) (x:SgEl sat_Number_sg):Option (RtEl sat_Number_rs×OutEl sat_Number_sg) :=
  bindN (c_FormatInt n (x.1,(10:Int),())) fun p1 =>
  some (p1.1,((),()))
abbrev sat_Number_ent (n:Nat):Ent:=⟨84,sat_Number_sg,sat_Number_rs,sat_Number n⟩
theorem sat_Number_ok (n:Nat):EntOk Tryz.prog (sat_Number_ent n):=ent_ok' mixed (T:=[c_FormatInt_ent n]) (tabCons (c_FormatInt_ok n) tabNil) tabLNil fun x=>by kernel_rfl
abbrev sat_Text_sg:List Sg:=[.tree tSum]
abbrev sat_Text_rs:List Rt:=[.tree .str]
def sat_Text (n:Nat) (x:SgEl sat_Text_sg):Option (RtEl sat_Text_rs×OutEl sat_Text_sg) :=
  bif x.1.2.1 then
   bindN (sat_Number n (x.1.1,())) fun p1 =>
   bif sfits p1.1.1 (⟨#[33]⟩:ByteArray) then
    some ((scat p1.1.1 (⟨#[33]⟩:ByteArray),()),((),()))
   else none
  else
  bindN (sat_Number n (x.1.1,())) fun p2 =>
  some (p2.1,((),()))
abbrev sat_Text_ent (n:Nat):Ent:=⟨107,sat_Text_sg,sat_Text_rs,sat_Text n⟩
theorem sat_Text_ok (n:Nat):EntOk Tryz.prog (sat_Text_ent n):=ent_ok' mixed (T:=[sat_Number_ent n]) (tabCons (sat_Number_ok n) tabNil) tabLNil fun x=>by kernel_rfl
abbrev sat_digits_sg:List Sg:=[.tree .str]
abbrev sat_digits_rs:List Rt:=[.tree .bool]
def sat_digits (n:Nat) (x:SgEl sat_digits_sg):Option (RtEl sat_digits_rs×OutEl sat_digits_sg) :=
  bif seq x.1 (⟨#[]⟩:ByteArray) then
   some ((false,()),((),()))
  else
  bif ile (0:Int) (0:Int) then
   bif ilt (0:Int) (ssize x.1) then
    bif ieq (sat x.1 (0:Int)) (48:Int) then
     bif !(seq x.1 (⟨#[48]⟩:ByteArray)) then
      some ((false,()),((),()))
     else
     bindN (s_Trim n (x.1,(⟨#[48,49,50,51,52,53,54,55,56,57]⟩:ByteArray),())) fun p1 =>
     some ((seq p1.1.1 (⟨#[]⟩:ByteArray),()),((),()))
    else
    bindN (s_Trim n (x.1,(⟨#[48,49,50,51,52,53,54,55,56,57]⟩:ByteArray),())) fun p2 =>
    some ((seq p2.1.1 (⟨#[]⟩:ByteArray),()),((),()))
   else none
  else none
abbrev sat_digits_ent (n:Nat):Ent:=⟨221,sat_digits_sg,sat_digits_rs,sat_digits n⟩
theorem sat_digits_ok (n:Nat):EntOk Tryz.prog (sat_digits_ent n):=ent_ok' mixed (T:=[s_Trim_ent n]) (tabCons (s_Trim_ok n) tabNil) tabLNil fun x=>by kernel_rfl
abbrev word_made_sg:List Sg:=[.tree .str, .tree .str]
abbrev word_made_rs:List Rt:=[.tree .bool]
def word_made (n:Nat) (x:SgEl word_made_sg):Option (RtEl word_made_rs×OutEl word_made_sg) :=
  bif !(seq x.1 (⟨#[]⟩:ByteArray)) then
   bif ile (ssize x.1) (12:Int) then
    bindN (s_Trim n x) fun p1 =>
    some ((seq p1.1.1 (⟨#[]⟩:ByteArray),()),((),(),()))
   else
   some ((false,()),((),(),()))
  else
  some ((false,()),((),(),()))
abbrev word_made_ent (n:Nat):Ent:=⟨195,word_made_sg,word_made_rs,word_made n⟩
theorem word_made_ok (n:Nat):EntOk Tryz.prog (word_made_ent n):=ent_ok' mixed (T:=[s_Trim_ent n]) (tabCons (s_Trim_ok n) tabNil) tabLNil fun x=>by kernel_rfl
abbrev word_Name_sg:List Sg:=[.tree .str]
abbrev word_Name_rs:List Rt:=[.tree .bool]
def word_Name (n:Nat) (x:SgEl word_Name_sg):Option (RtEl word_Name_rs×OutEl word_Name_sg) :=
  bindN (word_made n (x.1,(⟨#[97,98,99,100,101,102,103,104,105,106,107,108,109,110,111,112,113,114,115,116,117,118,119,120,121,122,48,49,50,51,52,53,54,55,56,57,95]⟩:ByteArray),())) fun p1 =>
  bif p1.1.1 then
   bif ile (0:Int) (0:Int) then
    bif ilt (0:Int) (ssize x.1) then
     bindN (s_IndexByte n ((⟨#[97,98,99,100,101,102,103,104,105,106,107,108,109,110,111,112,113,114,115,116,117,118,119,120,121,122]⟩:ByteArray),sat x.1 (0:Int),())) fun p2 =>
     some ((ile (0:Int) p2.1.1,()),((),()))
    else none
   else none
  else
  some ((false,()),((),()))
abbrev word_Name_ent (n:Nat):Ent:=⟨144,word_Name_sg,word_Name_rs,word_Name n⟩
theorem word_Name_ok (n:Nat):EntOk Tryz.prog (word_Name_ent n):=ent_ok' mixed (T:=[word_made_ent n,s_IndexByte_ent n]) (tabCons (word_made_ok n) (tabCons (s_IndexByte_ok n) tabNil)) tabLNil fun x=>by kernel_rfl
abbrev word_Value_sg:List Sg:=[.tree .str]
abbrev word_Value_rs:List Rt:=[.tree .bool]
def word_Value (n:Nat) (x:SgEl word_Value_sg):Option (RtEl word_Value_rs×OutEl word_Value_sg) :=
  bindN (word_made n (x.1,(⟨#[97,98,99,100,101,102,103,104,105,106,107,108,109,110,111,112,113,114,115,116,117,118,119,120,121,122,48,49,50,51,52,53,54,55,56,57,95,45,46]⟩:ByteArray),())) fun p1 =>
  some (p1.1,((),()))
abbrev word_Value_ent (n:Nat):Ent:=⟨256,word_Value_sg,word_Value_rs,word_Value n⟩
theorem word_Value_ok (n:Nat):EntOk Tryz.prog (word_Value_ent n):=ent_ok' mixed (T:=[word_made_ent n]) (tabCons (word_made_ok n) tabNil) tabLNil fun x=>by kernel_rfl
abbrev word_Split_sg:List Sg:=[.tree .str, .tree (.int .u8)]
abbrev word_Split_rs:List Rt:=[.tree (.slice .str)]
def word_Split_l0 (n:Nat):Nat→SgEl [.tree .str, .tree (.int .u8), .own .str]→Option (SgEl [] ⊕ SgEl [.own .str])
  | 0,_=>none
  | g+1,s =>
    bindN (s_IndexByte n (s.1,s.2.1,())) fun p1 =>
    bif ilt p1.1.1 (0:Int) then
     bif roomA s.2.2.1 [s.1] 16 then
      some (Sum.inr (app s.2.2.1 [s.1],()))
     else none
    else
    bif ile (0:Int) (0:Int) then
     bif ile (0:Int) p1.1.1 then
      bif ile p1.1.1 (ssize s.1) then
       bif roomA s.2.2.1 [sext s.1 (0:Int) p1.1.1] 16 then
        bif ile (0:Int) (iadd .i64 p1.1.1 (1:Int)) then
         bif ile (iadd .i64 p1.1.1 (1:Int)) (ssize s.1) then
          bif ile (ssize s.1) (ssize s.1) then
           bindL (word_Split_l0 n g (sext s.1 (iadd .i64 p1.1.1 (1:Int)) (ssize s.1),s.2.1,app s.2.2.1 [sext s.1 (0:Int) p1.1.1],())) (fun a2 =>
            some (Sum.inl ())) fun b3 =>
           some (Sum.inr b3)
          else none
         else none
        else none
       else none
      else none
     else none
    else none
theorem word_Split_l0_ok (n:Nat):∀ g,LEntOk Tryz.prog 111 (nSl word_Split_sg) ⟨0,[.tree .str, .tree (.int .u8), .own .str],0,[],[.own .str],word_Split_l0 n g⟩ g
  | 0=>loop_zero' fun _=>rfl
  | g+1=>loop_step' mixed (T:=[s_IndexByte_ent n]) (tabCons (s_IndexByte_ok n) tabNil) tabLNil (word_Split_l0_ok n g) fun s=>by kernel_rfl
def word_Split (n:Nat) (x:SgEl word_Split_sg):Option (RtEl word_Split_rs×OutEl word_Split_sg) :=
  bindL (word_Split_l0 n n (x.1,x.2.1,[],())) (fun a1 =>
   none) fun b2 =>
  some (b2,((),(),()))
abbrev word_Split_ent (n:Nat):Ent:=⟨111,word_Split_sg,word_Split_rs,word_Split n⟩
theorem word_Split_ok (n:Nat):EntOk Tryz.prog (word_Split_ent n):=ent_ok' mixed (T:=[s_IndexByte_ent n]) (tabCons (s_IndexByte_ok n) tabNil) (tabLCons (word_Split_l0_ok n n) tabLNil) fun x=>by kernel_rfl
abbrev word_Join_sg:List Sg:=[.tree .str, .tree (.slice .str)]
abbrev word_Join_rs:List Rt:=[.tree .str]
def word_Join (n:Nat) (x:SgEl word_Join_sg):Option (RtEl word_Join_rs×OutEl word_Join_sg) :=
  bindN (s_Join n (x.2.1,x.1,())) fun p1 =>
  some (p1.1,((),(),()))
abbrev word_Join_ent (n:Nat):Ent:=⟨82,word_Join_sg,word_Join_rs,word_Join n⟩
theorem word_Join_ok (n:Nat):EntOk Tryz.prog (word_Join_ent n):=ent_ok' mixed (T:=[s_Join_ent n]) (tabCons (s_Join_ok n) tabNil) tabLNil fun x=>by kernel_rfl
abbrev tag_may_sg:List Sg:=[.tree tTag]
abbrev tag_may_rs:List Rt:=[.tree .bool]
def tag_may (n:Nat) (x:SgEl tag_may_sg):Option (RtEl tag_may_rs×OutEl tag_may_sg) :=
  bindN (word_Name n (x.1.1,())) fun p1 =>
  bif p1.1.1 then
   bindN (word_Value n x.1.2) fun p2 =>
   some (p2.1,((),()))
  else
  some ((false,()),((),()))
abbrev tag_may_ent (n:Nat):Ent:=⟨251,tag_may_sg,tag_may_rs,tag_may n⟩
theorem tag_may_ok (n:Nat):EntOk Tryz.prog (tag_may_ent n):=ent_ok' mixed (T:=[word_Name_ent n,word_Value_ent n]) (tabCons (word_Name_ok n) (tabCons (word_Value_ok n) tabNil)) tabLNil fun x=>by kernel_rfl
abbrev tag_order_sg:List Sg:=[.tree tTag, .tree tTag]
abbrev tag_order_rs:List Rt:=[.tree (.int .i64)]
def tag_order (n:Nat) (x:SgEl tag_order_sg):Option (RtEl tag_order_rs×OutEl tag_order_sg) :=
  bindN (s_Compare n (x.1.1,x.2.1.1,())) fun p1 =>
  some (p1.1,((),(),()))
abbrev tag_order_ent (n:Nat):Ent:=⟨254,tag_order_sg,tag_order_rs,tag_order n⟩
theorem tag_order_ok (n:Nat):EntOk Tryz.prog (tag_order_ent n):=ent_ok' mixed (T:=[s_Compare_ent n]) (tabCons (s_Compare_ok n) tabNil) tabLNil fun x=>by kernel_rfl
abbrev tag_Canon1_sg:List Sg:=[.tree tTag]
abbrev tag_Canon1_rs:List Rt:=[.tree .bool]
def tag_Canon1 (n:Nat) (x:SgEl tag_Canon1_sg):Option (RtEl tag_Canon1_rs×OutEl tag_Canon1_sg) :=
  bindN (tag_may n x) fun p1 =>
  some ((!p1.1.1,()),((),()))
abbrev tag_Canon1_ent (n:Nat):Ent:=⟨250,tag_Canon1_sg,tag_Canon1_rs,tag_Canon1 n⟩
theorem tag_Canon1_ok (n:Nat):EntOk Tryz.prog (tag_Canon1_ent n):=ent_ok' mixed (T:=[tag_may_ent n]) (tabCons (tag_may_ok n) tabNil) tabLNil fun x=>by kernel_rfl
abbrev sl_IndexTag_sg:List Sg:=[.tree (.slice tTag), .fnv 250 []]
abbrev sl_IndexTag_rs:List Rt:=[.tree (.int .i64)]
def sl_IndexTag_l0 (n:Nat):Nat→SgEl [.tree (.slice tTag), .fnv 250 [], .tree (.int .i64), .tree (.int .i64)]→Option (SgEl [] ⊕ SgEl [.tree (.int .i64)])
  | 0,_=>none
  | g+1,s =>
    bif ilt s.2.2.2.1 s.2.2.1 then
     bif ile (0:Int) s.2.2.2.1 then
      bindN (lat s.1 (iN s.2.2.2.1)) fun v1 =>
      bindN (tag_Canon1 n (v1,())) fun p2 =>
      bif p2.1.1 then
       some (Sum.inr s.2.2.2)
      else
      bindL (sl_IndexTag_l0 n g (s.1,(),s.2.2.1,iadd .i64 s.2.2.2.1 (1:Int),())) (fun a3 =>
       some (Sum.inl ())) fun b4 =>
      some (Sum.inr b4)
     else none
    else
    some (Sum.inl ())
theorem sl_IndexTag_l0_ok (n:Nat):∀ g,LEntOk Tryz.prog 292 (nSl sl_IndexTag_sg) ⟨0,[.tree (.slice tTag), .fnv 250 [], .tree (.int .i64), .tree (.int .i64)],0,[],[.tree (.int .i64)],sl_IndexTag_l0 n g⟩ g
  | 0=>loop_zero' fun _=>rfl
  | g+1=>loop_step' mixed (T:=[tag_Canon1_ent n]) (tabCons (tag_Canon1_ok n) tabNil) tabLNil (sl_IndexTag_l0_ok n g) fun s=>by kernel_rfl
def sl_IndexTag (n:Nat) (x:SgEl sl_IndexTag_sg):Option (RtEl sl_IndexTag_rs×OutEl sl_IndexTag_sg) :=
  bindL (sl_IndexTag_l0 n n (x.1,(),ilen x.1,(0:Int),())) (fun a1 =>
   some (((-1:Int),()),((),(),()))) fun b2 =>
  some (b2,((),(),()))
abbrev sl_IndexTag_ent (n:Nat):Ent:=⟨292,sl_IndexTag_sg,sl_IndexTag_rs,sl_IndexTag n⟩
theorem sl_IndexTag_ok (n:Nat):EntOk Tryz.prog (sl_IndexTag_ent n):=ent_ok' mixed (T:=[tag_Canon1_ent n]) (tabCons (tag_Canon1_ok n) tabNil) (tabLCons (sl_IndexTag_l0_ok n n) tabLNil) fun x=>by kernel_rfl
abbrev sl_ContainsTag_sg:List Sg:=[.tree (.slice tTag), .fnv 250 []]
abbrev sl_ContainsTag_rs:List Rt:=[.tree .bool]
def sl_ContainsTag (n:Nat) (x:SgEl sl_ContainsTag_sg):Option (RtEl sl_ContainsTag_rs×OutEl sl_ContainsTag_sg) :=
  bindN (sl_IndexTag n (x.1,(),())) fun p1 =>
  some ((ile (0:Int) p1.1.1,()),((),(),()))
abbrev sl_ContainsTag_ent (n:Nat):Ent:=⟨249,sl_ContainsTag_sg,sl_ContainsTag_rs,sl_ContainsTag n⟩
theorem sl_ContainsTag_ok (n:Nat):EntOk Tryz.prog (sl_ContainsTag_ent n):=ent_ok' mixed (T:=[sl_IndexTag_ent n,tag_Canon1_ent n]) (tabCons (sl_IndexTag_ok n) (tabCons (tag_Canon1_ok n) tabNil)) tabLNil fun x=>by kernel_rfl
abbrev tag_Canon_sg:List Sg:=[.tree (.slice tTag)]
abbrev tag_Canon_rs:List Rt:=[.tree (.slice tTag), .tree (.int .i64)]
def tag_Canon_l0 (n:Nat):Nat→SgEl [.own tTag, .tree (.int .i64)]→Option (SgEl [.own tTag] ⊕ SgEl [.tree (.slice tTag), .tree (.int .i64)])
  | 0,_=>none
  | g+1,s =>
    bif ilt s.2.1 (ilen s.1) then
     bif ile (0:Int) (isub .i64 s.2.1 (1:Int)) then
      bindN (lat s.1 (iN (isub .i64 s.2.1 (1:Int)))) fun v1 =>
      bindN (lat s.1 (iN (isub .i64 s.2.1 (1:Int)))) fun v2 =>
      bif ile (0:Int) s.2.1 then
       bindN (lat s.1 (iN s.2.1)) fun v3 =>
       bindN (lat s.1 (iN s.2.1)) fun v4 =>
       bindN (tag_order n (v2,v4,())) fun p5 =>
       bif ieq p5.1.1 (0:Int) then
        some (Sum.inr ([],(5:Int),()))
       else
       bindL (tag_Canon_l0 n g (s.1,iadd .i64 s.2.1 (1:Int),())) (fun a6 =>
        some (Sum.inl a6)) fun b7 =>
       some (Sum.inr b7)
      else none
     else none
    else
    some (Sum.inl (s.1,()))
theorem tag_Canon_l0_ok (n:Nat):∀ g,LEntOk Tryz.prog 196 (nSl tag_Canon_sg) ⟨0,[.own tTag, .tree (.int .i64)],0,[.own tTag],[.tree (.slice tTag), .tree (.int .i64)],tag_Canon_l0 n g⟩ g
  | 0=>loop_zero' fun _=>rfl
  | g+1=>loop_step' mixed (T:=[sl_ContainsTag_ent n,sl_CloneTag_ent n,sl_SortTag_ent n,tag_order_ent n]) (tabCons (sl_ContainsTag_ok n) (tabCons (sl_CloneTag_ok n) (tabCons (sl_SortTag_ok n) (tabCons (tag_order_ok n) tabNil)))) tabLNil (tag_Canon_l0_ok n g) fun s=>by kernel_rfl
def tag_Canon (n:Nat) (x:SgEl tag_Canon_sg):Option (RtEl tag_Canon_rs×OutEl tag_Canon_sg) :=
  bindN (sl_ContainsTag n (x.1,(),())) fun p1 =>
  bif p1.1.1 then
   some (([],(2:Int),()),((),()))
  else
  bif ilt (4:Int) (ilen x.1) then
   some (([],(4:Int),()),((),()))
  else
  bindN (sl_CloneTag n x) fun p2 =>
  bindN (sl_SortTag n (p2.1.1,(),())) fun p3 =>
  bindL (tag_Canon_l0 n n (p3.2.1,(1:Int),())) (fun a4 =>
   some ((a4.1,(0:Int),()),((),()))) fun b5 =>
  some (b5,((),()))
abbrev tag_Canon_ent (n:Nat):Ent:=⟨196,tag_Canon_sg,tag_Canon_rs,tag_Canon n⟩
theorem tag_Canon_ok (n:Nat):EntOk Tryz.prog (tag_Canon_ent n):=ent_ok' mixed (T:=[sl_ContainsTag_ent n,sl_CloneTag_ent n,sl_SortTag_ent n,tag_order_ent n]) (tabCons (sl_ContainsTag_ok n) (tabCons (sl_CloneTag_ok n) (tabCons (sl_SortTag_ok n) (tabCons (tag_order_ok n) tabNil)))) (tabLCons (tag_Canon_l0_ok n n) tabLNil) fun x=>by kernel_rfl
abbrev tag_Find_sg:List Sg:=[.tree (.slice tTag), .tree .str]
abbrev tag_Find_rs:List Rt:=[.tree .str, .tree .bool]
def tag_Find_l0 (n:Nat):Nat→SgEl [.tree .str, .tree (.slice tTag), .tree (.int .i64), .tree (.int .i64)]→Option (SgEl [] ⊕ SgEl [.tree .str, .tree .bool])
  | 0,_=>none
  | g+1,s =>
    bif ilt s.2.2.2.1 s.2.2.1 then
     bif ile (0:Int) s.2.2.2.1 then
      bindN (lat s.2.1 (iN s.2.2.2.1)) fun v1 =>
      bif seq v1.1 s.1 then
       some (Sum.inr (v1.2.1,true,()))
      else
      bindL (tag_Find_l0 n g (s.1,s.2.1,s.2.2.1,iadd .i64 s.2.2.2.1 (1:Int),())) (fun a2 =>
       some (Sum.inl ())) fun b3 =>
      some (Sum.inr b3)
     else none
    else
    some (Sum.inl ())
theorem tag_Find_l0_ok (n:Nat):∀ g,LEntOk Tryz.prog 276 (nSl tag_Find_sg) ⟨0,[.tree .str, .tree (.slice tTag), .tree (.int .i64), .tree (.int .i64)],0,[],[.tree .str, .tree .bool],tag_Find_l0 n g⟩ g
  | 0=>loop_zero' fun _=>rfl
  | g+1=>loop_step' mixed (T:=[]) tabNil tabLNil (tag_Find_l0_ok n g) fun s=>by kernel_rfl
def tag_Find (n:Nat) (x:SgEl tag_Find_sg):Option (RtEl tag_Find_rs×OutEl tag_Find_sg) :=
  bindL (tag_Find_l0 n n (x.2.1,x.1,ilen x.1,(0:Int),())) (fun a1 =>
   some (((⟨#[]⟩:ByteArray),false,()),((),(),()))) fun b2 =>
  some (b2,((),(),()))
abbrev tag_Find_ent (n:Nat):Ent:=⟨276,tag_Find_sg,tag_Find_rs,tag_Find n⟩
theorem tag_Find_ok (n:Nat):EntOk Tryz.prog (tag_Find_ent n):=ent_ok' mixed (T:=[]) tabNil (tabLCons (tag_Find_l0_ok n n) tabLNil) fun x=>by kernel_rfl
abbrev sl_IndexStr_sg:List Sg:=[.tree (.slice .str), .tree .str]
abbrev sl_IndexStr_rs:List Rt:=[.tree (.int .i64)]
def sl_IndexStr_l0 (n:Nat):Nat→SgEl [.tree (.slice .str), .tree .str, .tree (.int .i64), .tree (.int .i64)]→Option (SgEl [] ⊕ SgEl [.tree (.int .i64)])
  | 0,_=>none
  | g+1,s =>
    bif ilt s.2.2.2.1 s.2.2.1 then
     bif ile (0:Int) s.2.2.2.1 then
      bindN (lat s.1 (iN s.2.2.2.1)) fun v1 =>
      bif seq s.2.1 v1 then
       some (Sum.inr s.2.2.2)
      else
      bindL (sl_IndexStr_l0 n g (s.1,s.2.1,s.2.2.1,iadd .i64 s.2.2.2.1 (1:Int),())) (fun a2 =>
       some (Sum.inl ())) fun b3 =>
      some (Sum.inr b3)
     else none
    else
    some (Sum.inl ())
theorem sl_IndexStr_l0_ok (n:Nat):∀ g,LEntOk Tryz.prog 278 (nSl sl_IndexStr_sg) ⟨0,[.tree (.slice .str), .tree .str, .tree (.int .i64), .tree (.int .i64)],0,[],[.tree (.int .i64)],sl_IndexStr_l0 n g⟩ g
  | 0=>loop_zero' fun _=>rfl
  | g+1=>loop_step' mixed (T:=[]) tabNil tabLNil (sl_IndexStr_l0_ok n g) fun s=>by kernel_rfl
def sl_IndexStr (n:Nat) (x:SgEl sl_IndexStr_sg):Option (RtEl sl_IndexStr_rs×OutEl sl_IndexStr_sg) :=
  bindL (sl_IndexStr_l0 n n (x.1,x.2.1,ilen x.1,(0:Int),())) (fun a1 =>
   some (((-1:Int),()),((),(),()))) fun b2 =>
  some (b2,((),(),()))
abbrev sl_IndexStr_ent (n:Nat):Ent:=⟨278,sl_IndexStr_sg,sl_IndexStr_rs,sl_IndexStr n⟩
theorem sl_IndexStr_ok (n:Nat):EntOk Tryz.prog (sl_IndexStr_ent n):=ent_ok' mixed (T:=[]) tabNil (tabLCons (sl_IndexStr_l0_ok n n) tabLNil) fun x=>by kernel_rfl
abbrev sl_ContainsStr_sg:List Sg:=[.tree (.slice .str), .tree .str]
abbrev sl_ContainsStr_rs:List Rt:=[.tree .bool]
def sl_ContainsStr (n:Nat) (x:SgEl sl_ContainsStr_sg):Option (RtEl sl_ContainsStr_rs×OutEl sl_ContainsStr_sg) :=
  bindN (sl_IndexStr n x) fun p1 =>
  some ((ile (0:Int) p1.1.1,()),((),(),()))
abbrev sl_ContainsStr_ent (n:Nat):Ent:=⟨230,sl_ContainsStr_sg,sl_ContainsStr_rs,sl_ContainsStr n⟩
theorem sl_ContainsStr_ok (n:Nat):EntOk Tryz.prog (sl_ContainsStr_ent n):=ent_ok' mixed (T:=[sl_IndexStr_ent n]) (tabCons (sl_IndexStr_ok n) tabNil) tabLNil fun x=>by kernel_rfl
abbrev tag_Only_sg:List Sg:=[.tree (.slice tTag), .tree (.slice .str)]
abbrev tag_Only_rs:List Rt:=[.tree (.slice tTag)]
def tag_Only_l0 (n:Nat):Nat→SgEl [.tree (.slice .str), .own tTag, .tree (.slice tTag), .tree (.int .i64), .tree (.int .i64)]→Option (SgEl [.own tTag] ⊕ SgEl [])
  | 0,_=>none
  | g+1,s =>
    bif ilt s.2.2.2.2.1 s.2.2.2.1 then
     bif ile (0:Int) s.2.2.2.2.1 then
      bindN (lat s.2.2.1 (iN s.2.2.2.2.1)) fun v1 =>
      bindN (sl_ContainsStr n (s.1,v1.1,())) fun p2 =>
      bif p2.1.1 then
       bif roomA s.2.1 [v1] 32 then
        bindL (tag_Only_l0 n g (s.1,app s.2.1 [v1],s.2.2.1,s.2.2.2.1,iadd .i64 s.2.2.2.2.1 (1:Int),())) (fun a3 =>
         some (Sum.inl a3)) fun b4 =>
        some (Sum.inr ())
       else none
      else
      bindL (tag_Only_l0 n g (s.1,s.2.1,s.2.2.1,s.2.2.2.1,iadd .i64 s.2.2.2.2.1 (1:Int),())) (fun a5 =>
       some (Sum.inl a5)) fun b6 =>
      some (Sum.inr ())
     else none
    else
    some (Sum.inl (s.2.1,()))
theorem tag_Only_l0_ok (n:Nat):∀ g,LEntOk Tryz.prog 179 (nSl tag_Only_sg) ⟨0,[.tree (.slice .str), .own tTag, .tree (.slice tTag), .tree (.int .i64), .tree (.int .i64)],0,[.own tTag],[],tag_Only_l0 n g⟩ g
  | 0=>loop_zero' fun _=>rfl
  | g+1=>loop_step' mixed (T:=[sl_ContainsStr_ent n]) (tabCons (sl_ContainsStr_ok n) tabNil) tabLNil (tag_Only_l0_ok n g) fun s=>by kernel_rfl
def tag_Only (n:Nat) (x:SgEl tag_Only_sg):Option (RtEl tag_Only_rs×OutEl tag_Only_sg) :=
  bindL (tag_Only_l0 n n (x.2.1,[],x.1,ilen x.1,(0:Int),())) (fun a1 =>
   some (a1,((),(),()))) fun b2 =>
  none
abbrev tag_Only_ent (n:Nat):Ent:=⟨179,tag_Only_sg,tag_Only_rs,tag_Only n⟩
theorem tag_Only_ok (n:Nat):EntOk Tryz.prog (tag_Only_ent n):=ent_ok' mixed (T:=[sl_ContainsStr_ent n]) (tabCons (sl_ContainsStr_ok n) tabNil) (tabLCons (tag_Only_l0_ok n n) tabLNil) fun x=>by kernel_rfl
abbrev tag_Text_sg:List Sg:=[.tree (.slice tTag)]
abbrev tag_Text_rs:List Rt:=[.tree .str]
def tag_Text_l0 (n:Nat):Nat→SgEl [.own .str, .tree (.slice tTag), .tree (.int .i64), .tree (.int .i64)]→Option (SgEl [.own .str] ⊕ SgEl [])
  | 0,_=>none
  | g+1,s =>
    bif ilt s.2.2.2.1 s.2.2.1 then
     bif ile (0:Int) s.2.2.2.1 then
      bindN (lat s.2.1 (iN s.2.2.2.1)) fun v1 =>
      bindN (word_Join n ((⟨#[61]⟩:ByteArray),[v1.1,v1.2.1],())) fun p2 =>
      bif roomA s.1 [p2.1.1] 16 then
       bindL (tag_Text_l0 n g (app s.1 [p2.1.1],s.2.1,s.2.2.1,iadd .i64 s.2.2.2.1 (1:Int),())) (fun a3 =>
        some (Sum.inl a3)) fun b4 =>
       some (Sum.inr ())
      else none
     else none
    else
    some (Sum.inl (s.1,()))
theorem tag_Text_l0_ok (n:Nat):∀ g,LEntOk Tryz.prog 152 (nSl tag_Text_sg) ⟨0,[.own .str, .tree (.slice tTag), .tree (.int .i64), .tree (.int .i64)],0,[.own .str],[],tag_Text_l0 n g⟩ g
  | 0=>loop_zero' fun _=>rfl
  | g+1=>loop_step' mixed (T:=[word_Join_ent n]) (tabCons (word_Join_ok n) tabNil) tabLNil (tag_Text_l0_ok n g) fun s=>by kernel_rfl
def tag_Text (n:Nat) (x:SgEl tag_Text_sg):Option (RtEl tag_Text_rs×OutEl tag_Text_sg) :=
  bindL (tag_Text_l0 n n ([],x.1,ilen x.1,(0:Int),())) (fun a1 =>
   bindN (word_Join n ((⟨#[44]⟩:ByteArray),a1)) fun p3 =>
   some (p3.1,((),()))) fun b2 =>
  none
abbrev tag_Text_ent (n:Nat):Ent:=⟨152,tag_Text_sg,tag_Text_rs,tag_Text n⟩
theorem tag_Text_ok (n:Nat):EntOk Tryz.prog (tag_Text_ent n):=ent_ok' mixed (T:=[word_Join_ent n]) (tabCons (word_Join_ok n) tabNil) (tabLCons (tag_Text_l0_ok n n) tabLNil) fun x=>by kernel_rfl
abbrev tag_Parse_sg:List Sg:=[.tree .str]
abbrev tag_Parse_rs:List Rt:=[.tree (.slice tTag), .tree (.int .i64)]
def tag_Parse_l0 (n:Nat):Nat→SgEl [.own tTag, .tree (.slice .str), .tree (.int .i64), .tree (.int .i64)]→Option (SgEl [.own tTag] ⊕ SgEl [.tree (.slice tTag), .tree (.int .i64)])
  | 0,_=>none
  | g+1,s =>
    bif ilt s.2.2.2.1 s.2.2.1 then
     bif ile (0:Int) s.2.2.2.1 then
      bindN (lat s.2.1 (iN s.2.2.2.1)) fun v1 =>
      bindN (s_Cut n (v1,(⟨#[61]⟩:ByteArray),())) fun p2 =>
      bif !p2.1.2.2.1 then
       some (Sum.inr ([],(2:Int),()))
      else
      bif roomA s.1 [(p2.1.1,p2.1.2.1,())] 32 then
       bindL (tag_Parse_l0 n g (app s.1 [(p2.1.1,p2.1.2.1,())],s.2.1,s.2.2.1,iadd .i64 s.2.2.2.1 (1:Int),())) (fun a3 =>
        some (Sum.inl a3)) fun b4 =>
       some (Sum.inr b4)
      else none
     else none
    else
    some (Sum.inl (s.1,()))
theorem tag_Parse_l0_ok (n:Nat):∀ g,LEntOk Tryz.prog 169 (nSl tag_Parse_sg) ⟨0,[.own tTag, .tree (.slice .str), .tree (.int .i64), .tree (.int .i64)],0,[.own tTag],[.tree (.slice tTag), .tree (.int .i64)],tag_Parse_l0 n g⟩ g
  | 0=>loop_zero' fun _=>rfl
  | g+1=>loop_step' mixed (T:=[word_Split_ent n,s_Cut_ent n,tag_Canon_ent n]) (tabCons (word_Split_ok n) (tabCons (s_Cut_ok n) (tabCons (tag_Canon_ok n) tabNil))) tabLNil (tag_Parse_l0_ok n g) fun s=>by kernel_rfl
def tag_Parse (n:Nat) (x:SgEl tag_Parse_sg):Option (RtEl tag_Parse_rs×OutEl tag_Parse_sg) :=
  bif seq x.1 (⟨#[]⟩:ByteArray) then
   some (([],(0:Int),()),((),()))
  else
  bindN (word_Split n (x.1,(44:Int),())) fun p1 =>
  bindL (tag_Parse_l0 n n ([],p1.1.1,ilen p1.1.1,(0:Int),())) (fun a2 =>
   bindN (tag_Canon n a2) fun p4 =>
   some (p4.1,((),()))) fun b3 =>
  some (b3,((),()))
abbrev tag_Parse_ent (n:Nat):Ent:=⟨169,tag_Parse_sg,tag_Parse_rs,tag_Parse n⟩
theorem tag_Parse_ok (n:Nat):EntOk Tryz.prog (tag_Parse_ent n):=ent_ok' mixed (T:=[word_Split_ent n,s_Cut_ent n,tag_Canon_ent n]) (tabCons (word_Split_ok n) (tabCons (s_Cut_ok n) (tabCons (tag_Canon_ok n) tabNil))) (tabLCons (tag_Parse_l0_ok n n) tabLNil) fun x=>by kernel_rfl
abbrev key_Text_sg:List Sg:=[.tree tKey]
abbrev key_Text_rs:List Rt:=[.tree .str]
def key_Text (n:Nat) (x:SgEl key_Text_sg):Option (RtEl key_Text_rs×OutEl key_Text_sg) :=
  bif ieq (ilen x.1.2.1) (0:Int) then
   some ((x.1.1,()),((),()))
  else
  bindN (tag_Text n x.1.2) fun p1 =>
  bindN (word_Join n ((⟨#[]⟩:ByteArray),[x.1.1,(⟨#[123]⟩:ByteArray),p1.1.1,(⟨#[125]⟩:ByteArray)],())) fun p2 =>
  some (p2.1,((),()))
abbrev key_Text_ent (n:Nat):Ent:=⟨83,key_Text_sg,key_Text_rs,key_Text n⟩
theorem key_Text_ok (n:Nat):EntOk Tryz.prog (key_Text_ent n):=ent_ok' mixed (T:=[tag_Text_ent n,word_Join_ent n]) (tabCons (tag_Text_ok n) (tabCons (word_Join_ok n) tabNil)) tabLNil fun x=>by kernel_rfl
abbrev key_Parse_sg:List Sg:=[.tree .str]
abbrev key_Parse_rs:List Rt:=[.tree tKey, .tree (.int .i64)]
def key_Parse (n:Nat) (x:SgEl key_Parse_sg):Option (RtEl key_Parse_rs×OutEl key_Parse_sg) :=
  bindN (s_Cut n (x.1,(⟨#[123]⟩:ByteArray),())) fun p1 =>
  bif p1.1.2.2.1 then
   bindN (s_CutSuffix n (p1.1.2.1,(⟨#[125]⟩:ByteArray),())) fun p2 =>
   bif !p2.1.2.1 then
    some ((((⟨#[]⟩:ByteArray),[],()),(2:Int),()),((),()))
   else
   bif seq p2.1.1 (⟨#[]⟩:ByteArray) then
    some ((((⟨#[]⟩:ByteArray),[],()),(2:Int),()),((),()))
   else
   bindN (word_Name n (p1.1.1,())) fun p3 =>
   bif !p3.1.1 then
    some ((((⟨#[]⟩:ByteArray),[],()),(2:Int),()),((),()))
   else
   bindN (tag_Parse n (p2.1.1,())) fun p4 =>
   bif !(ieq p4.1.2.1 (0:Int)) then
    some ((((⟨#[]⟩:ByteArray),[],()),p4.1.2),((),()))
   else
   some (((p1.1.1,p4.1.1,()),(0:Int),()),((),()))
  else
  bindN (word_Name n (p1.1.1,())) fun p5 =>
  bif !p5.1.1 then
   some ((((⟨#[]⟩:ByteArray),[],()),(2:Int),()),((),()))
  else
  bindN (tag_Parse n (p1.1.2.1,())) fun p6 =>
  bif !(ieq p6.1.2.1 (0:Int)) then
   some ((((⟨#[]⟩:ByteArray),[],()),p6.1.2),((),()))
  else
  some (((p1.1.1,p6.1.1,()),(0:Int),()),((),()))
abbrev key_Parse_ent (n:Nat):Ent:=⟨177,key_Parse_sg,key_Parse_rs,key_Parse n⟩
theorem key_Parse_ok (n:Nat):EntOk Tryz.prog (key_Parse_ent n):=ent_ok' mixed (T:=[s_Cut_ent n,s_CutSuffix_ent n,word_Name_ent n,tag_Parse_ent n]) (tabCons (s_Cut_ok n) (tabCons (s_CutSuffix_ok n) (tabCons (word_Name_ok n) (tabCons (tag_Parse_ok n) tabNil)))) tabLNil fun x=>by kernel_rfl
abbrev pick_may_sg:List Sg:=[.tree tPick_match]
abbrev pick_may_rs:List Rt:=[.tree .bool]
def pick_may (n:Nat) (x:SgEl pick_may_sg):Option (RtEl pick_may_rs×OutEl pick_may_sg) :=
  bindN (word_Name n (x.1.1.2.1,())) fun p1 =>
  bif !p1.1.1 then
   some ((false,()),((),()))
  else
  bif ieq x.1.1.1 (1:Int) then
   bindN (word_Value n x.1.1.2.2) fun p2 =>
   some (p2.1,((),()))
  else
  bif ieq x.1.1.1 (2:Int) then
   bindN (word_Value n x.1.1.2.2) fun p3 =>
   some (p3.1,((),()))
  else
  bif ieq x.1.1.1 (3:Int) then
   bif seq x.1.1.2.2.1 (⟨#[]⟩:ByteArray) then
    some ((true,()),((),()))
   else
   bindN (word_Value n x.1.1.2.2) fun p4 =>
   some (p4.1,((),()))
  else
  bif ieq x.1.1.1 (4:Int) then
   some ((seq x.1.1.2.2.1 (⟨#[]⟩:ByteArray),()),((),()))
  else
  some ((false,()),((),()))
abbrev pick_may_ent (n:Nat):Ent:=⟨200,pick_may_sg,pick_may_rs,pick_may n⟩
theorem pick_may_ok (n:Nat):EntOk Tryz.prog (pick_may_ent n):=ent_ok' mixed (T:=[word_Name_ent n,word_Value_ent n]) (tabCons (word_Name_ok n) (tabCons (word_Value_ok n) tabNil)) tabLNil fun x=>by kernel_rfl
abbrev pick_fits_sg:List Sg:=[.tree tPick_match, .tree (.slice tTag)]
abbrev pick_fits_rs:List Rt:=[.tree .bool]
def pick_fits (n:Nat) (x:SgEl pick_fits_sg):Option (RtEl pick_fits_rs×OutEl pick_fits_sg) :=
  bindN (tag_Find n (x.2.1,x.1.1.2.1,())) fun p1 =>
  bif ieq x.1.1.1 (1:Int) then
   bif p1.1.2.1 then
    some ((seq p1.1.1 x.1.1.2.2.1,()),((),(),()))
   else
   some ((false,()),((),(),()))
  else
  bif ieq x.1.1.1 (2:Int) then
   bif p1.1.2.1 then
    some ((!(seq p1.1.1 x.1.1.2.2.1),()),((),(),()))
   else
   some ((true,()),((),(),()))
  else
  bif ieq x.1.1.1 (3:Int) then
   bif p1.1.2.1 then
    bindN (s_HasPrefix n (p1.1.1,x.1.1.2.2)) fun p2 =>
    some (p2.1,((),(),()))
   else
   some ((false,()),((),(),()))
  else
  bif ieq x.1.1.1 (4:Int) then
   some (p1.1.2,((),(),()))
  else
  some ((false,()),((),(),()))
abbrev pick_fits_ent (n:Nat):Ent:=⟨229,pick_fits_sg,pick_fits_rs,pick_fits n⟩
theorem pick_fits_ok (n:Nat):EntOk Tryz.prog (pick_fits_ent n):=ent_ok' mixed (T:=[tag_Find_ent n,s_HasPrefix_ent n]) (tabCons (tag_Find_ok n) (tabCons (s_HasPrefix_ok n) tabNil)) tabLNil fun x=>by kernel_rfl
abbrev pick_Right1_sg:List Sg:=[.tree tMatch]
abbrev pick_Right1_rs:List Rt:=[.tree .bool]
def pick_Right1 (n:Nat) (x:SgEl pick_Right1_sg):Option (RtEl pick_Right1_rs×OutEl pick_Right1_sg) :=
  bindN (pick_may n (x,())) fun p1 =>
  some ((!p1.1.1,()),((),()))
abbrev pick_Right1_ent (n:Nat):Ent:=⟨199,pick_Right1_sg,pick_Right1_rs,pick_Right1 n⟩
theorem pick_Right1_ok (n:Nat):EntOk Tryz.prog (pick_Right1_ent n):=ent_ok' mixed (T:=[pick_may_ent n]) (tabCons (pick_may_ok n) tabNil) tabLNil fun x=>by kernel_rfl
abbrev sl_IndexMatch_sg:List Sg:=[.tree (.slice tMatch), .fnv 199 []]
abbrev sl_IndexMatch_rs:List Rt:=[.tree (.int .i64)]
def sl_IndexMatch_l0 (n:Nat):Nat→SgEl [.tree (.slice tMatch), .fnv 199 [], .tree (.int .i64), .tree (.int .i64)]→Option (SgEl [.fnv 199 []] ⊕ SgEl [.fnv 199 [], .tree (.int .i64)])
  | 0,_=>none
  | g+1,s =>
    bif ilt s.2.2.2.1 s.2.2.1 then
     bif ile (0:Int) s.2.2.2.1 then
      bindN (lat s.1 (iN s.2.2.2.1)) fun v1 =>
      bindN (pick_Right1 n (v1,())) fun p2 =>
      bif p2.1.1 then
       some (Sum.inr ((),s.2.2.2))
      else
      bindL (sl_IndexMatch_l0 n g (s.1,(),s.2.2.1,iadd .i64 s.2.2.2.1 (1:Int),())) (fun a3 =>
       some (Sum.inl ((),()))) fun b4 =>
      some (Sum.inr ((),b4.2))
     else none
    else
    some (Sum.inl ((),()))
theorem sl_IndexMatch_l0_ok (n:Nat):∀ g,LEntOk Tryz.prog 255 (nSl sl_IndexMatch_sg) ⟨0,[.tree (.slice tMatch), .fnv 199 [], .tree (.int .i64), .tree (.int .i64)],0,[.fnv 199 []],[.fnv 199 [], .tree (.int .i64)],sl_IndexMatch_l0 n g⟩ g
  | 0=>loop_zero' fun _=>rfl
  | g+1=>loop_step' mixed (T:=[pick_Right1_ent n]) (tabCons (pick_Right1_ok n) tabNil) tabLNil (sl_IndexMatch_l0_ok n g) fun s=>by kernel_rfl
def sl_IndexMatch (n:Nat) (x:SgEl sl_IndexMatch_sg):Option (RtEl sl_IndexMatch_rs×OutEl sl_IndexMatch_sg) :=
  bindL (sl_IndexMatch_l0 n n (x.1,(),ilen x.1,(0:Int),())) (fun a1 =>
   some (((-1:Int),()),((),(),()))) fun b2 =>
  some (b2.2,((),(),()))
abbrev sl_IndexMatch_ent (n:Nat):Ent:=⟨255,sl_IndexMatch_sg,sl_IndexMatch_rs,sl_IndexMatch n⟩
theorem sl_IndexMatch_ok (n:Nat):EntOk Tryz.prog (sl_IndexMatch_ent n):=ent_ok' mixed (T:=[pick_Right1_ent n]) (tabCons (pick_Right1_ok n) tabNil) (tabLCons (sl_IndexMatch_l0_ok n n) tabLNil) fun x=>by kernel_rfl
abbrev sl_ContainsMatch_sg:List Sg:=[.tree (.slice tMatch), .fnv 199 []]
abbrev sl_ContainsMatch_rs:List Rt:=[.tree .bool]
def sl_ContainsMatch (n:Nat) (x:SgEl sl_ContainsMatch_sg):Option (RtEl sl_ContainsMatch_rs×OutEl sl_ContainsMatch_sg) :=
  bindN (sl_IndexMatch n (x.1,(),())) fun p1 =>
  some ((ile (0:Int) p1.1.1,()),((),(),()))
abbrev sl_ContainsMatch_ent (n:Nat):Ent:=⟨198,sl_ContainsMatch_sg,sl_ContainsMatch_rs,sl_ContainsMatch n⟩
theorem sl_ContainsMatch_ok (n:Nat):EntOk Tryz.prog (sl_ContainsMatch_ent n):=ent_ok' mixed (T:=[sl_IndexMatch_ent n,pick_Right1_ent n]) (tabCons (sl_IndexMatch_ok n) (tabCons (pick_Right1_ok n) tabNil)) tabLNil fun x=>by kernel_rfl
abbrev pick_Right_sg:List Sg:=[.tree (.slice tMatch)]
abbrev pick_Right_rs:List Rt:=[.tree .bool]
def pick_Right (n:Nat) (x:SgEl pick_Right_sg):Option (RtEl pick_Right_rs×OutEl pick_Right_sg) :=
  bif ile (ilen x.1) (4:Int) then
   bindN (sl_ContainsMatch n (x.1,(),())) fun p1 =>
   some ((!p1.1.1,()),((),()))
  else
  some ((false,()),((),()))
abbrev pick_Right_ent (n:Nat):Ent:=⟨147,pick_Right_sg,pick_Right_rs,pick_Right n⟩
theorem pick_Right_ok (n:Nat):EntOk Tryz.prog (pick_Right_ent n):=ent_ok' mixed (T:=[sl_ContainsMatch_ent n]) (tabCons (sl_ContainsMatch_ok n) tabNil) tabLNil fun x=>by kernel_rfl
abbrev pick_Fits1_sg:List Sg:=[.tree tMatch, .box [.tree (.slice tTag)]]
abbrev pick_Fits1_rs:List Rt:=[.tree .bool]
def pick_Fits1 (n:Nat) (x:SgEl pick_Fits1_sg):Option (RtEl pick_Fits1_rs×OutEl pick_Fits1_sg) :=
  bindN (pick_fits n ((x.1,()),x.2.1)) fun p1 =>
  some ((!p1.1.1,()),((),x.2))
abbrev pick_Fits1_ent (n:Nat):Ent:=⟨228,pick_Fits1_sg,pick_Fits1_rs,pick_Fits1 n⟩
theorem pick_Fits1_ok (n:Nat):EntOk Tryz.prog (pick_Fits1_ent n):=ent_ok' mixed (T:=[pick_fits_ent n]) (tabCons (pick_fits_ok n) tabNil) tabLNil fun x=>by kernel_rfl
abbrev sl_IndexMatchF_sg:List Sg:=[.tree (.slice tMatch), .fnv 228 [.slice tTag]]
abbrev sl_IndexMatchF_rs:List Rt:=[.tree (.int .i64)]
def sl_IndexMatchF_l0 (n:Nat):Nat→SgEl [.tree (.slice tMatch), .fnv 228 [.slice tTag], .tree (.int .i64), .tree (.int .i64)]→Option (SgEl [.fnv 228 [.slice tTag]] ⊕ SgEl [.fnv 228 [.slice tTag], .tree (.int .i64)])
  | 0,_=>none
  | g+1,s =>
    bif ilt s.2.2.2.1 s.2.2.1 then
     bif ile (0:Int) s.2.2.2.1 then
      bindN (lat s.1 (iN s.2.2.2.1)) fun v1 =>
      bindN (pick_Fits1 n (v1,s.2.1,())) fun p2 =>
      bif p2.1.1 then
       some (Sum.inr (p2.2.2.1,s.2.2.2))
      else
      bindL (sl_IndexMatchF_l0 n g (s.1,p2.2.2.1,s.2.2.1,iadd .i64 s.2.2.2.1 (1:Int),())) (fun a3 =>
       some (Sum.inl a3)) fun b4 =>
      some (Sum.inr b4)
     else none
    else
    some (Sum.inl (s.2.1,()))
theorem sl_IndexMatchF_l0_ok (n:Nat):∀ g,LEntOk Tryz.prog 255 (nSl sl_IndexMatchF_sg) ⟨0,[.tree (.slice tMatch), .fnv 228 [.slice tTag], .tree (.int .i64), .tree (.int .i64)],0,[.fnv 228 [.slice tTag]],[.fnv 228 [.slice tTag], .tree (.int .i64)],sl_IndexMatchF_l0 n g⟩ g
  | 0=>loop_zero' fun _=>rfl
  | g+1=>loop_step' mixed (T:=[pick_Fits1_ent n]) (tabCons (pick_Fits1_ok n) tabNil) tabLNil (sl_IndexMatchF_l0_ok n g) fun s=>by kernel_rfl
def sl_IndexMatchF (n:Nat) (x:SgEl sl_IndexMatchF_sg):Option (RtEl sl_IndexMatchF_rs×OutEl sl_IndexMatchF_sg) :=
  bindL (sl_IndexMatchF_l0 n n (x.1,x.2.1,ilen x.1,(0:Int),())) (fun a1 =>
   some (((-1:Int),()),((),a1))) fun b2 =>
  some (b2.2,((),b2.1,()))
abbrev sl_IndexMatchF_ent (n:Nat):Ent:=⟨255,sl_IndexMatchF_sg,sl_IndexMatchF_rs,sl_IndexMatchF n⟩
theorem sl_IndexMatchF_ok (n:Nat):EntOk Tryz.prog (sl_IndexMatchF_ent n):=ent_ok' mixed (T:=[pick_Fits1_ent n]) (tabCons (pick_Fits1_ok n) tabNil) (tabLCons (sl_IndexMatchF_l0_ok n n) tabLNil) fun x=>by kernel_rfl
abbrev sl_ContainsMatchF_sg:List Sg:=[.tree (.slice tMatch), .fnv 228 [.slice tTag]]
abbrev sl_ContainsMatchF_rs:List Rt:=[.tree .bool]
def sl_ContainsMatchF (n:Nat) (x:SgEl sl_ContainsMatchF_sg):Option (RtEl sl_ContainsMatchF_rs×OutEl sl_ContainsMatchF_sg) :=
  bindN (sl_IndexMatchF n x) fun p1 =>
  some ((ile (0:Int) p1.1.1,()),((),p1.2.2))
abbrev sl_ContainsMatchF_ent (n:Nat):Ent:=⟨198,sl_ContainsMatchF_sg,sl_ContainsMatchF_rs,sl_ContainsMatchF n⟩
theorem sl_ContainsMatchF_ok (n:Nat):EntOk Tryz.prog (sl_ContainsMatchF_ent n):=ent_ok' mixed (T:=[sl_IndexMatchF_ent n,pick_Fits1_ent n]) (tabCons (sl_IndexMatchF_ok n) (tabCons (pick_Fits1_ok n) tabNil)) tabLNil fun x=>by kernel_rfl
abbrev pick_Fits_sg:List Sg:=[.tree (.slice tTag), .tree (.slice tMatch)]
abbrev pick_Fits_rs:List Rt:=[.tree .bool]
def pick_Fits (n:Nat) (x:SgEl pick_Fits_sg):Option (RtEl pick_Fits_rs×OutEl pick_Fits_sg) :=
  bindN (sl_ContainsMatchF n (x.2.1,(x.1,()),())) fun p1 =>
  some ((!p1.1.1,()),((),(),()))
abbrev pick_Fits_ent (n:Nat):Ent:=⟨178,pick_Fits_sg,pick_Fits_rs,pick_Fits n⟩
theorem pick_Fits_ok (n:Nat):EntOk Tryz.prog (pick_Fits_ent n):=ent_ok' mixed (T:=[pick_Fits1_ent n,sl_ContainsMatchF_ent n]) (tabCons (pick_Fits1_ok n) (tabCons (sl_ContainsMatchF_ok n) tabNil)) tabLNil fun x=>by kernel_rfl
abbrev query_names1_sg:List Sg:=[.tree .str]
abbrev query_names1_rs:List Rt:=[.tree .bool]
def query_names1 (n:Nat) (x:SgEl query_names1_sg):Option (RtEl query_names1_rs×OutEl query_names1_sg) :=
  bindN (word_Name n x) fun p1 =>
  some ((!p1.1.1,()),((),()))
abbrev query_names1_ent (n:Nat):Ent:=⟨204,query_names1_sg,query_names1_rs,query_names1 n⟩
theorem query_names1_ok (n:Nat):EntOk Tryz.prog (query_names1_ent n):=ent_ok' mixed (T:=[word_Name_ent n]) (tabCons (word_Name_ok n) tabNil) tabLNil fun x=>by kernel_rfl
abbrev sl_IndexStrF_sg:List Sg:=[.tree (.slice .str), .fnv 204 []]
abbrev sl_IndexStrF_rs:List Rt:=[.tree (.int .i64)]
def sl_IndexStrF_l0 (n:Nat):Nat→SgEl [.tree (.slice .str), .fnv 204 [], .tree (.int .i64), .tree (.int .i64)]→Option (SgEl [] ⊕ SgEl [.tree (.int .i64)])
  | 0,_=>none
  | g+1,s =>
    bif ilt s.2.2.2.1 s.2.2.1 then
     bif ile (0:Int) s.2.2.2.1 then
      bindN (lat s.1 (iN s.2.2.2.1)) fun v1 =>
      bindN (query_names1 n (v1,())) fun p2 =>
      bif p2.1.1 then
       some (Sum.inr s.2.2.2)
      else
      bindL (sl_IndexStrF_l0 n g (s.1,(),s.2.2.1,iadd .i64 s.2.2.2.1 (1:Int),())) (fun a3 =>
       some (Sum.inl ())) fun b4 =>
      some (Sum.inr b4)
     else none
    else
    some (Sum.inl ())
theorem sl_IndexStrF_l0_ok (n:Nat):∀ g,LEntOk Tryz.prog 260 (nSl sl_IndexStrF_sg) ⟨0,[.tree (.slice .str), .fnv 204 [], .tree (.int .i64), .tree (.int .i64)],0,[],[.tree (.int .i64)],sl_IndexStrF_l0 n g⟩ g
  | 0=>loop_zero' fun _=>rfl
  | g+1=>loop_step' mixed (T:=[query_names1_ent n]) (tabCons (query_names1_ok n) tabNil) tabLNil (sl_IndexStrF_l0_ok n g) fun s=>by kernel_rfl
def sl_IndexStrF (n:Nat) (x:SgEl sl_IndexStrF_sg):Option (RtEl sl_IndexStrF_rs×OutEl sl_IndexStrF_sg) :=
  bindL (sl_IndexStrF_l0 n n (x.1,(),ilen x.1,(0:Int),())) (fun a1 =>
   some (((-1:Int),()),((),(),()))) fun b2 =>
  some (b2,((),(),()))
abbrev sl_IndexStrF_ent (n:Nat):Ent:=⟨260,sl_IndexStrF_sg,sl_IndexStrF_rs,sl_IndexStrF n⟩
theorem sl_IndexStrF_ok (n:Nat):EntOk Tryz.prog (sl_IndexStrF_ent n):=ent_ok' mixed (T:=[query_names1_ent n]) (tabCons (query_names1_ok n) tabNil) (tabLCons (sl_IndexStrF_l0_ok n n) tabLNil) fun x=>by kernel_rfl
abbrev sl_ContainsStrF_sg:List Sg:=[.tree (.slice .str), .fnv 204 []]
abbrev sl_ContainsStrF_rs:List Rt:=[.tree .bool]
def sl_ContainsStrF (n:Nat) (x:SgEl sl_ContainsStrF_sg):Option (RtEl sl_ContainsStrF_rs×OutEl sl_ContainsStrF_sg) :=
  bindN (sl_IndexStrF n (x.1,(),())) fun p1 =>
  some ((ile (0:Int) p1.1.1,()),((),(),()))
abbrev sl_ContainsStrF_ent (n:Nat):Ent:=⟨203,sl_ContainsStrF_sg,sl_ContainsStrF_rs,sl_ContainsStrF n⟩
theorem sl_ContainsStrF_ok (n:Nat):EntOk Tryz.prog (sl_ContainsStrF_ent n):=ent_ok' mixed (T:=[sl_IndexStrF_ent n,query_names1_ent n]) (tabCons (sl_IndexStrF_ok n) (tabCons (query_names1_ok n) tabNil)) tabLNil fun x=>by kernel_rfl
abbrev cell_Empty_sg:List Sg:=[.tree tCell]
abbrev cell_Empty_rs:List Rt:=[.tree .bool]
def cell_Empty (n:Nat) (x:SgEl cell_Empty_sg):Option (RtEl cell_Empty_rs×OutEl cell_Empty_sg) :=
  some ((ilt x.1.1 (1:Int),()),((),()))
abbrev cell_Empty_ent (n:Nat):Ent:=⟨120,cell_Empty_sg,cell_Empty_rs,cell_Empty n⟩
theorem cell_Empty_ok (n:Nat):EntOk Tryz.prog (cell_Empty_ent n):=ent_ok' mixed (T:=[]) tabNil tabLNil fun x=>by kernel_rfl
abbrev cell_counts_sg:List Sg:=[.tree (.int .i64), .tree (.int .i64)]
abbrev cell_counts_rs:List Rt:=[.tree (.int .i64)]
def cell_counts (n:Nat) (x:SgEl cell_counts_sg):Option (RtEl cell_counts_rs×OutEl cell_counts_sg) :=
  bif ilt (isub .i64 (9223372036854775807:Int) x.2.1) x.1 then
   some (((9223372036854775807:Int),()),((),(),()))
  else
  some ((iadd .i64 x.1 x.2.1,()),((),(),()))
abbrev cell_counts_ent (n:Nat):Ent:=⟨231,cell_counts_sg,cell_counts_rs,cell_counts n⟩
theorem cell_counts_ok (n:Nat):EntOk Tryz.prog (cell_counts_ent n):=ent_ok' mixed (T:=[]) tabNil tabLNil fun x=>by kernel_rfl
abbrev cell_two_sg:List Sg:=[.tree tCell, .tree tCell]
abbrev cell_two_rs:List Rt:=[.tree tCell]
def cell_two (n:Nat) (x:SgEl cell_two_sg):Option (RtEl cell_two_rs×OutEl cell_two_sg) :=
  bindN (cell_Empty n x.2) fun p1 =>
  bif p1.1.1 then
   some ((x.1,()),((),(),()))
  else
  bindN (cell_Empty n (x.1,())) fun p2 =>
  bif p2.1.1 then
   some (x.2,((),(),()))
  else
  bindN (cell_counts n (x.1.1,x.2.1.1,())) fun p3 =>
  bindN (sat_Add n (x.1.2.1,x.2.1.2.1,())) fun p4 =>
  some (((p3.1.1,p4.1.1,bif ilt x.2.1.2.2.1 x.1.2.2.1 then x.2.1.2.2.1 else x.1.2.2.1,bif ilt x.1.2.2.2.1 x.2.1.2.2.2.1 then x.2.1.2.2.2.1 else x.1.2.2.2.1,()),()),((),(),()))
abbrev cell_two_ent (n:Nat):Ent:=⟨180,cell_two_sg,cell_two_rs,cell_two n⟩
theorem cell_two_ok (n:Nat):EntOk Tryz.prog (cell_two_ent n):=ent_ok' mixed (T:=[cell_Empty_ent n,cell_counts_ent n,sat_Add_ent n]) (tabCons (cell_Empty_ok n) (tabCons (cell_counts_ok n) (tabCons (sat_Add_ok n) tabNil))) tabLNil fun x=>by kernel_rfl
abbrev cell_Merge_sg:List Sg:=[.tree (.slice tCell)]
abbrev cell_Merge_rs:List Rt:=[.tree tCell]
def cell_Merge_l0 (n:Nat):Nat→SgEl [.boxr tCell, .tree (.slice tCell), .tree (.int .i64), .tree (.int .i64)]→Option (SgEl [.boxr tCell] ⊕ SgEl [])
  | 0,_=>none
  | g+1,s =>
    bif ilt s.2.2.2.1 s.2.2.1 then
     bif ile (0:Int) s.2.2.2.1 then
      bindN (lat s.2.1 (iN s.2.2.2.1)) fun v1 =>
      bindN (cell_two n (s.1,v1,())) fun p2 =>
      bindL (cell_Merge_l0 n g (p2.1.1,s.2.1,s.2.2.1,iadd .i64 s.2.2.2.1 (1:Int),())) (fun a3 =>
       some (Sum.inl a3)) fun b4 =>
      some (Sum.inr ())
     else none
    else
    some (Sum.inl (s.1,()))
theorem cell_Merge_l0_ok (n:Nat):∀ g,LEntOk Tryz.prog 123 (nSl cell_Merge_sg) ⟨0,[.boxr tCell, .tree (.slice tCell), .tree (.int .i64), .tree (.int .i64)],0,[.boxr tCell],[],cell_Merge_l0 n g⟩ g
  | 0=>loop_zero' fun _=>rfl
  | g+1=>loop_step' mixed (T:=[cell_two_ent n]) (tabCons (cell_two_ok n) tabNil) tabLNil (cell_Merge_l0_ok n g) fun s=>by kernel_rfl
def cell_Merge (n:Nat) (x:SgEl cell_Merge_sg):Option (RtEl cell_Merge_rs×OutEl cell_Merge_sg) :=
  bindL (cell_Merge_l0 n n (((0:Int),((0:Int),false,()),(0:Int),(0:Int),()),x.1,ilen x.1,(0:Int),())) (fun a1 =>
   some (a1,((),()))) fun b2 =>
  none
abbrev cell_Merge_ent (n:Nat):Ent:=⟨123,cell_Merge_sg,cell_Merge_rs,cell_Merge n⟩
theorem cell_Merge_ok (n:Nat):EntOk Tryz.prog (cell_Merge_ent n):=ent_ok' mixed (T:=[cell_two_ent n]) (tabCons (cell_two_ok n) tabNil) (tabLCons (cell_Merge_l0_ok n n) tabLNil) fun x=>by kernel_rfl
abbrev cell_Value_sg:List Sg:=[.tree tCell, .tree (.int .i64)]
abbrev cell_Value_rs:List Rt:=[.tree tSum]
def cell_Value (n:Nat) (x:SgEl cell_Value_sg):Option (RtEl cell_Value_rs×OutEl cell_Value_sg) :=
  bif ieq x.2.1 (1:Int) then
   bindN (sat_Of n (x.1.1,())) fun p1 =>
   some (p1.1,((),(),()))
  else
  bif ieq x.2.1 (2:Int) then
   some ((x.1.2.1,()),((),(),()))
  else
  bif ieq x.2.1 (3:Int) then
   bindN (sat_Of n (x.1.2.2.1,())) fun p2 =>
   some (p2.1,((),(),()))
  else
  bif ieq x.2.1 (4:Int) then
   bindN (sat_Of n x.1.2.2.2) fun p3 =>
   some (p3.1,((),(),()))
  else
  some ((((0:Int),false,()),()),((),(),()))
abbrev cell_Value_ent (n:Nat):Ent:=⟨124,cell_Value_sg,cell_Value_rs,cell_Value n⟩
theorem cell_Value_ok (n:Nat):EntOk Tryz.prog (cell_Value_ent n):=ent_ok' mixed (T:=[sat_Of_ent n]) (tabCons (sat_Of_ok n) tabNil) tabLNil fun x=>by kernel_rfl
abbrev row_series_sg:List Sg:=[.tree .str]
abbrev row_series_rs:List Rt:=[.tree tKey, .tree .bool]
def row_series (n:Nat) (x:SgEl row_series_sg):Option (RtEl row_series_rs×OutEl row_series_sg) :=
  bindN (key_Parse n x) fun p1 =>
  bif ieq p1.1.2.1 (0:Int) then
   bindN (key_Text n (p1.1.1,())) fun p2 =>
   some ((p1.1.1,seq p2.1.1 x.1,()),((),()))
  else
  some ((p1.1.1,false,()),((),()))
abbrev row_series_ent (n:Nat):Ent:=⟨119,row_series_sg,row_series_rs,row_series n⟩
theorem row_series_ok (n:Nat):EntOk Tryz.prog (row_series_ent n):=ent_ok' mixed (T:=[key_Parse_ent n,key_Text_ent n]) (tabCons (key_Parse_ok n) (tabCons (key_Text_ok n) tabNil)) tabLNil fun x=>by kernel_rfl
abbrev row_Answer1_sg:List Sg:=[.tree tItem, .tree tItem]
abbrev row_Answer1_rs:List Rt:=[.tree (.int .i64)]
def row_Answer1 (n:Nat) (x:SgEl row_Answer1_sg):Option (RtEl row_Answer1_rs×OutEl row_Answer1_sg) :=
  bindN (s_Compare n (x.1.2.1,x.2.1.2.1,())) fun p1 =>
  some (p1.1,((),(),()))
abbrev row_Answer1_ent (n:Nat):Ent:=⟨117,row_Answer1_sg,row_Answer1_rs,row_Answer1 n⟩
theorem row_Answer1_ok (n:Nat):EntOk Tryz.prog (row_Answer1_ent n):=ent_ok' mixed (T:=[s_Compare_ent n]) (tabCons (s_Compare_ok n) tabNil) tabLNil fun x=>by kernel_rfl
abbrev sl_insItem_sg:List Sg:=[.own tItem, .tree (.int .i64), .tree (.int .i64), .fnv 117 []]
abbrev sl_insItem_rs:List Rt:=[]
def sl_insItem_l1 (n:Nat):Nat→SgEl [.own tItem, .tree (.int .i64), .tree (.int .i64), .fnv 117 [], .tree (.int .i64), .tree (.int .i64)]→Option (SgEl [.own tItem, .tree (.int .i64), .tree (.int .i64), .fnv 117 [], .tree (.int .i64)] ⊕ SgEl [])
  | 0,_=>none
  | g+1,s =>
    bif ilt s.2.1 s.2.2.2.2.2.1 then
     bif ile (0:Int) s.2.2.2.2.2.1 then
      bindN (lat s.1 (iN s.2.2.2.2.2.1)) fun v1 =>
      bindN (lat s.1 (iN s.2.2.2.2.2.1)) fun v2 =>
      bif ile (0:Int) (isub .i64 s.2.2.2.2.2.1 (1:Int)) then
       bindN (lat s.1 (iN (isub .i64 s.2.2.2.2.2.1 (1:Int)))) fun v3 =>
       bindN (lat s.1 (iN (isub .i64 s.2.2.2.2.2.1 (1:Int)))) fun v4 =>
       bindN (row_Answer1 n (v2,v4,())) fun p5 =>
       bif ilt p5.1.1 (0:Int) then
        bif ile (0:Int) (isub .i64 s.2.2.2.2.2.1 (1:Int)) then
         bindN (lat s.1 (iN (isub .i64 s.2.2.2.2.2.1 (1:Int)))) fun v6 =>
         bindN (lat s.1 (iN (isub .i64 s.2.2.2.2.2.1 (1:Int)))) fun v7 =>
         bif ile (0:Int) s.2.2.2.2.2.1 then
          bindN (lat s.1 (iN s.2.2.2.2.2.1)) fun v8 =>
          bindN (lat s.1 (iN s.2.2.2.2.2.1)) fun v9 =>
          bif ile (0:Int) s.2.2.2.2.2.1 then
           bindN (lat s.1 (iN s.2.2.2.2.2.1)) fun v10 =>
           bindN (lat s.1 (iN s.2.2.2.2.2.1)) fun v11 =>
           bif ile (0:Int) (isub .i64 s.2.2.2.2.2.1 (1:Int)) then
            bindN (lat (lput s.1 (iN s.2.2.2.2.2.1) v7) (iN (isub .i64 s.2.2.2.2.2.1 (1:Int)))) fun v12 =>
            bindN (lat (lput s.1 (iN s.2.2.2.2.2.1) v7) (iN (isub .i64 s.2.2.2.2.2.1 (1:Int)))) fun v13 =>
            bindL (sl_insItem_l1 n g (lput (lput s.1 (iN s.2.2.2.2.2.1) v7) (iN (isub .i64 s.2.2.2.2.2.1 (1:Int))) v9,s.2.1,s.2.2.1,(),s.2.2.2.2.1,isub .i64 s.2.2.2.2.2.1 (1:Int),())) (fun a14 =>
             some (Sum.inl (a14.1,a14.2.1,a14.2.2.1,(),a14.2.2.2.2))) fun b15 =>
            some (Sum.inr ())
           else none
          else none
         else none
        else none
       else
       some (Sum.inl (s.1,s.2.1,s.2.2.1,(),s.2.2.2.2.1,()))
      else none
     else none
    else
    some (Sum.inl (s.1,s.2.1,s.2.2.1,(),s.2.2.2.2.1,()))
theorem sl_insItem_l1_ok (n:Nat):∀ g,LEntOk Tryz.prog 224 (nSl sl_insItem_sg) ⟨1,[.own tItem, .tree (.int .i64), .tree (.int .i64), .fnv 117 [], .tree (.int .i64), .tree (.int .i64)],2,[.own tItem, .tree (.int .i64), .tree (.int .i64), .fnv 117 [], .tree (.int .i64)],[],sl_insItem_l1 n g⟩ g
  | 0=>loop_zero' fun _=>rfl
  | g+1=>loop_step' mixed (T:=[row_Answer1_ent n]) (tabCons (row_Answer1_ok n) tabNil) tabLNil (sl_insItem_l1_ok n g) fun s=>by kernel_rfl
def sl_insItem_l0 (n:Nat):Nat→SgEl [.own tItem, .tree (.int .i64), .tree (.int .i64), .fnv 117 [], .tree (.int .i64)]→Option (SgEl [.own tItem] ⊕ SgEl [])
  | 0,_=>none
  | g+1,s =>
    bif ilt s.2.2.2.2.1 s.2.2.1 then
     bindL (sl_insItem_l1 n n (s.1,s.2.1,s.2.2.1,(),s.2.2.2.2.1,s.2.2.2.2)) (fun a1 =>
      bindL (sl_insItem_l0 n g (a1.1,a1.2.1,a1.2.2.1,(),iadd .i64 a1.2.2.2.2.1 (1:Int),())) (fun a3 =>
       some (Sum.inl a3)) fun b4 =>
      some (Sum.inr ())) fun b2 =>
     none
    else
    some (Sum.inl (s.1,()))
theorem sl_insItem_l0_ok (n:Nat):∀ g,LEntOk Tryz.prog 224 (nSl sl_insItem_sg) ⟨0,[.own tItem, .tree (.int .i64), .tree (.int .i64), .fnv 117 [], .tree (.int .i64)],0,[.own tItem],[],sl_insItem_l0 n g⟩ g
  | 0=>loop_zero' fun _=>rfl
  | g+1=>loop_step' mixed (T:=[row_Answer1_ent n]) (tabCons (row_Answer1_ok n) tabNil) (tabLCons (sl_insItem_l1_ok n n) tabLNil) (sl_insItem_l0_ok n g) fun s=>by kernel_rfl
def sl_insItem (n:Nat) (x:SgEl sl_insItem_sg):Option (RtEl sl_insItem_rs×OutEl sl_insItem_sg) :=
  bindL (sl_insItem_l0 n n (x.1,x.2.1,x.2.2.1,(),iadd .i64 x.2.1 (1:Int),())) (fun a1 =>
   some ((),(a1.1,(),(),(),()))) fun b2 =>
  none
abbrev sl_insItem_ent (n:Nat):Ent:=⟨224,sl_insItem_sg,sl_insItem_rs,sl_insItem n⟩
theorem sl_insItem_ok (n:Nat):EntOk Tryz.prog (sl_insItem_ent n):=ent_ok' mixed (T:=[row_Answer1_ent n]) (tabCons (row_Answer1_ok n) tabNil) (tabLCons (sl_insItem_l0_ok n n) (tabLCons (sl_insItem_l1_ok n n) tabLNil)) fun x=>by kernel_rfl
abbrev sl_swapItem_sg:List Sg:=[.own tItem, .tree (.int .i64), .tree (.int .i64), .tree (.int .i64), .fnv 117 []]
abbrev sl_swapItem_rs:List Rt:=[]
def sl_swapItem_l0 (n:Nat):Nat→SgEl [.own tItem, .tree (.int .i64), .tree (.int .i64), .tree (.int .i64), .tree (.int .i64)]→Option (SgEl [.own tItem] ⊕ SgEl [])
  | 0,_=>none
  | g+1,s =>
    bif ilt s.2.2.2.2.1 s.2.2.2.1 then
     bif ile (0:Int) (iadd .i64 s.2.2.1 s.2.2.2.2.1) then
      bindN (lat s.1 (iN (iadd .i64 s.2.2.1 s.2.2.2.2.1))) fun v1 =>
      bindN (lat s.1 (iN (iadd .i64 s.2.2.1 s.2.2.2.2.1))) fun v2 =>
      bif ile (0:Int) (iadd .i64 s.2.1 s.2.2.2.2.1) then
       bindN (lat s.1 (iN (iadd .i64 s.2.1 s.2.2.2.2.1))) fun v3 =>
       bindN (lat s.1 (iN (iadd .i64 s.2.1 s.2.2.2.2.1))) fun v4 =>
       bif ile (0:Int) (iadd .i64 s.2.1 s.2.2.2.2.1) then
        bindN (lat s.1 (iN (iadd .i64 s.2.1 s.2.2.2.2.1))) fun v5 =>
        bindN (lat s.1 (iN (iadd .i64 s.2.1 s.2.2.2.2.1))) fun v6 =>
        bif ile (0:Int) (iadd .i64 s.2.2.1 s.2.2.2.2.1) then
         bindN (lat (lput s.1 (iN (iadd .i64 s.2.1 s.2.2.2.2.1)) v2) (iN (iadd .i64 s.2.2.1 s.2.2.2.2.1))) fun v7 =>
         bindN (lat (lput s.1 (iN (iadd .i64 s.2.1 s.2.2.2.2.1)) v2) (iN (iadd .i64 s.2.2.1 s.2.2.2.2.1))) fun v8 =>
         bindL (sl_swapItem_l0 n g (lput (lput s.1 (iN (iadd .i64 s.2.1 s.2.2.2.2.1)) v2) (iN (iadd .i64 s.2.2.1 s.2.2.2.2.1)) v4,s.2.1,s.2.2.1,s.2.2.2.1,iadd .i64 s.2.2.2.2.1 (1:Int),())) (fun a9 =>
          some (Sum.inl a9)) fun b10 =>
         some (Sum.inr ())
        else none
       else none
      else none
     else none
    else
    some (Sum.inl (s.1,()))
theorem sl_swapItem_l0_ok (n:Nat):∀ g,LEntOk Tryz.prog 311 (nSl sl_swapItem_sg) ⟨0,[.own tItem, .tree (.int .i64), .tree (.int .i64), .tree (.int .i64), .tree (.int .i64)],0,[.own tItem],[],sl_swapItem_l0 n g⟩ g
  | 0=>loop_zero' fun _=>rfl
  | g+1=>loop_step' mixed (T:=[row_Answer1_ent n]) (tabCons (row_Answer1_ok n) tabNil) tabLNil (sl_swapItem_l0_ok n g) fun s=>by kernel_rfl
def sl_swapItem (n:Nat) (x:SgEl sl_swapItem_sg):Option (RtEl sl_swapItem_rs×OutEl sl_swapItem_sg) :=
  bindL (sl_swapItem_l0 n n (x.1,x.2.1,x.2.2.1,x.2.2.2.1,(0:Int),())) (fun a1 =>
   some ((),(a1.1,(),(),(),(),()))) fun b2 =>
  none
abbrev sl_swapItem_ent (n:Nat):Ent:=⟨311,sl_swapItem_sg,sl_swapItem_rs,sl_swapItem n⟩
theorem sl_swapItem_ok (n:Nat):EntOk Tryz.prog (sl_swapItem_ent n):=ent_ok' mixed (T:=[row_Answer1_ent n]) (tabCons (row_Answer1_ok n) tabNil) (tabLCons (sl_swapItem_l0_ok n n) tabLNil) fun x=>by kernel_rfl
abbrev sl_rotItem_sg:List Sg:=[.own tItem, .tree (.int .i64), .tree (.int .i64), .tree (.int .i64), .fnv 117 []]
abbrev sl_rotItem_rs:List Rt:=[]
def sl_rotItem_l0 (n:Nat):Nat→SgEl [.own tItem, .tree (.int .i64), .fnv 117 [], .tree (.int .i64), .tree (.int .i64)]→Option (SgEl [.own tItem, .tree (.int .i64), .fnv 117 [], .tree (.int .i64)] ⊕ SgEl [])
  | 0,_=>none
  | g+1,s =>
    bif !(ieq s.2.2.2.1 s.2.2.2.2.1) then
     bif ilt s.2.2.2.2.1 s.2.2.2.1 then
      bindN (sl_swapItem n (s.1,isub .i64 s.2.1 s.2.2.2.1,s.2.1,s.2.2.2.2.1,(),())) fun p1 =>
      bindL (sl_rotItem_l0 n g (p1.2.1,s.2.1,(),isub .i64 s.2.2.2.1 s.2.2.2.2.1,s.2.2.2.2)) (fun a2 =>
       some (Sum.inl (a2.1,a2.2.1,(),a2.2.2.2))) fun b3 =>
      some (Sum.inr ())
     else
     bindN (sl_swapItem n (s.1,isub .i64 s.2.1 s.2.2.2.1,isub .i64 (iadd .i64 s.2.1 s.2.2.2.2.1) s.2.2.2.1,s.2.2.2.1,(),())) fun p4 =>
     bindL (sl_rotItem_l0 n g (p4.2.1,s.2.1,(),s.2.2.2.1,isub .i64 s.2.2.2.2.1 s.2.2.2.1,())) (fun a5 =>
      some (Sum.inl (a5.1,a5.2.1,(),a5.2.2.2))) fun b6 =>
     some (Sum.inr ())
    else
    some (Sum.inl (s.1,s.2.1,(),s.2.2.2.1,()))
theorem sl_rotItem_l0_ok (n:Nat):∀ g,LEntOk Tryz.prog 274 (nSl sl_rotItem_sg) ⟨0,[.own tItem, .tree (.int .i64), .fnv 117 [], .tree (.int .i64), .tree (.int .i64)],0,[.own tItem, .tree (.int .i64), .fnv 117 [], .tree (.int .i64)],[],sl_rotItem_l0 n g⟩ g
  | 0=>loop_zero' fun _=>rfl
  | g+1=>loop_step' mixed (T:=[sl_swapItem_ent n,row_Answer1_ent n]) (tabCons (sl_swapItem_ok n) (tabCons (row_Answer1_ok n) tabNil)) tabLNil (sl_rotItem_l0_ok n g) fun s=>by kernel_rfl
def sl_rotItem (n:Nat) (x:SgEl sl_rotItem_sg):Option (RtEl sl_rotItem_rs×OutEl sl_rotItem_sg) :=
  bindL (sl_rotItem_l0 n n (x.1,x.2.2.1,(),isub .i64 x.2.2.1 x.2.1,isub .i64 x.2.2.2.1 x.2.2.1,())) (fun a1 =>
   bindN (sl_swapItem n (a1.1,isub .i64 a1.2.1 a1.2.2.2.1,a1.2.1,a1.2.2.2.1,(),())) fun p3 =>
   some ((),(p3.2.1,(),(),(),(),()))) fun b2 =>
  none
abbrev sl_rotItem_ent (n:Nat):Ent:=⟨274,sl_rotItem_sg,sl_rotItem_rs,sl_rotItem n⟩
theorem sl_rotItem_ok (n:Nat):EntOk Tryz.prog (sl_rotItem_ent n):=ent_ok' mixed (T:=[sl_swapItem_ent n,row_Answer1_ent n]) (tabCons (sl_swapItem_ok n) (tabCons (row_Answer1_ok n) tabNil)) (tabLCons (sl_rotItem_l0_ok n n) tabLNil) fun x=>by kernel_rfl
abbrev sl_symItem_sg:List Sg:=[.own tItem, .tree (.int .i64), .tree (.int .i64), .tree (.int .i64), .fnv 117 []]
abbrev sl_symItem_rs:List Rt:=[]
def sl_symItem_l4 (n:Nat):Nat→SgEl [.own tItem, .tree (.int .i64), .tree (.int .i64), .tree (.int .i64), .fnv 117 [], .tree (.int .i64), .tree (.int .i64), .tree (.int .i64), .tree (.int .i64), .tree (.int .i64)]→Option (SgEl [.own tItem, .tree (.int .i64), .tree (.int .i64), .tree (.int .i64), .fnv 117 [], .tree (.int .i64), .tree (.int .i64), .tree (.int .i64)] ⊕ SgEl [])
  | 0,_=>none
  | g+1,s =>
    bif ilt s.2.2.2.2.2.2.2.1 s.2.2.2.2.2.2.2.2.1 then
     bif ilt (1:Int) (0:Int) then
      none
     else
     bif ile (0:Int) (isub .i64 s.2.2.2.2.2.2.2.2.2.1 (iconv .i64 (ishr .u64 (iconv .u64 (iadd .i64 s.2.2.2.2.2.2.2.1 s.2.2.2.2.2.2.2.2.1)) (1:Int)))) then
      bindN (lat s.1 (iN (isub .i64 s.2.2.2.2.2.2.2.2.2.1 (iconv .i64 (ishr .u64 (iconv .u64 (iadd .i64 s.2.2.2.2.2.2.2.1 s.2.2.2.2.2.2.2.2.1)) (1:Int)))))) fun v1 =>
      bindN (lat s.1 (iN (isub .i64 s.2.2.2.2.2.2.2.2.2.1 (iconv .i64 (ishr .u64 (iconv .u64 (iadd .i64 s.2.2.2.2.2.2.2.1 s.2.2.2.2.2.2.2.2.1)) (1:Int)))))) fun v2 =>
      bif ile (0:Int) (iconv .i64 (ishr .u64 (iconv .u64 (iadd .i64 s.2.2.2.2.2.2.2.1 s.2.2.2.2.2.2.2.2.1)) (1:Int))) then
       bindN (lat s.1 (iN (iconv .i64 (ishr .u64 (iconv .u64 (iadd .i64 s.2.2.2.2.2.2.2.1 s.2.2.2.2.2.2.2.2.1)) (1:Int))))) fun v3 =>
       bindN (lat s.1 (iN (iconv .i64 (ishr .u64 (iconv .u64 (iadd .i64 s.2.2.2.2.2.2.2.1 s.2.2.2.2.2.2.2.2.1)) (1:Int))))) fun v4 =>
       bindN (row_Answer1 n (v2,v4,())) fun p5 =>
       bif !(ilt p5.1.1 (0:Int)) then
        bindL (sl_symItem_l4 n g (s.1,s.2.1,s.2.2.1,s.2.2.2.1,(),s.2.2.2.2.2.1,s.2.2.2.2.2.2.1,iadd .i64 (iconv .i64 (ishr .u64 (iconv .u64 (iadd .i64 s.2.2.2.2.2.2.2.1 s.2.2.2.2.2.2.2.2.1)) (1:Int))) (1:Int),s.2.2.2.2.2.2.2.2)) (fun a6 =>
         some (Sum.inl (a6.1,a6.2.1,a6.2.2.1,a6.2.2.2.1,(),a6.2.2.2.2.2))) fun b7 =>
        some (Sum.inr ())
       else
       bindL (sl_symItem_l4 n g (s.1,s.2.1,s.2.2.1,s.2.2.2.1,(),s.2.2.2.2.2.1,s.2.2.2.2.2.2.1,s.2.2.2.2.2.2.2.1,iconv .i64 (ishr .u64 (iconv .u64 (iadd .i64 s.2.2.2.2.2.2.2.1 s.2.2.2.2.2.2.2.2.1)) (1:Int)),s.2.2.2.2.2.2.2.2.2)) (fun a8 =>
        some (Sum.inl (a8.1,a8.2.1,a8.2.2.1,a8.2.2.2.1,(),a8.2.2.2.2.2))) fun b9 =>
       some (Sum.inr ())
      else none
     else none
    else
    some (Sum.inl (s.1,s.2.1,s.2.2.1,s.2.2.2.1,(),s.2.2.2.2.2.1,s.2.2.2.2.2.2.1,s.2.2.2.2.2.2.2.1,()))
theorem sl_symItem_l4_ok (n:Nat):∀ g,LEntOk Tryz.prog 225 (nSl sl_symItem_sg) ⟨4,[.own tItem, .tree (.int .i64), .tree (.int .i64), .tree (.int .i64), .fnv 117 [], .tree (.int .i64), .tree (.int .i64), .tree (.int .i64), .tree (.int .i64), .tree (.int .i64)],8,[.own tItem, .tree (.int .i64), .tree (.int .i64), .tree (.int .i64), .fnv 117 [], .tree (.int .i64), .tree (.int .i64), .tree (.int .i64)],[],sl_symItem_l4 n g⟩ g
  | 0=>loop_zero' fun _=>rfl
  | g+1=>loop_step' mixed (T:=[sl_rotItem_ent n,row_Answer1_ent n]) (tabCons (sl_rotItem_ok n) (tabCons (row_Answer1_ok n) tabNil)) tabLNil (sl_symItem_l4_ok n g) fun s=>by kernel_rfl
def sl_symItem_l3 (n:Nat):Nat→SgEl [.own tItem, .tree (.int .i64), .tree (.int .i64)]→Option (SgEl [.own tItem] ⊕ SgEl [])
  | 0,_=>none
  | g+1,s =>
    bif ilt s.2.1 s.2.2.1 then
     bif ile (0:Int) (isub .i64 s.2.2.1 (1:Int)) then
      bindN (lat s.1 (iN (isub .i64 s.2.2.1 (1:Int)))) fun v1 =>
      bindN (lat s.1 (iN (isub .i64 s.2.2.1 (1:Int)))) fun v2 =>
      bif ile (0:Int) s.2.2.1 then
       bindN (lat s.1 (iN s.2.2.1)) fun v3 =>
       bindN (lat s.1 (iN s.2.2.1)) fun v4 =>
       bif ile (0:Int) s.2.2.1 then
        bindN (lat s.1 (iN s.2.2.1)) fun v5 =>
        bindN (lat s.1 (iN s.2.2.1)) fun v6 =>
        bif ile (0:Int) (isub .i64 s.2.2.1 (1:Int)) then
         bindN (lat (lput s.1 (iN s.2.2.1) v2) (iN (isub .i64 s.2.2.1 (1:Int)))) fun v7 =>
         bindN (lat (lput s.1 (iN s.2.2.1) v2) (iN (isub .i64 s.2.2.1 (1:Int)))) fun v8 =>
         bindL (sl_symItem_l3 n g (lput (lput s.1 (iN s.2.2.1) v2) (iN (isub .i64 s.2.2.1 (1:Int))) v4,s.2.1,isub .i64 s.2.2.1 (1:Int),())) (fun a9 =>
          some (Sum.inl a9)) fun b10 =>
         some (Sum.inr ())
        else none
       else none
      else none
     else none
    else
    some (Sum.inl (s.1,()))
theorem sl_symItem_l3_ok (n:Nat):∀ g,LEntOk Tryz.prog 225 (nSl sl_symItem_sg) ⟨3,[.own tItem, .tree (.int .i64), .tree (.int .i64)],6,[.own tItem],[],sl_symItem_l3 n g⟩ g
  | 0=>loop_zero' fun _=>rfl
  | g+1=>loop_step' mixed (T:=[sl_rotItem_ent n,row_Answer1_ent n]) (tabCons (sl_rotItem_ok n) (tabCons (row_Answer1_ok n) tabNil)) (tabLCons (sl_symItem_l4_ok n n) tabLNil) (sl_symItem_l3_ok n g) fun s=>by kernel_rfl
def sl_symItem_l2 (n:Nat):Nat→SgEl [.own tItem, .tree (.int .i64), .fnv 117 [], .tree (.int .i64), .tree (.int .i64)]→Option (SgEl [.own tItem, .tree (.int .i64), .tree (.int .i64)] ⊕ SgEl [])
  | 0,_=>none
  | g+1,s =>
    bif ilt s.2.2.2.1 s.2.2.2.2.1 then
     bif ilt (1:Int) (0:Int) then
      none
     else
     bif ile (0:Int) s.2.1 then
      bindN (lat s.1 (iN s.2.1)) fun v1 =>
      bindN (lat s.1 (iN s.2.1)) fun v2 =>
      bif ile (0:Int) (iconv .i64 (ishr .u64 (iconv .u64 (iadd .i64 s.2.2.2.1 s.2.2.2.2.1)) (1:Int))) then
       bindN (lat s.1 (iN (iconv .i64 (ishr .u64 (iconv .u64 (iadd .i64 s.2.2.2.1 s.2.2.2.2.1)) (1:Int))))) fun v3 =>
       bindN (lat s.1 (iN (iconv .i64 (ishr .u64 (iconv .u64 (iadd .i64 s.2.2.2.1 s.2.2.2.2.1)) (1:Int))))) fun v4 =>
       bindN (row_Answer1 n (v2,v4,())) fun p5 =>
       bif !(ilt p5.1.1 (0:Int)) then
        bindL (sl_symItem_l2 n g (s.1,s.2.1,(),iadd .i64 (iconv .i64 (ishr .u64 (iconv .u64 (iadd .i64 s.2.2.2.1 s.2.2.2.2.1)) (1:Int))) (1:Int),s.2.2.2.2)) (fun a6 =>
         some (Sum.inl a6)) fun b7 =>
        some (Sum.inr ())
       else
       bindL (sl_symItem_l2 n g (s.1,s.2.1,(),s.2.2.2.1,iconv .i64 (ishr .u64 (iconv .u64 (iadd .i64 s.2.2.2.1 s.2.2.2.2.1)) (1:Int)),())) (fun a8 =>
        some (Sum.inl a8)) fun b9 =>
       some (Sum.inr ())
      else none
     else none
    else
    some (Sum.inl (s.1,s.2.1,s.2.2.2.1,()))
theorem sl_symItem_l2_ok (n:Nat):∀ g,LEntOk Tryz.prog 225 (nSl sl_symItem_sg) ⟨2,[.own tItem, .tree (.int .i64), .fnv 117 [], .tree (.int .i64), .tree (.int .i64)],4,[.own tItem, .tree (.int .i64), .tree (.int .i64)],[],sl_symItem_l2 n g⟩ g
  | 0=>loop_zero' fun _=>rfl
  | g+1=>loop_step' mixed (T:=[sl_rotItem_ent n,row_Answer1_ent n]) (tabCons (sl_rotItem_ok n) (tabCons (row_Answer1_ok n) tabNil)) (tabLCons (sl_symItem_l3_ok n n) (tabLCons (sl_symItem_l4_ok n n) tabLNil)) (sl_symItem_l2_ok n g) fun s=>by kernel_rfl
def sl_symItem_l1 (n:Nat):Nat→SgEl [.own tItem, .tree (.int .i64), .tree (.int .i64)]→Option (SgEl [.own tItem] ⊕ SgEl [])
  | 0,_=>none
  | g+1,s =>
    bif ilt s.2.2.1 (isub .i64 s.2.1 (1:Int)) then
     bif ile (0:Int) (iadd .i64 s.2.2.1 (1:Int)) then
      bindN (lat s.1 (iN (iadd .i64 s.2.2.1 (1:Int)))) fun v1 =>
      bindN (lat s.1 (iN (iadd .i64 s.2.2.1 (1:Int)))) fun v2 =>
      bif ile (0:Int) s.2.2.1 then
       bindN (lat s.1 (iN s.2.2.1)) fun v3 =>
       bindN (lat s.1 (iN s.2.2.1)) fun v4 =>
       bif ile (0:Int) s.2.2.1 then
        bindN (lat s.1 (iN s.2.2.1)) fun v5 =>
        bindN (lat s.1 (iN s.2.2.1)) fun v6 =>
        bif ile (0:Int) (iadd .i64 s.2.2.1 (1:Int)) then
         bindN (lat (lput s.1 (iN s.2.2.1) v2) (iN (iadd .i64 s.2.2.1 (1:Int)))) fun v7 =>
         bindN (lat (lput s.1 (iN s.2.2.1) v2) (iN (iadd .i64 s.2.2.1 (1:Int)))) fun v8 =>
         bindL (sl_symItem_l1 n g (lput (lput s.1 (iN s.2.2.1) v2) (iN (iadd .i64 s.2.2.1 (1:Int))) v4,s.2.1,iadd .i64 s.2.2.1 (1:Int),())) (fun a9 =>
          some (Sum.inl a9)) fun b10 =>
         some (Sum.inr ())
        else none
       else none
      else none
     else none
    else
    some (Sum.inl (s.1,()))
theorem sl_symItem_l1_ok (n:Nat):∀ g,LEntOk Tryz.prog 225 (nSl sl_symItem_sg) ⟨1,[.own tItem, .tree (.int .i64), .tree (.int .i64)],2,[.own tItem],[],sl_symItem_l1 n g⟩ g
  | 0=>loop_zero' fun _=>rfl
  | g+1=>loop_step' mixed (T:=[sl_rotItem_ent n,row_Answer1_ent n]) (tabCons (sl_rotItem_ok n) (tabCons (row_Answer1_ok n) tabNil)) (tabLCons (sl_symItem_l2_ok n n) (tabLCons (sl_symItem_l3_ok n n) (tabLCons (sl_symItem_l4_ok n n) tabLNil))) (sl_symItem_l1_ok n g) fun s=>by kernel_rfl
def sl_symItem_l0 (n:Nat):Nat→SgEl [.own tItem, .tree (.int .i64), .fnv 117 [], .tree (.int .i64), .tree (.int .i64)]→Option (SgEl [.own tItem, .tree (.int .i64), .tree (.int .i64)] ⊕ SgEl [])
  | 0,_=>none
  | g+1,s =>
    bif ilt s.2.2.2.1 s.2.2.2.2.1 then
     bif ilt (1:Int) (0:Int) then
      none
     else
     bif ile (0:Int) (iconv .i64 (ishr .u64 (iconv .u64 (iadd .i64 s.2.2.2.1 s.2.2.2.2.1)) (1:Int))) then
      bindN (lat s.1 (iN (iconv .i64 (ishr .u64 (iconv .u64 (iadd .i64 s.2.2.2.1 s.2.2.2.2.1)) (1:Int))))) fun v1 =>
      bindN (lat s.1 (iN (iconv .i64 (ishr .u64 (iconv .u64 (iadd .i64 s.2.2.2.1 s.2.2.2.2.1)) (1:Int))))) fun v2 =>
      bif ile (0:Int) s.2.1 then
       bindN (lat s.1 (iN s.2.1)) fun v3 =>
       bindN (lat s.1 (iN s.2.1)) fun v4 =>
       bindN (row_Answer1 n (v2,v4,())) fun p5 =>
       bif ilt p5.1.1 (0:Int) then
        bindL (sl_symItem_l0 n g (s.1,s.2.1,(),iadd .i64 (iconv .i64 (ishr .u64 (iconv .u64 (iadd .i64 s.2.2.2.1 s.2.2.2.2.1)) (1:Int))) (1:Int),s.2.2.2.2)) (fun a6 =>
         some (Sum.inl a6)) fun b7 =>
        some (Sum.inr ())
       else
       bindL (sl_symItem_l0 n g (s.1,s.2.1,(),s.2.2.2.1,iconv .i64 (ishr .u64 (iconv .u64 (iadd .i64 s.2.2.2.1 s.2.2.2.2.1)) (1:Int)),())) (fun a8 =>
        some (Sum.inl a8)) fun b9 =>
       some (Sum.inr ())
      else none
     else none
    else
    some (Sum.inl (s.1,s.2.1,s.2.2.2.1,()))
theorem sl_symItem_l0_ok (n:Nat):∀ g,LEntOk Tryz.prog 225 (nSl sl_symItem_sg) ⟨0,[.own tItem, .tree (.int .i64), .fnv 117 [], .tree (.int .i64), .tree (.int .i64)],0,[.own tItem, .tree (.int .i64), .tree (.int .i64)],[],sl_symItem_l0 n g⟩ g
  | 0=>loop_zero' fun _=>rfl
  | g+1=>loop_step' mixed (T:=[sl_rotItem_ent n,row_Answer1_ent n]) (tabCons (sl_rotItem_ok n) (tabCons (row_Answer1_ok n) tabNil)) (tabLCons (sl_symItem_l1_ok n n) (tabLCons (sl_symItem_l2_ok n n) (tabLCons (sl_symItem_l3_ok n n) (tabLCons (sl_symItem_l4_ok n n) tabLNil)))) (sl_symItem_l0_ok n g) fun s=>by kernel_rfl
def sl_symItem_r (n:Nat):Nat→SgEl sl_symItem_sg→Option (RtEl sl_symItem_rs×OutEl sl_symItem_sg)
  | 0,_=>none
  | g+1,x =>
    bif ieq (isub .i64 x.2.2.1 x.2.1) (1:Int) then
     bindL (sl_symItem_l0 n n (x.1,x.2.1,(),x.2.2.1,x.2.2.2.1,())) (fun a1 =>
      bindL (sl_symItem_l1 n n (a1.1,a1.2.2.1,a1.2.1,())) (fun a3 =>
       some ((),(a3.1,(),(),(),(),()))) fun b4 =>
      none) fun b2 =>
     none
    else
    bif ieq (isub .i64 x.2.2.2.1 x.2.2.1) (1:Int) then
     bindL (sl_symItem_l2 n n (x.1,x.2.2.1,(),x.2.1,x.2.2.1,())) (fun a5 =>
      bindL (sl_symItem_l3 n n (a5.1,a5.2.2.1,a5.2.1,())) (fun a7 =>
       some ((),(a7.1,(),(),(),(),()))) fun b8 =>
      none) fun b6 =>
     none
    else
    bif ilt (1:Int) (0:Int) then
     none
    else
    bif ilt (iconv .i64 (ishr .u64 (iconv .u64 (iadd .i64 x.2.1 x.2.2.2.1)) (1:Int))) x.2.2.1 then
     bindL (sl_symItem_l4 n n (x.1,x.2.1,x.2.2.1,x.2.2.2.1,(),iconv .i64 (ishr .u64 (iconv .u64 (iadd .i64 x.2.1 x.2.2.2.1)) (1:Int)),iadd .i64 (iconv .i64 (ishr .u64 (iconv .u64 (iadd .i64 x.2.1 x.2.2.2.1)) (1:Int))) x.2.2.1,isub .i64 (iadd .i64 (iconv .i64 (ishr .u64 (iconv .u64 (iadd .i64 x.2.1 x.2.2.2.1)) (1:Int))) x.2.2.1) x.2.2.2.1,iconv .i64 (ishr .u64 (iconv .u64 (iadd .i64 x.2.1 x.2.2.2.1)) (1:Int)),isub .i64 (iadd .i64 (iconv .i64 (ishr .u64 (iconv .u64 (iadd .i64 x.2.1 x.2.2.2.1)) (1:Int))) x.2.2.1) (1:Int),())) (fun a9 =>
      bif ilt a9.2.2.2.2.2.2.2.1 a9.2.2.1 then
       bif ilt a9.2.2.1 (isub .i64 a9.2.2.2.2.2.2.1 a9.2.2.2.2.2.2.2.1) then
        bindN (sl_rotItem n (a9.1,a9.2.2.2.2.2.2.2.1,a9.2.2.1,isub .i64 a9.2.2.2.2.2.2.1 a9.2.2.2.2.2.2.2.1,(),())) fun p11 =>
        bif ilt a9.2.1 a9.2.2.2.2.2.2.2.1 then
         bif ilt a9.2.2.2.2.2.2.2.1 a9.2.2.2.2.2.1 then
          bindN (sl_symItem_r n g (p11.2.1,a9.2.1,a9.2.2.2.2.2.2.2.1,a9.2.2.2.2.2.1,(),())) fun p12 =>
          bif ilt a9.2.2.2.2.2.1 (isub .i64 a9.2.2.2.2.2.2.1 a9.2.2.2.2.2.2.2.1) then
           bif ilt (isub .i64 a9.2.2.2.2.2.2.1 a9.2.2.2.2.2.2.2.1) a9.2.2.2.1 then
            bindN (sl_symItem_r n g (p12.2.1,a9.2.2.2.2.2.1,isub .i64 a9.2.2.2.2.2.2.1 a9.2.2.2.2.2.2.2.1,a9.2.2.2.1,(),())) fun p13 =>
            some ((),(p13.2.1,(),(),(),(),()))
           else
           some ((),(p12.2.1,(),(),(),(),()))
          else
          some ((),(p12.2.1,(),(),(),(),()))
         else
         bif ilt a9.2.2.2.2.2.1 (isub .i64 a9.2.2.2.2.2.2.1 a9.2.2.2.2.2.2.2.1) then
          bif ilt (isub .i64 a9.2.2.2.2.2.2.1 a9.2.2.2.2.2.2.2.1) a9.2.2.2.1 then
           bindN (sl_symItem_r n g (p11.2.1,a9.2.2.2.2.2.1,isub .i64 a9.2.2.2.2.2.2.1 a9.2.2.2.2.2.2.2.1,a9.2.2.2.1,(),())) fun p14 =>
           some ((),(p14.2.1,(),(),(),(),()))
          else
          some ((),(p11.2.1,(),(),(),(),()))
         else
         some ((),(p11.2.1,(),(),(),(),()))
        else
        bif ilt a9.2.2.2.2.2.1 (isub .i64 a9.2.2.2.2.2.2.1 a9.2.2.2.2.2.2.2.1) then
         bif ilt (isub .i64 a9.2.2.2.2.2.2.1 a9.2.2.2.2.2.2.2.1) a9.2.2.2.1 then
          bindN (sl_symItem_r n g (p11.2.1,a9.2.2.2.2.2.1,isub .i64 a9.2.2.2.2.2.2.1 a9.2.2.2.2.2.2.2.1,a9.2.2.2.1,(),())) fun p15 =>
          some ((),(p15.2.1,(),(),(),(),()))
         else
         some ((),(p11.2.1,(),(),(),(),()))
        else
        some ((),(p11.2.1,(),(),(),(),()))
       else
       bif ilt a9.2.1 a9.2.2.2.2.2.2.2.1 then
        bif ilt a9.2.2.2.2.2.2.2.1 a9.2.2.2.2.2.1 then
         bindN (sl_symItem_r n g (a9.1,a9.2.1,a9.2.2.2.2.2.2.2.1,a9.2.2.2.2.2.1,(),())) fun p16 =>
         bif ilt a9.2.2.2.2.2.1 (isub .i64 a9.2.2.2.2.2.2.1 a9.2.2.2.2.2.2.2.1) then
          bif ilt (isub .i64 a9.2.2.2.2.2.2.1 a9.2.2.2.2.2.2.2.1) a9.2.2.2.1 then
           bindN (sl_symItem_r n g (p16.2.1,a9.2.2.2.2.2.1,isub .i64 a9.2.2.2.2.2.2.1 a9.2.2.2.2.2.2.2.1,a9.2.2.2.1,(),())) fun p17 =>
           some ((),(p17.2.1,(),(),(),(),()))
          else
          some ((),(p16.2.1,(),(),(),(),()))
         else
         some ((),(p16.2.1,(),(),(),(),()))
        else
        bif ilt a9.2.2.2.2.2.1 (isub .i64 a9.2.2.2.2.2.2.1 a9.2.2.2.2.2.2.2.1) then
         bif ilt (isub .i64 a9.2.2.2.2.2.2.1 a9.2.2.2.2.2.2.2.1) a9.2.2.2.1 then
          bindN (sl_symItem_r n g (a9.1,a9.2.2.2.2.2.1,isub .i64 a9.2.2.2.2.2.2.1 a9.2.2.2.2.2.2.2.1,a9.2.2.2.1,(),())) fun p18 =>
          some ((),(p18.2.1,(),(),(),(),()))
         else
         some ((),(a9.1,(),(),(),(),()))
        else
        some ((),(a9.1,(),(),(),(),()))
       else
       bif ilt a9.2.2.2.2.2.1 (isub .i64 a9.2.2.2.2.2.2.1 a9.2.2.2.2.2.2.2.1) then
        bif ilt (isub .i64 a9.2.2.2.2.2.2.1 a9.2.2.2.2.2.2.2.1) a9.2.2.2.1 then
         bindN (sl_symItem_r n g (a9.1,a9.2.2.2.2.2.1,isub .i64 a9.2.2.2.2.2.2.1 a9.2.2.2.2.2.2.2.1,a9.2.2.2.1,(),())) fun p19 =>
         some ((),(p19.2.1,(),(),(),(),()))
        else
        some ((),(a9.1,(),(),(),(),()))
       else
       some ((),(a9.1,(),(),(),(),()))
      else
      bif ilt a9.2.1 a9.2.2.2.2.2.2.2.1 then
       bif ilt a9.2.2.2.2.2.2.2.1 a9.2.2.2.2.2.1 then
        bindN (sl_symItem_r n g (a9.1,a9.2.1,a9.2.2.2.2.2.2.2.1,a9.2.2.2.2.2.1,(),())) fun p20 =>
        bif ilt a9.2.2.2.2.2.1 (isub .i64 a9.2.2.2.2.2.2.1 a9.2.2.2.2.2.2.2.1) then
         bif ilt (isub .i64 a9.2.2.2.2.2.2.1 a9.2.2.2.2.2.2.2.1) a9.2.2.2.1 then
          bindN (sl_symItem_r n g (p20.2.1,a9.2.2.2.2.2.1,isub .i64 a9.2.2.2.2.2.2.1 a9.2.2.2.2.2.2.2.1,a9.2.2.2.1,(),())) fun p21 =>
          some ((),(p21.2.1,(),(),(),(),()))
         else
         some ((),(p20.2.1,(),(),(),(),()))
        else
        some ((),(p20.2.1,(),(),(),(),()))
       else
       bif ilt a9.2.2.2.2.2.1 (isub .i64 a9.2.2.2.2.2.2.1 a9.2.2.2.2.2.2.2.1) then
        bif ilt (isub .i64 a9.2.2.2.2.2.2.1 a9.2.2.2.2.2.2.2.1) a9.2.2.2.1 then
         bindN (sl_symItem_r n g (a9.1,a9.2.2.2.2.2.1,isub .i64 a9.2.2.2.2.2.2.1 a9.2.2.2.2.2.2.2.1,a9.2.2.2.1,(),())) fun p22 =>
         some ((),(p22.2.1,(),(),(),(),()))
        else
        some ((),(a9.1,(),(),(),(),()))
       else
       some ((),(a9.1,(),(),(),(),()))
      else
      bif ilt a9.2.2.2.2.2.1 (isub .i64 a9.2.2.2.2.2.2.1 a9.2.2.2.2.2.2.2.1) then
       bif ilt (isub .i64 a9.2.2.2.2.2.2.1 a9.2.2.2.2.2.2.2.1) a9.2.2.2.1 then
        bindN (sl_symItem_r n g (a9.1,a9.2.2.2.2.2.1,isub .i64 a9.2.2.2.2.2.2.1 a9.2.2.2.2.2.2.2.1,a9.2.2.2.1,(),())) fun p23 =>
        some ((),(p23.2.1,(),(),(),(),()))
       else
       some ((),(a9.1,(),(),(),(),()))
      else
      some ((),(a9.1,(),(),(),(),()))) fun b10 =>
     none
    else
    bindL (sl_symItem_l4 n n (x.1,x.2.1,x.2.2.1,x.2.2.2.1,(),iconv .i64 (ishr .u64 (iconv .u64 (iadd .i64 x.2.1 x.2.2.2.1)) (1:Int)),iadd .i64 (iconv .i64 (ishr .u64 (iconv .u64 (iadd .i64 x.2.1 x.2.2.2.1)) (1:Int))) x.2.2.1,x.2.1,x.2.2.1,isub .i64 (iadd .i64 (iconv .i64 (ishr .u64 (iconv .u64 (iadd .i64 x.2.1 x.2.2.2.1)) (1:Int))) x.2.2.1) (1:Int),())) (fun a24 =>
     bif ilt a24.2.2.2.2.2.2.2.1 a24.2.2.1 then
      bif ilt a24.2.2.1 (isub .i64 a24.2.2.2.2.2.2.1 a24.2.2.2.2.2.2.2.1) then
       bindN (sl_rotItem n (a24.1,a24.2.2.2.2.2.2.2.1,a24.2.2.1,isub .i64 a24.2.2.2.2.2.2.1 a24.2.2.2.2.2.2.2.1,(),())) fun p26 =>
       bif ilt a24.2.1 a24.2.2.2.2.2.2.2.1 then
        bif ilt a24.2.2.2.2.2.2.2.1 a24.2.2.2.2.2.1 then
         bindN (sl_symItem_r n g (p26.2.1,a24.2.1,a24.2.2.2.2.2.2.2.1,a24.2.2.2.2.2.1,(),())) fun p27 =>
         bif ilt a24.2.2.2.2.2.1 (isub .i64 a24.2.2.2.2.2.2.1 a24.2.2.2.2.2.2.2.1) then
          bif ilt (isub .i64 a24.2.2.2.2.2.2.1 a24.2.2.2.2.2.2.2.1) a24.2.2.2.1 then
           bindN (sl_symItem_r n g (p27.2.1,a24.2.2.2.2.2.1,isub .i64 a24.2.2.2.2.2.2.1 a24.2.2.2.2.2.2.2.1,a24.2.2.2.1,(),())) fun p28 =>
           some ((),(p28.2.1,(),(),(),(),()))
          else
          some ((),(p27.2.1,(),(),(),(),()))
         else
         some ((),(p27.2.1,(),(),(),(),()))
        else
        bif ilt a24.2.2.2.2.2.1 (isub .i64 a24.2.2.2.2.2.2.1 a24.2.2.2.2.2.2.2.1) then
         bif ilt (isub .i64 a24.2.2.2.2.2.2.1 a24.2.2.2.2.2.2.2.1) a24.2.2.2.1 then
          bindN (sl_symItem_r n g (p26.2.1,a24.2.2.2.2.2.1,isub .i64 a24.2.2.2.2.2.2.1 a24.2.2.2.2.2.2.2.1,a24.2.2.2.1,(),())) fun p29 =>
          some ((),(p29.2.1,(),(),(),(),()))
         else
         some ((),(p26.2.1,(),(),(),(),()))
        else
        some ((),(p26.2.1,(),(),(),(),()))
       else
       bif ilt a24.2.2.2.2.2.1 (isub .i64 a24.2.2.2.2.2.2.1 a24.2.2.2.2.2.2.2.1) then
        bif ilt (isub .i64 a24.2.2.2.2.2.2.1 a24.2.2.2.2.2.2.2.1) a24.2.2.2.1 then
         bindN (sl_symItem_r n g (p26.2.1,a24.2.2.2.2.2.1,isub .i64 a24.2.2.2.2.2.2.1 a24.2.2.2.2.2.2.2.1,a24.2.2.2.1,(),())) fun p30 =>
         some ((),(p30.2.1,(),(),(),(),()))
        else
        some ((),(p26.2.1,(),(),(),(),()))
       else
       some ((),(p26.2.1,(),(),(),(),()))
      else
      bif ilt a24.2.1 a24.2.2.2.2.2.2.2.1 then
       bif ilt a24.2.2.2.2.2.2.2.1 a24.2.2.2.2.2.1 then
        bindN (sl_symItem_r n g (a24.1,a24.2.1,a24.2.2.2.2.2.2.2.1,a24.2.2.2.2.2.1,(),())) fun p31 =>
        bif ilt a24.2.2.2.2.2.1 (isub .i64 a24.2.2.2.2.2.2.1 a24.2.2.2.2.2.2.2.1) then
         bif ilt (isub .i64 a24.2.2.2.2.2.2.1 a24.2.2.2.2.2.2.2.1) a24.2.2.2.1 then
          bindN (sl_symItem_r n g (p31.2.1,a24.2.2.2.2.2.1,isub .i64 a24.2.2.2.2.2.2.1 a24.2.2.2.2.2.2.2.1,a24.2.2.2.1,(),())) fun p32 =>
          some ((),(p32.2.1,(),(),(),(),()))
         else
         some ((),(p31.2.1,(),(),(),(),()))
        else
        some ((),(p31.2.1,(),(),(),(),()))
       else
       bif ilt a24.2.2.2.2.2.1 (isub .i64 a24.2.2.2.2.2.2.1 a24.2.2.2.2.2.2.2.1) then
        bif ilt (isub .i64 a24.2.2.2.2.2.2.1 a24.2.2.2.2.2.2.2.1) a24.2.2.2.1 then
         bindN (sl_symItem_r n g (a24.1,a24.2.2.2.2.2.1,isub .i64 a24.2.2.2.2.2.2.1 a24.2.2.2.2.2.2.2.1,a24.2.2.2.1,(),())) fun p33 =>
         some ((),(p33.2.1,(),(),(),(),()))
        else
        some ((),(a24.1,(),(),(),(),()))
       else
       some ((),(a24.1,(),(),(),(),()))
      else
      bif ilt a24.2.2.2.2.2.1 (isub .i64 a24.2.2.2.2.2.2.1 a24.2.2.2.2.2.2.2.1) then
       bif ilt (isub .i64 a24.2.2.2.2.2.2.1 a24.2.2.2.2.2.2.2.1) a24.2.2.2.1 then
        bindN (sl_symItem_r n g (a24.1,a24.2.2.2.2.2.1,isub .i64 a24.2.2.2.2.2.2.1 a24.2.2.2.2.2.2.2.1,a24.2.2.2.1,(),())) fun p34 =>
        some ((),(p34.2.1,(),(),(),(),()))
       else
       some ((),(a24.1,(),(),(),(),()))
      else
      some ((),(a24.1,(),(),(),(),()))
     else
     bif ilt a24.2.1 a24.2.2.2.2.2.2.2.1 then
      bif ilt a24.2.2.2.2.2.2.2.1 a24.2.2.2.2.2.1 then
       bindN (sl_symItem_r n g (a24.1,a24.2.1,a24.2.2.2.2.2.2.2.1,a24.2.2.2.2.2.1,(),())) fun p35 =>
       bif ilt a24.2.2.2.2.2.1 (isub .i64 a24.2.2.2.2.2.2.1 a24.2.2.2.2.2.2.2.1) then
        bif ilt (isub .i64 a24.2.2.2.2.2.2.1 a24.2.2.2.2.2.2.2.1) a24.2.2.2.1 then
         bindN (sl_symItem_r n g (p35.2.1,a24.2.2.2.2.2.1,isub .i64 a24.2.2.2.2.2.2.1 a24.2.2.2.2.2.2.2.1,a24.2.2.2.1,(),())) fun p36 =>
         some ((),(p36.2.1,(),(),(),(),()))
        else
        some ((),(p35.2.1,(),(),(),(),()))
       else
       some ((),(p35.2.1,(),(),(),(),()))
      else
      bif ilt a24.2.2.2.2.2.1 (isub .i64 a24.2.2.2.2.2.2.1 a24.2.2.2.2.2.2.2.1) then
       bif ilt (isub .i64 a24.2.2.2.2.2.2.1 a24.2.2.2.2.2.2.2.1) a24.2.2.2.1 then
        bindN (sl_symItem_r n g (a24.1,a24.2.2.2.2.2.1,isub .i64 a24.2.2.2.2.2.2.1 a24.2.2.2.2.2.2.2.1,a24.2.2.2.1,(),())) fun p37 =>
        some ((),(p37.2.1,(),(),(),(),()))
       else
       some ((),(a24.1,(),(),(),(),()))
      else
      some ((),(a24.1,(),(),(),(),()))
     else
     bif ilt a24.2.2.2.2.2.1 (isub .i64 a24.2.2.2.2.2.2.1 a24.2.2.2.2.2.2.2.1) then
      bif ilt (isub .i64 a24.2.2.2.2.2.2.1 a24.2.2.2.2.2.2.2.1) a24.2.2.2.1 then
       bindN (sl_symItem_r n g (a24.1,a24.2.2.2.2.2.1,isub .i64 a24.2.2.2.2.2.2.1 a24.2.2.2.2.2.2.2.1,a24.2.2.2.1,(),())) fun p38 =>
       some ((),(p38.2.1,(),(),(),(),()))
      else
      some ((),(a24.1,(),(),(),(),()))
     else
     some ((),(a24.1,(),(),(),(),()))) fun b25 =>
    none
theorem sl_symItem_r_ok (n:Nat):∀ g,EntOk Tryz.prog ⟨225,sl_symItem_sg,sl_symItem_rs,sl_symItem_r n g⟩
  | 0=>fun a y h=>by cases h
  | g+1=>ent_ok' mixed (T:=[⟨225,sl_symItem_sg,sl_symItem_rs,sl_symItem_r n g⟩,sl_rotItem_ent n,row_Answer1_ent n]) (tabCons (sl_symItem_r_ok n g) (tabCons (sl_rotItem_ok n) (tabCons (row_Answer1_ok n) tabNil))) (tabLCons (sl_symItem_l0_ok n n) (tabLCons (sl_symItem_l1_ok n n) (tabLCons (sl_symItem_l2_ok n n) (tabLCons (sl_symItem_l3_ok n n) (tabLCons (sl_symItem_l4_ok n n) tabLNil))))) fun x=>by kernel_rfl
def sl_symItem (n:Nat) (x:SgEl sl_symItem_sg):Option (RtEl sl_symItem_rs×OutEl sl_symItem_sg):=sl_symItem_r n n x
abbrev sl_symItem_ent (n:Nat):Ent:=⟨225,sl_symItem_sg,sl_symItem_rs,sl_symItem n⟩
theorem sl_symItem_ok (n:Nat):EntOk Tryz.prog (sl_symItem_ent n):=sl_symItem_r_ok n n
abbrev sl_stabItem_sg:List Sg:=[.own tItem, .tree (.int .i64), .fnv 117 []]
abbrev sl_stabItem_rs:List Rt:=[]
def sl_stabItem_l2 (n:Nat):Nat→SgEl [.own tItem, .tree (.int .i64), .fnv 117 [], .tree (.int .i64), .tree (.int .i64), .tree (.int .i64)]→Option (SgEl [.own tItem, .tree (.int .i64), .fnv 117 [], .tree (.int .i64), .tree (.int .i64)] ⊕ SgEl [])
  | 0,_=>none
  | g+1,s =>
    bif ile s.2.2.2.2.2.1 s.2.1 then
     bindN (sl_symItem n (s.1,s.2.2.2.2.1,iadd .i64 s.2.2.2.2.1 s.2.2.2.1,s.2.2.2.2.2.1,(),())) fun p1 =>
     bindL (sl_stabItem_l2 n g (p1.2.1,s.2.1,(),s.2.2.2.1,s.2.2.2.2.2.1,iadd .i64 s.2.2.2.2.2.1 (imul .i64 (2:Int) s.2.2.2.1),())) (fun a2 =>
      some (Sum.inl (a2.1,a2.2.1,(),a2.2.2.2))) fun b3 =>
     some (Sum.inr ())
    else
    some (Sum.inl (s.1,s.2.1,(),s.2.2.2.1,s.2.2.2.2.1,()))
theorem sl_stabItem_l2_ok (n:Nat):∀ g,LEntOk Tryz.prog 175 (nSl sl_stabItem_sg) ⟨2,[.own tItem, .tree (.int .i64), .fnv 117 [], .tree (.int .i64), .tree (.int .i64), .tree (.int .i64)],4,[.own tItem, .tree (.int .i64), .fnv 117 [], .tree (.int .i64), .tree (.int .i64)],[],sl_stabItem_l2 n g⟩ g
  | 0=>loop_zero' fun _=>rfl
  | g+1=>loop_step' mixed (T:=[sl_insItem_ent n,sl_symItem_ent n,row_Answer1_ent n]) (tabCons (sl_insItem_ok n) (tabCons (sl_symItem_ok n) (tabCons (row_Answer1_ok n) tabNil))) tabLNil (sl_stabItem_l2_ok n g) fun s=>by kernel_rfl
def sl_stabItem_l1 (n:Nat):Nat→SgEl [.own tItem, .tree (.int .i64), .fnv 117 [], .tree (.int .i64)]→Option (SgEl [.own tItem] ⊕ SgEl [])
  | 0,_=>none
  | g+1,s =>
    bif ilt s.2.2.2.1 s.2.1 then
     bindL (sl_stabItem_l2 n n (s.1,s.2.1,(),s.2.2.2.1,(0:Int),imul .i64 (2:Int) s.2.2.2.1,())) (fun a1 =>
      bif ilt (iadd .i64 a1.2.2.2.2.1 a1.2.2.2.1) a1.2.1 then
       bindN (sl_symItem n (a1.1,a1.2.2.2.2.1,iadd .i64 a1.2.2.2.2.1 a1.2.2.2.1,a1.2.1,(),())) fun p3 =>
       bindL (sl_stabItem_l1 n g (p3.2.1,a1.2.1,(),imul .i64 a1.2.2.2.1 (2:Int),())) (fun a4 =>
        some (Sum.inl a4)) fun b5 =>
       some (Sum.inr ())
      else
      bindL (sl_stabItem_l1 n g (a1.1,a1.2.1,(),imul .i64 a1.2.2.2.1 (2:Int),())) (fun a6 =>
       some (Sum.inl a6)) fun b7 =>
      some (Sum.inr ())) fun b2 =>
     none
    else
    some (Sum.inl (s.1,()))
theorem sl_stabItem_l1_ok (n:Nat):∀ g,LEntOk Tryz.prog 175 (nSl sl_stabItem_sg) ⟨1,[.own tItem, .tree (.int .i64), .fnv 117 [], .tree (.int .i64)],2,[.own tItem],[],sl_stabItem_l1 n g⟩ g
  | 0=>loop_zero' fun _=>rfl
  | g+1=>loop_step' mixed (T:=[sl_insItem_ent n,sl_symItem_ent n,row_Answer1_ent n]) (tabCons (sl_insItem_ok n) (tabCons (sl_symItem_ok n) (tabCons (row_Answer1_ok n) tabNil))) (tabLCons (sl_stabItem_l2_ok n n) tabLNil) (sl_stabItem_l1_ok n g) fun s=>by kernel_rfl
def sl_stabItem_l0 (n:Nat):Nat→SgEl [.own tItem, .tree (.int .i64), .fnv 117 [], .tree (.int .i64), .tree (.int .i64), .tree (.int .i64)]→Option (SgEl [.own tItem, .tree (.int .i64), .fnv 117 [], .tree (.int .i64), .tree (.int .i64)] ⊕ SgEl [])
  | 0,_=>none
  | g+1,s =>
    bif ile s.2.2.2.2.2.1 s.2.1 then
     bindN (sl_insItem n (s.1,s.2.2.2.2.1,s.2.2.2.2.2.1,(),())) fun p1 =>
     bindL (sl_stabItem_l0 n g (p1.2.1,s.2.1,(),s.2.2.2.1,s.2.2.2.2.2.1,iadd .i64 s.2.2.2.2.2.1 s.2.2.2.1,())) (fun a2 =>
      some (Sum.inl (a2.1,a2.2.1,(),a2.2.2.2))) fun b3 =>
     some (Sum.inr ())
    else
    some (Sum.inl (s.1,s.2.1,(),s.2.2.2.1,s.2.2.2.2.1,()))
theorem sl_stabItem_l0_ok (n:Nat):∀ g,LEntOk Tryz.prog 175 (nSl sl_stabItem_sg) ⟨0,[.own tItem, .tree (.int .i64), .fnv 117 [], .tree (.int .i64), .tree (.int .i64), .tree (.int .i64)],0,[.own tItem, .tree (.int .i64), .fnv 117 [], .tree (.int .i64), .tree (.int .i64)],[],sl_stabItem_l0 n g⟩ g
  | 0=>loop_zero' fun _=>rfl
  | g+1=>loop_step' mixed (T:=[sl_insItem_ent n,sl_symItem_ent n,row_Answer1_ent n]) (tabCons (sl_insItem_ok n) (tabCons (sl_symItem_ok n) (tabCons (row_Answer1_ok n) tabNil))) (tabLCons (sl_stabItem_l1_ok n n) (tabLCons (sl_stabItem_l2_ok n n) tabLNil)) (sl_stabItem_l0_ok n g) fun s=>by kernel_rfl
def sl_stabItem (n:Nat) (x:SgEl sl_stabItem_sg):Option (RtEl sl_stabItem_rs×OutEl sl_stabItem_sg) :=
  bindL (sl_stabItem_l0 n n (x.1,x.2.1,(),(20:Int),(0:Int),(20:Int),())) (fun a1 =>
   bindN (sl_insItem n (a1.1,a1.2.2.2.2.1,a1.2.1,(),())) fun p3 =>
   bindL (sl_stabItem_l1 n n (p3.2.1,a1.2.1,(),a1.2.2.2.1,())) (fun a4 =>
    some ((),(a4.1,(),(),()))) fun b5 =>
   none) fun b2 =>
  none
abbrev sl_stabItem_ent (n:Nat):Ent:=⟨175,sl_stabItem_sg,sl_stabItem_rs,sl_stabItem n⟩
theorem sl_stabItem_ok (n:Nat):EntOk Tryz.prog (sl_stabItem_ent n):=ent_ok' mixed (T:=[sl_insItem_ent n,sl_symItem_ent n,row_Answer1_ent n]) (tabCons (sl_insItem_ok n) (tabCons (sl_symItem_ok n) (tabCons (row_Answer1_ok n) tabNil))) (tabLCons (sl_stabItem_l0_ok n n) (tabLCons (sl_stabItem_l1_ok n n) (tabLCons (sl_stabItem_l2_ok n n) tabLNil))) fun x=>by kernel_rfl
abbrev sl_StableItem_sg:List Sg:=[.own tItem, .fnv 117 []]
abbrev sl_StableItem_rs:List Rt:=[]
def sl_StableItem (n:Nat) (x:SgEl sl_StableItem_sg):Option (RtEl sl_StableItem_rs×OutEl sl_StableItem_sg) :=
  bindN (sl_stabItem n (x.1,ilen x.1,(),())) fun p1 =>
  some ((),(p1.2.1,(),()))
abbrev sl_StableItem_ent (n:Nat):Ent:=⟨116,sl_StableItem_sg,sl_StableItem_rs,sl_StableItem n⟩
theorem sl_StableItem_ok (n:Nat):EntOk Tryz.prog (sl_StableItem_ent n):=ent_ok' mixed (T:=[sl_stabItem_ent n,row_Answer1_ent n]) (tabCons (sl_stabItem_ok n) (tabCons (row_Answer1_ok n) tabNil)) tabLNil fun x=>by kernel_rfl
end Go.Proofs.YtdcphpbimeoioaaGreatDoorE
end
section
set_option linter.unusedSectionVars false
namespace Go.Proofs.YtdcphpbimeoioaaGreatDoorE
open Go Go.RowKit Go.Shelf Go.Proofs
set_option linter.unusedVariables false
set_option linter.unusedSimpArgs false
theorem holds_below {w w':World} (hg:gHolds w) (hB:Below w.heap.size w w'):gHolds w':=gHolds_same (fun k hk=>hB.block k (gHolds_lt hg k hk)) hg
theorem Below.trans' {a b c:World} (h:Below a.heap.size a b) (k:Below b.heap.size b c):Below a.heap.size a c :=
  ⟨k.os.trans h.os,k.tape.trans h.tape,k.output.trans h.output,Nat.le_trans h.size k.size,fun i hi=>(k.block i (Nat.lt_of_lt_of_le hi h.size)).trans (h.block i hi)⟩
theorem bytes_below {w w':World} (h:w'=w∨∃ t,w'=Lib.bytesWorld w 5 t):Below w.heap.size w w':=by
  rcases h with rfl|⟨t,rfl⟩
  · exact Below.refl _ _
  · exact Go.Joins.below_bytesWorld _ w 5 t (Nat.le_refl _)
theorem parse_range {s:ByteArray} (hs:s.size≤281474976710656) (h:Lib.parseIntB 64 s.data.toList = .range) {w:World} (hg:gHolds w) :
    Calls Tryz.prog 222 #[.string s, .int .i64 10, .int .i64 64] w fun e w'=>∃ N,e = .returned (.tuple #[.int .i64 (Lib.intSat 64 s.data.toList), .iface 315 (.pointer (some ⟨N,0,none⟩))])∧Below w.heap.size w w':=by
  obtain ⟨ev,h1,h2⟩:=gErr hg
  refine (Tryz.strconv_ParseInt_10_at64_range s hs h ev w h1 h2).mono ?_
  rintro e w' ⟨N,he,_,_,hB⟩
  exact ⟨N,he,hB⟩
def readB (s:ByteArray):Option (Int×Int) :=
  match Lib.parseIntB 64 s.data.toList with
  | .ok v=>some (v,0)
  | .range=>some (0,3)
  | _=>none
abbrev sat_Read_sg:List Sg:=[.tree .str]
abbrev sat_Read_rs:List Rt:=[.tree (.int .i64), .tree (.int .i64)]
def sat_Read (n:Nat) (x:SgEl sat_Read_sg):Option (RtEl sat_Read_rs×OutEl sat_Read_sg) :=
  bif Nat.ble x.1.size 281474976710656 then
   bindN (s_TrimPrefix n (x.1,(⟨#[45]⟩:ByteArray),())) fun p1 =>
   bindN (sat_digits n (p1.1.1,())) fun p2 =>
   bif p2.1.1 && !(seq x.1 (⟨#[45,48]⟩:ByteArray)) then
    bindN (readB x.1) fun r=>some ((r.1,r.2,()),((),()))
   else some (((0:Int),(2:Int),()),((),()))
  else none
abbrev sat_Read_ent (n:Nat):Ent:=⟨172,sat_Read_sg,sat_Read_rs,sat_Read n⟩
theorem sat_Read_ok (n:Nat):EntOk Tryz.prog (sat_Read_ent n) :=
  ent_scalg (tys:=[.str]) (rs:=[.int .i64, .int .i64]) rfl rfl (enters Tryz.func172 (by kernel_rfl) (by kernel_rfl)) fun x y h w hg=>by
    obtain ⟨s,⟨⟩⟩:=x
    obtain ⟨h0,h⟩:=cond_some h
    have hs:=Nat.le_of_ble_eq_true h0
    cases hT:s_TrimPrefix n (s,(⟨#[45]⟩:ByteArray),()) with
    | none=>simp only at h;rw [hT] at h;simp [bindN] at h
    | some p1 =>
    cases hD:sat_digits n (p1.1.1,()) with
    | none=>simp only at h;rw [hT] at h;simp only [bindN,Option.bind_some] at h;rw [hD] at h;simp at h
    | some p2 =>
    simp only at h
    rw [hT] at h
    simp only [bindN,Option.bind_some] at h
    rw [hD] at h
    simp only [Option.bind_some] at h
    obtain ⟨⟨tp,⟨⟩⟩,o1⟩:=p1
    obtain ⟨⟨d,⟨⟩⟩,o2⟩:=p2
    have cT:∀ W,gHolds W→Calls Tryz.prog 220 #[.string s, .string ⟨#[45]⟩] W fun e w'=>e = .returned (.string tp)∧Below W.heap.size W w':=fun W hg=>scal_calls (P:=Tryz.prog) (tys:=[.str, .str]) (rs:=[.str]) rfl rfl (s_TrimPrefix_ok n) hT hg
    have cD:∀ W,gHolds W→Calls Tryz.prog 221 #[.string tp] W fun e w'=>e = .returned (.bool d)∧Below W.heap.size W w':=fun W hg=>scal_calls (P:=Tryz.prog) (tys:=[.str]) (rs:=[.bool]) rfl rfl (sat_digits_ok n) hD hg
    have HG:Aside (gHolds w):=hg
    have HT:Aside (∀ W,gHolds W→Calls Tryz.prog 220 #[.string s, .string ⟨#[45]⟩] W fun e w'=>e = .returned (.string tp)∧Below W.heap.size W w'):=cT
    have HD:Aside (∀ W,gHolds W→Calls Tryz.prog 221 #[.string tp] W fun e w'=>e = .returned (.bool d)∧Below W.heap.size W w'):=cD
    have HS:Aside (s.size≤281474976710656):=hs
    clear hg cT cD hs hT hD h0
    show Calls Tryz.prog 172 #[.string s] w fun e w'=>_
    cases d with
    | false =>
      simp only [Bool.false_and,cond_false,Option.some.injEq] at h
      subst h
      go_enter Tryz.func172,Tryz.ntmps172
      go_wp2_with (first|(go_at_call 220;refine (HT.out _ HG.out).mono ?_;rintro e w1 ⟨rfl,hB1⟩;have HB1:Aside (Below w.heap.size w w1):=hB1;clear hB1)|(go_at_call 221;refine (HD.out _ (holds_below HG.out HB1.out)).mono ?_;rintro e w2 ⟨rfl,hB2⟩;have HB2:Aside (Below w1.heap.size w1 w2):=hB2;clear hB2))
      go_ret2
      exact ⟨rfl,belOff (Below.trans' HB1.out HB2.out)⟩
    | true =>
      simp only [Bool.true_and] at h
      by_cases h45:s=⟨#[45,48]⟩
      · subst h45
        have e:seq (⟨#[45,48]⟩:ByteArray) ⟨#[45,48]⟩=true:=by decide+kernel
        rw [e] at h
        simp only [Bool.not_true,cond_false,Option.some.injEq] at h
        subst h
        go_enter Tryz.func172,Tryz.ntmps172
        go_wp2_with (first|(go_at_call 220;refine (HT.out _ HG.out).mono ?_;rintro e w1 ⟨rfl,hB1⟩;have HB1:Aside (Below w.heap.size w w1):=hB1;clear hB1)|(go_at_call 221;refine (HD.out _ (holds_below HG.out HB1.out)).mono ?_;rintro e w2 ⟨rfl,hB2⟩;have HB2:Aside (Below w1.heap.size w1 w2):=hB2;clear hB2))
        go_ret2
        exact ⟨rfl,belOff (Below.trans' HB1.out HB2.out)⟩
      · have e:seq s ⟨#[45,48]⟩=false:=by
          cases hq:seq s ⟨#[45,48]⟩ with
          | false=>rfl
          | true =>
            unfold seq at hq
            rw [ByteArray.toList_eq,ByteArray.toList_eq,beq_iff_eq] at hq
            exact absurd (ByteArray.ext (Array.ext' hq)) h45
        rw [e] at h
        simp only [Bool.not_false,cond_true] at h
        have e2:(⟨#[45,48]⟩:ByteArray).toList=[45,48]:=by decide+kernel
        have hne:(ByteArray.toList s ==[45,48])=false:=by unfold seq at e;rw [e2] at e;exact e
        clear e e2
        unfold readB at h
        cases hp:Lib.parseIntB 64 s.data.toList with
        | ok v =>
          rw [hp] at h
          simp only [bindN,Option.bind_some,Option.some.injEq] at h
          subst h
          have HP:Aside (Lib.parseIntB 64 s.data.toList = .ok v):=hp
          clear hp
          go_enter Tryz.func172,Tryz.ntmps172
          go_wp2_with (first|(go_at_call 220;refine (HT.out _ HG.out).mono ?_;rintro e w1 ⟨rfl,hB1⟩;have HB1:Aside (Below w.heap.size w w1):=hB1;clear hB1)|(go_at_call 221;refine (HD.out _ (holds_below HG.out HB1.out)).mono ?_;rintro e w2 ⟨rfl,hB2⟩;have HB2:Aside (Below w1.heap.size w1 w2):=hB2;clear hB2)|(go_at_call 222;refine (Tryz.strconv_ParseInt_10_at64_ok s (by have:=HS.out;omega) v HP.out w2).mono ?_;rintro e w3 ⟨rfl,hB3⟩;have HB3:Aside (Below w2.heap.size w2 w3):=bytes_below hB3;clear hB3))
          go_ret2
          exact ⟨rfl,belOff (Below.trans' (Below.trans' HB1.out HB2.out) HB3.out)⟩
        | range =>
          rw [hp] at h
          simp only [bindN,Option.bind_some,Option.some.injEq] at h
          subst h
          have HP:Aside (Lib.parseIntB 64 s.data.toList = .range):=hp
          clear hp
          go_enter Tryz.func172,Tryz.ntmps172
          go_wp2_with (first|(go_at_call 220;refine (HT.out _ HG.out).mono ?_;rintro e w1 ⟨rfl,hB1⟩;have HB1:Aside (Below w.heap.size w w1):=hB1;clear hB1)|(go_at_call 221;refine (HD.out _ (holds_below HG.out HB1.out)).mono ?_;rintro e w2 ⟨rfl,hB2⟩;have HB2:Aside (Below w1.heap.size w1 w2):=hB2;clear hB2)|(go_at_call 222;refine (parse_range HS.out HP.out (holds_below (holds_below HG.out HB1.out) HB2.out)).mono ?_;rintro e w3 ⟨N,rfl,hB3⟩;have HB3:Aside (Below w2.heap.size w2 w3):=hB3;clear hB3))
          go_ret2
          exact ⟨rfl,belOff (Below.trans' (Below.trans' HB1.out HB2.out) HB3.out)⟩
        | _=>rw [hp] at h;simp [bindN] at h
end Go.Proofs.YtdcphpbimeoioaaGreatDoorE
end
section
set_option linter.unusedSectionVars false
namespace Go.Proofs.YtdcphpbimeoioaaGreatDoorE.SV
open Go Go.Proofs Go.RowKit Go.Shelf Go.Sort
set_option linter.unusedVariables false
set_option linter.unusedSimpArgs false
attribute [local go_sem] Oper.semAt_some
def upto {α:Type} (f:Nat→α) (k:Nat):List α:=(List.range k).map f
theorem upto_succ {α:Type} (f:Nat→α) (k:Nat):upto f (k+1)=upto f k++[f k]:=by simp [upto,List.range_succ]
theorem upto_length {α:Type} (f:Nat→α) (k:Nat):(upto f k).length=k:=by simp [upto]
theorem upto_all {α:Type} (d:α) (zs:List α):upto (fun j=>zs[j]?.getD d) zs.length=zs:=by
 apply List.ext_getElem
 ·simp [upto]
 ·intro i h1 h2
  simp [upto,h2]
abbrev TX:=List UInt8
set_option maxRecDepth 100000 in
set_option maxHeartbeats 2000000 in
theorem values1_in (F:Fence) (n:Nat) (h7:F.fn 259) (hro:F.round=none) (hn:1≤n) (l Bs n₀ b off len cap:Nat) (zs:List TX) (hreach:len * 16≤140737488355328) (hb:b<n₀) (J Jx:List TX→World→Prop)
  (hY:∀ pre x W,J pre W→pre.length<len→YieldAt F (n - 1) Tryz.prog l #[encStr x] W fun e W' =>
   (e = .returned (.bool true)∧J (pre++[x]) W'∧Below n₀ W W')∨(e = .returned (.bool false)∧Jx (pre++[x]) W'))
  (W:World) (hBs:W.cell? ⟨Bs,0,none⟩=some (.slice (some ⟨b,off,none⟩) len cap)) (hc:∀ j,j<len→W.cell? ⟨b,off+j,none⟩=some (encStr (zs[j]?.getD []))) (h0:J [] W) :
  CallsIn F n Tryz.prog 259 #[.func (.yield l) #[] #[], .pointer (some ⟨Bs,0,none⟩)] W fun e W'=>(∃ v,e = .returned v) ∧
   ((∃ ys,ys=upto (fun j=>zs[j]?.getD []) len∧J ys W')∨(∃ pre,(∃ k,k≤len∧pre=upto (fun j=>zs[j]?.getD []) k)∧Jx pre W')):=by
 refine callsIn_of_wp Tryz.func259 rfl h7 ?_ hro
 simp only [Tryz.ntmps259,List.size_toArray,List.length_cons,List.length_nil,Nat.reduceAdd,Nat.reduceSub,Array.replicate_succ,Array.replicate_zero,List.push_toArray,List.append_toArray,List.nil_append,List.cons_append]
 gi_wp2
 gi_loopw [7] (fun i wr=>∃ k:Nat,k≤len∧i = .int .i64 k∧J (upto (fun j=>zs[j]?.getD []) k) wr∧Below n₀ W wr)
  (fun i _=>len - (intOf i).toNat)
 case atStart=>exact ⟨0,Nat.zero_le _,rfl,h0,Below.refl _ _⟩
 case round =>
  obtain ⟨k,hk,rfl,hJs,hnx⟩:=hrel
  have hcx:k<len→wr.cell? ⟨b,off+k,none⟩=some (encStr (zs[k]?.getD [])):=fun h=>(hnx.cell (p:=⟨b,off+k,none⟩) hb).trans (hc k h)
  by_cases hlt:k<len
  ·obtain ⟨fn,tmps,assign,body,hy,hR⟩:=hY _ (zs[k]?.getD []) wr hJs (by rw [upto_length];exact hlt)
   have hcx':=hcx hlt
   obtain ⟨s0,hs0⟩:∃ s0:ByteArray,encStr (zs[k]?.getD []) = .string s0:=⟨_,rfl⟩
   rw [hs0] at hcx' hy
   clear hcx hc
   gi_wp2
   refine hR.mono ?_
   rintro e W3 (⟨rfl,hJ3,hk3⟩|⟨rfl,hJx3⟩)
   ·gi_wp2
    go_roundw
    case rel=>exact ⟨k+1,by omega,by simp,by rw [upto_succ];exact hJ3,hnx.trans hk3⟩
    case measure=>simp [intOf];omega
   ·gi_wp2
    refine bodyPost_ret (results_none rfl _ _ _) rfl ?_
    exact ⟨⟨_,rfl⟩, .inr ⟨_,⟨k+1,by omega,(upto_succ _ _).symm⟩,hJx3⟩⟩
  ·obtain rfl:k=len:=by omega
   gi_wp2
   go_end0
   exact ⟨⟨_,rfl⟩, .inl ⟨_,rfl,hJs⟩⟩
theorem upto_take {α:Type} (d:α) (zs:List α) {k:Nat} (hk:k≤zs.length):upto (fun j=>zs[j]?.getD d) k=zs.take k:=by
 apply List.ext_getElem
 ·simp [upto,hk]
 ·intro i h1 h2
  have:i<zs.length:=by simp [upto] at h1;omega
  simp [upto,this]
def Texts (n₀:Nat) (W:World) (sv:Value) (zs:List TX):Prop :=
 (zs=[]∧∃ A c,sv = .slice A 0 c)∨∃ b off cap,sv = .slice (some ⟨b,off,none⟩) zs.length cap∧b<n₀∧∀ j,j<zs.length→W.cell? ⟨b,off+j,none⟩=some (encStr (zs[j]?.getD []))
theorem Texts.below {n₀:Nat} {A B:World} (h:Below n₀ A B) {sv:Value} {zs:List TX}:Texts n₀ A sv zs→Texts n₀ B sv zs
 | .inl e => .inl e
 | .inr ⟨b,off,cap,e,hb,hc⟩ => .inr ⟨b,off,cap,e,hb,fun j hj=>(h.cell (p:=⟨b,off+j,none⟩) hb).trans (hc j hj)⟩
set_option maxRecDepth 100000 in
set_option maxHeartbeats 1000000 in
theorem values1_nil_in (F:Fence) (n:Nat) (h7:F.fn 259) (hro:F.round=none) (l Bs:Nat) (A:Option Addr) (c:Nat) (J:List TX→World→Prop) (W:World) (hBs:W.cell? ⟨Bs,0,none⟩=some (.slice A 0 c)) (h0:J [] W) :
  CallsIn F n Tryz.prog 259 #[.func (.yield l) #[] #[], .pointer (some ⟨Bs,0,none⟩)] W fun e W'=>(∃ v,e = .returned v)∧J [] W':=by
 refine callsIn_of_wp Tryz.func259 rfl h7 ?_ hro
 simp only [Tryz.ntmps259,List.size_toArray,List.length_cons,List.length_nil,Nat.reduceAdd,Nat.reduceSub,Array.replicate_succ,Array.replicate_zero,List.push_toArray,List.append_toArray,List.nil_append,List.cons_append]
 gi_wp2
 gi_loopw [7] (fun i wr=>i = .int .i64 0∧J [] wr) (fun _ _=>0)
 case atStart=>exact ⟨rfl,h0⟩
 case round =>
  obtain ⟨rfl,hJs⟩:=hrel
  gi_wp2
  go_end0
  exact ⟨⟨_,rfl⟩,hJs⟩
set_option maxHeartbeats 1000000 in
theorem values_in (F:Fence) (n:Nat) (h5:F.fn 202) (hro:F.round=none) (a:Option Addr) (len cap:Nat) (w:World) :
  CallsIn F n Tryz.prog 202 #[.slice a len cap] w fun e w'=>e = .returned (.func (.func 259) #[] #[.pointer (some ⟨w.heap.size,0,none⟩)])∧w'=w.alloc (.cells #[.slice a len cap] 23):=by
 refine callsIn_of_wp Tryz.func202 rfl h5 ?_ hro
 simp only [Tryz.ntmps202,List.size_toArray,List.length_cons,List.length_nil,Nat.reduceAdd,Nat.reduceSub,Array.replicate_succ,Array.replicate_zero,List.push_toArray,List.append_toArray,List.nil_append,List.cons_append]
 gi_wp2
 go_ret
 exact ⟨rfl,rfl⟩
theorem values_stops (F:Fence) (n:Nat) (h7:F.fn 259) (hro:F.round=none) (hn:1≤n) (Bs n₀:Nat) (sv:Value) (zs:List TX) (hreach:zs.length * 16≤140737488355328) (w:World) (hBs:Bs<w.heap.size) (hn₀:n₀≤w.heap.size)
  (hc:w.cell? ⟨Bs,0,none⟩=some sv) (hI:Texts n₀ w sv zs) :
  SeqStopsK F n Tryz.prog 259 #[.pointer (some ⟨Bs,0,none⟩)] (fun x:TX=>#[encStr x]) (Below n₀) (fun ys=>ys=zs) (fun pre=>pre <+:zs) zs.length w:=fun l J Jx W hW _ _ hY h0=>by
 have hc':=(hW.cell (p:=⟨Bs,0,none⟩) hBs).trans hc
 rcases hI.below (hW.mono hn₀) with ⟨rfl,A,c,rfl⟩|⟨b,off,cap,rfl,hb,hcs⟩
 ·exact (values1_nil_in F n h7 hro l Bs A c J W hc' h0).mono fun e W' ⟨he,hj⟩=>⟨he, .inl ⟨_,rfl,hj⟩⟩
 ·refine (values1_in F n h7 hro hn l Bs n₀ b off zs.length cap zs hreach hb J Jx hY W hc' hcs h0).mono ?_
  rintro e W' ⟨he,⟨ys,rfl,hj⟩|⟨pre,⟨k,hk,rfl⟩,hj⟩⟩
  ·exact ⟨he, .inl ⟨_,upto_all [] zs,hj⟩⟩
  ·exact ⟨he, .inr ⟨_,by rw [upto_take [] zs hk];exact List.take_prefix _ _,hj⟩⟩
end Go.Proofs.YtdcphpbimeoioaaGreatDoorE.SV
end
section
set_option linter.unusedSectionVars false
namespace Go.Proofs.YtdcphpbimeoioaaGreatDoorE.SV
open Go Go.Proofs Go.RowKit Go.Shelf Go.Sort
set_option linter.unusedVariables false
set_option linter.unusedSimpArgs false
attribute [local go_sem] Oper.semAt_some
theorem infoS:(Tryz.prog.info? 9).map (fun i=>(i.zero,i.size,i.bytes))=some (some (.string ⟨#[]⟩),1,16):=by kernel_rfl
set_option maxRecDepth 100000 in
set_option maxHeartbeats 2000000 in
theorem appendSeq_calls (Bs:Nat) (sv:Value) (zs:List TX) (hreach:zs.length * 16≤140737488355328) (w:World) (hBs:Bs<w.heap.size) (hc:w.cell? ⟨Bs,0,none⟩=some sv) (hI:Texts w.heap.size w sv zs) :
  Calls Tryz.prog 294 #[.slice none 0 0, .func (.func 259) #[] #[.pointer (some ⟨Bs,0,none⟩)]] w fun e W'=>∃ v,e = .returned v∧W'.ownsRow w.heap.size 9 1 v zs.length (zs.map encStr)∧Below w.heap.size w W':=by
 refine (callsIn_wide (n:=6)).1 ?_
 have hro:Fence.wide.round=none:=rfl
 have h1:1≤6:=by omega
 obtain ⟨i0,hi,hz0,hz1,hz2⟩:=info_parts infoS
 refine callsIn_of_wp_marks Tryz.func294 rfl trivial ?_ hro
 simp only [Tryz.ntmps294,List.size_toArray,List.length_cons,List.length_nil,Nat.reduceAdd,Nat.reduceSub,Array.replicate_succ,Array.replicate_zero,List.push_toArray,List.append_toArray,List.nil_append,List.cons_append]
 gi_wp2
 have bO:=Boxed.new w 23 (.slice none 0 0)
 have hB0:Below w.heap.size w (w.alloc (.cells #[.slice none 0 0] 23)):=(Below.refl _ w).alloc (Nat.le_refl _) _
 refine wpIn_rangeFunc_ownG hro h1 (gf:=259) (lb:=#[.pointer (some ⟨Bs,0,none⟩)]) rfl trivial (enters_of Tryz.func259 (by kernel_rfl) rfl)
  (values_stops Fence.wide (6 - 1) trivial hro (by omega) Bs w.heap.size sv zs hreach (w.alloc (.cells #[.slice none 0 0] 23)) (by simp;omega) (by simp) ((hB0.cell (p:=⟨Bs,0,none⟩) hBs).trans hc) (hI.below hB0)) belowK_t (belowK_b (by simp)) (Below.refl _ _) (fun _=>rfl)
  (fun pre W=>(∃ v,Boxed W w.heap.size 23 v∧W.ownsRow w.heap.size 9 1 v pre.length (pre.map encStr)∧True)∧Below w.heap.size w W)
  (fun _ _ _=>False)
  (OwnFrom.and (Own.from (holdsRow_own w.heap.size w.heap.size 23 9 1 (fun pre:List TX=>pre.length) (fun pre:List TX=>pre.map encStr) (fun pre v=>True)) _) (ownFrom_below (Nat.le_refl _) (by simp)))
  (fun _ _ _ _ _ hs _ _=>hs)
  ⟨⟨_,bO,World.ownsRow_nil _ _ _ _,trivial⟩,hB0⟩
  (fun x=>{ tmps:=#[.slice none 0 0, .func (.func 259) #[] #[.pointer (some ⟨Bs,0,none⟩)], .pointer (some ⟨w.heap.size,0,none⟩),undef, .slice none 0 0, .string ⟨x.toArray⟩, .func (.func 259) #[] #[.pointer (some ⟨Bs,0,none⟩)], .string ⟨x.toArray⟩,undef,undef,undef,undef,undef],defers:=[] }) ?assign ?body ?done ?stop
 case assign =>
  intro l x W K hK
  gi_wp2
  exact hK
 case body =>
  rintro l pre x W ⟨⟨v,hv,hrow,_⟩,hB⟩ hlt
  have hcv:=hv.cell
  have hlt':pre.length<zs.length:=hlt
  gi_wp2_with (gi_at_builtin;refine wpListIn_append_own _ rfl _ _ 23 rfl w.heap.size 9 i0 (.string ⟨#[]⟩) 1 16 Tryz.underlying23 hi hz0 hz1 hz2 rfl (by decide) _ _ _ rfl (hrow.alloc _) ⟨W.heap.size,0,none⟩ 1 1 [.string ⟨x.toArray⟩] rfl rfl (cell_one_new _ _ _) (by simp [Value.oneCell']) (by unfold maxLen;omega) (by omega) (by have:=hB.size;simp;omega) ?_;intro v' w1 hown' hgrow _;obtain ⟨g',cap',rfl⟩:=ownsRow_succ hown';obtain ⟨hv1,hv2,hr2,hk2,hb2⟩:=hv.appended (by decide) hrow hB.size (Nat.le_refl _) hown' hgrow;have hc1:=hv1.cell;have hf1:=hv1.frozen)
  exact ⟨hk2.from _,hb2,⟨_,hv2,by simpa [encStr] using hr2,trivial⟩,hB.trans hb2⟩
 case done =>
  rintro D ys W hD rfl ⟨⟨v,hv,hrow,_⟩,hB⟩ hK
  have hcv:=hv.cell
  gi_wp2
  refine ⟨by simp, .inl ⟨_,_,rfl,run_takeDeferred hK,?_⟩⟩
  exact ⟨_,results_tmp rfl _ _ _,v,rfl,ownsRow_putObj hrow _ hK rfl,hB.trans (belowK_b (w:=w) (Nat.le_refl _) W D _ _ (by simp at hD;omega) hK rfl rfl)⟩
 case stop =>
  rintro D c pre W _ _ h _
  exact h.elim
set_option maxRecDepth 100000 in
set_option maxHeartbeats 2000000 in
theorem collect_calls (Bs:Nat) (sv:Value) (zs:List TX) (hreach:zs.length * 16≤140737488355328) (w:World) (hBs:Bs<w.heap.size) (hc:w.cell? ⟨Bs,0,none⟩=some sv) (hI:Texts w.heap.size w sv zs) :
  Calls Tryz.prog 257 #[.func (.func 259) #[] #[.pointer (some ⟨Bs,0,none⟩)]] w fun e W'=>∃ v,e = .returned v∧W'.ownsRow w.heap.size 9 1 v zs.length (zs.map encStr)∧Below w.heap.size w W':=by
 have hcon:=appendSeq_calls Bs sv zs hreach w hBs hc hI
 clear hc hI
 go_enter Tryz.func257,Tryz.ntmps257
 go_wp2_with (go_at_call 294;refine hcon.mono ?_;rintro e W' ⟨v,rfl,hr,hb⟩)
 go_ret
 exact ⟨v,rfl,hr,hb⟩
def sortedT (zs:List TX):List TX:=zs.mergeSort fun x y=>decide (x≤y)
theorem sortedT_len (zs:List TX):(sortedT zs).length=zs.length:=by unfold sortedT;exact List.length_mergeSort zs
theorem row_opened {w:World} {base:Nat} {e:TypeId} {v:Value} {zs:List TX} (hn:0<zs.length) (hr:w.ownsRow base e 1 v zs.length (zs.map encStr)) :
  ∃ g cap cur,v = .slice (some ⟨g,0,none⟩) zs.length cap∧base≤g∧w.heap[g]?=some (.cells cur e (0,0))∧zs.length≤cap∧cap≤maxLen∧cur.size=cap * 1∧Holds encStr w g 0 zs.toArray:=by
 rcases hr.2 with ⟨_,hz⟩|⟨g,cap,cur,rfl,hbase,hgb,r1,r2,r3,r4⟩
 ·omega
 ·exact ⟨g,cap,cur,rfl,hbase,hgb,r1,r2,r3,holds_of_block hgb (by simpa using r4)⟩
theorem sorted_calls (Bs:Nat) (sv:Value) (zs:List TX) (hreach:zs.length * 16≤140737488355328) (w:World) (hBs:Bs<w.heap.size) (hc:w.cell? ⟨Bs,0,none⟩=some sv) (hI:Texts w.heap.size w sv zs) :
  Calls Tryz.prog 201 #[.func (.func 259) #[] #[.pointer (some ⟨Bs,0,none⟩)]] w fun e W'=>((zs=[]∧∃ A c,e = .returned (.slice A 0 c))∨∃ g cap,e = .returned (.slice (some ⟨g,0,none⟩) (sortedT zs).length cap)∧(sortedT zs).length≤cap∧w.heap.size≤g∧g<W'.heap.size∧Holds encStr W' g 0 (sortedT zs).toArray)∧Below w.heap.size w W':=by
 have hcon:=collect_calls Bs sv zs hreach w hBs hc hI
 clear hc hI
 by_cases h0:zs=[]
 ·subst h0
  go_enter Tryz.func201,Tryz.ntmps201
  go_wp2_with (first|(go_at_call 257;refine hcon.mono ?_;rintro e W' ⟨v,rfl,hr,hb⟩;have hr2:=hr.2;obtain ⟨A1,c1,rfl⟩:∃ A1 c1,v = .slice A1 0 c1:=(by rcases hr2 with ⟨rfl,_⟩|⟨g,cap,cur,rfl,_⟩<;>exact ⟨_,_,rfl⟩);clear hr hr2)|(go_at_call 258;refine (Tryz.slices_Sort_string_none _ _ _).mono ?_;rintro e w' ⟨rfl,rfl⟩))
  go_ret
  exact ⟨.inl ⟨by first|rfl|trivial,_,_,rfl⟩,hb⟩
 ·have hz0:0<zs.length:=by cases zs with
   | nil=>exact absurd rfl h0
   | cons x t=>simp
  go_enter Tryz.func201,Tryz.ntmps201
  go_wp2_with (first|(go_at_call 257;refine hcon.mono ?_;rintro e W' ⟨v,rfl,hr,hb⟩;obtain ⟨g,cap,cur,rfl,hg,hgb,r1,r2,r3,hH⟩:=row_opened hz0 hr;have hlt:=(Array.getElem?_eq_some_iff.1 hgb).1;have hown:=fun nn os=>ownsRow_sorted (n:=nn) (os:=os) (ts:=sortedT zs) (sortedT_len zs) hg hgb r1 r2 r3;have hbel:=fun nn os=>hb.grown (grownBy_sorted (n:=nn) (os:=os) (sortedT zs).toArray) hb.size (fun j hj=>by cases hj;exact hg);clear hr)|(go_at_call 258;refine (Tryz.slices_Sort_string g 0 cap zs _ hH hlt (by omega)).mono ?_;rintro e w' ⟨rfl,nn,os,rfl⟩))
  go_ret
  have hs:=hown nn os
  obtain ⟨g1,cap1,cur1,e1,hg1,hgb1,s1,s2,s3,hH1⟩:=row_opened (by rw [sortedT_len];exact hz0) (by rw [sortedT_len];exact hs)
  injection e1 with e2 e3 e4
  injection e2 with e5
  injection e5 with e6
  subst e6
  subst e4
  exact ⟨.inr ⟨g,cap,by rw [sortedT_len];rfl,s1,hg,(Array.getElem?_eq_some_iff.1 hgb1).1,hH1⟩,hbel nn os⟩
end Go.Proofs.YtdcphpbimeoioaaGreatDoorE.SV
end
section
set_option linter.unusedSectionVars false
namespace Go.Proofs.YtdcphpbimeoioaaGreatDoorE
open Go Go.RowKit Go.Shelf Go.Proofs
set_option linter.unusedVariables false
set_option linter.unusedSimpArgs false
structure Aside0 (p:Prop):Prop where mk ::(out:p)
theorem below_then {a b c:World} {n:Nat} (h:Below n a b) (hn:n≤b.heap.size) (k:Below b.heap.size b c):Below n a c :=
  ⟨k.os.trans h.os,k.tape.trans h.tape,k.output.trans h.output,Nat.le_trans h.size k.size,fun i hi=>(k.block i (Nat.lt_of_lt_of_le hi hn)).trans (h.block i hi)⟩
def StrsAt (w:World) (A:Option Addr) (l:List ByteArray):Prop :=
  l=[]∨∃ bk o,A=some ⟨bk,o,none⟩∧(∀ (j:Nat) x,l[j]?=some x→w.cell? ⟨bk,o+j,none⟩=some (.string x))∧bk<w.heap.size
def qn.texts (l0:List ByteArray):List (List UInt8):=l0.map (·.data.toList)
theorem qn.hold (l0:List ByteArray) (A0:Option Addr) (c0:Nat) (w:World) (hr0:StrsAt w A0 l0):SV.Texts w.heap.size w (.slice A0 l0.length c0) (qn.texts l0):=by
  by_cases h0:l0=[]
  · subst h0
    exact .inl ⟨rfl,A0,c0,rfl⟩
  · obtain ⟨bk,o,rfl,hcell,hbk⟩:=hr0.resolve_left h0
    refine .inr ⟨bk,o,c0,by simp [qn.texts],hbk,fun j hj=>?_⟩
    have hj':j<l0.length:=by simpa [qn.texts] using hj
    rw [hcell j _ (List.getElem?_eq_getElem hj')]
    simp [qn.texts,Go.Proofs.encStr,hj']
theorem qn.sorted (l0:List ByteArray) (A0:Option Addr) (c0:Nat) (w:World) (hr0:StrsAt w A0 l0) (hl:l0.length≤1000000000) :
    Calls Tryz.prog 201 #[.func (.func 259) #[] #[.pointer (some ⟨w.heap.size,0,none⟩)]] (w.alloc (.cells #[.slice A0 l0.length c0] 23)) fun e W'=>∃ As ns cs,e = .returned (.slice As ns cs)∧Below w.heap.size w W' ∧
      ((l0=[]∧ns=0)∨(ns=(SV.sortedT (qn.texts l0)).length∧ns≤cs∧∃ g,As=some ⟨g,0,none⟩∧w.heap.size≤g∧Go.Sort.Holds Go.Proofs.encStr W' g 0 (SV.sortedT (qn.texts l0)).toArray)):=by
  have hB0:Below w.heap.size w (w.alloc (.cells #[.slice A0 l0.length c0] 23)):=(Below.refl _ w).alloc (Nat.le_refl _) _
  have hsz:w.heap.size<(w.alloc (.cells #[.slice A0 l0.length c0] 23)).heap.size:=by show _<(w.heap.push _).size;simp
  have hI:=(qn.hold l0 A0 c0 w hr0).below hB0
  have hI2:SV.Texts (w.alloc (.cells #[.slice A0 l0.length c0] 23)).heap.size (w.alloc (.cells #[.slice A0 l0.length c0] 23)) (.slice A0 l0.length c0) (qn.texts l0):=by
    rcases hI with h|⟨b,o,cap,e,hb,hc⟩
    · exact .inl h
    · exact .inr ⟨b,o,cap,e,by omega,hc⟩
  refine (SV.sorted_calls w.heap.size _ (qn.texts l0) (by simp [qn.texts];omega) _ hsz (by unfold World.cell?;rw [(MapKept.heap_alloc w _).1];rfl) hI2).mono ?_
  rintro e W' ⟨h,hb⟩
  have hb2:Below w.heap.size w W':=below_then hB0 hB0.size hb
  rcases h with ⟨hz,A,c,rfl⟩|⟨g,cap,rfl,hcap,hg,_,hH⟩
  · exact ⟨A,0,c,rfl,hb2, .inl ⟨by simpa [qn.texts] using hz,rfl⟩⟩
  · exact ⟨_,_,_,rfl,hb2, .inr ⟨rfl,hcap,g,rfl,by omega,hH⟩⟩
theorem qn.compact (l0:List ByteArray) (w W:World) (As:Option Addr) (ns cs:Nat) (hB:Below w.heap.size w W) (hl:l0.length≤1000000000) (hs:(l0=[]∧ns=0)∨(ns=(SV.sortedT (qn.texts l0)).length∧ns≤cs∧∃ g,As=some ⟨g,0,none⟩∧w.heap.size≤g∧Go.Sort.Holds Go.Proofs.encStr W g 0 (SV.sortedT (qn.texts l0)).toArray)) :
    Calls Tryz.prog 205 #[.slice As ns cs] W fun e W'=>∃ Ac cc,e = .returned (.slice Ac (Lib.compact (SV.sortedT (qn.texts l0))).length cc)∧Below w.heap.size w W':=by
  rcases hs with ⟨rfl,rfl⟩|⟨rfl,hcs,g,rfl,hg,hH⟩
  · refine (Tryz.slices_Compact_string_empty As cs W).mono ?_
    rintro e W' ⟨rfl,rfl⟩
    have h0:SV.sortedT (qn.texts [])=[]:=List.length_eq_zero_iff.1 (by rw [SV.sortedT_len];rfl)
    rw [h0]
    exact ⟨As,cs,rfl,hB⟩
  · refine (Tryz.slices_Compact_string g 0 cs _ W hH (by rw [SV.sortedT_len];simp [qn.texts];omega) hcs).mono ?_
    rintro e W' ⟨rfl,q,rfl⟩
    have hgr:=Go.grownBy_sorted (w:=W) (g:=g) (n:=q) (os:=#[]) (Lib.compact (SV.sortedT (qn.texts l0))++List.replicate ((SV.sortedT (qn.texts l0)).length - (Lib.compact (SV.sortedT (qn.texts l0))).length) []).toArray
    rw [Go.Sort.grow_empty] at hgr
    exact ⟨_,_,rfl,hB.grown hgr hB.size (fun j hj=>by cases hj;exact hg)⟩
theorem qn.later {l0:List ByteArray} {n:Nat} {W W2:World} {As:Option Addr} {ns cs:Nat} (hs:(l0=[]∧ns=0)∨(ns=(SV.sortedT (qn.texts l0)).length∧ns≤cs∧∃ g,As=some ⟨g,0,none⟩∧n≤g∧Go.Sort.Holds Go.Proofs.encStr W g 0 (SV.sortedT (qn.texts l0)).toArray)) (hB:Below W.heap.size W W2) :
    (l0=[]∧ns=0)∨(ns=(SV.sortedT (qn.texts l0)).length∧ns≤cs∧∃ g,As=some ⟨g,0,none⟩∧n≤g∧Go.Sort.Holds Go.Proofs.encStr W2 g 0 (SV.sortedT (qn.texts l0)).toArray):=by
  rcases hs with h|⟨h1,h2,g,h3,h4,h5⟩
  · exact .inl h
  · refine .inr ⟨h1,h2,g,h3,h4,fun j hj=>?_⟩
    have h6:=h5 j hj
    have hlt:=World.block_lt_of_cell? W _ h6.1
    exact ⟨(hB.cell hlt).trans h6.1,(hB.frozen hlt).trans h6.2⟩
set_option maxHeartbeats 4000000 in
set_option maxRecDepth 100000 in
theorem qn.calls (A0:Option Addr) (c0:Nat) (l0:List ByteArray) (b:Bool) (r:Int) (w:World) (hr0:StrsAt w A0 l0) (hc0:l0.length≤c0) (hl:l0.length≤1000000000)
    (hb:∀ W,Below w.heap.size w W→Calls Tryz.prog 203 #[.slice A0 l0.length c0, .func (.func 204) #[] #[]] W fun e w'=>e = .returned (.bool b)∧Below W.heap.size W w')
    (h:(if b=true then some 2 else (if (l0.length:Int)>4 then some 4 else (if (Lib.compact (SV.sortedT (qn.texts l0))).length<l0.length then some 5 else some 0)))=some r) :
    Calls Tryz.prog 148 #[.slice A0 l0.length c0] w fun e w'=>e = .returned (.int .i64 r)∧Below w.heap.size w w':=by
  have HR0:=Aside0.mk hr0
  have HC0:=Aside0.mk hc0
  have HL:=Aside0.mk hl
  have HF:=Aside0.mk hb
  have hV:∀ W:World,Calls Tryz.prog 202 #[.slice A0 l0.length c0] W fun e w'=>e = .returned (.func (.func 259) #[] #[.pointer (some ⟨W.heap.size,0,none⟩)])∧w'=W.alloc (.cells #[.slice A0 l0.length c0] 23):=fun W=>(callsIn_wide (n:=6)).1 (SV.values_in Fence.wide 6 trivial rfl A0 l0.length c0 W)
  have HV:=Aside0.mk hV
  clear hr0 hc0 hl hb hV
  by_cases hbt:b=true
  · subst hbt
    rw [if_pos rfl] at h
    obtain rfl:=Option.some.inj h
    go_enter Tryz.func148,Tryz.ntmps148
    go_wp2_with (first|(go_at_call 202;refine (HV.out _).mono ?_;rintro e w' ⟨rfl,rfl⟩)|(go_at_call 201;refine (qn.sorted l0 A0 c0 w HR0.out HL.out).mono ?_;rintro e W' ⟨As,ns,cs,rfl,hB,hS⟩;have HB:=Aside0.mk hB;clear hB hS)|(go_at_call 203;refine (HF.out _ HB.out).mono ?_;rintro e W2 ⟨rfl,hB2⟩;have HB2:=Aside0.mk (below_then HB.out HB.out.size hB2);clear hB2))
    go_ret
    exact ⟨rfl,HB2.out⟩
  · rw [if_neg hbt] at h
    have hbf:b=false:=by simpa using hbt
    subst hbf
    clear hbt
    by_cases h4:(l0.length:Int)>4
    · rw [if_pos h4] at h
      obtain rfl:=Option.some.inj h
      have h4b:decide ((4:Int)<(l0.length:Int))=true:=decide_eq_true h4
      have h4c:decide (4<l0.length)=true:=decide_eq_true (by omega)
      clear h4
      go_enter Tryz.func148,Tryz.ntmps148
      go_wp2_with (first|(go_at_call 202;refine (HV.out _).mono ?_;rintro e w' ⟨rfl,rfl⟩)|(go_at_call 201;refine (qn.sorted l0 A0 c0 w HR0.out HL.out).mono ?_;rintro e W' ⟨As,ns,cs,rfl,hB,hS⟩;have HB:=Aside0.mk hB;clear hB hS)|(go_at_call 203;refine (HF.out _ HB.out).mono ?_;rintro e W2 ⟨rfl,hB2⟩;have HB2:=Aside0.mk (below_then HB.out HB.out.size hB2);clear hB2))
      go_ret
      exact ⟨rfl,HB2.out⟩
    · rw [if_neg h4] at h
      have h4b:decide ((4:Int)<(l0.length:Int))=false:=decide_eq_false h4
      have h4c:decide (4<l0.length)=false:=decide_eq_false (by omega)
      clear h4
      by_cases h5:(Lib.compact (SV.sortedT (qn.texts l0))).length<l0.length
      · rw [if_pos h5] at h
        obtain rfl:=Option.some.inj h
        have h5b:decide (((Lib.compact (SV.sortedT (qn.texts l0))).length:Int)<(l0.length:Int))=true:=decide_eq_true (by omega)
        have h5c:decide ((Lib.compact (SV.sortedT (qn.texts l0))).length<l0.length)=true:=decide_eq_true h5
        clear h5
        generalize hLC:Lib.compact (SV.sortedT (qn.texts l0))=LC at h5b h5c
        have HLC:=Aside0.mk hLC
        clear hLC
        go_enter Tryz.func148,Tryz.ntmps148
        go_wp2_with (first|(go_at_call 202;refine (HV.out _).mono ?_;rintro e w' ⟨rfl,rfl⟩)|(go_at_call 201;refine (qn.sorted l0 A0 c0 w HR0.out HL.out).mono ?_;rintro e W' ⟨As,ns,cs,rfl,hB,hS⟩;have HB:=Aside0.mk hB;have HS:=Aside0.mk hS;clear hB hS)|(go_at_call 203;refine (HF.out _ HB.out).mono ?_;rintro e W2 ⟨rfl,hB2⟩;have HB2:=Aside0.mk (below_then HB.out HB.out.size hB2);have HS2:=Aside0.mk (qn.later HS.out hB2);clear hB2)|(go_at_call 205;refine (qn.compact l0 w _ As ns cs HB2.out HL.out HS2.out).mono ?_;rintro e W3 ⟨Ac,cc,rfl,hB3⟩;rw [HLC.out];have HB3:=Aside0.mk hB3;clear hB3))
        go_ret
        exact ⟨rfl,HB3.out⟩
      · rw [if_neg h5] at h
        obtain rfl:=Option.some.inj h
        have h5b:decide (((Lib.compact (SV.sortedT (qn.texts l0))).length:Int)<(l0.length:Int))=false:=decide_eq_false (by omega)
        have h5c:decide ((Lib.compact (SV.sortedT (qn.texts l0))).length<l0.length)=false:=decide_eq_false h5
        clear h5
        generalize hLC:Lib.compact (SV.sortedT (qn.texts l0))=LC at h5b h5c
        have HLC:=Aside0.mk hLC
        clear hLC
        go_enter Tryz.func148,Tryz.ntmps148
        go_wp2_with (first|(go_at_call 202;refine (HV.out _).mono ?_;rintro e w' ⟨rfl,rfl⟩)|(go_at_call 201;refine (qn.sorted l0 A0 c0 w HR0.out HL.out).mono ?_;rintro e W' ⟨As,ns,cs,rfl,hB,hS⟩;have HB:=Aside0.mk hB;have HS:=Aside0.mk hS;clear hB hS)|(go_at_call 203;refine (HF.out _ HB.out).mono ?_;rintro e W2 ⟨rfl,hB2⟩;have HB2:=Aside0.mk (below_then HB.out HB.out.size hB2);have HS2:=Aside0.mk (qn.later HS.out hB2);clear hB2)|(go_at_call 205;refine (qn.compact l0 w _ As ns cs HB2.out HL.out HS2.out).mono ?_;rintro e W3 ⟨Ac,cc,rfl,hB3⟩;rw [HLC.out];have HB3:=Aside0.mk hB3;clear hB3))
        go_ret
        exact ⟨rfl,HB3.out⟩
theorem sorted_pair (ts:List (List UInt8)):(SV.sortedT ts).Pairwise (fun a b=>a≤b):=by
  have:=List.pairwise_mergeSort (le:=fun x y:List UInt8=>decide (x≤y)) (fun a b c h1 h2=>by
    simp only [decide_eq_true_eq] at h1 h2 ⊢;exact List.le_trans h1 h2) (fun a b=>by
    simp only [Bool.or_eq_true,decide_eq_true_eq];exact List.le_total a b) ts
  exact this.imp (fun h=>by simpa using h)
theorem compact_dup (ts:List (List UInt8)):(Lib.compact (SV.sortedT ts)).length<ts.length↔¬ ts.Nodup:=by
  have hlen:(SV.sortedT ts).length=ts.length:=List.length_mergeSort ts
  have hperm:(SV.sortedT ts).Perm ts:=List.mergeSort_perm ts _
  have hpw:=List.pairwise_iff_getElem.1 (sorted_pair ts)
  rw [← hperm.nodup_iff]
  generalize SV.sortedT ts=z at hlen hpw
  have hget:∀ j,(h:j<z.length)→z.toArray[j]! = z[j]:=fun j h=>by simp [getElem!_pos,h]
  constructor
  · intro h hn
    rw [Lib.compact_all z (fun j hj=>?_)] at h
    · omega
    · by_cases h0:j=0
      · subst h0;exact Lib.keeps_lt_one _ 0 (by omega)
      · refine Lib.keeps_pos ?_
        rw [hget j hj,hget (j - 1) (by omega)]
        intro e
        exact List.pairwise_iff_getElem.1 hn (j - 1) j (by omega) hj (by omega) e.symm
  · intro hn
    have hle:=Lib.compact_length_le z
    refine Classical.byContradiction fun hge=>hn ?_
    have heq:(Lib.compact z).length=z.length:=by omega
    unfold Lib.compact Lib.compactUpTo at heq
    rw [List.length_map] at heq
    have hall:∀ j,j<z.length→Lib.keeps z.toArray j=true:=by
      have h1:=List.length_filter_eq_length_iff (p:=Lib.keeps z.toArray) (l:=List.range z.length)
      rw [List.length_range] at h1
      exact fun j hj=>h1.1 heq j (List.mem_range.2 hj)
    have hadj:∀ j,(h:j+1<z.length)→z[j]≠z[j+1]:=by
      intro j h e
      have:=hall (j+1) h
      rw [Lib.keeps_neg (by omega) (by rw [hget (j+1) h,show j+1 - 1=j from rfl,hget j (by omega)];exact e.symm)] at this
      cases this
    refine List.pairwise_iff_getElem.2 (fun i j hi hj hij e=>?_)
    have h1:=hpw i (i+1) (by omega) (by omega) (by omega)
    refine hadj i (by omega) (List.le_antisymm h1 ?_)
    by_cases h2:i+1=j
    · subst h2;rw [e];exact List.le_refl _
    · rw [e];exact hpw (i+1) j (by omega) hj (by omega)
def dupL:List (List UInt8)→Bool
  | []=>false
  | x ::r=>r.contains x || dupL r
theorem dupL_iff:∀ l:List (List UInt8),dupL l=true↔¬ l.Nodup
  | []=>by simp [dupL]
  | x ::r=>by
    rw [dupL,Bool.or_eq_true,dupL_iff r,List.nodup_cons]
    by_cases h:x∈r
    · simp [h]
    · simp [h]
abbrev query_names_sg:List Sg:=[.tree (.slice .str)]
abbrev query_names_rs:List Rt:=[.tree (.int .i64)]
def query_names (n:Nat) (x:SgEl query_names_sg):Option (RtEl query_names_rs×OutEl query_names_sg) :=
  bif Nat.ble x.1.length 1000000000 then
   bindN (sl_ContainsStrF n (x.1,(),())) fun p1 =>
   some ((bif p1.1.1 then 2 else bif Nat.blt 4 x.1.length then 4 else bif dupL (qn.texts x.1) then 5 else 0,()),((),()))
  else none
abbrev query_names_ent (n:Nat):Ent:=⟨148,query_names_sg,query_names_rs,query_names n⟩
theorem query_names_ok (n:Nat):EntOk Tryz.prog (query_names_ent n):=by
  intro x y hy
  obtain ⟨xs,⟨⟩⟩:=x
  obtain ⟨h0,hy⟩:=cond_some hy
  have hl:=Nat.le_of_ble_eq_true h0
  simp only at hy hl
  cases hC:sl_ContainsStrF n (xs,(),()) with
  | none=>rw [hC] at hy;simp [bindN] at hy
  | some p1 =>
  rw [hC] at hy
  simp only [bindN,Option.bind_some,Option.some.injEq] at hy
  subst hy
  obtain ⟨⟨b,⟨⟩⟩,o⟩:=p1
  refine ⟨enters Tryz.func148 (by kernel_rfl) (by kernel_rfl),?_⟩
  intro S F w vs hr hA
  have hr:Rel S F w []:=hr
  have hsz:vs.size=1:=hA.1
  obtain ⟨v0,rfl⟩:∃ v0,vs=#[v0]:=by
    obtain ⟨q⟩:=vs
    match q,hsz with
    | [a],_=>exact ⟨a,rfl⟩
  have a0:Val S F w (.lst .str xs) v0:=hA.2 0 _ v0 rfl rfl
  have hcont:∀ W,Below w.heap.size w W→Calls Tryz.prog 203 #[v0, .func (.func 204) #[] #[]] W fun e w'=>e = .returned (.bool b)∧Below W.heap.size W w':=by
    intro W hB
    obtain ⟨r1,r2⟩:=below_rel hr (belOff hB)
    obtain ⟨_,h2⟩:=sl_ContainsStrF_ok n (xs,(),()) _ hC
    have hAr:Args S F W (argsOf sl_ContainsStrF_sg (xs,(),()) 0) #[v0, .func (.func 204) #[] #[]]:=by
      refine ⟨rfl,fun i p v hp hv=>?_⟩
      match i,hp,hv with
      | 0,hp,hv=>cases hp;cases hv;exact a0.adv hr r2
      | 1,hp,hv=>cases hp;cases hv;exact .fn _ _ _ _ _ rfl rfl (fun i p v hp=>by simp at hp) (fun i p v hp=>by simp [ptrs] at hp)
      | i+2,hp,hv=>simp at hv
    refine (h2 S F W _ r1 hAr).mono ?_
    rintro e w' ⟨v,S',F',rfl,_,hv,hAd⟩
    have e1:v = .bool b:=val_bool hv
    refine ⟨by rw [e1],hAd.st.1,hAd.st.2.1,hAd.st.2.2.1,hAd.sz,fun k hk=>hAd.same k hk ?_⟩
    rintro ⟨b',z,hz,_,_⟩
    have hz:hget ([]:Heap) b' = .live z:=hz
    simp [hget] at hz
  have hres:(if b=true then some 2 else (if (xs.length:Int)>4 then some 4 else (if (Lib.compact (SV.sortedT (qn.texts xs))).length<xs.length then some 5 else some (0:Int))))=some (bif b then 2 else bif Nat.blt 4 xs.length then 4 else bif dupL (qn.texts xs) then 5 else 0):=by
    cases b with
    | true=>rfl
    | false =>
      have e1:=compact_dup (qn.texts xs)
      have e2:(qn.texts xs).length=xs.length:=by simp [qn.texts]
      have e3:=dupL_iff (qn.texts xs)
      rw [e2] at e1
      simp only [Bool.false_eq_true,if_false,cond_false]
      by_cases h4:4<xs.length
      · have:Nat.blt 4 xs.length=true:=by unfold Nat.blt;rw [Nat.ble_eq];omega
        rw [if_pos (by omega),this];rfl
      · have:Nat.blt 4 xs.length=false:=by
          cases hq:Nat.blt 4 xs.length with
          | false=>rfl
          | true=>exact absurd (Nat.le_of_ble_eq_true hq) h4
        rw [if_neg (by omega),this,cond_false]
        by_cases h5:(qn.texts xs).Nodup
        · have:dupL (qn.texts xs)=false:=by
            cases hq:dupL (qn.texts xs) with
            | false=>rfl
            | true=>exact absurd h5 (e3.1 hq)
          rw [if_neg (fun h=>e1.1 h h5),this];rfl
        · rw [if_pos (e1.2 h5),e3.2 h5];rfl
  cases a0 with
  | lst _ _ a cap vf hc ha hs hcell hv =>
    have hstr:StrsAt w a xs:=by
      by_cases hx:xs=[]
      · exact .inl hx
      · obtain ⟨ad,rfl⟩:=ha hx
        have hsp:=hs hx ad rfl
        obtain ⟨bk,o,sp⟩:=ad
        simp only at hsp
        subst hsp
        have hcs:∀ (j:Nat) (x:ByteArray),xs[j]?=some x→w.cell? ⟨bk,o+j,none⟩=some (.string x):=by
          intro j x hj
          have h1:=(hcell _ j x 0 (.str x) rfl hj rfl).2
          have h2:=val_str (hv j x 0 (.str x) hj rfl)
          rw [h2] at h1
          simpa [Ty.size] using h1
        have hbk:bk<w.heap.size:=by
          cases xs with
          | nil=>exact absurd rfl hx
          | cons x r=>exact hr.fsz _ (hcell _ 0 x 0 (.str x) rfl rfl rfl).1
        exact .inr ⟨bk,o,rfl,hcs,hbk⟩
    refine (qn.calls a cap xs b _ w hstr hc hl hcont hres).mono ?_
    rintro e w' ⟨rfl,hB⟩
    obtain ⟨r1,r2⟩:=below_rel hr (belOff hB)
    exact ⟨_,S,F,rfl,r1, .int _ _,r2⟩
end Go.Proofs.YtdcphpbimeoioaaGreatDoorE
end
section
set_option linter.unusedSectionVars false
namespace Go.Proofs.YtdcphpbimeoioaaGreatDoorE
open Go
set_option linter.unusedVariables false
set_option maxRecDepth 100000
abbrev sat_Parse_sg:List Sg:=[.tree .str]
abbrev sat_Parse_rs:List Rt:=[.tree tSum, .tree (.int .i64)]
def sat_Parse (n:Nat) (x:SgEl sat_Parse_sg):Option (RtEl sat_Parse_rs×OutEl sat_Parse_sg) :=
  bindN (s_TrimSuffix n (x.1,(⟨#[33]⟩:ByteArray),())) fun p1 =>
  bindN (sat_Read n p1.1) fun p2 =>
  bif !(ieq p2.1.2.1 (0:Int)) then
   some ((((0:Int),false,()),p2.1.2),((),()))
  else
  some (((p2.1.1, !(seq p1.1.1 x.1),()),(0:Int),()),((),()))
abbrev sat_Parse_ent (n:Nat):Ent:=⟨173,sat_Parse_sg,sat_Parse_rs,sat_Parse n⟩
theorem sat_Parse_ok (n:Nat):EntOk Tryz.prog (sat_Parse_ent n):=ent_ok' mixed (T:=[s_TrimSuffix_ent n,sat_Read_ent n]) (tabCons (s_TrimSuffix_ok n) (tabCons (sat_Read_ok n) tabNil)) tabLNil fun x=>by kernel_rfl
abbrev query_agg_sg:List Sg:=[.tree .str]
abbrev query_agg_rs:List Rt:=[.tree (.int .i64)]
def query_agg (n:Nat) (x:SgEl query_agg_sg):Option (RtEl query_agg_rs×OutEl query_agg_sg) :=
  bif seq x.1 (⟨#[99,111,117,110,116]⟩:ByteArray) then
   some (((1:Int),()),((),()))
  else
  bif seq x.1 (⟨#[115,117,109]⟩:ByteArray) then
   some (((2:Int),()),((),()))
  else
  bif seq x.1 (⟨#[109,105,110]⟩:ByteArray) then
   some (((3:Int),()),((),()))
  else
  bif seq x.1 (⟨#[109,97,120]⟩:ByteArray) then
   some (((4:Int),()),((),()))
  else
  some (((0:Int),()),((),()))
abbrev query_agg_ent (n:Nat):Ent:=⟨197,query_agg_sg,query_agg_rs,query_agg n⟩
theorem query_agg_ok (n:Nat):EntOk Tryz.prog (query_agg_ent n):=ent_ok' mixed (T:=[]) tabNil tabLNil fun x=>by kernel_rfl
abbrev query_name_sg:List Sg:=[.tree (.int .i64)]
abbrev query_name_rs:List Rt:=[.tree .str]
def query_name_l0 (n:Nat):Nat→SgEl [.tree (.int .i64), .own .str, .tree (.int .i64), .tree (.int .i64)]→Option (SgEl [] ⊕ SgEl [.tree .str])
  | 0,_=>none
  | g+1,s =>
    bif ilt s.2.2.2.1 s.2.2.1 then
     bif ile (0:Int) s.2.2.2.1 then
      bindN (lat s.2.1 (iN s.2.2.2.1)) fun v1 =>
      bindN (lat s.2.1 (iN s.2.2.2.1)) fun v2 =>
      bindN (query_agg n (v2,())) fun p3 =>
      bif ieq p3.1.1 s.1 then
       some (Sum.inr (v2,()))
      else
      bindL (query_name_l0 n g (s.1,s.2.1,s.2.2.1,iadd .i64 s.2.2.2.1 (1:Int),())) (fun a4 =>
       some (Sum.inl ())) fun b5 =>
      some (Sum.inr b5)
     else none
    else
    some (Sum.inl ())
theorem query_name_l0_ok (n:Nat):∀ g,LEntOk Tryz.prog 146 (nSl query_name_sg) ⟨0,[.tree (.int .i64), .own .str, .tree (.int .i64), .tree (.int .i64)],0,[],[.tree .str],query_name_l0 n g⟩ g
  | 0=>loop_zero' fun _=>rfl
  | g+1=>loop_step' mixed (T:=[query_agg_ent n]) (tabCons (query_agg_ok n) tabNil) tabLNil (query_name_l0_ok n g) fun s=>by kernel_rfl
def query_name (n:Nat) (x:SgEl query_name_sg):Option (RtEl query_name_rs×OutEl query_name_sg) :=
  bindL (query_name_l0 n n (x.1,[(⟨#[99,111,117,110,116]⟩:ByteArray),(⟨#[115,117,109]⟩:ByteArray),(⟨#[109,105,110]⟩:ByteArray),(⟨#[109,97,120]⟩:ByteArray)],ilen [(⟨#[99,111,117,110,116]⟩:ByteArray),(⟨#[115,117,109]⟩:ByteArray),(⟨#[109,105,110]⟩:ByteArray),(⟨#[109,97,120]⟩:ByteArray)],(0:Int),())) (fun a1 =>
   some (((⟨#[]⟩:ByteArray),()),((),()))) fun b2 =>
  some (b2,((),()))
abbrev query_name_ent (n:Nat):Ent:=⟨146,query_name_sg,query_name_rs,query_name n⟩
theorem query_name_ok (n:Nat):EntOk Tryz.prog (query_name_ent n):=ent_ok' mixed (T:=[query_agg_ent n]) (tabCons (query_agg_ok n) tabNil) (tabLCons (query_name_l0_ok n n) tabLNil) fun x=>by kernel_rfl
abbrev query_Right_sg:List Sg:=[.tree tQuery]
abbrev query_Right_rs:List Rt:=[.tree .bool]
def query_Right (n:Nat) (x:SgEl query_Right_sg):Option (RtEl query_Right_rs×OutEl query_Right_sg) :=
  bindN (query_name n (x.1.1,())) fun p1 =>
  bif !(seq p1.1.1 (⟨#[]⟩:ByteArray)) then
   bindN (word_Name n (x.1.2.1,())) fun p2 =>
   bif p2.1.1 then
    bindN (pick_Right n (x.1.2.2.1,())) fun p3 =>
    bif p3.1.1 then
     bindN (query_names n x.1.2.2.2) fun p4 =>
     some ((ieq p4.1.1 (0:Int),()),((),()))
    else
    some ((false,()),((),()))
   else
   some ((false,()),((),()))
  else
  some ((false,()),((),()))
abbrev query_Right_ent (n:Nat):Ent:=⟨78,query_Right_sg,query_Right_rs,query_Right n⟩
theorem query_Right_ok (n:Nat):EntOk Tryz.prog (query_Right_ent n):=ent_ok' mixed (T:=[query_name_ent n,word_Name_ent n,pick_Right_ent n,query_names_ent n]) (tabCons (query_name_ok n) (tabCons (word_Name_ok n) (tabCons (pick_Right_ok n) (tabCons (query_names_ok n) tabNil)))) tabLNil fun x=>by kernel_rfl
abbrev query_Fits_sg:List Sg:=[.tree tQuery, .tree tKey]
abbrev query_Fits_rs:List Rt:=[.tree .bool]
def query_Fits (n:Nat) (x:SgEl query_Fits_sg):Option (RtEl query_Fits_rs×OutEl query_Fits_sg) :=
  bif seq x.2.1.1 x.1.2.1 then
   bindN (pick_Fits n (x.2.1.2.1,x.1.2.2.1,())) fun p1 =>
   some (p1.1,((),(),()))
  else
  some ((false,()),((),(),()))
abbrev query_Fits_ent (n:Nat):Ent:=⟨121,query_Fits_sg,query_Fits_rs,query_Fits n⟩
theorem query_Fits_ok (n:Nat):EntOk Tryz.prog (query_Fits_ent n):=ent_ok' mixed (T:=[pick_Fits_ent n]) (tabCons (pick_Fits_ok n) tabNil) tabLNil fun x=>by kernel_rfl
abbrev query_Group_sg:List Sg:=[.tree tQuery, .tree tKey]
abbrev query_Group_rs:List Rt:=[.tree .str]
def query_Group (n:Nat) (x:SgEl query_Group_sg):Option (RtEl query_Group_rs×OutEl query_Group_sg) :=
  bindN (tag_Only n (x.2.1.2.1,x.1.2.2.2)) fun p1 =>
  bindN (tag_Text n p1.1) fun p2 =>
  some (p2.1,((),(),()))
abbrev query_Group_ent (n:Nat):Ent:=⟨122,query_Group_sg,query_Group_rs,query_Group n⟩
theorem query_Group_ok (n:Nat):EntOk Tryz.prog (query_Group_ent n):=ent_ok' mixed (T:=[tag_Only_ent n,tag_Text_ent n]) (tabCons (tag_Only_ok n) (tabCons (tag_Text_ok n) tabNil)) tabLNil fun x=>by kernel_rfl
abbrev row_Before_sg:List Sg:=[.tree tRow, .tree tRow]
abbrev row_Before_rs:List Rt:=[.tree .bool]
def row_Before (n:Nat) (x:SgEl row_Before_sg):Option (RtEl row_Before_rs×OutEl row_Before_sg) :=
  bindN (row_of n (x.1,())) fun p1 =>
  bindN (row_of n x.2) fun p2 =>
  bindN (row_order n (p1.1.1,p2.1)) fun p3 =>
  some ((ilt p3.1.1 (0:Int),()),((),(),()))
abbrev row_Before_ent (n:Nat):Ent:=⟨50,row_Before_sg,row_Before_rs,row_Before n⟩
theorem row_Before_ok (n:Nat):EntOk Tryz.prog (row_Before_ent n):=ent_ok' mixed (T:=[row_of_ent n,row_order_ent n]) (tabCons (row_of_ok n) (tabCons (row_order_ok n) tabNil)) tabLNil fun x=>by kernel_rfl
abbrev row_rise_sg:List Sg:=[.tree (.slice tRow)]
abbrev row_rise_rs:List Rt:=[.tree .bool]
def row_rise_l0 (n:Nat):Nat→SgEl [.tree (.slice tRow), .tree (.int .i64)]→Option (SgEl [] ⊕ SgEl [.tree .bool])
  | 0,_=>none
  | g+1,s =>
    bif ilt s.2.1 (ilen s.1) then
     bif ile (0:Int) (isub .i64 s.2.1 (1:Int)) then
      bindN (lat s.1 (iN (isub .i64 s.2.1 (1:Int)))) fun v1 =>
      bif ile (0:Int) s.2.1 then
       bindN (lat s.1 (iN s.2.1)) fun v2 =>
       bindN (row_Before n (v1,v2,())) fun p3 =>
       bif !p3.1.1 then
        some (Sum.inr (false,()))
       else
       bindL (row_rise_l0 n g (s.1,iadd .i64 s.2.1 (1:Int),())) (fun a4 =>
        some (Sum.inl ())) fun b5 =>
       some (Sum.inr b5)
      else none
     else none
    else
    some (Sum.inl ())
theorem row_rise_l0_ok (n:Nat):∀ g,LEntOk Tryz.prog 101 (nSl row_rise_sg) ⟨0,[.tree (.slice tRow), .tree (.int .i64)],0,[],[.tree .bool],row_rise_l0 n g⟩ g
  | 0=>loop_zero' fun _=>rfl
  | g+1=>loop_step' mixed (T:=[row_Before_ent n]) (tabCons (row_Before_ok n) tabNil) tabLNil (row_rise_l0_ok n g) fun s=>by kernel_rfl
def row_rise (n:Nat) (x:SgEl row_rise_sg):Option (RtEl row_rise_rs×OutEl row_rise_sg) :=
  bindL (row_rise_l0 n n (x.1,(1:Int),())) (fun a1 =>
   some ((true,()),((),()))) fun b2 =>
  some (b2,((),()))
abbrev row_rise_ent (n:Nat):Ent:=⟨101,row_rise_sg,row_rise_rs,row_rise n⟩
theorem row_rise_ok (n:Nat):EntOk Tryz.prog (row_rise_ent n):=ent_ok' mixed (T:=[row_Before_ent n]) (tabCons (row_Before_ok n) tabNil) (tabLCons (row_rise_l0_ok n n) tabLNil) fun x=>by kernel_rfl
abbrev row_group_sg:List Sg:=[.tree .str]
abbrev row_group_rs:List Rt:=[.tree (.int .i64)]
def row_group (n:Nat) (x:SgEl row_group_sg):Option (RtEl row_group_rs×OutEl row_group_sg) :=
  bindN (tag_Parse n x) fun p1 =>
  bif ieq p1.1.2.1 (0:Int) then
   bindN (tag_Text n (p1.1.1,())) fun p2 =>
   bif !(seq p2.1.1 x.1) then
    some (((2:Int),()),((),()))
   else
   some (p1.1.2,((),()))
  else
  some (p1.1.2,((),()))
abbrev row_group_ent (n:Nat):Ent:=⟨104,row_group_sg,row_group_rs,row_group n⟩
theorem row_group_ok (n:Nat):EntOk Tryz.prog (row_group_ent n):=ent_ok' mixed (T:=[tag_Parse_ent n,tag_Text_ent n]) (tabCons (tag_Parse_ok n) (tabCons (tag_Text_ok n) tabNil)) tabLNil fun x=>by kernel_rfl
abbrev row_Right1_sg:List Sg:=[.tree tRow]
abbrev row_Right1_rs:List Rt:=[.tree .bool]
def row_Right1 (n:Nat) (x:SgEl row_Right1_sg):Option (RtEl row_Right1_rs×OutEl row_Right1_sg) :=
  bindN (row_group n (x.1.2.1,())) fun p1 =>
  some ((!(ieq p1.1.1 (0:Int)),()),((),()))
abbrev row_Right1_ent (n:Nat):Ent:=⟨103,row_Right1_sg,row_Right1_rs,row_Right1 n⟩
theorem row_Right1_ok (n:Nat):EntOk Tryz.prog (row_Right1_ent n):=ent_ok' mixed (T:=[row_group_ent n]) (tabCons (row_group_ok n) tabNil) tabLNil fun x=>by kernel_rfl
abbrev sl_IndexRow_sg:List Sg:=[.tree (.slice tRow), .fnv 103 []]
abbrev sl_IndexRow_rs:List Rt:=[.tree (.int .i64)]
def sl_IndexRow_l0 (n:Nat):Nat→SgEl [.tree (.slice tRow), .fnv 103 [], .tree (.int .i64), .tree (.int .i64)]→Option (SgEl [] ⊕ SgEl [.tree (.int .i64)])
  | 0,_=>none
  | g+1,s =>
    bif ilt s.2.2.2.1 s.2.2.1 then
     bif ile (0:Int) s.2.2.2.1 then
      bindN (lat s.1 (iN s.2.2.2.1)) fun v1 =>
      bindN (row_Right1 n (v1,())) fun p2 =>
      bif p2.1.1 then
       some (Sum.inr s.2.2.2)
      else
      bindL (sl_IndexRow_l0 n g (s.1,(),s.2.2.1,iadd .i64 s.2.2.2.1 (1:Int),())) (fun a3 =>
       some (Sum.inl ())) fun b4 =>
      some (Sum.inr b4)
     else none
    else
    some (Sum.inl ())
theorem sl_IndexRow_l0_ok (n:Nat):∀ g,LEntOk Tryz.prog 168 (nSl sl_IndexRow_sg) ⟨0,[.tree (.slice tRow), .fnv 103 [], .tree (.int .i64), .tree (.int .i64)],0,[],[.tree (.int .i64)],sl_IndexRow_l0 n g⟩ g
  | 0=>loop_zero' fun _=>rfl
  | g+1=>loop_step' mixed (T:=[row_Right1_ent n]) (tabCons (row_Right1_ok n) tabNil) tabLNil (sl_IndexRow_l0_ok n g) fun s=>by kernel_rfl
def sl_IndexRow (n:Nat) (x:SgEl sl_IndexRow_sg):Option (RtEl sl_IndexRow_rs×OutEl sl_IndexRow_sg) :=
  bindL (sl_IndexRow_l0 n n (x.1,(),ilen x.1,(0:Int),())) (fun a1 =>
   some (((-1:Int),()),((),(),()))) fun b2 =>
  some (b2,((),(),()))
abbrev sl_IndexRow_ent (n:Nat):Ent:=⟨168,sl_IndexRow_sg,sl_IndexRow_rs,sl_IndexRow n⟩
theorem sl_IndexRow_ok (n:Nat):EntOk Tryz.prog (sl_IndexRow_ent n):=ent_ok' mixed (T:=[row_Right1_ent n]) (tabCons (row_Right1_ok n) tabNil) (tabLCons (sl_IndexRow_l0_ok n n) tabLNil) fun x=>by kernel_rfl
abbrev sl_ContainsRow_sg:List Sg:=[.tree (.slice tRow), .fnv 103 []]
abbrev sl_ContainsRow_rs:List Rt:=[.tree .bool]
def sl_ContainsRow (n:Nat) (x:SgEl sl_ContainsRow_sg):Option (RtEl sl_ContainsRow_rs×OutEl sl_ContainsRow_sg) :=
  bindN (sl_IndexRow n (x.1,(),())) fun p1 =>
  some ((ile (0:Int) p1.1.1,()),((),(),()))
abbrev sl_ContainsRow_ent (n:Nat):Ent:=⟨102,sl_ContainsRow_sg,sl_ContainsRow_rs,sl_ContainsRow n⟩
theorem sl_ContainsRow_ok (n:Nat):EntOk Tryz.prog (sl_ContainsRow_ent n):=ent_ok' mixed (T:=[sl_IndexRow_ent n,row_Right1_ent n]) (tabCons (sl_IndexRow_ok n) (tabCons (row_Right1_ok n) tabNil)) tabLNil fun x=>by kernel_rfl
abbrev row_Right_sg:List Sg:=[.tree (.slice tRow)]
abbrev row_Right_rs:List Rt:=[.tree .bool]
def row_Right (n:Nat) (x:SgEl row_Right_sg):Option (RtEl row_Right_rs×OutEl row_Right_sg) :=
  bindN (row_rise n x) fun p1 =>
  bif p1.1.1 then
   bindN (sl_ContainsRow n (x.1,(),())) fun p2 =>
   some ((!p2.1.1,()),((),()))
  else
  some ((false,()),((),()))
abbrev row_Right_ent (n:Nat):Ent:=⟨52,row_Right_sg,row_Right_rs,row_Right n⟩
theorem row_Right_ok (n:Nat):EntOk Tryz.prog (row_Right_ent n):=ent_ok' mixed (T:=[row_rise_ent n,sl_ContainsRow_ent n]) (tabCons (row_rise_ok n) (tabCons (sl_ContainsRow_ok n) tabNil)) tabLNil fun x=>by kernel_rfl
abbrev row_Text_sg:List Sg:=[.tree (.slice tRow)]
abbrev row_Text_rs:List Rt:=[.tree .str]
def row_Text_l0 (n:Nat):Nat→SgEl [.own .str, .tree (.slice tRow), .tree (.int .i64), .tree (.int .i64)]→Option (SgEl [.own .str] ⊕ SgEl [])
  | 0,_=>none
  | g+1,s =>
    bif ilt s.2.2.2.1 s.2.2.1 then
     bif ile (0:Int) s.2.2.2.1 then
      bindN (lat s.2.1 (iN s.2.2.2.1)) fun v1 =>
      bindN (sat_Number n (v1.1,())) fun p2 =>
      bindN (sat_Text n v1.2.2) fun p3 =>
      bindN (word_Join n ((⟨#[124]⟩:ByteArray),[p2.1.1,v1.2.1,p3.1.1],())) fun p4 =>
      bif roomA s.1 [p4.1.1] 16 then
       bindL (row_Text_l0 n g (app s.1 [p4.1.1],s.2.1,s.2.2.1,iadd .i64 s.2.2.2.1 (1:Int),())) (fun a5 =>
        some (Sum.inl a5)) fun b6 =>
       some (Sum.inr ())
      else none
     else none
    else
    some (Sum.inl (s.1,()))
theorem row_Text_l0_ok (n:Nat):∀ g,LEntOk Tryz.prog 54 (nSl row_Text_sg) ⟨0,[.own .str, .tree (.slice tRow), .tree (.int .i64), .tree (.int .i64)],0,[.own .str],[],row_Text_l0 n g⟩ g
  | 0=>loop_zero' fun _=>rfl
  | g+1=>loop_step' mixed (T:=[sat_Number_ent n,sat_Text_ent n,word_Join_ent n]) (tabCons (sat_Number_ok n) (tabCons (sat_Text_ok n) (tabCons (word_Join_ok n) tabNil))) tabLNil (row_Text_l0_ok n g) fun s=>by kernel_rfl
def row_Text (n:Nat) (x:SgEl row_Text_sg):Option (RtEl row_Text_rs×OutEl row_Text_sg) :=
  bif ieq (ilen x.1) (0:Int) then
   some (((⟨#[45]⟩:ByteArray),()),((),()))
  else
  bindL (row_Text_l0 n n ([],x.1,ilen x.1,(0:Int),())) (fun a1 =>
   bindN (word_Join n ((⟨#[59]⟩:ByteArray),a1)) fun p3 =>
   some (p3.1,((),()))) fun b2 =>
  none
abbrev row_Text_ent (n:Nat):Ent:=⟨54,row_Text_sg,row_Text_rs,row_Text n⟩
theorem row_Text_ok (n:Nat):EntOk Tryz.prog (row_Text_ent n):=ent_ok' mixed (T:=[sat_Number_ent n,sat_Text_ent n,word_Join_ent n]) (tabCons (sat_Number_ok n) (tabCons (sat_Text_ok n) (tabCons (word_Join_ok n) tabNil))) (tabLCons (row_Text_l0_ok n n) tabLNil) fun x=>by kernel_rfl
abbrev row_one_sg:List Sg:=[.tree .str]
abbrev row_one_rs:List Rt:=[.tree tRow, .tree (.int .i64)]
def row_one (n:Nat) (x:SgEl row_one_sg):Option (RtEl row_one_rs×OutEl row_one_sg) :=
  bindN (word_Split n (x.1,(124:Int),())) fun p1 =>
  bif !(ieq (ilen p1.1.1) (3:Int)) then
   some ((((0:Int),(⟨#[]⟩:ByteArray),((0:Int),false,()),()),(2:Int),()),((),()))
  else
  bif ile (0:Int) (0:Int) then
   bindN (lat p1.1.1 (iN (0:Int))) fun v2 =>
   bindN (sat_Read n (v2,())) fun p3 =>
   bif !(ieq p3.1.2.1 (0:Int)) then
    some (((p3.1.1,(⟨#[]⟩:ByteArray),((0:Int),false,()),()),p3.1.2),((),()))
   else
   bif ile (0:Int) (1:Int) then
    bindN (lat p1.1.1 (iN (1:Int))) fun v4 =>
    bindN (row_group n (v4,())) fun p5 =>
    bif !(ieq p5.1.1 (0:Int)) then
     some (((p3.1.1,(⟨#[]⟩:ByteArray),((0:Int),false,()),()),p5.1),((),()))
    else
    bif ile (0:Int) (1:Int) then
     bindN (lat p1.1.1 (iN (1:Int))) fun v6 =>
     bif ile (0:Int) (2:Int) then
      bindN (lat p1.1.1 (iN (2:Int))) fun v7 =>
      bindN (sat_Parse n (v7,())) fun p8 =>
      some (((p3.1.1,v6,p8.1.1,()),p8.1.2),((),()))
     else none
    else none
   else none
  else none
abbrev row_one_ent (n:Nat):Ent:=⟨112,row_one_sg,row_one_rs,row_one n⟩
theorem row_one_ok (n:Nat):EntOk Tryz.prog (row_one_ent n):=ent_ok' mixed (T:=[word_Split_ent n,sat_Read_ent n,row_group_ent n,sat_Parse_ent n]) (tabCons (word_Split_ok n) (tabCons (sat_Read_ok n) (tabCons (row_group_ok n) (tabCons (sat_Parse_ok n) tabNil)))) tabLNil fun x=>by kernel_rfl
abbrev row_Parse_sg:List Sg:=[.tree .str]
abbrev row_Parse_rs:List Rt:=[.tree (.slice tRow), .tree (.int .i64)]
def row_Parse_l0 (n:Nat):Nat→SgEl [.own tRow, .tree (.slice .str), .tree (.int .i64), .tree (.int .i64)]→Option (SgEl [.own tRow] ⊕ SgEl [.tree (.slice tRow), .tree (.int .i64)])
  | 0,_=>none
  | g+1,s =>
    bif ilt s.2.2.2.1 s.2.2.1 then
     bif ile (0:Int) s.2.2.2.1 then
      bindN (lat s.2.1 (iN s.2.2.2.1)) fun v1 =>
      bindN (row_one n (v1,())) fun p2 =>
      bif !(ieq p2.1.2.1 (0:Int)) then
       some (Sum.inr ([],p2.1.2))
      else
      bif roomA s.1 [p2.1.1] 40 then
       bindL (row_Parse_l0 n g (app s.1 [p2.1.1],s.2.1,s.2.2.1,iadd .i64 s.2.2.2.1 (1:Int),())) (fun a3 =>
        some (Sum.inl a3)) fun b4 =>
       some (Sum.inr b4)
      else none
     else none
    else
    some (Sum.inl (s.1,()))
theorem row_Parse_l0_ok (n:Nat):∀ g,LEntOk Tryz.prog 57 (nSl row_Parse_sg) ⟨0,[.own tRow, .tree (.slice .str), .tree (.int .i64), .tree (.int .i64)],0,[.own tRow],[.tree (.slice tRow), .tree (.int .i64)],row_Parse_l0 n g⟩ g
  | 0=>loop_zero' fun _=>rfl
  | g+1=>loop_step' mixed (T:=[word_Split_ent n,row_one_ent n,row_rise_ent n]) (tabCons (word_Split_ok n) (tabCons (row_one_ok n) (tabCons (row_rise_ok n) tabNil))) tabLNil (row_Parse_l0_ok n g) fun s=>by kernel_rfl
def row_Parse (n:Nat) (x:SgEl row_Parse_sg):Option (RtEl row_Parse_rs×OutEl row_Parse_sg) :=
  bif seq x.1 (⟨#[45]⟩:ByteArray) then
   some (([],(0:Int),()),((),()))
  else
  bindN (word_Split n (x.1,(59:Int),())) fun p1 =>
  bindL (row_Parse_l0 n n ([],p1.1.1,ilen p1.1.1,(0:Int),())) (fun a2 =>
   bindN (row_rise n a2) fun p4 =>
   bif !p4.1.1 then
    some (([],(9:Int),()),((),()))
   else
   some ((a2.1,(0:Int),()),((),()))) fun b3 =>
  some (b3,((),()))
abbrev row_Parse_ent (n:Nat):Ent:=⟨57,row_Parse_sg,row_Parse_rs,row_Parse n⟩
theorem row_Parse_ok (n:Nat):EntOk Tryz.prog (row_Parse_ent n):=ent_ok' mixed (T:=[word_Split_ent n,row_one_ent n,row_rise_ent n]) (tabCons (word_Split_ok n) (tabCons (row_one_ok n) (tabCons (row_rise_ok n) tabNil))) (tabLCons (row_Parse_l0_ok n n) tabLNil) fun x=>by kernel_rfl
abbrev sl_EqRow_sg:List Sg:=[.tree (.slice tRow), .tree (.slice tRow)]
abbrev sl_EqRow_rs:List Rt:=[.tree .bool]
def sl_EqRow_l0 (n:Nat):Nat→SgEl [.tree (.slice tRow), .tree (.slice tRow), .tree (.int .i64), .tree (.int .i64)]→Option (SgEl [] ⊕ SgEl [.tree .bool])
  | 0,_=>none
  | g+1,s =>
    bif ilt s.2.2.2.1 s.2.2.1 then
     bif ile (0:Int) s.2.2.2.1 then
      bindN (lat s.1 (iN s.2.2.2.1)) fun v1 =>
      bif ile (0:Int) s.2.2.2.1 then
       bindN (lat s.2.1 (iN s.2.2.2.1)) fun v2 =>
       bif !(ieq v1.1 v2.1 && (seq v1.2.1 v2.2.1 && (ieq v1.2.2.1.1 v2.2.2.1.1 && (beqB v1.2.2.1.2.1 v2.2.2.1.2.1 && true)))) then
        some (Sum.inr (false,()))
       else
       bindL (sl_EqRow_l0 n g (s.1,s.2.1,s.2.2.1,iadd .i64 s.2.2.2.1 (1:Int),())) (fun a3 =>
        some (Sum.inl ())) fun b4 =>
       some (Sum.inr b4)
      else none
     else none
    else
    some (Sum.inl ())
theorem sl_EqRow_l0_ok (n:Nat):∀ g,LEntOk Tryz.prog 110 (nSl sl_EqRow_sg) ⟨0,[.tree (.slice tRow), .tree (.slice tRow), .tree (.int .i64), .tree (.int .i64)],0,[],[.tree .bool],sl_EqRow_l0 n g⟩ g
  | 0=>loop_zero' fun _=>rfl
  | g+1=>loop_step' mixed (T:=[]) tabNil tabLNil (sl_EqRow_l0_ok n g) fun s=>by kernel_rfl
def sl_EqRow (n:Nat) (x:SgEl sl_EqRow_sg):Option (RtEl sl_EqRow_rs×OutEl sl_EqRow_sg) :=
  bif !(ieq (ilen x.1) (ilen x.2.1)) then
   some ((false,()),((),(),()))
  else
  bindL (sl_EqRow_l0 n n (x.1,x.2.1,ilen x.1,(0:Int),())) (fun a1 =>
   some ((true,()),((),(),()))) fun b2 =>
  some (b2,((),(),()))
abbrev sl_EqRow_ent (n:Nat):Ent:=⟨110,sl_EqRow_sg,sl_EqRow_rs,sl_EqRow n⟩
theorem sl_EqRow_ok (n:Nat):EntOk Tryz.prog (sl_EqRow_ent n):=ent_ok' mixed (T:=[]) tabNil (tabLCons (sl_EqRow_l0_ok n n) tabLNil) fun x=>by kernel_rfl
abbrev row_Same_sg:List Sg:=[.tree (.slice tRow), .tree (.slice tRow)]
abbrev row_Same_rs:List Rt:=[.tree .bool]
def row_Same (n:Nat) (x:SgEl row_Same_sg):Option (RtEl row_Same_rs×OutEl row_Same_sg) :=
  bindN (sl_EqRow n x) fun p1 =>
  some (p1.1,((),(),()))
abbrev row_Same_ent (n:Nat):Ent:=⟨56,row_Same_sg,row_Same_rs,row_Same n⟩
theorem row_Same_ok (n:Nat):EntOk Tryz.prog (row_Same_ent n):=ent_ok' mixed (T:=[sl_EqRow_ent n]) (tabCons (sl_EqRow_ok n) tabNil) tabLNil fun x=>by kernel_rfl
end Go.Proofs.YtdcphpbimeoioaaGreatDoorE
end
section
set_option linter.unusedSectionVars false
namespace Go.Proofs.YtdcphpbimeoioaaGreatDoorE
open Go Go.Proofs
set_option linter.unusedVariables false
set_option linter.unusedSimpArgs false
theorem sat_bl (s:ByteArray) (i:Nat) (h:i<(bl s).length):sat s (i:Int)=(((bl s)[i]).toNat:Int):=by
 have h':i<s.size:=by rwa [size_bl] at h
 unfold sat
 rw [Int.toNat_natCast]
 show ((s.data[i]!).toNat:Int)=_
 rw [getElem!_pos s.data i h']
 rfl
theorem head_get (l:List UInt8) (h:0<l.length):l[0]=l.headD 0:=by
 cases l with
 | nil=>simp at h
 | cons a t=>rfl
theorem sat_0 (s:ByteArray) (h:1≤(bl s).length):sat s 0=(((bl s).headD 0).toNat:Int):=by
 have:=sat_bl s 0 (by omega)
 rw [show ((0:Nat):Int)=0 from rfl] at this
 rw [this,head_get _ (by omega)]
@[simp] theorem scat_eq (a b:ByteArray):scat a b=a++b:=by unfold scat;rfl
@[simp] theorem sext_eq (a:ByteArray) (lo hi:Int):sext a lo hi=a.extract lo.toNat hi.toNat:=by unfold sext;rfl
theorem sfits_of {a b:ByteArray} (h:a.size+b.size≤9000000000000000000):sfits a b=true:=by unfold sfits;rw [Nat.ble_eq];omega
theorem bl_nil (s:ByteArray):s=(⟨#[]⟩:ByteArray)↔bl s=[]:=⟨fun h=>by rw [h];rfl,fun h=>bl_inj h⟩
def smallI (k:Int):Bool:=decide (97≤k) && decide (k≤122)
def digitI (k:Int):Bool:=decide (48≤k) && decide (k≤57)
theorem smallI_b (b:UInt8):smallI (b.toNat:Int)=smallB b:=by
 unfold smallI smallB;rw [Bool.eq_iff_iff];simp only [Bool.and_eq_true,decide_eq_true_eq];omega
theorem digitI_b (b:UInt8):digitI (b.toNat:Int)=digitB b:=by
 unfold digitI digitB;rw [Bool.eq_iff_iff];simp only [Bool.and_eq_true,decide_eq_true_eq];omega
theorem small_v (n:Nat) (x:SgEl r02_small_sg):r02_small n x=some ((smallI x.1,()),((),())):=by
 unfold r02_small smallI
 by_cases h:(97:Int)≤x.1<;>simp [h]
theorem digit_v (n:Nat) (x:SgEl r02_digit_sg):r02_digit n x=some ((digitI x.1,()),((),())):=by
 unfold r02_digit digitI
 by_cases h:(48:Int)≤x.1<;>simp [h]
theorem all_any {α:Type} (l:List α) (p:α→Bool):l.any (fun b => !p b) = !l.all p:=by
 induction l with
 | nil=>rfl
 | cons a t ih=>simp only [List.any_cons,List.all_cons,ih];cases p a<;>simp
theorem r02_Name_v0 {n:Nat} (hn:Big n) (s:ByteArray):r02_Name n (s,())=some ((nameL (bl s),()),((),())):=by
 have hz:=size_bl s
 unfold r02_Name nameL
 by_cases h1:s.size<1
 ·have h1':(s.size:Int)<1:=by omega
  have h2:¬ 1≤(bl s).length:=by omega
  simp [h1',h2]
 have h1':¬ (s.size:Int)<1:=by omega
 have g1:1≤(bl s).length:=by omega
 by_cases h2:12<s.size
 ·have h2':(12:Int)<s.size:=by omega
  have g2:¬ (bl s).length≤12:=by omega
  simp [h1',h2',g2]
 have h2':¬ (12:Int)<s.size:=by omega
 have g2:(bl s).length≤12:=by omega
 have h3:(0:Int)<s.size:=by omega
 have hL:=any_loop (a:=bl s) (fun b => !inNameB b) false (L:=fun g i=>r02_Name_l0 n g (s,i,())) (fun g=>by
   have:¬ ((bl s).length:Int)<s.size:=by omega
   simp only [r02_Name_l0,ilt_eq,ssize_eq,this,decide_false,cond_false]) (fun g i hi=>by
  have k1:(i:Int)<s.size:=by omega
  have k2:(0:Int)≤i:=by omega
  simp only [r02_Name_l0,ilt_eq,ile_eq,ieq_eq,ssize_eq,k1,k2,decide_true,cond_true,sat_bl s i hi,small_v,digit_v,smallI_b,digitI_b,bindN_s,iadd1 (i:=i) (by omega),bindL_id,inNameB]
  by_cases q:(bl s)[i].toNat=95
  ·have q':((bl s)[i].toNat:Int)=95:=by omega
   cases smallB (bl s)[i]<;>cases digitB (bl s)[i]<;>simp [q,q']
  ·have q':¬ ((bl s)[i].toNat:Int)=95:=by omega
   cases smallB (bl s)[i]<;>cases digitB (bl s)[i]<;>simp [q,q']) (g:=n) (by unfold Big at hn;omega)
 simp only [ilt_eq,ile_eq,ssize_eq,h1',h2',h3,decide_false,decide_true,cond_false,cond_true,Int.le_refl,sat_0 s g1,small_v,smallI_b,bindN_s,hL,g1,g2,Bool.true_and,all_any]
 cases smallB ((bl s).headD 0)<;>cases (bl s).all inNameB<;>simp
theorem r02_Name_v {n:Nat} (hn:Big n) (x:SgEl r02_Name_sg):r02_Name n x=some ((nameL (bl x.1),()),((),())):=r02_Name_v0 hn x.1
theorem r02_Value_v0 {n:Nat} (hn:Big n) (s:ByteArray):r02_Value n (s,())=some ((valueL (bl s),()),((),())):=by
 have hz:=size_bl s
 unfold r02_Value valueL
 by_cases h1:s.size<1
 ·have h1':(s.size:Int)<1:=by omega
  have h2:¬ 1≤(bl s).length:=by omega
  simp [h1',h2]
 have h1':¬ (s.size:Int)<1:=by omega
 have g1:1≤(bl s).length:=by omega
 by_cases h2:12<s.size
 ·have h2':(12:Int)<s.size:=by omega
  have g2:¬ (bl s).length≤12:=by omega
  simp [h1',h2',g2]
 have h2':¬ (12:Int)<s.size:=by omega
 have g2:(bl s).length≤12:=by omega
 have hL:=any_loop (a:=bl s) (fun b => !inValB b) false (L:=fun g i=>r02_Value_l0 n g (s,i,())) (fun g=>by
   have:¬ ((bl s).length:Int)<s.size:=by omega
   simp only [r02_Value_l0,ilt_eq,ssize_eq,this,decide_false,cond_false]) (fun g i hi=>by
  have k1:(i:Int)<s.size:=by omega
  have k2:(0:Int)≤i:=by omega
  simp only [r02_Value_l0,ilt_eq,ile_eq,ieq_eq,ssize_eq,k1,k2,decide_true,cond_true,sat_bl s i hi,small_v,digit_v,smallI_b,digitI_b,bindN_s,iadd1 (i:=i) (by omega),bindL_id,inValB]
  have q1:decide (((bl s)[i].toNat:Int)=95)=decide ((bl s)[i].toNat=95):=by rw [decide_eq_decide];omega
  have q2:decide (((bl s)[i].toNat:Int)=45)=decide ((bl s)[i].toNat=45):=by rw [decide_eq_decide];omega
  have q3:decide (((bl s)[i].toNat:Int)=46)=decide ((bl s)[i].toNat=46):=by rw [decide_eq_decide];omega
  rw [q1,q2,q3]
  cases smallB (bl s)[i]<;>cases digitB (bl s)[i]<;>cases decide ((bl s)[i].toNat=95)<;>cases decide ((bl s)[i].toNat=45)<;>cases decide ((bl s)[i].toNat=46)<;>rfl) (g:=n) (by unfold Big at hn;omega)
 simp only [ilt_eq,ssize_eq,h1',h2',decide_false,cond_false,hL,g1,g2,decide_true,Bool.true_and,all_any]
 cases (bl s).all inValB<;>simp
theorem r02_Value_v {n:Nat} (hn:Big n) (x:SgEl r02_Value_sg):r02_Value n x=some ((valueL (bl x.1),()),((),())):=r02_Value_v0 hn x.1
theorem made_v (n:Nat) (s cs:ByteArray) (h1:cs.size<4294967281) (h2:(cs.data.toList.all fun b=>decide (b.toNat<128))=true) :
  word_made n (s,cs,())=some ((decide (1≤(bl s).length) && decide ((bl s).length≤12) && (bl s).all (fun b=>cs.data.toList.contains b),()),((),(),())):=by
 have hz:=size_bl s
 unfold word_made
 by_cases h:bl s=[]
 ·simp [bl_nil,h]
 ·have hl:1≤(bl s).length:=by cases hh:bl s with
   | nil=>exact absurd hh h
   | cons a t=>simp
  by_cases hz':s.size≤12
  ·have e1:(s.size:Int)≤12:=by omega
   have e2:(bl s).length≤12:=by omega
   have e3:Nat.ble s.size 9223372036854775807=true:=by rw [Nat.ble_eq];omega
   have e4:Nat.blt cs.size 4294967281=true:=by unfold Nat.blt;rw [Nat.ble_eq];omega
   have e5:=trim_nil (bl s) cs.data.toList
   simp only [seq_eq,bl_nil,h,decide_false,Bool.not_false,cond_true,ile_eq,ssize_eq,e1,decide_true,s_Trim,e3,e4,h2,Bool.and_self,bindN_s,hl,e2,Bool.true_and]
   congr 3
   rw [Bool.eq_iff_iff,decide_eq_true_eq]
   exact e5
  ·have e1:¬ (s.size:Int)≤12:=by omega
   have e2:¬ (bl s).length≤12:=by omega
   simp [bl_nil,h,e1,e2]
theorem word_Name_v0 (n:Nat) (s:ByteArray):word_Name n (s,())=some ((nameL (bl s),()),((),())):=by
 have hz:=size_bl s
 unfold word_Name
 rw [made_v n _ _ (by decide) (by decide+kernel)]
 simp only [bindN_s]
 have e:(bl s).all (fun b=>(⟨#[97,98,99,100,101,102,103,104,105,106,107,108,109,110,111,112,113,114,115,116,117,118,119,120,121,122,48,49,50,51,52,53,54,55,56,57,95]⟩:ByteArray).data.toList.contains b)=(bl s).all inNameB:=by
  congr 1;funext b;exact in_name b
 rw [e]
 unfold nameL
 by_cases h:(decide (1≤(bl s).length) && decide ((bl s).length≤12) && (bl s).all inNameB)=true
 ·have h':=h
  simp only [Bool.and_eq_true,decide_eq_true_eq] at h'
  have e0:(0:Int)<s.size:=by omega
  have e2:=in_small ((bl s).headD 0)
  simp only [h,cond_true,ile_eq,Int.le_refl,decide_true,ilt_eq,ssize_eq,e0,sat_0 s h'.1.1,s_IndexByte,bindN_s]
  rw [show (((((bl s).headD 0).toNat:Nat):Int).toNat).toUInt8=(bl s).headD 0 by simp]
  rw [show (decide ((0:Int)≤Lib.indexByte (⟨#[97,98,99,100,101,102,103,104,105,106,107,108,109,110,111,112,113,114,115,116,117,118,119,120,121,122]⟩:ByteArray).data.toList ((bl s).headD 0)))=smallB ((bl s).headD 0) from e2]
  rw [decide_eq_true h'.1.1,decide_eq_true h'.1.2,h'.2];simp
 ·have h':(decide (1≤(bl s).length) && decide ((bl s).length≤12) && (bl s).all inNameB)=false:=by simpa using h
  simp only [h',cond_false]
  clear e h
  revert h'
  generalize decide (1≤(bl s).length)=a1
  generalize decide ((bl s).length≤12)=a2
  generalize (bl s).all inNameB=a3
  generalize smallB ((bl s).headD 0)=a4
  cases a1<;>cases a2<;>cases a3<;>cases a4<;>simp
theorem word_Name_v (n:Nat) (x:SgEl word_Name_sg):word_Name n x=some ((nameL (bl x.1),()),((),())):=word_Name_v0 n x.1
theorem word_Value_v0 (n:Nat) (s:ByteArray):word_Value n (s,())=some ((valueL (bl s),()),((),())):=by
 unfold word_Value
 rw [made_v n _ _ (by decide) (by decide+kernel)]
 simp only [bindN_s]
 have e:(bl s).all (fun b=>(⟨#[97,98,99,100,101,102,103,104,105,106,107,108,109,110,111,112,113,114,115,116,117,118,119,120,121,122,48,49,50,51,52,53,54,55,56,57,95,45,46]⟩:ByteArray).data.toList.contains b)=(bl s).all inValB:=by
  congr 1;funext b;exact in_val b
 rw [e]
 rfl
theorem word_Value_v (n:Nat) (x:SgEl word_Value_sg):word_Value n x=some ((valueL (bl x.1),()),((),())):=word_Value_v0 n x.1
theorem tag_may_v0 (n:Nat) (t:TG):tag_may n (t,())=some ((mayT t,()),((),())):=by
 obtain ⟨a,b,⟨⟩⟩:=t
 unfold tag_may mayT
 simp only [word_Name_v,bindN_s]
 cases nameL (bl a) with
 | false=>simp
 | true=>simp [word_Value_v]
theorem tag_may_v (n:Nat) (x:SgEl tag_may_sg):tag_may n x=some ((mayT x.1,()),((),())):=tag_may_v0 n x.1
theorem r03_may_v0 {n:Nat} (hn:Big n) (t:TG):r03_may n (t,())=some ((mayT t,()),((),())):=by
 obtain ⟨a,b,⟨⟩⟩:=t
 unfold r03_may mayT
 simp only [r02_Name_v hn,bindN_s]
 cases nameL (bl a) with
 | false=>simp
 | true=>simp [r02_Value_v hn]
theorem r03_may_v {n:Nat} (hn:Big n) (x:SgEl r03_may_sg):r03_may n x=some ((mayT x.1,()),((),())):=r03_may_v0 hn x.1
theorem split_loop {n:Nat} (c:UInt8):∀ (m:Nat) (s:ByteArray) (acc:List ByteArray) (g:Nat),s.size≤m→m<g→acc.length+s.size≤1000000000 →
  word_Split_l0 n g (s,(c.toNat:Int),acc,())=some (.inr (acc++splitB c s,())):=by
 intro m
 induction m with
 | zero =>
  intro s acc g hn hg hb
  obtain ⟨g,rfl⟩:∃ g',g=g'+1:=⟨g - 1,by omega⟩
  have hs:s=⟨#[]⟩:=bl_inj (List.length_eq_zero_iff.1 (by rw [size_bl];omega))
  subst hs
  have e:room (acc.length+1) 16=true:=room_of (by omega)
  simp [word_Split_l0,s_IndexByte,Lib.indexByte,roomA,app,e];rfl
 | succ m ih =>
  intro s acc g hn hg hb
  obtain ⟨g,rfl⟩:∃ g',g=g'+1:=⟨g - 1,by omega⟩
  have hlt:=idx_lt (bl s) c
  rw [size_bl] at hlt
  have hc:((c.toNat:Int).toNat).toUInt8=c:=by simp
  have e:=splitL_idx c (bl s)
  have er:room (acc.length+1) 16=true:=room_of (by omega)
  have ei:s_IndexByte n (s,(c.toNat:Int),())=some ((Lib.indexByte (bl s) c,()),((),(),())):=by simp only [s_IndexByte,hc];rfl
  by_cases h:Lib.indexByte (bl s) c<0
  ·simp only [word_Split_l0,ei,bindN_s,ilt_eq,h,decide_true,cond_true,roomA,List.length_singleton,er,app]
   rw [splitB,e,if_pos h];rfl
  ·obtain ⟨k,hk⟩:=Int.eq_ofNat_of_zero_le (show 0≤Lib.indexByte (bl s) c by omega)
   rw [hk] at hlt e h ei
   have hsz:(s.extract (k+1) s.size).size=s.size - (k+1):=by rw [← size_bl,bl_extract];simp [size_bl]
   have h1:(k:Int)≤s.size:=by omega
   have h2:(0:Int)≤((k+1:Nat):Int):=by omega
   have h3:((k+1:Nat):Int)≤s.size:=by omega
   have h4:(0:Int)≤k:=by omega
   have:=ih (s.extract (k+1) s.size) (acc++[s.extract 0 k]) g (by rw [hsz];omega) (by omega) (by rw [hsz,List.length_append];simp;omega)
   simp only [word_Split_l0,ei,bindN_s,ilt_eq,ile_eq,ssize_eq,h,h1,h2,h3,h4,decide_false,decide_true,cond_false,cond_true,roomA,List.length_singleton,er,app,iadd1 (i:=k) (by omega),Int.le_refl,sext_eq,Int.toNat_natCast,Int.toNat_zero,this,bindL_inr]
   have e2:acc++splitB c s=acc++[s.extract 0 k]++splitB c (s.extract (k+1) s.size):=by
    unfold splitB
    rw [e,if_neg h,List.append_assoc,ext_take,ext_drop,bl_mk ((bl s).drop (k+1))]
    simp
   rw [e2]
theorem word_Split_v {n:Nat} (hn:Big n) (c:UInt8) (s:ByteArray) (hs:s.size≤1000000):word_Split n (s,(c.toNat:Int),())=some ((splitB c s,()),((),(),())):=by
 have:=split_loop (n:=n) c s.size s [] n (Nat.le_refl _) (by unfold Big at hn;omega) (by simp;omega)
 simp only [word_Split,this,bindL_inr,List.nil_append]
theorem rsplit_loop {n:Nat} (c:UInt8) (s:ByteArray) (hs:s.size≤1000000):∀ (d i f g:Nat) (acc:List ByteArray),i+d=s.size→f≤i→acc.length≤i→d<g →
  ∃ (acc':List ByteArray) (f':Nat),r02_Split_l0 n g (s,(c.toNat:Int),acc,(f:Int),(i:Int),())=some (.inl (s,acc',(f':Int),()))∧f'≤s.size∧acc'.length≤s.size ∧
   acc'++[s.extract f' s.size]=acc++(glue (((bl s).take i).drop f) (splitL c ((bl s).drop i))).map fun l=>⟨l.toArray⟩
 | 0,i,f,g,acc,hd,hf,ha,hg=>by
  obtain ⟨g,rfl⟩:∃ g',g=g'+1:=⟨g - 1,by omega⟩
  have hi:i=s.size:=by omega
  subst hi
  refine ⟨acc,f,?_,hf,ha,?_⟩
  ·simp [r02_Split_l0]
  ·rw [show (bl s).drop s.size=[] from List.drop_of_length_le (by rw [size_bl];exact Nat.le_refl _),ext_mid]
   simp only [splitL,glue,List.append_nil,List.map_cons,List.map_nil]
 | d+1,i,f,g,acc,hd,hf,ha,hg=>by
  obtain ⟨g,rfl⟩:∃ g',g=g'+1:=⟨g - 1,by omega⟩
  have hi:i<(bl s).length:=by rw [size_bl];omega
  have k1:(i:Int)<s.size:=by omega
  have k2:(0:Int)≤i:=by omega
  have k3:(0:Int)≤f:=by omega
  have k4:(f:Int)≤i:=by omega
  have k5:(i:Int)≤s.size:=by omega
  have er:room (acc.length+1) 16=true:=room_of (by omega)
  rw [drop_cons (bl s) i hi]
  by_cases hc:(bl s)[i]=c
  ·obtain ⟨acc',f',h1,h2,h3,h4⟩:=rsplit_loop (n:=n) c s hs d (i+1) (i+1) g (acc++[s.extract f i]) (by omega) (by omega) (by simp;omega) (by omega)
   refine ⟨acc',f',?_,h2,h3,?_⟩
   ·simp only [r02_Split_l0,ilt_eq,ile_eq,ieq_eq,ssize_eq,k1,k2,k3,k4,k5,decide_true,cond_true,sat_bl s i hi,hc,roomA,List.length_singleton,er,app,sext_eq,Int.toNat_natCast,iadd1 (i:=i) (by omega),h1,bindL_inl]
   ·rw [h4,splitL,if_pos hc]
    have e1:((bl s).take (i+1)).drop (i+1)=[]:=List.drop_of_length_le (by simp;omega)
    rw [e1]
    have e2:glue [] (splitL c ((bl s).drop (i+1)))=splitL c ((bl s).drop (i+1)):=by
     cases h:splitL c ((bl s).drop (i+1)) with
     | nil=>exact absurd h (splitL_ne _ _)
     | cons a t=>rfl
    rw [e2]
    simp [glue,ext_mid]
  ·obtain ⟨acc',f',h1,h2,h3,h4⟩:=rsplit_loop (n:=n) c s hs d (i+1) f g acc (by omega) (by omega) (by omega) (by omega)
   have hc':¬ ((bl s)[i].toNat:Int)=(c.toNat:Int):=by rw [u8_int];exact hc
   refine ⟨acc',f',?_,h2,h3,?_⟩
   ·simp only [r02_Split_l0,ilt_eq,ile_eq,ieq_eq,ssize_eq,k1,k2,decide_true,cond_true,sat_bl s i hi,hc',decide_false,cond_false,iadd1 (i:=i) (by omega),h1,bindL_inl]
   ·rw [h4,splitL,if_neg hc]
    have e1:((bl s).take (i+1)).drop f=((bl s).take i).drop f++[(bl s)[i]]:=by
     rw [List.take_succ_eq_append_getElem hi,List.drop_append_of_le_length (by simp;omega)]
    rw [e1]
    cases h:splitL c ((bl s).drop (i+1)) with
    | nil=>exact absurd h (splitL_ne _ _)
    | cons a t=>simp [glue]
theorem r02_Split_v {n:Nat} (hn:Big n) (c:UInt8) (s:ByteArray) (hs:s.size≤1000000):r02_Split n (s,(c.toNat:Int),())=some ((splitB c s,()),((),(),())):=by
 obtain ⟨acc',f',h1,h2,h3,h4⟩:=rsplit_loop (n:=n) c s hs s.size 0 0 n [] (by omega) (by omega) (by simp) (by unfold Big at hn;omega)
 have k3:(0:Int)≤f':=by omega
 have k4:(f':Int)≤s.size:=by omega
 have er:room (acc'.length+1) 16=true:=room_of (by omega)
 have e:acc'++[s.extract f' s.size]=splitB c s:=by
  rw [h4]
  unfold splitB
  cases h:splitL c (bl s) with
  | nil=>exact absurd h (splitL_ne _ _)
  | cons a t=>simp [glue,h]
 rw [show ((0:Nat):Int)=0 from rfl] at h1
 simp only [r02_Split,h1,bindL_inl,ile_eq,ssize_eq,k3,k4,decide_true,cond_true,Int.le_refl,roomA,List.length_singleton,er,app,sext_eq,Int.toNat_natCast,e]
theorem word_Join_v (n:Nat) (sep:ByteArray) (l:List ByteArray) (h1:l.length≤1000000) (h2:(bl (joinB sep l)).length≤100000000000):word_Join n (sep,l,())=some ((joinB sep l,()),((),(),())):=by
 have e1:Nat.ble l.length 140737488355328=true:=by rw [Nat.ble_eq];omega
 have e2:Nat.ble (Lib.join (l.map (·.data.toList)) sep.data.toList).length 140737488355328=true:=by
  have:(bl (joinB sep l)).length=(Lib.join (l.map (·.data.toList)) sep.data.toList).length:=rfl
  rw [Nat.ble_eq];omega
 simp only [word_Join,s_Join,e1,e2,Bool.and_self,cond_true,bindN_s]
 rfl
theorem rjoin_loop {n:Nat} (sep:ByteArray) (l:List ByteArray) (hl:l.length≤1000000):∀ (d i g:Nat) (acc:ByteArray),i+1+d=l.length→d<g→(bl acc).length+(tl (bl sep) ((l.drop (i+1)).map bl)).length≤1000000000000 →
  r02_Join_l0 n g (sep,l,acc,((i+1:Nat):Int),())=some (.inl (mkB (bl acc++tl (bl sep) ((l.drop (i+1)).map bl)),()))
 | 0,i,g,acc,hd,hg,hb=>by
  obtain ⟨g,rfl⟩:∃ g',g=g'+1:=⟨g - 1,by omega⟩
  have k:¬ ((i+1:Nat):Int)<(l.length:Int):=by omega
  rw [List.drop_of_length_le (by omega)]
  simp only [r02_Join_l0,ilt_eq,ilen,k,decide_false,cond_false]
  simp [Lib.joinTail,mkB_bl]
 | d+1,i,g,acc,hd,hg,hb=>by
  obtain ⟨g,rfl⟩:∃ g',g=g'+1:=⟨g - 1,by omega⟩
  have hi:i+1<l.length:=by omega
  rw [drop_cons l (i+1) hi,List.map_cons,tl_cons] at hb ⊢
  rw [List.length_append,List.length_append] at hb
  have h1:=size_bl acc
  have h2:=size_bl sep
  have h3:=size_bl l[i+1]
  have k1:((i+1:Nat):Int)<(l.length:Int):=by omega
  have k2:(0:Int)<((i+1:Nat):Int):=by omega
  have k3:(0:Int)≤((i+1:Nat):Int):=by omega
  have f1:sfits acc sep=true:=sfits_of (by omega)
  have f2:sfits (acc++sep) l[i+1]=true:=sfits_of (by rw [ByteArray.size_append];omega)
  have ih:=rjoin_loop (n:=n) sep l hl d (i+1) g ((acc++sep)++l[i+1]) (by omega) (by omega) (by rw [bl_append,bl_append,List.length_append,List.length_append];omega)
  rw [bl_append,bl_append] at ih
  simp only [r02_Join_l0,ilt_eq,ile_eq,ilen,k1,k2,k3,decide_true,cond_true,f1,lat_eq,iN,Int.toNat_natCast,List.getElem?_eq_getElem hi,bindN_s,scat_eq,f2,iadd1 (i:=i+1) (by omega),ih,bindL_inl]
  simp [List.append_assoc]
theorem r02_Join_v {n:Nat} (hn:Big n) (sep:ByteArray) (l:List ByteArray) (hl:l.length≤1000000) (hb:(bl (joinB sep l)).length≤100000000000):r02_Join n (sep,l,())=some ((joinB sep l,()),((),(),())):=by
 obtain ⟨m,rfl⟩:∃ m,n=m+1:=⟨n - 1,by unfold Big at hn;omega⟩
 cases l with
 | nil=>simp [r02_Join,r02_Join_l0];rfl
 | cons x r =>
  rw [joinB_cons,List.length_append] at hb
  have h1:=size_bl x
  have f1:sfits (⟨#[]⟩:ByteArray) x=true:=sfits_of (by show 0+x.size≤_;omega)
  have:=rjoin_loop (n:=m+1) sep (x ::r) hl r.length 0 m (⟨#[]⟩++x) (by simp;omega) (by simp at hl;unfold Big at hn;omega) (by
    rw [bl_append,empty_bl];simp only [List.nil_append,Nat.zero_add,List.drop_succ_cons,List.drop_zero];omega)
  rw [bl_append,empty_bl] at this
  have e:joinB sep (x ::r)=mkB (bl x++tl (bl sep) (r.map bl)):=bl_inj (by rw [joinB_cons,bl_mkB])
  have k1:(0:Int)<((x ::r).length:Int):=by simp only [List.length_cons];omega
  have e1:iadd .i64 (0:Int) 1=((0+1:Nat):Int):=iadd1 (i:=0) (by omega)
  simp only [r02_Join,r02_Join_l0,ilt_eq,ile_eq,ilen,k1,decide_true,cond_true,Int.lt_irrefl,decide_false,cond_false,Int.le_refl,lat_eq,iN,Int.toNat_zero,List.getElem?_cons_zero,bindN_s,f1,scat_eq,e1,this,bindL_inl,e]
  simp
theorem s_Cut_v (n:Nat) (c:UInt8) (s:ByteArray) (hs:s.size≤9000000000000):s_Cut n (s,(⟨#[c]⟩:ByteArray),())=some (((cutB c s).1,(cutB c s).2.1,(cutB c s).2.2,()),((),(),())):=by
 have h:=idx_lt (bl s) c
 rw [size_bl] at h
 have e:s_Index1 n (s,(⟨#[c]⟩:ByteArray),())=some ((Lib.indexByte (bl s) c,()),((),(),())):=rfl
 have e1:(((⟨#[c]⟩:ByteArray).size:Nat):Int)=1:=rfl
 unfold s_Cut s_slCut cutB
 simp only [e,bindN_s]
 by_cases h0:Lib.indexByte (bl s) c<0
 ·have h0':¬ 0≤Lib.indexByte (bl s) c:=by omega
  simp [h0,h0']
 ·obtain ⟨m,hm⟩:=Int.eq_ofNat_of_zero_le (show 0≤Lib.indexByte (bl s) c by omega)
  rw [hm] at h h0 ⊢
  have k1:(0:Int)≤m:=by omega
  have k2:(m:Int)≤s.size:=by omega
  have k3:(0:Int)≤((m+1:Nat):Int):=by omega
  have k4:((m+1:Nat):Int)≤s.size:=by omega
  simp only [ile_eq,ssize_eq,e1,iadd1 (i:=m) (by omega),k1,k2,k3,k4,decide_true,cond_true,Int.le_refl,sext_eq,Int.toNat_natCast,Int.toNat_zero,bindN_s,if_neg h0]
end Go.Proofs.YtdcphpbimeoioaaGreatDoorE
end
section
set_option linter.unusedSectionVars false
namespace Go.Proofs.YtdcphpbimeoioaaGreatDoorE
open Go Go.Proofs
set_option linter.unusedVariables false
set_option linter.unusedSimpArgs false
def pl (t:TG) (l:List TG):Nat:=(l.takeWhile fun u=>lessT u t).length
theorem pl_le (t:TG) (l:List TG):pl t l≤l.length:=by
 unfold pl;have:=(List.takeWhile_prefix (fun u=>lessT u t) (l:=l)).length_le;exact this
theorem pl_cons_t {t u:TG} {r:List TG} (h:lessT u t=true):pl t (u ::r)=pl t r+1:=by simp [pl,h]
theorem pl_cons_f {t u:TG} {r:List TG} (h:lessT u t=false):pl t (u ::r)=0:=by simp [pl,h]
theorem insT_pl (t:TG):∀ l:List TG,insT t l=match l[pl t l]? with|some u=>if nm u=nm t then none else some (l.take (pl t l)++t ::l.drop (pl t l))|none=>some (l++[t])
 | []=>by simp [insT,pl]
 | u ::r=>by
  rw [insT]
  cases h:lessT u t with
  | true =>
   rw [pl_cons_t h,if_pos rfl,insT_pl t r]
   simp only [List.getElem?_cons_succ,List.take_succ_cons,List.drop_succ_cons]
   cases r[pl t r]? with
   | none=>simp
   | some v=>simp only;split<;>simp
  | false =>
   rw [pl_cons_f h]
   simp
theorem canon_l2 {n:Nat} (l:List TG) (i:Nat) (hi:i<l.length) (hl:l.length≤100):∀ (d j g:Nat) (acc:List TG),j+d=acc.length→acc.length≤100→d<g →
  r03_Canon_l2 n g (l,acc,(i:Int),(j:Int),())=some (.inl (l,acc,(i:Int),((j+pl l[i] (acc.drop j):Nat):Int),()))
 | 0,j,g,acc,hd,ha,hg=>by
  obtain ⟨g,rfl⟩:∃ g',g=g'+1:=⟨g - 1,by omega⟩
  have k:¬ (j:Int)<(acc.length:Int):=by omega
  rw [List.drop_of_length_le (by omega)]
  simp only [r03_Canon_l2,ilt_eq,ilen,k,decide_false,cond_false]
  rfl
 | d+1,j,g,acc,hd,ha,hg=>by
  obtain ⟨g,rfl⟩:∃ g',g=g'+1:=⟨g - 1,by omega⟩
  have hj:j<acc.length:=by omega
  have k:(j:Int)<(acc.length:Int):=by omega
  have k0:(0:Int)≤j:=by omega
  have k1:(0:Int)≤i:=by omega
  rw [drop_cons acc j hj]
  have ih:=canon_l2 (n:=n) l i hi hl d (j+1) g acc (by omega) ha (by omega)
  simp only [r03_Canon_l2,ilt_eq,ile_eq,ilen,k,k0,k1,decide_true,cond_true,lat_eq,iN,Int.toNat_natCast,List.getElem?_eq_getElem hj,List.getElem?_eq_getElem hi,bindN_s,slt_eq,iadd1 (i:=j) (by omega),bindL_id2,ih]
  have e:Op.bytesLess (acc[j]).1.data.toList (l[i]).1.data.toList=lessT acc[j] l[i]:=rfl
  rw [e]
  cases h:lessT acc[j] l[i] with
  | true=>rw [pl_cons_t h,show j+(pl l[i] (acc.drop (j+1))+1)=j+1+pl l[i] (acc.drop (j+1)) by omega];rfl
  | false=>rw [pl_cons_f h];simp
theorem canon_l1 {n:Nat} (hn:Big n) (l:List TG) (hl:l.length≤4):∀ (d i g:Nat) (acc:List TG),i+d=l.length→acc.length=i→d<g →
  r03_Canon_l1 n g (l,acc,(i:Int),())=some (match insAll acc (l.drop i) with|some o => .inl (o,())|none => .inr ([],(5:Int),()))
 | 0,i,g,acc,hd,ha,hg=>by
  obtain ⟨g,rfl⟩:∃ g',g=g'+1:=⟨g - 1,by omega⟩
  have k:¬ (i:Int)<(l.length:Int):=by omega
  rw [List.drop_of_length_le (by omega)]
  simp [r03_Canon_l1,k,insAll]
 | d+1,i,g,acc,hd,ha,hg=>by
  obtain ⟨g,rfl⟩:∃ g',g=g'+1:=⟨g - 1,by omega⟩
  have hi:i<l.length:=by omega
  have k:(i:Int)<(l.length:Int):=by omega
  have k1:(0:Int)≤i:=by omega
  have h2:=canon_l2 (n:=n) l i hi (by omega) acc.length 0 n acc (by omega) (by omega) (by unfold Big at hn;omega)
  rw [List.drop_zero,Nat.zero_add,show ((0:Nat):Int)=0 from rfl] at h2
  have hpl:=pl_le l[i] acc
  rw [drop_cons l i hi,insAll,insT_pl]
  generalize pl l[i] acc=q at h2 hpl
  have k2:(0:Int)≤q:=by omega
  have k3:(q:Int)≤(acc.length:Int):=by omega
  have e0:((acc.length:Int).toNat - q)=acc.length - q:=by omega
  have e1:(acc.drop q).take (acc.length - q)=acc.drop q:=List.take_of_length_le (by simp)
  have r1:room (acc.length - q) 32=true:=room_of (by omega)
  have r2:room (q+1) 32=true:=room_of (by omega)
  have r3:room (q+1+(acc.length - q)) 32=true:=room_of (by omega)
  have e2:min q acc.length=q:=by omega
  by_cases hq:q<acc.length
  ·have k4:(q:Int)<(acc.length:Int):=by omega
   have e:(acc[q].1=l[i].1)↔(nm acc[q]=nm l[i]):=⟨fun h=>by unfold nm;rw [h],fun h=>bl_inj h⟩
   by_cases hnm:acc[q].1=l[i].1
   ·have hnm':=e.1 hnm
    simp [r03_Canon_l1,k,k1,k2,k4,h2,hq,hi,hnm,hnm']
   ·have hnm':¬ nm acc[q]=nm l[i]:=fun h=>hnm (e.2 h)
    have ih:=canon_l1 hn l hl d (i+1) g (acc.take q++l[i] ::acc.drop q) (by omega) (by simp;omega) (by omega)
    rw [show ((i+1:Nat):Int)=(i:Int)+1 from rfl] at ih
    simp [r03_Canon_l1,k,k1,k2,k3,k4,h2,hq,hi,hnm,hnm',roomA,e0,e1,e2,r1,r2,r3,iadd1 (i:=i) (by omega),ih]
  ·have k4:¬ (q:Int)<(acc.length:Int):=by omega
   have eq:q=acc.length:=by omega
   have ih:=canon_l1 hn l hl d (i+1) g (acc++[l[i]]) (by omega) (by simp;omega) (by omega)
   subst eq
   rw [show ((i+1:Nat):Int)=(i:Int)+1 from rfl] at ih
   have r0:room 0 32=true:=room_of (by omega)
   simp [r03_Canon_l1,r0,k,k1,k2,k3,k4,h2,hq,hi,roomA,r1,r2,r3,iadd1 (i:=i) (by omega),ih]
theorem r03_Canon_v {n:Nat} (hn:Big n) (l:List TG) (hl:l.length≤1000000):r03_Canon n (l,())=some (((canonT l).1,(canonT l).2,()),((),())):=by
 have hL:=any_loop' (a:=l) (fun t => !mayT t) (l,()) (([]:List TG),(2:Int),()) (L:=fun g i=>r03_Canon_l0 n g (l,i,())) (fun g=>by simp [r03_Canon_l0]) (fun g i hi=>by
  have k:(i:Int)<(l.length:Int):=by omega
  have k1:(0:Int)≤i:=by omega
  simp only [r03_Canon_l0,ilt_eq,ile_eq,ilen,k,k1,decide_true,cond_true,lat_eq,iN,Int.toNat_natCast,List.getElem?_eq_getElem hi,bindN_s,r03_may_v hn,iadd1 (i:=i) (by omega),bindL_id1]) (g:=n) (by unfold Big at hn;omega)
 rw [all_any] at hL
 rw [canonT_eq]
 unfold r03_Canon
 cases ha:l.all mayT with
 | false=>rw [ha] at hL;simp at hL;simp [hL]
 | true =>
  rw [ha] at hL;simp at hL
  by_cases h4:4<l.length
  ·have h4':(4:Int)<l.length:=by omega
   simp [hL,h4,h4']
  ·have h4':¬ (4:Int)<l.length:=by omega
   have h1:=canon_l1 hn l (by omega) l.length 0 n [] (by omega) rfl (by unfold Big at hn;omega)
   rw [List.drop_zero,show ((0:Nat):Int)=0 from rfl] at h1
   simp only [hL,bindL_inl,ilt_eq,ilen,h4',decide_false,cond_false,h1,if_true,if_neg h4]
   cases insAll [] l<;>simp
theorem contains_bad {n:Nat} (hn:Big n) (l:List TG) (hl:l.length≤1000000):sl_ContainsTag n (l,(),())=some ((!l.all mayT,()),((),(),())):=by
 have key:∀ (d i g:Nat),i+d=l.length→d<g→∃ r,sl_IndexTag_l0 n g (l,(),(l.length:Int),(i:Int),())=some r ∧
   ((l.drop i).all mayT=true∧r = .inl ()∨(l.drop i).all mayT=false∧∃ q:Nat,r = .inr ((q:Int),())):=by
  intro d
  induction d with
  | zero =>
   intro i g hd hg
   obtain ⟨g,rfl⟩:∃ g',g=g'+1:=⟨g - 1,by omega⟩
   have k:¬ (i:Int)<(l.length:Int):=by omega
   refine ⟨_,by simp only [sl_IndexTag_l0,ilt_eq,k,decide_false,cond_false], .inl ⟨?_,rfl⟩⟩
   rw [List.drop_of_length_le (by omega)];rfl
  | succ d ih =>
   intro i g hd hg
   obtain ⟨g,rfl⟩:∃ g',g=g'+1:=⟨g - 1,by omega⟩
   have hi:i<l.length:=by omega
   have k:(i:Int)<(l.length:Int):=by omega
   have k1:(0:Int)≤i:=by omega
   obtain ⟨r,h1,h2⟩:=ih (i+1) g (by omega) (by omega)
   rw [drop_cons l i hi,List.all_cons]
   cases hm:mayT l[i] with
   | false =>
    refine ⟨.inr ((i:Int),()),?_, .inr ⟨by simp,i,rfl⟩⟩
    simp only [sl_IndexTag_l0,ilt_eq,ile_eq,k,k1,decide_true,cond_true,lat_eq,iN,Int.toNat_natCast,List.getElem?_eq_getElem hi,bindN_s,tag_Canon1,tag_may_v,hm,Bool.not_false]
   | true =>
    refine ⟨r,?_,by simpa using h2⟩
    simp only [sl_IndexTag_l0,ilt_eq,ile_eq,k,k1,decide_true,cond_true,lat_eq,iN,Int.toNat_natCast,List.getElem?_eq_getElem hi,bindN_s,tag_Canon1,tag_may_v,hm,Bool.not_true,cond_false,iadd1 (i:=i) (by omega),h1]
    rcases r with ⟨⟨⟩⟩|b<;>simp
 obtain ⟨r,h1,h2⟩:=key l.length 0 n (by omega) (by unfold Big at hn;omega)
 rw [List.drop_zero] at h2
 rw [show ((0:Nat):Int)=0 from rfl] at h1
 unfold sl_ContainsTag sl_IndexTag
 rcases h2 with ⟨h2,rfl⟩|⟨h2,q,rfl⟩
 ·simp [h1,h2]
 ·have:(0:Int)≤q:=by omega
  simp [h1,h2,this]
theorem canon_l0 {n:Nat} (l:List TG) (hl:l.length≤4):∀ (d i g:Nat),i+1+d=l.length→d<g→tag_Canon_l0 n g (l,((i+1:Nat):Int),())=some (if adj (l.drop i)=true then .inr ([],(5:Int),()) else .inl (l,()))
 | 0,i,g,hd,hg=>by
  obtain ⟨g,rfl⟩:∃ g',g=g'+1:=⟨g - 1,by omega⟩
  have hi:i<l.length:=by omega
  have k:¬ ((i+1:Nat):Int)<(l.length:Int):=by omega
  rw [drop_cons l i hi,List.drop_of_length_le (by omega),show adj [l[i]]=false from rfl]
  simp only [tag_Canon_l0,ilt_eq,ilen,k,decide_false,cond_false]
  simp
 | d+1,i,g,hd,hg=>by
  obtain ⟨g,rfl⟩:∃ g',g=g'+1:=⟨g - 1,by omega⟩
  have hi0:i<l.length:=by omega
  have hi:i+1<l.length:=by omega
  have k:((i+1:Nat):Int)<(l.length:Int):=by omega
  have k0:(0:Int)≤i:=by omega
  have k1:(0:Int)≤((i+1:Nat):Int):=by omega
  have e0:isub .i64 ((i+1:Nat):Int) 1=(i:Int):=by rw [isub64 (by omega) (by omega)];omega
  have ih:=canon_l0 (n:=n) l hl d (i+1) g (by omega) (by omega)
  rw [adj_drop l i hi]
  simp only [tag_Canon_l0,ilt_eq,ile_eq,ieq_eq,ilen,k,k0,k1,e0,decide_true,cond_true,lat_eq,iN,Int.toNat_natCast,List.getElem?_eq_getElem hi,List.getElem?_eq_getElem hi0,bindN_s,tag_order,s_Compare,iadd1 (i:=i+1) (by omega),bindL_id1,ih]
  have e:(Lib.compareBytes (l[i]).1.data.toList (l[i+1]).1.data.toList=0)↔nm l[i]=nm l[i+1]:=cmp_zero _ _
  by_cases h:nm l[i]=nm l[i+1]
  ·simp [e.2 h,h]
  ·have:¬ Lib.compareBytes (l[i]).1.data.toList (l[i+1]).1.data.toList=0:=fun q=>h (e.1 q)
   simp [this,h]
theorem tag_Canon_v {n:Nat} (hn:Big n) (l:List TG) (hl:l.length≤1000000):tag_Canon n (l,())=some (((canonT l).1,(canonT l).2,()),((),())):=by
 rw [canonT_eq]
 unfold tag_Canon
 simp only [contains_bad hn l hl,bindN_s]
 cases ha:l.all mayT with
 | false=>simp
 | true =>
  by_cases h4:4<l.length
  ·have h4':(4:Int)<l.length:=by omega
   simp [h4,h4']
  ·have h4':¬ (4:Int)<l.length:=by omega
   have r1:room l.length 32=true:=room_of (by omega)
   have b1:Nat.blt l.length 4611686018427387904=true:=by unfold Nat.blt;rw [Nat.ble_eq];omega
   have hlen:(srt l).length=l.length:=(srt_spec l).1.length_eq
   have e:=canon_scan l
   simp only [Bool.not_true,cond_false,ilt_eq,ilen,h4',decide_false,sl_CloneTag,r1,cond_true,bindN_s,sl_SortTag,b1,if_true,if_neg h4]
   have h0:tag_Canon_l0 n n (srt l,(1:Int),())=some (if adj (srt l)=true then .inr ([],(5:Int),()) else .inl (srt l,())):=by
    by_cases hz:(srt l).length=0
    ·have e:srt l=[]:=List.length_eq_zero_iff.1 hz
     obtain ⟨m,rfl⟩:∃ m,n=m+1:=⟨n - 1,by unfold Big at hn;omega⟩
     rw [e]
     simp [tag_Canon_l0,adj,ilen]
    ·have:=canon_l0 (n:=n) (srt l) (by omega) ((srt l).length - 1) 0 n (by omega) (by unfold Big at hn;omega)
     simpa using this
   rw [show sl_SortTag_sorted l=srt l from rfl,h0]
   cases hadj:adj (srt l)<;>rw [hadj] at e<;>cases hin:insAll [] l<;>rw [hin] at e<;>simp at e ⊢<;>simp [e]
theorem bl_pair (t:TG):(t.1++(⟨#[61]⟩:ByteArray))++t.2.1=pairB t:=bl_inj (by rw [bl_pairB,bl_append,bl_append];rfl)
theorem r03_Text_v {n:Nat} (hn:Big n) (l:List TG) (hf:Fit l):r03_Text n (l,())=some ((textT l,()),((),())):=by
 have h1:=hf.1
 have key:∀ (d i g:Nat) (acc:List ByteArray),i+d=l.length→acc.length=i→d<g→r03_Text_l0 n g (l,acc,(i:Int),())=some (.inl (acc++(l.drop i).map pairB,())):=by
  intro d
  induction d with
  | zero =>
   intro i g acc hd ha hg
   obtain ⟨g,rfl⟩:∃ g',g=g'+1:=⟨g - 1,by omega⟩
   have k:¬ (i:Int)<(l.length:Int):=by omega
   rw [List.drop_of_length_le (by omega)]
   simp [r03_Text_l0,k]
  | succ d ih =>
   intro i g acc hd ha hg
   obtain ⟨g,rfl⟩:∃ g',g=g'+1:=⟨g - 1,by omega⟩
   have hi:i<l.length:=by omega
   have k:(i:Int)<(l.length:Int):=by omega
   have k0:(0:Int)≤i:=by omega
   have hft:=hf.2 l[i] (List.getElem_mem hi)
   have f1:sfits l[i].1 (⟨#[61]⟩:ByteArray)=true:=sfits_of (by show l[i].1.size+1≤_;omega)
   have f2:sfits (l[i].1++(⟨#[61]⟩:ByteArray)) l[i].2.1=true:=sfits_of (by rw [ByteArray.size_append];show l[i].1.size+1+l[i].2.1.size≤_;omega)
   have r1:room (acc.length+1) 16=true:=room_of (by omega)
   have ep:=bl_pair l[i]
   rw [drop_cons l i hi]
   simp only [r03_Text_l0,ilt_eq,ile_eq,ilen,k,k0,decide_true,cond_true,lat_eq,iN,Int.toNat_natCast,List.getElem?_eq_getElem hi,bindN_s,f1,scat_eq,f2,roomA,List.length_singleton,r1,ep,app,iadd1 (i:=i) (by omega),bindL_id2,ih (i+1) g (acc++[pairB l[i]]) (by omega) (by simp;omega) (by omega)]
   simp only [List.map_cons,List.append_assoc,List.cons_append,List.nil_append]
 have h:=key l.length 0 n [] (by omega) rfl (by unfold Big at hn;omega)
 rw [show ((0:Nat):Int)=0 from rfl] at h
 have hj:=r02_Join_v hn (mkB [44]) (l.map pairB) (by simp;omega) (fit_text hf)
 rw [show mkB [44]=(⟨#[44]⟩:ByteArray) from rfl] at hj
 simp only [r03_Text,h,bindL_inl,List.nil_append,List.drop_zero,hj,bindN_s]
 rfl
theorem tag_Text_v {n:Nat} (hn:Big n) (l:List TG) (hf:Fit l):tag_Text n (l,())=some ((textT l,()),((),())):=by
 have h1:=hf.1
 have key:∀ (d i g:Nat) (acc:List ByteArray),i+d=l.length→acc.length=i→d<g→tag_Text_l0 n g (acc,l,(l.length:Int),(i:Int),())=some (.inl (acc++(l.drop i).map pairB,())):=by
  intro d
  induction d with
  | zero =>
   intro i g acc hd ha hg
   obtain ⟨g,rfl⟩:∃ g',g=g'+1:=⟨g - 1,by omega⟩
   have k:¬ (i:Int)<(l.length:Int):=by omega
   rw [List.drop_of_length_le (by omega)]
   simp [tag_Text_l0,k]
  | succ d ih =>
   intro i g acc hd ha hg
   obtain ⟨g,rfl⟩:∃ g',g=g'+1:=⟨g - 1,by omega⟩
   have hi:i<l.length:=by omega
   have k:(i:Int)<(l.length:Int):=by omega
   have k0:(0:Int)≤i:=by omega
   have e:=word_Join_v n (mkB [61]) [l[i].1,l[i].2.1] (by simp) (Nat.le_trans (fit_pair hf _ (List.getElem_mem hi)) (by omega))
   rw [show mkB [61]=(⟨#[61]⟩:ByteArray) from rfl] at e
   have e':joinB (⟨#[61]⟩:ByteArray) [l[i].1,l[i].2.1]=pairB l[i]:=rfl
   have r1:room (acc.length+1) 16=true:=room_of (by omega)
   rw [drop_cons l i hi]
   simp only [tag_Text_l0,ilt_eq,ile_eq,k,k0,decide_true,cond_true,lat_eq,iN,Int.toNat_natCast,List.getElem?_eq_getElem hi,bindN_s,e,e',roomA,List.length_singleton,r1,app,iadd1 (i:=i) (by omega),bindL_id2,ih (i+1) g (acc++[pairB l[i]]) (by omega) (by simp;omega) (by omega)]
   simp only [List.map_cons,List.append_assoc,List.cons_append,List.nil_append]
 have h:=key l.length 0 n [] (by omega) rfl (by unfold Big at hn;omega)
 rw [show ((0:Nat):Int)=0 from rfl] at h
 have hj:=word_Join_v n (mkB [44]) (l.map pairB) (by simp;omega) (fit_text hf)
 rw [show mkB [44]=(⟨#[44]⟩:ByteArray) from rfl] at hj
 simp only [tag_Text,ilen,h,bindL_inl,List.nil_append,List.drop_zero,hj,bindN_s]
 rfl
theorem tag_parse_l0 {n:Nat} (ps:List ByteArray) (hl:ps.length≤1000000) (hs:∀ x∈ps,x.size≤900000):∀ (d i g:Nat) (acc:List TG),i+d=ps.length→acc.length≤i→d<g →
  tag_Parse_l0 n g (acc,ps,(ps.length:Int),(i:Int),())=some (match pairsT (ps.drop i) with|some q => .inl (acc++q,())|none => .inr ([],(2:Int),()))
 | 0,i,g,acc,hd,ha,hg=>by
  obtain ⟨g,rfl⟩:∃ g',g=g'+1:=⟨g - 1,by omega⟩
  have k:¬ (i:Int)<(ps.length:Int):=by omega
  rw [List.drop_of_length_le (by omega)]
  simp [tag_Parse_l0,k,pairsT]
 | d+1,i,g,acc,hd,ha,hg=>by
  obtain ⟨g,rfl⟩:∃ g',g=g'+1:=⟨g - 1,by omega⟩
  have hi:i<ps.length:=by omega
  have k:(i:Int)<(ps.length:Int):=by omega
  have k0:(0:Int)≤i:=by omega
  have hx:=hs ps[i] (List.getElem_mem hi)
  have r1:room (acc.length+1) 32=true:=room_of (by omega)
  have ih:=tag_parse_l0 (n:=n) ps hl hs d (i+1) g (acc++[((cutB 61 ps[i]).1,(cutB 61 ps[i]).2.1,())]) (by omega) (by simp;omega) (by omega)
  rw [drop_cons ps i hi,pairsT]
  simp only [tag_Parse_l0,ilt_eq,ile_eq,k,k0,decide_true,cond_true,lat_eq,iN,Int.toNat_natCast,List.getElem?_eq_getElem hi,bindN_s,s_Cut_v n 61 ps[i] (by omega),roomA,List.length_singleton,r1,app,iadd1 (i:=i) (by omega),bindL_id1,ih]
  cases h:(cutB 61 ps[i]).2.2 with
  | false=>simp
  | true=>cases pairsT (ps.drop (i+1))<;>simp
theorem r03_parse_l0 {n:Nat} (hn:Big n) (ps:List ByteArray) (hl:ps.length≤1000000) (hs:∀ x∈ps,x.size≤900000):∀ (d i g:Nat) (acc:List TG),i+d=ps.length→acc.length≤i→d<g →
  r03_Parse_l0 n g (acc,ps,(i:Int),())=some (match pairsT (ps.drop i) with|some q => .inl (acc++q,())|none => .inr ([],(2:Int),()))
 | 0,i,g,acc,hd,ha,hg=>by
  obtain ⟨g,rfl⟩:∃ g',g=g'+1:=⟨g - 1,by omega⟩
  have k:¬ (i:Int)<(ps.length:Int):=by omega
  rw [List.drop_of_length_le (by omega)]
  simp [r03_Parse_l0,k,pairsT]
 | d+1,i,g,acc,hd,ha,hg=>by
  obtain ⟨g,rfl⟩:∃ g',g=g'+1:=⟨g - 1,by omega⟩
  have hi:i<ps.length:=by omega
  have k:(i:Int)<(ps.length:Int):=by omega
  have k0:(0:Int)≤i:=by omega
  have hx:=hs ps[i] (List.getElem_mem hi)
  have r1:room (acc.length+1) 32=true:=room_of (by omega)
  have ih:=r03_parse_l0 hn ps hl hs d (i+1) g (acc++[((cutB 61 ps[i]).1,(cutB 61 ps[i]).2.1,())]) (by omega) (by simp;omega) (by omega)
  have hsp:=r02_Split_v hn 61 ps[i] (by omega)
  rw [show (((61:UInt8).toNat:Nat):Int)=61 from rfl] at hsp
  have hc:=split_cut 61 ps[i]
  rw [drop_cons ps i hi,pairsT]
  cases h:(cutB 61 ps[i]).2.2 with
  | false =>
   rw [h,if_neg (by simp)] at hc
   simp [r03_Parse_l0,ilen,k,k0,hi,hsp,hc]
  | true =>
   rw [h,if_pos rfl] at hc
   have hne:1≤(splitB 61 (cutB 61 ps[i]).2.1).length:=by
    have:=splitL_ne 61 (bl (cutB 61 ps[i]).2.1)
    unfold splitB;rw [List.length_map];exact List.length_pos_iff.2 this
   have hsz:=(cut_size 61 ps[i]).2
   have hlen:=splitB_len 61 (cutB 61 ps[i]).2.1
   have hj:=joinB_split 61 (cutB 61 ps[i]).2.1
   have hjv:=r02_Join_v hn (mkB [61]) (splitB 61 (cutB 61 ps[i]).2.1) (by omega) (by rw [hj,size_bl];omega)
   rw [hj,show mkB [61]=(⟨#[61]⟩:ByteArray) from rfl] at hjv
   generalize splitB 61 (cutB 61 ps[i]).2.1=sp at hc hne hlen hjv
   have k2:¬ (sp.length:Int)+1<2:=by omega
   have k3:(1:Int)≤(sp.length:Int)+1:=by omega
   have k4:((sp.length:Int)+1 - 1).toNat=sp.length:=by omega
   rw [show ((i+1:Nat):Int)=(i:Int)+1 from rfl] at ih
   simp [r03_Parse_l0,ilen,app,k,k0,hi,hsp,hc,k2,k3,k4,hjv,roomA,r1,iadd1 (i:=i) (by omega),ih]
   cases pairsT (ps.drop (i+1))<;>simp
theorem pairsT_len:∀ (ps:List ByteArray) (q:List TG),pairsT ps=some q→q.length=ps.length
 | [],q,h=>by simp [pairsT] at h;subst h;rfl
 | x ::r,q,h=>by
  rw [pairsT] at h
  split at h
  ·cases hr:pairsT r with
   | none=>rw [hr] at h;cases h
   | some q'=>rw [hr] at h;simp at h;subst h;simp [pairsT_len r q' hr]
  ·cases h
theorem tag_Parse_v {n:Nat} (hn:Big n) (s:ByteArray) (hs:s.size≤100000):tag_Parse n (s,())=some (((parseT s).1,(parseT s).2,()),((),())):=by
 have h1:=splitB_len 44 s
 unfold tag_Parse parseT
 by_cases hb:bl s=[]
 ·simp [bl_nil,hb]
 ·have hsp:=word_Split_v hn 44 s (by omega)
  rw [show (((44:UInt8).toNat:Nat):Int)=44 from rfl] at hsp
  have h:=tag_parse_l0 (n:=n) (splitB 44 s) (by omega) (fun x hx=>by have:=splitB_size 44 s x hx;omega) (splitB 44 s).length 0 n [] (by omega) (by simp) (by unfold Big at hn;omega)
  rw [show ((0:Nat):Int)=0 from rfl,List.drop_zero] at h
  simp only [seq_eq,bl_nil,hb,decide_false,cond_false,hsp,bindN_s,ilen,h,if_false]
  cases hp:pairsT (splitB 44 s) with
  | none=>simp [readT]
  | some q =>
   have:=pairsT_len _ _ hp
   simp [readT,tag_Canon_v hn q (by omega)]
theorem r03_Parse_v {n:Nat} (hn:Big n) (s:ByteArray) (hs:s.size≤100000):r03_Parse n (s,())=some (((parseT s).1,(parseT s).2,()),((),())):=by
 have h1:=splitB_len 44 s
 unfold r03_Parse parseT
 by_cases hb:bl s=[]
 ·simp [bl_nil,hb]
 ·have hsp:=r02_Split_v hn 44 s (by omega)
  rw [show (((44:UInt8).toNat:Nat):Int)=44 from rfl] at hsp
  have h:=r03_parse_l0 hn (splitB 44 s) (by omega) (fun x hx=>by have:=splitB_size 44 s x hx;omega) (splitB 44 s).length 0 n [] (by omega) (by simp) (by unfold Big at hn;omega)
  rw [show ((0:Nat):Int)=0 from rfl,List.drop_zero] at h
  simp only [seq_eq,bl_nil,hb,decide_false,cond_false,hsp,bindN_s,h,if_false]
  cases hp:pairsT (splitB 44 s) with
  | none=>simp [readT]
  | some q =>
   have:=pairsT_len _ _ hp
   simp [readT,r03_Canon_v hn q (by omega)]
end Go.Proofs.YtdcphpbimeoioaaGreatDoorE
end
section
set_option linter.unusedSectionVars false
namespace Go.Proofs.YtdcphpbimeoioaaGreatDoorE
open Go Go.Proofs
set_option linter.unusedVariables false
set_option linter.unusedSimpArgs false
def I64 (i:Int):Prop := -9223372036854775808≤i∧i≤9223372036854775807
def numB (i:Int):ByteArray:=mkB (Lib.itoa i)
theorem dec_small {a:Nat} (h:a<10):Lib.decDigits a=[UInt8.ofNat (48+a % 10)]:=by rw [Lib.decDigits_one h,Nat.mod_eq_of_lt h]
theorem dec_big {a:Nat} (h:¬ a<10):Lib.decDigits a=Lib.decDigits (a / 10)++[UInt8.ofNat (48+a % 10)]:=by rw [Lib.decDigits,dif_neg h]
theorem p19:(10:Nat) ^ (18+1)=10000000000000000000:=by decide
abbrev SM:=El tSum
def sumB (x:SM):ByteArray:=mkB (Lib.itoa x.1++if x.2.1=true then [33] else [])
def bareL:List UInt8→List UInt8
 | []=>[]
 | c ::r=>if c=45 then r else c ::r
def digsL (l:List UInt8):Bool := !decide (l=[]) && (!(decide (l.headD 0=48) && !decide (l=[48])) && l.all isDig)
def readL (l:List UInt8):Int×Int:=if (digsL (bareL l) && !decide (l=[45,48]))=true then (match Lib.parseIntB 64 l with|.ok v=>(v,0)|_=>(0,3)) else (0,2)
def restL (neg:Bool) (d:List UInt8):Int×Int :=
 if d.all isDig=true then (if dv 0 d≤9223372036854775808 then (if neg=true then (-((dv 0 d:Nat):Int),0) else if dv 0 d=9223372036854775808 then (0,3) else (((dv 0 d:Nat):Int),0)) else (0,3)) else (0,2)
theorem rest_pos {l:List UInt8} (hn:l≠[]) (hd:l.all isDig=true):(match Lib.parseIntB 64 l with|.ok v=>((v,0):Int×Int)|_=>(0,3))=restL false l:=by
 rw [int_pos hn hd]
 unfold restL
 rw [if_pos hd]
 by_cases h1:dv 0 l<9223372036854775808
 ·rw [if_pos h1,if_pos (by omega),if_neg (by simp),if_neg (by omega)]
 ·rw [if_neg h1]
  by_cases h2:dv 0 l≤9223372036854775808
  ·rw [if_pos h2,if_neg (by simp),if_pos (by omega)]
  ·rw [if_neg h2]
theorem rest_neg {l:List UInt8} (hn:l≠[]) (hd:l.all isDig=true):(match Lib.parseIntB 64 (45 ::l) with|.ok v=>((v,0):Int×Int)|_=>(0,3))=restL true l:=by
 rw [int_neg hn hd]
 unfold restL
 rw [if_pos hd]
 by_cases h1:dv 0 l≤9223372036854775808
 ·rw [if_pos h1,if_pos h1,if_pos rfl]
 ·rw [if_neg h1,if_neg h1]
theorem rest_no (b:Bool) {l:List UInt8} (hd:l.all isDig=false):restL b l=(0,2):=by unfold restL;rw [if_neg (by rw [hd];simp)]
theorem read_one (c:UInt8):readL [c]=restL false [c]:=by
 by_cases h:c=45
 ·subst h;rfl
 ·cases hd:isDig c with
  | false =>
   rw [rest_no false (by simp [hd])]
   unfold readL digsL bareL
   rw [if_neg (by simp [h,hd])]
  | true =>
   rw [← rest_pos (l:=[c]) (by simp) (by simp [hd])]
   unfold readL digsL bareL
   rw [if_pos (by simp [h,hd])]
theorem read_neg (d:UInt8) (r:List UInt8):readL (45 ::d ::r)=if d=48 then (0,2) else restL true (d ::r):=by
 have e:bareL (45 ::d ::r)=d ::r:=by simp [bareL]
 by_cases h:d=48
 ·rw [if_pos h]
  subst h
  unfold readL
  rw [e]
  cases r with
  | nil=>rfl
  | cons x r=>rw [if_neg (by simp [digsL])]
 ·rw [if_neg h]
  cases hd:(d ::r).all isDig with
  | false =>
   rw [rest_no true hd]
   unfold readL
   rw [e,if_neg (by unfold digsL;rw [hd];simp)]
  | true =>
   rw [← rest_neg (l:=d ::r) (by simp) hd]
   unfold readL
   rw [e,if_pos (by unfold digsL;rw [hd];simp [h])]
theorem read_pos {c:UInt8} (h:c≠45) (d:UInt8) (r:List UInt8):readL (c ::d ::r)=if c=48 then (0,2) else restL false (c ::d ::r):=by
 have e:bareL (c ::d ::r)=c ::d ::r:=by simp [bareL,h]
 by_cases h0:c=48
 ·rw [if_pos h0]
  subst h0
  unfold readL
  rw [e,if_neg (by simp [digsL])]
 ·rw [if_neg h0]
  cases hd:(c ::d ::r).all isDig with
  | false =>
   rw [rest_no false hd]
   unfold readL
   rw [e,if_neg (by unfold digsL;rw [hd];simp)]
  | true =>
   rw [← rest_pos (l:=c ::d ::r) (by simp) hd]
   unfold readL
   rw [e,if_pos (by unfold digsL;rw [hd];simp [h,h0])]
def overL (l:List UInt8):Bool:=decide (l≠[]) && decide (l[l.length - 1]?=some 33)
def cutOver (l:List UInt8):List UInt8:=if overL l=true then l.dropLast else l
def parseS (l:List UInt8):(Int×Bool)×Int:=if (readL (cutOver l)).2=0 then (((readL (cutOver l)).1,overL l),0) else ((0,false),(readL (cutOver l)).2)
end Go.Proofs.YtdcphpbimeoioaaGreatDoorE
end
section
set_option linter.unusedSectionVars false
namespace Go.Proofs.YtdcphpbimeoioaaGreatDoorE
open Go Go.Proofs
set_option linter.unusedVariables false
set_option linter.unusedSimpArgs false
theorem ofNat_nat {k:Nat} (h:k<256):(UInt8.ofNat k).toNat=k:=by simp [Nat.mod_eq_of_lt h]
theorem dec_digs (a:Nat):(Lib.decDigits a).all isDig=true:=by
 induction a using Nat.strongRecOn with
 | _ a ih =>
  have hd:isDig (UInt8.ofNat (48+a % 10))=true:=isDig_iff.2 (by rw [ofNat_nat (by omega)];omega)
  by_cases h:a<10
  ·rw [dec_small h];simp only [List.all_cons,List.all_nil,hd,Bool.and_self]
  ·rw [dec_big h,List.all_append,ih (a / 10) (by omega)];simp only [List.all_cons,List.all_nil,hd,Bool.and_self]
theorem dv_append:∀ (l:List UInt8) (acc:Nat) (c:UInt8),dv acc (l++[c])=dv acc l * 10+(c.toNat - 48)
 | [],acc,c=>by rw [List.nil_append,dv_cons,dv_nil,dv_nil]
 | d ::l,acc,c=>by rw [List.cons_append,dv_cons,dv_append l,dv_cons]
theorem dv_dec (a:Nat):dv 0 (Lib.decDigits a)=a:=by
 induction a using Nat.strongRecOn with
 | _ a ih =>
  by_cases h:a<10
  ·rw [dec_small h]
   simp only [dv_cons,dv_nil,ofNat_nat (show 48+a % 10<256 by omega)];omega
  ·rw [dec_big h,dv_append,ih (a / 10) (by omega),ofNat_nat (show 48+a % 10<256 by omega)];omega
theorem dec_ne (a:Nat):Lib.decDigits a≠[]:=by
 by_cases h:a<10
 ·rw [dec_small h];simp
 ·rw [dec_big h];simp
theorem dec_head (a:Nat):1≤a→(Lib.decDigits a).headD 0≠48:=by
 induction a using Nat.strongRecOn with
 | _ a ih =>
  intro ha
  by_cases h:a<10
  ·rw [dec_small h]
   intro e
   have:=congrArg UInt8.toNat e
   rw [List.headD_cons,ofNat_nat (show 48+a % 10<256 by omega)] at this
   have h48:(48:UInt8).toNat=48:=rfl
   omega
  ·rw [dec_big h]
   have:=ih (a / 10) (by omega) (by omega)
   cases hd:Lib.decDigits (a / 10) with
   | nil=>exact absurd hd (dec_ne _)
   | cons x r=>rw [hd] at this;simpa using this
theorem dv_pos:∀ (l:List UInt8) (acc:Nat),1≤acc→1≤dv acc l:=fun l acc h=>Nat.le_trans h (dv_le l acc)
theorem dec_dv (l:List UInt8):∀ m,l.length=m→l≠[]→l.all isDig=true→(l.headD 0=48→l=[48])→Lib.decDigits (dv 0 l)=l:=by
 intro m
 induction m generalizing l with
 | zero=>intro h hn;exact absurd (List.length_eq_zero_iff.1 h) hn
 | succ m ih =>
  intro hm hn hd hh
  obtain ⟨l',c,rfl⟩:∃ l' c,l=l'++[c]:=⟨l.dropLast,l.getLast hn,(List.dropLast_concat_getLast hn).symm⟩
  rw [List.all_append,Bool.and_eq_true] at hd
  have hc:=isDig_iff.1 (by simpa using hd.2)
  have hcc:UInt8.ofNat (48+(c.toNat - 48))=c:=by
   apply UInt8.toNat_inj.1
   rw [ofNat_nat (by omega)];omega
  by_cases h0:l'=[]
  ·subst h0
   have e:dv 0 ([]++[c])=c.toNat - 48:=by rw [List.nil_append,dv_cons,dv_nil];omega
   rw [e,dec_small (by omega),Nat.mod_eq_of_lt (by omega),hcc];rfl
  ·have hl:l'.length=m:=by simp at hm;omega
   obtain ⟨x,r,rfl⟩:∃ x r,l'=x ::r:=by cases l' with
    | nil=>exact absurd rfl h0
    | cons x r=>exact ⟨x,r,rfl⟩
   have hx:x≠48:=fun e=>by have:=hh (by simpa using e);simp at this
   have ih':=ih (x ::r) hl (by simp) hd.1 (fun e=>absurd (by simpa using e) hx)
   have hxd:=isDig_iff.1 (List.all_eq_true.1 hd.1 x List.mem_cons_self)
   have hx1:x.toNat≠48:=fun e=>hx (UInt8.toNat_inj.1 (by rw [e];rfl))
   have h1:1≤dv 0 (x ::r):=by
    rw [dv_cons]
    exact dv_pos r _ (by omega)
   rw [dv_append,dec_big (by omega),show (dv 0 (x ::r) * 10+(c.toNat - 48)) / 10=dv 0 (x ::r) by omega,show (dv 0 (x ::r) * 10+(c.toNat - 48)) % 10=c.toNat - 48 by omega,ih',hcc]
theorem dig_ne45 {c:UInt8} (h:isDig c=true):c≠45:=fun e=>by subst e;exact absurd h (by decide)
theorem rest_dec (a:Nat) (b:Bool) (h:a≤9223372036854775808) (h2:b=false→a≤9223372036854775807):restL b (Lib.decDigits a)=(if b=true then -(a:Int) else (a:Int),0):=by
 unfold restL
 rw [if_pos (dec_digs a),dv_dec,if_pos h]
 cases b with
 | true=>rfl
 | false=>rw [if_neg (by simp),if_neg (by have:=h2 rfl;omega),if_neg (by simp)]
theorem read_itoa {i:Int} (hi:I64 i):readL (Lib.itoa i)=(i,0):=by
 obtain ⟨h1,h2⟩:=hi
 unfold Lib.itoa
 by_cases h:i<0
 ·rw [if_pos h]
  have hh:=dec_head i.natAbs (by omega)
  have hr:=rest_dec i.natAbs true (by omega) (fun e=>by cases e)
  cases hd:Lib.decDigits i.natAbs with
  | nil=>exact absurd hd (dec_ne _)
  | cons x r =>
   rw [hd] at hh hr
   rw [read_neg,if_neg (by simpa using hh),hr,if_pos rfl]
   congr 1;omega
 ·rw [if_neg h]
  have hh:=dec_head i.toNat
  have hr:=rest_dec i.toNat false (by omega) (fun _=>by omega)
  have ha:=dec_digs i.toNat
  have hv:=dv_dec i.toNat
  rw [if_neg (by simp)] at hr
  cases hd:Lib.decDigits i.toNat with
  | nil=>exact absurd hd (dec_ne _)
  | cons x r =>
   rw [hd] at hh hr ha hv
   have hx:=List.all_eq_true.1 ha x List.mem_cons_self
   cases r with
   | nil=>rw [read_one,hr];congr 1;omega
   | cons y r =>
    have h1:1≤i.toNat:=by
     rcases Nat.eq_zero_or_pos i.toNat with e|e
     ·rw [e,Lib.decDigits_one (by omega)] at hd;cases hd
     ·exact e
    rw [read_pos (dig_ne45 hx),if_neg (by simpa using hh h1),hr]
    congr 1;omega
theorem rest_back {b:Bool} {d:List UInt8} {v:Int} (hn:d≠[]) (hh:d.headD 0=48→d=[48]) (hz:b=true→d.headD 0≠48) (h:restL b d=(v,0)):Lib.itoa v=(if b=true then 45 ::d else d)∧I64 v:=by
 unfold restL at h
 by_cases hd:d.all isDig=true
 ·rw [if_pos hd] at h
  have hdv:=dec_dv d _ rfl hn hd hh
  by_cases h1:dv 0 d≤9223372036854775808
  ·rw [if_pos h1] at h
   cases b with
   | true =>
    rw [if_pos rfl] at h
    have hv:=(Prod.mk.inj h).1
    have hp:1≤dv 0 d:=by
     rcases Nat.eq_zero_or_pos (dv 0 d) with e|e
     ·rw [e,Lib.decDigits_one (by omega)] at hdv
      exact absurd (by rw [← hdv];rfl) (hz rfl)
     ·exact e
    constructor
    ·unfold Lib.itoa
     rw [if_pos (by omega),if_pos rfl,show v.natAbs=dv 0 d by omega,hdv]
    ·exact ⟨by omega,by omega⟩
   | false =>
    rw [if_neg (by simp)] at h
    by_cases h2:dv 0 d=9223372036854775808
    ·rw [if_pos h2] at h;exact absurd (Prod.mk.inj h).2 (by decide)
    ·rw [if_neg h2] at h
     have hv:=(Prod.mk.inj h).1
     constructor
     ·unfold Lib.itoa
      rw [if_neg (by omega),if_neg (by simp),show v.toNat=dv 0 d by omega,hdv]
     ·exact ⟨by omega,by omega⟩
  ·rw [if_neg h1] at h;exact absurd (Prod.mk.inj h).2 (by decide)
 ·rw [if_neg hd] at h;exact absurd (Prod.mk.inj h).2 (by decide)
theorem itoa_read {l:List UInt8} {v:Int} (h:readL l=(v,0)):Lib.itoa v=l∧I64 v:=by
 match l,h with
 | [],h=>exact absurd (Prod.mk.inj h).2 (by decide)
 | [c],h =>
  rw [read_one] at h
  have:=rest_back (b:=false) (by simp) (fun e=>by simpa using e) (fun e=>by cases e) h
  simpa using this
 | c ::d ::r,h =>
  by_cases hc:c=45
  ·subst hc
   rw [read_neg] at h
   by_cases hd:d=48
   ·rw [if_pos hd] at h;exact absurd (Prod.mk.inj h).2 (by decide)
   ·rw [if_neg hd] at h
    have:=rest_back (b:=true) (by simp) (fun e=>absurd (by simpa using e) hd) (fun _=>by simpa using hd) h
    simpa using this
  ·rw [read_pos hc] at h
   by_cases hd:c=48
   ·rw [if_pos hd] at h;exact absurd (Prod.mk.inj h).2 (by decide)
   ·rw [if_neg hd] at h
    have:=rest_back (b:=false) (by simp) (fun e=>absurd (by simpa using e) hd) (fun e=>by cases e) h
    simpa using this
def inNumB (c:UInt8):Bool:=isDig c || decide (c=45)
theorem itoa_chars (i:Int):(Lib.itoa i).all inNumB=true:=by
 have key:∀ a,(Lib.decDigits a).all inNumB=true:=fun a=>by
  rw [List.all_eq_true]
  intro x hx
  have:=List.all_eq_true.1 (dec_digs a) x hx
  simp [inNumB,this]
 unfold Lib.itoa
 split
 ·rw [List.all_cons,key];decide
 ·exact key _
theorem itoa_no (i:Int) (c:UInt8) (h:inNumB c=false):c ∉ Lib.itoa i:=fun hm=>by
 have:=List.all_eq_true.1 (itoa_chars i) c hm
 rw [h] at this;cases this
theorem over_no {l:List UInt8} (h:(33:UInt8) ∉ l):overL l=false:=by
 unfold overL
 rw [Bool.and_eq_false_iff]
 right
 rw [decide_eq_false_iff_not]
 exact fun e=>h (List.mem_of_getElem? e)
theorem over_app (l:List UInt8):overL (l++[33])=true:=by
 unfold overL;simp
def sumL (x:SM):List UInt8:=Lib.itoa x.1++if x.2.1=true then [33] else []
theorem parse_sum (x:SM) (hx:I64 x.1):parseS (sumL x)=((x.1,x.2.1),0):=by
 obtain ⟨a,o,⟨⟩⟩:=x
 have h0:=over_no (itoa_no a 33 (by decide))
 have h1:=read_itoa hx
 simp only at h1
 cases o with
 | false =>
  have e:sumL ((a,false,()):SM)=Lib.itoa a:=by simp [sumL]
  have hc:cutOver (Lib.itoa a)=Lib.itoa a:=by unfold cutOver;rw [h0];rfl
  unfold parseS
  rw [e,hc,h1,h0,if_pos rfl]
 | true =>
  have e:sumL ((a,true,()):SM)=Lib.itoa a++[33]:=by simp [sumL]
  have hc:cutOver (Lib.itoa a++[33])=Lib.itoa a:=by unfold cutOver;rw [over_app,if_pos rfl,List.dropLast_concat]
  unfold parseS
  rw [e,hc,h1,over_app,if_pos rfl]
theorem sum_parse {l:List UInt8} (h:(parseS l).2=0):sumL ((parseS l).1.1,(parseS l).1.2,())=l∧I64 (parseS l).1.1:=by
 unfold parseS at h ⊢
 by_cases h0:(readL (cutOver l)).2=0
 ·rw [if_pos h0]
  have hr:readL (cutOver l)=((readL (cutOver l)).1,0):=by rw [← h0]
  obtain ⟨h1,h2⟩:=itoa_read hr
  refine ⟨?_,h2⟩
  show Lib.itoa (readL (cutOver l)).1++(if overL l=true then [33] else [])=l
  rw [h1]
  unfold cutOver
  by_cases ho:overL l=true
  ·rw [if_pos ho,if_pos ho]
   unfold overL at ho
   rw [Bool.and_eq_true,decide_eq_true_eq,decide_eq_true_eq] at ho
   have hp:=List.length_pos_iff.2 ho.1
   have e:l.getLast ho.1=33:=by
    rw [List.getLast_eq_getElem]
    rw [List.getElem?_eq_getElem (by omega)] at ho
    exact Option.some.inj ho.2
   have:=List.dropLast_concat_getLast ho.1
   rw [e] at this;exact this
  ·rw [if_neg ho,if_neg ho,List.append_nil]
 ·rw [if_neg h0] at h;exact absurd h h0
theorem sum_chars (x:SM) (c:UInt8) (h:inNumB c=false) (h2:c≠33):c ∉ sumL x:=by
 unfold sumL
 intro hm
 rcases List.mem_append.1 hm with k|k
 ·exact itoa_no _ c h k
 ·split at k
  ·simp at k;exact h2 k
  ·cases k
end Go.Proofs.YtdcphpbimeoioaaGreatDoorE
end
section
set_option linter.unusedSectionVars false
namespace Go.Proofs.YtdcphpbimeoioaaGreatDoorE
open Go Go.Proofs
set_option linter.unusedVariables false
set_option linter.unusedSimpArgs false
abbrev RW:=El tRow
def befR (a b:RW):Bool:=decide (a.1<b.1) || (decide (a.1=b.1) && Op.bytesLess (bl a.2.1) (bl b.2.1))
theorem r08_Before_v (n:Nat) (x:SgEl r08_Before_sg):r08_Before n x=some ((befR x.1 x.2.1,()),((),(),())):=by
 obtain ⟨a,b,⟨⟩⟩:=x
 unfold r08_Before befR
 by_cases h:a.1<b.1
 ·simp [h]
 ·by_cases e:a.1=b.1
  ·simp [e];rfl
  ·simp [h,e]
theorem cmp_Or_v {n:Nat} (hn:Big n) (a b:Int):cmp_Or n ([a,b],())=some ((if a=0 then b else a,()),((),())):=by
 obtain ⟨m,rfl⟩:∃ m,n=m+1+1+1:=⟨n - 3,by unfold Big at hn;omega⟩
 have e1:iadd .i64 (0:Int) 1=1:=by rw [iadd64 (by omega) (by omega)];rfl
 have e2:iadd .i64 (1:Int) 1=2:=by rw [iadd64 (by omega) (by omega)];rfl
 by_cases h:a=0
 ·by_cases h':b=0<;>simp [cmp_Or,cmp_Or_l0,ilen,e1,e2,h,h']
 ·simp [cmp_Or,cmp_Or_l0,ilen,e1,e2,h]
theorem cmp_Compare_v (n:Nat) (a b:Int):cmp_Compare n (a,b,())=some ((if a<b then -1 else if b<a then 1 else 0,()),((),(),())):=by
 have e:∀ k:Int,cmp_isNaN n (k,())=some ((false,()),((),())):=fun k=>by simp [cmp_isNaN]
 unfold cmp_Compare
 rw [e a,e b]
 by_cases h:a<b
 ·simp [h]
 ·by_cases h':b<a<;>simp [h,h']
theorem row_Before_v {n:Nat} (hn:Big n) (x:SgEl row_Before_sg):row_Before n x=some ((befR x.1 x.2.1,()),((),(),())):=by
 obtain ⟨a,b,⟨⟩⟩:=x
 have h1:=cmp_Compare_v n a.1 b.1
 have h2:=cmp_Or_v hn (if a.1<b.1 then -1 else if b.1<a.1 then 1 else 0) (Lib.compareBytes a.2.1.data.toList b.2.1.data.toList)
 have h3:=cmp_lt (bl a.2.1) (bl b.2.1)
 simp only [row_Before,row_of,row_order,bindN_s,h1,s_Compare,h2,ilt_eq,befR]
 congr 3
 rw [Bool.eq_iff_iff,decide_eq_true_eq,Bool.or_eq_true,Bool.and_eq_true,decide_eq_true_eq,decide_eq_true_eq,← h3]
 by_cases p:a.1<b.1
 ·simp [p]
 ·by_cases q:b.1<a.1
  ·have:¬ a.1=b.1:=fun e=>Int.lt_irrefl b.1 (by rw [e] at q;exact q)
   simp [p,q,this]
  ·have:a.1=b.1:=Int.le_antisymm (Int.not_lt.1 q) (Int.not_lt.1 p)
   simp [this];rfl
def groupE (s:ByteArray):Int:=if (parseT s).2=0 then (if textT (parseT s).1=s then 0 else 2) else (parseT s).2
theorem parse_fit (s:ByteArray):Fit (parseT s).1:=by
 rcases parse_out s with ⟨_,h⟩|⟨_,h⟩
 ·exact (right_fit h).1
 ·rw [h];exact ⟨by simp,fun t ht=>by simp at ht⟩
theorem r08_group_v {n:Nat} (hn:Big n) (s:ByteArray) (hs:s.size≤100000):r08_group n (s,())=some ((groupE s,()),((),())):=by
 simp only [r08_group,r03_Parse_v hn s hs,bindN_s,r03_Text_v hn _ (parse_fit s),ieq_eq,seq_eq,groupE]
 by_cases h:(parseT s).2=0
 ·by_cases h':textT (parseT s).1=s<;>simp [h,h']
 ·simp [h]
theorem row_group_v {n:Nat} (hn:Big n) (s:ByteArray) (hs:s.size≤100000):row_group n (s,())=some ((groupE s,()),((),())):=by
 simp only [row_group,tag_Parse_v hn s hs,bindN_s,tag_Text_v hn _ (parse_fit s),ieq_eq,seq_eq,groupE]
 by_cases h:(parseT s).2=0
 ·by_cases h':textT (parseT s).1=s<;>simp [h,h']
 ·simp [h]
def riseR:List RW→Bool
 | a ::b ::r=>befR a b && riseR (b ::r)
 | _=>true
def okG (r:RW):Bool:=decide (groupE r.2.1=0)
def rightR (l:List RW):Bool:=l.all okG && riseR l
theorem rise_drop (l:List RW) (i:Nat) (h:i+1<l.length):riseR (l.drop i)=(befR l[i] l[i+1] && riseR (l.drop (i+1))):=by
 rw [drop_cons l i (by omega),drop_cons l (i+1) h,riseR]
def FitR (l:List RW):Prop:=l.length≤100000∧∀ r∈l,r.2.1.size≤100000
theorem rise_loop {L:Nat→Int→Option (Unit ⊕ (Bool×Unit))} (l:List RW) (hl:l.length≤100000) (hend:∀ g i,l.length≤i→L (g+1) (i:Int)=some (.inl ()))
  (hstep:∀ g i (h:i+1<l.length),L (g+1) ((i+1:Nat):Int)=bif befR l[i] l[i+1] then L g ((i+1+1:Nat):Int) else some (.inr (false,()))) {g:Nat} (hg:l.length<g) :
  L g (1:Int)=some (bif riseR l then .inl () else .inr (false,())):=by
 have key:∀ (d i g:Nat),i+1+d=l.length→d<g→L g ((i+1:Nat):Int)=some (bif riseR (l.drop i) then .inl () else .inr (false,())):=by
  intro d
  induction d with
  | zero =>
   intro i g hd hg
   obtain ⟨g,rfl⟩:∃ g',g=g'+1:=⟨g - 1,by omega⟩
   rw [hend g (i+1) (by omega),drop_cons l i (by omega),List.drop_of_length_le (by omega)]
   rfl
  | succ d ih =>
   intro i g hd hg
   obtain ⟨g,rfl⟩:∃ g',g=g'+1:=⟨g - 1,by omega⟩
   rw [hstep g i (by omega),ih (i+1) g (by omega) (by omega),rise_drop l i (by omega)]
   cases befR l[i] l[i+1]<;>simp
 cases h:l with
 | nil =>
  obtain ⟨g,rfl⟩:∃ g',g=g'+1:=⟨g - 1,by omega⟩
  have:=hend g 1 (by rw [h];simp)
  simpa [riseR] using this
 | cons x r =>
  have:=key (l.length - 1) 0 g (by rw [h];simp;omega) (by omega)
  rw [h] at this
  simpa using this
theorem r08_rise_v {n:Nat} (hn:Big n) (l:List RW) (hl:l.length≤100000):r08_rise n (l,())=some ((riseR l,()),((),())):=by
 have hL:=rise_loop (L:=fun g i=>r08_rise_l0 n g (l,i,())) l hl (fun g i hi=>by
  have k:¬ (i:Int)<(l.length:Int):=by omega
  simp only [r08_rise_l0,ilt_eq,ilen,k,decide_false,cond_false]) (fun g i hi=>by
  have k:((i+1:Nat):Int)<(l.length:Int):=by omega
  have k0:(0:Int)≤i:=by omega
  have k1:(0:Int)≤((i+1:Nat):Int):=by omega
  have e0:isub .i64 ((i+1:Nat):Int) 1=(i:Int):=by rw [isub64 (by omega) (by omega)];omega
  simp only [r08_rise_l0,ilt_eq,ile_eq,ilen,k,k0,k1,e0,decide_true,cond_true,lat_eq,iN,Int.toNat_natCast,List.getElem?_eq_getElem hi,List.getElem?_eq_getElem (show i<l.length by omega),bindN_s,r08_Before_v,iadd1 (i:=i+1) (by omega),bindL_id]
  cases befR l[i] l[i+1]<;>rfl) (g:=n) (by unfold Big at hn;omega)
 simp only [r08_rise,hL]
 cases riseR l<;>simp
theorem row_rise_v {n:Nat} (hn:Big n) (l:List RW) (hl:l.length≤100000):row_rise n (l,())=some ((riseR l,()),((),())):=by
 have hL:=rise_loop (L:=fun g i=>row_rise_l0 n g (l,i,())) l hl (fun g i hi=>by
  have k:¬ (i:Int)<(l.length:Int):=by omega
  simp only [row_rise_l0,ilt_eq,ilen,k,decide_false,cond_false]) (fun g i hi=>by
  have k:((i+1:Nat):Int)<(l.length:Int):=by omega
  have k0:(0:Int)≤i:=by omega
  have k1:(0:Int)≤((i+1:Nat):Int):=by omega
  have e0:isub .i64 ((i+1:Nat):Int) 1=(i:Int):=by rw [isub64 (by omega) (by omega)];omega
  simp only [row_rise_l0,ilt_eq,ile_eq,ilen,k,k0,k1,e0,decide_true,cond_true,lat_eq,iN,Int.toNat_natCast,List.getElem?_eq_getElem hi,List.getElem?_eq_getElem (show i<l.length by omega),bindN_s,row_Before_v hn,iadd1 (i:=i+1) (by omega),bindL_id]
  cases befR l[i] l[i+1]<;>rfl) (g:=n) (by unfold Big at hn;omega)
 simp only [row_rise,hL]
 cases riseR l<;>simp
theorem r08_Right_v {n:Nat} (hn:Big n) (l:List RW) (hl:FitR l):r08_Right n (l,())=some ((rightR l,()),((),())):=by
 have hlen:=hl.1
 have hL:=any_loop' (a:=l) (fun t => !okG t) (l,()) (false,()) (L:=fun g i=>r08_Right_l0 n g (l,i,())) (fun g=>by simp [r08_Right_l0,ilen]) (fun g i hi=>by
  have k:(i:Int)<(l.length:Int):=by omega
  have k1:(0:Int)≤i:=by omega
  have hg:=r08_group_v hn l[i].2.1 (hl.2 _ (List.getElem_mem hi))
  simp only [r08_Right_l0,ilt_eq,ile_eq,ieq_eq,ilen,k,k1,decide_true,cond_true,lat_eq,iN,Int.toNat_natCast,List.getElem?_eq_getElem hi,bindN_s,hg,iadd1 (i:=i) (by omega),bindL_id1,okG]) (g:=n) (by unfold Big at hn;omega)
 rw [all_any] at hL
 unfold r08_Right rightR
 simp only [hL]
 cases l.all okG with
 | false=>simp
 | true=>simp [r08_rise_v hn l hlen]
end Go.Proofs.YtdcphpbimeoioaaGreatDoorE
end
section
set_option linter.unusedSectionVars false
namespace Go.Proofs.YtdcphpbimeoioaaGreatDoorE
open Go Go.Proofs
set_option linter.unusedVariables false
set_option linter.unusedSimpArgs false
abbrev NoB:ByteArray:=⟨#[]⟩
theorem last_drop (l:List UInt8) (h:0<l.length):l.drop (l.length - 1)=[l[l.length - 1]'(by omega)]:=by
 rw [drop_cons l (l.length - 1) (by omega),List.drop_of_length_le (by omega)]
def endC (c:UInt8) (l:List UInt8):Bool:=decide (l[l.length - 1]?=some c)
theorem splitB_join (c:UInt8) (x:ByteArray) (l:List ByteArray) (h:∀ y∈x ::l,c ∉ bl y):splitB c (joinB (mkB [c]) (x ::l))=x ::l:=by
 unfold splitB joinB
 rw [bl_mk (Lib.join ((x ::l).map bl) (bl (mkB [c]))),bl_mkB,List.map_cons,split_join]
 ·simp [mk_bl,Function.comp_def]
 ·intro y hy
  rcases List.mem_cons.1 hy with rfl|hy
  ·exact h x List.mem_cons_self
  ·obtain ⟨u,hu,rfl⟩:=List.mem_map.1 hy
   exact h u (List.mem_cons_of_mem _ hu)
theorem tl_no (c:UInt8) (sep:List UInt8) (hs:c ∉ sep):∀ l:List (List UInt8),(∀ y∈l,c ∉ y)→c ∉ tl sep l
 | [],_=>by simp [Lib.joinTail]
 | x ::l,h=>by
  rw [tl_cons]
  intro k
  rcases List.mem_append.1 k with k|k
  ·rcases List.mem_append.1 k with k|k
   ·exact hs k
   ·exact h x List.mem_cons_self k
  ·exact tl_no c sep hs l (fun y hy=>h y (List.mem_cons_of_mem _ hy)) k
theorem join_no (c:UInt8) (sep:ByteArray) (hs:c ∉ bl sep) (l:List ByteArray) (h:∀ y∈l,c ∉ bl y):c ∉ bl (joinB sep l):=by
 cases l with
 | nil=>rw [joinB_nil];intro k;cases k
 | cons x l =>
  rw [joinB_cons]
  intro k
  rcases List.mem_append.1 k with k|k
  ·exact h x List.mem_cons_self k
  ·refine tl_no c (bl sep) hs (l.map bl) (fun y hy=>?_) k
   obtain ⟨u,hu,rfl⟩:=List.mem_map.1 hy
   exact h u (List.mem_cons_of_mem _ hu)
end Go.Proofs.YtdcphpbimeoioaaGreatDoorE
end
section
set_option linter.unusedSectionVars false
namespace Go.Proofs.YtdcphpbimeoioaaGreatDoorE
open Go Go.Proofs
set_option linter.unusedVariables false
set_option linter.unusedSimpArgs false
def rowL (r:RW):ByteArray:=joinB (mkB [124]) [numB r.1,r.2.1,mkB (sumL r.2.2.1)]
def textR (l:List RW):ByteArray:=if l.length=0 then mkB [45] else joinB (mkB [59]) (l.map rowL)
theorem bl_join3 (sep a b c:ByteArray):bl (joinB sep [a,b,c])=bl a++(bl sep++(bl b++(bl sep++bl c))):=by
 rw [joinB_cons];simp [tl_cons,Lib.joinTail]
theorem bl_row (r:RW):bl (rowL r)=Lib.itoa r.1++(124 ::(bl r.2.1++(124 ::sumL r.2.2.1))):=by
 unfold rowL numB
 rw [bl_join3,bl_mkB,bl_mkB,bl_mkB];rfl
def RowFit (r:RW):Prop:=I64 r.1∧I64 r.2.2.1.1∧r.2.1.size≤100000
theorem sumL_len {x:SM} (h:I64 x.1):(sumL x).length≤22:=by
 have:=Lib.itoa_length_le x.1 h.1 h.2
 unfold sumL
 rw [List.length_append]
 split<;>simp<;>omega
theorem row_len {r:RW} (h:RowFit r):(bl (rowL r)).length≤100045:=by
 have h1:=Lib.itoa_length_le r.1 h.1.1 h.1.2
 have h2:=sumL_len h.2.1
 have h3:=h.2.2
 rw [bl_row]
 simp only [List.length_append,List.length_cons,size_bl];omega
def FitRs (l:List RW):Prop:=l.length≤100000∧∀ r∈l,RowFit r
theorem textR_len {l:List RW} (h:FitRs l):(bl (joinB (mkB [59]) (l.map rowL))).length≤10004600000:=by
 have h2:=joinB_len (mkB [59]) 100045 (l.map rowL) (fun x hx=>by
  obtain ⟨r,hr,rfl⟩:=List.mem_map.1 hx
  exact row_len (h.2 r hr))
 rw [List.length_map] at h2
 have h3:l.length * ((bl (mkB [59])).length+100045)≤100000 * 100046:=Nat.le_trans (Nat.mul_le_mul_right _ h.1) (by rw [bl_mkB];simp)
 exact Nat.le_trans h2 (Nat.le_trans h3 (by decide))
def zR:RW:=(0,NoB,(0,false,()),())
def oneR (s:ByteArray):RW×Int :=
 match splitB 124 s with
 | [a,b,c]=>if (readL (bl a)).2=0 then (if groupE b=0 then (if (parseS (bl c)).2=0 then (((readL (bl a)).1,b,((parseS (bl c)).1.1,(parseS (bl c)).1.2,()),()),0) else (zR,(parseS (bl c)).2)) else (zR,groupE b)) else (zR,(readL (bl a)).2)
 | _=>(zR,2)
theorem oneR_no {s:ByteArray} (h:(splitB 124 s).length≠3):oneR s=(zR,2):=by
 unfold oneR
 generalize splitB 124 s=p at h
 rcases p with _|⟨a,_|⟨b,_|⟨c,_|⟨d,r⟩⟩⟩⟩
 all_goals first|rfl|exact absurd rfl h
def scanR:List RW→List ByteArray→List RW ⊕ Int
 | acc,[] => .inl acc
 | acc,x ::r=>if (oneR x).2=0 then scanR (acc++[(oneR x).1]) r else .inr (oneR x).2
def parseR (s:ByteArray):List RW×Int :=
 if bl s=[45] then ([],0) else match scanR [] (splitB 59 s) with
 | .inl o=>if riseR o=true then (o,0) else ([],9)
 | .inr e=>([],e)
theorem scanR_len:∀ (ps:List ByteArray) (acc o:List RW),scanR acc ps = .inl o→o.length=acc.length+ps.length
 | [],acc,o,h=>by simp [scanR] at h;subst h;simp
 | x ::r,acc,o,h=>by
  rw [scanR] at h
  split at h
  ·rw [scanR_len r _ o h];simp;omega
  ·cases h
theorem eq45 (s:ByteArray):s=(⟨#[45]⟩:ByteArray)↔bl s=[45]:=⟨fun h=>by rw [h];rfl,fun h=>bl_inj h⟩
end Go.Proofs.YtdcphpbimeoioaaGreatDoorE
end
section
set_option linter.unusedSectionVars false
namespace Go.Proofs.YtdcphpbimeoioaaGreatDoorE
open Go Go.Proofs
set_option linter.unusedVariables false
set_option linter.unusedSimpArgs false
theorem one_sz (c:UInt8):((⟨#[c]⟩:ByteArray).size:Int)=1:=rfl
theorem eq_one (l:List UInt8) (c:UInt8):((⟨l.toArray⟩:ByteArray)=(⟨#[c]⟩:ByteArray))↔l=[c]:=by
 constructor
 ·intro h
  have:=congrArg bl h
  rw [bl_mk l] at this
  exact this
 ·intro h;rw [h]
theorem prefix1 (n:Nat) (s:ByteArray) (c:UInt8):s_slHasPrefix n (s,(⟨#[c]⟩:ByteArray),())=some ((decide ((bl s).head?=some c),()),((),(),())):=by
 have hz:=size_bl s
 unfold s_slHasPrefix
 cases hb:bl s with
 | nil =>
  rw [hb] at hz
  have e:¬ (1:Int)≤(s.size:Int):=by simp at hz;omega
  simp only [ile_eq,ssize_eq,one_sz,e,decide_false,cond_false]
  rfl
 | cons x r =>
  rw [hb] at hz
  have e:(1:Int)≤(s.size:Int):=by simp at hz;omega
  have e2:s.extract 0 1=⟨([x]:List UInt8).toArray⟩:=by have:=ext_take s 1;rw [hb] at this;simpa using this
  simp only [ile_eq,ssize_eq,one_sz,e,decide_true,cond_true,Int.le_refl,sext_eq,seq_eq,show (0:Int).toNat=0 from rfl,show (1:Int).toNat=1 from rfl,show decide ((0:Int)≤1)=true from rfl,e2,eq_one]
  simp
theorem suffix1 (n:Nat) (s:ByteArray) (c:UInt8) (hs:s.size≤9000000000000):s_slHasSuffix n (s,(⟨#[c]⟩:ByteArray),())=some ((endC c (bl s),()),((),(),())):=by
 have hz:=size_bl s
 unfold s_slHasSuffix
 by_cases h:1≤s.size
 ·have e:(1:Int)≤(s.size:Int):=by omega
  have e1:isub .i64 (s.size:Int) 1=((s.size - 1:Nat):Int):=by rw [isub64 (by omega) (by omega)];omega
  have e0:(0:Int)≤((s.size - 1:Nat):Int):=by omega
  have e3:((s.size - 1:Nat):Int)≤(s.size:Int):=by omega
  have hl:=last_drop (bl s) (by omega)
  have e2:s.extract (s.size - 1) s.size=⟨([(bl s)[(bl s).length - 1]'(by omega)]:List UInt8).toArray⟩:=by rw [ext_drop s (s.size - 1),← hz,hl]
  simp only [ile_eq,ssize_eq,one_sz,e,e1,e0,e3,decide_true,cond_true,Int.le_refl,sext_eq,seq_eq,Int.toNat_natCast,e2,eq_one]
  have e4:(bl s)[(bl s).length - 1]?=some ((bl s)[(bl s).length - 1]'(by omega)):=List.getElem?_eq_getElem (by omega)
  unfold endC
  rw [e4]
  simp
 ·have e:¬ (1:Int)≤(s.size:Int):=by omega
  have hb:bl s=[]:=List.length_eq_zero_iff.1 (by omega)
  simp only [ile_eq,ssize_eq,one_sz,e,decide_false,cond_false]
  unfold endC
  rw [hb];rfl
theorem trimP_v (n:Nat) (s:ByteArray):s_TrimPrefix n (s,(⟨#[45]⟩:ByteArray),())=some ((mkB (bareL (bl s)),()),((),(),())):=by
 have hz:=size_bl s
 unfold s_TrimPrefix s_slTrimPrefix
 rw [prefix1]
 have es:s=mkB (bl s):=bl_inj (by rw [bl_mkB])
 cases hb:bl s with
 | nil =>
  simp only [bindN_s,List.head?_nil]
  rw [hb] at es
  rw [show bareL []=[] from rfl,← es];simp
 | cons x r =>
  rw [hb] at hz es
  by_cases h:x=45
  ·subst h
   have e:(1:Int)≤(s.size:Int):=by simp at hz;omega
   have e2:s.extract 1 s.size=mkB r:=by have:=ext_drop s 1;rw [hb] at this;exact this
   simp only [bindN_s,List.head?_cons,decide_true,cond_true,ile_eq,ssize_eq,one_sz,e,Int.le_refl,sext_eq,Int.toNat_natCast,show (1:Int).toNat=1 from rfl,show decide ((0:Int)≤1)=true from rfl,e2]
   rfl
  ·have e3:bareL (x ::r)=x ::r:=by unfold bareL;split<;>simp_all
   rw [e3,← es]
   simp [h]
theorem trimS_v (n:Nat) (s:ByteArray) (hs:s.size≤9000000000000):s_TrimSuffix n (s,(⟨#[33]⟩:ByteArray),())=some ((mkB (cutOver (bl s)),()),((),(),())):=by
 have hz:=size_bl s
 have es:s=mkB (bl s):=bl_inj (by rw [bl_mkB])
 have ho:overL (bl s)=endC 33 (bl s):=by
  unfold overL endC
  cases hb:bl s with
  | nil=>rfl
  | cons x r=>simp
 unfold s_TrimSuffix s_slTrimSuffix cutOver
 rw [suffix1 n s 33 hs,ho]
 cases h:endC 33 (bl s) with
 | false=>simp only [bindN_s,cond_false,Bool.false_eq_true,if_false];rw [← es]
 | true =>
  have h1:1≤s.size:=by
   rw [← hz]
   cases hb:bl s with
   | nil=>rw [hb] at h;simp [endC] at h
   | cons x r=>simp
  have e1:isub .i64 (s.size:Int) 1=((s.size - 1:Nat):Int):=by rw [isub64 (by omega) (by omega)];omega
  have e0:(0:Int)≤((s.size - 1:Nat):Int):=by omega
  have e3:((s.size - 1:Nat):Int)≤(s.size:Int):=by omega
  have e2:s.extract 0 (s.size - 1)=mkB (bl s).dropLast:=by rw [ext_take s (s.size - 1),List.dropLast_eq_take,hz];rfl
  simp only [bindN_s,cond_true,ile_eq,Int.le_refl,decide_true,ssize_eq,one_sz,e1,e0,e3,sext_eq,Int.toNat_natCast,show (0:Int).toNat=0 from rfl,e2,if_true]
theorem in_dig (b:UInt8):([48,49,50,51,52,53,54,55,56,57]:List UInt8).contains b=isDig b:=by
 have:=all_u8 (p:=fun b=>([48,49,50,51,52,53,54,55,56,57]:List UInt8).contains b ==isDig b) (by decide+kernel) b
 simpa using this
theorem sat_digits_v (n:Nat) (s:ByteArray) (hs:s.size≤9000000000000):sat_digits n (s,())=some ((digsL (bl s),()),((),())):=by
 have hz:=size_bl s
 unfold sat_digits digsL
 by_cases h:bl s=[]
 ·simp [bl_nil,h]
 ·have hl:1≤(bl s).length:=by cases hh:bl s with
   | nil=>exact absurd hh h
   | cons a t=>simp
  have e0:(0:Int)<(s.size:Int):=by omega
  have e3:Nat.ble s.size 9223372036854775807=true:=by rw [Nat.ble_eq];omega
  have e4:Nat.blt (⟨#[48,49,50,51,52,53,54,55,56,57]⟩:ByteArray).size 4294967281=true:=by decide
  have e5:((⟨#[48,49,50,51,52,53,54,55,56,57]⟩:ByteArray).data.toList.all fun b=>decide (b.toNat<128))=true:=by decide
  have hT:s_Trim n (s,(⟨#[48,49,50,51,52,53,54,55,56,57]⟩:ByteArray),())=some ((mkB (Lib.trimS (bl s) [48,49,50,51,52,53,54,55,56,57]),()),((),(),())):=by
   unfold s_Trim
   simp only [e3,e4,e5,Bool.and_self,cond_true];rfl
  have e6:decide (mkB (Lib.trimS (bl s) [48,49,50,51,52,53,54,55,56,57])=(⟨#[]⟩:ByteArray))=(bl s).all isDig:=by
   rw [Bool.eq_iff_iff,decide_eq_true_eq,bl_nil,bl_mkB,trim_nil]
   have:(bl s).all (fun b=>([48,49,50,51,52,53,54,55,56,57]:List UInt8).contains b)=(bl s).all isDig:=by congr 1;funext b;exact in_dig b
   rw [this]
  have e7:decide ((((bl s).headD 0).toNat:Int)=48)=decide ((bl s).headD 0=48):=by
   rw [Bool.eq_iff_iff,decide_eq_true_eq,decide_eq_true_eq];exact u8_int ((bl s).headD 0) 48
  have e8:decide (s=(⟨#[48]⟩:ByteArray))=decide (bl s=[48]):=by
   rw [Bool.eq_iff_iff,decide_eq_true_eq,decide_eq_true_eq];exact ⟨fun hh=>by rw [hh];rfl,fun hh=>bl_inj hh⟩
  simp only [seq_eq,bl_nil,h,decide_false,cond_false,ile_eq,Int.le_refl,decide_true,cond_true,ilt_eq,ssize_eq,e0,sat_0 s hl,ieq_eq,e7,e8,hT,bindN_s,Bool.not_false,Bool.true_and]
  rw [show decide (bl (mkB (Lib.trimS (bl s) [48,49,50,51,52,53,54,55,56,57]))=[])=(bl s).all isDig by rw [← e6,Bool.eq_iff_iff,decide_eq_true_eq,decide_eq_true_eq,bl_nil]]
  cases decide ((bl s).headD 0=48)<;>cases decide (bl s=[48])<;>simp
theorem bare_parse {s:ByteArray} (h:(digsL (bareL (bl s)) && !decide (bl s=[45,48]))=true):readB s=some (readL (bl s)):=by
 have hd:bareL (bl s)≠[]∧(bareL (bl s)).all isDig=true:=by
  unfold digsL at h
  simp only [Bool.and_eq_true,Bool.not_eq_true',decide_eq_false_iff_not] at h
  exact ⟨h.1.1,h.1.2.2⟩
 unfold readL readB
 rw [if_pos h]
 rw [show s.data.toList=bl s from rfl]
 cases hb:bl s with
 | nil=>rw [hb] at hd;exact absurd rfl hd.1
 | cons c r =>
  rw [hb] at hd
  by_cases hc:c=45
  ·subst hc
   rw [int_neg (r:=r) hd.1 hd.2]
   by_cases q:dv 0 r≤9223372036854775808<;>simp [q]
  ·have e3:bareL (c ::r)=c ::r:=by unfold bareL;split<;>simp_all
   rw [e3] at hd
   rw [int_pos hd.1 hd.2]
   by_cases q:dv 0 (c ::r)<9223372036854775808<;>simp [q]
theorem sat_Read_v (n:Nat) (s:ByteArray) (hs:s.size≤9000000000000):sat_Read n (s,())=some (((readL (bl s)).1,(readL (bl s)).2,()),((),())):=by
 have hz:=size_bl s
 have e1:Nat.ble s.size 281474976710656=true:=by rw [Nat.ble_eq];omega
 have hb:(bareL (bl s)).length≤(bl s).length:=by
  cases bl s with
  | nil=>exact Nat.le_refl _
  | cons c r=>show (if c=45 then r else c ::r).length≤_;split<;>simp
 have hD:=sat_digits_v n (mkB (bareL (bl s))) (by rw [size_mkB];omega)
 rw [bl_mkB] at hD
 have e8:decide (s=(⟨#[45,48]⟩:ByteArray))=decide (bl s=[45,48]):=by
  rw [Bool.eq_iff_iff,decide_eq_true_eq,decide_eq_true_eq];exact ⟨fun hh=>by rw [hh];rfl,fun hh=>bl_inj hh⟩
 unfold sat_Read
 simp only [e1,cond_true,trimP_v n s,bindN_s,hD,seq_eq,e8]
 cases h:(digsL (bareL (bl s)) && !decide (bl s=[45,48])) with
 | false=>unfold readL;simp [h]
 | true=>rw [bare_parse h];simp
theorem sat_Parse_v (n:Nat) (s:ByteArray) (hs:s.size≤9000000000000):sat_Parse n (s,())=some ((((parseS (bl s)).1.1,(parseS (bl s)).1.2,()),(parseS (bl s)).2,()),((),())):=by
 have hz:=size_bl s
 have hc:(cutOver (bl s)).length≤(bl s).length:=by unfold cutOver;split<;>simp
 have hR:=sat_Read_v n (mkB (cutOver (bl s))) (by rw [size_mkB];omega)
 rw [bl_mkB] at hR
 have ho:(!decide (mkB (cutOver (bl s))=s))=overL (bl s):=by
  unfold cutOver
  have es:s=mkB (bl s):=bl_inj (by rw [bl_mkB])
  cases h:overL (bl s) with
  | false=>simp only [Bool.false_eq_true,if_false];rw [← es];simp
  | true =>
   simp only [if_true]
   have hne:bl s≠[]:=fun e=>by rw [e] at h;simp [overL] at h
   have:mkB (bl s).dropLast≠s:=fun e=>by
    have h1:=congrArg bl e
    rw [bl_mkB] at h1
    have h2:=congrArg List.length h1
    rw [List.length_dropLast] at h2
    have:=List.length_pos_iff.2 hne
    omega
   simp [this]
 unfold sat_Parse parseS
 simp only [trimS_v n s hs,bindN_s,hR,ieq_eq,seq_eq,ho]
 by_cases h:(readL (cutOver (bl s))).2=0
 ·simp [h]
 ·simp [h]
theorem sat_Number_v (n:Nat) (i:Int) (hi:I64 i):sat_Number n (i,())=some ((numB i,()),((),())):=by
 have e1:decide (-9223372036854775808≤i)=true:=decide_eq_true hi.1
 have e2:decide (i≤9223372036854775807)=true:=decide_eq_true hi.2
 unfold sat_Number c_FormatInt
 simp only [ieq_eq,ile_eq,decide_true,e1,e2,Bool.and_self,cond_true,bindN_s]
 rfl
theorem sat_Text_v (n:Nat) (x:SM) (hx:I64 x.1):sat_Text n (x,())=some ((sumB x,()),((),())):=by
 have z1:(numB x.1).size≤21:=by unfold numB;rw [size_mkB];exact Lib.itoa_length_le _ hx.1 hx.2
 have z2:(⟨#[33]⟩:ByteArray).size=1:=rfl
 have f1:sfits (numB x.1) (⟨#[33]⟩:ByteArray)=true:=sfits_of (by omega)
 unfold sat_Text sumB
 simp only [sat_Number_v n x.1 hx,bindN_s,f1,cond_true,scat_eq]
 cases h:x.2.1 with
 | false=>simp only [cond_false,Bool.false_eq_true,if_false,List.append_nil];rfl
 | true =>
  simp only [cond_true,if_true]
  rw [show numB x.1++(⟨#[33]⟩:ByteArray)=mkB (Lib.itoa x.1++[33]) from bl_inj (by rw [bl_append,bl_mkB];unfold numB;rw [bl_mkB];rfl)]
end Go.Proofs.YtdcphpbimeoioaaGreatDoorE
end
section
set_option linter.unusedSectionVars false
namespace Go.Proofs.YtdcphpbimeoioaaGreatDoorE
open Go Go.RowKit Go.Shelf
open Go.ChangeMaps (setBlock)
set_option linter.unusedVariables false
set_option linter.unusedSimpArgs false
section
variable {P:Program} {K V:Type} {mt kt et:TypeId} {ek:K→Value} {ev:V→Value} {eqk:K→K→Bool} {z:V} {w w':World} {b r:Nat} {l left:List (K×V)}
structure MapTy (P:Program) (mt kt et:TypeId) (ek:K→Value) (ev:V→Value) (eqk:K→K→Bool) (z:V):Prop where
 und:P.underlying mt=some (.map kt et)
 kd:∃ fs,P.underlying kt=some (.struct fs)
 chk:∀ e k w,(Instr.checkKey e 10000 kt (ek k)).run P w = .ok () w
 eq:∀ k k' w,(Op.equal kt (ek k) (ek k')).run P w = .ok (eqk k k') w
 bits:∀ k k',eqk k k'=true→Instr.sameBits 10000 (ek k') (ek k)=true
 zero:∀ w,(zeroValue et).run P w = .ok (ev z) w
def mfind (eqk:K→K→Bool) (k:K):List (K×V)→Nat→Option (Nat×V)
 | [],_=>none
 | p ::r,i=>bif eqk k p.1 then some (i,p.2) else mfind eqk k r (i+1)
def mget (eqk:K→K→Bool) (k:K) (z:V):List (K×V)→V
 | []=>z
 | p ::r=>bif eqk k p.1 then p.2 else mget eqk k z r
def mput (eqk:K→K→Bool) (k:K) (v:V):List (K×V)→List (K×V)
 | []=>[(k,v)]
 | p ::r=>bif eqk k p.1 then (k,v) ::r else p ::mput eqk k v r
theorem mfind_get (k:K) (z:V):∀ (l:List (K×V)) (i:Nat),((mfind eqk k l i).map (·.2)).getD z=mget eqk k z l
 | [],_=>rfl
 | p ::r,i=>by
  simp only [mfind,mget]
  cases eqk k p.1 with
  | true=>rfl
  | false=>exact mfind_get k z r (i+1)
theorem mfind_some {k:K}:∀ {l:List (K×V)} {i0 i:Nat} {v:V},mfind eqk k l i0=some (i,v)→i0≤i∧∃ p,l[i - i0]?=some p∧eqk k p.1=true
 | [],_,_,_,h=>by cases h
 | p ::r,i0,i,v,h=>by
  simp only [mfind] at h
  cases he:eqk k p.1 with
  | true =>
   rw [he] at h
   simp only [cond_true,Option.some.injEq,Prod.mk.injEq] at h
   obtain ⟨rfl,rfl⟩:=h
   exact ⟨Nat.le_refl _,p,by simp,he⟩
  | false =>
   rw [he] at h
   obtain ⟨h1,q,h2,h3⟩:=mfind_some h
   refine ⟨by omega,q,?_,h3⟩
   rw [show i - i0=(i - (i0+1))+1 by omega]
   simpa using h2
theorem mput_find {α:Type} (g:K×V→α) (k:K) (v:V):∀ (l:List (K×V)) (i0:Nat) (es:List α),es=l.map g →
  match mfind eqk k l i0 with
  | some (i,_)=>es.modify (i - i0) (fun _=>g (k,v))=(mput eqk k v l).map g
  | none=>es++[g (k,v)]=(mput eqk k v l).map g
 | [],i0,es,h=>by subst h;rfl
 | p ::r,i0,es,h=>by
  subst h
  simp only [mfind,mput]
  cases he:eqk k p.1 with
  | true=>simp
  | false =>
   have ih:=mput_find g k v r (i0+1) (r.map g) rfl
   simp only [cond_false]
   cases hm:mfind eqk k r (i0+1) with
   | none=>rw [hm] at ih;simpa using ih
   | some q =>
    obtain ⟨i,u⟩:=q
    rw [hm] at ih
    obtain ⟨h1,_⟩:=mfind_some hm
    simp only at ih ⊢
    rw [show i - i0=(i - (i0+1))+1 by omega]
    simp only [List.map_cons,List.modify_succ_cons,ih]
def HasMap (ek:K→Value) (ev:V→Value) (w:World) (b:Nat) (l:List (K×V)):Prop :=
 ∃ es:Array MapEntry,w.heap[b]?=some (.map es es.size)∧es.toList.map (fun e=>(e.key,e.val))=l.map (fun p=>(ek p.1,ev p.2))∧∀ (i:Nat) (e:MapEntry),es.toList[i]?=some e→e.born=i
theorem HasMap.lt (h:HasMap ek ev w b l):b<w.heap.size:=by
 obtain ⟨es,h1,_⟩:=h
 exact (Array.getElem?_eq_some_iff.1 h1).1
theorem HasMap.same (h:HasMap ek ev w b l) (hw:w'.heap[b]?=w.heap[b]?):HasMap ek ev w' b l:=by
 obtain ⟨es,h1,h2⟩:=h
 exact ⟨es,hw.trans h1,h2⟩
theorem HasMap.made (w:World):HasMap ek ev (w.alloc (.map #[] 0)) w.heap.size ([]:List (K×V)) :=
 ⟨#[],(MapKept.heap_alloc w _).1,rfl,fun i e h=>by simp at h⟩
theorem findAsking_run (M:MapTy P mt kt et ek ev eqk z) (k:K) (w:World):∀ (es:List MapEntry) (l:List (K×V)) (i:Nat),es.map (fun e=>(e.key,e.val))=l.map (fun p=>(ek p.1,ev p.2)) →
  (Instr.findAsking kt (ek k) es i).run P w = .ok ((mfind eqk k l i).map fun x=>(x.1,ev x.2)) w
 | [],[],i,_=>rfl
 | [],p ::l,_,h=>by simp at h
 | e ::es,[],_,h=>by simp at h
 | e ::es,p ::l,i,h=>by
  simp only [List.map_cons,List.cons.injEq,Prod.mk.injEq] at h
  obtain ⟨⟨h1,h2⟩,h3⟩:=h
  simp only [Instr.findAsking,Sem.run_bind,h1,M.eq,Result.andThen_ok,mfind]
  cases he:eqk k p.1 with
  | true=>simp [h2]
  | false=>simp only [Bool.false_eq_true,if_false,cond_false];exact findAsking_run M k w es l (i+1) h3
theorem findKey_run (M:MapTy P mt kt et ek ev eqk z) (k:K) (w:World) (es:List MapEntry) (l:List (K×V)) (h:es.map (fun e=>(e.key,e.val))=l.map (fun p=>(ek p.1,ev p.2))) :
  (Instr.findKey kt (ek k) es).run P w = .ok ((mfind eqk k l 0).map fun x=>(x.1,ev x.2)) w:=by
 obtain ⟨fs,hfs⟩:=M.kd
 cases es with
 | nil =>
  cases l with
  | nil=>simp [Instr.findKey,underlying,hfs,Instr.findNow,mfind]
  | cons p l=>simp at h
 | cons e es =>
  have:=findAsking_run M k w (e ::es) l 0 h
  simpa [Instr.findKey,underlying,hfs,Instr.findNow,Instr.sameNow] using this
theorem lookup_run (M:MapTy P mt kt et ek ev eqk z) (h:HasMap ek ev w b l) (k:K):(Instr.lookup mt (.map (some b)) (ek k) false).run P w = .ok (ev (mget eqk k z l)) w:=by
 obtain ⟨es,h1,h2,_⟩:=h
 have hf:=findKey_run M k w es.toList l h2
 have hg:=mfind_get (eqk:=eqk) k z l 0
 cases hm:mfind eqk k l 0 with
 | none =>
  rw [hm] at hf hg
  simp only [Option.map_none,Option.getD_none] at hf hg
  simp [Instr.lookup,underlying,M.und,MapKept.run_getObj_map h1,M.chk,hf,M.zero,← hg]
 | some q =>
  rw [hm] at hf hg
  simp only [Option.map_some,Option.getD_some] at hf hg
  simp [Instr.lookup,underlying,M.und,MapKept.run_getObj_map h1,M.chk,hf,← hg]
theorem update_run (M:MapTy P mt kt et ek ev eqk z) (h:HasMap ek ev w b l) (k:K) (v:V) :
  ∃ o,(Instr.mapUpdate mt (.map (some b)) (ek k) (ev v)).run P w = .ok () (setBlock w b o)∧HasMap ek ev (setBlock w b o) b (mput eqk k v l):=by
 obtain ⟨es,h1,h2,h3⟩:=h
 have hf:=findKey_run M k w es.toList l h2
 have hp:=mput_find (eqk:=eqk) (fun p:K×V=>(ek p.1,ev p.2)) k v l 0 _ h2
 cases hm:mfind eqk k l 0 with
 | none =>
  rw [hm] at hf hp
  simp only [Option.map_none] at hf
  refine ⟨.map (es.push { key:=ek k,val:=ev v,born:=es.size }) (es.size+1),by simp [Instr.mapUpdate,underlying,M.und,MapKept.run_getObj_map h1,M.chk,hf,MapKept.run_setObj_map _ h1,setBlock],es.push { key:=ek k,val:=ev v,born:=es.size },?_,?_,?_⟩
  ·rw [ChangeMaps.heap_setBlock_same h1];simp
  ·simpa using hp
  ·intro i e hi
   rw [Array.toList_push,List.getElem?_append] at hi
   split at hi
   ·exact h3 i e hi
   ·rename_i hlt
    have:i - es.toList.length=0:=by
     have:=(List.getElem?_eq_some_iff.1 hi).1
     simp at this ⊢;omega
    rw [this] at hi
    simp at hi
    subst hi
    simp at hlt this ⊢;omega
 | some q =>
  obtain ⟨i,u⟩:=q
  rw [hm] at hf hp
  simp only [Option.map_some,Nat.sub_zero] at hf hp
  obtain ⟨_,p,g1,g2⟩:=mfind_some hm
  rw [Nat.sub_zero] at g1
  have hlen:es.toList.length=l.length:=by have:=congrArg List.length h2;simpa using this
  have hi:i<es.size:=by have:=(List.getElem?_eq_some_iff.1 g1).1;rw [← hlen] at this;simpa using this
  have hkey:es[i].key=ek p.1:=by
   have:=congrArg (fun x=>x[i]?) h2
   simp only [List.getElem?_map,g1,Option.map_some] at this
   rw [Array.getElem?_toList,Array.getElem?_eq_getElem hi] at this
   simpa using (congrArg Prod.fst (Option.some.inj this))
  have hst:(Instr.keyThatStays (((es[i]?).map (·.key)).getD (ek k)) (ek k)).run P w = .ok (ek k) w:=by
   rw [Array.getElem?_eq_getElem hi]
   simp only [Option.map_some,Option.getD_some,hkey]
   simp [Instr.keyThatStays,M.bits k p.1 g2]
  have hso:=MapKept.run_setObj_map (P:=P) (.map (es.modify i fun e=>{ e with key:=ek k,val:=ev v }) es.size) h1
  refine ⟨.map (es.modify i fun e=>{ e with key:=ek k,val:=ev v }) es.size,by simp [Instr.mapUpdate,underlying,M.und,MapKept.run_getObj_map h1,M.chk,hf,hst,hso,setBlock],es.modify i fun e=>{ e with key:=ek k,val:=ev v },?_,?_,?_⟩
  ·rw [ChangeMaps.heap_setBlock_same h1];simp
  ·rw [← hp,Array.toList_modify]
   apply List.ext_getElem?
   intro j
   simp only [List.getElem?_map,List.getElem?_modify]
   cases es.toList[j]? with
   | none=>simp
   | some e=>by_cases hj:i=j<;>simp [hj]
  ·intro j e hj
   rw [Array.toList_modify,List.getElem?_modify] at hj
   cases he:es.toList[j]? with
   | none=>rw [he] at hj;simp at hj
   | some e0 =>
    rw [he] at hj
    have:=h3 j e0 he
    by_cases hij:i=j<;>simp [hij] at hj<;>subst hj<;>exact this
def HasIter (ek:K→Value) (ev:V→Value) (w:World) (b r:Nat) (left:List (K×V)):Prop :=
 ∃ (es:Array MapEntry) (seen:Array Nat),w.heap[b]?=some (.map es es.size)∧w.heap[r]?=some (.mapIter (some b) es.size seen es.size)∧(∀ (i:Nat) (e:MapEntry),es.toList[i]?=some e→e.born=i) ∧
  (leftOf es seen).toList.map (fun e=>(e.key,e.val))=left.map (fun p=>(ek p.1,ev p.2))
theorem HasIter.lt (h:HasIter ek ev w b r left):b<w.heap.size∧r<w.heap.size∧b≠r:=by
 obtain ⟨es,seen,h1,h2,_⟩:=h
 exact ⟨(Array.getElem?_eq_some_iff.1 h1).1,(Array.getElem?_eq_some_iff.1 h2).1,fun e=>by subst e;rw [h1] at h2;cases h2⟩
theorem HasIter.same (h:HasIter ek ev w b r left) (hb:w'.heap[b]?=w.heap[b]?) (hr:w'.heap[r]?=w.heap[r]?):HasIter ek ev w' b r left:=by
 obtain ⟨es,seen,h1,h2,h3⟩:=h
 exact ⟨es,seen,hb.trans h1,hr.trans h2,h3⟩
theorem range_run (M:MapTy P mt kt et ek ev eqk z) (h:HasMap ek ev w b l) :
  ∃ n,(Instr.range mt (.map (some b))).run P w = .ok (.pointer (some ⟨w.heap.size,0,none⟩)) (w.alloc (.mapIter (some b) n #[] n))∧HasIter ek ev (w.alloc (.mapIter (some b) n #[] n)) b w.heap.size l:=by
 have hlt:=h.lt
 obtain ⟨es,h1,h2,h3⟩:=h
 refine ⟨es.size,run_range_map w mt kt et b es es.size M.und h1,es,#[],((MapKept.heap_alloc w _).2 b hlt).trans h1,(MapKept.heap_alloc w _).1,h3,?_⟩
 rw [← h2]
 congr 1
 simp [leftOf]
theorem born_nodup {es:Array MapEntry} (h3:∀ (i:Nat) (e:MapEntry),es.toList[i]?=some e→e.born=i):(es.toList.map (·.born)).Nodup:=by
 rw [List.Nodup,List.pairwise_iff_getElem]
 intro i j hi hj hij
 simp only [List.length_map] at hi hj
 simp only [List.getElem_map]
 rw [h3 i _ (List.getElem?_eq_getElem hi),h3 j _ (List.getElem?_eq_getElem hj)]
 omega
theorem filter_erase:∀ (L:List MapEntry) (j:Nat) (e:MapEntry),(L.map (·.born)).Nodup→L[j]?=some e→L.filter (fun x => !(x.born ==e.born))=L.eraseIdx j
 | [],_,_,_,h=>by simp at h
 | x ::L,0,e,hn,h=>by
  simp only [List.getElem?_cons_zero,Option.some.injEq] at h
  subst h
  simp only [List.map_cons,List.nodup_cons] at hn
  simp only [List.filter_cons,beq_self_eq_true,Bool.not_true,Bool.false_eq_true,if_false,List.eraseIdx_cons_zero]
  refine List.filter_eq_self.2 fun y hy=>?_
  have:y.born≠x.born:=fun hh=>hn.1 (hh ▸ List.mem_map.2 ⟨y,hy,rfl⟩)
  simpa using this
 | x ::L,j+1,e,hn,h=>by
  simp only [List.getElem?_cons_succ] at h
  simp only [List.map_cons,List.nodup_cons] at hn
  have:x.born≠e.born:=fun hh=>hn.1 (hh ▸ List.mem_map.2 ⟨e,List.mem_of_getElem? h,rfl⟩)
  simp only [List.filter_cons,List.eraseIdx_cons_succ]
  rw [if_pos (by simpa using this),filter_erase L j e hn.2 h]
theorem left_push (es:Array MapEntry) (seen:Array Nat) (y:Nat):(leftOf es (seen.push y)).toList=(leftOf es seen).toList.filter fun x => !(x.born ==y):=by
 unfold leftOf
 rw [Array.toList_filter,Array.toList_filter,List.filter_filter]
 congr 1
 funext x
 rw [contains_push]
 cases seen.contains x.born<;>cases (x.born ==y)<;>rfl
theorem map_erase {α β:Type} (f:α→β):∀ (l:List α) (j:Nat),(l.eraseIdx j).map f=(l.map f).eraseIdx j
 | [],_=>rfl
 | _ ::_,0=>rfl
 | x ::l,j+1=>by rw [List.eraseIdx_cons_succ,List.map_cons,map_erase f l j];rfl
theorem next_run (h:HasIter ek ev w b r left) (ty:TypeId) :
  (left=[]∧(Instr.next (.pointer (some ⟨r,0,none⟩)) false ty).run P w = .ok (.tuple #[.bool false]) w) ∨
  ∃ j p w1 o,left[j]?=some p∧(w1=w∨w1=w.drew)∧(Instr.next (.pointer (some ⟨r,0,none⟩)) false ty).run P w = .ok (.tuple #[.bool true,ek p.1,ev p.2]) (setBlock w1 r o)∧HasIter ek ev (setBlock w1 r o) b r (left.eraseIdx j) ∧
   (Instr.entry (.pointer (some ⟨r,0,none⟩))).run P (setBlock w1 r o) = .ok (.tuple #[ek p.1,ev p.2]) (setBlock w1 r o):=by
 have hne:=h.lt.2.2
 obtain ⟨es,seen,h1,h2,h3,h4⟩:=h
 have hold:∀ x∈es.toList,x.born<es.size:=fun x hx=>by
  obtain ⟨i,hi⟩:=List.getElem?_of_mem hx
  rw [h3 i x hi]
  simpa using (List.getElem?_eq_some_iff.1 hi).1
 rcases run_next_at (P:=P) w ty r b es.size es.size seen es es.size h2 h1 hold (Nat.le_refl _) with ⟨h0,hrun⟩|⟨e,he,w1,hal,hrun⟩
 ·refine .inl ⟨?_,hrun⟩
  have:(leftOf es seen).toList=[]:=by rw [← List.length_eq_zero_iff];simpa using h0
  rw [this] at h4
  exact (List.map_eq_nil_iff.1 h4.symm)
 ·obtain ⟨j,hj⟩:=List.getElem?_of_mem he
  have hlj:=congrArg (fun x=>x[j]?) h4
  simp only [List.getElem?_map,hj,Option.map_some] at hlj
  cases hp:left[j]? with
  | none=>rw [hp] at hlj;cases hlj
  | some p =>
   rw [hp] at hlj
   simp only [Option.map_some,Option.some.injEq,Prod.mk.injEq] at hlj
   have hr1:w1.heap[r]?=some (.mapIter (some b) es.size seen es.size):=by rcases hal with rfl|rfl<;>exact h2
   have hb1:w1.heap[b]?=some (.map es es.size):=by rcases hal with rfl|rfl<;>exact h1
   have hset:=MapKept.heap_set (o' := .mapIter (some b) es.size (seen.push e.born) es.size) hr1
   have hb':(setBlock w1 r (.mapIter (some b) es.size (seen.push e.born) es.size)).heap[b]?=some (.map es es.size):=(hset.2 b hne).trans hb1
   have hem:=(mem_left he).1
   have hnd:=born_nodup h3
   refine .inr ⟨j,p,w1, .mapIter (some b) es.size (seen.push e.born) es.size,hp,hal,by rw [hrun,hlj.1,hlj.2],⟨es,seen.push e.born,hb',hset.1,h3,?_⟩,?_⟩
   ·have hnd':((leftOf es seen).toList.map (·.born)).Nodup:=by
     unfold leftOf
     rw [Array.toList_filter]
     exact (List.filter_sublist.map _).nodup hnd
    rw [left_push,filter_erase _ j e hnd' hj,map_erase,h4,← map_erase]
   ·rw [run_entry_at _ r b es.size seen es es.size e hset.1 hb' hem hnd,hlj.1,hlj.2]
end
end Go.Proofs.YtdcphpbimeoioaaGreatDoorE
end
section
set_option linter.unusedSectionVars false
namespace Go.Proofs.YtdcphpbimeoioaaGreatDoorE
open Go Go.RowKit Go.Shelf
open Go.ChangeMaps (setBlock)
set_option linter.unusedVariables false
set_option linter.unusedSimpArgs false
section
variable {P:Program} {S S' S0:Nat→SL} {F F' F0:Nat→Prop} {w w' w0:World} {H H' H0:Heap} {E E':Env} {O:Orc} {a:Act} {n m b:Nat} {Q:Exit→Act→World→Prop} {os:Array Oper} {rest:List Nat} {i:Nat} {o:Oper}
structure Frn (S:Nat→SL) (F:Nat→Prop) (w:World) (H:Heap) (b:Nat):Prop where
 lt:b<w.heap.size
 nf:¬ F b
 nw:¬ WR S H b
theorem Frn.adv (h:Frn S F w H b) (hA:AdvM m S F w H S' F' w' H'):Frn S' F' w' H' b :=
 ⟨Nat.lt_of_lt_of_le h.lt hA.sz,fun hf=>by
  rcases hA.fn b hf with e|e|e
  ·exact h.nf e
  ·exact h.nw e
  ·have:=h.lt;omega,fun hw=>by
  rcases hA.wr b hw with e|e
  ·exact h.nw e
  ·have:=h.lt;omega⟩
theorem Frn.same (h:Frn S F w H b) (hA:AdvM m S F w H S' F' w' H'):w'.heap[b]?=w.heap[b]?:=hA.same b h.lt h.nw
theorem Frn.grow (h:Frn S F w H b) (hs:w.heap.size≤w'.heap.size):Frn S F w' H b:=⟨Nat.lt_of_lt_of_le h.lt hs,h.nf,h.nw⟩
theorem slot_blk (hr:Rel S F w H) {c k:Nat} (hb:blkOf (S c)=some k):k<w.heap.size∧(F k∨WR S H k):=by
 cases hg:hget H c with
 | unused=>rw [unused_S hr hg] at hb;cases hb
 | dead =>
  have:=hr.slots c;rw [hg] at this
  cases hs:S c<;>rw [hs] at this hb<;>simp only [SlotOk] at this
  cases hb
 | live x =>
  refine ⟨blkOf_lt hr hg hb,?_⟩
  cases hw:x.wr with
  | true=>exact .inr ⟨c,x,hg,hw,hb⟩
  | false =>
   left
   have hs:=hr.slots c
   rw [hg] at hs
   cases x with
   | box cs wr =>
    cases hS:S c<;>rw [hS] at hs hb<;>simp only [SlotOk,blkOf,Option.some.injEq] at hs hb
    all_goals first|(subst hb;exact hs.2.2 hw)|cases hs|cases hb
   | arr t xs wr =>
    cases hS:S c<;>rw [hS] at hs hb<;>simp only [SlotOk] at hs
    rename_i a n cap sz
    obtain ⟨_,_,_,_,hor⟩:=hs
    cases a with
    | none=>simp [blkOf] at hb
    | some ad =>
     simp only [blkOf] at hb
     split at hb
     ·cases hb
     ·rename_i hc
      simp only [Option.some.injEq] at hb
      subst hb
      rcases hor with h0|⟨ad',e,_,_,h1⟩
      ·exact absurd h0 hc
      ·cases e;exact h1 hw
theorem Frn.new (hr:Rel S F w H) (hs:w.heap.size<w'.heap.size):Frn S F w' H w.heap.size :=
 ⟨hs,fun h=>Nat.lt_irrefl _ (hr.fsz _ h),fun ⟨c,x,hg,_,hb⟩=>Nat.lt_irrefl _ (blkOf_lt hr hg hb)⟩
structure Off (S:Nat→SL) (F:Nat→Prop) (w:World) (H:Heap) (w':World):Prop where
 sz:w.heap.size≤w'.heap.size
 same:∀ k,k<w.heap.size→(F k∨WR S H k)→w'.heap[k]?=w.heap[k]?
 st:Str w w'
theorem Off.rel (h:Off S F w H w') (hr:Rel S F w H):Rel S F w' H :=
 ⟨fun c=>(hr.slots c).mono (fun _ h=>h) (fun k hk=>h.same k (hr.fsz k hk) (.inl hk)) (fun _ _ => .inl rfl) (fun k hk=>h.same k (slot_blk hr hk).1 (slot_blk hr hk).2) (fun _ _ h=>h),hr.inj,fun k hk=>Nat.lt_of_lt_of_le (hr.fsz k hk) h.sz,hr.gl.mono (fun _ h=>h) fun k hk=>h.same k (hr.fsz k hk) (.inl hk)⟩
theorem Off.val (h:Off S F w H w') (hr:Rel S F w H) {p:PV} {v:Value} (hv:Val S F w p v):Val S F w' p v:=hv.mono (fun _ h=>h) (fun k hk=>h.same k (hr.fsz k hk) (.inl hk)) (fun _ _ => .inl rfl)
theorem Off.at' (h:Off S F w H w') (hr:Rel S F w H) (ha:At S F w E a n):At S F w' E a n :=
 ⟨⟨fun k=>h.val hr (ha.opd.tmp k),ha.opd.const,ha.opd.func⟩,ha.size,ha.defers⟩
theorem Off.adv (h:Off S F w H w') (hA:AdvM m S0 F0 w0 H0 S F w H) (hk:∀ k,k<w0.heap.size→w'.heap[k]?=w.heap[k]?):AdvM m S0 F0 w0 H0 S F w' H :=
 ⟨hA.ff,hA.ss,Nat.le_trans hA.sz h.sz,fun k h1 h2=>(hk k h1).trans (hA.same k h1 h2),hA.wr,hA.fn,hA.st.trans h.st⟩
theorem off_set (hb:Frn S F w H b) (o:Obj):Off S F w H (setBlock w b o) :=
 ⟨by simp [setBlock],fun k h1 h2=>by
  have:b≠k:=fun e=>by subst e;rcases h2 with h2|h2;exact hb.nf h2;exact hb.nw h2
  simp [setBlock,Array.getElem?_setIfInBounds,this],rfl,rfl,rfl,(fun _=>Nat.le_refl _)⟩
theorem off_drew (w:World):Off S F w H w.drew:=⟨Nat.le_refl _,fun _ _ _=>rfl,rfl,rfl,rfl,(fun _=>Nat.le_succ _)⟩
theorem off_alloc (w:World) (o:Obj):Off S F w H (w.alloc o) :=
 ⟨by have e:(w.alloc o).heap=w.heap.push o:=rfl; rw [e];simp,fun k h1 _=>(MapKept.heap_alloc w o).2 k h1,rfl,rfl,rfl,(fun _=>Nat.le_refl _)⟩
theorem Off.trans {w2:World} (h:Off S F w H w') (h':Off S F w' H w2):Off S F w H w2 :=
 ⟨Nat.le_trans h.sz h'.sz,fun k h1 h2=>(h'.same k (Nat.lt_of_lt_of_le h1 h.sz) h2).trans (h.same k h1 h2),h.st.trans h'.st⟩
theorem raw_step {v:Value} (ho:os[i]?=some o) (hg:o.guard=none) (hrun:(execOp a.eval o).run P w = .ok (.value v) w') (k:wpOps P os Q rest (a.put o.dst v) w'):wpOps P os Q (i ::rest) a w:=by
 have hw:Region.wanted o (yielded os a.tmps)=true:=by simp [Region.wanted,hg]
 simp only [wpOps,ho,hw,if_true]
 exact .inl (by unfold Oper.wp;rw [hrun];exact k)
theorem ret_ok {fn:Func} {ro:Bool} {p':PV} {R:Ending→World→Prop} (hr0:Rel S F w H) (hr:Rel S' F' w' H') (ha:At S' F' w' E a n) (hA:AdvM H.length S F w H S' F' w' H') {H2:Heap}
  (hK:(resVals E H' (fn.results.toList.map (resOf P)) fun vs=>fin H.length ro (oneOf vs) H' fun p H=>some (p,H))=some (p',H2))
  (k:∀ v S2 F2,Rel S2 F2 w' H2→Val S2 F2 w' p' v→Adv S F w H S2 F2 w' H2→R (.returned v) w'):a.defers=[]∧∃ v,(results fn a.tmps).run P w' = .ok v w'∧R (.returned v) w':=by
 obtain ⟨ps,v,g1,g2,g3⟩:=results_ok (fn:=fn) hr (fun t=>ha.opd.tmp t) hK
 obtain ⟨p2,H3,S2,F2,k1,k2,k3,k4⟩:=fin_ok hr g3 g1
 simp only [Option.some.injEq,Prod.mk.injEq] at k1
 obtain ⟨rfl,rfl⟩:=k1
 have k5:=hA.trans k4
 exact ⟨ha.defers,v,g2,k v S2 F2 k2 k3 ⟨k5.ff,fun b hb=>by
  refine k5.ss b (Nat.lt_of_not_le fun hle=>hb (unused_S hr0 (hget_len H b hle))) hb,k5.sz,k5.same,k5.wr,k5.fn,k5.st⟩⟩
end
end Go.Proofs.YtdcphpbimeoioaaGreatDoorE
end
