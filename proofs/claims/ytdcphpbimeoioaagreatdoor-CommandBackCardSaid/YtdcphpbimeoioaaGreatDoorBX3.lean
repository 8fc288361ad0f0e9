/- A part of the proof: ZXHFa, ZXHN, ZXSV, ZXSW, ZXHM, ZXHFb, ZXGQ2, ZXGQ3, ZXGK1, ZXGW2, ZXGV1, ZXGV2, ZXGV3, ZXGR1, ZXGW1, ZXGY1, ZXGZ1. No condition. -/
import Derived.Test.YtdcphpbimeoioaaGreatDoorBX2
import Derived.Test.YtdcphpbimeoioaaGreatDoorProg
import Derived.WalkKit
import Derived.Lib.SmallJoins
import Derived.RangeFuncBox
import Derived.RangeFuncLeaves
import Derived.Shelf.Abstract
import Derived.OwnWalkIn
import Derived.TacticsInMore
import Derived.LoopNIn
import Derived.LoopIn
import Derived.Maps.AppendAt
import Derived.Sort.OwnSorted
import Derived.Lib.ParseIntB
import Derived.Lib.ItoaNum
import Derived.Lib.ItoaLen
section
set_option linter.unusedSectionVars false
namespace Go.Proofs.YtdcphpbimeoioaaGreatDoorE
open Go
set_option linter.unusedVariables false
set_option maxRecDepth 100000
abbrev tPick_match:Ty := .pair tMatch .unit
abbrev s_slCut_sg:List Sg:=[.tree .str, .tree .str]
abbrev s_slCut_rs:List Rt:=[.tree .str, .tree .str, .tree .bool]
def s_slCut (n:Nat) (x:SgEl s_slCut_sg):Option (RtEl s_slCut_rs×OutEl s_slCut_sg) :=
  bindN (s_Index1 n x) fun p1 =>
  bif ile (0:Int) p1.1.1 then
   bif ile (0:Int) (0:Int) then
    bif ile (0:Int) p1.1.1 then
     bif ile p1.1.1 (ssize x.1) then
      bif ile (0:Int) (iadd .i64 p1.1.1 (ssize x.2.1)) then
       bif ile (iadd .i64 p1.1.1 (ssize x.2.1)) (ssize x.1) then
        bif ile (ssize x.1) (ssize x.1) then
         some ((sext x.1 (0:Int) p1.1.1,sext x.1 (iadd .i64 p1.1.1 (ssize x.2.1)) (ssize x.1),true,()),((),(),()))
        else none
       else none
      else none
     else none
    else none
   else none
  else
  some ((x.1,(⟨#[]⟩:ByteArray),false,()),((),(),()))
abbrev s_slCut_ent (n:Nat):Ent:=⟨268,s_slCut_sg,s_slCut_rs,s_slCut n⟩
theorem s_slCut_ok (n:Nat):EntOk Tryz.prog (s_slCut_ent n):=ent_ok' mixed (T:=[s_Index1_ent n]) (tabCons (s_Index1_ok n) tabNil) tabLNil fun x=>by kernel_rfl
abbrev s_Cut_sg:List Sg:=[.tree .str, .tree .str]
abbrev s_Cut_rs:List Rt:=[.tree .str, .tree .str, .tree .bool]
def s_Cut (n:Nat) (x:SgEl s_Cut_sg):Option (RtEl s_Cut_rs×OutEl s_Cut_sg) :=
  bindN (s_slCut n x) fun p1 =>
  some (p1.1,((),(),()))
abbrev s_Cut_ent (n:Nat):Ent:=⟨217,s_Cut_sg,s_Cut_rs,s_Cut n⟩
theorem s_Cut_ok (n:Nat):EntOk Tryz.prog (s_Cut_ent n):=ent_ok' mixed (T:=[s_slCut_ent n]) (tabCons (s_slCut_ok n) tabNil) tabLNil fun x=>by kernel_rfl
abbrev s_slHasPrefix_sg:List Sg:=[.tree .str, .tree .str]
abbrev s_slHasPrefix_rs:List Rt:=[.tree .bool]
def s_slHasPrefix (n:Nat) (x:SgEl s_slHasPrefix_sg):Option (RtEl s_slHasPrefix_rs×OutEl s_slHasPrefix_sg) :=
  bif ile (ssize x.2.1) (ssize x.1) then
   bif ile (0:Int) (0:Int) then
    bif ile (0:Int) (ssize x.2.1) then
     bif ile (ssize x.2.1) (ssize x.1) then
      some ((seq (sext x.1 (0:Int) (ssize x.2.1)) x.2.1,()),((),(),()))
     else none
    else none
   else none
  else
  some ((false,()),((),(),()))
abbrev s_slHasPrefix_ent (n:Nat):Ent:=⟨304,s_slHasPrefix_sg,s_slHasPrefix_rs,s_slHasPrefix n⟩
theorem s_slHasPrefix_ok (n:Nat):EntOk Tryz.prog (s_slHasPrefix_ent n):=ent_ok' mixed (T:=[]) tabNil tabLNil fun x=>by kernel_rfl
abbrev s_slHasSuffix_sg:List Sg:=[.tree .str, .tree .str]
abbrev s_slHasSuffix_rs:List Rt:=[.tree .bool]
def s_slHasSuffix (n:Nat) (x:SgEl s_slHasSuffix_sg):Option (RtEl s_slHasSuffix_rs×OutEl s_slHasSuffix_sg) :=
  bif ile (ssize x.2.1) (ssize x.1) then
   bif ile (0:Int) (isub .i64 (ssize x.1) (ssize x.2.1)) then
    bif ile (isub .i64 (ssize x.1) (ssize x.2.1)) (ssize x.1) then
     bif ile (ssize x.1) (ssize x.1) then
      some ((seq (sext x.1 (isub .i64 (ssize x.1) (ssize x.2.1)) (ssize x.1)) x.2.1,()),((),(),()))
     else none
    else none
   else none
  else
  some ((false,()),((),(),()))
abbrev s_slHasSuffix_ent (n:Nat):Ent:=⟨310,s_slHasSuffix_sg,s_slHasSuffix_rs,s_slHasSuffix n⟩
theorem s_slHasSuffix_ok (n:Nat):EntOk Tryz.prog (s_slHasSuffix_ent n):=ent_ok' mixed (T:=[]) tabNil tabLNil fun x=>by kernel_rfl
abbrev s_slTrimPrefix_sg:List Sg:=[.tree .str, .tree .str]
abbrev s_slTrimPrefix_rs:List Rt:=[.tree .str]
def s_slTrimPrefix (n:Nat) (x:SgEl s_slTrimPrefix_sg):Option (RtEl s_slTrimPrefix_rs×OutEl s_slTrimPrefix_sg) :=
  bindN (s_slHasPrefix n x) fun p1 =>
  bif p1.1.1 then
   bif ile (0:Int) (ssize x.2.1) then
    bif ile (ssize x.2.1) (ssize x.1) then
     bif ile (ssize x.1) (ssize x.1) then
      some ((sext x.1 (ssize x.2.1) (ssize x.1),()),((),(),()))
     else none
    else none
   else none
  else
  some ((x.1,()),((),(),()))
abbrev s_slTrimPrefix_ent (n:Nat):Ent:=⟨270,s_slTrimPrefix_sg,s_slTrimPrefix_rs,s_slTrimPrefix n⟩
theorem s_slTrimPrefix_ok (n:Nat):EntOk Tryz.prog (s_slTrimPrefix_ent n):=ent_ok' mixed (T:=[s_slHasPrefix_ent n]) (tabCons (s_slHasPrefix_ok n) tabNil) tabLNil fun x=>by kernel_rfl
abbrev s_TrimPrefix_sg:List Sg:=[.tree .str, .tree .str]
abbrev s_TrimPrefix_rs:List Rt:=[.tree .str]
def s_TrimPrefix (n:Nat) (x:SgEl s_TrimPrefix_sg):Option (RtEl s_TrimPrefix_rs×OutEl s_TrimPrefix_sg) :=
  bindN (s_slTrimPrefix n x) fun p1 =>
  some (p1.1,((),(),()))
abbrev s_TrimPrefix_ent (n:Nat):Ent:=⟨220,s_TrimPrefix_sg,s_TrimPrefix_rs,s_TrimPrefix n⟩
theorem s_TrimPrefix_ok (n:Nat):EntOk Tryz.prog (s_TrimPrefix_ent n):=ent_ok' mixed (T:=[s_slTrimPrefix_ent n]) (tabCons (s_slTrimPrefix_ok n) tabNil) tabLNil fun x=>by kernel_rfl
abbrev s_slCutSuffix_sg:List Sg:=[.tree .str, .tree .str]
abbrev s_slCutSuffix_rs:List Rt:=[.tree .str, .tree .bool]
def s_slCutSuffix (n:Nat) (x:SgEl s_slCutSuffix_sg):Option (RtEl s_slCutSuffix_rs×OutEl s_slCutSuffix_sg) :=
  bindN (s_slHasSuffix n x) fun p1 =>
  bif !p1.1.1 then
   some ((x.1,false,()),((),(),()))
  else
  bif ile (0:Int) (0:Int) then
   bif ile (0:Int) (isub .i64 (ssize x.1) (ssize x.2.1)) then
    bif ile (isub .i64 (ssize x.1) (ssize x.2.1)) (ssize x.1) then
     some ((sext x.1 (0:Int) (isub .i64 (ssize x.1) (ssize x.2.1)),true,()),((),(),()))
    else none
   else none
  else none
abbrev s_slCutSuffix_ent (n:Nat):Ent:=⟨275,s_slCutSuffix_sg,s_slCutSuffix_rs,s_slCutSuffix n⟩
theorem s_slCutSuffix_ok (n:Nat):EntOk Tryz.prog (s_slCutSuffix_ent n):=ent_ok' mixed (T:=[s_slHasSuffix_ent n]) (tabCons (s_slHasSuffix_ok n) tabNil) tabLNil fun x=>by kernel_rfl
abbrev s_CutSuffix_sg:List Sg:=[.tree .str, .tree .str]
abbrev s_CutSuffix_rs:List Rt:=[.tree .str, .tree .bool]
def s_CutSuffix (n:Nat) (x:SgEl s_CutSuffix_sg):Option (RtEl s_CutSuffix_rs×OutEl s_CutSuffix_sg) :=
  bindN (s_slCutSuffix n x) fun p1 =>
  some (p1.1,((),(),()))
abbrev s_CutSuffix_ent (n:Nat):Ent:=⟨227,s_CutSuffix_sg,s_CutSuffix_rs,s_CutSuffix n⟩
theorem s_CutSuffix_ok (n:Nat):EntOk Tryz.prog (s_CutSuffix_ent n):=ent_ok' mixed (T:=[s_slCutSuffix_ent n]) (tabCons (s_slCutSuffix_ok n) tabNil) tabLNil fun x=>by kernel_rfl
abbrev sat_Number_sg:List Sg:=[.tree (.int .i64)]
abbrev sat_Number_rs:List Rt:=[.tree .str]
def sat_Number (n:Nat) (x:SgEl sat_Number_sg):Option (RtEl sat_Number_rs×OutEl sat_Number_sg) :=
  bindN (c_FormatInt n (x.1,(10:Int),())) fun p1 =>
  some (p1.1,((),()))
abbrev sat_Number_ent (n:Nat):Ent:=⟨84,sat_Number_sg,sat_Number_rs,sat_Number n⟩
theorem sat_Number_ok (n:Nat):EntOk Tryz.prog (sat_Number_ent n):=ent_ok' mixed (T:=[c_FormatInt_ent n]) (tabCons (c_FormatInt_ok n) tabNil) tabLNil fun x=>by kernel_rfl
abbrev sat_digits_sg:List Sg:=[.tree .str]
abbrev sat_digits_rs:List Rt:=[.tree .bool]
def sat_digits (n:Nat) (x:SgEl sat_digits_sg):Option (RtEl sat_digits_rs×OutEl sat_digits_sg) :=
  bif seq x.1 (⟨#[]⟩:ByteArray) then
   some ((false,()),((),()))
  else
  bif ile (0:Int) (0:Int) then
   bif ilt (0:Int) (ssize x.1) then
    bif ieq (sat x.1 (0:Int)) (48:Int) then
     bif !(seq x.1 (⟨#[48]⟩:ByteArray)) then
      some ((false,()),((),()))
     else
     bindN (s_Trim n (x.1,(⟨#[48,49,50,51,52,53,54,55,56,57]⟩:ByteArray),())) fun p1 =>
     some ((seq p1.1.1 (⟨#[]⟩:ByteArray),()),((),()))
    else
    bindN (s_Trim n (x.1,(⟨#[48,49,50,51,52,53,54,55,56,57]⟩:ByteArray),())) fun p2 =>
    some ((seq p2.1.1 (⟨#[]⟩:ByteArray),()),((),()))
   else none
  else none
abbrev sat_digits_ent (n:Nat):Ent:=⟨221,sat_digits_sg,sat_digits_rs,sat_digits n⟩
theorem sat_digits_ok (n:Nat):EntOk Tryz.prog (sat_digits_ent n):=ent_ok' mixed (T:=[s_Trim_ent n]) (tabCons (s_Trim_ok n) tabNil) tabLNil fun x=>by kernel_rfl
abbrev word_made_sg:List Sg:=[.tree .str, .tree .str]
abbrev word_made_rs:List Rt:=[.tree .bool]
def word_made (n:Nat) (x:SgEl word_made_sg):Option (RtEl word_made_rs×OutEl word_made_sg) :=
  bif !(seq x.1 (⟨#[]⟩:ByteArray)) then
   bif ile (ssize x.1) (12:Int) then
    bindN (s_Trim n x) fun p1 =>
    some ((seq p1.1.1 (⟨#[]⟩:ByteArray),()),((),(),()))
   else
   some ((false,()),((),(),()))
  else
  some ((false,()),((),(),()))
abbrev word_made_ent (n:Nat):Ent:=⟨195,word_made_sg,word_made_rs,word_made n⟩
theorem word_made_ok (n:Nat):EntOk Tryz.prog (word_made_ent n):=ent_ok' mixed (T:=[s_Trim_ent n]) (tabCons (s_Trim_ok n) tabNil) tabLNil fun x=>by kernel_rfl
abbrev word_Name_sg:List Sg:=[.tree .str]
abbrev word_Name_rs:List Rt:=[.tree .bool]
def word_Name (n:Nat) (x:SgEl word_Name_sg):Option (RtEl word_Name_rs×OutEl word_Name_sg) :=
  bindN (word_made n (x.1,(⟨#[97,98,99,100,101,102,103,104,105,106,107,108,109,110,111,112,113,114,115,116,117,118,119,120,121,122,48,49,50,51,52,53,54,55,56,57,95]⟩:ByteArray),())) fun p1 =>
  bif p1.1.1 then
   bif ile (0:Int) (0:Int) then
    bif ilt (0:Int) (ssize x.1) then
     bindN (s_IndexByte n ((⟨#[97,98,99,100,101,102,103,104,105,106,107,108,109,110,111,112,113,114,115,116,117,118,119,120,121,122]⟩:ByteArray),sat x.1 (0:Int),())) fun p2 =>
     some ((ile (0:Int) p2.1.1,()),((),()))
    else none
   else none
  else
  some ((false,()),((),()))
abbrev word_Name_ent (n:Nat):Ent:=⟨144,word_Name_sg,word_Name_rs,word_Name n⟩
theorem word_Name_ok (n:Nat):EntOk Tryz.prog (word_Name_ent n):=ent_ok' mixed (T:=[word_made_ent n,s_IndexByte_ent n]) (tabCons (word_made_ok n) (tabCons (s_IndexByte_ok n) tabNil)) tabLNil fun x=>by kernel_rfl
abbrev word_Value_sg:List Sg:=[.tree .str]
abbrev word_Value_rs:List Rt:=[.tree .bool]
def word_Value (n:Nat) (x:SgEl word_Value_sg):Option (RtEl word_Value_rs×OutEl word_Value_sg) :=
  bindN (word_made n (x.1,(⟨#[97,98,99,100,101,102,103,104,105,106,107,108,109,110,111,112,113,114,115,116,117,118,119,120,121,122,48,49,50,51,52,53,54,55,56,57,95,45,46]⟩:ByteArray),())) fun p1 =>
  some (p1.1,((),()))
abbrev word_Value_ent (n:Nat):Ent:=⟨256,word_Value_sg,word_Value_rs,word_Value n⟩
theorem word_Value_ok (n:Nat):EntOk Tryz.prog (word_Value_ent n):=ent_ok' mixed (T:=[word_made_ent n]) (tabCons (word_made_ok n) tabNil) tabLNil fun x=>by kernel_rfl
abbrev word_Split_sg:List Sg:=[.tree .str, .tree (.int .u8)]
abbrev word_Split_rs:List Rt:=[.tree (.slice .str)]
def word_Split_l0 (n:Nat):Nat→SgEl [.tree .str, .tree (.int .u8), .own .str]→Option (SgEl [] ⊕ SgEl [.own .str])
  | 0,_=>none
  | g+1,s =>
    bindN (s_IndexByte n (s.1,s.2.1,())) fun p1 =>
    bif ilt p1.1.1 (0:Int) then
     bif roomA s.2.2.1 [s.1] 16 then
      some (Sum.inr (app s.2.2.1 [s.1],()))
     else none
    else
    bif ile (0:Int) (0:Int) then
     bif ile (0:Int) p1.1.1 then
      bif ile p1.1.1 (ssize s.1) then
       bif roomA s.2.2.1 [sext s.1 (0:Int) p1.1.1] 16 then
        bif ile (0:Int) (iadd .i64 p1.1.1 (1:Int)) then
         bif ile (iadd .i64 p1.1.1 (1:Int)) (ssize s.1) then
          bif ile (ssize s.1) (ssize s.1) then
           bindL (word_Split_l0 n g (sext s.1 (iadd .i64 p1.1.1 (1:Int)) (ssize s.1),s.2.1,app s.2.2.1 [sext s.1 (0:Int) p1.1.1],())) (fun a2 =>
            some (Sum.inl ())) fun b3 =>
           some (Sum.inr b3)
          else none
         else none
        else none
       else none
      else none
     else none
    else none
theorem word_Split_l0_ok (n:Nat):∀ g,LEntOk Tryz.prog 111 (nSl word_Split_sg) ⟨0,[.tree .str, .tree (.int .u8), .own .str],0,[],[.own .str],word_Split_l0 n g⟩ g
  | 0=>loop_zero' fun _=>rfl
  | g+1=>loop_step' mixed (T:=[s_IndexByte_ent n]) (tabCons (s_IndexByte_ok n) tabNil) tabLNil (word_Split_l0_ok n g) fun s=>by kernel_rfl
def word_Split (n:Nat) (x:SgEl word_Split_sg):Option (RtEl word_Split_rs×OutEl word_Split_sg) :=
  bindL (word_Split_l0 n n (x.1,x.2.1,[],())) (fun a1 =>
   none) fun b2 =>
  some (b2,((),(),()))
abbrev word_Split_ent (n:Nat):Ent:=⟨111,word_Split_sg,word_Split_rs,word_Split n⟩
theorem word_Split_ok (n:Nat):EntOk Tryz.prog (word_Split_ent n):=ent_ok' mixed (T:=[s_IndexByte_ent n]) (tabCons (s_IndexByte_ok n) tabNil) (tabLCons (word_Split_l0_ok n n) tabLNil) fun x=>by kernel_rfl
abbrev word_Join_sg:List Sg:=[.tree .str, .tree (.slice .str)]
abbrev word_Join_rs:List Rt:=[.tree .str]
def word_Join (n:Nat) (x:SgEl word_Join_sg):Option (RtEl word_Join_rs×OutEl word_Join_sg) :=
  bindN (s_Join n (x.2.1,x.1,())) fun p1 =>
  some (p1.1,((),(),()))
abbrev word_Join_ent (n:Nat):Ent:=⟨82,word_Join_sg,word_Join_rs,word_Join n⟩
theorem word_Join_ok (n:Nat):EntOk Tryz.prog (word_Join_ent n):=ent_ok' mixed (T:=[s_Join_ent n]) (tabCons (s_Join_ok n) tabNil) tabLNil fun x=>by kernel_rfl
abbrev word_Fields_sg:List Sg:=[.tree .str]
abbrev word_Fields_rs:List Rt:=[.tree (.slice .str)]
def word_Fields_l0 (n:Nat):Nat→SgEl [.own .str, .tree (.slice .str), .tree (.int .i64), .tree (.int .i64)]→Option (SgEl [.own .str] ⊕ SgEl [])
  | 0,_=>none
  | g+1,s =>
    bif ilt s.2.2.2.1 s.2.2.1 then
     bif ile (0:Int) s.2.2.2.1 then
      bindN (lat s.2.1 (iN s.2.2.2.1)) fun v1 =>
      bif !(seq v1 (⟨#[]⟩:ByteArray)) then
       bif roomA s.1 [v1] 16 then
        bindL (word_Fields_l0 n g (app s.1 [v1],s.2.1,s.2.2.1,iadd .i64 s.2.2.2.1 (1:Int),())) (fun a2 =>
         some (Sum.inl a2)) fun b3 =>
        some (Sum.inr ())
       else none
      else
      bindL (word_Fields_l0 n g (s.1,s.2.1,s.2.2.1,iadd .i64 s.2.2.2.1 (1:Int),())) (fun a4 =>
       some (Sum.inl a4)) fun b5 =>
      some (Sum.inr ())
     else none
    else
    some (Sum.inl (s.1,()))
theorem word_Fields_l0_ok (n:Nat):∀ g,LEntOk Tryz.prog 92 (nSl word_Fields_sg) ⟨0,[.own .str, .tree (.slice .str), .tree (.int .i64), .tree (.int .i64)],0,[.own .str],[],word_Fields_l0 n g⟩ g
  | 0=>loop_zero' fun _=>rfl
  | g+1=>loop_step' mixed (T:=[word_Split_ent n]) (tabCons (word_Split_ok n) tabNil) tabLNil (word_Fields_l0_ok n g) fun s=>by kernel_rfl
def word_Fields (n:Nat) (x:SgEl word_Fields_sg):Option (RtEl word_Fields_rs×OutEl word_Fields_sg) :=
  bindN (word_Split n (x.1,(32:Int),())) fun p1 =>
  bindL (word_Fields_l0 n n ([],p1.1.1,ilen p1.1.1,(0:Int),())) (fun a2 =>
   some (a2,((),()))) fun b3 =>
  none
abbrev word_Fields_ent (n:Nat):Ent:=⟨92,word_Fields_sg,word_Fields_rs,word_Fields n⟩
theorem word_Fields_ok (n:Nat):EntOk Tryz.prog (word_Fields_ent n):=ent_ok' mixed (T:=[word_Split_ent n]) (tabCons (word_Split_ok n) tabNil) (tabLCons (word_Fields_l0_ok n n) tabLNil) fun x=>by kernel_rfl
abbrev tag_may_sg:List Sg:=[.tree tTag]
abbrev tag_may_rs:List Rt:=[.tree .bool]
def tag_may (n:Nat) (x:SgEl tag_may_sg):Option (RtEl tag_may_rs×OutEl tag_may_sg) :=
  bindN (word_Name n (x.1.1,())) fun p1 =>
  bif p1.1.1 then
   bindN (word_Value n x.1.2) fun p2 =>
   some (p2.1,((),()))
  else
  some ((false,()),((),()))
abbrev tag_may_ent (n:Nat):Ent:=⟨251,tag_may_sg,tag_may_rs,tag_may n⟩
theorem tag_may_ok (n:Nat):EntOk Tryz.prog (tag_may_ent n):=ent_ok' mixed (T:=[word_Name_ent n,word_Value_ent n]) (tabCons (word_Name_ok n) (tabCons (word_Value_ok n) tabNil)) tabLNil fun x=>by kernel_rfl
abbrev tag_order_sg:List Sg:=[.tree tTag, .tree tTag]
abbrev tag_order_rs:List Rt:=[.tree (.int .i64)]
def tag_order (n:Nat) (x:SgEl tag_order_sg):Option (RtEl tag_order_rs×OutEl tag_order_sg) :=
  bindN (s_Compare n (x.1.1,x.2.1.1,())) fun p1 =>
  some (p1.1,((),(),()))
abbrev tag_order_ent (n:Nat):Ent:=⟨254,tag_order_sg,tag_order_rs,tag_order n⟩
theorem tag_order_ok (n:Nat):EntOk Tryz.prog (tag_order_ent n):=ent_ok' mixed (T:=[s_Compare_ent n]) (tabCons (s_Compare_ok n) tabNil) tabLNil fun x=>by kernel_rfl
abbrev tag_Canon1_sg:List Sg:=[.tree tTag]
abbrev tag_Canon1_rs:List Rt:=[.tree .bool]
def tag_Canon1 (n:Nat) (x:SgEl tag_Canon1_sg):Option (RtEl tag_Canon1_rs×OutEl tag_Canon1_sg) :=
  bindN (tag_may n x) fun p1 =>
  some ((!p1.1.1,()),((),()))
abbrev tag_Canon1_ent (n:Nat):Ent:=⟨250,tag_Canon1_sg,tag_Canon1_rs,tag_Canon1 n⟩
theorem tag_Canon1_ok (n:Nat):EntOk Tryz.prog (tag_Canon1_ent n):=ent_ok' mixed (T:=[tag_may_ent n]) (tabCons (tag_may_ok n) tabNil) tabLNil fun x=>by kernel_rfl
abbrev sl_IndexTag_sg:List Sg:=[.tree (.slice tTag), .fnv 250 []]
abbrev sl_IndexTag_rs:List Rt:=[.tree (.int .i64)]
def sl_IndexTag_l0 (n:Nat):Nat→SgEl [.tree (.slice tTag), .fnv 250 [], .tree (.int .i64), .tree (.int .i64)]→Option (SgEl [] ⊕ SgEl [.tree (.int .i64)])
  | 0,_=>none
  | g+1,s =>
    bif ilt s.2.2.2.1 s.2.2.1 then
     bif ile (0:Int) s.2.2.2.1 then
      bindN (lat s.1 (iN s.2.2.2.1)) fun v1 =>
      bindN (tag_Canon1 n (v1,())) fun p2 =>
      bif p2.1.1 then
       some (Sum.inr s.2.2.2)
      else
      bindL (sl_IndexTag_l0 n g (s.1,(),s.2.2.1,iadd .i64 s.2.2.2.1 (1:Int),())) (fun a3 =>
       some (Sum.inl ())) fun b4 =>
      some (Sum.inr b4)
     else none
    else
    some (Sum.inl ())
theorem sl_IndexTag_l0_ok (n:Nat):∀ g,LEntOk Tryz.prog 292 (nSl sl_IndexTag_sg) ⟨0,[.tree (.slice tTag), .fnv 250 [], .tree (.int .i64), .tree (.int .i64)],0,[],[.tree (.int .i64)],sl_IndexTag_l0 n g⟩ g
  | 0=>loop_zero' fun _=>rfl
  | g+1=>loop_step' mixed (T:=[tag_Canon1_ent n]) (tabCons (tag_Canon1_ok n) tabNil) tabLNil (sl_IndexTag_l0_ok n g) fun s=>by kernel_rfl
def sl_IndexTag (n:Nat) (x:SgEl sl_IndexTag_sg):Option (RtEl sl_IndexTag_rs×OutEl sl_IndexTag_sg) :=
  bindL (sl_IndexTag_l0 n n (x.1,(),ilen x.1,(0:Int),())) (fun a1 =>
   some (((-1:Int),()),((),(),()))) fun b2 =>
  some (b2,((),(),()))
abbrev sl_IndexTag_ent (n:Nat):Ent:=⟨292,sl_IndexTag_sg,sl_IndexTag_rs,sl_IndexTag n⟩
theorem sl_IndexTag_ok (n:Nat):EntOk Tryz.prog (sl_IndexTag_ent n):=ent_ok' mixed (T:=[tag_Canon1_ent n]) (tabCons (tag_Canon1_ok n) tabNil) (tabLCons (sl_IndexTag_l0_ok n n) tabLNil) fun x=>by kernel_rfl
abbrev sl_ContainsTag_sg:List Sg:=[.tree (.slice tTag), .fnv 250 []]
abbrev sl_ContainsTag_rs:List Rt:=[.tree .bool]
def sl_ContainsTag (n:Nat) (x:SgEl sl_ContainsTag_sg):Option (RtEl sl_ContainsTag_rs×OutEl sl_ContainsTag_sg) :=
  bindN (sl_IndexTag n (x.1,(),())) fun p1 =>
  some ((ile (0:Int) p1.1.1,()),((),(),()))
abbrev sl_ContainsTag_ent (n:Nat):Ent:=⟨249,sl_ContainsTag_sg,sl_ContainsTag_rs,sl_ContainsTag n⟩
theorem sl_ContainsTag_ok (n:Nat):EntOk Tryz.prog (sl_ContainsTag_ent n):=ent_ok' mixed (T:=[sl_IndexTag_ent n,tag_Canon1_ent n]) (tabCons (sl_IndexTag_ok n) (tabCons (tag_Canon1_ok n) tabNil)) tabLNil fun x=>by kernel_rfl
abbrev tag_Canon_sg:List Sg:=[.tree (.slice tTag)]
abbrev tag_Canon_rs:List Rt:=[.tree (.slice tTag), .tree (.int .i64)]
def tag_Canon_l0 (n:Nat):Nat→SgEl [.own tTag, .tree (.int .i64)]→Option (SgEl [.own tTag] ⊕ SgEl [.tree (.slice tTag), .tree (.int .i64)])
  | 0,_=>none
  | g+1,s =>
    bif ilt s.2.1 (ilen s.1) then
     bif ile (0:Int) (isub .i64 s.2.1 (1:Int)) then
      bindN (lat s.1 (iN (isub .i64 s.2.1 (1:Int)))) fun v1 =>
      bindN (lat s.1 (iN (isub .i64 s.2.1 (1:Int)))) fun v2 =>
      bif ile (0:Int) s.2.1 then
       bindN (lat s.1 (iN s.2.1)) fun v3 =>
       bindN (lat s.1 (iN s.2.1)) fun v4 =>
       bindN (tag_order n (v2,v4,())) fun p5 =>
       bif ieq p5.1.1 (0:Int) then
        some (Sum.inr ([],(5:Int),()))
       else
       bindL (tag_Canon_l0 n g (s.1,iadd .i64 s.2.1 (1:Int),())) (fun a6 =>
        some (Sum.inl a6)) fun b7 =>
       some (Sum.inr b7)
      else none
     else none
    else
    some (Sum.inl (s.1,()))
theorem tag_Canon_l0_ok (n:Nat):∀ g,LEntOk Tryz.prog 196 (nSl tag_Canon_sg) ⟨0,[.own tTag, .tree (.int .i64)],0,[.own tTag],[.tree (.slice tTag), .tree (.int .i64)],tag_Canon_l0 n g⟩ g
  | 0=>loop_zero' fun _=>rfl
  | g+1=>loop_step' mixed (T:=[sl_ContainsTag_ent n,sl_CloneTag_ent n,sl_SortTag_ent n,tag_order_ent n]) (tabCons (sl_ContainsTag_ok n) (tabCons (sl_CloneTag_ok n) (tabCons (sl_SortTag_ok n) (tabCons (tag_order_ok n) tabNil)))) tabLNil (tag_Canon_l0_ok n g) fun s=>by kernel_rfl
def tag_Canon (n:Nat) (x:SgEl tag_Canon_sg):Option (RtEl tag_Canon_rs×OutEl tag_Canon_sg) :=
  bindN (sl_ContainsTag n (x.1,(),())) fun p1 =>
  bif p1.1.1 then
   some (([],(2:Int),()),((),()))
  else
  bif ilt (4:Int) (ilen x.1) then
   some (([],(4:Int),()),((),()))
  else
  bindN (sl_CloneTag n x) fun p2 =>
  bindN (sl_SortTag n (p2.1.1,(),())) fun p3 =>
  bindL (tag_Canon_l0 n n (p3.2.1,(1:Int),())) (fun a4 =>
   some ((a4.1,(0:Int),()),((),()))) fun b5 =>
  some (b5,((),()))
abbrev tag_Canon_ent (n:Nat):Ent:=⟨196,tag_Canon_sg,tag_Canon_rs,tag_Canon n⟩
theorem tag_Canon_ok (n:Nat):EntOk Tryz.prog (tag_Canon_ent n):=ent_ok' mixed (T:=[sl_ContainsTag_ent n,sl_CloneTag_ent n,sl_SortTag_ent n,tag_order_ent n]) (tabCons (sl_ContainsTag_ok n) (tabCons (sl_CloneTag_ok n) (tabCons (sl_SortTag_ok n) (tabCons (tag_order_ok n) tabNil)))) (tabLCons (tag_Canon_l0_ok n n) tabLNil) fun x=>by kernel_rfl
abbrev sl_EqTag_sg:List Sg:=[.tree (.slice tTag), .tree (.slice tTag)]
abbrev sl_EqTag_rs:List Rt:=[.tree .bool]
def sl_EqTag_l0 (n:Nat):Nat→SgEl [.tree (.slice tTag), .tree (.slice tTag), .tree (.int .i64), .tree (.int .i64)]→Option (SgEl [] ⊕ SgEl [.tree .bool])
  | 0,_=>none
  | g+1,s =>
    bif ilt s.2.2.2.1 s.2.2.1 then
     bif ile (0:Int) s.2.2.2.1 then
      bindN (lat s.1 (iN s.2.2.2.1)) fun v1 =>
      bif ile (0:Int) s.2.2.2.1 then
       bindN (lat s.2.1 (iN s.2.2.2.1)) fun v2 =>
       bif !(seq v1.1 v2.1 && (seq v1.2.1 v2.2.1 && true)) then
        some (Sum.inr (false,()))
       else
       bindL (sl_EqTag_l0 n g (s.1,s.2.1,s.2.2.1,iadd .i64 s.2.2.2.1 (1:Int),())) (fun a3 =>
        some (Sum.inl ())) fun b4 =>
       some (Sum.inr b4)
      else none
     else none
    else
    some (Sum.inl ())
theorem sl_EqTag_l0_ok (n:Nat):∀ g,LEntOk Tryz.prog 158 (nSl sl_EqTag_sg) ⟨0,[.tree (.slice tTag), .tree (.slice tTag), .tree (.int .i64), .tree (.int .i64)],0,[],[.tree .bool],sl_EqTag_l0 n g⟩ g
  | 0=>loop_zero' fun _=>rfl
  | g+1=>loop_step' mixed (T:=[]) tabNil tabLNil (sl_EqTag_l0_ok n g) fun s=>by kernel_rfl
def sl_EqTag (n:Nat) (x:SgEl sl_EqTag_sg):Option (RtEl sl_EqTag_rs×OutEl sl_EqTag_sg) :=
  bif !(ieq (ilen x.1) (ilen x.2.1)) then
   some ((false,()),((),(),()))
  else
  bindL (sl_EqTag_l0 n n (x.1,x.2.1,ilen x.1,(0:Int),())) (fun a1 =>
   some ((true,()),((),(),()))) fun b2 =>
  some (b2,((),(),()))
abbrev sl_EqTag_ent (n:Nat):Ent:=⟨158,sl_EqTag_sg,sl_EqTag_rs,sl_EqTag n⟩
theorem sl_EqTag_ok (n:Nat):EntOk Tryz.prog (sl_EqTag_ent n):=ent_ok' mixed (T:=[]) tabNil (tabLCons (sl_EqTag_l0_ok n n) tabLNil) fun x=>by kernel_rfl
abbrev tag_Right_sg:List Sg:=[.tree (.slice tTag)]
abbrev tag_Right_rs:List Rt:=[.tree .bool]
def tag_Right (n:Nat) (x:SgEl tag_Right_sg):Option (RtEl tag_Right_rs×OutEl tag_Right_sg) :=
  bindN (tag_Canon n x) fun p1 =>
  bif ieq p1.1.2.1 (0:Int) then
   bindN (sl_EqTag n (p1.1.1,x)) fun p2 =>
   some (p2.1,((),()))
  else
  some ((false,()),((),()))
abbrev tag_Right_ent (n:Nat):Ent:=⟨145,tag_Right_sg,tag_Right_rs,tag_Right n⟩
theorem tag_Right_ok (n:Nat):EntOk Tryz.prog (tag_Right_ent n):=ent_ok' mixed (T:=[tag_Canon_ent n,sl_EqTag_ent n]) (tabCons (tag_Canon_ok n) (tabCons (sl_EqTag_ok n) tabNil)) tabLNil fun x=>by kernel_rfl
abbrev tag_Text_sg:List Sg:=[.tree (.slice tTag)]
abbrev tag_Text_rs:List Rt:=[.tree .str]
def tag_Text_l0 (n:Nat):Nat→SgEl [.own .str, .tree (.slice tTag), .tree (.int .i64), .tree (.int .i64)]→Option (SgEl [.own .str] ⊕ SgEl [])
  | 0,_=>none
  | g+1,s =>
    bif ilt s.2.2.2.1 s.2.2.1 then
     bif ile (0:Int) s.2.2.2.1 then
      bindN (lat s.2.1 (iN s.2.2.2.1)) fun v1 =>
      bindN (word_Join n ((⟨#[61]⟩:ByteArray),[v1.1,v1.2.1],())) fun p2 =>
      bif roomA s.1 [p2.1.1] 16 then
       bindL (tag_Text_l0 n g (app s.1 [p2.1.1],s.2.1,s.2.2.1,iadd .i64 s.2.2.2.1 (1:Int),())) (fun a3 =>
        some (Sum.inl a3)) fun b4 =>
       some (Sum.inr ())
      else none
     else none
    else
    some (Sum.inl (s.1,()))
theorem tag_Text_l0_ok (n:Nat):∀ g,LEntOk Tryz.prog 152 (nSl tag_Text_sg) ⟨0,[.own .str, .tree (.slice tTag), .tree (.int .i64), .tree (.int .i64)],0,[.own .str],[],tag_Text_l0 n g⟩ g
  | 0=>loop_zero' fun _=>rfl
  | g+1=>loop_step' mixed (T:=[word_Join_ent n]) (tabCons (word_Join_ok n) tabNil) tabLNil (tag_Text_l0_ok n g) fun s=>by kernel_rfl
def tag_Text (n:Nat) (x:SgEl tag_Text_sg):Option (RtEl tag_Text_rs×OutEl tag_Text_sg) :=
  bindL (tag_Text_l0 n n ([],x.1,ilen x.1,(0:Int),())) (fun a1 =>
   bindN (word_Join n ((⟨#[44]⟩:ByteArray),a1)) fun p3 =>
   some (p3.1,((),()))) fun b2 =>
  none
abbrev tag_Text_ent (n:Nat):Ent:=⟨152,tag_Text_sg,tag_Text_rs,tag_Text n⟩
theorem tag_Text_ok (n:Nat):EntOk Tryz.prog (tag_Text_ent n):=ent_ok' mixed (T:=[word_Join_ent n]) (tabCons (word_Join_ok n) tabNil) (tabLCons (tag_Text_l0_ok n n) tabLNil) fun x=>by kernel_rfl
abbrev tag_Parse_sg:List Sg:=[.tree .str]
abbrev tag_Parse_rs:List Rt:=[.tree (.slice tTag), .tree (.int .i64)]
def tag_Parse_l0 (n:Nat):Nat→SgEl [.own tTag, .tree (.slice .str), .tree (.int .i64), .tree (.int .i64)]→Option (SgEl [.own tTag] ⊕ SgEl [.tree (.slice tTag), .tree (.int .i64)])
  | 0,_=>none
  | g+1,s =>
    bif ilt s.2.2.2.1 s.2.2.1 then
     bif ile (0:Int) s.2.2.2.1 then
      bindN (lat s.2.1 (iN s.2.2.2.1)) fun v1 =>
      bindN (s_Cut n (v1,(⟨#[61]⟩:ByteArray),())) fun p2 =>
      bif !p2.1.2.2.1 then
       some (Sum.inr ([],(2:Int),()))
      else
      bif roomA s.1 [(p2.1.1,p2.1.2.1,())] 32 then
       bindL (tag_Parse_l0 n g (app s.1 [(p2.1.1,p2.1.2.1,())],s.2.1,s.2.2.1,iadd .i64 s.2.2.2.1 (1:Int),())) (fun a3 =>
        some (Sum.inl a3)) fun b4 =>
       some (Sum.inr b4)
      else none
     else none
    else
    some (Sum.inl (s.1,()))
theorem tag_Parse_l0_ok (n:Nat):∀ g,LEntOk Tryz.prog 169 (nSl tag_Parse_sg) ⟨0,[.own tTag, .tree (.slice .str), .tree (.int .i64), .tree (.int .i64)],0,[.own tTag],[.tree (.slice tTag), .tree (.int .i64)],tag_Parse_l0 n g⟩ g
  | 0=>loop_zero' fun _=>rfl
  | g+1=>loop_step' mixed (T:=[word_Split_ent n,s_Cut_ent n,tag_Canon_ent n]) (tabCons (word_Split_ok n) (tabCons (s_Cut_ok n) (tabCons (tag_Canon_ok n) tabNil))) tabLNil (tag_Parse_l0_ok n g) fun s=>by kernel_rfl
def tag_Parse (n:Nat) (x:SgEl tag_Parse_sg):Option (RtEl tag_Parse_rs×OutEl tag_Parse_sg) :=
  bif seq x.1 (⟨#[]⟩:ByteArray) then
   some (([],(0:Int),()),((),()))
  else
  bindN (word_Split n (x.1,(44:Int),())) fun p1 =>
  bindL (tag_Parse_l0 n n ([],p1.1.1,ilen p1.1.1,(0:Int),())) (fun a2 =>
   bindN (tag_Canon n a2) fun p4 =>
   some (p4.1,((),()))) fun b3 =>
  some (b3,((),()))
abbrev tag_Parse_ent (n:Nat):Ent:=⟨169,tag_Parse_sg,tag_Parse_rs,tag_Parse n⟩
theorem tag_Parse_ok (n:Nat):EntOk Tryz.prog (tag_Parse_ent n):=ent_ok' mixed (T:=[word_Split_ent n,s_Cut_ent n,tag_Canon_ent n]) (tabCons (word_Split_ok n) (tabCons (s_Cut_ok n) (tabCons (tag_Canon_ok n) tabNil))) (tabLCons (tag_Parse_l0_ok n n) tabLNil) fun x=>by kernel_rfl
abbrev key_Right_sg:List Sg:=[.tree tKey]
abbrev key_Right_rs:List Rt:=[.tree .bool]
def key_Right (n:Nat) (x:SgEl key_Right_sg):Option (RtEl key_Right_rs×OutEl key_Right_sg) :=
  bindN (word_Name n (x.1.1,())) fun p1 =>
  bif p1.1.1 then
   bindN (tag_Right n x.1.2) fun p2 =>
   some (p2.1,((),()))
  else
  some ((false,()),((),()))
abbrev key_Right_ent (n:Nat):Ent:=⟨76,key_Right_sg,key_Right_rs,key_Right n⟩
theorem key_Right_ok (n:Nat):EntOk Tryz.prog (key_Right_ent n):=ent_ok' mixed (T:=[word_Name_ent n,tag_Right_ent n]) (tabCons (word_Name_ok n) (tabCons (tag_Right_ok n) tabNil)) tabLNil fun x=>by kernel_rfl
abbrev key_Text_sg:List Sg:=[.tree tKey]
abbrev key_Text_rs:List Rt:=[.tree .str]
def key_Text (n:Nat) (x:SgEl key_Text_sg):Option (RtEl key_Text_rs×OutEl key_Text_sg) :=
  bif ieq (ilen x.1.2.1) (0:Int) then
   some ((x.1.1,()),((),()))
  else
  bindN (tag_Text n x.1.2) fun p1 =>
  bindN (word_Join n ((⟨#[]⟩:ByteArray),[x.1.1,(⟨#[123]⟩:ByteArray),p1.1.1,(⟨#[125]⟩:ByteArray)],())) fun p2 =>
  some (p2.1,((),()))
abbrev key_Text_ent (n:Nat):Ent:=⟨83,key_Text_sg,key_Text_rs,key_Text n⟩
theorem key_Text_ok (n:Nat):EntOk Tryz.prog (key_Text_ent n):=ent_ok' mixed (T:=[tag_Text_ent n,word_Join_ent n]) (tabCons (tag_Text_ok n) (tabCons (word_Join_ok n) tabNil)) tabLNil fun x=>by kernel_rfl
abbrev key_Parse_sg:List Sg:=[.tree .str]
abbrev key_Parse_rs:List Rt:=[.tree tKey, .tree (.int .i64)]
def key_Parse (n:Nat) (x:SgEl key_Parse_sg):Option (RtEl key_Parse_rs×OutEl key_Parse_sg) :=
  bindN (s_Cut n (x.1,(⟨#[123]⟩:ByteArray),())) fun p1 =>
  bif p1.1.2.2.1 then
   bindN (s_CutSuffix n (p1.1.2.1,(⟨#[125]⟩:ByteArray),())) fun p2 =>
   bif !p2.1.2.1 then
    some ((((⟨#[]⟩:ByteArray),[],()),(2:Int),()),((),()))
   else
   bif seq p2.1.1 (⟨#[]⟩:ByteArray) then
    some ((((⟨#[]⟩:ByteArray),[],()),(2:Int),()),((),()))
   else
   bindN (word_Name n (p1.1.1,())) fun p3 =>
   bif !p3.1.1 then
    some ((((⟨#[]⟩:ByteArray),[],()),(2:Int),()),((),()))
   else
   bindN (tag_Parse n (p2.1.1,())) fun p4 =>
   bif !(ieq p4.1.2.1 (0:Int)) then
    some ((((⟨#[]⟩:ByteArray),[],()),p4.1.2),((),()))
   else
   some (((p1.1.1,p4.1.1,()),(0:Int),()),((),()))
  else
  bindN (word_Name n (p1.1.1,())) fun p5 =>
  bif !p5.1.1 then
   some ((((⟨#[]⟩:ByteArray),[],()),(2:Int),()),((),()))
  else
  bindN (tag_Parse n (p1.1.2.1,())) fun p6 =>
  bif !(ieq p6.1.2.1 (0:Int)) then
   some ((((⟨#[]⟩:ByteArray),[],()),p6.1.2),((),()))
  else
  some (((p1.1.1,p6.1.1,()),(0:Int),()),((),()))
abbrev key_Parse_ent (n:Nat):Ent:=⟨177,key_Parse_sg,key_Parse_rs,key_Parse n⟩
theorem key_Parse_ok (n:Nat):EntOk Tryz.prog (key_Parse_ent n):=ent_ok' mixed (T:=[s_Cut_ent n,s_CutSuffix_ent n,word_Name_ent n,tag_Parse_ent n]) (tabCons (s_Cut_ok n) (tabCons (s_CutSuffix_ok n) (tabCons (word_Name_ok n) (tabCons (tag_Parse_ok n) tabNil)))) tabLNil fun x=>by kernel_rfl
abbrev key_Same_sg:List Sg:=[.tree tKey, .tree tKey]
abbrev key_Same_rs:List Rt:=[.tree .bool]
def key_Same (n:Nat) (x:SgEl key_Same_sg):Option (RtEl key_Same_rs×OutEl key_Same_sg) :=
  bif seq x.1.1 x.2.1.1 then
   bindN (sl_EqTag n (x.1.2.1,x.2.1.2)) fun p1 =>
   some (p1.1,((),(),()))
  else
  some ((false,()),((),(),()))
abbrev key_Same_ent (n:Nat):Ent:=⟨89,key_Same_sg,key_Same_rs,key_Same n⟩
theorem key_Same_ok (n:Nat):EntOk Tryz.prog (key_Same_ent n):=ent_ok' mixed (T:=[sl_EqTag_ent n]) (tabCons (sl_EqTag_ok n) tabNil) tabLNil fun x=>by kernel_rfl
abbrev pick_may_sg:List Sg:=[.tree tPick_match]
abbrev pick_may_rs:List Rt:=[.tree .bool]
def pick_may (n:Nat) (x:SgEl pick_may_sg):Option (RtEl pick_may_rs×OutEl pick_may_sg) :=
  bindN (word_Name n (x.1.1.2.1,())) fun p1 =>
  bif !p1.1.1 then
   some ((false,()),((),()))
  else
  bif ieq x.1.1.1 (1:Int) then
   bindN (word_Value n x.1.1.2.2) fun p2 =>
   some (p2.1,((),()))
  else
  bif ieq x.1.1.1 (2:Int) then
   bindN (word_Value n x.1.1.2.2) fun p3 =>
   some (p3.1,((),()))
  else
  bif ieq x.1.1.1 (3:Int) then
   bif seq x.1.1.2.2.1 (⟨#[]⟩:ByteArray) then
    some ((true,()),((),()))
   else
   bindN (word_Value n x.1.1.2.2) fun p4 =>
   some (p4.1,((),()))
  else
  bif ieq x.1.1.1 (4:Int) then
   some ((seq x.1.1.2.2.1 (⟨#[]⟩:ByteArray),()),((),()))
  else
  some ((false,()),((),()))
abbrev pick_may_ent (n:Nat):Ent:=⟨200,pick_may_sg,pick_may_rs,pick_may n⟩
theorem pick_may_ok (n:Nat):EntOk Tryz.prog (pick_may_ent n):=ent_ok' mixed (T:=[word_Name_ent n,word_Value_ent n]) (tabCons (word_Name_ok n) (tabCons (word_Value_ok n) tabNil)) tabLNil fun x=>by kernel_rfl
abbrev pick_text_sg:List Sg:=[.tree tPick_match]
abbrev pick_text_rs:List Rt:=[.tree .str]
def pick_text (n:Nat) (x:SgEl pick_text_sg):Option (RtEl pick_text_rs×OutEl pick_text_sg) :=
  bif ieq x.1.1.1 (1:Int) then
   bindN (word_Join n ((⟨#[61]⟩:ByteArray),[x.1.1.2.1,x.1.1.2.2.1],())) fun p1 =>
   some (p1.1,((),()))
  else
  bif ieq x.1.1.1 (2:Int) then
   bindN (word_Join n ((⟨#[33,61]⟩:ByteArray),[x.1.1.2.1,x.1.1.2.2.1],())) fun p2 =>
   some (p2.1,((),()))
  else
  bif ieq x.1.1.1 (3:Int) then
   bif sfits x.1.1.2.2.1 (⟨#[42]⟩:ByteArray) then
    bindN (word_Join n ((⟨#[61]⟩:ByteArray),[x.1.1.2.1,scat x.1.1.2.2.1 (⟨#[42]⟩:ByteArray)],())) fun p3 =>
    some (p3.1,((),()))
   else none
  else
  some ((x.1.1.2.1,()),((),()))
abbrev pick_text_ent (n:Nat):Ent:=⟨211,pick_text_sg,pick_text_rs,pick_text n⟩
theorem pick_text_ok (n:Nat):EntOk Tryz.prog (pick_text_ent n):=ent_ok' mixed (T:=[word_Join_ent n]) (tabCons (word_Join_ok n) tabNil) tabLNil fun x=>by kernel_rfl
abbrev pick_read_sg:List Sg:=[.tree .str]
abbrev pick_read_rs:List Rt:=[.tree tMatch]
def pick_read (n:Nat) (x:SgEl pick_read_sg):Option (RtEl pick_read_rs×OutEl pick_read_sg) :=
  bindN (s_Cut n (x.1,(⟨#[33,61]⟩:ByteArray),())) fun p1 =>
  bif p1.1.2.2.1 then
   some ((((2:Int),p1.1.1,p1.1.2.1,()),()),((),()))
  else
  bindN (s_Cut n (x.1,(⟨#[61]⟩:ByteArray),())) fun p2 =>
  bif !p2.1.2.2.1 then
   some ((((4:Int),x.1,(⟨#[]⟩:ByteArray),()),()),((),()))
  else
  bindN (s_CutSuffix n (p2.1.2.1,(⟨#[42]⟩:ByteArray),())) fun p3 =>
  bif p3.1.2.1 then
   some ((((3:Int),p2.1.1,p3.1.1,()),()),((),()))
  else
  some ((((1:Int),p2.1.1,p2.1.2.1,()),()),((),()))
abbrev pick_read_ent (n:Nat):Ent:=⟨355,pick_read_sg,pick_read_rs,pick_read n⟩
theorem pick_read_ok (n:Nat):EntOk Tryz.prog (pick_read_ent n):=ent_ok' mixed (T:=[s_Cut_ent n,s_CutSuffix_ent n]) (tabCons (s_Cut_ok n) (tabCons (s_CutSuffix_ok n) tabNil)) tabLNil fun x=>by kernel_rfl
abbrev pick_Right1_sg:List Sg:=[.tree tMatch]
abbrev pick_Right1_rs:List Rt:=[.tree .bool]
def pick_Right1 (n:Nat) (x:SgEl pick_Right1_sg):Option (RtEl pick_Right1_rs×OutEl pick_Right1_sg) :=
  bindN (pick_may n (x,())) fun p1 =>
  some ((!p1.1.1,()),((),()))
abbrev pick_Right1_ent (n:Nat):Ent:=⟨199,pick_Right1_sg,pick_Right1_rs,pick_Right1 n⟩
theorem pick_Right1_ok (n:Nat):EntOk Tryz.prog (pick_Right1_ent n):=ent_ok' mixed (T:=[pick_may_ent n]) (tabCons (pick_may_ok n) tabNil) tabLNil fun x=>by kernel_rfl
abbrev sl_IndexMatch_sg:List Sg:=[.tree (.slice tMatch), .fnv 199 []]
abbrev sl_IndexMatch_rs:List Rt:=[.tree (.int .i64)]
def sl_IndexMatch_l0 (n:Nat):Nat→SgEl [.tree (.slice tMatch), .fnv 199 [], .tree (.int .i64), .tree (.int .i64)]→Option (SgEl [.fnv 199 []] ⊕ SgEl [.fnv 199 [], .tree (.int .i64)])
  | 0,_=>none
  | g+1,s =>
    bif ilt s.2.2.2.1 s.2.2.1 then
     bif ile (0:Int) s.2.2.2.1 then
      bindN (lat s.1 (iN s.2.2.2.1)) fun v1 =>
      bindN (pick_Right1 n (v1,())) fun p2 =>
      bif p2.1.1 then
       some (Sum.inr ((),s.2.2.2))
      else
      bindL (sl_IndexMatch_l0 n g (s.1,(),s.2.2.1,iadd .i64 s.2.2.2.1 (1:Int),())) (fun a3 =>
       some (Sum.inl ((),()))) fun b4 =>
      some (Sum.inr ((),b4.2))
     else none
    else
    some (Sum.inl ((),()))
theorem sl_IndexMatch_l0_ok (n:Nat):∀ g,LEntOk Tryz.prog 255 (nSl sl_IndexMatch_sg) ⟨0,[.tree (.slice tMatch), .fnv 199 [], .tree (.int .i64), .tree (.int .i64)],0,[.fnv 199 []],[.fnv 199 [], .tree (.int .i64)],sl_IndexMatch_l0 n g⟩ g
  | 0=>loop_zero' fun _=>rfl
  | g+1=>loop_step' mixed (T:=[pick_Right1_ent n]) (tabCons (pick_Right1_ok n) tabNil) tabLNil (sl_IndexMatch_l0_ok n g) fun s=>by kernel_rfl
def sl_IndexMatch (n:Nat) (x:SgEl sl_IndexMatch_sg):Option (RtEl sl_IndexMatch_rs×OutEl sl_IndexMatch_sg) :=
  bindL (sl_IndexMatch_l0 n n (x.1,(),ilen x.1,(0:Int),())) (fun a1 =>
   some (((-1:Int),()),((),(),()))) fun b2 =>
  some (b2.2,((),(),()))
abbrev sl_IndexMatch_ent (n:Nat):Ent:=⟨255,sl_IndexMatch_sg,sl_IndexMatch_rs,sl_IndexMatch n⟩
theorem sl_IndexMatch_ok (n:Nat):EntOk Tryz.prog (sl_IndexMatch_ent n):=ent_ok' mixed (T:=[pick_Right1_ent n]) (tabCons (pick_Right1_ok n) tabNil) (tabLCons (sl_IndexMatch_l0_ok n n) tabLNil) fun x=>by kernel_rfl
abbrev sl_ContainsMatch_sg:List Sg:=[.tree (.slice tMatch), .fnv 199 []]
abbrev sl_ContainsMatch_rs:List Rt:=[.tree .bool]
def sl_ContainsMatch (n:Nat) (x:SgEl sl_ContainsMatch_sg):Option (RtEl sl_ContainsMatch_rs×OutEl sl_ContainsMatch_sg) :=
  bindN (sl_IndexMatch n (x.1,(),())) fun p1 =>
  some ((ile (0:Int) p1.1.1,()),((),(),()))
abbrev sl_ContainsMatch_ent (n:Nat):Ent:=⟨198,sl_ContainsMatch_sg,sl_ContainsMatch_rs,sl_ContainsMatch n⟩
theorem sl_ContainsMatch_ok (n:Nat):EntOk Tryz.prog (sl_ContainsMatch_ent n):=ent_ok' mixed (T:=[sl_IndexMatch_ent n,pick_Right1_ent n]) (tabCons (sl_IndexMatch_ok n) (tabCons (pick_Right1_ok n) tabNil)) tabLNil fun x=>by kernel_rfl
abbrev pick_Right_sg:List Sg:=[.tree (.slice tMatch)]
abbrev pick_Right_rs:List Rt:=[.tree .bool]
def pick_Right (n:Nat) (x:SgEl pick_Right_sg):Option (RtEl pick_Right_rs×OutEl pick_Right_sg) :=
  bif ile (ilen x.1) (4:Int) then
   bindN (sl_ContainsMatch n (x.1,(),())) fun p1 =>
   some ((!p1.1.1,()),((),()))
  else
  some ((false,()),((),()))
abbrev pick_Right_ent (n:Nat):Ent:=⟨147,pick_Right_sg,pick_Right_rs,pick_Right n⟩
theorem pick_Right_ok (n:Nat):EntOk Tryz.prog (pick_Right_ent n):=ent_ok' mixed (T:=[sl_ContainsMatch_ent n]) (tabCons (sl_ContainsMatch_ok n) tabNil) tabLNil fun x=>by kernel_rfl
abbrev pick_Text_sg:List Sg:=[.tree (.slice tMatch)]
abbrev pick_Text_rs:List Rt:=[.tree .str]
def pick_Text_l0 (n:Nat):Nat→SgEl [.own .str, .tree (.slice tMatch), .tree (.int .i64), .tree (.int .i64)]→Option (SgEl [.own .str] ⊕ SgEl [])
  | 0,_=>none
  | g+1,s =>
    bif ilt s.2.2.2.1 s.2.2.1 then
     bif ile (0:Int) s.2.2.2.1 then
      bindN (lat s.2.1 (iN s.2.2.2.1)) fun v1 =>
      bindN (pick_text n ((v1,()),())) fun p2 =>
      bif roomA s.1 [p2.1.1] 16 then
       bindL (pick_Text_l0 n g (app s.1 [p2.1.1],s.2.1,s.2.2.1,iadd .i64 s.2.2.2.1 (1:Int),())) (fun a3 =>
        some (Sum.inl a3)) fun b4 =>
       some (Sum.inr ())
      else none
     else none
    else
    some (Sum.inl (s.1,()))
theorem pick_Text_l0_ok (n:Nat):∀ g,LEntOk Tryz.prog 154 (nSl pick_Text_sg) ⟨0,[.own .str, .tree (.slice tMatch), .tree (.int .i64), .tree (.int .i64)],0,[.own .str],[],pick_Text_l0 n g⟩ g
  | 0=>loop_zero' fun _=>rfl
  | g+1=>loop_step' mixed (T:=[pick_text_ent n,word_Join_ent n]) (tabCons (pick_text_ok n) (tabCons (word_Join_ok n) tabNil)) tabLNil (pick_Text_l0_ok n g) fun s=>by kernel_rfl
def pick_Text (n:Nat) (x:SgEl pick_Text_sg):Option (RtEl pick_Text_rs×OutEl pick_Text_sg) :=
  bindL (pick_Text_l0 n n ([],x.1,ilen x.1,(0:Int),())) (fun a1 =>
   bindN (word_Join n ((⟨#[44]⟩:ByteArray),a1)) fun p3 =>
   some (p3.1,((),()))) fun b2 =>
  none
abbrev pick_Text_ent (n:Nat):Ent:=⟨154,pick_Text_sg,pick_Text_rs,pick_Text n⟩
theorem pick_Text_ok (n:Nat):EntOk Tryz.prog (pick_Text_ent n):=ent_ok' mixed (T:=[pick_text_ent n,word_Join_ent n]) (tabCons (pick_text_ok n) (tabCons (word_Join_ok n) tabNil)) (tabLCons (pick_Text_l0_ok n n) tabLNil) fun x=>by kernel_rfl
abbrev pick_Parse_sg:List Sg:=[.tree .str]
abbrev pick_Parse_rs:List Rt:=[.tree (.slice tMatch), .tree (.int .i64)]
def pick_Parse_l0 (n:Nat):Nat→SgEl [.own tMatch, .tree (.slice .str), .tree (.int .i64), .tree (.int .i64)]→Option (SgEl [.own tMatch] ⊕ SgEl [.tree (.slice tMatch), .tree (.int .i64)])
  | 0,_=>none
  | g+1,s =>
    bif ilt s.2.2.2.1 s.2.2.1 then
     bif ile (0:Int) s.2.2.2.1 then
      bindN (lat s.2.1 (iN s.2.2.2.1)) fun v1 =>
      bindN (pick_read n (v1,())) fun p2 =>
      bindN (pick_may n (p2.1,())) fun p3 =>
      bif !p3.1.1 then
       some (Sum.inr ([],(2:Int),()))
      else
      bif roomA s.1 [p2.1.1] 40 then
       bindL (pick_Parse_l0 n g (app s.1 [p2.1.1],s.2.1,s.2.2.1,iadd .i64 s.2.2.2.1 (1:Int),())) (fun a4 =>
        some (Sum.inl a4)) fun b5 =>
       some (Sum.inr b5)
      else none
     else none
    else
    some (Sum.inl (s.1,()))
theorem pick_Parse_l0_ok (n:Nat):∀ g,LEntOk Tryz.prog 336 (nSl pick_Parse_sg) ⟨0,[.own tMatch, .tree (.slice .str), .tree (.int .i64), .tree (.int .i64)],0,[.own tMatch],[.tree (.slice tMatch), .tree (.int .i64)],pick_Parse_l0 n g⟩ g
  | 0=>loop_zero' fun _=>rfl
  | g+1=>loop_step' mixed (T:=[word_Split_ent n,pick_read_ent n,pick_may_ent n]) (tabCons (word_Split_ok n) (tabCons (pick_read_ok n) (tabCons (pick_may_ok n) tabNil))) tabLNil (pick_Parse_l0_ok n g) fun s=>by kernel_rfl
def pick_Parse (n:Nat) (x:SgEl pick_Parse_sg):Option (RtEl pick_Parse_rs×OutEl pick_Parse_sg) :=
  bif seq x.1 (⟨#[]⟩:ByteArray) then
   some (([],(0:Int),()),((),()))
  else
  bindN (word_Split n (x.1,(44:Int),())) fun p1 =>
  bindL (pick_Parse_l0 n n ([],p1.1.1,ilen p1.1.1,(0:Int),())) (fun a2 =>
   bif ilt (4:Int) (ilen a2.1) then
    some (([],(4:Int),()),((),()))
   else
   some ((a2.1,(0:Int),()),((),()))) fun b3 =>
  some (b3,((),()))
abbrev pick_Parse_ent (n:Nat):Ent:=⟨336,pick_Parse_sg,pick_Parse_rs,pick_Parse n⟩
theorem pick_Parse_ok (n:Nat):EntOk Tryz.prog (pick_Parse_ent n):=ent_ok' mixed (T:=[word_Split_ent n,pick_read_ent n,pick_may_ent n]) (tabCons (word_Split_ok n) (tabCons (pick_read_ok n) (tabCons (pick_may_ok n) tabNil))) (tabLCons (pick_Parse_l0_ok n n) tabLNil) fun x=>by kernel_rfl
abbrev sl_EqMatch_sg:List Sg:=[.tree (.slice tMatch), .tree (.slice tMatch)]
abbrev sl_EqMatch_rs:List Rt:=[.tree .bool]
def sl_EqMatch_l0 (n:Nat):Nat→SgEl [.tree (.slice tMatch), .tree (.slice tMatch), .tree (.int .i64), .tree (.int .i64)]→Option (SgEl [] ⊕ SgEl [.tree .bool])
  | 0,_=>none
  | g+1,s =>
    bif ilt s.2.2.2.1 s.2.2.1 then
     bif ile (0:Int) s.2.2.2.1 then
      bindN (lat s.1 (iN s.2.2.2.1)) fun v1 =>
      bif ile (0:Int) s.2.2.2.1 then
       bindN (lat s.2.1 (iN s.2.2.2.1)) fun v2 =>
       bif !(ieq v1.1 v2.1 && (seq v1.2.1 v2.2.1 && (seq v1.2.2.1 v2.2.2.1 && true))) then
        some (Sum.inr (false,()))
       else
       bindL (sl_EqMatch_l0 n g (s.1,s.2.1,s.2.2.1,iadd .i64 s.2.2.2.1 (1:Int),())) (fun a3 =>
        some (Sum.inl ())) fun b4 =>
       some (Sum.inr b4)
      else none
     else none
    else
    some (Sum.inl ())
theorem sl_EqMatch_l0_ok (n:Nat):∀ g,LEntOk Tryz.prog 212 (nSl sl_EqMatch_sg) ⟨0,[.tree (.slice tMatch), .tree (.slice tMatch), .tree (.int .i64), .tree (.int .i64)],0,[],[.tree .bool],sl_EqMatch_l0 n g⟩ g
  | 0=>loop_zero' fun _=>rfl
  | g+1=>loop_step' mixed (T:=[]) tabNil tabLNil (sl_EqMatch_l0_ok n g) fun s=>by kernel_rfl
def sl_EqMatch (n:Nat) (x:SgEl sl_EqMatch_sg):Option (RtEl sl_EqMatch_rs×OutEl sl_EqMatch_sg) :=
  bif !(ieq (ilen x.1) (ilen x.2.1)) then
   some ((false,()),((),(),()))
  else
  bindL (sl_EqMatch_l0 n n (x.1,x.2.1,ilen x.1,(0:Int),())) (fun a1 =>
   some ((true,()),((),(),()))) fun b2 =>
  some (b2,((),(),()))
abbrev sl_EqMatch_ent (n:Nat):Ent:=⟨212,sl_EqMatch_sg,sl_EqMatch_rs,sl_EqMatch n⟩
theorem sl_EqMatch_ok (n:Nat):EntOk Tryz.prog (sl_EqMatch_ent n):=ent_ok' mixed (T:=[]) tabNil (tabLCons (sl_EqMatch_l0_ok n n) tabLNil) fun x=>by kernel_rfl
abbrev sl_EqStr_sg:List Sg:=[.tree (.slice .str), .tree (.slice .str)]
abbrev sl_EqStr_rs:List Rt:=[.tree .bool]
def sl_EqStr_l0 (n:Nat):Nat→SgEl [.tree (.slice .str), .tree (.slice .str), .tree (.int .i64), .tree (.int .i64)]→Option (SgEl [] ⊕ SgEl [.tree .bool])
  | 0,_=>none
  | g+1,s =>
    bif ilt s.2.2.2.1 s.2.2.1 then
     bif ile (0:Int) s.2.2.2.1 then
      bindN (lat s.1 (iN s.2.2.2.1)) fun v1 =>
      bif ile (0:Int) s.2.2.2.1 then
       bindN (lat s.2.1 (iN s.2.2.2.1)) fun v2 =>
       bif !(seq v1 v2) then
        some (Sum.inr (false,()))
       else
       bindL (sl_EqStr_l0 n g (s.1,s.2.1,s.2.2.1,iadd .i64 s.2.2.2.1 (1:Int),())) (fun a3 =>
        some (Sum.inl ())) fun b4 =>
       some (Sum.inr b4)
      else none
     else none
    else
    some (Sum.inl ())
theorem sl_EqStr_l0_ok (n:Nat):∀ g,LEntOk Tryz.prog 160 (nSl sl_EqStr_sg) ⟨0,[.tree (.slice .str), .tree (.slice .str), .tree (.int .i64), .tree (.int .i64)],0,[],[.tree .bool],sl_EqStr_l0 n g⟩ g
  | 0=>loop_zero' fun _=>rfl
  | g+1=>loop_step' mixed (T:=[]) tabNil tabLNil (sl_EqStr_l0_ok n g) fun s=>by kernel_rfl
def sl_EqStr (n:Nat) (x:SgEl sl_EqStr_sg):Option (RtEl sl_EqStr_rs×OutEl sl_EqStr_sg) :=
  bif !(ieq (ilen x.1) (ilen x.2.1)) then
   some ((false,()),((),(),()))
  else
  bindL (sl_EqStr_l0 n n (x.1,x.2.1,ilen x.1,(0:Int),())) (fun a1 =>
   some ((true,()),((),(),()))) fun b2 =>
  some (b2,((),(),()))
abbrev sl_EqStr_ent (n:Nat):Ent:=⟨160,sl_EqStr_sg,sl_EqStr_rs,sl_EqStr n⟩
theorem sl_EqStr_ok (n:Nat):EntOk Tryz.prog (sl_EqStr_ent n):=ent_ok' mixed (T:=[]) tabNil (tabLCons (sl_EqStr_l0_ok n n) tabLNil) fun x=>by kernel_rfl
abbrev pick_Same_sg:List Sg:=[.tree (.slice tMatch), .tree (.slice tMatch)]
abbrev pick_Same_rs:List Rt:=[.tree .bool]
def pick_Same (n:Nat) (x:SgEl pick_Same_sg):Option (RtEl pick_Same_rs×OutEl pick_Same_sg) :=
  bindN (sl_EqMatch n x) fun p1 =>
  some (p1.1,((),(),()))
abbrev pick_Same_ent (n:Nat):Ent:=⟨159,pick_Same_sg,pick_Same_rs,pick_Same n⟩
theorem pick_Same_ok (n:Nat):EntOk Tryz.prog (pick_Same_ent n):=ent_ok' mixed (T:=[sl_EqMatch_ent n]) (tabCons (sl_EqMatch_ok n) tabNil) tabLNil fun x=>by kernel_rfl
abbrev query_names1_sg:List Sg:=[.tree .str]
abbrev query_names1_rs:List Rt:=[.tree .bool]
def query_names1 (n:Nat) (x:SgEl query_names1_sg):Option (RtEl query_names1_rs×OutEl query_names1_sg) :=
  bindN (word_Name n x) fun p1 =>
  some ((!p1.1.1,()),((),()))
abbrev query_names1_ent (n:Nat):Ent:=⟨204,query_names1_sg,query_names1_rs,query_names1 n⟩
theorem query_names1_ok (n:Nat):EntOk Tryz.prog (query_names1_ent n):=ent_ok' mixed (T:=[word_Name_ent n]) (tabCons (word_Name_ok n) tabNil) tabLNil fun x=>by kernel_rfl
abbrev sl_IndexStrF_sg:List Sg:=[.tree (.slice .str), .fnv 204 []]
abbrev sl_IndexStrF_rs:List Rt:=[.tree (.int .i64)]
def sl_IndexStrF_l0 (n:Nat):Nat→SgEl [.tree (.slice .str), .fnv 204 [], .tree (.int .i64), .tree (.int .i64)]→Option (SgEl [] ⊕ SgEl [.tree (.int .i64)])
  | 0,_=>none
  | g+1,s =>
    bif ilt s.2.2.2.1 s.2.2.1 then
     bif ile (0:Int) s.2.2.2.1 then
      bindN (lat s.1 (iN s.2.2.2.1)) fun v1 =>
      bindN (query_names1 n (v1,())) fun p2 =>
      bif p2.1.1 then
       some (Sum.inr s.2.2.2)
      else
      bindL (sl_IndexStrF_l0 n g (s.1,(),s.2.2.1,iadd .i64 s.2.2.2.1 (1:Int),())) (fun a3 =>
       some (Sum.inl ())) fun b4 =>
      some (Sum.inr b4)
     else none
    else
    some (Sum.inl ())
theorem sl_IndexStrF_l0_ok (n:Nat):∀ g,LEntOk Tryz.prog 260 (nSl sl_IndexStrF_sg) ⟨0,[.tree (.slice .str), .fnv 204 [], .tree (.int .i64), .tree (.int .i64)],0,[],[.tree (.int .i64)],sl_IndexStrF_l0 n g⟩ g
  | 0=>loop_zero' fun _=>rfl
  | g+1=>loop_step' mixed (T:=[query_names1_ent n]) (tabCons (query_names1_ok n) tabNil) tabLNil (sl_IndexStrF_l0_ok n g) fun s=>by kernel_rfl
def sl_IndexStrF (n:Nat) (x:SgEl sl_IndexStrF_sg):Option (RtEl sl_IndexStrF_rs×OutEl sl_IndexStrF_sg) :=
  bindL (sl_IndexStrF_l0 n n (x.1,(),ilen x.1,(0:Int),())) (fun a1 =>
   some (((-1:Int),()),((),(),()))) fun b2 =>
  some (b2,((),(),()))
abbrev sl_IndexStrF_ent (n:Nat):Ent:=⟨260,sl_IndexStrF_sg,sl_IndexStrF_rs,sl_IndexStrF n⟩
theorem sl_IndexStrF_ok (n:Nat):EntOk Tryz.prog (sl_IndexStrF_ent n):=ent_ok' mixed (T:=[query_names1_ent n]) (tabCons (query_names1_ok n) tabNil) (tabLCons (sl_IndexStrF_l0_ok n n) tabLNil) fun x=>by kernel_rfl
abbrev sl_ContainsStrF_sg:List Sg:=[.tree (.slice .str), .fnv 204 []]
abbrev sl_ContainsStrF_rs:List Rt:=[.tree .bool]
def sl_ContainsStrF (n:Nat) (x:SgEl sl_ContainsStrF_sg):Option (RtEl sl_ContainsStrF_rs×OutEl sl_ContainsStrF_sg) :=
  bindN (sl_IndexStrF n (x.1,(),())) fun p1 =>
  some ((ile (0:Int) p1.1.1,()),((),(),()))
abbrev sl_ContainsStrF_ent (n:Nat):Ent:=⟨203,sl_ContainsStrF_sg,sl_ContainsStrF_rs,sl_ContainsStrF n⟩
theorem sl_ContainsStrF_ok (n:Nat):EntOk Tryz.prog (sl_ContainsStrF_ent n):=ent_ok' mixed (T:=[sl_IndexStrF_ent n,query_names1_ent n]) (tabCons (sl_IndexStrF_ok n) (tabCons (query_names1_ok n) tabNil)) tabLNil fun x=>by kernel_rfl
end Go.Proofs.YtdcphpbimeoioaaGreatDoorE
end
section
set_option linter.unusedSectionVars false
namespace Go.Proofs.YtdcphpbimeoioaaGreatDoorE
open Go Go.RowKit Go.Shelf Go.Proofs
set_option linter.unusedVariables false
set_option linter.unusedSimpArgs false
theorem holds_below {w w':World} (hg:gHolds w) (hB:Below w.heap.size w w'):gHolds w':=gHolds_same (fun k hk=>hB.block k (gHolds_lt hg k hk)) hg
theorem Below.trans' {a b c:World} (h:Below a.heap.size a b) (k:Below b.heap.size b c):Below a.heap.size a c :=
  ⟨k.os.trans h.os,k.tape.trans h.tape,k.output.trans h.output,Nat.le_trans h.size k.size,fun i hi=>(k.block i (Nat.lt_of_lt_of_le hi h.size)).trans (h.block i hi)⟩
theorem bytes_below {w w':World} (h:w'=w∨∃ t,w'=Lib.bytesWorld w 5 t):Below w.heap.size w w':=by
  rcases h with rfl|⟨t,rfl⟩
  · exact Below.refl _ _
  · exact Go.Joins.below_bytesWorld _ w 5 t (Nat.le_refl _)
theorem parse_range {s:ByteArray} (hs:s.size≤281474976710656) (h:Lib.parseIntB 64 s.data.toList = .range) {w:World} (hg:gHolds w) :
    Calls Tryz.prog 222 #[.string s, .int .i64 10, .int .i64 64] w fun e w'=>∃ N,e = .returned (.tuple #[.int .i64 (Lib.intSat 64 s.data.toList), .iface 315 (.pointer (some ⟨N,0,none⟩))])∧Below w.heap.size w w':=by
  obtain ⟨ev,h1,h2⟩:=gErr hg
  refine (Tryz.strconv_ParseInt_10_at64_range s hs h ev w h1 h2).mono ?_
  rintro e w' ⟨N,he,_,_,hB⟩
  exact ⟨N,he,hB⟩
def readB (s:ByteArray):Option (Int×Int) :=
  match Lib.parseIntB 64 s.data.toList with
  | .ok v=>some (v,0)
  | .range=>some (0,3)
  | _=>none
abbrev sat_Read_sg:List Sg:=[.tree .str]
abbrev sat_Read_rs:List Rt:=[.tree (.int .i64), .tree (.int .i64)]
def sat_Read (n:Nat) (x:SgEl sat_Read_sg):Option (RtEl sat_Read_rs×OutEl sat_Read_sg) :=
  bif Nat.ble x.1.size 281474976710656 then
   bindN (s_TrimPrefix n (x.1,(⟨#[45]⟩:ByteArray),())) fun p1 =>
   bindN (sat_digits n (p1.1.1,())) fun p2 =>
   bif p2.1.1 && !(seq x.1 (⟨#[45,48]⟩:ByteArray)) then
    bindN (readB x.1) fun r=>some ((r.1,r.2,()),((),()))
   else some (((0:Int),(2:Int),()),((),()))
  else none
abbrev sat_Read_ent (n:Nat):Ent:=⟨172,sat_Read_sg,sat_Read_rs,sat_Read n⟩
theorem sat_Read_ok (n:Nat):EntOk Tryz.prog (sat_Read_ent n) :=
  ent_scalg (tys:=[.str]) (rs:=[.int .i64, .int .i64]) rfl rfl (enters Tryz.func172 (by kernel_rfl) (by kernel_rfl)) fun x y h w hg=>by
    obtain ⟨s,⟨⟩⟩:=x
    obtain ⟨h0,h⟩:=cond_some h
    have hs:=Nat.le_of_ble_eq_true h0
    cases hT:s_TrimPrefix n (s,(⟨#[45]⟩:ByteArray),()) with
    | none=>simp only at h;rw [hT] at h;simp [bindN] at h
    | some p1 =>
    cases hD:sat_digits n (p1.1.1,()) with
    | none=>simp only at h;rw [hT] at h;simp only [bindN,Option.bind_some] at h;rw [hD] at h;simp at h
    | some p2 =>
    simp only at h
    rw [hT] at h
    simp only [bindN,Option.bind_some] at h
    rw [hD] at h
    simp only [Option.bind_some] at h
    obtain ⟨⟨tp,⟨⟩⟩,o1⟩:=p1
    obtain ⟨⟨d,⟨⟩⟩,o2⟩:=p2
    have cT:∀ W,gHolds W→Calls Tryz.prog 220 #[.string s, .string ⟨#[45]⟩] W fun e w'=>e = .returned (.string tp)∧Below W.heap.size W w':=fun W hg=>scal_calls (P:=Tryz.prog) (tys:=[.str, .str]) (rs:=[.str]) rfl rfl (s_TrimPrefix_ok n) hT hg
    have cD:∀ W,gHolds W→Calls Tryz.prog 221 #[.string tp] W fun e w'=>e = .returned (.bool d)∧Below W.heap.size W w':=fun W hg=>scal_calls (P:=Tryz.prog) (tys:=[.str]) (rs:=[.bool]) rfl rfl (sat_digits_ok n) hD hg
    have HG:Aside (gHolds w):=hg
    have HT:Aside (∀ W,gHolds W→Calls Tryz.prog 220 #[.string s, .string ⟨#[45]⟩] W fun e w'=>e = .returned (.string tp)∧Below W.heap.size W w'):=cT
    have HD:Aside (∀ W,gHolds W→Calls Tryz.prog 221 #[.string tp] W fun e w'=>e = .returned (.bool d)∧Below W.heap.size W w'):=cD
    have HS:Aside (s.size≤281474976710656):=hs
    clear hg cT cD hs hT hD h0
    show Calls Tryz.prog 172 #[.string s] w fun e w'=>_
    cases d with
    | false =>
      simp only [Bool.false_and,cond_false,Option.some.injEq] at h
      subst h
      go_enter Tryz.func172,Tryz.ntmps172
      go_wp2_with (first|(go_at_call 220;refine (HT.out _ HG.out).mono ?_;rintro e w1 ⟨rfl,hB1⟩;have HB1:Aside (Below w.heap.size w w1):=hB1;clear hB1)|(go_at_call 221;refine (HD.out _ (holds_below HG.out HB1.out)).mono ?_;rintro e w2 ⟨rfl,hB2⟩;have HB2:Aside (Below w1.heap.size w1 w2):=hB2;clear hB2))
      go_ret2
      exact ⟨rfl,belOff (Below.trans' HB1.out HB2.out)⟩
    | true =>
      simp only [Bool.true_and] at h
      by_cases h45:s=⟨#[45,48]⟩
      · subst h45
        have e:seq (⟨#[45,48]⟩:ByteArray) ⟨#[45,48]⟩=true:=by decide+kernel
        rw [e] at h
        simp only [Bool.not_true,cond_false,Option.some.injEq] at h
        subst h
        go_enter Tryz.func172,Tryz.ntmps172
        go_wp2_with (first|(go_at_call 220;refine (HT.out _ HG.out).mono ?_;rintro e w1 ⟨rfl,hB1⟩;have HB1:Aside (Below w.heap.size w w1):=hB1;clear hB1)|(go_at_call 221;refine (HD.out _ (holds_below HG.out HB1.out)).mono ?_;rintro e w2 ⟨rfl,hB2⟩;have HB2:Aside (Below w1.heap.size w1 w2):=hB2;clear hB2))
        go_ret2
        exact ⟨rfl,belOff (Below.trans' HB1.out HB2.out)⟩
      · have e:seq s ⟨#[45,48]⟩=false:=by
          cases hq:seq s ⟨#[45,48]⟩ with
          | false=>rfl
          | true =>
            unfold seq at hq
            rw [ByteArray.toList_eq,ByteArray.toList_eq,beq_iff_eq] at hq
            exact absurd (ByteArray.ext (Array.ext' hq)) h45
        rw [e] at h
        simp only [Bool.not_false,cond_true] at h
        have e2:(⟨#[45,48]⟩:ByteArray).toList=[45,48]:=by decide+kernel
        have hne:(ByteArray.toList s ==[45,48])=false:=by unfold seq at e;rw [e2] at e;exact e
        clear e e2
        unfold readB at h
        cases hp:Lib.parseIntB 64 s.data.toList with
        | ok v =>
          rw [hp] at h
          simp only [bindN,Option.bind_some,Option.some.injEq] at h
          subst h
          have HP:Aside (Lib.parseIntB 64 s.data.toList = .ok v):=hp
          clear hp
          go_enter Tryz.func172,Tryz.ntmps172
          go_wp2_with (first|(go_at_call 220;refine (HT.out _ HG.out).mono ?_;rintro e w1 ⟨rfl,hB1⟩;have HB1:Aside (Below w.heap.size w w1):=hB1;clear hB1)|(go_at_call 221;refine (HD.out _ (holds_below HG.out HB1.out)).mono ?_;rintro e w2 ⟨rfl,hB2⟩;have HB2:Aside (Below w1.heap.size w1 w2):=hB2;clear hB2)|(go_at_call 222;refine (Tryz.strconv_ParseInt_10_at64_ok s (by have:=HS.out;omega) v HP.out w2).mono ?_;rintro e w3 ⟨rfl,hB3⟩;have HB3:Aside (Below w2.heap.size w2 w3):=bytes_below hB3;clear hB3))
          go_ret2
          exact ⟨rfl,belOff (Below.trans' (Below.trans' HB1.out HB2.out) HB3.out)⟩
        | range =>
          rw [hp] at h
          simp only [bindN,Option.bind_some,Option.some.injEq] at h
          subst h
          have HP:Aside (Lib.parseIntB 64 s.data.toList = .range):=hp
          clear hp
          go_enter Tryz.func172,Tryz.ntmps172
          go_wp2_with (first|(go_at_call 220;refine (HT.out _ HG.out).mono ?_;rintro e w1 ⟨rfl,hB1⟩;have HB1:Aside (Below w.heap.size w w1):=hB1;clear hB1)|(go_at_call 221;refine (HD.out _ (holds_below HG.out HB1.out)).mono ?_;rintro e w2 ⟨rfl,hB2⟩;have HB2:Aside (Below w1.heap.size w1 w2):=hB2;clear hB2)|(go_at_call 222;refine (parse_range HS.out HP.out (holds_below (holds_below HG.out HB1.out) HB2.out)).mono ?_;rintro e w3 ⟨N,rfl,hB3⟩;have HB3:Aside (Below w2.heap.size w2 w3):=hB3;clear hB3))
          go_ret2
          exact ⟨rfl,belOff (Below.trans' (Below.trans' HB1.out HB2.out) HB3.out)⟩
        | _=>rw [hp] at h;simp [bindN] at h
end Go.Proofs.YtdcphpbimeoioaaGreatDoorE
end
section
set_option linter.unusedSectionVars false
namespace Go.Proofs.YtdcphpbimeoioaaGreatDoorE.SV
open Go Go.Proofs Go.RowKit Go.Shelf Go.Sort
set_option linter.unusedVariables false
set_option linter.unusedSimpArgs false
attribute [local go_sem] Oper.semAt_some
def upto {α:Type} (f:Nat→α) (k:Nat):List α:=(List.range k).map f
theorem upto_succ {α:Type} (f:Nat→α) (k:Nat):upto f (k+1)=upto f k++[f k]:=by simp [upto,List.range_succ]
theorem upto_length {α:Type} (f:Nat→α) (k:Nat):(upto f k).length=k:=by simp [upto]
theorem upto_all {α:Type} (d:α) (zs:List α):upto (fun j=>zs[j]?.getD d) zs.length=zs:=by
 apply List.ext_getElem
 ·simp [upto]
 ·intro i h1 h2
  simp [upto,h2]
abbrev TX:=List UInt8
set_option maxRecDepth 100000 in
set_option maxHeartbeats 2000000 in
theorem values1_in (F:Fence) (n:Nat) (h7:F.fn 259) (hro:F.round=none) (hn:1≤n) (l Bs n₀ b off len cap:Nat) (zs:List TX) (hreach:len * 16≤140737488355328) (hb:b<n₀) (J Jx:List TX→World→Prop)
  (hY:∀ pre x W,J pre W→pre.length<len→YieldAt F (n - 1) Tryz.prog l #[encStr x] W fun e W' =>
   (e = .returned (.bool true)∧J (pre++[x]) W'∧Below n₀ W W')∨(e = .returned (.bool false)∧Jx (pre++[x]) W'))
  (W:World) (hBs:W.cell? ⟨Bs,0,none⟩=some (.slice (some ⟨b,off,none⟩) len cap)) (hc:∀ j,j<len→W.cell? ⟨b,off+j,none⟩=some (encStr (zs[j]?.getD []))) (h0:J [] W) :
  CallsIn F n Tryz.prog 259 #[.func (.yield l) #[] #[], .pointer (some ⟨Bs,0,none⟩)] W fun e W'=>(∃ v,e = .returned v) ∧
   ((∃ ys,ys=upto (fun j=>zs[j]?.getD []) len∧J ys W')∨(∃ pre,(∃ k,k≤len∧pre=upto (fun j=>zs[j]?.getD []) k)∧Jx pre W')):=by
 refine callsIn_of_wp Tryz.func259 rfl h7 ?_ hro
 simp only [Tryz.ntmps259,List.size_toArray,List.length_cons,List.length_nil,Nat.reduceAdd,Nat.reduceSub,Array.replicate_succ,Array.replicate_zero,List.push_toArray,List.append_toArray,List.nil_append,List.cons_append]
 gi_wp2
 gi_loopw [7] (fun i wr=>∃ k:Nat,k≤len∧i = .int .i64 k∧J (upto (fun j=>zs[j]?.getD []) k) wr∧Below n₀ W wr)
  (fun i _=>len - (intOf i).toNat)
 case atStart=>exact ⟨0,Nat.zero_le _,rfl,h0,Below.refl _ _⟩
 case round =>
  obtain ⟨k,hk,rfl,hJs,hnx⟩:=hrel
  have hcx:k<len→wr.cell? ⟨b,off+k,none⟩=some (encStr (zs[k]?.getD [])):=fun h=>(hnx.cell (p:=⟨b,off+k,none⟩) hb).trans (hc k h)
  by_cases hlt:k<len
  ·obtain ⟨fn,tmps,assign,body,hy,hR⟩:=hY _ (zs[k]?.getD []) wr hJs (by rw [upto_length];exact hlt)
   have hcx':=hcx hlt
   obtain ⟨s0,hs0⟩:∃ s0:ByteArray,encStr (zs[k]?.getD []) = .string s0:=⟨_,rfl⟩
   rw [hs0] at hcx' hy
   clear hcx hc
   gi_wp2
   refine hR.mono ?_
   rintro e W3 (⟨rfl,hJ3,hk3⟩|⟨rfl,hJx3⟩)
   ·gi_wp2
    go_roundw
    case rel=>exact ⟨k+1,by omega,by simp,by rw [upto_succ];exact hJ3,hnx.trans hk3⟩
    case measure=>simp [intOf];omega
   ·gi_wp2
    refine bodyPost_ret (results_none rfl _ _ _) rfl ?_
    exact ⟨⟨_,rfl⟩, .inr ⟨_,⟨k+1,by omega,(upto_succ _ _).symm⟩,hJx3⟩⟩
  ·obtain rfl:k=len:=by omega
   gi_wp2
   go_end0
   exact ⟨⟨_,rfl⟩, .inl ⟨_,rfl,hJs⟩⟩
theorem upto_take {α:Type} (d:α) (zs:List α) {k:Nat} (hk:k≤zs.length):upto (fun j=>zs[j]?.getD d) k=zs.take k:=by
 apply List.ext_getElem
 ·simp [upto,hk]
 ·intro i h1 h2
  have:i<zs.length:=by simp [upto] at h1;omega
  simp [upto,this]
def Texts (n₀:Nat) (W:World) (sv:Value) (zs:List TX):Prop :=
 (zs=[]∧∃ A c,sv = .slice A 0 c)∨∃ b off cap,sv = .slice (some ⟨b,off,none⟩) zs.length cap∧b<n₀∧∀ j,j<zs.length→W.cell? ⟨b,off+j,none⟩=some (encStr (zs[j]?.getD []))
theorem Texts.below {n₀:Nat} {A B:World} (h:Below n₀ A B) {sv:Value} {zs:List TX}:Texts n₀ A sv zs→Texts n₀ B sv zs
 | .inl e => .inl e
 | .inr ⟨b,off,cap,e,hb,hc⟩ => .inr ⟨b,off,cap,e,hb,fun j hj=>(h.cell (p:=⟨b,off+j,none⟩) hb).trans (hc j hj)⟩
set_option maxRecDepth 100000 in
set_option maxHeartbeats 1000000 in
theorem values1_nil_in (F:Fence) (n:Nat) (h7:F.fn 259) (hro:F.round=none) (l Bs:Nat) (A:Option Addr) (c:Nat) (J:List TX→World→Prop) (W:World) (hBs:W.cell? ⟨Bs,0,none⟩=some (.slice A 0 c)) (h0:J [] W) :
  CallsIn F n Tryz.prog 259 #[.func (.yield l) #[] #[], .pointer (some ⟨Bs,0,none⟩)] W fun e W'=>(∃ v,e = .returned v)∧J [] W':=by
 refine callsIn_of_wp Tryz.func259 rfl h7 ?_ hro
 simp only [Tryz.ntmps259,List.size_toArray,List.length_cons,List.length_nil,Nat.reduceAdd,Nat.reduceSub,Array.replicate_succ,Array.replicate_zero,List.push_toArray,List.append_toArray,List.nil_append,List.cons_append]
 gi_wp2
 gi_loopw [7] (fun i wr=>i = .int .i64 0∧J [] wr) (fun _ _=>0)
 case atStart=>exact ⟨rfl,h0⟩
 case round =>
  obtain ⟨rfl,hJs⟩:=hrel
  gi_wp2
  go_end0
  exact ⟨⟨_,rfl⟩,hJs⟩
set_option maxHeartbeats 1000000 in
theorem values_in (F:Fence) (n:Nat) (h5:F.fn 202) (hro:F.round=none) (a:Option Addr) (len cap:Nat) (w:World) :
  CallsIn F n Tryz.prog 202 #[.slice a len cap] w fun e w'=>e = .returned (.func (.func 259) #[] #[.pointer (some ⟨w.heap.size,0,none⟩)])∧w'=w.alloc (.cells #[.slice a len cap] 23):=by
 refine callsIn_of_wp Tryz.func202 rfl h5 ?_ hro
 simp only [Tryz.ntmps202,List.size_toArray,List.length_cons,List.length_nil,Nat.reduceAdd,Nat.reduceSub,Array.replicate_succ,Array.replicate_zero,List.push_toArray,List.append_toArray,List.nil_append,List.cons_append]
 gi_wp2
 go_ret
 exact ⟨rfl,rfl⟩
theorem values_stops (F:Fence) (n:Nat) (h7:F.fn 259) (hro:F.round=none) (hn:1≤n) (Bs n₀:Nat) (sv:Value) (zs:List TX) (hreach:zs.length * 16≤140737488355328) (w:World) (hBs:Bs<w.heap.size) (hn₀:n₀≤w.heap.size)
  (hc:w.cell? ⟨Bs,0,none⟩=some sv) (hI:Texts n₀ w sv zs) :
  SeqStopsK F n Tryz.prog 259 #[.pointer (some ⟨Bs,0,none⟩)] (fun x:TX=>#[encStr x]) (Below n₀) (fun ys=>ys=zs) (fun pre=>pre <+:zs) zs.length w:=fun l J Jx W hW _ _ hY h0=>by
 have hc':=(hW.cell (p:=⟨Bs,0,none⟩) hBs).trans hc
 rcases hI.below (hW.mono hn₀) with ⟨rfl,A,c,rfl⟩|⟨b,off,cap,rfl,hb,hcs⟩
 ·exact (values1_nil_in F n h7 hro l Bs A c J W hc' h0).mono fun e W' ⟨he,hj⟩=>⟨he, .inl ⟨_,rfl,hj⟩⟩
 ·refine (values1_in F n h7 hro hn l Bs n₀ b off zs.length cap zs hreach hb J Jx hY W hc' hcs h0).mono ?_
  rintro e W' ⟨he,⟨ys,rfl,hj⟩|⟨pre,⟨k,hk,rfl⟩,hj⟩⟩
  ·exact ⟨he, .inl ⟨_,upto_all [] zs,hj⟩⟩
  ·exact ⟨he, .inr ⟨_,by rw [upto_take [] zs hk];exact List.take_prefix _ _,hj⟩⟩
end Go.Proofs.YtdcphpbimeoioaaGreatDoorE.SV
end
section
set_option linter.unusedSectionVars false
namespace Go.Proofs.YtdcphpbimeoioaaGreatDoorE.SV
open Go Go.Proofs Go.RowKit Go.Shelf Go.Sort
set_option linter.unusedVariables false
set_option linter.unusedSimpArgs false
attribute [local go_sem] Oper.semAt_some
theorem infoS:(Tryz.prog.info? 9).map (fun i=>(i.zero,i.size,i.bytes))=some (some (.string ⟨#[]⟩),1,16):=by kernel_rfl
set_option maxRecDepth 100000 in
set_option maxHeartbeats 2000000 in
theorem appendSeq_calls (Bs:Nat) (sv:Value) (zs:List TX) (hreach:zs.length * 16≤140737488355328) (w:World) (hBs:Bs<w.heap.size) (hc:w.cell? ⟨Bs,0,none⟩=some sv) (hI:Texts w.heap.size w sv zs) :
  Calls Tryz.prog 294 #[.slice none 0 0, .func (.func 259) #[] #[.pointer (some ⟨Bs,0,none⟩)]] w fun e W'=>∃ v,e = .returned v∧W'.ownsRow w.heap.size 9 1 v zs.length (zs.map encStr)∧Below w.heap.size w W':=by
 refine (callsIn_wide (n:=6)).1 ?_
 have hro:Fence.wide.round=none:=rfl
 have h1:1≤6:=by omega
 obtain ⟨i0,hi,hz0,hz1,hz2⟩:=info_parts infoS
 refine callsIn_of_wp_marks Tryz.func294 rfl trivial ?_ hro
 simp only [Tryz.ntmps294,List.size_toArray,List.length_cons,List.length_nil,Nat.reduceAdd,Nat.reduceSub,Array.replicate_succ,Array.replicate_zero,List.push_toArray,List.append_toArray,List.nil_append,List.cons_append]
 gi_wp2
 have bO:=Boxed.new w 23 (.slice none 0 0)
 have hB0:Below w.heap.size w (w.alloc (.cells #[.slice none 0 0] 23)):=(Below.refl _ w).alloc (Nat.le_refl _) _
 refine wpIn_rangeFunc_ownG hro h1 (gf:=259) (lb:=#[.pointer (some ⟨Bs,0,none⟩)]) rfl trivial (enters_of Tryz.func259 (by kernel_rfl) rfl)
  (values_stops Fence.wide (6 - 1) trivial hro (by omega) Bs w.heap.size sv zs hreach (w.alloc (.cells #[.slice none 0 0] 23)) (by simp;omega) (by simp) ((hB0.cell (p:=⟨Bs,0,none⟩) hBs).trans hc) (hI.below hB0)) belowK_t (belowK_b (by simp)) (Below.refl _ _) (fun _=>rfl)
  (fun pre W=>(∃ v,Boxed W w.heap.size 23 v∧W.ownsRow w.heap.size 9 1 v pre.length (pre.map encStr)∧True)∧Below w.heap.size w W)
  (fun _ _ _=>False)
  (OwnFrom.and (Own.from (holdsRow_own w.heap.size w.heap.size 23 9 1 (fun pre:List TX=>pre.length) (fun pre:List TX=>pre.map encStr) (fun pre v=>True)) _) (ownFrom_below (Nat.le_refl _) (by simp)))
  (fun _ _ _ _ _ hs _ _=>hs)
  ⟨⟨_,bO,World.ownsRow_nil _ _ _ _,trivial⟩,hB0⟩
  (fun x=>{ tmps:=#[.slice none 0 0, .func (.func 259) #[] #[.pointer (some ⟨Bs,0,none⟩)], .pointer (some ⟨w.heap.size,0,none⟩),undef, .slice none 0 0, .string ⟨x.toArray⟩, .func (.func 259) #[] #[.pointer (some ⟨Bs,0,none⟩)], .string ⟨x.toArray⟩,undef,undef,undef,undef,undef],defers:=[] }) ?assign ?body ?done ?stop
 case assign =>
  intro l x W K hK
  gi_wp2
  exact hK
 case body =>
  rintro l pre x W ⟨⟨v,hv,hrow,_⟩,hB⟩ hlt
  have hcv:=hv.cell
  have hlt':pre.length<zs.length:=hlt
  gi_wp2_with (gi_at_builtin;refine wpListIn_append_own _ rfl _ _ 23 rfl w.heap.size 9 i0 (.string ⟨#[]⟩) 1 16 Tryz.underlying23 hi hz0 hz1 hz2 rfl (by decide) _ _ _ rfl (hrow.alloc _) ⟨W.heap.size,0,none⟩ 1 1 [.string ⟨x.toArray⟩] rfl rfl (cell_one_new _ _ _) (by simp [Value.oneCell']) (by unfold maxLen;omega) (by omega) (by have:=hB.size;simp;omega) ?_;intro v' w1 hown' hgrow _;obtain ⟨g',cap',rfl⟩:=ownsRow_succ hown';obtain ⟨hv1,hv2,hr2,hk2,hb2⟩:=hv.appended (by decide) hrow hB.size (Nat.le_refl _) hown' hgrow;have hc1:=hv1.cell;have hf1:=hv1.frozen)
  exact ⟨hk2.from _,hb2,⟨_,hv2,by simpa [encStr] using hr2,trivial⟩,hB.trans hb2⟩
 case done =>
  rintro D ys W hD rfl ⟨⟨v,hv,hrow,_⟩,hB⟩ hK
  have hcv:=hv.cell
  gi_wp2
  refine ⟨by simp, .inl ⟨_,_,rfl,run_takeDeferred hK,?_⟩⟩
  exact ⟨_,results_tmp rfl _ _ _,v,rfl,ownsRow_putObj hrow _ hK rfl,hB.trans (belowK_b (w:=w) (Nat.le_refl _) W D _ _ (by simp at hD;omega) hK rfl rfl)⟩
 case stop =>
  rintro D c pre W _ _ h _
  exact h.elim
set_option maxRecDepth 100000 in
set_option maxHeartbeats 2000000 in
theorem collect_calls (Bs:Nat) (sv:Value) (zs:List TX) (hreach:zs.length * 16≤140737488355328) (w:World) (hBs:Bs<w.heap.size) (hc:w.cell? ⟨Bs,0,none⟩=some sv) (hI:Texts w.heap.size w sv zs) :
  Calls Tryz.prog 257 #[.func (.func 259) #[] #[.pointer (some ⟨Bs,0,none⟩)]] w fun e W'=>∃ v,e = .returned v∧W'.ownsRow w.heap.size 9 1 v zs.length (zs.map encStr)∧Below w.heap.size w W':=by
 have hcon:=appendSeq_calls Bs sv zs hreach w hBs hc hI
 clear hc hI
 go_enter Tryz.func257,Tryz.ntmps257
 go_wp2_with (go_at_call 294;refine hcon.mono ?_;rintro e W' ⟨v,rfl,hr,hb⟩)
 go_ret
 exact ⟨v,rfl,hr,hb⟩
def sortedT (zs:List TX):List TX:=zs.mergeSort fun x y=>decide (x≤y)
theorem sortedT_len (zs:List TX):(sortedT zs).length=zs.length:=by unfold sortedT;exact List.length_mergeSort zs
theorem row_opened {w:World} {base:Nat} {e:TypeId} {v:Value} {zs:List TX} (hn:0<zs.length) (hr:w.ownsRow base e 1 v zs.length (zs.map encStr)) :
  ∃ g cap cur,v = .slice (some ⟨g,0,none⟩) zs.length cap∧base≤g∧w.heap[g]?=some (.cells cur e (0,0))∧zs.length≤cap∧cap≤maxLen∧cur.size=cap * 1∧Holds encStr w g 0 zs.toArray:=by
 rcases hr.2 with ⟨_,hz⟩|⟨g,cap,cur,rfl,hbase,hgb,r1,r2,r3,r4⟩
 ·omega
 ·exact ⟨g,cap,cur,rfl,hbase,hgb,r1,r2,r3,holds_of_block hgb (by simpa using r4)⟩
theorem sorted_calls (Bs:Nat) (sv:Value) (zs:List TX) (hreach:zs.length * 16≤140737488355328) (w:World) (hBs:Bs<w.heap.size) (hc:w.cell? ⟨Bs,0,none⟩=some sv) (hI:Texts w.heap.size w sv zs) :
  Calls Tryz.prog 201 #[.func (.func 259) #[] #[.pointer (some ⟨Bs,0,none⟩)]] w fun e W'=>((zs=[]∧∃ A c,e = .returned (.slice A 0 c))∨∃ g cap,e = .returned (.slice (some ⟨g,0,none⟩) (sortedT zs).length cap)∧(sortedT zs).length≤cap∧w.heap.size≤g∧g<W'.heap.size∧Holds encStr W' g 0 (sortedT zs).toArray)∧Below w.heap.size w W':=by
 have hcon:=collect_calls Bs sv zs hreach w hBs hc hI
 clear hc hI
 by_cases h0:zs=[]
 ·subst h0
  go_enter Tryz.func201,Tryz.ntmps201
  go_wp2_with (first|(go_at_call 257;refine hcon.mono ?_;rintro e W' ⟨v,rfl,hr,hb⟩;have hr2:=hr.2;obtain ⟨A1,c1,rfl⟩:∃ A1 c1,v = .slice A1 0 c1:=(by rcases hr2 with ⟨rfl,_⟩|⟨g,cap,cur,rfl,_⟩<;>exact ⟨_,_,rfl⟩);clear hr hr2)|(go_at_call 258;refine (Tryz.slices_Sort_string_none _ _ _).mono ?_;rintro e w' ⟨rfl,rfl⟩))
  go_ret
  exact ⟨.inl ⟨by first|rfl|trivial,_,_,rfl⟩,hb⟩
 ·have hz0:0<zs.length:=by cases zs with
   | nil=>exact absurd rfl h0
   | cons x t=>simp
  go_enter Tryz.func201,Tryz.ntmps201
  go_wp2_with (first|(go_at_call 257;refine hcon.mono ?_;rintro e W' ⟨v,rfl,hr,hb⟩;obtain ⟨g,cap,cur,rfl,hg,hgb,r1,r2,r3,hH⟩:=row_opened hz0 hr;have hlt:=(Array.getElem?_eq_some_iff.1 hgb).1;have hown:=fun nn os=>ownsRow_sorted (n:=nn) (os:=os) (ts:=sortedT zs) (sortedT_len zs) hg hgb r1 r2 r3;have hbel:=fun nn os=>hb.grown (grownBy_sorted (n:=nn) (os:=os) (sortedT zs).toArray) hb.size (fun j hj=>by cases hj;exact hg);clear hr)|(go_at_call 258;refine (Tryz.slices_Sort_string g 0 cap zs _ hH hlt (by omega)).mono ?_;rintro e w' ⟨rfl,nn,os,rfl⟩))
  go_ret
  have hs:=hown nn os
  obtain ⟨g1,cap1,cur1,e1,hg1,hgb1,s1,s2,s3,hH1⟩:=row_opened (by rw [sortedT_len];exact hz0) (by rw [sortedT_len];exact hs)
  injection e1 with e2 e3 e4
  injection e2 with e5
  injection e5 with e6
  subst e6
  subst e4
  exact ⟨.inr ⟨g,cap,by rw [sortedT_len];rfl,s1,hg,(Array.getElem?_eq_some_iff.1 hgb1).1,hH1⟩,hbel nn os⟩
end Go.Proofs.YtdcphpbimeoioaaGreatDoorE.SV
end
section
set_option linter.unusedSectionVars false
namespace Go.Proofs.YtdcphpbimeoioaaGreatDoorE
open Go Go.RowKit Go.Shelf Go.Proofs
set_option linter.unusedVariables false
set_option linter.unusedSimpArgs false
structure Aside0 (p:Prop):Prop where mk ::(out:p)
theorem below_then {a b c:World} {n:Nat} (h:Below n a b) (hn:n≤b.heap.size) (k:Below b.heap.size b c):Below n a c :=
  ⟨k.os.trans h.os,k.tape.trans h.tape,k.output.trans h.output,Nat.le_trans h.size k.size,fun i hi=>(k.block i (Nat.lt_of_lt_of_le hi hn)).trans (h.block i hi)⟩
def StrsAt (w:World) (A:Option Addr) (l:List ByteArray):Prop :=
  l=[]∨∃ bk o,A=some ⟨bk,o,none⟩∧(∀ (j:Nat) x,l[j]?=some x→w.cell? ⟨bk,o+j,none⟩=some (.string x))∧bk<w.heap.size
def qn.texts (l0:List ByteArray):List (List UInt8):=l0.map (·.data.toList)
theorem qn.hold (l0:List ByteArray) (A0:Option Addr) (c0:Nat) (w:World) (hr0:StrsAt w A0 l0):SV.Texts w.heap.size w (.slice A0 l0.length c0) (qn.texts l0):=by
  by_cases h0:l0=[]
  · subst h0
    exact .inl ⟨rfl,A0,c0,rfl⟩
  · obtain ⟨bk,o,rfl,hcell,hbk⟩:=hr0.resolve_left h0
    refine .inr ⟨bk,o,c0,by simp [qn.texts],hbk,fun j hj=>?_⟩
    have hj':j<l0.length:=by simpa [qn.texts] using hj
    rw [hcell j _ (List.getElem?_eq_getElem hj')]
    simp [qn.texts,Go.Proofs.encStr,hj']
theorem qn.sorted (l0:List ByteArray) (A0:Option Addr) (c0:Nat) (w:World) (hr0:StrsAt w A0 l0) (hl:l0.length≤1000000000) :
    Calls Tryz.prog 201 #[.func (.func 259) #[] #[.pointer (some ⟨w.heap.size,0,none⟩)]] (w.alloc (.cells #[.slice A0 l0.length c0] 23)) fun e W'=>∃ As ns cs,e = .returned (.slice As ns cs)∧Below w.heap.size w W' ∧
      ((l0=[]∧ns=0)∨(ns=(SV.sortedT (qn.texts l0)).length∧ns≤cs∧∃ g,As=some ⟨g,0,none⟩∧w.heap.size≤g∧Go.Sort.Holds Go.Proofs.encStr W' g 0 (SV.sortedT (qn.texts l0)).toArray)):=by
  have hB0:Below w.heap.size w (w.alloc (.cells #[.slice A0 l0.length c0] 23)):=(Below.refl _ w).alloc (Nat.le_refl _) _
  have hsz:w.heap.size<(w.alloc (.cells #[.slice A0 l0.length c0] 23)).heap.size:=by show _<(w.heap.push _).size;simp
  have hI:=(qn.hold l0 A0 c0 w hr0).below hB0
  have hI2:SV.Texts (w.alloc (.cells #[.slice A0 l0.length c0] 23)).heap.size (w.alloc (.cells #[.slice A0 l0.length c0] 23)) (.slice A0 l0.length c0) (qn.texts l0):=by
    rcases hI with h|⟨b,o,cap,e,hb,hc⟩
    · exact .inl h
    · exact .inr ⟨b,o,cap,e,by omega,hc⟩
  refine (SV.sorted_calls w.heap.size _ (qn.texts l0) (by simp [qn.texts];omega) _ hsz (by unfold World.cell?;rw [(MapKept.heap_alloc w _).1];rfl) hI2).mono ?_
  rintro e W' ⟨h,hb⟩
  have hb2:Below w.heap.size w W':=below_then hB0 hB0.size hb
  rcases h with ⟨hz,A,c,rfl⟩|⟨g,cap,rfl,hcap,hg,_,hH⟩
  · exact ⟨A,0,c,rfl,hb2, .inl ⟨by simpa [qn.texts] using hz,rfl⟩⟩
  · exact ⟨_,_,_,rfl,hb2, .inr ⟨rfl,hcap,g,rfl,by omega,hH⟩⟩
theorem qn.compact (l0:List ByteArray) (w W:World) (As:Option Addr) (ns cs:Nat) (hB:Below w.heap.size w W) (hl:l0.length≤1000000000) (hs:(l0=[]∧ns=0)∨(ns=(SV.sortedT (qn.texts l0)).length∧ns≤cs∧∃ g,As=some ⟨g,0,none⟩∧w.heap.size≤g∧Go.Sort.Holds Go.Proofs.encStr W g 0 (SV.sortedT (qn.texts l0)).toArray)) :
    Calls Tryz.prog 205 #[.slice As ns cs] W fun e W'=>∃ Ac cc,e = .returned (.slice Ac (Lib.compact (SV.sortedT (qn.texts l0))).length cc)∧Below w.heap.size w W':=by
  rcases hs with ⟨rfl,rfl⟩|⟨rfl,hcs,g,rfl,hg,hH⟩
  · refine (Tryz.slices_Compact_string_empty As cs W).mono ?_
    rintro e W' ⟨rfl,rfl⟩
    have h0:SV.sortedT (qn.texts [])=[]:=List.length_eq_zero_iff.1 (by rw [SV.sortedT_len];rfl)
    rw [h0]
    exact ⟨As,cs,rfl,hB⟩
  · refine (Tryz.slices_Compact_string g 0 cs _ W hH (by rw [SV.sortedT_len];simp [qn.texts];omega) hcs).mono ?_
    rintro e W' ⟨rfl,q,rfl⟩
    have hgr:=Go.grownBy_sorted (w:=W) (g:=g) (n:=q) (os:=#[]) (Lib.compact (SV.sortedT (qn.texts l0))++List.replicate ((SV.sortedT (qn.texts l0)).length - (Lib.compact (SV.sortedT (qn.texts l0))).length) []).toArray
    rw [Go.Sort.grow_empty] at hgr
    exact ⟨_,_,rfl,hB.grown hgr hB.size (fun j hj=>by cases hj;exact hg)⟩
theorem qn.later {l0:List ByteArray} {n:Nat} {W W2:World} {As:Option Addr} {ns cs:Nat} (hs:(l0=[]∧ns=0)∨(ns=(SV.sortedT (qn.texts l0)).length∧ns≤cs∧∃ g,As=some ⟨g,0,none⟩∧n≤g∧Go.Sort.Holds Go.Proofs.encStr W g 0 (SV.sortedT (qn.texts l0)).toArray)) (hB:Below W.heap.size W W2) :
    (l0=[]∧ns=0)∨(ns=(SV.sortedT (qn.texts l0)).length∧ns≤cs∧∃ g,As=some ⟨g,0,none⟩∧n≤g∧Go.Sort.Holds Go.Proofs.encStr W2 g 0 (SV.sortedT (qn.texts l0)).toArray):=by
  rcases hs with h|⟨h1,h2,g,h3,h4,h5⟩
  · exact .inl h
  · refine .inr ⟨h1,h2,g,h3,h4,fun j hj=>?_⟩
    have h6:=h5 j hj
    have hlt:=World.block_lt_of_cell? W _ h6.1
    exact ⟨(hB.cell hlt).trans h6.1,(hB.frozen hlt).trans h6.2⟩
set_option maxHeartbeats 4000000 in
set_option maxRecDepth 100000 in
theorem qn.calls (A0:Option Addr) (c0:Nat) (l0:List ByteArray) (b:Bool) (r:Int) (w:World) (hr0:StrsAt w A0 l0) (hc0:l0.length≤c0) (hl:l0.length≤1000000000)
    (hb:∀ W,Below w.heap.size w W→Calls Tryz.prog 203 #[.slice A0 l0.length c0, .func (.func 204) #[] #[]] W fun e w'=>e = .returned (.bool b)∧Below W.heap.size W w')
    (h:(if b=true then some 2 else (if (l0.length:Int)>4 then some 4 else (if (Lib.compact (SV.sortedT (qn.texts l0))).length<l0.length then some 5 else some 0)))=some r) :
    Calls Tryz.prog 148 #[.slice A0 l0.length c0] w fun e w'=>e = .returned (.int .i64 r)∧Below w.heap.size w w':=by
  have HR0:=Aside0.mk hr0
  have HC0:=Aside0.mk hc0
  have HL:=Aside0.mk hl
  have HF:=Aside0.mk hb
  have hV:∀ W:World,Calls Tryz.prog 202 #[.slice A0 l0.length c0] W fun e w'=>e = .returned (.func (.func 259) #[] #[.pointer (some ⟨W.heap.size,0,none⟩)])∧w'=W.alloc (.cells #[.slice A0 l0.length c0] 23):=fun W=>(callsIn_wide (n:=6)).1 (SV.values_in Fence.wide 6 trivial rfl A0 l0.length c0 W)
  have HV:=Aside0.mk hV
  clear hr0 hc0 hl hb hV
  by_cases hbt:b=true
  · subst hbt
    rw [if_pos rfl] at h
    obtain rfl:=Option.some.inj h
    go_enter Tryz.func148,Tryz.ntmps148
    go_wp2_with (first|(go_at_call 202;refine (HV.out _).mono ?_;rintro e w' ⟨rfl,rfl⟩)|(go_at_call 201;refine (qn.sorted l0 A0 c0 w HR0.out HL.out).mono ?_;rintro e W' ⟨As,ns,cs,rfl,hB,hS⟩;have HB:=Aside0.mk hB;clear hB hS)|(go_at_call 203;refine (HF.out _ HB.out).mono ?_;rintro e W2 ⟨rfl,hB2⟩;have HB2:=Aside0.mk (below_then HB.out HB.out.size hB2);clear hB2))
    go_ret
    exact ⟨rfl,HB2.out⟩
  · rw [if_neg hbt] at h
    have hbf:b=false:=by simpa using hbt
    subst hbf
    clear hbt
    by_cases h4:(l0.length:Int)>4
    · rw [if_pos h4] at h
      obtain rfl:=Option.some.inj h
      have h4b:decide ((4:Int)<(l0.length:Int))=true:=decide_eq_true h4
      have h4c:decide (4<l0.length)=true:=decide_eq_true (by omega)
      clear h4
      go_enter Tryz.func148,Tryz.ntmps148
      go_wp2_with (first|(go_at_call 202;refine (HV.out _).mono ?_;rintro e w' ⟨rfl,rfl⟩)|(go_at_call 201;refine (qn.sorted l0 A0 c0 w HR0.out HL.out).mono ?_;rintro e W' ⟨As,ns,cs,rfl,hB,hS⟩;have HB:=Aside0.mk hB;clear hB hS)|(go_at_call 203;refine (HF.out _ HB.out).mono ?_;rintro e W2 ⟨rfl,hB2⟩;have HB2:=Aside0.mk (below_then HB.out HB.out.size hB2);clear hB2))
      go_ret
      exact ⟨rfl,HB2.out⟩
    · rw [if_neg h4] at h
      have h4b:decide ((4:Int)<(l0.length:Int))=false:=decide_eq_false h4
      have h4c:decide (4<l0.length)=false:=decide_eq_false (by omega)
      clear h4
      by_cases h5:(Lib.compact (SV.sortedT (qn.texts l0))).length<l0.length
      · rw [if_pos h5] at h
        obtain rfl:=Option.some.inj h
        have h5b:decide (((Lib.compact (SV.sortedT (qn.texts l0))).length:Int)<(l0.length:Int))=true:=decide_eq_true (by omega)
        have h5c:decide ((Lib.compact (SV.sortedT (qn.texts l0))).length<l0.length)=true:=decide_eq_true h5
        clear h5
        generalize hLC:Lib.compact (SV.sortedT (qn.texts l0))=LC at h5b h5c
        have HLC:=Aside0.mk hLC
        clear hLC
        go_enter Tryz.func148,Tryz.ntmps148
        go_wp2_with (first|(go_at_call 202;refine (HV.out _).mono ?_;rintro e w' ⟨rfl,rfl⟩)|(go_at_call 201;refine (qn.sorted l0 A0 c0 w HR0.out HL.out).mono ?_;rintro e W' ⟨As,ns,cs,rfl,hB,hS⟩;have HB:=Aside0.mk hB;have HS:=Aside0.mk hS;clear hB hS)|(go_at_call 203;refine (HF.out _ HB.out).mono ?_;rintro e W2 ⟨rfl,hB2⟩;have HB2:=Aside0.mk (below_then HB.out HB.out.size hB2);have HS2:=Aside0.mk (qn.later HS.out hB2);clear hB2)|(go_at_call 205;refine (qn.compact l0 w _ As ns cs HB2.out HL.out HS2.out).mono ?_;rintro e W3 ⟨Ac,cc,rfl,hB3⟩;rw [HLC.out];have HB3:=Aside0.mk hB3;clear hB3))
        go_ret
        exact ⟨rfl,HB3.out⟩
      · rw [if_neg h5] at h
        obtain rfl:=Option.some.inj h
        have h5b:decide (((Lib.compact (SV.sortedT (qn.texts l0))).length:Int)<(l0.length:Int))=false:=decide_eq_false (by omega)
        have h5c:decide ((Lib.compact (SV.sortedT (qn.texts l0))).length<l0.length)=false:=decide_eq_false h5
        clear h5
        generalize hLC:Lib.compact (SV.sortedT (qn.texts l0))=LC at h5b h5c
        have HLC:=Aside0.mk hLC
        clear hLC
        go_enter Tryz.func148,Tryz.ntmps148
        go_wp2_with (first|(go_at_call 202;refine (HV.out _).mono ?_;rintro e w' ⟨rfl,rfl⟩)|(go_at_call 201;refine (qn.sorted l0 A0 c0 w HR0.out HL.out).mono ?_;rintro e W' ⟨As,ns,cs,rfl,hB,hS⟩;have HB:=Aside0.mk hB;have HS:=Aside0.mk hS;clear hB hS)|(go_at_call 203;refine (HF.out _ HB.out).mono ?_;rintro e W2 ⟨rfl,hB2⟩;have HB2:=Aside0.mk (below_then HB.out HB.out.size hB2);have HS2:=Aside0.mk (qn.later HS.out hB2);clear hB2)|(go_at_call 205;refine (qn.compact l0 w _ As ns cs HB2.out HL.out HS2.out).mono ?_;rintro e W3 ⟨Ac,cc,rfl,hB3⟩;rw [HLC.out];have HB3:=Aside0.mk hB3;clear hB3))
        go_ret
        exact ⟨rfl,HB3.out⟩
theorem sorted_pair (ts:List (List UInt8)):(SV.sortedT ts).Pairwise (fun a b=>a≤b):=by
  have:=List.pairwise_mergeSort (le:=fun x y:List UInt8=>decide (x≤y)) (fun a b c h1 h2=>by
    simp only [decide_eq_true_eq] at h1 h2 ⊢;exact List.le_trans h1 h2) (fun a b=>by
    simp only [Bool.or_eq_true,decide_eq_true_eq];exact List.le_total a b) ts
  exact this.imp (fun h=>by simpa using h)
theorem compact_dup (ts:List (List UInt8)):(Lib.compact (SV.sortedT ts)).length<ts.length↔¬ ts.Nodup:=by
  have hlen:(SV.sortedT ts).length=ts.length:=List.length_mergeSort ts
  have hperm:(SV.sortedT ts).Perm ts:=List.mergeSort_perm ts _
  have hpw:=List.pairwise_iff_getElem.1 (sorted_pair ts)
  rw [← hperm.nodup_iff]
  generalize SV.sortedT ts=z at hlen hpw
  have hget:∀ j,(h:j<z.length)→z.toArray[j]! = z[j]:=fun j h=>by simp [getElem!_pos,h]
  constructor
  · intro h hn
    rw [Lib.compact_all z (fun j hj=>?_)] at h
    · omega
    · by_cases h0:j=0
      · subst h0;exact Lib.keeps_lt_one _ 0 (by omega)
      · refine Lib.keeps_pos ?_
        rw [hget j hj,hget (j - 1) (by omega)]
        intro e
        exact List.pairwise_iff_getElem.1 hn (j - 1) j (by omega) hj (by omega) e.symm
  · intro hn
    have hle:=Lib.compact_length_le z
    refine Classical.byContradiction fun hge=>hn ?_
    have heq:(Lib.compact z).length=z.length:=by omega
    unfold Lib.compact Lib.compactUpTo at heq
    rw [List.length_map] at heq
    have hall:∀ j,j<z.length→Lib.keeps z.toArray j=true:=by
      have h1:=List.length_filter_eq_length_iff (p:=Lib.keeps z.toArray) (l:=List.range z.length)
      rw [List.length_range] at h1
      exact fun j hj=>h1.1 heq j (List.mem_range.2 hj)
    have hadj:∀ j,(h:j+1<z.length)→z[j]≠z[j+1]:=by
      intro j h e
      have:=hall (j+1) h
      rw [Lib.keeps_neg (by omega) (by rw [hget (j+1) h,show j+1 - 1=j from rfl,hget j (by omega)];exact e.symm)] at this
      cases this
    refine List.pairwise_iff_getElem.2 (fun i j hi hj hij e=>?_)
    have h1:=hpw i (i+1) (by omega) (by omega) (by omega)
    refine hadj i (by omega) (List.le_antisymm h1 ?_)
    by_cases h2:i+1=j
    · subst h2;rw [e];exact List.le_refl _
    · rw [e];exact hpw (i+1) j (by omega) hj (by omega)
def dupL:List (List UInt8)→Bool
  | []=>false
  | x ::r=>r.contains x || dupL r
theorem dupL_iff:∀ l:List (List UInt8),dupL l=true↔¬ l.Nodup
  | []=>by simp [dupL]
  | x ::r=>by
    rw [dupL,Bool.or_eq_true,dupL_iff r,List.nodup_cons]
    by_cases h:x∈r
    · simp [h]
    · simp [h]
abbrev query_names_sg:List Sg:=[.tree (.slice .str)]
abbrev query_names_rs:List Rt:=[.tree (.int .i64)]
def query_names (n:Nat) (x:SgEl query_names_sg):Option (RtEl query_names_rs×OutEl query_names_sg) :=
  bif Nat.ble x.1.length 1000000000 then
   bindN (sl_ContainsStrF n (x.1,(),())) fun p1 =>
   some ((bif p1.1.1 then 2 else bif Nat.blt 4 x.1.length then 4 else bif dupL (qn.texts x.1) then 5 else 0,()),((),()))
  else none
abbrev query_names_ent (n:Nat):Ent:=⟨148,query_names_sg,query_names_rs,query_names n⟩
theorem query_names_ok (n:Nat):EntOk Tryz.prog (query_names_ent n):=by
  intro x y hy
  obtain ⟨xs,⟨⟩⟩:=x
  obtain ⟨h0,hy⟩:=cond_some hy
  have hl:=Nat.le_of_ble_eq_true h0
  simp only at hy hl
  cases hC:sl_ContainsStrF n (xs,(),()) with
  | none=>rw [hC] at hy;simp [bindN] at hy
  | some p1 =>
  rw [hC] at hy
  simp only [bindN,Option.bind_some,Option.some.injEq] at hy
  subst hy
  obtain ⟨⟨b,⟨⟩⟩,o⟩:=p1
  refine ⟨enters Tryz.func148 (by kernel_rfl) (by kernel_rfl),?_⟩
  intro S F w vs hr hA
  have hr:Rel S F w []:=hr
  have hsz:vs.size=1:=hA.1
  obtain ⟨v0,rfl⟩:∃ v0,vs=#[v0]:=by
    obtain ⟨q⟩:=vs
    match q,hsz with
    | [a],_=>exact ⟨a,rfl⟩
  have a0:Val S F w (.lst .str xs) v0:=hA.2 0 _ v0 rfl rfl
  have hcont:∀ W,Below w.heap.size w W→Calls Tryz.prog 203 #[v0, .func (.func 204) #[] #[]] W fun e w'=>e = .returned (.bool b)∧Below W.heap.size W w':=by
    intro W hB
    obtain ⟨r1,r2⟩:=below_rel hr (belOff hB)
    obtain ⟨_,h2⟩:=sl_ContainsStrF_ok n (xs,(),()) _ hC
    have hAr:Args S F W (argsOf sl_ContainsStrF_sg (xs,(),()) 0) #[v0, .func (.func 204) #[] #[]]:=by
      refine ⟨rfl,fun i p v hp hv=>?_⟩
      match i,hp,hv with
      | 0,hp,hv=>cases hp;cases hv;exact a0.adv hr r2
      | 1,hp,hv=>cases hp;cases hv;exact .fn _ _ _ _ _ rfl rfl (fun i p v hp=>by simp at hp) (fun i p v hp=>by simp [ptrs] at hp)
      | i+2,hp,hv=>simp at hv
    refine (h2 S F W _ r1 hAr).mono ?_
    rintro e w' ⟨v,S',F',rfl,_,hv,hAd⟩
    have e1:v = .bool b:=val_bool hv
    refine ⟨by rw [e1],hAd.st.1,hAd.st.2.1,hAd.st.2.2.1,hAd.sz,fun k hk=>hAd.same k hk ?_⟩
    rintro ⟨b',z,hz,_,_⟩
    have hz:hget ([]:Heap) b' = .live z:=hz
    simp [hget] at hz
  have hres:(if b=true then some 2 else (if (xs.length:Int)>4 then some 4 else (if (Lib.compact (SV.sortedT (qn.texts xs))).length<xs.length then some 5 else some (0:Int))))=some (bif b then 2 else bif Nat.blt 4 xs.length then 4 else bif dupL (qn.texts xs) then 5 else 0):=by
    cases b with
    | true=>rfl
    | false =>
      have e1:=compact_dup (qn.texts xs)
      have e2:(qn.texts xs).length=xs.length:=by simp [qn.texts]
      have e3:=dupL_iff (qn.texts xs)
      rw [e2] at e1
      simp only [Bool.false_eq_true,if_false,cond_false]
      by_cases h4:4<xs.length
      · have:Nat.blt 4 xs.length=true:=by unfold Nat.blt;rw [Nat.ble_eq];omega
        rw [if_pos (by omega),this];rfl
      · have:Nat.blt 4 xs.length=false:=by
          cases hq:Nat.blt 4 xs.length with
          | false=>rfl
          | true=>exact absurd (Nat.le_of_ble_eq_true hq) h4
        rw [if_neg (by omega),this,cond_false]
        by_cases h5:(qn.texts xs).Nodup
        · have:dupL (qn.texts xs)=false:=by
            cases hq:dupL (qn.texts xs) with
            | false=>rfl
            | true=>exact absurd h5 (e3.1 hq)
          rw [if_neg (fun h=>e1.1 h h5),this];rfl
        · rw [if_pos (e1.2 h5),e3.2 h5];rfl
  cases a0 with
  | lst _ _ a cap vf hc ha hs hcell hv =>
    have hstr:StrsAt w a xs:=by
      by_cases hx:xs=[]
      · exact .inl hx
      · obtain ⟨ad,rfl⟩:=ha hx
        have hsp:=hs hx ad rfl
        obtain ⟨bk,o,sp⟩:=ad
        simp only at hsp
        subst hsp
        have hcs:∀ (j:Nat) (x:ByteArray),xs[j]?=some x→w.cell? ⟨bk,o+j,none⟩=some (.string x):=by
          intro j x hj
          have h1:=(hcell _ j x 0 (.str x) rfl hj rfl).2
          have h2:=val_str (hv j x 0 (.str x) hj rfl)
          rw [h2] at h1
          simpa [Ty.size] using h1
        have hbk:bk<w.heap.size:=by
          cases xs with
          | nil=>exact absurd rfl hx
          | cons x r=>exact hr.fsz _ (hcell _ 0 x 0 (.str x) rfl rfl rfl).1
        exact .inr ⟨bk,o,rfl,hcs,hbk⟩
    refine (qn.calls a cap xs b _ w hstr hc hl hcont hres).mono ?_
    rintro e w' ⟨rfl,hB⟩
    obtain ⟨r1,r2⟩:=below_rel hr (belOff hB)
    exact ⟨_,S,F,rfl,r1, .int _ _,r2⟩
end Go.Proofs.YtdcphpbimeoioaaGreatDoorE
end
section
set_option linter.unusedSectionVars false
namespace Go.Proofs.YtdcphpbimeoioaaGreatDoorE
open Go
set_option linter.unusedVariables false
set_option maxRecDepth 100000
abbrev query_agg_sg:List Sg:=[.tree .str]
abbrev query_agg_rs:List Rt:=[.tree (.int .i64)]
def query_agg (n:Nat) (x:SgEl query_agg_sg):Option (RtEl query_agg_rs×OutEl query_agg_sg) :=
  bif seq x.1 (⟨#[99,111,117,110,116]⟩:ByteArray) then
   some (((1:Int),()),((),()))
  else
  bif seq x.1 (⟨#[115,117,109]⟩:ByteArray) then
   some (((2:Int),()),((),()))
  else
  bif seq x.1 (⟨#[109,105,110]⟩:ByteArray) then
   some (((3:Int),()),((),()))
  else
  bif seq x.1 (⟨#[109,97,120]⟩:ByteArray) then
   some (((4:Int),()),((),()))
  else
  some (((0:Int),()),((),()))
abbrev query_agg_ent (n:Nat):Ent:=⟨197,query_agg_sg,query_agg_rs,query_agg n⟩
theorem query_agg_ok (n:Nat):EntOk Tryz.prog (query_agg_ent n):=ent_ok' mixed (T:=[]) tabNil tabLNil fun x=>by kernel_rfl
abbrev query_name_sg:List Sg:=[.tree (.int .i64)]
abbrev query_name_rs:List Rt:=[.tree .str]
def query_name_l0 (n:Nat):Nat→SgEl [.tree (.int .i64), .own .str, .tree (.int .i64), .tree (.int .i64)]→Option (SgEl [] ⊕ SgEl [.tree .str])
  | 0,_=>none
  | g+1,s =>
    bif ilt s.2.2.2.1 s.2.2.1 then
     bif ile (0:Int) s.2.2.2.1 then
      bindN (lat s.2.1 (iN s.2.2.2.1)) fun v1 =>
      bindN (lat s.2.1 (iN s.2.2.2.1)) fun v2 =>
      bindN (query_agg n (v2,())) fun p3 =>
      bif ieq p3.1.1 s.1 then
       some (Sum.inr (v2,()))
      else
      bindL (query_name_l0 n g (s.1,s.2.1,s.2.2.1,iadd .i64 s.2.2.2.1 (1:Int),())) (fun a4 =>
       some (Sum.inl ())) fun b5 =>
      some (Sum.inr b5)
     else none
    else
    some (Sum.inl ())
theorem query_name_l0_ok (n:Nat):∀ g,LEntOk Tryz.prog 146 (nSl query_name_sg) ⟨0,[.tree (.int .i64), .own .str, .tree (.int .i64), .tree (.int .i64)],0,[],[.tree .str],query_name_l0 n g⟩ g
  | 0=>loop_zero' fun _=>rfl
  | g+1=>loop_step' mixed (T:=[query_agg_ent n]) (tabCons (query_agg_ok n) tabNil) tabLNil (query_name_l0_ok n g) fun s=>by kernel_rfl
def query_name (n:Nat) (x:SgEl query_name_sg):Option (RtEl query_name_rs×OutEl query_name_sg) :=
  bindL (query_name_l0 n n (x.1,[(⟨#[99,111,117,110,116]⟩:ByteArray),(⟨#[115,117,109]⟩:ByteArray),(⟨#[109,105,110]⟩:ByteArray),(⟨#[109,97,120]⟩:ByteArray)],ilen [(⟨#[99,111,117,110,116]⟩:ByteArray),(⟨#[115,117,109]⟩:ByteArray),(⟨#[109,105,110]⟩:ByteArray),(⟨#[109,97,120]⟩:ByteArray)],(0:Int),())) (fun a1 =>
   some (((⟨#[]⟩:ByteArray),()),((),()))) fun b2 =>
  some (b2,((),()))
abbrev query_name_ent (n:Nat):Ent:=⟨146,query_name_sg,query_name_rs,query_name n⟩
theorem query_name_ok (n:Nat):EntOk Tryz.prog (query_name_ent n):=ent_ok' mixed (T:=[query_agg_ent n]) (tabCons (query_agg_ok n) tabNil) (tabLCons (query_name_l0_ok n n) tabLNil) fun x=>by kernel_rfl
abbrev query_Right_sg:List Sg:=[.tree tQuery]
abbrev query_Right_rs:List Rt:=[.tree .bool]
def query_Right (n:Nat) (x:SgEl query_Right_sg):Option (RtEl query_Right_rs×OutEl query_Right_sg) :=
  bindN (query_name n (x.1.1,())) fun p1 =>
  bif !(seq p1.1.1 (⟨#[]⟩:ByteArray)) then
   bindN (word_Name n (x.1.2.1,())) fun p2 =>
   bif p2.1.1 then
    bindN (pick_Right n (x.1.2.2.1,())) fun p3 =>
    bif p3.1.1 then
     bindN (query_names n x.1.2.2.2) fun p4 =>
     some ((ieq p4.1.1 (0:Int),()),((),()))
    else
    some ((false,()),((),()))
   else
   some ((false,()),((),()))
  else
  some ((false,()),((),()))
abbrev query_Right_ent (n:Nat):Ent:=⟨78,query_Right_sg,query_Right_rs,query_Right n⟩
theorem query_Right_ok (n:Nat):EntOk Tryz.prog (query_Right_ent n):=ent_ok' mixed (T:=[query_name_ent n,word_Name_ent n,pick_Right_ent n,query_names_ent n]) (tabCons (query_name_ok n) (tabCons (word_Name_ok n) (tabCons (pick_Right_ok n) (tabCons (query_names_ok n) tabNil)))) tabLNil fun x=>by kernel_rfl
abbrev query_Text_sg:List Sg:=[.tree tQuery]
abbrev query_Text_rs:List Rt:=[.tree .str]
def query_Text (n:Nat) (x:SgEl query_Text_sg):Option (RtEl query_Text_rs×OutEl query_Text_sg) :=
  bindN (query_Right n x) fun p1 =>
  bif !p1.1.1 then
   some (((⟨#[]⟩:ByteArray),()),((),()))
  else
  bindN (query_name n (x.1.1,())) fun p2 =>
  bif ilt (0:Int) (ilen x.1.2.2.1) then
   bindN (pick_Text n (x.1.2.2.1,())) fun p3 =>
   bindN (word_Join n ((⟨#[]⟩:ByteArray),[x.1.2.1,(⟨#[123]⟩:ByteArray),p3.1.1,(⟨#[125]⟩:ByteArray)],())) fun p4 =>
   bif ile (0:Int) (1:Int) then
    bindN (lat [p2.1.1,x.1.2.1] (iN (1:Int))) fun v5 =>
    bindN (lat [p2.1.1,x.1.2.1] (iN (1:Int))) fun v6 =>
    bif ilt (0:Int) (ilen x.1.2.2.2.1) then
     bindN (word_Join n ((⟨#[44]⟩:ByteArray),x.1.2.2.2)) fun p7 =>
     bif roomA (lput [p2.1.1,x.1.2.1] (iN (1:Int)) p4.1.1) [(⟨#[98,121]⟩:ByteArray),p7.1.1] 16 then
      bindN (word_Join n ((⟨#[32]⟩:ByteArray),app (lput [p2.1.1,x.1.2.1] (iN (1:Int)) p4.1.1) [(⟨#[98,121]⟩:ByteArray),p7.1.1],())) fun p8 =>
      some (p8.1,((),()))
     else none
    else
    bindN (word_Join n ((⟨#[32]⟩:ByteArray),lput [p2.1.1,x.1.2.1] (iN (1:Int)) p4.1.1,())) fun p9 =>
    some (p9.1,((),()))
   else none
  else
  bif ilt (0:Int) (ilen x.1.2.2.2.1) then
   bindN (word_Join n ((⟨#[44]⟩:ByteArray),x.1.2.2.2)) fun p10 =>
   bif roomA [p2.1.1,x.1.2.1] [(⟨#[98,121]⟩:ByteArray),p10.1.1] 16 then
    bindN (word_Join n ((⟨#[32]⟩:ByteArray),app [p2.1.1,x.1.2.1] [(⟨#[98,121]⟩:ByteArray),p10.1.1],())) fun p11 =>
    some (p11.1,((),()))
   else none
  else
  bindN (word_Join n ((⟨#[32]⟩:ByteArray),[p2.1.1,x.1.2.1],())) fun p12 =>
  some (p12.1,((),()))
abbrev query_Text_ent (n:Nat):Ent:=⟨85,query_Text_sg,query_Text_rs,query_Text n⟩
theorem query_Text_ok (n:Nat):EntOk Tryz.prog (query_Text_ent n):=ent_ok' mixed (T:=[query_Right_ent n,query_name_ent n,pick_Text_ent n,word_Join_ent n]) (tabCons (query_Right_ok n) (tabCons (query_name_ok n) (tabCons (pick_Text_ok n) (tabCons (word_Join_ok n) tabNil)))) tabLNil fun x=>by kernel_rfl
abbrev query_Same_sg:List Sg:=[.tree tQuery, .tree tQuery]
abbrev query_Same_rs:List Rt:=[.tree .bool]
def query_Same (n:Nat) (x:SgEl query_Same_sg):Option (RtEl query_Same_rs×OutEl query_Same_sg) :=
  bif ieq x.1.1 x.2.1.1 then
   bif seq x.1.2.1 x.2.1.2.1 then
    bindN (pick_Same n (x.1.2.2.1,x.2.1.2.2.1,())) fun p1 =>
    bif p1.1.1 then
     bindN (sl_EqStr n (x.1.2.2.2.1,x.2.1.2.2.2)) fun p2 =>
     some (p2.1,((),(),()))
    else
    some ((false,()),((),(),()))
   else
   some ((false,()),((),(),()))
  else
  some ((false,()),((),(),()))
abbrev query_Same_ent (n:Nat):Ent:=⟨90,query_Same_sg,query_Same_rs,query_Same n⟩
theorem query_Same_ok (n:Nat):EntOk Tryz.prog (query_Same_ent n):=ent_ok' mixed (T:=[pick_Same_ent n,sl_EqStr_ent n]) (tabCons (pick_Same_ok n) (tabCons (sl_EqStr_ok n) tabNil)) tabLNil fun x=>by kernel_rfl
end Go.Proofs.YtdcphpbimeoioaaGreatDoorE
end
section
set_option linter.unusedSectionVars false
namespace Go.Proofs.YtdcphpbimeoioaaGreatDoorE
open Go Go.Proofs
set_option linter.unusedVariables false
set_option linter.unusedSimpArgs false
theorem sat_bl (s:ByteArray) (i:Nat) (h:i<(bl s).length):sat s (i:Int)=(((bl s)[i]).toNat:Int):=by
 have h':i<s.size:=by rwa [size_bl] at h
 unfold sat
 rw [Int.toNat_natCast]
 show ((s.data[i]!).toNat:Int)=_
 rw [getElem!_pos s.data i h']
 rfl
theorem head_get (l:List UInt8) (h:0<l.length):l[0]=l.headD 0:=by
 cases l with
 | nil=>simp at h
 | cons a t=>rfl
theorem sat_0 (s:ByteArray) (h:1≤(bl s).length):sat s 0=(((bl s).headD 0).toNat:Int):=by
 have:=sat_bl s 0 (by omega)
 rw [show ((0:Nat):Int)=0 from rfl] at this
 rw [this,head_get _ (by omega)]
@[simp] theorem scat_eq (a b:ByteArray):scat a b=a++b:=by unfold scat;rfl
@[simp] theorem sext_eq (a:ByteArray) (lo hi:Int):sext a lo hi=a.extract lo.toNat hi.toNat:=by unfold sext;rfl
theorem sfits_of {a b:ByteArray} (h:a.size+b.size≤9000000000000000000):sfits a b=true:=by unfold sfits;rw [Nat.ble_eq];omega
theorem bl_nil (s:ByteArray):s=(⟨#[]⟩:ByteArray)↔bl s=[]:=⟨fun h=>by rw [h];rfl,fun h=>bl_inj h⟩
def smallI (k:Int):Bool:=decide (97≤k) && decide (k≤122)
def digitI (k:Int):Bool:=decide (48≤k) && decide (k≤57)
theorem smallI_b (b:UInt8):smallI (b.toNat:Int)=smallB b:=by
 unfold smallI smallB;rw [Bool.eq_iff_iff];simp only [Bool.and_eq_true,decide_eq_true_eq];omega
theorem digitI_b (b:UInt8):digitI (b.toNat:Int)=digitB b:=by
 unfold digitI digitB;rw [Bool.eq_iff_iff];simp only [Bool.and_eq_true,decide_eq_true_eq];omega
theorem small_v (n:Nat) (x:SgEl r02_small_sg):r02_small n x=some ((smallI x.1,()),((),())):=by
 unfold r02_small smallI
 by_cases h:(97:Int)≤x.1<;>simp [h]
theorem digit_v (n:Nat) (x:SgEl r02_digit_sg):r02_digit n x=some ((digitI x.1,()),((),())):=by
 unfold r02_digit digitI
 by_cases h:(48:Int)≤x.1<;>simp [h]
theorem all_any {α:Type} (l:List α) (p:α→Bool):l.any (fun b => !p b) = !l.all p:=by
 induction l with
 | nil=>rfl
 | cons a t ih=>simp only [List.any_cons,List.all_cons,ih];cases p a<;>simp
theorem r02_Name_v0 {n:Nat} (hn:Big n) (s:ByteArray):r02_Name n (s,())=some ((nameL (bl s),()),((),())):=by
 have hz:=size_bl s
 unfold r02_Name nameL
 by_cases h1:s.size<1
 ·have h1':(s.size:Int)<1:=by omega
  have h2:¬ 1≤(bl s).length:=by omega
  simp [h1',h2]
 have h1':¬ (s.size:Int)<1:=by omega
 have g1:1≤(bl s).length:=by omega
 by_cases h2:12<s.size
 ·have h2':(12:Int)<s.size:=by omega
  have g2:¬ (bl s).length≤12:=by omega
  simp [h1',h2',g2]
 have h2':¬ (12:Int)<s.size:=by omega
 have g2:(bl s).length≤12:=by omega
 have h3:(0:Int)<s.size:=by omega
 have hL:=any_loop (a:=bl s) (fun b => !inNameB b) false (L:=fun g i=>r02_Name_l0 n g (s,i,())) (fun g=>by
   have:¬ ((bl s).length:Int)<s.size:=by omega
   simp only [r02_Name_l0,ilt_eq,ssize_eq,this,decide_false,cond_false]) (fun g i hi=>by
  have k1:(i:Int)<s.size:=by omega
  have k2:(0:Int)≤i:=by omega
  simp only [r02_Name_l0,ilt_eq,ile_eq,ieq_eq,ssize_eq,k1,k2,decide_true,cond_true,sat_bl s i hi,small_v,digit_v,smallI_b,digitI_b,bindN_s,iadd1 (i:=i) (by omega),bindL_id,inNameB]
  by_cases q:(bl s)[i].toNat=95
  ·have q':((bl s)[i].toNat:Int)=95:=by omega
   cases smallB (bl s)[i]<;>cases digitB (bl s)[i]<;>simp [q,q']
  ·have q':¬ ((bl s)[i].toNat:Int)=95:=by omega
   cases smallB (bl s)[i]<;>cases digitB (bl s)[i]<;>simp [q,q']) (g:=n) (by unfold Big at hn;omega)
 simp only [ilt_eq,ile_eq,ssize_eq,h1',h2',h3,decide_false,decide_true,cond_false,cond_true,Int.le_refl,sat_0 s g1,small_v,smallI_b,bindN_s,hL,g1,g2,Bool.true_and,all_any]
 cases smallB ((bl s).headD 0)<;>cases (bl s).all inNameB<;>simp
theorem r02_Name_v {n:Nat} (hn:Big n) (x:SgEl r02_Name_sg):r02_Name n x=some ((nameL (bl x.1),()),((),())):=r02_Name_v0 hn x.1
theorem r02_Value_v0 {n:Nat} (hn:Big n) (s:ByteArray):r02_Value n (s,())=some ((valueL (bl s),()),((),())):=by
 have hz:=size_bl s
 unfold r02_Value valueL
 by_cases h1:s.size<1
 ·have h1':(s.size:Int)<1:=by omega
  have h2:¬ 1≤(bl s).length:=by omega
  simp [h1',h2]
 have h1':¬ (s.size:Int)<1:=by omega
 have g1:1≤(bl s).length:=by omega
 by_cases h2:12<s.size
 ·have h2':(12:Int)<s.size:=by omega
  have g2:¬ (bl s).length≤12:=by omega
  simp [h1',h2',g2]
 have h2':¬ (12:Int)<s.size:=by omega
 have g2:(bl s).length≤12:=by omega
 have hL:=any_loop (a:=bl s) (fun b => !inValB b) false (L:=fun g i=>r02_Value_l0 n g (s,i,())) (fun g=>by
   have:¬ ((bl s).length:Int)<s.size:=by omega
   simp only [r02_Value_l0,ilt_eq,ssize_eq,this,decide_false,cond_false]) (fun g i hi=>by
  have k1:(i:Int)<s.size:=by omega
  have k2:(0:Int)≤i:=by omega
  simp only [r02_Value_l0,ilt_eq,ile_eq,ieq_eq,ssize_eq,k1,k2,decide_true,cond_true,sat_bl s i hi,small_v,digit_v,smallI_b,digitI_b,bindN_s,iadd1 (i:=i) (by omega),bindL_id,inValB]
  have q1:decide (((bl s)[i].toNat:Int)=95)=decide ((bl s)[i].toNat=95):=by rw [decide_eq_decide];omega
  have q2:decide (((bl s)[i].toNat:Int)=45)=decide ((bl s)[i].toNat=45):=by rw [decide_eq_decide];omega
  have q3:decide (((bl s)[i].toNat:Int)=46)=decide ((bl s)[i].toNat=46):=by rw [decide_eq_decide];omega
  rw [q1,q2,q3]
  cases smallB (bl s)[i]<;>cases digitB (bl s)[i]<;>cases decide ((bl s)[i].toNat=95)<;>cases decide ((bl s)[i].toNat=45)<;>cases decide ((bl s)[i].toNat=46)<;>rfl) (g:=n) (by unfold Big at hn;omega)
 simp only [ilt_eq,ssize_eq,h1',h2',decide_false,cond_false,hL,g1,g2,decide_true,Bool.true_and,all_any]
 cases (bl s).all inValB<;>simp
theorem r02_Value_v {n:Nat} (hn:Big n) (x:SgEl r02_Value_sg):r02_Value n x=some ((valueL (bl x.1),()),((),())):=r02_Value_v0 hn x.1
theorem made_v (n:Nat) (s cs:ByteArray) (h1:cs.size<4294967281) (h2:(cs.data.toList.all fun b=>decide (b.toNat<128))=true) :
  word_made n (s,cs,())=some ((decide (1≤(bl s).length) && decide ((bl s).length≤12) && (bl s).all (fun b=>cs.data.toList.contains b),()),((),(),())):=by
 have hz:=size_bl s
 unfold word_made
 by_cases h:bl s=[]
 ·simp [bl_nil,h]
 ·have hl:1≤(bl s).length:=by cases hh:bl s with
   | nil=>exact absurd hh h
   | cons a t=>simp
  by_cases hz':s.size≤12
  ·have e1:(s.size:Int)≤12:=by omega
   have e2:(bl s).length≤12:=by omega
   have e3:Nat.ble s.size 9223372036854775807=true:=by rw [Nat.ble_eq];omega
   have e4:Nat.blt cs.size 4294967281=true:=by unfold Nat.blt;rw [Nat.ble_eq];omega
   have e5:=trim_nil (bl s) cs.data.toList
   simp only [seq_eq,bl_nil,h,decide_false,Bool.not_false,cond_true,ile_eq,ssize_eq,e1,decide_true,s_Trim,e3,e4,h2,Bool.and_self,bindN_s,hl,e2,Bool.true_and]
   congr 3
   rw [Bool.eq_iff_iff,decide_eq_true_eq]
   exact e5
  ·have e1:¬ (s.size:Int)≤12:=by omega
   have e2:¬ (bl s).length≤12:=by omega
   simp [bl_nil,h,e1,e2]
theorem word_Name_v0 (n:Nat) (s:ByteArray):word_Name n (s,())=some ((nameL (bl s),()),((),())):=by
 have hz:=size_bl s
 unfold word_Name
 rw [made_v n _ _ (by decide) (by decide+kernel)]
 simp only [bindN_s]
 have e:(bl s).all (fun b=>(⟨#[97,98,99,100,101,102,103,104,105,106,107,108,109,110,111,112,113,114,115,116,117,118,119,120,121,122,48,49,50,51,52,53,54,55,56,57,95]⟩:ByteArray).data.toList.contains b)=(bl s).all inNameB:=by
  congr 1;funext b;exact in_name b
 rw [e]
 unfold nameL
 by_cases h:(decide (1≤(bl s).length) && decide ((bl s).length≤12) && (bl s).all inNameB)=true
 ·have h':=h
  simp only [Bool.and_eq_true,decide_eq_true_eq] at h'
  have e0:(0:Int)<s.size:=by omega
  have e2:=in_small ((bl s).headD 0)
  simp only [h,cond_true,ile_eq,Int.le_refl,decide_true,ilt_eq,ssize_eq,e0,sat_0 s h'.1.1,s_IndexByte,bindN_s]
  rw [show (((((bl s).headD 0).toNat:Nat):Int).toNat).toUInt8=(bl s).headD 0 by simp]
  rw [show (decide ((0:Int)≤Lib.indexByte (⟨#[97,98,99,100,101,102,103,104,105,106,107,108,109,110,111,112,113,114,115,116,117,118,119,120,121,122]⟩:ByteArray).data.toList ((bl s).headD 0)))=smallB ((bl s).headD 0) from e2]
  rw [decide_eq_true h'.1.1,decide_eq_true h'.1.2,h'.2];simp
 ·have h':(decide (1≤(bl s).length) && decide ((bl s).length≤12) && (bl s).all inNameB)=false:=by simpa using h
  simp only [h',cond_false]
  clear e h
  revert h'
  generalize decide (1≤(bl s).length)=a1
  generalize decide ((bl s).length≤12)=a2
  generalize (bl s).all inNameB=a3
  generalize smallB ((bl s).headD 0)=a4
  cases a1<;>cases a2<;>cases a3<;>cases a4<;>simp
theorem word_Name_v (n:Nat) (x:SgEl word_Name_sg):word_Name n x=some ((nameL (bl x.1),()),((),())):=word_Name_v0 n x.1
theorem word_Value_v0 (n:Nat) (s:ByteArray):word_Value n (s,())=some ((valueL (bl s),()),((),())):=by
 unfold word_Value
 rw [made_v n _ _ (by decide) (by decide+kernel)]
 simp only [bindN_s]
 have e:(bl s).all (fun b=>(⟨#[97,98,99,100,101,102,103,104,105,106,107,108,109,110,111,112,113,114,115,116,117,118,119,120,121,122,48,49,50,51,52,53,54,55,56,57,95,45,46]⟩:ByteArray).data.toList.contains b)=(bl s).all inValB:=by
  congr 1;funext b;exact in_val b
 rw [e]
 rfl
theorem word_Value_v (n:Nat) (x:SgEl word_Value_sg):word_Value n x=some ((valueL (bl x.1),()),((),())):=word_Value_v0 n x.1
theorem tag_may_v0 (n:Nat) (t:TG):tag_may n (t,())=some ((mayT t,()),((),())):=by
 obtain ⟨a,b,⟨⟩⟩:=t
 unfold tag_may mayT
 simp only [word_Name_v,bindN_s]
 cases nameL (bl a) with
 | false=>simp
 | true=>simp [word_Value_v]
theorem tag_may_v (n:Nat) (x:SgEl tag_may_sg):tag_may n x=some ((mayT x.1,()),((),())):=tag_may_v0 n x.1
theorem r03_may_v0 {n:Nat} (hn:Big n) (t:TG):r03_may n (t,())=some ((mayT t,()),((),())):=by
 obtain ⟨a,b,⟨⟩⟩:=t
 unfold r03_may mayT
 simp only [r02_Name_v hn,bindN_s]
 cases nameL (bl a) with
 | false=>simp
 | true=>simp [r02_Value_v hn]
theorem r03_may_v {n:Nat} (hn:Big n) (x:SgEl r03_may_sg):r03_may n x=some ((mayT x.1,()),((),())):=r03_may_v0 hn x.1
theorem split_loop {n:Nat} (c:UInt8):∀ (m:Nat) (s:ByteArray) (acc:List ByteArray) (g:Nat),s.size≤m→m<g→acc.length+s.size≤1000000000 →
  word_Split_l0 n g (s,(c.toNat:Int),acc,())=some (.inr (acc++splitB c s,())):=by
 intro m
 induction m with
 | zero =>
  intro s acc g hn hg hb
  obtain ⟨g,rfl⟩:∃ g',g=g'+1:=⟨g - 1,by omega⟩
  have hs:s=⟨#[]⟩:=bl_inj (List.length_eq_zero_iff.1 (by rw [size_bl];omega))
  subst hs
  have e:room (acc.length+1) 16=true:=room_of (by omega)
  simp [word_Split_l0,s_IndexByte,Lib.indexByte,roomA,app,e];rfl
 | succ m ih =>
  intro s acc g hn hg hb
  obtain ⟨g,rfl⟩:∃ g',g=g'+1:=⟨g - 1,by omega⟩
  have hlt:=idx_lt (bl s) c
  rw [size_bl] at hlt
  have hc:((c.toNat:Int).toNat).toUInt8=c:=by simp
  have e:=splitL_idx c (bl s)
  have er:room (acc.length+1) 16=true:=room_of (by omega)
  have ei:s_IndexByte n (s,(c.toNat:Int),())=some ((Lib.indexByte (bl s) c,()),((),(),())):=by simp only [s_IndexByte,hc];rfl
  by_cases h:Lib.indexByte (bl s) c<0
  ·simp only [word_Split_l0,ei,bindN_s,ilt_eq,h,decide_true,cond_true,roomA,List.length_singleton,er,app]
   rw [splitB,e,if_pos h];rfl
  ·obtain ⟨k,hk⟩:=Int.eq_ofNat_of_zero_le (show 0≤Lib.indexByte (bl s) c by omega)
   rw [hk] at hlt e h ei
   have hsz:(s.extract (k+1) s.size).size=s.size - (k+1):=by rw [← size_bl,bl_extract];simp [size_bl]
   have h1:(k:Int)≤s.size:=by omega
   have h2:(0:Int)≤((k+1:Nat):Int):=by omega
   have h3:((k+1:Nat):Int)≤s.size:=by omega
   have h4:(0:Int)≤k:=by omega
   have:=ih (s.extract (k+1) s.size) (acc++[s.extract 0 k]) g (by rw [hsz];omega) (by omega) (by rw [hsz,List.length_append];simp;omega)
   simp only [word_Split_l0,ei,bindN_s,ilt_eq,ile_eq,ssize_eq,h,h1,h2,h3,h4,decide_false,decide_true,cond_false,cond_true,roomA,List.length_singleton,er,app,iadd1 (i:=k) (by omega),Int.le_refl,sext_eq,Int.toNat_natCast,Int.toNat_zero,this,bindL_inr]
   have e2:acc++splitB c s=acc++[s.extract 0 k]++splitB c (s.extract (k+1) s.size):=by
    unfold splitB
    rw [e,if_neg h,List.append_assoc,ext_take,ext_drop,bl_mk ((bl s).drop (k+1))]
    simp
   rw [e2]
theorem word_Split_v {n:Nat} (hn:Big n) (c:UInt8) (s:ByteArray) (hs:s.size≤1000000):word_Split n (s,(c.toNat:Int),())=some ((splitB c s,()),((),(),())):=by
 have:=split_loop (n:=n) c s.size s [] n (Nat.le_refl _) (by unfold Big at hn;omega) (by simp;omega)
 simp only [word_Split,this,bindL_inr,List.nil_append]
theorem rsplit_loop {n:Nat} (c:UInt8) (s:ByteArray) (hs:s.size≤1000000):∀ (d i f g:Nat) (acc:List ByteArray),i+d=s.size→f≤i→acc.length≤i→d<g →
  ∃ (acc':List ByteArray) (f':Nat),r02_Split_l0 n g (s,(c.toNat:Int),acc,(f:Int),(i:Int),())=some (.inl (s,acc',(f':Int),()))∧f'≤s.size∧acc'.length≤s.size ∧
   acc'++[s.extract f' s.size]=acc++(glue (((bl s).take i).drop f) (splitL c ((bl s).drop i))).map fun l=>⟨l.toArray⟩
 | 0,i,f,g,acc,hd,hf,ha,hg=>by
  obtain ⟨g,rfl⟩:∃ g',g=g'+1:=⟨g - 1,by omega⟩
  have hi:i=s.size:=by omega
  subst hi
  refine ⟨acc,f,?_,hf,ha,?_⟩
  ·simp [r02_Split_l0]
  ·rw [show (bl s).drop s.size=[] from List.drop_of_length_le (by rw [size_bl];exact Nat.le_refl _),ext_mid]
   simp only [splitL,glue,List.append_nil,List.map_cons,List.map_nil]
 | d+1,i,f,g,acc,hd,hf,ha,hg=>by
  obtain ⟨g,rfl⟩:∃ g',g=g'+1:=⟨g - 1,by omega⟩
  have hi:i<(bl s).length:=by rw [size_bl];omega
  have k1:(i:Int)<s.size:=by omega
  have k2:(0:Int)≤i:=by omega
  have k3:(0:Int)≤f:=by omega
  have k4:(f:Int)≤i:=by omega
  have k5:(i:Int)≤s.size:=by omega
  have er:room (acc.length+1) 16=true:=room_of (by omega)
  rw [drop_cons (bl s) i hi]
  by_cases hc:(bl s)[i]=c
  ·obtain ⟨acc',f',h1,h2,h3,h4⟩:=rsplit_loop (n:=n) c s hs d (i+1) (i+1) g (acc++[s.extract f i]) (by omega) (by omega) (by simp;omega) (by omega)
   refine ⟨acc',f',?_,h2,h3,?_⟩
   ·simp only [r02_Split_l0,ilt_eq,ile_eq,ieq_eq,ssize_eq,k1,k2,k3,k4,k5,decide_true,cond_true,sat_bl s i hi,hc,roomA,List.length_singleton,er,app,sext_eq,Int.toNat_natCast,iadd1 (i:=i) (by omega),h1,bindL_inl]
   ·rw [h4,splitL,if_pos hc]
    have e1:((bl s).take (i+1)).drop (i+1)=[]:=List.drop_of_length_le (by simp;omega)
    rw [e1]
    have e2:glue [] (splitL c ((bl s).drop (i+1)))=splitL c ((bl s).drop (i+1)):=by
     cases h:splitL c ((bl s).drop (i+1)) with
     | nil=>exact absurd h (splitL_ne _ _)
     | cons a t=>rfl
    rw [e2]
    simp [glue,ext_mid]
  ·obtain ⟨acc',f',h1,h2,h3,h4⟩:=rsplit_loop (n:=n) c s hs d (i+1) f g acc (by omega) (by omega) (by omega) (by omega)
   have hc':¬ ((bl s)[i].toNat:Int)=(c.toNat:Int):=by rw [u8_int];exact hc
   refine ⟨acc',f',?_,h2,h3,?_⟩
   ·simp only [r02_Split_l0,ilt_eq,ile_eq,ieq_eq,ssize_eq,k1,k2,decide_true,cond_true,sat_bl s i hi,hc',decide_false,cond_false,iadd1 (i:=i) (by omega),h1,bindL_inl]
   ·rw [h4,splitL,if_neg hc]
    have e1:((bl s).take (i+1)).drop f=((bl s).take i).drop f++[(bl s)[i]]:=by
     rw [List.take_succ_eq_append_getElem hi,List.drop_append_of_le_length (by simp;omega)]
    rw [e1]
    cases h:splitL c ((bl s).drop (i+1)) with
    | nil=>exact absurd h (splitL_ne _ _)
    | cons a t=>simp [glue]
theorem r02_Split_v {n:Nat} (hn:Big n) (c:UInt8) (s:ByteArray) (hs:s.size≤1000000):r02_Split n (s,(c.toNat:Int),())=some ((splitB c s,()),((),(),())):=by
 obtain ⟨acc',f',h1,h2,h3,h4⟩:=rsplit_loop (n:=n) c s hs s.size 0 0 n [] (by omega) (by omega) (by simp) (by unfold Big at hn;omega)
 have k3:(0:Int)≤f':=by omega
 have k4:(f':Int)≤s.size:=by omega
 have er:room (acc'.length+1) 16=true:=room_of (by omega)
 have e:acc'++[s.extract f' s.size]=splitB c s:=by
  rw [h4]
  unfold splitB
  cases h:splitL c (bl s) with
  | nil=>exact absurd h (splitL_ne _ _)
  | cons a t=>simp [glue,h]
 rw [show ((0:Nat):Int)=0 from rfl] at h1
 simp only [r02_Split,h1,bindL_inl,ile_eq,ssize_eq,k3,k4,decide_true,cond_true,Int.le_refl,roomA,List.length_singleton,er,app,sext_eq,Int.toNat_natCast,e]
theorem word_Join_v (n:Nat) (sep:ByteArray) (l:List ByteArray) (h1:l.length≤1000000) (h2:(bl (joinB sep l)).length≤100000000000):word_Join n (sep,l,())=some ((joinB sep l,()),((),(),())):=by
 have e1:Nat.ble l.length 140737488355328=true:=by rw [Nat.ble_eq];omega
 have e2:Nat.ble (Lib.join (l.map (·.data.toList)) sep.data.toList).length 140737488355328=true:=by
  have:(bl (joinB sep l)).length=(Lib.join (l.map (·.data.toList)) sep.data.toList).length:=rfl
  rw [Nat.ble_eq];omega
 simp only [word_Join,s_Join,e1,e2,Bool.and_self,cond_true,bindN_s]
 rfl
theorem rjoin_loop {n:Nat} (sep:ByteArray) (l:List ByteArray) (hl:l.length≤1000000):∀ (d i g:Nat) (acc:ByteArray),i+1+d=l.length→d<g→(bl acc).length+(tl (bl sep) ((l.drop (i+1)).map bl)).length≤1000000000000 →
  r02_Join_l0 n g (sep,l,acc,((i+1:Nat):Int),())=some (.inl (mkB (bl acc++tl (bl sep) ((l.drop (i+1)).map bl)),()))
 | 0,i,g,acc,hd,hg,hb=>by
  obtain ⟨g,rfl⟩:∃ g',g=g'+1:=⟨g - 1,by omega⟩
  have k:¬ ((i+1:Nat):Int)<(l.length:Int):=by omega
  rw [List.drop_of_length_le (by omega)]
  simp only [r02_Join_l0,ilt_eq,ilen,k,decide_false,cond_false]
  simp [Lib.joinTail,mkB_bl]
 | d+1,i,g,acc,hd,hg,hb=>by
  obtain ⟨g,rfl⟩:∃ g',g=g'+1:=⟨g - 1,by omega⟩
  have hi:i+1<l.length:=by omega
  rw [drop_cons l (i+1) hi,List.map_cons,tl_cons] at hb ⊢
  rw [List.length_append,List.length_append] at hb
  have h1:=size_bl acc
  have h2:=size_bl sep
  have h3:=size_bl l[i+1]
  have k1:((i+1:Nat):Int)<(l.length:Int):=by omega
  have k2:(0:Int)<((i+1:Nat):Int):=by omega
  have k3:(0:Int)≤((i+1:Nat):Int):=by omega
  have f1:sfits acc sep=true:=sfits_of (by omega)
  have f2:sfits (acc++sep) l[i+1]=true:=sfits_of (by rw [ByteArray.size_append];omega)
  have ih:=rjoin_loop (n:=n) sep l hl d (i+1) g ((acc++sep)++l[i+1]) (by omega) (by omega) (by rw [bl_append,bl_append,List.length_append,List.length_append];omega)
  rw [bl_append,bl_append] at ih
  simp only [r02_Join_l0,ilt_eq,ile_eq,ilen,k1,k2,k3,decide_true,cond_true,f1,lat_eq,iN,Int.toNat_natCast,List.getElem?_eq_getElem hi,bindN_s,scat_eq,f2,iadd1 (i:=i+1) (by omega),ih,bindL_inl]
  simp [List.append_assoc]
theorem r02_Join_v {n:Nat} (hn:Big n) (sep:ByteArray) (l:List ByteArray) (hl:l.length≤1000000) (hb:(bl (joinB sep l)).length≤100000000000):r02_Join n (sep,l,())=some ((joinB sep l,()),((),(),())):=by
 obtain ⟨m,rfl⟩:∃ m,n=m+1:=⟨n - 1,by unfold Big at hn;omega⟩
 cases l with
 | nil=>simp [r02_Join,r02_Join_l0];rfl
 | cons x r =>
  rw [joinB_cons,List.length_append] at hb
  have h1:=size_bl x
  have f1:sfits (⟨#[]⟩:ByteArray) x=true:=sfits_of (by show 0+x.size≤_;omega)
  have:=rjoin_loop (n:=m+1) sep (x ::r) hl r.length 0 m (⟨#[]⟩++x) (by simp;omega) (by simp at hl;unfold Big at hn;omega) (by
    rw [bl_append,empty_bl];simp only [List.nil_append,Nat.zero_add,List.drop_succ_cons,List.drop_zero];omega)
  rw [bl_append,empty_bl] at this
  have e:joinB sep (x ::r)=mkB (bl x++tl (bl sep) (r.map bl)):=bl_inj (by rw [joinB_cons,bl_mkB])
  have k1:(0:Int)<((x ::r).length:Int):=by simp only [List.length_cons];omega
  have e1:iadd .i64 (0:Int) 1=((0+1:Nat):Int):=iadd1 (i:=0) (by omega)
  simp only [r02_Join,r02_Join_l0,ilt_eq,ile_eq,ilen,k1,decide_true,cond_true,Int.lt_irrefl,decide_false,cond_false,Int.le_refl,lat_eq,iN,Int.toNat_zero,List.getElem?_cons_zero,bindN_s,f1,scat_eq,e1,this,bindL_inl,e]
  simp
theorem s_Cut_v (n:Nat) (c:UInt8) (s:ByteArray) (hs:s.size≤9000000000000):s_Cut n (s,(⟨#[c]⟩:ByteArray),())=some (((cutB c s).1,(cutB c s).2.1,(cutB c s).2.2,()),((),(),())):=by
 have h:=idx_lt (bl s) c
 rw [size_bl] at h
 have e:s_Index1 n (s,(⟨#[c]⟩:ByteArray),())=some ((Lib.indexByte (bl s) c,()),((),(),())):=rfl
 have e1:(((⟨#[c]⟩:ByteArray).size:Nat):Int)=1:=rfl
 unfold s_Cut s_slCut cutB
 simp only [e,bindN_s]
 by_cases h0:Lib.indexByte (bl s) c<0
 ·have h0':¬ 0≤Lib.indexByte (bl s) c:=by omega
  simp [h0,h0']
 ·obtain ⟨m,hm⟩:=Int.eq_ofNat_of_zero_le (show 0≤Lib.indexByte (bl s) c by omega)
  rw [hm] at h h0 ⊢
  have k1:(0:Int)≤m:=by omega
  have k2:(m:Int)≤s.size:=by omega
  have k3:(0:Int)≤((m+1:Nat):Int):=by omega
  have k4:((m+1:Nat):Int)≤s.size:=by omega
  simp only [ile_eq,ssize_eq,e1,iadd1 (i:=m) (by omega),k1,k2,k3,k4,decide_true,cond_true,Int.le_refl,sext_eq,Int.toNat_natCast,Int.toNat_zero,bindN_s,if_neg h0]
end Go.Proofs.YtdcphpbimeoioaaGreatDoorE
end
section
set_option linter.unusedSectionVars false
namespace Go.Proofs.YtdcphpbimeoioaaGreatDoorE
open Go Go.Proofs
set_option linter.unusedVariables false
set_option linter.unusedSimpArgs false
def pl (t:TG) (l:List TG):Nat:=(l.takeWhile fun u=>lessT u t).length
theorem pl_le (t:TG) (l:List TG):pl t l≤l.length:=by
 unfold pl;have:=(List.takeWhile_prefix (fun u=>lessT u t) (l:=l)).length_le;exact this
theorem pl_cons_t {t u:TG} {r:List TG} (h:lessT u t=true):pl t (u ::r)=pl t r+1:=by simp [pl,h]
theorem pl_cons_f {t u:TG} {r:List TG} (h:lessT u t=false):pl t (u ::r)=0:=by simp [pl,h]
theorem insT_pl (t:TG):∀ l:List TG,insT t l=match l[pl t l]? with|some u=>if nm u=nm t then none else some (l.take (pl t l)++t ::l.drop (pl t l))|none=>some (l++[t])
 | []=>by simp [insT,pl]
 | u ::r=>by
  rw [insT]
  cases h:lessT u t with
  | true =>
   rw [pl_cons_t h,if_pos rfl,insT_pl t r]
   simp only [List.getElem?_cons_succ,List.take_succ_cons,List.drop_succ_cons]
   cases r[pl t r]? with
   | none=>simp
   | some v=>simp only;split<;>simp
  | false =>
   rw [pl_cons_f h]
   simp
theorem canon_l2 {n:Nat} (l:List TG) (i:Nat) (hi:i<l.length) (hl:l.length≤100):∀ (d j g:Nat) (acc:List TG),j+d=acc.length→acc.length≤100→d<g →
  r03_Canon_l2 n g (l,acc,(i:Int),(j:Int),())=some (.inl (l,acc,(i:Int),((j+pl l[i] (acc.drop j):Nat):Int),()))
 | 0,j,g,acc,hd,ha,hg=>by
  obtain ⟨g,rfl⟩:∃ g',g=g'+1:=⟨g - 1,by omega⟩
  have k:¬ (j:Int)<(acc.length:Int):=by omega
  rw [List.drop_of_length_le (by omega)]
  simp only [r03_Canon_l2,ilt_eq,ilen,k,decide_false,cond_false]
  rfl
 | d+1,j,g,acc,hd,ha,hg=>by
  obtain ⟨g,rfl⟩:∃ g',g=g'+1:=⟨g - 1,by omega⟩
  have hj:j<acc.length:=by omega
  have k:(j:Int)<(acc.length:Int):=by omega
  have k0:(0:Int)≤j:=by omega
  have k1:(0:Int)≤i:=by omega
  rw [drop_cons acc j hj]
  have ih:=canon_l2 (n:=n) l i hi hl d (j+1) g acc (by omega) ha (by omega)
  simp only [r03_Canon_l2,ilt_eq,ile_eq,ilen,k,k0,k1,decide_true,cond_true,lat_eq,iN,Int.toNat_natCast,List.getElem?_eq_getElem hj,List.getElem?_eq_getElem hi,bindN_s,slt_eq,iadd1 (i:=j) (by omega),bindL_id2,ih]
  have e:Op.bytesLess (acc[j]).1.data.toList (l[i]).1.data.toList=lessT acc[j] l[i]:=rfl
  rw [e]
  cases h:lessT acc[j] l[i] with
  | true=>rw [pl_cons_t h,show j+(pl l[i] (acc.drop (j+1))+1)=j+1+pl l[i] (acc.drop (j+1)) by omega];rfl
  | false=>rw [pl_cons_f h];simp
theorem canon_l1 {n:Nat} (hn:Big n) (l:List TG) (hl:l.length≤4):∀ (d i g:Nat) (acc:List TG),i+d=l.length→acc.length=i→d<g →
  r03_Canon_l1 n g (l,acc,(i:Int),())=some (match insAll acc (l.drop i) with|some o => .inl (o,())|none => .inr ([],(5:Int),()))
 | 0,i,g,acc,hd,ha,hg=>by
  obtain ⟨g,rfl⟩:∃ g',g=g'+1:=⟨g - 1,by omega⟩
  have k:¬ (i:Int)<(l.length:Int):=by omega
  rw [List.drop_of_length_le (by omega)]
  simp [r03_Canon_l1,k,insAll]
 | d+1,i,g,acc,hd,ha,hg=>by
  obtain ⟨g,rfl⟩:∃ g',g=g'+1:=⟨g - 1,by omega⟩
  have hi:i<l.length:=by omega
  have k:(i:Int)<(l.length:Int):=by omega
  have k1:(0:Int)≤i:=by omega
  have h2:=canon_l2 (n:=n) l i hi (by omega) acc.length 0 n acc (by omega) (by omega) (by unfold Big at hn;omega)
  rw [List.drop_zero,Nat.zero_add,show ((0:Nat):Int)=0 from rfl] at h2
  have hpl:=pl_le l[i] acc
  rw [drop_cons l i hi,insAll,insT_pl]
  generalize pl l[i] acc=q at h2 hpl
  have k2:(0:Int)≤q:=by omega
  have k3:(q:Int)≤(acc.length:Int):=by omega
  have e0:((acc.length:Int).toNat - q)=acc.length - q:=by omega
  have e1:(acc.drop q).take (acc.length - q)=acc.drop q:=List.take_of_length_le (by simp)
  have r1:room (acc.length - q) 32=true:=room_of (by omega)
  have r2:room (q+1) 32=true:=room_of (by omega)
  have r3:room (q+1+(acc.length - q)) 32=true:=room_of (by omega)
  have e2:min q acc.length=q:=by omega
  by_cases hq:q<acc.length
  ·have k4:(q:Int)<(acc.length:Int):=by omega
   have e:(acc[q].1=l[i].1)↔(nm acc[q]=nm l[i]):=⟨fun h=>by unfold nm;rw [h],fun h=>bl_inj h⟩
   by_cases hnm:acc[q].1=l[i].1
   ·have hnm':=e.1 hnm
    simp [r03_Canon_l1,k,k1,k2,k4,h2,hq,hi,hnm,hnm']
   ·have hnm':¬ nm acc[q]=nm l[i]:=fun h=>hnm (e.2 h)
    have ih:=canon_l1 hn l hl d (i+1) g (acc.take q++l[i] ::acc.drop q) (by omega) (by simp;omega) (by omega)
    rw [show ((i+1:Nat):Int)=(i:Int)+1 from rfl] at ih
    simp [r03_Canon_l1,k,k1,k2,k3,k4,h2,hq,hi,hnm,hnm',roomA,e0,e1,e2,r1,r2,r3,iadd1 (i:=i) (by omega),ih]
  ·have k4:¬ (q:Int)<(acc.length:Int):=by omega
   have eq:q=acc.length:=by omega
   have ih:=canon_l1 hn l hl d (i+1) g (acc++[l[i]]) (by omega) (by simp;omega) (by omega)
   subst eq
   rw [show ((i+1:Nat):Int)=(i:Int)+1 from rfl] at ih
   have r0:room 0 32=true:=room_of (by omega)
   simp [r03_Canon_l1,r0,k,k1,k2,k3,k4,h2,hq,hi,roomA,r1,r2,r3,iadd1 (i:=i) (by omega),ih]
theorem r03_Canon_v {n:Nat} (hn:Big n) (l:List TG) (hl:l.length≤1000000):r03_Canon n (l,())=some (((canonT l).1,(canonT l).2,()),((),())):=by
 have hL:=any_loop' (a:=l) (fun t => !mayT t) (l,()) (([]:List TG),(2:Int),()) (L:=fun g i=>r03_Canon_l0 n g (l,i,())) (fun g=>by simp [r03_Canon_l0]) (fun g i hi=>by
  have k:(i:Int)<(l.length:Int):=by omega
  have k1:(0:Int)≤i:=by omega
  simp only [r03_Canon_l0,ilt_eq,ile_eq,ilen,k,k1,decide_true,cond_true,lat_eq,iN,Int.toNat_natCast,List.getElem?_eq_getElem hi,bindN_s,r03_may_v hn,iadd1 (i:=i) (by omega),bindL_id1]) (g:=n) (by unfold Big at hn;omega)
 rw [all_any] at hL
 rw [canonT_eq]
 unfold r03_Canon
 cases ha:l.all mayT with
 | false=>rw [ha] at hL;simp at hL;simp [hL]
 | true =>
  rw [ha] at hL;simp at hL
  by_cases h4:4<l.length
  ·have h4':(4:Int)<l.length:=by omega
   simp [hL,h4,h4']
  ·have h4':¬ (4:Int)<l.length:=by omega
   have h1:=canon_l1 hn l (by omega) l.length 0 n [] (by omega) rfl (by unfold Big at hn;omega)
   rw [List.drop_zero,show ((0:Nat):Int)=0 from rfl] at h1
   simp only [hL,bindL_inl,ilt_eq,ilen,h4',decide_false,cond_false,h1,if_true,if_neg h4]
   cases insAll [] l<;>simp
theorem contains_bad {n:Nat} (hn:Big n) (l:List TG) (hl:l.length≤1000000):sl_ContainsTag n (l,(),())=some ((!l.all mayT,()),((),(),())):=by
 have key:∀ (d i g:Nat),i+d=l.length→d<g→∃ r,sl_IndexTag_l0 n g (l,(),(l.length:Int),(i:Int),())=some r ∧
   ((l.drop i).all mayT=true∧r = .inl ()∨(l.drop i).all mayT=false∧∃ q:Nat,r = .inr ((q:Int),())):=by
  intro d
  induction d with
  | zero =>
   intro i g hd hg
   obtain ⟨g,rfl⟩:∃ g',g=g'+1:=⟨g - 1,by omega⟩
   have k:¬ (i:Int)<(l.length:Int):=by omega
   refine ⟨_,by simp only [sl_IndexTag_l0,ilt_eq,k,decide_false,cond_false], .inl ⟨?_,rfl⟩⟩
   rw [List.drop_of_length_le (by omega)];rfl
  | succ d ih =>
   intro i g hd hg
   obtain ⟨g,rfl⟩:∃ g',g=g'+1:=⟨g - 1,by omega⟩
   have hi:i<l.length:=by omega
   have k:(i:Int)<(l.length:Int):=by omega
   have k1:(0:Int)≤i:=by omega
   obtain ⟨r,h1,h2⟩:=ih (i+1) g (by omega) (by omega)
   rw [drop_cons l i hi,List.all_cons]
   cases hm:mayT l[i] with
   | false =>
    refine ⟨.inr ((i:Int),()),?_, .inr ⟨by simp,i,rfl⟩⟩
    simp only [sl_IndexTag_l0,ilt_eq,ile_eq,k,k1,decide_true,cond_true,lat_eq,iN,Int.toNat_natCast,List.getElem?_eq_getElem hi,bindN_s,tag_Canon1,tag_may_v,hm,Bool.not_false]
   | true =>
    refine ⟨r,?_,by simpa using h2⟩
    simp only [sl_IndexTag_l0,ilt_eq,ile_eq,k,k1,decide_true,cond_true,lat_eq,iN,Int.toNat_natCast,List.getElem?_eq_getElem hi,bindN_s,tag_Canon1,tag_may_v,hm,Bool.not_true,cond_false,iadd1 (i:=i) (by omega),h1]
    rcases r with ⟨⟨⟩⟩|b<;>simp
 obtain ⟨r,h1,h2⟩:=key l.length 0 n (by omega) (by unfold Big at hn;omega)
 rw [List.drop_zero] at h2
 rw [show ((0:Nat):Int)=0 from rfl] at h1
 unfold sl_ContainsTag sl_IndexTag
 rcases h2 with ⟨h2,rfl⟩|⟨h2,q,rfl⟩
 ·simp [h1,h2]
 ·have:(0:Int)≤q:=by omega
  simp [h1,h2,this]
theorem canon_l0 {n:Nat} (l:List TG) (hl:l.length≤4):∀ (d i g:Nat),i+1+d=l.length→d<g→tag_Canon_l0 n g (l,((i+1:Nat):Int),())=some (if adj (l.drop i)=true then .inr ([],(5:Int),()) else .inl (l,()))
 | 0,i,g,hd,hg=>by
  obtain ⟨g,rfl⟩:∃ g',g=g'+1:=⟨g - 1,by omega⟩
  have hi:i<l.length:=by omega
  have k:¬ ((i+1:Nat):Int)<(l.length:Int):=by omega
  rw [drop_cons l i hi,List.drop_of_length_le (by omega),show adj [l[i]]=false from rfl]
  simp only [tag_Canon_l0,ilt_eq,ilen,k,decide_false,cond_false]
  simp
 | d+1,i,g,hd,hg=>by
  obtain ⟨g,rfl⟩:∃ g',g=g'+1:=⟨g - 1,by omega⟩
  have hi0:i<l.length:=by omega
  have hi:i+1<l.length:=by omega
  have k:((i+1:Nat):Int)<(l.length:Int):=by omega
  have k0:(0:Int)≤i:=by omega
  have k1:(0:Int)≤((i+1:Nat):Int):=by omega
  have e0:isub .i64 ((i+1:Nat):Int) 1=(i:Int):=by rw [isub64 (by omega) (by omega)];omega
  have ih:=canon_l0 (n:=n) l hl d (i+1) g (by omega) (by omega)
  rw [adj_drop l i hi]
  simp only [tag_Canon_l0,ilt_eq,ile_eq,ieq_eq,ilen,k,k0,k1,e0,decide_true,cond_true,lat_eq,iN,Int.toNat_natCast,List.getElem?_eq_getElem hi,List.getElem?_eq_getElem hi0,bindN_s,tag_order,s_Compare,iadd1 (i:=i+1) (by omega),bindL_id1,ih]
  have e:(Lib.compareBytes (l[i]).1.data.toList (l[i+1]).1.data.toList=0)↔nm l[i]=nm l[i+1]:=cmp_zero _ _
  by_cases h:nm l[i]=nm l[i+1]
  ·simp [e.2 h,h]
  ·have:¬ Lib.compareBytes (l[i]).1.data.toList (l[i+1]).1.data.toList=0:=fun q=>h (e.1 q)
   simp [this,h]
theorem tag_Canon_v {n:Nat} (hn:Big n) (l:List TG) (hl:l.length≤1000000):tag_Canon n (l,())=some (((canonT l).1,(canonT l).2,()),((),())):=by
 rw [canonT_eq]
 unfold tag_Canon
 simp only [contains_bad hn l hl,bindN_s]
 cases ha:l.all mayT with
 | false=>simp
 | true =>
  by_cases h4:4<l.length
  ·have h4':(4:Int)<l.length:=by omega
   simp [h4,h4']
  ·have h4':¬ (4:Int)<l.length:=by omega
   have r1:room l.length 32=true:=room_of (by omega)
   have b1:Nat.blt l.length 4611686018427387904=true:=by unfold Nat.blt;rw [Nat.ble_eq];omega
   have hlen:(srt l).length=l.length:=(srt_spec l).1.length_eq
   have e:=canon_scan l
   simp only [Bool.not_true,cond_false,ilt_eq,ilen,h4',decide_false,sl_CloneTag,r1,cond_true,bindN_s,sl_SortTag,b1,if_true,if_neg h4]
   have h0:tag_Canon_l0 n n (srt l,(1:Int),())=some (if adj (srt l)=true then .inr ([],(5:Int),()) else .inl (srt l,())):=by
    by_cases hz:(srt l).length=0
    ·have e:srt l=[]:=List.length_eq_zero_iff.1 hz
     obtain ⟨m,rfl⟩:∃ m,n=m+1:=⟨n - 1,by unfold Big at hn;omega⟩
     rw [e]
     simp [tag_Canon_l0,adj,ilen]
    ·have:=canon_l0 (n:=n) (srt l) (by omega) ((srt l).length - 1) 0 n (by omega) (by unfold Big at hn;omega)
     simpa using this
   rw [show sl_SortTag_sorted l=srt l from rfl,h0]
   cases hadj:adj (srt l)<;>rw [hadj] at e<;>cases hin:insAll [] l<;>rw [hin] at e<;>simp at e ⊢<;>simp [e]
theorem bl_pair (t:TG):(t.1++(⟨#[61]⟩:ByteArray))++t.2.1=pairB t:=bl_inj (by rw [bl_pairB,bl_append,bl_append];rfl)
theorem r03_Text_v {n:Nat} (hn:Big n) (l:List TG) (hf:Fit l):r03_Text n (l,())=some ((textT l,()),((),())):=by
 have h1:=hf.1
 have key:∀ (d i g:Nat) (acc:List ByteArray),i+d=l.length→acc.length=i→d<g→r03_Text_l0 n g (l,acc,(i:Int),())=some (.inl (acc++(l.drop i).map pairB,())):=by
  intro d
  induction d with
  | zero =>
   intro i g acc hd ha hg
   obtain ⟨g,rfl⟩:∃ g',g=g'+1:=⟨g - 1,by omega⟩
   have k:¬ (i:Int)<(l.length:Int):=by omega
   rw [List.drop_of_length_le (by omega)]
   simp [r03_Text_l0,k]
  | succ d ih =>
   intro i g acc hd ha hg
   obtain ⟨g,rfl⟩:∃ g',g=g'+1:=⟨g - 1,by omega⟩
   have hi:i<l.length:=by omega
   have k:(i:Int)<(l.length:Int):=by omega
   have k0:(0:Int)≤i:=by omega
   have hft:=hf.2 l[i] (List.getElem_mem hi)
   have f1:sfits l[i].1 (⟨#[61]⟩:ByteArray)=true:=sfits_of (by show l[i].1.size+1≤_;omega)
   have f2:sfits (l[i].1++(⟨#[61]⟩:ByteArray)) l[i].2.1=true:=sfits_of (by rw [ByteArray.size_append];show l[i].1.size+1+l[i].2.1.size≤_;omega)
   have r1:room (acc.length+1) 16=true:=room_of (by omega)
   have ep:=bl_pair l[i]
   rw [drop_cons l i hi]
   simp only [r03_Text_l0,ilt_eq,ile_eq,ilen,k,k0,decide_true,cond_true,lat_eq,iN,Int.toNat_natCast,List.getElem?_eq_getElem hi,bindN_s,f1,scat_eq,f2,roomA,List.length_singleton,r1,ep,app,iadd1 (i:=i) (by omega),bindL_id2,ih (i+1) g (acc++[pairB l[i]]) (by omega) (by simp;omega) (by omega)]
   simp only [List.map_cons,List.append_assoc,List.cons_append,List.nil_append]
 have h:=key l.length 0 n [] (by omega) rfl (by unfold Big at hn;omega)
 rw [show ((0:Nat):Int)=0 from rfl] at h
 have hj:=r02_Join_v hn (mkB [44]) (l.map pairB) (by simp;omega) (fit_text hf)
 rw [show mkB [44]=(⟨#[44]⟩:ByteArray) from rfl] at hj
 simp only [r03_Text,h,bindL_inl,List.nil_append,List.drop_zero,hj,bindN_s]
 rfl
theorem tag_Text_v {n:Nat} (hn:Big n) (l:List TG) (hf:Fit l):tag_Text n (l,())=some ((textT l,()),((),())):=by
 have h1:=hf.1
 have key:∀ (d i g:Nat) (acc:List ByteArray),i+d=l.length→acc.length=i→d<g→tag_Text_l0 n g (acc,l,(l.length:Int),(i:Int),())=some (.inl (acc++(l.drop i).map pairB,())):=by
  intro d
  induction d with
  | zero =>
   intro i g acc hd ha hg
   obtain ⟨g,rfl⟩:∃ g',g=g'+1:=⟨g - 1,by omega⟩
   have k:¬ (i:Int)<(l.length:Int):=by omega
   rw [List.drop_of_length_le (by omega)]
   simp [tag_Text_l0,k]
  | succ d ih =>
   intro i g acc hd ha hg
   obtain ⟨g,rfl⟩:∃ g',g=g'+1:=⟨g - 1,by omega⟩
   have hi:i<l.length:=by omega
   have k:(i:Int)<(l.length:Int):=by omega
   have k0:(0:Int)≤i:=by omega
   have e:=word_Join_v n (mkB [61]) [l[i].1,l[i].2.1] (by simp) (Nat.le_trans (fit_pair hf _ (List.getElem_mem hi)) (by omega))
   rw [show mkB [61]=(⟨#[61]⟩:ByteArray) from rfl] at e
   have e':joinB (⟨#[61]⟩:ByteArray) [l[i].1,l[i].2.1]=pairB l[i]:=rfl
   have r1:room (acc.length+1) 16=true:=room_of (by omega)
   rw [drop_cons l i hi]
   simp only [tag_Text_l0,ilt_eq,ile_eq,k,k0,decide_true,cond_true,lat_eq,iN,Int.toNat_natCast,List.getElem?_eq_getElem hi,bindN_s,e,e',roomA,List.length_singleton,r1,app,iadd1 (i:=i) (by omega),bindL_id2,ih (i+1) g (acc++[pairB l[i]]) (by omega) (by simp;omega) (by omega)]
   simp only [List.map_cons,List.append_assoc,List.cons_append,List.nil_append]
 have h:=key l.length 0 n [] (by omega) rfl (by unfold Big at hn;omega)
 rw [show ((0:Nat):Int)=0 from rfl] at h
 have hj:=word_Join_v n (mkB [44]) (l.map pairB) (by simp;omega) (fit_text hf)
 rw [show mkB [44]=(⟨#[44]⟩:ByteArray) from rfl] at hj
 simp only [tag_Text,ilen,h,bindL_inl,List.nil_append,List.drop_zero,hj,bindN_s]
 rfl
theorem tag_parse_l0 {n:Nat} (ps:List ByteArray) (hl:ps.length≤1000000) (hs:∀ x∈ps,x.size≤900000):∀ (d i g:Nat) (acc:List TG),i+d=ps.length→acc.length≤i→d<g →
  tag_Parse_l0 n g (acc,ps,(ps.length:Int),(i:Int),())=some (match pairsT (ps.drop i) with|some q => .inl (acc++q,())|none => .inr ([],(2:Int),()))
 | 0,i,g,acc,hd,ha,hg=>by
  obtain ⟨g,rfl⟩:∃ g',g=g'+1:=⟨g - 1,by omega⟩
  have k:¬ (i:Int)<(ps.length:Int):=by omega
  rw [List.drop_of_length_le (by omega)]
  simp [tag_Parse_l0,k,pairsT]
 | d+1,i,g,acc,hd,ha,hg=>by
  obtain ⟨g,rfl⟩:∃ g',g=g'+1:=⟨g - 1,by omega⟩
  have hi:i<ps.length:=by omega
  have k:(i:Int)<(ps.length:Int):=by omega
  have k0:(0:Int)≤i:=by omega
  have hx:=hs ps[i] (List.getElem_mem hi)
  have r1:room (acc.length+1) 32=true:=room_of (by omega)
  have ih:=tag_parse_l0 (n:=n) ps hl hs d (i+1) g (acc++[((cutB 61 ps[i]).1,(cutB 61 ps[i]).2.1,())]) (by omega) (by simp;omega) (by omega)
  rw [drop_cons ps i hi,pairsT]
  simp only [tag_Parse_l0,ilt_eq,ile_eq,k,k0,decide_true,cond_true,lat_eq,iN,Int.toNat_natCast,List.getElem?_eq_getElem hi,bindN_s,s_Cut_v n 61 ps[i] (by omega),roomA,List.length_singleton,r1,app,iadd1 (i:=i) (by omega),bindL_id1,ih]
  cases h:(cutB 61 ps[i]).2.2 with
  | false=>simp
  | true=>cases pairsT (ps.drop (i+1))<;>simp
theorem r03_parse_l0 {n:Nat} (hn:Big n) (ps:List ByteArray) (hl:ps.length≤1000000) (hs:∀ x∈ps,x.size≤900000):∀ (d i g:Nat) (acc:List TG),i+d=ps.length→acc.length≤i→d<g →
  r03_Parse_l0 n g (acc,ps,(i:Int),())=some (match pairsT (ps.drop i) with|some q => .inl (acc++q,())|none => .inr ([],(2:Int),()))
 | 0,i,g,acc,hd,ha,hg=>by
  obtain ⟨g,rfl⟩:∃ g',g=g'+1:=⟨g - 1,by omega⟩
  have k:¬ (i:Int)<(ps.length:Int):=by omega
  rw [List.drop_of_length_le (by omega)]
  simp [r03_Parse_l0,k,pairsT]
 | d+1,i,g,acc,hd,ha,hg=>by
  obtain ⟨g,rfl⟩:∃ g',g=g'+1:=⟨g - 1,by omega⟩
  have hi:i<ps.length:=by omega
  have k:(i:Int)<(ps.length:Int):=by omega
  have k0:(0:Int)≤i:=by omega
  have hx:=hs ps[i] (List.getElem_mem hi)
  have r1:room (acc.length+1) 32=true:=room_of (by omega)
  have ih:=r03_parse_l0 hn ps hl hs d (i+1) g (acc++[((cutB 61 ps[i]).1,(cutB 61 ps[i]).2.1,())]) (by omega) (by simp;omega) (by omega)
  have hsp:=r02_Split_v hn 61 ps[i] (by omega)
  rw [show (((61:UInt8).toNat:Nat):Int)=61 from rfl] at hsp
  have hc:=split_cut 61 ps[i]
  rw [drop_cons ps i hi,pairsT]
  cases h:(cutB 61 ps[i]).2.2 with
  | false =>
   rw [h,if_neg (by simp)] at hc
   simp [r03_Parse_l0,ilen,k,k0,hi,hsp,hc]
  | true =>
   rw [h,if_pos rfl] at hc
   have hne:1≤(splitB 61 (cutB 61 ps[i]).2.1).length:=by
    have:=splitL_ne 61 (bl (cutB 61 ps[i]).2.1)
    unfold splitB;rw [List.length_map];exact List.length_pos_iff.2 this
   have hsz:=(cut_size 61 ps[i]).2
   have hlen:=splitB_len 61 (cutB 61 ps[i]).2.1
   have hj:=joinB_split 61 (cutB 61 ps[i]).2.1
   have hjv:=r02_Join_v hn (mkB [61]) (splitB 61 (cutB 61 ps[i]).2.1) (by omega) (by rw [hj,size_bl];omega)
   rw [hj,show mkB [61]=(⟨#[61]⟩:ByteArray) from rfl] at hjv
   generalize splitB 61 (cutB 61 ps[i]).2.1=sp at hc hne hlen hjv
   have k2:¬ (sp.length:Int)+1<2:=by omega
   have k3:(1:Int)≤(sp.length:Int)+1:=by omega
   have k4:((sp.length:Int)+1 - 1).toNat=sp.length:=by omega
   rw [show ((i+1:Nat):Int)=(i:Int)+1 from rfl] at ih
   simp [r03_Parse_l0,ilen,app,k,k0,hi,hsp,hc,k2,k3,k4,hjv,roomA,r1,iadd1 (i:=i) (by omega),ih]
   cases pairsT (ps.drop (i+1))<;>simp
theorem pairsT_len:∀ (ps:List ByteArray) (q:List TG),pairsT ps=some q→q.length=ps.length
 | [],q,h=>by simp [pairsT] at h;subst h;rfl
 | x ::r,q,h=>by
  rw [pairsT] at h
  split at h
  ·cases hr:pairsT r with
   | none=>rw [hr] at h;cases h
   | some q'=>rw [hr] at h;simp at h;subst h;simp [pairsT_len r q' hr]
  ·cases h
theorem tag_Parse_v {n:Nat} (hn:Big n) (s:ByteArray) (hs:s.size≤100000):tag_Parse n (s,())=some (((parseT s).1,(parseT s).2,()),((),())):=by
 have h1:=splitB_len 44 s
 unfold tag_Parse parseT
 by_cases hb:bl s=[]
 ·simp [bl_nil,hb]
 ·have hsp:=word_Split_v hn 44 s (by omega)
  rw [show (((44:UInt8).toNat:Nat):Int)=44 from rfl] at hsp
  have h:=tag_parse_l0 (n:=n) (splitB 44 s) (by omega) (fun x hx=>by have:=splitB_size 44 s x hx;omega) (splitB 44 s).length 0 n [] (by omega) (by simp) (by unfold Big at hn;omega)
  rw [show ((0:Nat):Int)=0 from rfl,List.drop_zero] at h
  simp only [seq_eq,bl_nil,hb,decide_false,cond_false,hsp,bindN_s,ilen,h,if_false]
  cases hp:pairsT (splitB 44 s) with
  | none=>simp [readT]
  | some q =>
   have:=pairsT_len _ _ hp
   simp [readT,tag_Canon_v hn q (by omega)]
theorem r03_Parse_v {n:Nat} (hn:Big n) (s:ByteArray) (hs:s.size≤100000):r03_Parse n (s,())=some (((parseT s).1,(parseT s).2,()),((),())):=by
 have h1:=splitB_len 44 s
 unfold r03_Parse parseT
 by_cases hb:bl s=[]
 ·simp [bl_nil,hb]
 ·have hsp:=r02_Split_v hn 44 s (by omega)
  rw [show (((44:UInt8).toNat:Nat):Int)=44 from rfl] at hsp
  have h:=r03_parse_l0 hn (splitB 44 s) (by omega) (fun x hx=>by have:=splitB_size 44 s x hx;omega) (splitB 44 s).length 0 n [] (by omega) (by simp) (by unfold Big at hn;omega)
  rw [show ((0:Nat):Int)=0 from rfl,List.drop_zero] at h
  simp only [seq_eq,bl_nil,hb,decide_false,cond_false,hsp,bindN_s,h,if_false]
  cases hp:pairsT (splitB 44 s) with
  | none=>simp [readT]
  | some q =>
   have:=pairsT_len _ _ hp
   simp [readT,r03_Canon_v hn q (by omega)]
end Go.Proofs.YtdcphpbimeoioaaGreatDoorE
end
section
set_option linter.unusedSectionVars false
namespace Go.Proofs.YtdcphpbimeoioaaGreatDoorE
open Go Go.Proofs
set_option linter.unusedVariables false
set_option linter.unusedSimpArgs false
abbrev MT:=El tMatch
abbrev NoB:ByteArray:=⟨#[]⟩
abbrev KY:=ByteArray×List TG×Int
def rightK (n:ByteArray) (l:List TG):Bool:=nameL (bl n) && rightT l
def textK (n:ByteArray) (l:List TG):ByteArray:=if l.length=0 then n else ((n++mkB [123])++textT l)++mkB [125]
theorem joinK (n t:ByteArray):joinB (mkB []) [n,mkB [123],t,mkB [125]]=((n++mkB [123])++t)++mkB [125]:=by
 apply bl_inj
 rw [joinB_cons]
 simp [Lib.joinTail,bl_mkB,bl_append]
def endsL (l:List UInt8):Bool:=decide (l[l.length - 1]?=some 125)
theorem endsL_pos (l:List UInt8) (h:0<l.length):endsL l=true↔l[l.length - 1]'(by omega)=125:=by
 unfold endsL
 rw [List.getElem?_eq_getElem (by omega),decide_eq_true_eq,Option.some.injEq]
def cutK (s:ByteArray):ByteArray×ByteArray×Bool :=
 if (cutB 123 s).2.2=true then (if endsL (bl (cutB 123 s).2.1)=true then (if (bl (cutB 123 s).2.1).dropLast=[] then (NoB,NoB,false) else ((cutB 123 s).1,mkB (bl (cutB 123 s).2.1).dropLast,true)) else (NoB,NoB,false)) else (s,NoB,true)
def parseK (s:ByteArray):KY :=
 if (cutK s).2.2=true then (if nameL (bl (cutK s).1)=true then (if (parseT (cutK s).2.1).2=0 then ((cutK s).1,(parseT (cutK s).2.1).1,0) else (NoB,[],(parseT (cutK s).2.1).2)) else (NoB,[],2)) else (NoB,[],2)
theorem last_drop (l:List UInt8) (h:0<l.length):l.drop (l.length - 1)=[l[l.length - 1]'(by omega)]:=by
 rw [drop_cons l (l.length - 1) (by omega),List.drop_of_length_le (by omega)]
theorem dropLast_size (a:ByteArray):(mkB (bl a).dropLast).size≤a.size:=by rw [size_mkB,← size_bl a];simp
def atK (s:ByteArray) (m:Nat):ByteArray×ByteArray×Bool :=
 if m=s.size then (s,NoB,true) else if endsL (bl s)=true then (if m+2=s.size then (NoB,NoB,false) else (s.extract 0 m,s.extract (m+1) (s.size - 1),true)) else (NoB,NoB,false)
def placeK (l:List UInt8) (c:UInt8):Nat:=if Lib.indexByte l c<0 then l.length else (Lib.indexByte l c).toNat
theorem place_cons (b c:UInt8) (l:List UInt8):placeK (b ::l) c=if b=c then 0 else placeK l c+1:=by
 have h:=idx_lt l c
 unfold placeK
 rw [idx_cons]
 by_cases hb:b=c
 ·simp [hb]
 ·rw [if_neg hb,if_neg hb]
  by_cases h1:Lib.indexByte l c = -1
  ·rw [if_pos h1,if_pos (by omega),if_pos (by omega)];simp
  ·rw [if_neg h1,if_neg (by omega),if_neg (by omega)];omega
theorem at_cut (s:ByteArray):atK s (placeK (bl s) 123)=cutK s:=by
 have hz:=size_bl s
 have h:=idx_lt (bl s) 123
 unfold atK cutK placeK cutB
 by_cases h0:Lib.indexByte (bl s) 123<0
 ·simp only [if_pos h0,hz]
  rw [if_pos trivial,if_neg (by simp)]
 ·obtain ⟨m,hm⟩:=Int.eq_ofNat_of_zero_le (show 0≤Lib.indexByte (bl s) 123 by omega)
  rw [hm] at h
  have hmm:m<(bl s).length:=by omega
  have h0':¬ ((m:Int)<0):=by omega
  simp only [hm,if_neg h0',Int.toNat_natCast]
  rw [if_neg (by omega),if_pos trivial]
  have hb:(bl s)[m]=123:=by
   have e:=splitL_idx 123 (bl s)
   have hj:=join_split 123 (bl s)
   rw [e,if_neg h0,hm,Int.toNat_natCast,Lib.join_cons] at hj
   cases hh:splitL 123 ((bl s).drop (m+1)) with
   | nil=>exact absurd hh (splitL_ne _ _)
   | cons a t =>
    rw [hh] at hj
    have hj2:(bl s).take m++(123 ::(a++tl [123] t))=bl s:=by
     have h8:=tl_cons [123] a t
     have h9:(bl s).take m++tl [123] (a ::t)=bl s:=hj
     rw [h8] at h9
     simpa using h9
    have h3:((bl s).take m++(123 ::(a++tl [123] t)))[m]?=some 123:=by
     have h10:((bl s).take m).length=m:=by rw [List.length_take];omega
     rw [List.getElem?_append_right (by omega),h10]
     simp
    rw [hj2] at h3
    exact (List.getElem?_eq_some_iff.1 h3).2
  rw [bl_extract,List.take_of_length_le (by omega)]
  by_cases hl:m+1=(bl s).length
  ·have e1:(bl s).drop (m+1)=[]:=List.drop_of_length_le (by omega)
   have e2:endsL (bl s)=false:=by
    unfold endsL
    rw [show (bl s).length - 1=m by omega,List.getElem?_eq_getElem hmm,hb];decide
   rw [e1,e2,if_neg (by simp),if_neg (by decide)]
  ·have e1:endsL ((bl s).drop (m+1))=endsL (bl s):=by
    unfold endsL
    rw [List.getElem?_drop,List.length_drop,show m+1+((bl s).length - (m+1) - 1)=(bl s).length - 1 by omega]
   rw [e1]
   by_cases he:endsL (bl s)=true
   ·rw [if_pos he,if_pos he]
    have e3:((bl s).drop (m+1)).dropLast=((bl s).take ((bl s).length - 1)).drop (m+1):=by
     rw [List.dropLast_eq_take,List.length_drop,List.drop_take]
     congr 1;omega
    by_cases h2:m+2=s.size
    ·rw [if_pos h2,if_pos (by rw [e3];exact List.drop_of_length_le (by simp;omega))]
    ·rw [if_neg h2,if_neg]
     ·simp only [Prod.mk.injEq,and_true,true_and]
      apply bl_inj
      rw [bl_extract,bl_mkB,e3,hz]
     ·rw [e3]
      intro h5
      have h6:=congrArg List.length h5
      simp at h6;omega
   ·rw [if_neg he,if_neg he]
theorem cutK_size (s:ByteArray):(cutK s).2.1.size≤s.size:=by
 have h:=cut_size 123 s
 have h2:=dropLast_size (cutB 123 s).2.1
 unfold cutK
 split
 ·split
  ·split
   ·exact Nat.zero_le _
   ·exact Nat.le_trans h2 h.2
  ·exact Nat.zero_le _
 ·exact Nat.zero_le _
theorem rightK_iff (n:ByteArray) (l:List TG):rightK n l=true↔nameL (bl n)=true∧rightT l=true:=by
 unfold rightK;rw [Bool.and_eq_true]
theorem parse_textK (n:ByteArray) (l:List TG) (h:rightK n l=true):parseK (textK n l)=(n,l,0):=by
 obtain ⟨h1,h2⟩:=(rightK_iff n l).1 h
 have hno:=name_no _ h1 123 (by decide+kernel)
 have key:cutK (textK n l)=(n,textT l,true):=by
  by_cases h0:l.length=0
  ·obtain rfl:=List.length_eq_zero_iff.1 h0
   rw [show textK n []=n by simp [textK]]
   unfold cutK
   have e:cutB 123 n=(n,NoB,false):=by
    have hm:=idx_mem (bl n) 123
    have hl:=idx_lt (bl n) 123
    unfold cutB
    rw [if_pos]
    by_cases h5:0≤Lib.indexByte (bl n) 123
    ·exact absurd (hm.1 h5) hno
    ·omega
   rw [e,if_neg (by simp)];rfl
  ·unfold cutK textK
   rw [if_neg h0]
   have e:cutB 123 (((n++mkB [123])++textT l)++mkB [125])=(n,mkB (bl (textT l)++[125]),true) :=
    cut_app 123 _ _ _ (by rw [bl_append,bl_append,bl_append,bl_mkB,bl_mkB,bl_mkB];simp) hno
   have hne:bl (textT l)≠[]:=by
    cases l with
    | nil=>simp at h0
    | cons t r=>unfold textT;rw [List.map_cons,joinB_cons,bl_pairB];simp
   rw [e,if_pos rfl,bl_mkB,List.dropLast_concat,if_pos (by unfold endsL;simp),if_neg hne,mkB_bl]
 unfold parseK
 rw [key,if_pos rfl,if_pos h1,parse_text l h2,if_pos rfl]
theorem parseK_out (s:ByteArray):((parseK s).2.2=0∧rightK (parseK s).1 (parseK s).2.1=true)∨((parseK s).2.2≠0∧(parseK s).1=NoB∧(parseK s).2.1=[]):=by
 unfold parseK
 by_cases h1:(cutK s).2.2=true
 ·rw [if_pos h1]
  by_cases h2:nameL (bl (cutK s).1)=true
  ·rw [if_pos h2]
   rcases parse_out (cutK s).2.1 with ⟨h3,h4⟩|⟨h3,h4⟩
   ·rw [if_pos h3]
    exact .inl ⟨rfl,(rightK_iff _ _).2 ⟨h2,h4⟩⟩
   ·rw [if_neg h3];exact .inr ⟨h3,rfl,rfl⟩
  ·rw [if_neg h2];exact .inr ⟨by decide,rfl,rfl⟩
 ·rw [if_neg h1];exact .inr ⟨by decide,rfl,rfl⟩
theorem rightK_fit {n:ByteArray} {l:List TG} (h:rightK n l=true):n.size≤12∧Fit l∧l.length≤4∧(textK n l).size≤2000:=by
 obtain ⟨h1,h2⟩:=(rightK_iff n l).1 h
 have h3:=(name_len _ h1).2
 rw [size_bl] at h3
 obtain ⟨hf,ht⟩:=right_fit h2
 refine ⟨h3,hf,((right_iff l).1 h2).2.2,?_⟩
 rw [size_bl] at ht
 unfold textK
 split
 ·omega
 ·rw [← size_bl,bl_append,bl_append,bl_append]
  simp only [List.length_append,bl_mkB,size_bl,List.length_cons,List.length_nil]
  omega
def full (x:ByteArray):Bool:=decide (bl x≠[])
def fieldsB (s:ByteArray):List ByteArray:=(splitB 32 s).filter full
theorem fields_size (s:ByteArray):∀ x∈fieldsB s,x.size≤s.size:=fun x hx=>splitB_size 32 s x (List.mem_filter.1 hx).1
def mayM (m:MT):Bool:=nameL (bl m.2.1) && (if m.1=1∨m.1=2 then valueL (bl m.2.2.1) else if m.1=3 then decide (bl m.2.2.1=[]) || valueL (bl m.2.2.1) else decide (m.1=4) && decide (bl m.2.2.1=[]))
def rightM (l:List MT):Bool:=decide (l.length≤4) && l.all mayM
def matchB (m:MT):ByteArray:=if m.1=1 then joinB (mkB [61]) [m.2.1,m.2.2.1] else if m.1=2 then joinB (mkB [33,61]) [m.2.1,m.2.2.1] else if m.1=3 then joinB (mkB [61]) [m.2.1,m.2.2.1++mkB [42]] else m.2.1
theorem bl_join2 (sep a b:ByteArray):bl (joinB sep [a,b])=bl a++bl sep++bl b:=by
 rw [joinB_cons];simp [tl_cons,Lib.joinTail]
def textM (l:List MT):ByteArray:=joinB (mkB [44]) (l.map matchB)
def FitM (l:List MT):Prop:=l.length≤1000∧∀ t∈l,t.2.1.size≤1000000∧t.2.2.1.size≤1000000
theorem matchB_len (m:MT) (h1:m.2.1.size≤1000000) (h2:m.2.2.1.size≤1000000):(bl (matchB m)).length≤2000002:=by
 have e1:=size_bl m.2.1
 have e2:=size_bl m.2.2.1
 unfold matchB
 split
 ·rw [bl_join2,bl_mkB];simp only [List.length_append,List.length_cons,List.length_nil];omega
 ·split
  ·rw [bl_join2,bl_mkB];simp only [List.length_append,List.length_cons,List.length_nil];omega
  ·split
   ·rw [bl_join2,bl_append,bl_mkB,bl_mkB];simp only [List.length_append,List.length_cons,List.length_nil];omega
   ·omega
theorem fitM_text {l:List MT} (h:FitM l):(bl (textM l)).length≤10000000000:=by
 have h2:=joinB_len (mkB [44]) 2000002 (l.map matchB) (fun x hx=>by
  obtain ⟨t,ht,rfl⟩:=List.mem_map.1 hx
  exact matchB_len t (h.2 t ht).1 (h.2 t ht).2)
 rw [List.length_map] at h2
 have h3:l.length * ((bl (mkB [44])).length+2000002)≤1000 * 2000003:=Nat.le_trans (Nat.mul_le_mul_right _ h.1) (by rw [bl_mkB];simp)
 exact Nat.le_trans h2 (Nat.le_trans h3 (by decide))
theorem index_le (sub:List UInt8):∀ l:List UInt8,Lib.index l sub = -1∨∃ i:Nat,Lib.index l sub=i∧i+sub.length≤l.length
 | []=>by
  unfold Lib.index
  cases sub with
  | nil=>exact .inr ⟨0,rfl,by simp⟩
  | cons a t=>exact .inl rfl
 | b ::l=>by
  unfold Lib.index
  split
  ·next h=>exact .inr ⟨0,rfl,by have:=List.IsPrefix.length_le (List.isPrefixOf_iff_prefix.1 h);omega⟩
  ·rcases index_le sub l with h|⟨i,h,hi⟩
   ·rw [h];exact .inl rfl
   ·rw [h];exact .inr ⟨i+1,by rw [if_neg (by simp)];rfl,by simp only [List.length_cons];omega⟩
theorem index_one (c:UInt8):∀ l:List UInt8,Lib.index l [c]=Lib.indexByte l c
 | []=>rfl
 | b ::l=>by
  rw [idx_cons,Lib.index,index_one c l]
  by_cases h:b=c
  ·rw [if_pos h,if_pos (by simp [List.isPrefixOf,h])]
  ·rw [if_neg h,if_neg (by simp only [List.isPrefixOf,Bool.and_eq_true,beq_iff_eq,and_true];exact fun e=>h e.symm)]
   by_cases h2:Lib.indexByte l c = -1<;>simp [h2]
def neAt (s:ByteArray):Int:=Lib.index (bl s) [33,61]
def endC (c:UInt8) (l:List UInt8):Bool:=decide (l[l.length - 1]?=some c)
def partM (s:ByteArray):MT :=
 if 0≤neAt s then (2,mkB ((bl s).take (neAt s).toNat),mkB ((bl s).drop ((neAt s).toNat+2)),())
 else if (cutB 61 s).2.2=true then (if endC 42 (bl (cutB 61 s).2.1)=true then (3,(cutB 61 s).1,mkB (bl (cutB 61 s).2.1).dropLast,()) else (1,(cutB 61 s).1,(cutB 61 s).2.1,()))
 else (4,s,NoB,())
theorem idx_get (c:UInt8):∀ (l:List UInt8) (n:Nat),Lib.indexByte l c=(n:Int)→l[n]?=some c
 | [],n,h=>by have:=(idx_lt [] c).1;simp at this;omega
 | b ::l,n,h=>by
  rw [idx_cons] at h
  by_cases hb:b=c
  ·rw [if_pos hb] at h
   have:n=0:=by omega
   subst this;simp [hb]
  ·rw [if_neg hb] at h
   by_cases h2:Lib.indexByte l c = -1
   ·rw [if_pos h2] at h;omega
   ·rw [if_neg h2] at h
    have h3:=(idx_lt l c).2
    cases n with
    | zero=>omega
    | succ m=>simpa using idx_get c l m (by omega)
def goM:List MT→List ByteArray→List MT×Int
 | acc,[]=>if acc.length>4 then ([],4) else (acc,0)
 | acc,x ::r=>if mayM (partM x)=true then goM (acc++[partM x]) r else ([],2)
def parseM (s:ByteArray):List MT×Int:=if bl s=[] then ([],0) else goM [] (splitB 44 s)
def bigM (t:MT):Bool:=decide (100<t.2.1.size) || decide (100<t.2.2.1.size)
def greatM (l:List MT):Bool:=decide (20<l.length) || l.any bigM
theorem not_greatM {l:List MT} (h:greatM l=false):l.length≤20∧∀ t∈l,t.2.1.size≤100∧t.2.2.1.size≤100:=by
 unfold greatM at h
 simp only [Bool.or_eq_false_iff,decide_eq_false_iff_not,List.any_eq_false] at h
 refine ⟨by omega,fun t ht=>?_⟩
 have:=h.2 t ht
 unfold bigM at this
 simp only [Bool.or_eq_true,decide_eq_true_eq] at this
 omega
def nameB (x:ByteArray):Bool:=nameL (bl x)
def namesS (l:List ByteArray):Int:=if l.all nameB=true then (if 4<l.length then 4 else if l.Nodup then 0 else 5) else 2
def hasB (l:List ByteArray) (x:ByteArray):Bool:=l.any fun y=>decide (y=x)
theorem hasB_iff (l:List ByteArray) (x:ByteArray):hasB l x=true↔x∈l:=by
 unfold hasB;rw [List.any_eq_true]
 exact ⟨fun ⟨y,hy,e⟩=>by rw [← of_decide_eq_true e];exact hy,fun h=>⟨x,h,decide_eq_true rfl⟩⟩
def noDup:List ByteArray→List ByteArray→Bool
 | _,[]=>true
 | pre,x ::r => !(hasB pre x) && noDup (pre++[x]) r
theorem noDup_iff:∀ (r pre:List ByteArray),pre.Nodup→(noDup pre r=true↔(pre++r).Nodup)
 | [],pre,h=>by simp [noDup,h]
 | x ::r,pre,h=>by
  rw [noDup,Bool.and_eq_true,Bool.not_eq_true',← Bool.not_eq_true,hasB_iff]
  by_cases hx:x∈pre
  ·constructor
   ·exact fun h2=>absurd hx h2.1
   ·intro h2
    rw [List.nodup_append] at h2
    exact absurd rfl (h2.2.2 x hx x (by simp))
  ·have hn:(pre++[x]).Nodup:=by rw [List.nodup_append];exact ⟨h,by simp,fun a ha b hb e=>hx (by simp at hb;rw [← hb,← e];exact ha)⟩
   rw [noDup_iff r (pre++[x]) hn,List.append_assoc,List.singleton_append]
   exact ⟨fun h2=>h2.2,fun h2=>⟨hx,h2⟩⟩
theorem names_nil:namesS []=0:=by decide
def aggN (s:ByteArray):Int:=if bl s=[99,111,117,110,116] then 1 else if bl s=[115,117,109] then 2 else if bl s=[109,105,110] then 3 else if bl s=[109,97,120] then 4 else 0
def nameN (n:Int):ByteArray:=if n=1 then mkB [99,111,117,110,116] else if n=2 then mkB [115,117,109] else if n=3 then mkB [109,105,110] else if n=4 then mkB [109,97,120] else NoB
theorem nameN_nil (n:Int):bl (nameN n)=[]↔¬ (1≤n∧n≤4):=by
 unfold nameN
 by_cases h1:n=1
 ·rw [if_pos h1,bl_mkB];simp;omega
 rw [if_neg h1]
 by_cases h2:n=2
 ·rw [if_pos h2,bl_mkB];simp;omega
 rw [if_neg h2]
 by_cases h3:n=3
 ·rw [if_pos h3,bl_mkB];simp;omega
 rw [if_neg h3]
 by_cases h4:n=4
 ·rw [if_pos h4,bl_mkB];simp;omega
 rw [if_neg h4]
 exact ⟨fun _=>by omega,fun _=>rfl⟩
theorem agg_name (n:Int) (h1:1≤n) (h2:n≤4):aggN (nameN n)=n:=by
 have:n=1∨n=2∨n=3∨n=4:=by omega
 rcases this with rfl|rfl|rfl|rfl<;>decide
theorem agg_range (s:ByteArray):aggN s=0∨(1≤aggN s∧aggN s≤4∧nameN (aggN s)=s):=by
 unfold aggN
 by_cases h1:bl s=[99,111,117,110,116]
 ·rw [if_pos h1];exact .inr ⟨by decide,by decide,bl_inj (by rw [h1];rfl)⟩
 rw [if_neg h1]
 by_cases h2:bl s=[115,117,109]
 ·rw [if_pos h2];exact .inr ⟨by decide,by decide,bl_inj (by rw [h2];rfl)⟩
 rw [if_neg h2]
 by_cases h3:bl s=[109,105,110]
 ·rw [if_pos h3];exact .inr ⟨by decide,by decide,bl_inj (by rw [h3];rfl)⟩
 rw [if_neg h3]
 by_cases h4:bl s=[109,97,120]
 ·rw [if_pos h4];exact .inr ⟨by decide,by decide,bl_inj (by rw [h4];rfl)⟩
 rw [if_neg h4];exact .inl rfl
def rightQ (a:Int) (n:ByteArray) (m:List MT) (b:List ByteArray):Bool:=(decide (1≤a) && decide (a≤4)) && (nameL (bl n) && (rightM m && decide (namesS b=0)))
def greatQ (n:ByteArray) (m:List MT) (b:List ByteArray):Bool:=decide (200<n.size) || (greatM m || (decide (20<b.length) || b.any fun x=>decide (100<x.size)))
theorem not_greatQ {n:ByteArray} {m:List MT} {b:List ByteArray} (h:greatQ n m b=false):n.size≤200∧(m.length≤20∧∀ t∈m,t.2.1.size≤100∧t.2.2.1.size≤100)∧b.length≤20∧∀ x∈b,x.size≤100:=by
 unfold greatQ at h
 simp only [Bool.or_eq_false_iff,decide_eq_false_iff_not,List.any_eq_false] at h
 refine ⟨by omega,not_greatM h.2.1,by omega,fun x hx=>?_⟩
 have:=h.2.2.2 x hx
 simp only [decide_eq_true_eq] at this;omega
theorem mayM_parts {m:MT} (h:mayM m=true):nameL (bl m.2.1)=true∧((m.1=1∧valueL (bl m.2.2.1)=true)∨(m.1=2∧valueL (bl m.2.2.1)=true)∨(m.1=3∧(bl m.2.2.1=[]∨valueL (bl m.2.2.1)=true))∨(m.1=4∧bl m.2.2.1=[])):=by
 unfold mayM at h
 rw [Bool.and_eq_true] at h
 refine ⟨h.1,?_⟩
 have h2:=h.2
 by_cases c1:m.1=1
 ·rw [if_pos (.inl c1)] at h2;exact .inl ⟨c1,h2⟩
 by_cases c2:m.1=2
 ·rw [if_pos (.inr c2)] at h2;exact .inr (.inl ⟨c2,h2⟩)
 rw [if_neg (fun e=>e.elim c1 c2)] at h2
 by_cases c3:m.1=3
 ·rw [if_pos c3,Bool.or_eq_true,decide_eq_true_eq] at h2;exact .inr (.inr (.inl ⟨c3,h2⟩))
 rw [if_neg c3,Bool.and_eq_true,decide_eq_true_eq,decide_eq_true_eq] at h2
 exact .inr (.inr (.inr h2))
theorem mayM_len {m:MT} (h:mayM m=true):m.2.1.size≤12∧m.2.2.1.size≤12:=by
 obtain ⟨h1,h2⟩:=mayM_parts h
 have e1:=size_bl m.2.1
 have e2:=size_bl m.2.2.1
 have:=name_len _ h1
 refine ⟨by omega,?_⟩
 rcases h2 with ⟨_,h2⟩|⟨_,h2⟩|⟨_,h2|h2⟩|⟨_,h2⟩
 ·have:=value_len _ h2;omega
 ·have:=value_len _ h2;omega
 ·rw [h2] at e2;simp at e2;omega
 ·have:=value_len _ h2;omega
 ·rw [h2] at e2;simp at e2;omega
theorem rightM_parts {m:List MT} (h:rightM m=true):m.length≤4∧∀ t∈m,mayM t=true:=by
 unfold rightM at h
 rw [Bool.and_eq_true,decide_eq_true_eq,List.all_eq_true] at h;exact h
theorem rightM_fit {m:List MT} (h:rightM m=true):FitM m:=by
 obtain ⟨h1,h2⟩:=rightM_parts h
 exact ⟨by omega,fun t ht=>by have:=mayM_len (h2 t ht);omega⟩
theorem namesS_parts {b:List ByteArray} (h:namesS b=0):b.length≤4∧b.Nodup∧∀ x∈b,nameL (bl x)=true:=by
 unfold namesS at h
 by_cases h1:b.all nameB=true
 ·rw [if_pos h1] at h
  by_cases h2:4<b.length
  ·rw [if_pos h2] at h;cases h
  ·rw [if_neg h2] at h
   by_cases h3:b.Nodup
   ·exact ⟨by omega,h3,fun x hx=>(List.all_eq_true.1 h1) x hx⟩
   ·rw [if_neg h3] at h;cases h
 ·rw [if_neg h1] at h;cases h
theorem rightQ_parts {a:Int} {n:ByteArray} {m:List MT} {b:List ByteArray} (h:rightQ a n m b=true):(1≤a∧a≤4)∧nameL (bl n)=true∧rightM m=true∧namesS b=0:=by
 unfold rightQ at h
 simpa only [Bool.and_eq_true,decide_eq_true_eq] using h
theorem joinB_small (c:UInt8) (B:Nat) (l:List ByteArray) (h:∀ x∈l,x.size≤B) (hl:l.length≤4):(bl (joinB (mkB [c]) l)).length≤4 * (1+B):=by
 have:=joinB_len (mkB [c]) B l (fun x hx=>by rw [size_bl];exact h x hx)
 rw [bl_mkB] at this
 exact Nat.le_trans this (Nat.mul_le_mul hl (by simp))
theorem textM_small {m:List MT} (h:rightM m=true):(bl (textM m)).length≤120:=by
 obtain ⟨h1,h2⟩:=rightM_parts h
 have:=joinB_small 44 29 (m.map matchB) (fun x hx=>by
  obtain ⟨t,ht,rfl⟩:=List.mem_map.1 hx
  have h3:=mayM_len (h2 t ht)
  have e1:=size_bl t.2.1
  have e2:=size_bl t.2.2.1
  rw [← size_bl]
  unfold matchB
  split
  ·rw [bl_join2,bl_mkB];simp only [List.length_append,List.length_cons,List.length_nil];omega
  ·split
   ·rw [bl_join2,bl_mkB];simp only [List.length_append,List.length_cons,List.length_nil];omega
   ·split
    ·rw [bl_join2,bl_append,bl_mkB,bl_mkB];simp only [List.length_append,List.length_cons,List.length_nil];omega
    ·omega) (by rw [List.length_map];exact h1)
 unfold textM;omega
theorem by_small {b:List ByteArray} (h:namesS b=0):(bl (joinB (mkB [44]) b)).length≤52:=by
 obtain ⟨h1,_,h2⟩:=namesS_parts h
 exact joinB_small 44 12 b (fun x hx=>by have:=name_len _ (h2 x hx);have:=size_bl x;omega) h1
theorem nameN_small (a:Int):(bl (nameN a)).length≤5:=by
 unfold nameN
 split;· decide
 split;· decide
 split;· decide
 split;· decide
 decide
def serB (n:ByteArray) (m:List MT):ByteArray:=if m.length=0 then n else joinB (mkB []) [n,mkB [123],textM m,mkB [125]]
def wordsQ (a:Int) (n:ByteArray) (m:List MT) (b:List ByteArray):List ByteArray:=if b.length=0 then [nameN a,serB n m] else [nameN a,serB n m,mkB [98,121],joinB (mkB [44]) b]
def textQ (a:Int) (n:ByteArray) (m:List MT) (b:List ByteArray):ByteArray:=if rightQ a n m b=true then joinB (mkB [32]) (wordsQ a n m b) else NoB
theorem bl_ser (n:ByteArray) (m:List MT) (h:¬ m.length=0):bl (serB n m)=bl n++([123]++(bl (textM m)++[125])):=by
 unfold serB
 rw [if_neg h,joinB_cons]
 simp [tl_cons,Lib.joinTail,bl_mkB]
theorem ser_small {n:ByteArray} {m:List MT} (hn:nameL (bl n)=true) (h:rightM m=true):(bl (serB n m)).length≤140:=by
 have h1:=name_len _ hn
 have h2:=textM_small h
 by_cases h0:m.length=0
 ·unfold serB;rw [if_pos h0];omega
 ·rw [bl_ser n m h0];simp only [List.length_append,List.length_cons,List.length_nil];omega
theorem textQ_small (a:Int) (n:ByteArray) (m:List MT) (b:List ByteArray):(bl (textQ a n m b)).length≤600:=by
 unfold textQ
 by_cases h:rightQ a n m b=true
 ·rw [if_pos h]
  obtain ⟨_,hn,hm,hb⟩:=rightQ_parts h
  have h1:=nameN_small a
  have h2:=ser_small hn hm
  have h3:=by_small hb
  have:(wordsQ a n m b).length≤4∧∀ x∈wordsQ a n m b,x.size≤140:=by
   unfold wordsQ
   split
   ·refine ⟨by simp,fun x hx=>?_⟩
    simp only [List.mem_cons,List.not_mem_nil,or_false] at hx
    rw [← size_bl];rcases hx with rfl|rfl<;>omega
   ·refine ⟨by simp,fun x hx=>?_⟩
    simp only [List.mem_cons,List.not_mem_nil,or_false] at hx
    rw [← size_bl]
    rcases hx with rfl|rfl|rfl|rfl
    ·omega
    ·omega
    ·rw [bl_mkB];simp
    ·omega
  have:=joinB_small 32 140 (wordsQ a n m b) this.2 this.1
  omega
 ·rw [if_neg h];decide
abbrev RQ:=Int×Int×ByteArray×List MT×List ByteArray
abbrev QQ:=Int×ByteArray×List MT×List ByteArray×Int
def seriesQ (s:ByteArray):Int×ByteArray×List MT:=if (cutK s).2.2=true then (if nameL (bl (cutK s).1)=true then ((parseM (cutK s).2.1).2,(cutK s).1,(parseM (cutK s).2.1).1) else (2,NoB,[])) else (2,NoB,[])
def partsQ:Option ByteArray→List ByteArray
 | none=>[]
 | some x=>splitB 44 x
def bad2 (e:Int):RQ:=(e,0,NoB,[],[])
def rd1Q (x0 x1:ByteArray) (o:Option ByteArray):RQ:=if aggN x0=0 then bad2 2 else if (seriesQ x1).1=0 then (namesS (partsQ o),aggN x0,(seriesQ x1).2.1,(seriesQ x1).2.2,partsQ o) else bad2 (seriesQ x1).1
def rdQ:List ByteArray→RQ
 | [x0,x1]=>rd1Q x0 x1 none
 | [x0,x1,x2,x3]=>if bl x2=[98,121] then rd1Q x0 x1 (some x3) else bad2 2
 | _=>bad2 2
def finQ (r:RQ):QQ:=if r.1=0 then (r.2.1,r.2.2.1,r.2.2.2.1,r.2.2.2.2,0) else (0,NoB,[],[],r.1)
def parseQ (s:ByteArray):QQ:=finQ (rdQ (fieldsB s))
theorem splitB_join (c:UInt8) (x:ByteArray) (l:List ByteArray) (h:∀ y∈x ::l,c ∉ bl y):splitB c (joinB (mkB [c]) (x ::l))=x ::l:=by
 unfold splitB joinB
 rw [bl_mk (Lib.join ((x ::l).map bl) (bl (mkB [c]))),bl_mkB,List.map_cons,split_join]
 ·simp [mk_bl,Function.comp_def]
 ·intro y hy
  rcases List.mem_cons.1 hy with rfl|hy
  ·exact h x List.mem_cons_self
  ·obtain ⟨u,hu,rfl⟩:=List.mem_map.1 hy
   exact h u (List.mem_cons_of_mem _ hu)
theorem tl_no (c:UInt8) (sep:List UInt8) (hs:c ∉ sep):∀ l:List (List UInt8),(∀ y∈l,c ∉ y)→c ∉ tl sep l
 | [],_=>by simp [Lib.joinTail]
 | x ::l,h=>by
  rw [tl_cons]
  intro k
  rcases List.mem_append.1 k with k|k
  ·rcases List.mem_append.1 k with k|k
   ·exact hs k
   ·exact h x List.mem_cons_self k
  ·exact tl_no c sep hs l (fun y hy=>h y (List.mem_cons_of_mem _ hy)) k
theorem join_no (c:UInt8) (sep:ByteArray) (hs:c ∉ bl sep) (l:List ByteArray) (h:∀ y∈l,c ∉ bl y):c ∉ bl (joinB sep l):=by
 cases l with
 | nil=>rw [joinB_nil];intro k;cases k
 | cons x l =>
  rw [joinB_cons]
  intro k
  rcases List.mem_append.1 k with k|k
  ·exact h x List.mem_cons_self k
  ·refine tl_no c (bl sep) hs (l.map bl) (fun y hy=>?_) k
   obtain ⟨u,hu,rfl⟩:=List.mem_map.1 hy
   exact h u (List.mem_cons_of_mem _ hu)
theorem match_no {m:MT} (h:mayM m=true) (c:UInt8) (h1:inNameB c=false) (h2:inValB c=false) (h3:c≠33) (h4:c≠61) (h5:c≠42):c ∉ bl (matchB m):=by
 obtain ⟨hn,hv⟩:=mayM_parts h
 have hn':=name_no _ hn c h1
 have hv':c ∉ bl m.2.2.1:=by
  rcases hv with ⟨_,hv⟩|⟨_,hv⟩|⟨_,hv|hv⟩|⟨_,hv⟩
  ·exact value_no _ hv c h2
  ·exact value_no _ hv c h2
  ·rw [hv];intro k;cases k
  ·exact value_no _ hv c h2
  ·rw [hv];intro k;cases k
 unfold matchB
 split
 ·rw [bl_join2,bl_mkB];simp only [List.mem_append,List.mem_cons,List.not_mem_nil,or_false];rintro ((k|k)|k)
  ·exact hn' k
  ·exact h4 k
  ·exact hv' k
 ·split
  ·rw [bl_join2,bl_mkB];simp only [List.mem_append,List.mem_cons,List.not_mem_nil,or_false];rintro ((k|k|k)|k)
   ·exact hn' k
   ·exact h3 k
   ·exact h4 k
   ·exact hv' k
  ·split
   ·rw [bl_join2,bl_append,bl_mkB,bl_mkB];simp only [List.mem_append,List.mem_cons,List.not_mem_nil,or_false];rintro ((k|k)|k|k)
    ·exact hn' k
    ·exact h4 k
    ·exact hv' k
    ·exact h5 k
   ·exact hn'
theorem idx2_none:∀ l:List UInt8,(33:UInt8) ∉ l→Lib.index l [33,61] = -1
 | [],_=>rfl
 | b ::l,h=>by
  have hb:b≠33:=fun e=>h (by rw [e];simp)
  rw [Lib.index,if_neg (by simp only [List.isPrefixOf,Bool.and_eq_true,beq_iff_eq];exact fun e=>hb e.1.symm),idx2_none l (fun k=>h (List.mem_cons_of_mem _ k))];rfl
theorem idx2_app (y:List UInt8):∀ x:List UInt8,(33:UInt8) ∉ x→Lib.index (x++33 ::61 ::y) [33,61]=(x.length:Int)
 | [],_=>by rw [List.nil_append,Lib.index,if_pos (by simp [List.isPrefixOf])];rfl
 | b ::x,h=>by
  have hb:b≠33:=fun e=>h (by rw [e];simp)
  rw [List.cons_append,Lib.index,if_neg (by simp only [List.isPrefixOf,Bool.and_eq_true,beq_iff_eq];exact fun e=>hb e.1.symm),idx2_app y x (fun k=>h (List.mem_cons_of_mem _ k)),if_neg (by simp),List.length_cons]
  omega
theorem endC_no (c:UInt8) (l:List UInt8) (h:c ∉ l):endC c l=false:=by
 unfold endC
 rw [decide_eq_false_iff_not]
 exact fun e=>h (List.mem_of_getElem? e)
theorem part_match (m:MT) (h:mayM m=true):partM (matchB m)=m:=by
 obtain ⟨m0,m1,m2,⟨⟩⟩:=m
 obtain ⟨hn,hv⟩:=mayM_parts h
 simp only at hn hv
 have n33:=name_no _ hn 33 (by decide+kernel)
 have n61:=name_no _ hn 61 (by decide+kernel)
 have vno:∀ c,inValB c=false→valueL (bl m2)=true→c ∉ bl m2:=fun c hc hv=>value_no _ hv c hc
 rcases hv with ⟨rfl,hv⟩|⟨rfl,hv⟩|⟨rfl,hv⟩|⟨rfl,hv⟩
 ·have e:bl (matchB ((1,m1,m2,()):MT))=bl m1++61 ::bl m2:=by unfold matchB;rw [if_pos rfl,bl_join2,bl_mkB];simp
  have h33:neAt (matchB ((1,m1,m2,()):MT)) = -1:=idx2_none _ (by rw [e];intro k;rcases List.mem_append.1 k with k|k;exact n33 k;rcases List.mem_cons.1 k with k|k;exact absurd k (by decide);exact vno 33 (by decide+kernel) hv k)
  have hc:=cut_app 61 m1 m2 _ e n61
  unfold partM
  rw [h33,if_neg (by decide),hc,if_pos rfl,if_neg (by rw [endC_no 42 _ (vno 42 (by decide+kernel) hv)];simp)]
 ·have e:bl (matchB ((2,m1,m2,()):MT))=bl m1++33 ::61 ::bl m2:=by unfold matchB;rw [if_neg (show ¬ ((2:Int)=1) by decide),if_pos rfl,bl_join2,bl_mkB];simp
  have h33:neAt (matchB ((2,m1,m2,()):MT))=((bl m1).length:Int):=by unfold neAt;rw [e];exact idx2_app _ _ n33
  unfold partM
  rw [h33,if_pos (by omega),e,Int.toNat_natCast,List.take_left',List.drop_append,List.drop_of_length_le (by omega)]
  ·simp [mkB_bl]
  ·rfl
 ·have e:bl (matchB ((3,m1,m2,()):MT))=bl m1++61 ::bl (m2++mkB [42]):=by unfold matchB;rw [if_neg (show ¬ ((3:Int)=1) by decide),if_neg (show ¬ ((3:Int)=2) by decide),if_pos rfl,bl_join2,bl_mkB];simp
  have hno:∀ c,inValB c=false→c ∉ bl m2:=fun c hc=>by
   rcases hv with hv|hv
   ·rw [hv];intro k;cases k
   ·exact vno c hc hv
  have h33:neAt (matchB ((3,m1,m2,()):MT)) = -1:=idx2_none _ (by
   rw [e,bl_append,bl_mkB];intro k
   rcases List.mem_append.1 k with k|k
   ·exact n33 k
   rcases List.mem_cons.1 k with k|k
   ·exact absurd k (by decide)
   rcases List.mem_append.1 k with k|k
   ·exact hno 33 (by decide+kernel) k
   ·exact absurd k (by decide))
  have hc:=cut_app 61 m1 (m2++mkB [42]) _ e n61
  unfold partM
  rw [h33,if_neg (by decide),hc,if_pos rfl,bl_append,bl_mkB,if_pos (by unfold endC;simp),List.dropLast_concat,mkB_bl]
 ·have e:matchB ((4,m1,m2,()):MT)=m1:=by unfold matchB;rw [if_neg (show ¬ ((4:Int)=1) by decide),if_neg (show ¬ ((4:Int)=2) by decide),if_neg (show ¬ ((4:Int)=3) by decide)]
  have h33:neAt m1 = -1:=idx2_none _ n33
  have hc:(cutB 61 m1).2.2=false:=by
   have hm:=idx_mem (bl m1) 61
   unfold cutB
   rw [if_pos]
   by_cases h5:0≤Lib.indexByte (bl m1) 61
   ·exact absurd (hm.1 h5) n61
   ·omega
  rw [e]
  unfold partM
  rw [h33,if_neg (by decide),if_neg (by rw [hc];simp)]
  rw [show m2=NoB from bl_inj (by rw [hv];rfl)]
theorem go_map:∀ (l acc:List MT),(∀ t∈l,mayM t=true)→goM acc (l.map matchB)=if (acc++l).length>4 then ([],4) else (acc++l,0)
 | [],acc,_=>by rw [List.map_nil,goM,List.append_nil]
 | t ::l,acc,h=>by
  rw [List.map_cons,goM,part_match t (h t List.mem_cons_self),if_pos (h t List.mem_cons_self),go_map l (acc++[t]) (fun u hu=>h u (List.mem_cons_of_mem _ hu))]
  simp
theorem match_ne {t:MT} (h:mayM t=true):bl (matchB t)≠[]:=by
 have:=name_len _ (mayM_parts h).1
 have hne:bl t.2.1≠[]:=fun e=>by rw [e] at this;simp at this
 unfold matchB
 split
 ·rw [bl_join2];simp [hne]
 ·split
  ·rw [bl_join2];simp [hne]
  ·split
   ·rw [bl_join2];simp [hne]
   ·exact hne
theorem textM_ne {t:MT} {l:List MT} (h:mayM t=true):bl (textM (t ::l))≠[]:=by
 unfold textM
 rw [List.map_cons,joinB_cons];simp [match_ne h]
theorem parseM_text (l:List MT) (h:rightM l=true):parseM (textM l)=(l,0):=by
 obtain ⟨h1,h2⟩:=rightM_parts h
 cases l with
 | nil=>rfl
 | cons t r =>
  unfold parseM
  rw [if_neg (textM_ne (h2 t List.mem_cons_self))]
  have e:splitB 44 (textM (t ::r))=(t ::r).map matchB:=by
   unfold textM
   rw [List.map_cons]
   refine splitB_join 44 _ _ (fun y hy=>?_)
   rw [← List.map_cons] at hy
   obtain ⟨u,hu,rfl⟩:=List.mem_map.1 hy
   exact match_no (h2 u hu) 44 (by decide+kernel) (by decide+kernel) (by decide) (by decide) (by decide)
  rw [e,go_map _ _ h2,List.nil_append,if_neg (by omega)]
theorem cut_ser (n:ByteArray) (m:List MT) (hn:nameL (bl n)=true) (hm:rightM m=true):cutK (serB n m)=(n,textM m,true):=by
 have hno:=name_no _ hn 123 (by decide+kernel)
 by_cases h0:m.length=0
 ·obtain rfl:=List.length_eq_zero_iff.1 h0
  rw [show serB n []=n by simp [serB]]
  unfold cutK
  have e:cutB 123 n=(n,NoB,false):=by
   have hx:=idx_mem (bl n) 123
   unfold cutB
   rw [if_pos]
   by_cases h5:0≤Lib.indexByte (bl n) 123
   ·exact absurd (hx.1 h5) hno
   ·omega
  rw [e,if_neg (by simp)];rfl
 ·have e:cutB 123 (serB n m)=(n,mkB (bl (textM m)++[125]),true):=cut_app 123 _ _ _ (by rw [bl_ser n m h0,bl_mkB];simp) hno
  have hne:bl (textM m)≠[]:=by
   cases m with
   | nil=>simp at h0
   | cons t r=>exact textM_ne ((rightM_parts hm).2 t List.mem_cons_self)
  unfold cutK
  rw [e,if_pos rfl,bl_mkB,List.dropLast_concat,if_pos (by unfold endsL;simp),if_neg hne,mkB_bl]
theorem fields_join (x:ByteArray) (l:List ByteArray) (h:∀ y∈x ::l,(32:UInt8) ∉ bl y∧bl y≠[]):fieldsB (joinB (mkB [32]) (x ::l))=x ::l:=by
 unfold fieldsB
 rw [splitB_join 32 x l (fun y hy=>(h y hy).1)]
 exact List.filter_eq_self.2 (fun y hy=>decide_eq_true (h y hy).2)
theorem parse_textQ (a:Int) (n:ByteArray) (m:List MT) (b:List ByteArray) (h:rightQ a n m b=true):parseQ (textQ a n m b)=(a,n,m,b,0):=by
 obtain ⟨⟨ha1,ha4⟩,hn,hm,hb⟩:=rightQ_parts h
 have hbp:=namesS_parts hb
 have hmp:=rightM_parts hm
 have hagg:=agg_name a ha1 ha4
 have w0:(32:UInt8) ∉ bl (nameN a)∧bl (nameN a)≠[]:=by
  have:a=1∨a=2∨a=3∨a=4:=by omega
  rcases this with rfl|rfl|rfl|rfl<;>exact ⟨by decide,by decide⟩
 have n32:=name_no _ hn 32 (by decide+kernel)
 have nne:bl n≠[]:=fun e=>by have:=name_len _ hn;rw [e] at this;simp at this
 have w1:(32:UInt8) ∉ bl (serB n m)∧bl (serB n m)≠[]:=by
  by_cases h0:m.length=0
  ·unfold serB;rw [if_pos h0];exact ⟨n32,nne⟩
  ·rw [bl_ser n m h0]
   have ht:(32:UInt8) ∉ bl (textM m):=join_no 32 (mkB [44]) (by decide) _ (fun y hy=>by
    obtain ⟨u,hu,rfl⟩:=List.mem_map.1 hy
    exact match_no (hmp.2 u hu) 32 (by decide+kernel) (by decide+kernel) (by decide) (by decide) (by decide))
   refine ⟨fun k=>?_,by simp [nne]⟩
   simp only [List.mem_append,List.mem_cons,List.not_mem_nil,or_false] at k
   rcases k with k|k|k|k
   ·exact n32 k
   ·exact absurd k (by decide)
   ·exact ht k
   ·exact absurd k (by decide)
 have hser:seriesQ (serB n m)=(0,n,m):=by
  unfold seriesQ
  rw [cut_ser n m hn hm,if_pos rfl,if_pos hn,parseM_text m hm]
 unfold parseQ textQ
 rw [if_pos h]
 unfold wordsQ
 by_cases h0:b.length=0
 ·obtain rfl:=List.length_eq_zero_iff.1 h0
  rw [if_pos h0,fields_join _ _ (fun y hy=>by
   simp only [List.mem_cons,List.not_mem_nil,or_false] at hy
   rcases hy with rfl|rfl
   ·exact w0
   ·exact w1)]
  show finQ (rd1Q (nameN a) (serB n m) none)=_
  unfold rd1Q
  rw [hagg,hser,if_neg (by omega),if_pos rfl]
  unfold finQ
  rw [show partsQ none=[] from rfl,names_nil,if_pos rfl]
 ·rw [if_neg h0]
  obtain ⟨x,r,rfl⟩:∃ x r,b=x ::r:=by cases b with
   | nil=>simp at h0
   | cons x r=>exact ⟨x,r,rfl⟩
  have hj:(32:UInt8) ∉ bl (joinB (mkB [44]) (x ::r))∧bl (joinB (mkB [44]) (x ::r))≠[]:=by
   refine ⟨join_no 32 (mkB [44]) (by decide) _ (fun y hy=>name_no _ (hbp.2.2 y hy) 32 (by decide+kernel)),?_⟩
   have:=name_len _ (hbp.2.2 x List.mem_cons_self)
   rw [joinB_cons]
   intro e
   rw [(List.append_eq_nil_iff.1 e).1] at this;simp at this
  rw [fields_join _ _ (fun y hy=>by
   simp only [List.mem_cons,List.not_mem_nil,or_false] at hy
   rcases hy with rfl|rfl|rfl|rfl
   ·exact w0
   ·exact w1
   ·exact ⟨by decide,by decide⟩
   ·exact hj)]
  show finQ (if bl (mkB [98,121])=[98,121] then rd1Q (nameN a) (serB n m) (some (joinB (mkB [44]) (x ::r))) else bad2 2)=_
  rw [if_pos (bl_mkB [98,121])]
  have hsp:partsQ (some (joinB (mkB [44]) (x ::r)))=x ::r:=splitB_join 44 x r (fun y hy=>name_no _ (hbp.2.2 y hy) 44 (by decide+kernel))
  unfold rd1Q
  rw [hagg,hser,if_neg (by omega),if_pos rfl,hsp,hb]
  unfold finQ
  rw [if_pos rfl]
theorem go_out:∀ (ps:List ByteArray) (acc:List MT),(∀ t∈acc,mayM t=true)→(goM acc ps).2=0→rightM (goM acc ps).1=true
 | [],acc,h,h0=>by
  rw [goM] at h0 ⊢
  by_cases h4:acc.length>4
  ·rw [if_pos h4] at h0;exact absurd h0 (by decide)
  ·rw [if_neg h4]
   unfold rightM
   rw [Bool.and_eq_true,decide_eq_true_eq,List.all_eq_true]
   exact ⟨by show acc.length≤4;omega,h⟩
 | x ::r,acc,h,h0=>by
  rw [goM] at h0 ⊢
  by_cases hm:mayM (partM x)=true
  ·rw [if_pos hm] at h0 ⊢
   exact go_out r _ (fun t ht=>by
    rcases List.mem_append.1 ht with ht|ht
    ·exact h t ht
    ·simp only [List.mem_cons,List.not_mem_nil,or_false] at ht;rw [ht];exact hm) h0
  ·rw [if_neg hm] at h0;exact absurd h0 (by decide)
theorem parseM_out (s:ByteArray) (h:(parseM s).2=0):rightM (parseM s).1=true:=by
 unfold parseM at h ⊢
 by_cases h0:bl s=[]
 ·rw [if_pos h0];rfl
 ·rw [if_neg h0] at h ⊢;exact go_out _ _ (fun t ht=>by cases ht) h
theorem rd1_out (x0 x1:ByteArray) (o:Option ByteArray):(rd1Q x0 x1 o).1=0→rightQ (rd1Q x0 x1 o).2.1 (rd1Q x0 x1 o).2.2.1 (rd1Q x0 x1 o).2.2.2.1 (rd1Q x0 x1 o).2.2.2.2=true:=by
 unfold rd1Q
 by_cases ha:aggN x0=0
 ·rw [if_pos ha];exact fun h=>absurd h (by decide)
 ·rw [if_neg ha]
  have hr:=(agg_range x0).resolve_left ha
  by_cases hs:(seriesQ x1).1=0
  ·rw [if_pos hs]
   intro hn
   have hk:nameL (bl (seriesQ x1).2.1)=true∧rightM (seriesQ x1).2.2=true:=by
    unfold seriesQ at hs ⊢
    by_cases h1:(cutK x1).2.2=true
    ·rw [if_pos h1] at hs ⊢
     by_cases h2:nameL (bl (cutK x1).1)=true
     ·rw [if_pos h2] at hs ⊢;exact ⟨h2,parseM_out _ hs⟩
     ·rw [if_neg h2] at hs;exact absurd hs (by decide)
    ·rw [if_neg h1] at hs;exact absurd hs (by decide)
   unfold rightQ
   simp only [Bool.and_eq_true,decide_eq_true_eq]
   exact ⟨⟨hr.1,hr.2.1⟩,hk.1,hk.2,hn⟩
  ·rw [if_neg hs];exact fun h=>absurd h hs
theorem rd_out (l:List ByteArray):(rdQ l).1=0→rightQ (rdQ l).2.1 (rdQ l).2.2.1 (rdQ l).2.2.2.1 (rdQ l).2.2.2.2=true:=by
 match l with
 | [x0,x1]=>exact rd1_out x0 x1 none
 | [x0,x1,x2,x3] =>
  show (if bl x2=[98,121] then rd1Q x0 x1 (some x3) else bad2 2).1=0→rightQ (if bl x2=[98,121] then rd1Q x0 x1 (some x3) else bad2 2).2.1 _ _ _=true
  by_cases h:bl x2=[98,121]
  ·simp only [rdQ,if_pos h];exact rd1_out x0 x1 (some x3)
  ·simp only [rdQ,if_neg h];exact fun h=>absurd h (by decide)
 | []=>exact fun h=>absurd h (by decide)
 | [_]=>exact fun h=>absurd h (show ¬ ((2:Int)=0) by decide)
 | [_,_,_]=>exact fun h=>absurd h (show ¬ ((2:Int)=0) by decide)
 | _ ::_ ::_ ::_ ::_ ::_=>exact fun h=>absurd h (show ¬ ((2:Int)=0) by decide)
theorem parseQ_out (s:ByteArray):((parseQ s).2.2.2.2=0∧rightQ (parseQ s).1 (parseQ s).2.1 (parseQ s).2.2.1 (parseQ s).2.2.2.1=true)∨((parseQ s).2.2.2.2≠0∧(parseQ s).1=0∧(parseQ s).2.1=NoB∧(parseQ s).2.2.1=[]∧(parseQ s).2.2.2.1=[]):=by
 unfold parseQ finQ
 by_cases h:(rdQ (fieldsB s)).1=0
 ·rw [if_pos h];exact .inl ⟨rfl,rd_out _ h⟩
 ·rw [if_neg h];exact .inr ⟨h,rfl,rfl,rfl,rfl⟩
theorem rightQ_len {a:Int} {n:ByteArray} {m:List MT} {b:List ByteArray} (h:rightQ a n m b=true):m.length≤4∧b.length≤4:=by
 obtain ⟨_,_,hm,hb⟩:=rightQ_parts h
 exact ⟨(rightM_parts hm).1,(namesS_parts hb).1⟩
end Go.Proofs.YtdcphpbimeoioaaGreatDoorE
end
section
set_option linter.unusedSectionVars false
namespace Go.Proofs.YtdcphpbimeoioaaGreatDoorE
open Go Go.Proofs
set_option linter.unusedVariables false
set_option linter.unusedSimpArgs false
theorem eqbl (a b:ByteArray):decide (a=b)=decide (bl a=bl b):=by
 rw [decide_eq_decide];exact ⟨fun h=>by rw [h],bl_inj⟩
theorem u8i (c k:UInt8):((c.toNat:Int)=(k.toNat:Int))=(c=k):=propext (u8_int c k)
theorem place_le (l:List UInt8) (c:UInt8):placeK l c≤l.length:=by
 induction l with
 | nil=>simp [placeK,Lib.indexByte]
 | cons b l ih=>rw [place_cons];split<;>simp<;>omega
theorem place_get (c:UInt8):∀ (l:List UInt8) (h:placeK l c<l.length),l[placeK l c]=c
 | [],h=>absurd h (Nat.not_lt_zero _)
 | b ::l,h=>by
  have e:=place_cons b c l
  by_cases hb:b=c
  ·rw [if_pos hb] at e
   simp only [e,List.getElem_cons_zero];exact hb
  ·rw [if_neg hb] at e
   have h':placeK l c<l.length:=by rw [e] at h;simpa using h
   simp only [e,List.getElem_cons_succ]
   exact place_get c l h'
theorem r04_cut_l0 (n:Nat) (s:ByteArray) (hs:s.size≤1000000):∀ (d i g:Nat),i+d=s.size→d<g→r04_Cut_l0 n g (s,(i:Int),())=some (.inl (s,((i+placeK ((bl s).drop i) 123:Nat):Int),()))
 | 0,i,g,hd,hg=>by
  obtain ⟨g,rfl⟩:∃ g',g=g'+1:=⟨g - 1,by omega⟩
  have k:¬ (i:Int)<(s.size:Int):=by omega
  have hz:=size_bl s
  have e:placeK ((bl s).drop i) 123=0:=by rw [List.drop_of_length_le (by omega)];rfl
  rw [e]
  simp only [r04_Cut_l0,ilt_eq,ssize_eq,k,decide_false,cond_false];rfl
 | d+1,i,g,hd,hg=>by
  obtain ⟨g,rfl⟩:∃ g',g=g'+1:=⟨g - 1,by omega⟩
  have hz:=size_bl s
  have hi:i<(bl s).length:=by omega
  have k:(i:Int)<(s.size:Int):=by omega
  have k0:(0:Int)≤i:=by omega
  have u:(((bl s)[i].toNat:Int)=123)=((bl s)[i]=123):=u8i _ 123
  have ih:=r04_cut_l0 n s hs d (i+1) g (by omega) (by omega)
  rw [drop_cons (bl s) i hi,place_cons]
  simp only [r04_Cut_l0,ilt_eq,ile_eq,ieq_eq,ssize_eq,k,k0,decide_true,cond_true,sat_bl s i hi,u,iadd1 (i:=i) (by omega),bindL_id2,ih]
  by_cases q:(bl s)[i]=123
  ·simp [q]
  ·simp only [q,decide_false,Bool.not_false,cond_true,if_false]
   rw [show i+1+placeK ((bl s).drop (i+1)) 123=i+(placeK ((bl s).drop (i+1)) 123+1) by omega]
theorem r04_Cut_v {n:Nat} (hn:Big n) (s:ByteArray) (hs:s.size≤1000000):r04_Cut n (s,())=some (((cutK s).1,(cutK s).2.1,(cutK s).2.2,()),((),())):=by
 have h:=r04_cut_l0 n s hs s.size 0 n (by omega) (by unfold Big at hn;omega)
 have hz:=size_bl s
 have hle:=place_le (bl s) 123
 rw [show ((0:Nat):Int)=0 from rfl,List.drop_zero,Nat.zero_add] at h
 rw [← at_cut s]
 have hg:=place_get 123 (bl s)
 generalize placeK (bl s) 123=m at h hle hg
 unfold atK
 by_cases h1:m=s.size
 ·have h1':(m:Int)=s.size:=by omega
  simp only [r04_Cut,h,bindL_inl,ieq_eq,ssize_eq,h1',decide_true,cond_true,if_pos h1]
 ·have h1':¬ (m:Int)=s.size:=by omega
  have hm:m<s.size:=by omega
  have c2:isub .i64 (s.size:Int) 1=((s.size - 1:Nat):Int):=by rw [isub64 (by omega) (by omega)];omega
  have c3:(0:Int)≤((s.size - 1:Nat):Int):=by omega
  have c4:((s.size - 1:Nat):Int)<s.size:=by omega
  have hs1:=sat_bl s (s.size - 1) (by omega)
  have hL:((((bl s)[s.size - 1]'(by omega)).toNat:Int)=125)=(endsL (bl s)=true):=by
   rw [show (125:Int)=((125:UInt8).toNat:Int) from rfl,u8i,endsL_pos (bl s) (by omega)]
   congr 2
  simp only [r04_Cut,h,bindL_inl,ieq_eq,ile_eq,ilt_eq,ssize_eq,h1',decide_false,cond_false,if_neg h1,c2,c3,c4,decide_true,cond_true,hs1,hL]
  by_cases h2:endsL (bl s)=true
  ·have h3:m+1≠s.size:=fun e=>by
    have e1:=hg (by omega)
    have e2:=(endsL_pos (bl s) (by omega)).1 h2
    have e3:(bl s)[(bl s).length - 1]'(by omega)=(bl s)[m]'(by omega):=by first|(congr 1;done)|(congr 1;omega)
    rw [e3,e1] at e2
    exact absurd e2 (by decide)
   have c5:iadd .i64 (m:Int) 1=((m+1:Nat):Int):=by rw [iadd64 (by omega) (by omega)];rfl
   by_cases h4:m+2=s.size
   ·have h4':((m+1:Nat):Int)=((s.size - 1:Nat):Int):=by omega
    simp only [h2,decide_true,Bool.not_true,cond_false,c5,h4',cond_true,if_true,if_pos h4]
   ·have h4':¬ ((m+1:Nat):Int)=((s.size - 1:Nat):Int):=by omega
    have c6:(0:Int)≤(m:Int):=by omega
    have c7:(m:Int)≤s.size:=by omega
    have c8:(0:Int)≤((m+1:Nat):Int):=by omega
    have c9:((m+1:Nat):Int)≤((s.size - 1:Nat):Int):=by omega
    have c10:((s.size - 1:Nat):Int)≤s.size:=by omega
    simp only [h2,decide_true,Bool.not_true,cond_false,c5,h4',decide_false,cond_true,if_true,if_neg h4,Int.le_refl,c6,c7,c8,c9,c10,sext_eq,Int.toNat_natCast]
    rfl
  ·simp only [h2,decide_false,Bool.not_false,cond_true,if_neg h2]
   rfl
theorem r04_Parse_v {n:Nat} (hn:Big n) (s:ByteArray) (hs:s.size≤100000):r04_Parse n (s,())=some ((((parseK s).1,(parseK s).2.1,()),(parseK s).2.2,()),((),())):=by
 have hz:=cutK_size s
 have hC:=r04_Cut_v hn s (by omega)
 have hN:=r02_Name_v0 hn (cutK s).1
 have hP:=r03_Parse_v hn (cutK s).2.1 (by omega)
 unfold parseK
 simp only [r04_Parse,hC,bindN_s,hN,hP,ieq_eq]
 by_cases h1:(cutK s).2.2=true
 ·by_cases h2:nameL (bl (cutK s).1)=true
  ·by_cases h3:(parseT (cutK s).2.1).2=0
   ·simp [h1,h2,h3]
   ·simp [h1,h2,h3]
  ·simp [h1,h2]
 ·simp [h1]
theorem r04_Text_v {n:Nat} (hn:Big n) (k:El tKey) (h1:k.1.size≤1000000) (hf:Fit k.2.1):r04_Text n (k,())=some ((textK k.1 k.2.1,()),((),())):=by
 unfold textK
 by_cases h0:k.2.1.length=0
 ·have:(k.2.1.length:Int)=0:=by omega
  simp only [r04_Text,ilen,ieq_eq,this,decide_true,cond_true,if_pos h0]
 ·have k0:¬ (k.2.1.length:Int)=0:=by omega
  have hT:=r03_Text_v hn k.2.1 hf
  have hl:=fit_text hf
  rw [size_bl] at hl
  have z1:(⟨#[123]⟩:ByteArray).size=1:=rfl
  have z2:(⟨#[125]⟩:ByteArray).size=1:=rfl
  have f1:sfits k.1 (⟨#[123]⟩:ByteArray)=true:=sfits_of (by omega)
  have f2:sfits (k.1++(⟨#[123]⟩:ByteArray)) (textT k.2.1)=true:=sfits_of (by rw [ByteArray.size_append];omega)
  have f3:sfits (k.1++(⟨#[123]⟩:ByteArray)++textT k.2.1) (⟨#[125]⟩:ByteArray)=true:=sfits_of (by rw [ByteArray.size_append,ByteArray.size_append];omega)
  have hT':r03_Text n k.2=some ((textT k.2.1,()),((),())):=hT
  simp only [r04_Text,ilen,ieq_eq,k0,decide_false,cond_false,cond_true,if_neg h0,scat_eq,f1,hT',bindN_s,f2,f3]
  rfl
theorem r05_may_v {n:Nat} (hn:Big n) (m:MT):r05_may n (m,())=some ((mayM m,()),((),())):=by
 obtain ⟨a,b,c,⟨⟩⟩:=m
 have hN:=r02_Name_v0 hn b
 have hV:=r02_Value_v0 hn c
 unfold mayM
 simp only [r05_may,hN,hV,bindN_s,ieq_eq,seq_eq,eqbl,empty_bl]
 by_cases h0:nameL (bl b)=true
 ·by_cases h1:a=1
  ·subst h1;simp [h0]
  ·by_cases h2:a=2
   ·subst h2;simp [h0]
   ·by_cases h3:a=3
    ·subst h3
     by_cases h4:bl c=[]<;>simp [h0,h4]
    ·by_cases h4:a=4
     ·subst h4;simp [h0];congr
     ·simp [h0,h1,h2,h3,h4]
 ·simp [h0]
theorem r05_Right_v {n:Nat} (hn:Big n) (l:List MT) (hl:l.length≤1000000):r05_Right n (l,())=some ((rightM l,()),((),())):=by
 have hL:=any_loop' (a:=l) (fun t => !mayM t) (l,()) (false,()) (L:=fun g i=>r05_Right_l0 n g (l,i,())) (fun g=>by simp [r05_Right_l0]) (fun g i hi=>by
  have k:(i:Int)<(l.length:Int):=by omega
  have k1:(0:Int)≤i:=by omega
  simp only [r05_Right_l0,ilt_eq,ile_eq,ilen,k,k1,decide_true,cond_true,lat_eq,iN,Int.toNat_natCast,List.getElem?_eq_getElem hi,bindN_s,r05_may_v hn l[i],iadd1 (i:=i) (by omega),bindL_id1]) (g:=n) (by unfold Big at hn;omega)
 rw [all_any] at hL
 simp only [r05_Right,hL]
 unfold rightM
 cases l.all mayM with
 | false=>simp
 | true =>
  simp only [Bool.not_true,cond_false,bindL_inl,ile_eq,ilen,Bool.and_true]
  congr 3
  rw [decide_eq_decide];omega
theorem r07_names_l2v {n:Nat} (l:List ByteArray) (i:Nat) (hi:i<l.length) (hl:l.length≤1000000):∀ (d j g:Nat),j+d=i→d<g →
  r07_names_l2 n g (l,(i:Int),(j:Int),())=some (if hasB ((l.take i).drop j) l[i]=true then .inr (5,()) else .inl (l,(i:Int),()))
 | 0,j,g,hd,hg=>by
  obtain ⟨g,rfl⟩:∃ g',g=g'+1:=⟨g - 1,by omega⟩
  have k:¬ (j:Int)<(i:Int):=by omega
  rw [List.drop_of_length_le (by simp;omega)]
  simp [r07_names_l2,k,hasB]
 | d+1,j,g,hd,hg=>by
  obtain ⟨g,rfl⟩:∃ g',g=g'+1:=⟨g - 1,by omega⟩
  have hj:j<(l.take i).length:=by simp;omega
  have hjl:j<l.length:=by omega
  have k:(j:Int)<(i:Int):=by omega
  have k0:(0:Int)≤j:=by omega
  have k1:(0:Int)≤i:=by omega
  have ih:=r07_names_l2v (n:=n) l i hi hl d (j+1) g (by omega) (by omega)
  rw [drop_eq hj,List.getElem_take]
  simp only [r07_names_l2,ilt_eq,ile_eq,k,k0,k1,decide_true,cond_true,lat_eq,iN,Int.toNat_natCast,List.getElem?_eq_getElem hi,List.getElem?_eq_getElem hjl,bindN_s,seq_eq,iadd1 (i:=j) (by omega),bindL_id1,ih]
  by_cases q:l[j]=l[i]
  ·simp [q,hasB]
  ·have hc:hasB (l[j] ::(l.take i).drop (j+1)) l[i]=hasB ((l.take i).drop (j+1)) l[i]:=by unfold hasB;rw [List.any_cons,decide_eq_false q,Bool.false_or]
   simp only [hc,q,decide_false,cond_false]
theorem r07_names_l1v {n:Nat} (hn:Big n) (l:List ByteArray) (hl:l.length≤1000000):∀ (d i g:Nat),i+d=l.length→d<g →
  r07_names_l1 n g (l,(i:Int),())=some (if noDup (l.take i) (l.drop i)=true then .inl () else .inr (5,()))
 | 0,i,g,hd,hg=>by
  obtain ⟨g,rfl⟩:∃ g',g=g'+1:=⟨g - 1,by omega⟩
  have k:¬ (i:Int)<(l.length:Int):=by omega
  rw [List.drop_of_length_le (by omega)]
  simp [r07_names_l1,k,noDup]
 | d+1,i,g,hd,hg=>by
  obtain ⟨g,rfl⟩:∃ g',g=g'+1:=⟨g - 1,by omega⟩
  have hi:i<l.length:=by omega
  have k:(i:Int)<(l.length:Int):=by omega
  have h2:=r07_names_l2v (n:=n) l i hi hl i 0 n (by omega) (by unfold Big at hn;omega)
  rw [show ((0:Nat):Int)=0 from rfl,List.drop_zero] at h2
  have ih:=r07_names_l1v hn l hl d (i+1) g (by omega) (by omega)
  have e:l.take (i+1)=l.take i++[l[i]]:=by rw [List.take_add_one,List.getElem?_eq_getElem hi];rfl
  rw [drop_eq hi,noDup]
  simp only [r07_names_l1,ilt_eq,ilen,k,decide_true,cond_true,h2]
  cases hq:hasB (l.take i) l[i] with
  | true=>simp
  | false =>
   simp only [Bool.false_eq_true,if_false,bindL_inl,iadd1 (i:=i) (by omega),bindL_id,ih,e]
   simp
theorem r07_names_v {n:Nat} (hn:Big n) (l:List ByteArray) (hl:l.length≤1000000):r07_names n (l,())=some ((namesS l,()),((),())):=by
 have hL:=any_loop' (a:=l) (fun t => !nameB t) (l,()) ((2:Int),()) (L:=fun g i=>r07_names_l0 n g (l,i,())) (fun g=>by simp [r07_names_l0]) (fun g i hi=>by
  have k:(i:Int)<(l.length:Int):=by omega
  have k1:(0:Int)≤i:=by omega
  have hN:=r02_Name_v0 hn l[i]
  rw [show nameL (bl l[i])=nameB l[i] from rfl] at hN
  simp only [r07_names_l0,ilt_eq,ile_eq,ilen,k,k1,decide_true,cond_true,lat_eq,iN,Int.toNat_natCast,List.getElem?_eq_getElem hi,bindN_s,hN,iadd1 (i:=i) (by omega),bindL_id1]) (g:=n) (by unfold Big at hn;omega)
 rw [all_any] at hL
 have h1:=r07_names_l1v hn l hl l.length 0 n (by omega) (by unfold Big at hn;omega)
 rw [show ((0:Nat):Int)=0 from rfl,List.drop_zero,List.take_zero] at h1
 have hd:=noDup_iff l [] List.nodup_nil
 rw [List.nil_append] at hd
 simp only [r07_names,hL]
 unfold namesS
 cases hq:l.all nameB with
 | false=>simp
 | true =>
  simp only [Bool.not_true,cond_false,bindL_inl,ilt_eq,ilen,if_true]
  by_cases h4:4<l.length
  ·have h4':(4:Int)<(l.length:Int):=by omega
   simp [h4,h4']
  ·have h4':¬ (4:Int)<(l.length:Int):=by omega
   simp only [h4',decide_false,cond_false,if_neg h4,h1]
   by_cases h5:l.Nodup
   ·rw [if_pos (hd.2 h5),if_pos h5];simp
   ·rw [if_neg (fun h=>h5 (hd.1 h)),if_neg h5];simp
theorem r07_Right_v {n:Nat} (hn:Big n) (q:El tQuery) (hm:q.2.2.1.length≤1000000) (hb:q.2.2.2.1.length≤1000000):r07_Right n (q,())=some ((rightQ q.1 q.2.1 q.2.2.1 q.2.2.2.1,()),((),())):=by
 obtain ⟨a,nm,m,b,⟨⟩⟩:=q
 have hN:=r02_Name_v0 hn nm
 have hR:=r05_Right_v hn m hm
 have hS:=r07_names_v hn b hb
 simp only [r07_Right,hN,hR,hS,bindN_s,ile_eq,ieq_eq]
 unfold rightQ
 by_cases h1:(1:Int)≤a
 ·by_cases h2:a≤4
  ·cases nameL (bl nm) with
   | false=>simp [h1,h2]
   | true=>cases rightM m<;>simp [h1,h2]
  ·simp [h1,h2]
 ·simp [h1]
theorem big_loop {α:Type} {a:List α} (p:α→Bool) (c:Bool) {L:Nat→Int→Option (Unit ⊕ (Bool×Unit))} {n:Nat} (hn:Big n) (ha:a.length≤100000000) (hend:∀ g,L (g+1) (a.length:Int)=some (.inl ()))
  (hstep:∀ g i (h1:i<a.length),L (g+1) (i:Int)=bif p a[i] then some (.inr (c,())) else L g ((i+1:Nat):Int)):L n (0:Int)=some (bif a.any p then .inr (c,()) else .inl ()) :=
 any_loop p c hend hstep (by unfold Big at hn;omega)
theorem lt_nat (a b:Nat):decide ((a:Int)<(b:Int))=decide (a<b):=by rw [decide_eq_decide];omega
theorem r05_Great_v {n:Nat} (hn:Big n) (l:List MT):r05_Great n (l,())=some ((greatM l,()),((),())):=by
 unfold greatM
 by_cases h:20<l.length
 ·have h':(20:Int)<(l.length:Int):=by omega
  simp [r05_Great,h,h']
 ·have h':¬ (20:Int)<(l.length:Int):=by omega
  have hL:=big_loop (a:=l) bigM true (L:=fun g i=>r05_Great_l0 n g (l,i,())) hn (by omega) (fun g=>by simp [r05_Great_l0]) (fun g i hi=>by
   have k:(i:Int)<(l.length:Int):=by omega
   have k1:(0:Int)≤i:=by omega
   simp only [r05_Great_l0,ilt_eq,ile_eq,ssize_eq,ilen,k,k1,decide_true,cond_true,lat_eq,iN,Int.toNat_natCast,List.getElem?_eq_getElem hi,bindN_s,iadd1 (i:=i) (by omega),bindL_id,bigM]
   rw [show decide ((100:Int)<(l[i].2.1.size:Int))=decide (100<l[i].2.1.size) from lt_nat 100 _,show decide ((100:Int)<(l[i].2.2.1.size:Int))=decide (100<l[i].2.2.1.size) from lt_nat 100 _]
   cases decide (100<l[i].2.1.size)<;>cases decide (100<l[i].2.2.1.size)<;>rfl)
  simp only [r05_Great,ilt_eq,ilen,h',decide_false,cond_false,hL,h,Bool.false_or]
  cases l.any bigM<;>simp
theorem r03_Great_v {n:Nat} (hn:Big n) (l:List TG):r03_Great n (l,())=some ((greatT l,()),((),())):=by
 unfold greatT
 by_cases h:20<l.length
 ·have h':(20:Int)<(l.length:Int):=by omega
  simp [r03_Great,h,h']
 ·have h':¬ (20:Int)<(l.length:Int):=by omega
  have hL:=big_loop (a:=l) bigT true (L:=fun g i=>r03_Great_l0 n g (l,i,())) hn (by omega) (fun g=>by simp [r03_Great_l0]) (fun g i hi=>by
   have k:(i:Int)<(l.length:Int):=by omega
   have k1:(0:Int)≤i:=by omega
   simp only [r03_Great_l0,ilt_eq,ile_eq,ssize_eq,ilen,k,k1,decide_true,cond_true,lat_eq,iN,Int.toNat_natCast,List.getElem?_eq_getElem hi,bindN_s,iadd1 (i:=i) (by omega),bindL_id,bigT]
   rw [show decide ((100:Int)<(l[i].1.size:Int))=decide (100<l[i].1.size) from lt_nat 100 _,show decide ((100:Int)<(l[i].2.1.size:Int))=decide (100<l[i].2.1.size) from lt_nat 100 _]
   cases decide (100<l[i].1.size)<;>cases decide (100<l[i].2.1.size)<;>rfl)
  simp only [r03_Great,ilt_eq,ilen,h',decide_false,cond_false,hL,h,Bool.false_or]
  cases l.any bigT<;>simp
theorem r07_Great_v {n:Nat} (hn:Big n) (q:El tQuery):r07_Great n (q,())=some ((greatQ q.2.1 q.2.2.1 q.2.2.2.1,()),((),())):=by
 obtain ⟨a,nm,m,b,⟨⟩⟩:=q
 have hM:=r05_Great_v hn m
 unfold greatQ
 simp only [r07_Great,ilt_eq,ssize_eq,hM,bindN_s,ilen]
 rw [show decide ((200:Int)<(nm.size:Int))=decide (200<nm.size) from lt_nat 200 _,show decide ((20:Int)<(b.length:Int))=decide (20<b.length) from lt_nat 20 _]
 cases decide (200<nm.size) with
 | true=>simp
 | false =>
  cases greatM m with
  | true=>simp
  | false =>
   by_cases h:20<b.length
   ·simp [h]
   ·have hL:=big_loop (a:=b) (fun x=>decide (100<x.size)) true (L:=fun g i=>r07_Great_l0 n g ((a,nm,m,b,()),i,())) hn (by omega) (fun g=>by simp [r07_Great_l0]) (fun g i hi=>by
     have k:(i:Int)<(b.length:Int):=by omega
     have k1:(0:Int)≤i:=by omega
     simp only [r07_Great_l0,ilt_eq,ile_eq,ssize_eq,ilen,k,k1,decide_true,cond_true,lat_eq,iN,Int.toNat_natCast,List.getElem?_eq_getElem hi,bindN_s,iadd1 (i:=i) (by omega),bindL_id]
     rw [show decide ((100:Int)<(b[i].size:Int))=decide (100<b[i].size) from lt_nat 100 _])
    simp only [h,decide_false,cond_false,Bool.false_or,hL]
    cases b.any (fun x=>decide (100<x.size))<;>simp
end Go.Proofs.YtdcphpbimeoioaaGreatDoorE
end
section
set_option linter.unusedSectionVars false
namespace Go.Proofs.YtdcphpbimeoioaaGreatDoorE
open Go Go.Proofs
set_option linter.unusedVariables false
set_option linter.unusedSimpArgs false
def isDig (c:UInt8):Bool:=Nat.ble 48 c.toNat && Nat.ble c.toNat 57
theorem isDig_iff {c:UInt8}:isDig c=true↔48≤c.toNat∧c.toNat≤57:=by simp [isDig]
def dv (acc:Nat) (l:List UInt8):Nat:=l.foldl (fun a c=>a * 10+(c.toNat - 48)) acc
theorem dv_nil (acc:Nat):dv acc []=acc:=by unfold dv;exact List.foldl_nil
theorem dv_cons (acc:Nat) (c:UInt8) (r:List UInt8):dv acc (c ::r)=dv (acc * 10+(c.toNat - 48)) r:=by unfold dv;exact List.foldl_cons
theorem pu_nil (M acc:Nat):Lib.parseUintM M acc [] = .ok acc:=rfl
theorem pu_cons (M acc:Nat) (c:UInt8) (r:List UInt8) (h:48≤c.toNat∧c.toNat≤57):Lib.parseUintM M acc (c ::r)=(if 1844674407370955162≤acc then .range else if M<acc * 10+(c.toNat - 48) then .range else Lib.parseUintM M (acc * 10+(c.toNat - 48)) r):=if_pos h
theorem dv_le:∀ (l:List UInt8) (acc:Nat),acc≤dv acc l
 | [],acc=>by rw [dv_nil];exact Nat.le_refl _
 | c ::r,acc=>by
  have:=dv_le r (acc * 10+(c.toNat - 48))
  rw [dv_cons];omega
theorem uint_of {M:Nat} (hM:M≤18446744073709551615):∀ (l:List UInt8) (acc:Nat),l.all isDig=true→acc≤M→Lib.parseUintM M acc l=if dv acc l≤M then .ok (dv acc l) else .range
 | [],acc,_,h=>by rw [pu_nil,dv_nil,if_pos h]
 | c ::r,acc,hd,h=>by
  simp only [List.all_cons,Bool.and_eq_true] at hd
  have h1:=isDig_iff.1 hd.1
  have h2:=dv_le r (acc * 10+(c.toNat - 48))
  rw [pu_cons _ _ _ _ h1,dv_cons]
  by_cases h3:1844674407370955162≤acc
  ·rw [if_pos h3,if_neg (by omega)]
  rw [if_neg h3]
  by_cases h4:M<acc * 10+(c.toNat - 48)
  ·rw [if_pos h4,if_neg (by omega)]
  ·rw [if_neg h4]
   exact uint_of hM r _ hd.2 (by omega)
theorem int_pos {l:List UInt8} (hn:l≠[]) (hd:l.all isDig=true):Lib.parseIntB 64 l=if dv 0 l<9223372036854775808 then .ok (dv 0 l:Int) else .range:=by
 cases l with
 | nil=>exact absurd rfl hn
 | cons c r =>
  have h1:=isDig_iff.1 (by simp only [List.all_cons,Bool.and_eq_true] at hd;exact hd.1)
  have e:Lib.parseUintB 64 (c ::r)=if dv 0 (c ::r)≤18446744073709551615 then .ok (dv 0 (c ::r)) else .range:=by
   unfold Lib.parseUintB
   rw [if_neg (by simp)]
   exact uint_of (Nat.le_refl _) (c ::r) 0 hd (by omega)
  simp only [Lib.parseIntB,if_neg (show ¬(c.toNat=43∨c.toNat=45) by omega),e]
  generalize dv 0 (c ::r)=u
  by_cases h2:u≤18446744073709551615
  ·rw [if_pos h2]
   by_cases h3:u<9223372036854775808
   ·rw [if_pos h3]
    simp [show ¬ c.toNat=45 by omega,show ¬ 9223372036854775808≤u by omega]
   ·rw [if_neg h3]
    simp [show ¬ c.toNat=45 by omega,show 9223372036854775808≤u by omega]
  ·rw [if_neg h2,if_neg (by omega)]
theorem int_neg {r:List UInt8} (hn:r≠[]) (hd:r.all isDig=true):Lib.parseIntB 64 (45 ::r)=if dv 0 r≤9223372036854775808 then .ok (-(dv 0 r:Int)) else .range:=by
 have e:Lib.parseUintB 64 r=if dv 0 r≤18446744073709551615 then .ok (dv 0 r) else .range:=by
  unfold Lib.parseUintB
  rw [if_neg hn]
  exact uint_of (Nat.le_refl _) r 0 hd (by omega)
 have h45:(45:UInt8).toNat=45:=rfl
 simp only [Lib.parseIntB,h45,or_true,if_true,e]
 generalize dv 0 r=u
 by_cases h2:u≤18446744073709551615
 ·rw [if_pos h2]
  by_cases h3:u≤9223372036854775808
  ·rw [if_pos h3]
   simp [show ¬ 9223372036854775808<u by omega]
  ·rw [if_neg h3]
   simp [show 9223372036854775808<u by omega]
 ·rw [if_neg h2,if_neg (by omega)]
end Go.Proofs.YtdcphpbimeoioaaGreatDoorE
end
section
set_option linter.unusedSectionVars false
namespace Go.Proofs.YtdcphpbimeoioaaGreatDoorE
open Go Go.Proofs
set_option linter.unusedVariables false
set_option linter.unusedSimpArgs false
def I64 (i:Int):Prop := -9223372036854775808≤i∧i≤9223372036854775807
def numB (i:Int):ByteArray:=mkB (Lib.itoa i)
theorem irem10 (a:Nat):irem (-(a:Int)) 10 = -((a % 10:Nat):Int):=by
  unfold irem
  rw [Int.neg_tmod,Int.tmod_eq_emod_of_nonneg (by omega)];omega
theorem iquo10 (a:Nat) (h:a≤9223372036854775808):iquo .i64 (-(a:Int)) 10 = -((a / 10:Nat):Int):=by
  unfold iquo
  rw [Int.neg_tdiv,Int.tdiv_eq_ediv_of_nonneg (by omega),wrap64 (by omega) (by omega)];omega
theorem wrap8 {n:Int} (h1:0≤n) (h2:n≤255):IntKind.u8.wrap n=n:=by
  simp [IntKind.wrap,IntKind.bits,IntKind.signed];omega
theorem digB (a:Nat):ofBytes [iconv .u8 (iadd .i64 (48:Int) (isub .i64 (0:Int) (irem (-(a:Int)) (10:Int))))]=mkB [UInt8.ofNat (48+a % 10)]:=by
  rw [irem10,isub64 (by omega) (by omega),iadd64 (by omega) (by omega)]
  have e:iconv .u8 (48+(0 - -((a % 10:Nat):Int)))=((48+a % 10:Nat):Int):=by
    unfold iconv
    rw [wrap8 (by omega) (by omega)];omega
  rw [e];unfold ofBytes mkB
  rw [List.map_cons,List.map_nil,Int.toNat_natCast]
theorem dec_small {a:Nat} (h:a<10):Lib.decDigits a=[UInt8.ofNat (48+a % 10)]:=by rw [Lib.decDigits_one h,Nat.mod_eq_of_lt h]
theorem dec_big {a:Nat} (h:¬ a<10):Lib.decDigits a=Lib.decDigits (a / 10)++[UInt8.ofNat (48+a % 10)]:=by rw [Lib.decDigits,dif_neg h]
theorem ten0:decide ((10:Int)=0)=false:=rfl
theorem num_loop (n:Nat) (i:Int):∀ (k a g:Nat) (s:List UInt8),a<10 ^ (k+1)→a≤9223372036854775808→s.length+k≤1000→k<g →
    r01_Number_l0 n g (i, -(a:Int),mkB s,())=some (.inl (i,mkB (Lib.decDigits a++s),()))
  | k,a,0,s,_,_,_,h=>absurd h (by omega)
  | k,a,g+1,s,h1,h2,h3,h4=>by
    have hf:sfits (mkB [UInt8.ofNat (48+a % 10)]) (mkB s)=true:=sfits_of (by rw [size_mkB,size_mkB];simp;omega)
    have hc:mkB [UInt8.ofNat (48+a % 10)]++mkB s=mkB (UInt8.ofNat (48+a % 10) ::s):=bl_inj (by rw [bl_append];rfl)
    simp only [r01_Number_l0,digB,iquo10 a h2,hf,cond_true,cond_false,ieq_eq,ten0,scat_eq,hc]
    by_cases h:a<10
    · have e0:a / 10=0:=by omega
      rw [dec_small h,e0]
      simp
    · have e0:¬ (-((a / 10:Nat):Int))=0:=by omega
      cases k with
      | zero=>exact absurd h1 (by simpa using h)
      | succ k =>
        have ih:=num_loop n i k (a / 10) g (UInt8.ofNat (48+a % 10) ::s) (by rw [Nat.pow_succ] at h1;omega) (by omega) (by simp;omega) (by omega)
        simp only [e0,decide_false,cond_false,ih,bindL_inl]
        rw [dec_big h,List.append_assoc];simp
theorem p19:(10:Nat) ^ (18+1)=10000000000000000000:=by decide
theorem r01_Number_v {n:Nat} (hn:Big n) (i:Int) (hi:I64 i):r01_Number n (i,())=some ((numB i,()),((),())):=by
  obtain ⟨h1,h2⟩:=hi
  have h0:r01_Number_l0 n n (i, -(i.natAbs:Int),(⟨#[]⟩:ByteArray),())=some (.inl (i,mkB (Lib.decDigits i.natAbs++[]),())) :=
    num_loop n i 18 i.natAbs n [] (by rw [p19];omega) (by omega) (by simp) (by unfold Big at hn;omega)
  rw [List.append_nil] at h0
  unfold numB Lib.itoa
  by_cases h:0<i
  · have e:isub .i64 0 i = -((i.natAbs:Nat):Int):=by rw [isub64 (by omega) (by omega)];omega
    have h':¬ i<0:=by omega
    have e2:i.toNat=i.natAbs:=by omega
    simp only [r01_Number,ilt_eq,h,decide_true,cond_true,e,h0,bindL_inl,h',decide_false,cond_false,if_neg h',e2]
    simp
  · have e : -((i.natAbs:Nat):Int)=i:=by omega
    rw [e] at h0
    simp only [r01_Number,ilt_eq,h,decide_false,cond_false,h0,bindL_inl]
    by_cases h':i<0
    · have hf:sfits (⟨#[45]⟩:ByteArray) (mkB (Lib.decDigits i.natAbs))=true:=sfits_of (by
        rw [size_mkB,Lib.decDigits_length]
        have:=Lib.nDigits_le20 i.natAbs (by omega)
        show 1+_≤_
        omega)
      simp only [h',decide_true,cond_true,hf,if_pos,scat_eq]
      congr 3
    · have e2:i.toNat=i.natAbs:=by omega
      simp only [h',decide_false,cond_false,if_neg h',e2]
      simp
def bareL:List UInt8→List UInt8
  | []=>[]
  | c ::r=>if c=45 then r else c ::r
def digsL (l:List UInt8):Bool := !decide (l=[]) && (!(decide (l.headD 0=48) && !decide (l=[48])) && l.all isDig)
def readL (l:List UInt8):Int×Int:=if (digsL (bareL l) && !decide (l=[45,48]))=true then (match Lib.parseIntB 64 l with|.ok v=>(v,0)|_=>(0,3)) else (0,2)
theorem quo10 (x:Int) (h0:0≤x) (h1:x≤9):iquo .i64 (-9223372036854775808+x) 10 = -((9223372036854775808 - x) / 10):=by
  unfold iquo
  rw [show (-9223372036854775808+x:Int) = -(9223372036854775808 - x) by omega,Int.neg_tdiv,Int.tdiv_eq_ediv_of_nonneg (by omega)]
  exact wrap64 (by omega) (by omega)
theorem dig_of {c:UInt8} (h:isDig c=true):iconv .i64 (isub .u8 (c.toNat:Int) 48)=((c.toNat - 48:Nat):Int):=by
  obtain ⟨h1,h2⟩:=isDig_iff.1 h
  unfold iconv isub
  rw [wrap8 (by omega) (by omega),wrap64 (by omega) (by omega)];omega
theorem read_l0 {n:Nat} (hn:Big n) (s d:ByteArray) (hd:d.size≤100000):r01_Read_l0 n n (s,d,0,())=some (bif (bl d).any (fun c => !isDig c) then .inr (0,2,()) else .inl (s,d,())):=by
  have hz:=size_bl d
  refine any_loop' (a:=bl d) (fun c => !isDig c) (s,d,()) ((0:Int),(2:Int),()) (L:=fun g i=>r01_Read_l0 n g (s,d,i,())) (fun g=>?_) (fun g i hi=>?_) (g:=n) (by unfold Big at hn;omega)
  · have:¬ ((bl d).length:Int)<d.size:=by omega
    simp only [r01_Read_l0,ilt_eq,ssize_eq,this,decide_false,cond_false]
  · have k1:(i:Int)<d.size:=by omega
    have k2:(0:Int)≤i:=by omega
    simp only [r01_Read_l0,ilt_eq,ile_eq,ssize_eq,k1,k2,decide_true,cond_true,sat_bl d i hi,iadd1 (i:=i) (by omega),bindL_id1]
    by_cases q1:(bl d)[i].toNat<48
    · have q1':((bl d)[i].toNat:Int)<48:=by omega
      have:isDig (bl d)[i]=false:=by rw [Bool.eq_false_iff];intro h;have:=isDig_iff.1 h;omega
      simp [q1',this]
    · have q1':¬ ((bl d)[i].toNat:Int)<48:=by omega
      by_cases q2:57<(bl d)[i].toNat
      · have q2':(57:Int)<((bl d)[i].toNat:Int):=by omega
        have:isDig (bl d)[i]=false:=by rw [Bool.eq_false_iff];intro h;have:=isDig_iff.1 h;omega
        simp [q1',q2',this]
      · have q2':¬ (57:Int)<((bl d)[i].toNat:Int):=by omega
        have:isDig (bl d)[i]=true:=isDig_iff.2 (by omega)
        simp [q1',q2',this]
theorem read_l1 {n:Nat} (s d:ByteArray) (hd:d.size≤100000) (ha:(bl d).all isDig=true):∀ (k i g acc:Nat),i+k=(bl d).length→k<g→acc≤9223372036854775808 →
    r01_Read_l1 n g (s,d, -(acc:Int),(i:Int),())=some (if dv acc ((bl d).drop i)≤9223372036854775808 then .inl (s,d, -((dv acc ((bl d).drop i):Nat):Int),()) else .inr (0,3,()))
  | k,i,0,acc,_,h,_=>absurd h (by omega)
  | 0,i,g+1,acc,hk,_,hacc=>by
    have hz:=size_bl d
    have:¬ (i:Int)<d.size:=by omega
    have e:(bl d).drop i=[]:=List.drop_of_length_le (by omega)
    simp only [r01_Read_l1,ilt_eq,ssize_eq,this,decide_false,cond_false,e,dv_nil,if_pos hacc]
  | k+1,i,g+1,acc,hk,hg,hacc=>by
    have hz:=size_bl d
    have hi:i<(bl d).length:=by omega
    have k1:(i:Int)<d.size:=by omega
    have k2:(0:Int)≤i:=by omega
    have hc:isDig (bl d)[i]=true:=List.all_eq_true.1 ha _ (List.getElem_mem hi)
    have hc':=isDig_iff.1 hc
    have ih:=read_l1 (n:=n) s d hd ha k (i+1) g (acc * 10+((bl d)[i].toNat - 48)) (by omega) (by omega)
    have e1:iadd .i64 (-9223372036854775808:Int) (((bl d)[i].toNat - 48:Nat):Int) = -9223372036854775808+(((bl d)[i].toNat - 48:Nat):Int):=iadd64 (by omega) (by omega)
    have hle:=dv_le ((bl d).drop (i+1)) (acc * 10+((bl d)[i].toNat - 48))
    simp only [r01_Read_l1,ilt_eq,ile_eq,ieq_eq,ssize_eq,k1,k2,ten0,decide_true,cond_true,cond_false,sat_bl d i hi,dig_of hc,e1,quo10 _ (show (0:Int)≤(((bl d)[i].toNat - 48:Nat):Int) by omega) (by omega),iadd1 (i:=i) (by omega),bindL_id1,drop_eq hi,dv_cons]
    generalize hx:(bl d)[i].toNat - 48=x at *
    by_cases q:acc * 10+x≤9223372036854775808
    · have q':¬ (-(acc:Int)) < -((9223372036854775808 - (x:Int)) / 10):=by omega
      have e2:isub .i64 (imul .i64 (10:Int) (-(acc:Int))) (x:Int) = -((acc * 10+x:Nat):Int):=by
        unfold imul
        rw [wrap64 (by omega) (by omega),isub64 (by omega) (by omega)];omega
      simp only [q',decide_false,cond_false,e2,ih q]
    · have q':(-(acc:Int)) < -((9223372036854775808 - (x:Int)) / 10):=by omega
      simp only [q',decide_true,cond_true]
      rw [if_neg (by omega)]
def restL (neg:Bool) (d:List UInt8):Int×Int :=
  if d.all isDig=true then (if dv 0 d≤9223372036854775808 then (if neg=true then (-((dv 0 d:Nat):Int),0) else if dv 0 d=9223372036854775808 then (0,3) else (((dv 0 d:Nat):Int),0)) else (0,3)) else (0,2)
def restF (n:Nat) (s d:ByteArray):Option (RtEl r01_Read_rs×OutEl r01_Read_sg) :=
  bindL (r01_Read_l0 n n (s,d,(0:Int),())) (fun a1 =>
   bindL (r01_Read_l1 n n (a1.1,a1.2.1,(0:Int),(0:Int),())) (fun a3 =>
    bif ilt (ssize a3.2.1) (ssize a3.1) then
     some ((a3.2.2.1,(0:Int),()),((),()))
    else
    bif ieq a3.2.2.1 (-9223372036854775808:Int) then
     some (((0:Int),(3:Int),()),((),()))
    else
    some ((isub .i64 (0:Int) a3.2.2.1,(0:Int),()),((),()))) fun b4 =>
   some (b4,((),()))) fun b2 =>
  some (b2,((),()))
theorem restF_v {n:Nat} (hn:Big n) (s d:ByteArray) (hd:d.size≤100000):restF n s d=some (((restL (decide (d.size<s.size)) (bl d)).1,(restL (decide (d.size<s.size)) (bl d)).2,()),((),())):=by
  unfold restF
  rw [read_l0 hn s d hd,all_any]
  cases hall:(bl d).all isDig with
  | false=>simp [restL,hall]
  | true =>
    have hz:=size_bl d
    have h1:r01_Read_l1 n n (s,d,(0:Int),(0:Int),())=some (if dv 0 (bl d)≤9223372036854775808 then .inl (s,d, -((dv 0 (bl d):Nat):Int),()) else .inr (0,3,())):=by
      have:=read_l1 (n:=n) s d hd hall (bl d).length 0 n 0 (by omega) (by unfold Big at hn;omega) (by omega)
      rw [List.drop_zero] at this
      exact this
    simp only [Bool.not_true,cond_false,bindL_inl,h1]
    generalize hv:dv 0 (bl d)=v
    by_cases q:v≤9223372036854775808
    · simp only [if_pos q,bindL_inl,ilt_eq,ieq_eq,ssize_eq,restL,hall,hv,if_true]
      by_cases q2:d.size<s.size
      · have q2':(d.size:Int)<s.size:=by omega
        simp [q2,q2']
      · have q2':¬ (d.size:Int)<s.size:=by omega
        by_cases q3:v=9223372036854775808
        · have q3' : -(v:Int) = -9223372036854775808:=by omega
          simp [q2,q2',q3]
        · have q3':¬ -(v:Int) = -9223372036854775808:=by omega
          have e:isub .i64 (0:Int) (-(v:Int))=(v:Int):=by rw [isub64 (by omega) (by omega)];omega
          simp only [q2,q2',q3,q3',decide_false,cond_false,e,Bool.false_eq_true,if_false]
    · simp [q,restL,hall,hv]
theorem rest_pos {l:List UInt8} (hn:l≠[]) (hd:l.all isDig=true):(match Lib.parseIntB 64 l with|.ok v=>((v,0):Int×Int)|_=>(0,3))=restL false l:=by
  rw [int_pos hn hd]
  unfold restL
  rw [if_pos hd]
  by_cases h1:dv 0 l<9223372036854775808
  · rw [if_pos h1,if_pos (by omega),if_neg (by simp),if_neg (by omega)]
  · rw [if_neg h1]
    by_cases h2:dv 0 l≤9223372036854775808
    · rw [if_pos h2,if_neg (by simp),if_pos (by omega)]
    · rw [if_neg h2]
theorem rest_neg {l:List UInt8} (hn:l≠[]) (hd:l.all isDig=true):(match Lib.parseIntB 64 (45 ::l) with|.ok v=>((v,0):Int×Int)|_=>(0,3))=restL true l:=by
  rw [int_neg hn hd]
  unfold restL
  rw [if_pos hd]
  by_cases h1:dv 0 l≤9223372036854775808
  · rw [if_pos h1,if_pos h1,if_pos rfl]
  · rw [if_neg h1,if_neg h1]
theorem rest_no (b:Bool) {l:List UInt8} (hd:l.all isDig=false):restL b l=(0,2):=by unfold restL;rw [if_neg (by rw [hd];simp)]
theorem read_one (c:UInt8):readL [c]=restL false [c]:=by
  by_cases h:c=45
  · subst h;rfl
  · cases hd:isDig c with
    | false =>
      rw [rest_no false (by simp [hd])]
      unfold readL digsL bareL
      rw [if_neg (by simp [h,hd])]
    | true =>
      rw [← rest_pos (l:=[c]) (by simp) (by simp [hd])]
      unfold readL digsL bareL
      rw [if_pos (by simp [h,hd])]
theorem read_neg (d:UInt8) (r:List UInt8):readL (45 ::d ::r)=if d=48 then (0,2) else restL true (d ::r):=by
  have e:bareL (45 ::d ::r)=d ::r:=by simp [bareL]
  by_cases h:d=48
  · rw [if_pos h]
    subst h
    unfold readL
    rw [e]
    cases r with
    | nil=>rfl
    | cons x r=>rw [if_neg (by simp [digsL])]
  · rw [if_neg h]
    cases hd:(d ::r).all isDig with
    | false =>
      rw [rest_no true hd]
      unfold readL
      rw [e,if_neg (by unfold digsL;rw [hd];simp)]
    | true =>
      rw [← rest_neg (l:=d ::r) (by simp) hd]
      unfold readL
      rw [e,if_pos (by unfold digsL;rw [hd];simp [h])]
theorem read_pos {c:UInt8} (h:c≠45) (d:UInt8) (r:List UInt8):readL (c ::d ::r)=if c=48 then (0,2) else restL false (c ::d ::r):=by
  have e:bareL (c ::d ::r)=c ::d ::r:=by simp [bareL,h]
  by_cases h0:c=48
  · rw [if_pos h0]
    subst h0
    unfold readL
    rw [e,if_neg (by simp [digsL])]
  · rw [if_neg h0]
    cases hd:(c ::d ::r).all isDig with
    | false =>
      rw [rest_no false hd]
      unfold readL
      rw [e,if_neg (by unfold digsL;rw [hd];simp)]
    | true =>
      rw [← rest_pos (l:=c ::d ::r) (by simp) hd]
      unfold readL
      rw [e,if_pos (by unfold digsL;rw [hd];simp [h,h0])]
theorem u8n (c:UInt8) (k:UInt8):((c.toNat:Int)=(k.toNat:Int))=(c=k):=propext (u8_int c k)
theorem r01_Read_v {n:Nat} (hn:Big n) (s:ByteArray) (hs:s.size≤100000):r01_Read n (s,())=some (((readL (bl s)).1,(readL (bl s)).2,()),((),())):=by
  have hz:=size_bl s
  have u45:∀ c:UInt8,((c.toNat:Int)=45)=(c=45):=fun c=>u8n c 45
  have u48:∀ c:UInt8,((c.toNat:Int)=48)=(c=48):=fun c=>u8n c 48
  have z:(0:Int)≤0:=Int.le_refl 0
  have z1:(0:Int)≤1:=by decide
  have F:=restF_v hn s s hs
  have d0:decide (s.size<s.size)=false:=decide_eq_false (Nat.lt_irrefl _)
  rw [d0] at F
  unfold restF at F
  simp only [ilt_eq,ieq_eq,ssize_eq] at F
  cases hl:bl s with
  | nil =>
    rw [hl] at hz
    have c1:¬ (1:Int)<s.size:=by simp at hz;omega
    have c2:(s.size:Int)=0:=by simp at hz;omega
    simp only [r01_Read,ilt_eq,ieq_eq,ssize_eq,c1,c2,decide_true,decide_false,cond_true,cond_false]
    rfl
  | cons c t =>
    have hs0:=sat_0 s (by rw [hl];simp)
    rw [hl] at hs0 hz F
    simp only [List.headD_cons] at hs0
    cases t with
    | nil =>
      have c1:¬ (1:Int)<s.size:=by simp at hz;omega
      have c2:¬ (s.size:Int)=0:=by simp at hz;omega
      have c3:(0:Int)<s.size:=by simp at hz;omega
      simp only [r01_Read,ilt_eq,ieq_eq,ile_eq,ssize_eq,c1,c2,c3,z,hs0,u48,decide_true,decide_false,cond_true,cond_false,Bool.cond_self]
      rw [read_one]
      exact F
    | cons d r =>
      have c1:(1:Int)<s.size:=by simp at hz;omega
      have c2:¬ (s.size:Int)=0:=by simp at hz;omega
      have c3:(0:Int)<s.size:=by simp at hz;omega
      have c4:(1:Int)≤s.size:=by simp at hz;omega
      by_cases h45:c=45
      · subst h45
        have e:sext s 1 (s.size:Int)=mkB (d ::r):=by
          rw [sext_eq]
          have:=ext_drop s 1
          rw [hl] at this
          exact this
        have ez:(mkB (d ::r)).size=r.length+1:=by rw [size_mkB];rfl
        have c5:¬ ((mkB (d ::r)).size:Int)=0:=by omega
        have c6:(0:Int)<(mkB (d ::r)).size:=by omega
        have hs1:sat (mkB (d ::r)) 0=(d.toNat:Int):=by
          have:=sat_0 (mkB (d ::r)) (by rw [bl_mkB];simp)
          rw [bl_mkB] at this;exact this
        have F2:=restF_v hn s (mkB (d ::r)) (by rw [ez];simp at hz;omega)
        rw [decide_eq_true (show (mkB (d ::r)).size<s.size by rw [ez];simp at hz;omega),bl_mkB] at F2
        unfold restF at F2
        simp only [ilt_eq,ieq_eq,ssize_eq] at F2
        simp only [r01_Read,ilt_eq,ieq_eq,ile_eq,ssize_eq,c1,c3,c4,z,z1,hs0,u45,u48,e,c5,c6,hs1,Int.le_refl,decide_true,decide_false,cond_true,cond_false]
        rw [read_neg]
        by_cases h48:d=48
        · simp only [h48,decide_true,cond_true,if_true]
        · simp only [h48,decide_false,cond_false,if_false]
          exact F2
      · simp only [r01_Read,ilt_eq,ieq_eq,ile_eq,ssize_eq,c1,c2,c3,z,hs0,u45,u48,h45,decide_true,decide_false,cond_true,cond_false]
        rw [read_pos h45]
        by_cases h48:c=48
        · simp only [h48,decide_true,cond_true,if_true]
        · simp only [h48,decide_false,cond_false,if_false]
          exact F
end Go.Proofs.YtdcphpbimeoioaaGreatDoorE
end
section
set_option linter.unusedSectionVars false
namespace Go.Proofs.YtdcphpbimeoioaaGreatDoorE
open Go Go.Proofs
set_option linter.unusedVariables false
set_option linter.unusedSimpArgs false
theorem ofNat_nat {k:Nat} (h:k<256):(UInt8.ofNat k).toNat=k:=by simp [Nat.mod_eq_of_lt h]
theorem dec_digs (a:Nat):(Lib.decDigits a).all isDig=true:=by
 induction a using Nat.strongRecOn with
 | _ a ih =>
  have hd:isDig (UInt8.ofNat (48+a % 10))=true:=isDig_iff.2 (by rw [ofNat_nat (by omega)];omega)
  by_cases h:a<10
  ·rw [dec_small h];simp only [List.all_cons,List.all_nil,hd,Bool.and_self]
  ·rw [dec_big h,List.all_append,ih (a / 10) (by omega)];simp only [List.all_cons,List.all_nil,hd,Bool.and_self]
theorem dv_append:∀ (l:List UInt8) (acc:Nat) (c:UInt8),dv acc (l++[c])=dv acc l * 10+(c.toNat - 48)
 | [],acc,c=>by rw [List.nil_append,dv_cons,dv_nil,dv_nil]
 | d ::l,acc,c=>by rw [List.cons_append,dv_cons,dv_append l,dv_cons]
theorem dv_dec (a:Nat):dv 0 (Lib.decDigits a)=a:=by
 induction a using Nat.strongRecOn with
 | _ a ih =>
  by_cases h:a<10
  ·rw [dec_small h]
   simp only [dv_cons,dv_nil,ofNat_nat (show 48+a % 10<256 by omega)];omega
  ·rw [dec_big h,dv_append,ih (a / 10) (by omega),ofNat_nat (show 48+a % 10<256 by omega)];omega
theorem dec_ne (a:Nat):Lib.decDigits a≠[]:=by
 by_cases h:a<10
 ·rw [dec_small h];simp
 ·rw [dec_big h];simp
theorem dec_head (a:Nat):1≤a→(Lib.decDigits a).headD 0≠48:=by
 induction a using Nat.strongRecOn with
 | _ a ih =>
  intro ha
  by_cases h:a<10
  ·rw [dec_small h]
   intro e
   have:=congrArg UInt8.toNat e
   rw [List.headD_cons,ofNat_nat (show 48+a % 10<256 by omega)] at this
   have h48:(48:UInt8).toNat=48:=rfl
   omega
  ·rw [dec_big h]
   have:=ih (a / 10) (by omega) (by omega)
   cases hd:Lib.decDigits (a / 10) with
   | nil=>exact absurd hd (dec_ne _)
   | cons x r=>rw [hd] at this;simpa using this
theorem dv_pos:∀ (l:List UInt8) (acc:Nat),1≤acc→1≤dv acc l:=fun l acc h=>Nat.le_trans h (dv_le l acc)
theorem dec_dv (l:List UInt8):∀ m,l.length=m→l≠[]→l.all isDig=true→(l.headD 0=48→l=[48])→Lib.decDigits (dv 0 l)=l:=by
 intro m
 induction m generalizing l with
 | zero=>intro h hn;exact absurd (List.length_eq_zero_iff.1 h) hn
 | succ m ih =>
  intro hm hn hd hh
  obtain ⟨l',c,rfl⟩:∃ l' c,l=l'++[c]:=⟨l.dropLast,l.getLast hn,(List.dropLast_concat_getLast hn).symm⟩
  rw [List.all_append,Bool.and_eq_true] at hd
  have hc:=isDig_iff.1 (by simpa using hd.2)
  have hcc:UInt8.ofNat (48+(c.toNat - 48))=c:=by
   apply UInt8.toNat_inj.1
   rw [ofNat_nat (by omega)];omega
  by_cases h0:l'=[]
  ·subst h0
   have e:dv 0 ([]++[c])=c.toNat - 48:=by rw [List.nil_append,dv_cons,dv_nil];omega
   rw [e,dec_small (by omega),Nat.mod_eq_of_lt (by omega),hcc];rfl
  ·have hl:l'.length=m:=by simp at hm;omega
   obtain ⟨x,r,rfl⟩:∃ x r,l'=x ::r:=by cases l' with
    | nil=>exact absurd rfl h0
    | cons x r=>exact ⟨x,r,rfl⟩
   have hx:x≠48:=fun e=>by have:=hh (by simpa using e);simp at this
   have ih':=ih (x ::r) hl (by simp) hd.1 (fun e=>absurd (by simpa using e) hx)
   have hxd:=isDig_iff.1 (List.all_eq_true.1 hd.1 x List.mem_cons_self)
   have hx1:x.toNat≠48:=fun e=>hx (UInt8.toNat_inj.1 (by rw [e];rfl))
   have h1:1≤dv 0 (x ::r):=by
    rw [dv_cons]
    exact dv_pos r _ (by omega)
   rw [dv_append,dec_big (by omega),show (dv 0 (x ::r) * 10+(c.toNat - 48)) / 10=dv 0 (x ::r) by omega,show (dv 0 (x ::r) * 10+(c.toNat - 48)) % 10=c.toNat - 48 by omega,ih',hcc]
theorem dig_ne45 {c:UInt8} (h:isDig c=true):c≠45:=fun e=>by subst e;exact absurd h (by decide)
theorem rest_dec (a:Nat) (b:Bool) (h:a≤9223372036854775808) (h2:b=false→a≤9223372036854775807):restL b (Lib.decDigits a)=(if b=true then -(a:Int) else (a:Int),0):=by
 unfold restL
 rw [if_pos (dec_digs a),dv_dec,if_pos h]
 cases b with
 | true=>rfl
 | false=>rw [if_neg (by simp),if_neg (by have:=h2 rfl;omega),if_neg (by simp)]
theorem read_itoa {i:Int} (hi:I64 i):readL (Lib.itoa i)=(i,0):=by
 obtain ⟨h1,h2⟩:=hi
 unfold Lib.itoa
 by_cases h:i<0
 ·rw [if_pos h]
  have hh:=dec_head i.natAbs (by omega)
  have hr:=rest_dec i.natAbs true (by omega) (fun e=>by cases e)
  cases hd:Lib.decDigits i.natAbs with
  | nil=>exact absurd hd (dec_ne _)
  | cons x r =>
   rw [hd] at hh hr
   rw [read_neg,if_neg (by simpa using hh),hr,if_pos rfl]
   congr 1;omega
 ·rw [if_neg h]
  have hh:=dec_head i.toNat
  have hr:=rest_dec i.toNat false (by omega) (fun _=>by omega)
  have ha:=dec_digs i.toNat
  have hv:=dv_dec i.toNat
  rw [if_neg (by simp)] at hr
  cases hd:Lib.decDigits i.toNat with
  | nil=>exact absurd hd (dec_ne _)
  | cons x r =>
   rw [hd] at hh hr ha hv
   have hx:=List.all_eq_true.1 ha x List.mem_cons_self
   cases r with
   | nil=>rw [read_one,hr];congr 1;omega
   | cons y r =>
    have h1:1≤i.toNat:=by
     rcases Nat.eq_zero_or_pos i.toNat with e|e
     ·rw [e,Lib.decDigits_one (by omega)] at hd;cases hd
     ·exact e
    rw [read_pos (dig_ne45 hx),if_neg (by simpa using hh h1),hr]
    congr 1;omega
theorem rest_back {b:Bool} {d:List UInt8} {v:Int} (hn:d≠[]) (hh:d.headD 0=48→d=[48]) (hz:b=true→d.headD 0≠48) (h:restL b d=(v,0)):Lib.itoa v=(if b=true then 45 ::d else d)∧I64 v:=by
 unfold restL at h
 by_cases hd:d.all isDig=true
 ·rw [if_pos hd] at h
  have hdv:=dec_dv d _ rfl hn hd hh
  by_cases h1:dv 0 d≤9223372036854775808
  ·rw [if_pos h1] at h
   cases b with
   | true =>
    rw [if_pos rfl] at h
    have hv:=(Prod.mk.inj h).1
    have hp:1≤dv 0 d:=by
     rcases Nat.eq_zero_or_pos (dv 0 d) with e|e
     ·rw [e,Lib.decDigits_one (by omega)] at hdv
      exact absurd (by rw [← hdv];rfl) (hz rfl)
     ·exact e
    constructor
    ·unfold Lib.itoa
     rw [if_pos (by omega),if_pos rfl,show v.natAbs=dv 0 d by omega,hdv]
    ·exact ⟨by omega,by omega⟩
   | false =>
    rw [if_neg (by simp)] at h
    by_cases h2:dv 0 d=9223372036854775808
    ·rw [if_pos h2] at h;exact absurd (Prod.mk.inj h).2 (by decide)
    ·rw [if_neg h2] at h
     have hv:=(Prod.mk.inj h).1
     constructor
     ·unfold Lib.itoa
      rw [if_neg (by omega),if_neg (by simp),show v.toNat=dv 0 d by omega,hdv]
     ·exact ⟨by omega,by omega⟩
  ·rw [if_neg h1] at h;exact absurd (Prod.mk.inj h).2 (by decide)
 ·rw [if_neg hd] at h;exact absurd (Prod.mk.inj h).2 (by decide)
theorem itoa_read {l:List UInt8} {v:Int} (h:readL l=(v,0)):Lib.itoa v=l∧I64 v:=by
 match l,h with
 | [],h=>exact absurd (Prod.mk.inj h).2 (by decide)
 | [c],h =>
  rw [read_one] at h
  have:=rest_back (b:=false) (by simp) (fun e=>by simpa using e) (fun e=>by cases e) h
  simpa using this
 | c ::d ::r,h =>
  by_cases hc:c=45
  ·subst hc
   rw [read_neg] at h
   by_cases hd:d=48
   ·rw [if_pos hd] at h;exact absurd (Prod.mk.inj h).2 (by decide)
   ·rw [if_neg hd] at h
    have:=rest_back (b:=true) (by simp) (fun e=>absurd (by simpa using e) hd) (fun _=>by simpa using hd) h
    simpa using this
  ·rw [read_pos hc] at h
   by_cases hd:c=48
   ·rw [if_pos hd] at h;exact absurd (Prod.mk.inj h).2 (by decide)
   ·rw [if_neg hd] at h
    have:=rest_back (b:=false) (by simp) (fun e=>absurd (by simpa using e) hd) (fun e=>by cases e) h
    simpa using this
def inNumB (c:UInt8):Bool:=isDig c || decide (c=45)
theorem itoa_chars (i:Int):(Lib.itoa i).all inNumB=true:=by
 have key:∀ a,(Lib.decDigits a).all inNumB=true:=fun a=>by
  rw [List.all_eq_true]
  intro x hx
  have:=List.all_eq_true.1 (dec_digs a) x hx
  simp [inNumB,this]
 unfold Lib.itoa
 split
 ·rw [List.all_cons,key];decide
 ·exact key _
theorem itoa_no (i:Int) (c:UInt8) (h:inNumB c=false):c ∉ Lib.itoa i:=fun hm=>by
 have:=List.all_eq_true.1 (itoa_chars i) c hm
 rw [h] at this;cases this
theorem itoa_ne (i:Int):Lib.itoa i≠[]:=by
 unfold Lib.itoa
 split
 ·simp
 ·exact dec_ne _
end Go.Proofs.YtdcphpbimeoioaaGreatDoorE
end
section
set_option linter.unusedSectionVars false
namespace Go.Proofs.YtdcphpbimeoioaaGreatDoorE
open Go Go.Proofs
set_option linter.unusedVariables false
set_option linter.unusedSimpArgs false
abbrev RW:=El tRow
theorem find_loop {α:Type} {a:List α} (p:α→Bool) {L:Nat→Int→Option (Unit ⊕ (Int×Unit))} (hend:∀ g,L (g+1) (a.length:Int)=some (.inl ()))
  (hstep:∀ g i (h1:i<a.length),L (g+1) (i:Int)=bif p a[i] then some (.inr ((i:Int),())) else L g ((i+1:Nat):Int)) {g:Nat} (hg:a.length<g) :
  L g (0:Int)=some (match a.findIdx? p with|some q => .inr ((q:Int),())|none => .inl ()):=by
 have:=up_loop (L:=L) (m:=a.length) (spec:=fun i=>match (a.drop i).findIdx? p with|some q => .inr (((i+q:Nat):Int),())|none => .inl ()) (fun g=>by
  rw [hend g];simp) (fun g i hi ih=>by
  rw [hstep g i hi,ih,drop_eq hi,List.findIdx?_cons]
  cases p a[i] with
  | true=>simp
  | false =>
   simp only [cond_false,Bool.false_eq_true,if_false]
   cases (a.drop (i+1)).findIdx? p with
   | none=>rfl
   | some q=>simp only [Option.map_some];rw [show i+(q+1)=i+1+q by omega]) a.length 0 g (by omega) hg
 simpa using this
end Go.Proofs.YtdcphpbimeoioaaGreatDoorE
end
section
set_option linter.unusedSectionVars false
namespace Go.Proofs.YtdcphpbimeoioaaGreatDoorE
open Go Go.Proofs
set_option linter.unusedVariables false
set_option linter.unusedSimpArgs false
def zR:RW:=(0,NoB,(0,false,()),())
end Go.Proofs.YtdcphpbimeoioaaGreatDoorE
end
section
set_option linter.unusedSectionVars false
namespace Go.Proofs.YtdcphpbimeoioaaGreatDoorE
open Go Go.Proofs
set_option linter.unusedVariables false
set_option linter.unusedSimpArgs false
theorem one_sz (c:UInt8):((⟨#[c]⟩:ByteArray).size:Int)=1:=rfl
theorem eq_one (l:List UInt8) (c:UInt8):((⟨l.toArray⟩:ByteArray)=(⟨#[c]⟩:ByteArray))↔l=[c]:=by
 constructor
 ·intro h
  have:=congrArg bl h
  rw [bl_mk l] at this
  exact this
 ·intro h;rw [h]
theorem prefix1 (n:Nat) (s:ByteArray) (c:UInt8):s_slHasPrefix n (s,(⟨#[c]⟩:ByteArray),())=some ((decide ((bl s).head?=some c),()),((),(),())):=by
 have hz:=size_bl s
 unfold s_slHasPrefix
 cases hb:bl s with
 | nil =>
  rw [hb] at hz
  have e:¬ (1:Int)≤(s.size:Int):=by simp at hz;omega
  simp only [ile_eq,ssize_eq,one_sz,e,decide_false,cond_false]
  rfl
 | cons x r =>
  rw [hb] at hz
  have e:(1:Int)≤(s.size:Int):=by simp at hz;omega
  have e2:s.extract 0 1=⟨([x]:List UInt8).toArray⟩:=by have:=ext_take s 1;rw [hb] at this;simpa using this
  simp only [ile_eq,ssize_eq,one_sz,e,decide_true,cond_true,Int.le_refl,sext_eq,seq_eq,show (0:Int).toNat=0 from rfl,show (1:Int).toNat=1 from rfl,show decide ((0:Int)≤1)=true from rfl,e2,eq_one]
  simp
theorem suffix1 (n:Nat) (s:ByteArray) (c:UInt8) (hs:s.size≤9000000000000):s_slHasSuffix n (s,(⟨#[c]⟩:ByteArray),())=some ((endC c (bl s),()),((),(),())):=by
 have hz:=size_bl s
 unfold s_slHasSuffix
 by_cases h:1≤s.size
 ·have e:(1:Int)≤(s.size:Int):=by omega
  have e1:isub .i64 (s.size:Int) 1=((s.size - 1:Nat):Int):=by rw [isub64 (by omega) (by omega)];omega
  have e0:(0:Int)≤((s.size - 1:Nat):Int):=by omega
  have e3:((s.size - 1:Nat):Int)≤(s.size:Int):=by omega
  have hl:=last_drop (bl s) (by omega)
  have e2:s.extract (s.size - 1) s.size=⟨([(bl s)[(bl s).length - 1]'(by omega)]:List UInt8).toArray⟩:=by rw [ext_drop s (s.size - 1),← hz,hl]
  simp only [ile_eq,ssize_eq,one_sz,e,e1,e0,e3,decide_true,cond_true,Int.le_refl,sext_eq,seq_eq,Int.toNat_natCast,e2,eq_one]
  have e4:(bl s)[(bl s).length - 1]?=some ((bl s)[(bl s).length - 1]'(by omega)):=List.getElem?_eq_getElem (by omega)
  unfold endC
  rw [e4]
  simp
 ·have e:¬ (1:Int)≤(s.size:Int):=by omega
  have hb:bl s=[]:=List.length_eq_zero_iff.1 (by omega)
  simp only [ile_eq,ssize_eq,one_sz,e,decide_false,cond_false]
  unfold endC
  rw [hb];rfl
theorem trimP_v (n:Nat) (s:ByteArray):s_TrimPrefix n (s,(⟨#[45]⟩:ByteArray),())=some ((mkB (bareL (bl s)),()),((),(),())):=by
 have hz:=size_bl s
 unfold s_TrimPrefix s_slTrimPrefix
 rw [prefix1]
 have es:s=mkB (bl s):=bl_inj (by rw [bl_mkB])
 cases hb:bl s with
 | nil =>
  simp only [bindN_s,List.head?_nil]
  rw [hb] at es
  rw [show bareL []=[] from rfl,← es];simp
 | cons x r =>
  rw [hb] at hz es
  by_cases h:x=45
  ·subst h
   have e:(1:Int)≤(s.size:Int):=by simp at hz;omega
   have e2:s.extract 1 s.size=mkB r:=by have:=ext_drop s 1;rw [hb] at this;exact this
   simp only [bindN_s,List.head?_cons,decide_true,cond_true,ile_eq,ssize_eq,one_sz,e,Int.le_refl,sext_eq,Int.toNat_natCast,show (1:Int).toNat=1 from rfl,show decide ((0:Int)≤1)=true from rfl,e2]
   rfl
  ·have e3:bareL (x ::r)=x ::r:=by unfold bareL;split<;>simp_all
   rw [e3,← es]
   simp [h]
theorem in_dig (b:UInt8):([48,49,50,51,52,53,54,55,56,57]:List UInt8).contains b=isDig b:=by
 have:=all_u8 (p:=fun b=>([48,49,50,51,52,53,54,55,56,57]:List UInt8).contains b ==isDig b) (by decide+kernel) b
 simpa using this
theorem sat_digits_v (n:Nat) (s:ByteArray) (hs:s.size≤9000000000000):sat_digits n (s,())=some ((digsL (bl s),()),((),())):=by
 have hz:=size_bl s
 unfold sat_digits digsL
 by_cases h:bl s=[]
 ·simp [bl_nil,h]
 ·have hl:1≤(bl s).length:=by cases hh:bl s with
   | nil=>exact absurd hh h
   | cons a t=>simp
  have e0:(0:Int)<(s.size:Int):=by omega
  have e3:Nat.ble s.size 9223372036854775807=true:=by rw [Nat.ble_eq];omega
  have e4:Nat.blt (⟨#[48,49,50,51,52,53,54,55,56,57]⟩:ByteArray).size 4294967281=true:=by decide
  have e5:((⟨#[48,49,50,51,52,53,54,55,56,57]⟩:ByteArray).data.toList.all fun b=>decide (b.toNat<128))=true:=by decide
  have hT:s_Trim n (s,(⟨#[48,49,50,51,52,53,54,55,56,57]⟩:ByteArray),())=some ((mkB (Lib.trimS (bl s) [48,49,50,51,52,53,54,55,56,57]),()),((),(),())):=by
   unfold s_Trim
   simp only [e3,e4,e5,Bool.and_self,cond_true];rfl
  have e6:decide (mkB (Lib.trimS (bl s) [48,49,50,51,52,53,54,55,56,57])=(⟨#[]⟩:ByteArray))=(bl s).all isDig:=by
   rw [Bool.eq_iff_iff,decide_eq_true_eq,bl_nil,bl_mkB,trim_nil]
   have:(bl s).all (fun b=>([48,49,50,51,52,53,54,55,56,57]:List UInt8).contains b)=(bl s).all isDig:=by congr 1;funext b;exact in_dig b
   rw [this]
  have e7:decide ((((bl s).headD 0).toNat:Int)=48)=decide ((bl s).headD 0=48):=by
   rw [Bool.eq_iff_iff,decide_eq_true_eq,decide_eq_true_eq];exact u8_int ((bl s).headD 0) 48
  have e8:decide (s=(⟨#[48]⟩:ByteArray))=decide (bl s=[48]):=by
   rw [Bool.eq_iff_iff,decide_eq_true_eq,decide_eq_true_eq];exact ⟨fun hh=>by rw [hh];rfl,fun hh=>bl_inj hh⟩
  simp only [seq_eq,bl_nil,h,decide_false,cond_false,ile_eq,Int.le_refl,decide_true,cond_true,ilt_eq,ssize_eq,e0,sat_0 s hl,ieq_eq,e7,e8,hT,bindN_s,Bool.not_false,Bool.true_and]
  rw [show decide (bl (mkB (Lib.trimS (bl s) [48,49,50,51,52,53,54,55,56,57]))=[])=(bl s).all isDig by rw [← e6,Bool.eq_iff_iff,decide_eq_true_eq,decide_eq_true_eq,bl_nil]]
  cases decide ((bl s).headD 0=48)<;>cases decide (bl s=[48])<;>simp
theorem bare_parse {s:ByteArray} (h:(digsL (bareL (bl s)) && !decide (bl s=[45,48]))=true):readB s=some (readL (bl s)):=by
 have hd:bareL (bl s)≠[]∧(bareL (bl s)).all isDig=true:=by
  unfold digsL at h
  simp only [Bool.and_eq_true,Bool.not_eq_true',decide_eq_false_iff_not] at h
  exact ⟨h.1.1,h.1.2.2⟩
 unfold readL readB
 rw [if_pos h]
 rw [show s.data.toList=bl s from rfl]
 cases hb:bl s with
 | nil=>rw [hb] at hd;exact absurd rfl hd.1
 | cons c r =>
  rw [hb] at hd
  by_cases hc:c=45
  ·subst hc
   rw [int_neg (r:=r) hd.1 hd.2]
   by_cases q:dv 0 r≤9223372036854775808<;>simp [q]
  ·have e3:bareL (c ::r)=c ::r:=by unfold bareL;split<;>simp_all
   rw [e3] at hd
   rw [int_pos hd.1 hd.2]
   by_cases q:dv 0 (c ::r)<9223372036854775808<;>simp [q]
theorem sat_Read_v (n:Nat) (s:ByteArray) (hs:s.size≤9000000000000):sat_Read n (s,())=some (((readL (bl s)).1,(readL (bl s)).2,()),((),())):=by
 have hz:=size_bl s
 have e1:Nat.ble s.size 281474976710656=true:=by rw [Nat.ble_eq];omega
 have hb:(bareL (bl s)).length≤(bl s).length:=by
  cases bl s with
  | nil=>exact Nat.le_refl _
  | cons c r=>show (if c=45 then r else c ::r).length≤_;split<;>simp
 have hD:=sat_digits_v n (mkB (bareL (bl s))) (by rw [size_mkB];omega)
 rw [bl_mkB] at hD
 have e8:decide (s=(⟨#[45,48]⟩:ByteArray))=decide (bl s=[45,48]):=by
  rw [Bool.eq_iff_iff,decide_eq_true_eq,decide_eq_true_eq];exact ⟨fun hh=>by rw [hh];rfl,fun hh=>bl_inj hh⟩
 unfold sat_Read
 simp only [e1,cond_true,trimP_v n s,bindN_s,hD,seq_eq,e8]
 cases h:(digsL (bareL (bl s)) && !decide (bl s=[45,48])) with
 | false=>unfold readL;simp [h]
 | true=>rw [bare_parse h];simp
theorem sat_Number_v (n:Nat) (i:Int) (hi:I64 i):sat_Number n (i,())=some ((numB i,()),((),())):=by
 have e1:decide (-9223372036854775808≤i)=true:=decide_eq_true hi.1
 have e2:decide (i≤9223372036854775807)=true:=decide_eq_true hi.2
 unfold sat_Number c_FormatInt
 simp only [ieq_eq,ile_eq,decide_true,e1,e2,Bool.and_self,cond_true,bindN_s]
 rfl
end Go.Proofs.YtdcphpbimeoioaaGreatDoorE
end
section
set_option linter.unusedSectionVars false
namespace Go.Proofs.YtdcphpbimeoioaaGreatDoorE
open Go Go.Proofs
set_option linter.unusedVariables false
set_option linter.unusedSimpArgs false
theorem idx_any {α:Type} (p:α→Bool) (a:List α):(a.findIdx? p=none∧a.any p=false)∨∃ q:Nat,a.findIdx? p=some q∧a.any p=true:=by
 cases h:a.findIdx? p with
 | none =>
  have:=List.findIdx?_eq_none_iff.1 h
  exact .inl ⟨rfl,by rw [List.any_eq_false];intro x hx;rw [this x hx];simp⟩
 | some q =>
  refine .inr ⟨q,rfl,?_⟩
  have:=List.findIdx?_isSome (p:=p) (xs:=a)
  rw [h] at this;simpa using this.symm
theorem word_Join_v2 (n:Nat) (sep:ByteArray) (l:List ByteArray) (h1:l.length≤1000000) (h2:(bl (joinB sep l)).length≤100000000000000):word_Join n (sep,l,())=some ((joinB sep l,()),((),(),())):=by
 have e1:Nat.ble l.length 140737488355328=true:=by rw [Nat.ble_eq];omega
 have e2:Nat.ble (Lib.join (l.map (·.data.toList)) sep.data.toList).length 140737488355328=true:=by
  have:(bl (joinB sep l)).length=(Lib.join (l.map (·.data.toList)) sep.data.toList).length:=rfl
  rw [Nat.ble_eq];omega
 simp only [word_Join,s_Join,e1,e2,Bool.and_self,cond_true,bindN_s]
 rfl
theorem key_Text_v {n:Nat} (hn:Big n) (k:El tKey) (h1:k.1.size≤1000000) (hf:Fit k.2.1):key_Text n (k,())=some ((textK k.1 k.2.1,()),((),())):=by
 unfold textK
 by_cases h0:k.2.1.length=0
 ·have:(k.2.1.length:Int)=0:=by omega
  simp only [key_Text,ilen,ieq_eq,this,decide_true,cond_true,if_pos h0]
 ·have k0:¬ (k.2.1.length:Int)=0:=by omega
  have hT:tag_Text n k.2=some ((textT k.2.1,()),((),())):=tag_Text_v hn k.2.1 hf
  have hl:=fit_text hf
  have hz:=size_bl k.1
  have hJ:=word_Join_v2 n (mkB []) [k.1,mkB [123],textT k.2.1,mkB [125]] (by simp) (by rw [joinK,bl_append,bl_append,bl_append,bl_mkB,bl_mkB];simp;omega)
  rw [joinK] at hJ
  simp only [key_Text,ilen,ieq_eq,k0,decide_false,cond_false,if_neg h0,hT,bindN_s]
  rw [show (⟨#[]⟩:ByteArray)=mkB [] from rfl,show (⟨#[123]⟩:ByteArray)=mkB [123] from rfl,show (⟨#[125]⟩:ByteArray)=mkB [125] from rfl,hJ,bindN_s]
theorem cutSuffix1 (n:Nat) (s:ByteArray) (c:UInt8) (hs:s.size≤9000000000000):s_CutSuffix n (s,(⟨#[c]⟩:ByteArray),())=some ((if endC c (bl s)=true then mkB (bl s).dropLast else s,endC c (bl s),()),((),(),())):=by
 have hz:=size_bl s
 unfold s_CutSuffix s_slCutSuffix
 rw [suffix1 n s c hs]
 cases h:endC c (bl s) with
 | false=>simp
 | true =>
  have h1:1≤s.size:=by
   rw [← hz]
   cases hb:bl s with
   | nil=>rw [hb] at h;simp [endC] at h
   | cons x r=>simp
  have e1:isub .i64 (s.size:Int) 1=((s.size - 1:Nat):Int):=by rw [isub64 (by omega) (by omega)];omega
  have e0:(0:Int)≤((s.size - 1:Nat):Int):=by omega
  have e3:((s.size - 1:Nat):Int)≤(s.size:Int):=by omega
  have e2:s.extract 0 (s.size - 1)=mkB (bl s).dropLast:=by rw [ext_take s (s.size - 1),List.dropLast_eq_take,hz];rfl
  simp only [bindN_s,Bool.not_true,cond_false,cond_true,ile_eq,Int.le_refl,decide_true,ssize_eq,one_sz,e1,e0,e3,sext_eq,Int.toNat_natCast,show (0:Int).toNat=0 from rfl,e2,if_true]
theorem cutB_no (c:UInt8) (s:ByteArray) (h:(cutB c s).2.2=false):(cutB c s).1=s∧(cutB c s).2.1=(⟨#[]⟩:ByteArray):=by
 unfold cutB at *
 split
 ·exact ⟨rfl,rfl⟩
 ·rename_i h1;rw [if_neg h1] at h;cases h
theorem key_Parse_v {n:Nat} (hn:Big n) (s:ByteArray) (hs:s.size≤100000):key_Parse n (s,())=some ((((parseK s).1,(parseK s).2.1,()),(parseK s).2.2,()),((),())):=by
 have hc:=cut_size 123 s
 have hC:=s_Cut_v n 123 s (by omega)
 have hX:=cutSuffix1 n (cutB 123 s).2.1 125 (by omega)
 have he:endsL (bl (cutB 123 s).2.1)=endC 125 (bl (cutB 123 s).2.1):=rfl
 unfold parseK cutK
 simp only [key_Parse,hC,bindN_s]
 cases h1:(cutB 123 s).2.2 with
 | false =>
  obtain ⟨e1,e2⟩:=cutB_no 123 s h1
  have hN:=word_Name_v0 n s
  have hP:=tag_Parse_v hn (⟨#[]⟩:ByteArray) (by decide)
  simp only [e1,e2,hN,hP,bindN_s,cond_false,ieq_eq,Bool.false_eq_true,if_false,if_true]
  by_cases h2:nameL (bl s)=true
  ·by_cases h3:(parseT (⟨#[]⟩:ByteArray)).2=0
   ·simp [h2,h3]
   ·simp [h2,h3]
  ·simp [h2]
 | true =>
  simp only [cond_true,hX,bindN_s,he,if_true]
  by_cases h2:endC 125 (bl (cutB 123 s).2.1)=true
  ·have hsz:(mkB (bl (cutB 123 s).2.1).dropLast).size≤s.size:=Nat.le_trans (dropLast_size _) hc.2
   have hN:=word_Name_v0 n (cutB 123 s).1
   have hP:=tag_Parse_v hn (mkB (bl (cutB 123 s).2.1).dropLast) (by omega)
   simp only [h2,if_true,Bool.not_true,cond_false,seq_eq,bl_nil,bl_mkB,hN,hP,bindN_s,ieq_eq]
   by_cases h3:(bl (cutB 123 s).2.1).dropLast=[]
   ·simp [h3]
   ·by_cases h4:nameL (bl (cutB 123 s).1)=true
    ·by_cases h5:(parseT (mkB (bl (cutB 123 s).2.1).dropLast)).2=0
     ·simp [h3,h4,h5]
     ·simp [h3,h4,h5]
    ·simp [h3,h4]
  ·simp [h2]
theorem pick_may_v (n:Nat) (m:MT):pick_may n ((m,()),())=some ((mayM m,()),((),())):=by
 obtain ⟨a,b,c,⟨⟩⟩:=m
 have hN:=word_Name_v0 n b
 have hV:=word_Value_v0 n c
 unfold mayM
 simp only [pick_may,hN,hV,bindN_s,ieq_eq,seq_eq,eqbl,empty_bl]
 by_cases h0:nameL (bl b)=true
 ·by_cases h1:a=1
  ·subst h1;simp [h0]
  ·by_cases h2:a=2
   ·subst h2;simp [h0]
   ·by_cases h3:a=3
    ·subst h3
     by_cases h4:bl c=[]<;>simp [h0,h4]
    ·by_cases h4:a=4
     ·subst h4;simp [h0];congr
     ·simp [h0,h1,h2,h3,h4]
 ·simp [h0]
theorem find_loop' {α E R:Type} {a:List α} (p:α→Bool) (e:E) (mk:Int→R) {L:Nat→Int→Option (E ⊕ R)} (hend:∀ g,L (g+1) (a.length:Int)=some (.inl e))
  (hstep:∀ g i (h1:i<a.length),L (g+1) (i:Int)=bif p a[i] then some (.inr (mk (i:Int))) else L g ((i+1:Nat):Int)) {g:Nat} (hg:a.length<g) :
  L g (0:Int)=some (match a.findIdx? p with|some q => .inr (mk (q:Int))|none => .inl e):=by
 have:=up_loop (L:=L) (m:=a.length) (spec:=fun i=>match (a.drop i).findIdx? p with|some q => .inr (mk ((i+q:Nat):Int))|none => .inl e) (fun g=>by
  rw [hend g];simp) (fun g i hi ih=>by
  rw [hstep g i hi,ih,drop_eq hi,List.findIdx?_cons]
  cases p a[i] with
  | true=>simp
  | false =>
   simp only [cond_false,Bool.false_eq_true,if_false]
   cases (a.drop (i+1)).findIdx? p with
   | none=>rfl
   | some q=>simp only [Option.map_some];rw [show i+(q+1)=i+1+q by omega]) a.length 0 g (by omega) hg
 simpa using this
@[simp] theorem bindL_idU {ω:Type} (X:Option ((Unit×Unit) ⊕ (Unit×ω))):bindL X (fun _=>some (Sum.inl ((),()))) (fun b=>some (Sum.inr ((),b.2)))=X:=by
 rcases X with _|⟨⟨⟩,⟨⟩⟩|⟨⟨⟩,_⟩<;>simp
theorem pick_Right_v {n:Nat} (hn:Big n) (l:List MT) (hl:l.length≤1000000):pick_Right n (l,())=some ((rightM l,()),((),())):=by
 have hL:=find_loop' (a:=l) (fun t => !mayM t) ((),()) (fun i=>((),i,())) (L:=fun g i=>sl_IndexMatch_l0 n g (l,(),(l.length:Int),i,())) (fun g=>by simp [sl_IndexMatch_l0]) (fun g i hi=>by
  have k:(i:Int)<(l.length:Int):=by omega
  have k0:(0:Int)≤i:=by omega
  simp only [sl_IndexMatch_l0,ilt_eq,ile_eq,k,k0,decide_true,cond_true,lat_eq,iN,Int.toNat_natCast,List.getElem?_eq_getElem hi,bindN_s,pick_Right1,pick_may_v n l[i],iadd1 (i:=i) (by omega),bindL_idU]) (g:=n) (by unfold Big at hn;omega)
 have e4:decide ((l.length:Int)≤4)=decide (l.length≤4):=by rw [decide_eq_decide];omega
 unfold pick_Right sl_ContainsMatch sl_IndexMatch rightM
 simp only [ile_eq,ilen,hL,e4]
 cases decide (l.length≤4) with
 | false=>simp
 | true =>
  have ha:=all_any l mayM
  rcases idx_any (fun t => !mayM t) l with ⟨h1,h2⟩|⟨q,h1,h2⟩
  ·rw [h2] at ha
   have ha':l.all mayM=true:=by simpa using ha.symm
   simp [h1,ha']
  ·rw [h2] at ha
   have ha':l.all mayM=false:=by simpa using ha.symm
   have:(0:Int)≤q:=by omega
   simp [h1,ha',this]
theorem query_agg_v (n:Nat) (s:ByteArray):query_agg n (s,())=some ((aggN s,()),((),())):=by
 unfold aggN
 simp only [query_agg,seq_eq,eqbl]
 rw [show bl (⟨#[99,111,117,110,116]⟩:ByteArray)=[99,111,117,110,116] from rfl,show bl (⟨#[115,117,109]⟩:ByteArray)=[115,117,109] from rfl,show bl (⟨#[109,105,110]⟩:ByteArray)=[109,105,110] from rfl,show bl (⟨#[109,97,120]⟩:ByteArray)=[109,97,120] from rfl]
 by_cases h1:bl s=[99,111,117,110,116]
 ·simp [h1]
 ·by_cases h2:bl s=[115,117,109]
  ·simp [h2]
  ·by_cases h3:bl s=[109,105,110]
   ·simp [h3]
   ·by_cases h4:bl s=[109,97,120]<;>simp [h1,h2,h3,h4]
theorem query_name_v {n:Nat} (hn:Big n) (k:Int):query_name n (k,())=some ((nameN k,()),((),())):=by
 obtain ⟨g,rfl⟩:∃ g,n=g+5:=⟨n - 5,by unfold Big at hn;omega⟩
 have a1:=query_agg_v (g+5) (⟨#[99,111,117,110,116]⟩:ByteArray)
 have a2:=query_agg_v (g+5) (⟨#[115,117,109]⟩:ByteArray)
 have a3:=query_agg_v (g+5) (⟨#[109,105,110]⟩:ByteArray)
 have a4:=query_agg_v (g+5) (⟨#[109,97,120]⟩:ByteArray)
 rw [show aggN (⟨#[99,111,117,110,116]⟩:ByteArray)=1 from rfl] at a1
 rw [show aggN (⟨#[115,117,109]⟩:ByteArray)=2 from rfl] at a2
 rw [show aggN (⟨#[109,105,110]⟩:ByteArray)=3 from rfl] at a3
 rw [show aggN (⟨#[109,97,120]⟩:ByteArray)=4 from rfl] at a4
 have i1:iadd .i64 0 1=1:=by decide+kernel
 have i2:iadd .i64 1 1=2:=by decide+kernel
 have i3:iadd .i64 2 1=3:=by decide+kernel
 have i4:iadd .i64 3 1=4:=by decide+kernel
 have c1:decide ((0:Int)<4)=true:=rfl
 have c2:decide ((1:Int)<4)=true:=rfl
 have c3:decide ((2:Int)<4)=true:=rfl
 have c4:decide ((3:Int)<4)=true:=rfl
 have c5:decide ((4:Int)<4)=false:=rfl
 have d1:decide ((0:Int)≤0)=true:=rfl
 have d2:decide ((0:Int)≤1)=true:=rfl
 have d3:decide ((0:Int)≤2)=true:=rfl
 have d4:decide ((0:Int)≤3)=true:=rfl
 generalize hW:[(⟨#[99,111,117,110,116]⟩:ByteArray),(⟨#[115,117,109]⟩:ByteArray),(⟨#[109,105,110]⟩:ByteArray),(⟨#[109,97,120]⟩:ByteArray)]=W
 have w1:lat W (iN (0:Int))=some (⟨#[99,111,117,110,116]⟩:ByteArray):=by rw [← hW,lat_eq];rfl
 have w2:lat W (iN (1:Int))=some (⟨#[115,117,109]⟩:ByteArray):=by rw [← hW,lat_eq];rfl
 have w3:lat W (iN (2:Int))=some (⟨#[109,105,110]⟩:ByteArray):=by rw [← hW,lat_eq];rfl
 have w4:lat W (iN (3:Int))=some (⟨#[109,97,120]⟩:ByteArray):=by rw [← hW,lat_eq];rfl
 have wl:ilen W=4:=by rw [← hW];rfl
 unfold nameN query_name
 rw [hW,wl]
 simp only [query_name_l0,ilt_eq,ile_eq,ieq_eq,i1,i2,i3,i4,c1,c2,c3,c4,c5,d1,d2,d3,d4,w1,w2,w3,w4,cond_true,cond_false,bindN_s,a1,a2,a3,a4,bindL_id]
 by_cases h1:k=1
 ·subst h1;simp;rfl
 ·by_cases h2:k=2
  ·subst h2;simp;rfl
  ·by_cases h3:k=3
   ·subst h3;simp;rfl
   ·by_cases h4:k=4
    ·subst h4;simp;rfl
    ·have g1:¬ (1:Int)=k:=fun e=>h1 e.symm
     have g2:¬ (2:Int)=k:=fun e=>h2 e.symm
     have g3:¬ (3:Int)=k:=fun e=>h3 e.symm
     have g4:¬ (4:Int)=k:=fun e=>h4 e.symm
     simp [g1,g2,g3,g4,h1,h2,h3,h4]
theorem texts_nodup (l:List ByteArray):(qn.texts l).Nodup↔l.Nodup:=by
 have e:qn.texts l=l.map bl:=rfl
 rw [e,List.Nodup,List.pairwise_map,List.Nodup]
 constructor
 ·exact fun h=>h.imp fun hab e=>hab (by rw [e])
 ·exact fun h=>h.imp fun hab e=>hab (bl_inj e)
theorem sl_ContainsStrF_v {n:Nat} (hn:Big n) (l:List ByteArray) (hl:l.length≤1000000):sl_ContainsStrF n (l,(),())=some ((!l.all nameB,()),((),(),())):=by
 have hL:=find_loop (a:=l) (fun t => !nameB t) (L:=fun g i=>sl_IndexStrF_l0 n g (l,(),(l.length:Int),i,())) (fun g=>by simp [sl_IndexStrF_l0]) (fun g i hi=>by
  have k:(i:Int)<(l.length:Int):=by omega
  have k0:(0:Int)≤i:=by omega
  have hN:=word_Name_v0 n l[i]
  rw [show nameL (bl l[i])=nameB l[i] from rfl] at hN
  simp only [sl_IndexStrF_l0,ilt_eq,ile_eq,k,k0,decide_true,cond_true,lat_eq,iN,Int.toNat_natCast,List.getElem?_eq_getElem hi,bindN_s,query_names1,hN,iadd1 (i:=i) (by omega),bindL_id]) (g:=n) (by unfold Big at hn;omega)
 unfold sl_ContainsStrF sl_IndexStrF
 simp only [ilen,hL,← all_any]
 rcases idx_any (fun t => !nameB t) l with ⟨h1,h2⟩|⟨q,h1,h2⟩
 ·simp [h1,h2]
 ·have:(0:Int)≤q:=by omega
  simp [h1,h2,this]
theorem query_names_v {n:Nat} (hn:Big n) (l:List ByteArray) (hl:l.length≤1000000):query_names n (l,())=some ((namesS l,()),((),())):=by
 have hC:=sl_ContainsStrF_v hn l hl
 have e1:Nat.ble l.length 1000000000=true:=by rw [Nat.ble_eq];omega
 unfold query_names namesS
 simp only [e1,cond_true,hC,bindN_s]
 cases l.all nameB with
 | false=>simp
 | true =>
  have e4:Nat.blt 4 l.length=decide (4<l.length):=by
   rw [Bool.eq_iff_iff,decide_eq_true_eq,Nat.blt_eq]
  simp only [Bool.not_true,cond_false,e4,if_true]
  by_cases h4:4<l.length
  ·simp [h4]
  ·simp only [h4,decide_false,cond_false,if_false]
   have hd:=dupL_iff (qn.texts l)
   rw [texts_nodup] at hd
   by_cases h5:l.Nodup
   ·have:dupL (qn.texts l)=false:=by
     cases hq:dupL (qn.texts l) with
     | false=>rfl
     | true=>exact absurd h5 (hd.1 hq)
    simp [this,h5]
   ·simp [hd.2 h5,h5]
theorem agg_no {a:Int} (h:¬ (1≤a∧a≤4)):(decide (1≤a) && decide (a≤4))=false:=by
 rw [Bool.and_eq_false_iff,decide_eq_false_iff_not,decide_eq_false_iff_not];omega
theorem query_Right_v {n:Nat} (hn:Big n) (q:El tQuery) (hm:q.2.2.1.length≤1000000) (hb:q.2.2.2.1.length≤1000000):query_Right n (q,())=some ((rightQ q.1 q.2.1 q.2.2.1 q.2.2.2.1,()),((),())):=by
 obtain ⟨a,nm,m,b,⟨⟩⟩:=q
 have hA:=query_name_v hn a
 have hN:=word_Name_v0 n nm
 have hR:=pick_Right_v hn m hm
 have hS:=query_names_v hn b hb
 have e:=nameN_nil a
 simp only [query_Right,hA,hN,hR,hS,bindN_s,seq_eq,bl_nil,ieq_eq]
 unfold rightQ
 by_cases h1:1≤a∧a≤4
 ·have e1:¬ bl (nameN a)=[]:=fun h=>(e.1 h) h1
  cases nameL (bl nm) with
  | false=>simp [e1,h1]
  | true=>cases rightM m<;>simp [e1,h1]
 ·have e1:bl (nameN a)=[]:=e.2 h1
  have e2:(decide (1≤a) && decide (a≤4))=false:=agg_no h1
  simp [e1,e2]
end Go.Proofs.YtdcphpbimeoioaaGreatDoorE
end
