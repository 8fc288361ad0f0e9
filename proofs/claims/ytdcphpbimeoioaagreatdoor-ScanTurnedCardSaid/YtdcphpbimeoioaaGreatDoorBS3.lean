/- A part of the proof: ZSHFa, ZSHN, ZSSV, ZSSW, ZSHM, ZSHFb, ZSGQ2, ZSGQ3, ZSGK1, ZSGW2, ZSGV2, ZSGR1, ZSGY1, ZSGZ1, ZSGM1, ZSGW3, ZSGW4, ZSGN1. No condition. -/
import Derived.Test.YtdcphpbimeoioaaGreatDoorBS2
import Derived.Test.YtdcphpbimeoioaaGreatDoorProg
import Derived.WalkKit
import Derived.Lib.SmallJoins
import Derived.RangeFuncBox
import Derived.RangeFuncLeaves
import Derived.Shelf.Abstract
import Derived.OwnWalkIn
import Derived.TacticsInMore
import Derived.LoopNIn
import Derived.LoopIn
import Derived.Maps.AppendAt
import Derived.Sort.OwnSorted
import Derived.Lib.ItoaLen
import Derived.Lib.ParseIntB
import Derived.Lib.ItoaNum
import Derived.Maps.RangeRun
import Derived.MapKept
import Derived.ChangeMaps5
section
set_option linter.unusedSectionVars false
namespace Go.Proofs.YtdcphpbimeoioaaGreatDoorE
open Go
set_option linter.unusedVariables false
set_option maxRecDepth 100000
abbrev tPick_match:Ty := .pair tMatch .unit
abbrev s_slCut_sg:List Sg:=[.tree .str, .tree .str]
abbrev s_slCut_rs:List Rt:=[.tree .str, .tree .str, .tree .bool]
def s_slCut (n:Nat) (x:SgEl s_slCut_sg):Option (RtEl s_slCut_rs×OutEl s_slCut_sg) :=
  bindN (s_Index1 n x) fun p1 =>
  bif ile (0:Int) p1.1.1 then
   bif ile (0:Int) (0:Int) then
    bif ile (0:Int) p1.1.1 then
     bif ile p1.1.1 (ssize x.1) then
      bif ile (0:Int) (iadd .i64 p1.1.1 (ssize x.2.1)) then
       bif ile (iadd .i64 p1.1.1 (ssize x.2.1)) (ssize x.1) then
        bif ile (ssize x.1) (ssize x.1) then
         some ((sext x.1 (0:Int) p1.1.1,sext x.1 (iadd .i64 p1.1.1 (ssize x.2.1)) (ssize x.1),true,()),((),(),()))
        else none
       else none
      else none
     else none
    else none
   else none
  else
  some ((x.1,(⟨#[]⟩:ByteArray),false,()),((),(),()))
abbrev s_slCut_ent (n:Nat):Ent:=⟨268,s_slCut_sg,s_slCut_rs,s_slCut n⟩
theorem s_slCut_ok (n:Nat):EntOk Tryz.prog (s_slCut_ent n):=ent_ok' mixed (T:=[s_Index1_ent n]) (tabCons (s_Index1_ok n) tabNil) tabLNil fun x=>by kernel_rfl
abbrev s_Cut_sg:List Sg:=[.tree .str, .tree .str]
abbrev s_Cut_rs:List Rt:=[.tree .str, .tree .str, .tree .bool]
def s_Cut (n:Nat) (x:SgEl s_Cut_sg):Option (RtEl s_Cut_rs×OutEl s_Cut_sg) :=
  bindN (s_slCut n x) fun p1 =>
  some (p1.1,((),(),()))
abbrev s_Cut_ent (n:Nat):Ent:=⟨217,s_Cut_sg,s_Cut_rs,s_Cut n⟩
theorem s_Cut_ok (n:Nat):EntOk Tryz.prog (s_Cut_ent n):=ent_ok' mixed (T:=[s_slCut_ent n]) (tabCons (s_slCut_ok n) tabNil) tabLNil fun x=>by kernel_rfl
abbrev s_slHasPrefix_sg:List Sg:=[.tree .str, .tree .str]
abbrev s_slHasPrefix_rs:List Rt:=[.tree .bool]
def s_slHasPrefix (n:Nat) (x:SgEl s_slHasPrefix_sg):Option (RtEl s_slHasPrefix_rs×OutEl s_slHasPrefix_sg) :=
  bif ile (ssize x.2.1) (ssize x.1) then
   bif ile (0:Int) (0:Int) then
    bif ile (0:Int) (ssize x.2.1) then
     bif ile (ssize x.2.1) (ssize x.1) then
      some ((seq (sext x.1 (0:Int) (ssize x.2.1)) x.2.1,()),((),(),()))
     else none
    else none
   else none
  else
  some ((false,()),((),(),()))
abbrev s_slHasPrefix_ent (n:Nat):Ent:=⟨304,s_slHasPrefix_sg,s_slHasPrefix_rs,s_slHasPrefix n⟩
theorem s_slHasPrefix_ok (n:Nat):EntOk Tryz.prog (s_slHasPrefix_ent n):=ent_ok' mixed (T:=[]) tabNil tabLNil fun x=>by kernel_rfl
abbrev s_HasPrefix_sg:List Sg:=[.tree .str, .tree .str]
abbrev s_HasPrefix_rs:List Rt:=[.tree .bool]
def s_HasPrefix (n:Nat) (x:SgEl s_HasPrefix_sg):Option (RtEl s_HasPrefix_rs×OutEl s_HasPrefix_sg) :=
  bindN (s_slHasPrefix n x) fun p1 =>
  some (p1.1,((),(),()))
abbrev s_HasPrefix_ent (n:Nat):Ent:=⟨277,s_HasPrefix_sg,s_HasPrefix_rs,s_HasPrefix n⟩
theorem s_HasPrefix_ok (n:Nat):EntOk Tryz.prog (s_HasPrefix_ent n):=ent_ok' mixed (T:=[s_slHasPrefix_ent n]) (tabCons (s_slHasPrefix_ok n) tabNil) tabLNil fun x=>by kernel_rfl
abbrev s_slHasSuffix_sg:List Sg:=[.tree .str, .tree .str]
abbrev s_slHasSuffix_rs:List Rt:=[.tree .bool]
def s_slHasSuffix (n:Nat) (x:SgEl s_slHasSuffix_sg):Option (RtEl s_slHasSuffix_rs×OutEl s_slHasSuffix_sg) :=
  bif ile (ssize x.2.1) (ssize x.1) then
   bif ile (0:Int) (isub .i64 (ssize x.1) (ssize x.2.1)) then
    bif ile (isub .i64 (ssize x.1) (ssize x.2.1)) (ssize x.1) then
     bif ile (ssize x.1) (ssize x.1) then
      some ((seq (sext x.1 (isub .i64 (ssize x.1) (ssize x.2.1)) (ssize x.1)) x.2.1,()),((),(),()))
     else none
    else none
   else none
  else
  some ((false,()),((),(),()))
abbrev s_slHasSuffix_ent (n:Nat):Ent:=⟨310,s_slHasSuffix_sg,s_slHasSuffix_rs,s_slHasSuffix n⟩
theorem s_slHasSuffix_ok (n:Nat):EntOk Tryz.prog (s_slHasSuffix_ent n):=ent_ok' mixed (T:=[]) tabNil tabLNil fun x=>by kernel_rfl
abbrev s_slCutSuffix_sg:List Sg:=[.tree .str, .tree .str]
abbrev s_slCutSuffix_rs:List Rt:=[.tree .str, .tree .bool]
def s_slCutSuffix (n:Nat) (x:SgEl s_slCutSuffix_sg):Option (RtEl s_slCutSuffix_rs×OutEl s_slCutSuffix_sg) :=
  bindN (s_slHasSuffix n x) fun p1 =>
  bif !p1.1.1 then
   some ((x.1,false,()),((),(),()))
  else
  bif ile (0:Int) (0:Int) then
   bif ile (0:Int) (isub .i64 (ssize x.1) (ssize x.2.1)) then
    bif ile (isub .i64 (ssize x.1) (ssize x.2.1)) (ssize x.1) then
     some ((sext x.1 (0:Int) (isub .i64 (ssize x.1) (ssize x.2.1)),true,()),((),(),()))
    else none
   else none
  else none
abbrev s_slCutSuffix_ent (n:Nat):Ent:=⟨275,s_slCutSuffix_sg,s_slCutSuffix_rs,s_slCutSuffix n⟩
theorem s_slCutSuffix_ok (n:Nat):EntOk Tryz.prog (s_slCutSuffix_ent n):=ent_ok' mixed (T:=[s_slHasSuffix_ent n]) (tabCons (s_slHasSuffix_ok n) tabNil) tabLNil fun x=>by kernel_rfl
abbrev s_CutSuffix_sg:List Sg:=[.tree .str, .tree .str]
abbrev s_CutSuffix_rs:List Rt:=[.tree .str, .tree .bool]
def s_CutSuffix (n:Nat) (x:SgEl s_CutSuffix_sg):Option (RtEl s_CutSuffix_rs×OutEl s_CutSuffix_sg) :=
  bindN (s_slCutSuffix n x) fun p1 =>
  some (p1.1,((),(),()))
abbrev s_CutSuffix_ent (n:Nat):Ent:=⟨227,s_CutSuffix_sg,s_CutSuffix_rs,s_CutSuffix n⟩
theorem s_CutSuffix_ok (n:Nat):EntOk Tryz.prog (s_CutSuffix_ent n):=ent_ok' mixed (T:=[s_slCutSuffix_ent n]) (tabCons (s_slCutSuffix_ok n) tabNil) tabLNil fun x=>by kernel_rfl
abbrev sat_Of_sg:List Sg:=[.tree (.int .i64)]
abbrev sat_Of_rs:List Rt:=[.tree tSum]
def sat_Of (n:Nat) (x:SgEl sat_Of_sg):Option (RtEl sat_Of_rs×OutEl sat_Of_sg) :=
  some (((x.1,false,()),()),((),()))
abbrev sat_Of_ent (n:Nat):Ent:=⟨181,sat_Of_sg,sat_Of_rs,sat_Of n⟩
theorem sat_Of_ok (n:Nat):EntOk Tryz.prog (sat_Of_ent n):=ent_ok' mixed (T:=[]) tabNil tabLNil fun x=>by kernel_rfl
abbrev sat_Add_sg:List Sg:=[.tree tSum, .tree tSum]
abbrev sat_Add_rs:List Rt:=[.tree tSum]
def sat_Add (n:Nat) (x:SgEl sat_Add_sg):Option (RtEl sat_Add_rs×OutEl sat_Add_sg) :=
  bif x.1.2.1 then
   some ((x.1,()),((),(),()))
  else
  bif x.2.1.2.1 then
   some (x.2,((),(),()))
  else
  bif ilt (0:Int) x.1.1 then
   bif ilt (0:Int) x.2.1.1 then
    bif ilt (iadd .i64 x.1.1 x.2.1.1) (0:Int) then
     some ((((9223372036854775807:Int),true,()),()),((),(),()))
    else
    bif ilt x.1.1 (0:Int) then
     bif ilt x.2.1.1 (0:Int) then
      bif ile (0:Int) (iadd .i64 x.1.1 x.2.1.1) then
       some ((((-9223372036854775808:Int),true,()),()),((),(),()))
      else
      bindN (sat_Of n (iadd .i64 x.1.1 x.2.1.1,())) fun p1 =>
      some (p1.1,((),(),()))
     else
     bindN (sat_Of n (iadd .i64 x.1.1 x.2.1.1,())) fun p2 =>
     some (p2.1,((),(),()))
    else
    bindN (sat_Of n (iadd .i64 x.1.1 x.2.1.1,())) fun p3 =>
    some (p3.1,((),(),()))
   else
   bif ilt x.1.1 (0:Int) then
    bif ilt x.2.1.1 (0:Int) then
     bif ile (0:Int) (iadd .i64 x.1.1 x.2.1.1) then
      some ((((-9223372036854775808:Int),true,()),()),((),(),()))
     else
     bindN (sat_Of n (iadd .i64 x.1.1 x.2.1.1,())) fun p4 =>
     some (p4.1,((),(),()))
    else
    bindN (sat_Of n (iadd .i64 x.1.1 x.2.1.1,())) fun p5 =>
    some (p5.1,((),(),()))
   else
   bindN (sat_Of n (iadd .i64 x.1.1 x.2.1.1,())) fun p6 =>
   some (p6.1,((),(),()))
  else
  bif ilt x.1.1 (0:Int) then
   bif ilt x.2.1.1 (0:Int) then
    bif ile (0:Int) (iadd .i64 x.1.1 x.2.1.1) then
     some ((((-9223372036854775808:Int),true,()),()),((),(),()))
    else
    bindN (sat_Of n (iadd .i64 x.1.1 x.2.1.1,())) fun p7 =>
    some (p7.1,((),(),()))
   else
   bindN (sat_Of n (iadd .i64 x.1.1 x.2.1.1,())) fun p8 =>
   some (p8.1,((),(),()))
  else
  bindN (sat_Of n (iadd .i64 x.1.1 x.2.1.1,())) fun p9 =>
  some (p9.1,((),(),()))
abbrev sat_Add_ent (n:Nat):Ent:=⟨232,sat_Add_sg,sat_Add_rs,sat_Add n⟩
theorem sat_Add_ok (n:Nat):EntOk Tryz.prog (sat_Add_ent n):=ent_ok' mixed (T:=[sat_Of_ent n]) (tabCons (sat_Of_ok n) tabNil) tabLNil fun x=>by kernel_rfl
abbrev word_made_sg:List Sg:=[.tree .str, .tree .str]
abbrev word_made_rs:List Rt:=[.tree .bool]
def word_made (n:Nat) (x:SgEl word_made_sg):Option (RtEl word_made_rs×OutEl word_made_sg) :=
  bif !(seq x.1 (⟨#[]⟩:ByteArray)) then
   bif ile (ssize x.1) (12:Int) then
    bindN (s_Trim n x) fun p1 =>
    some ((seq p1.1.1 (⟨#[]⟩:ByteArray),()),((),(),()))
   else
   some ((false,()),((),(),()))
  else
  some ((false,()),((),(),()))
abbrev word_made_ent (n:Nat):Ent:=⟨195,word_made_sg,word_made_rs,word_made n⟩
theorem word_made_ok (n:Nat):EntOk Tryz.prog (word_made_ent n):=ent_ok' mixed (T:=[s_Trim_ent n]) (tabCons (s_Trim_ok n) tabNil) tabLNil fun x=>by kernel_rfl
abbrev word_Name_sg:List Sg:=[.tree .str]
abbrev word_Name_rs:List Rt:=[.tree .bool]
def word_Name (n:Nat) (x:SgEl word_Name_sg):Option (RtEl word_Name_rs×OutEl word_Name_sg) :=
  bindN (word_made n (x.1,(⟨#[97,98,99,100,101,102,103,104,105,106,107,108,109,110,111,112,113,114,115,116,117,118,119,120,121,122,48,49,50,51,52,53,54,55,56,57,95]⟩:ByteArray),())) fun p1 =>
  bif p1.1.1 then
   bif ile (0:Int) (0:Int) then
    bif ilt (0:Int) (ssize x.1) then
     bindN (s_IndexByte n ((⟨#[97,98,99,100,101,102,103,104,105,106,107,108,109,110,111,112,113,114,115,116,117,118,119,120,121,122]⟩:ByteArray),sat x.1 (0:Int),())) fun p2 =>
     some ((ile (0:Int) p2.1.1,()),((),()))
    else none
   else none
  else
  some ((false,()),((),()))
abbrev word_Name_ent (n:Nat):Ent:=⟨144,word_Name_sg,word_Name_rs,word_Name n⟩
theorem word_Name_ok (n:Nat):EntOk Tryz.prog (word_Name_ent n):=ent_ok' mixed (T:=[word_made_ent n,s_IndexByte_ent n]) (tabCons (word_made_ok n) (tabCons (s_IndexByte_ok n) tabNil)) tabLNil fun x=>by kernel_rfl
abbrev word_Value_sg:List Sg:=[.tree .str]
abbrev word_Value_rs:List Rt:=[.tree .bool]
def word_Value (n:Nat) (x:SgEl word_Value_sg):Option (RtEl word_Value_rs×OutEl word_Value_sg) :=
  bindN (word_made n (x.1,(⟨#[97,98,99,100,101,102,103,104,105,106,107,108,109,110,111,112,113,114,115,116,117,118,119,120,121,122,48,49,50,51,52,53,54,55,56,57,95,45,46]⟩:ByteArray),())) fun p1 =>
  some (p1.1,((),()))
abbrev word_Value_ent (n:Nat):Ent:=⟨256,word_Value_sg,word_Value_rs,word_Value n⟩
theorem word_Value_ok (n:Nat):EntOk Tryz.prog (word_Value_ent n):=ent_ok' mixed (T:=[word_made_ent n]) (tabCons (word_made_ok n) tabNil) tabLNil fun x=>by kernel_rfl
abbrev word_Split_sg:List Sg:=[.tree .str, .tree (.int .u8)]
abbrev word_Split_rs:List Rt:=[.tree (.slice .str)]
def word_Split_l0 (n:Nat):Nat→SgEl [.tree .str, .tree (.int .u8), .own .str]→Option (SgEl [] ⊕ SgEl [.own .str])
  | 0,_=>none
  | g+1,s =>
    bindN (s_IndexByte n (s.1,s.2.1,())) fun p1 =>
    bif ilt p1.1.1 (0:Int) then
     bif roomA s.2.2.1 [s.1] 16 then
      some (Sum.inr (app s.2.2.1 [s.1],()))
     else none
    else
    bif ile (0:Int) (0:Int) then
     bif ile (0:Int) p1.1.1 then
      bif ile p1.1.1 (ssize s.1) then
       bif roomA s.2.2.1 [sext s.1 (0:Int) p1.1.1] 16 then
        bif ile (0:Int) (iadd .i64 p1.1.1 (1:Int)) then
         bif ile (iadd .i64 p1.1.1 (1:Int)) (ssize s.1) then
          bif ile (ssize s.1) (ssize s.1) then
           bindL (word_Split_l0 n g (sext s.1 (iadd .i64 p1.1.1 (1:Int)) (ssize s.1),s.2.1,app s.2.2.1 [sext s.1 (0:Int) p1.1.1],())) (fun a2 =>
            some (Sum.inl ())) fun b3 =>
           some (Sum.inr b3)
          else none
         else none
        else none
       else none
      else none
     else none
    else none
theorem word_Split_l0_ok (n:Nat):∀ g,LEntOk Tryz.prog 111 (nSl word_Split_sg) ⟨0,[.tree .str, .tree (.int .u8), .own .str],0,[],[.own .str],word_Split_l0 n g⟩ g
  | 0=>loop_zero' fun _=>rfl
  | g+1=>loop_step' mixed (T:=[s_IndexByte_ent n]) (tabCons (s_IndexByte_ok n) tabNil) tabLNil (word_Split_l0_ok n g) fun s=>by kernel_rfl
def word_Split (n:Nat) (x:SgEl word_Split_sg):Option (RtEl word_Split_rs×OutEl word_Split_sg) :=
  bindL (word_Split_l0 n n (x.1,x.2.1,[],())) (fun a1 =>
   none) fun b2 =>
  some (b2,((),(),()))
abbrev word_Split_ent (n:Nat):Ent:=⟨111,word_Split_sg,word_Split_rs,word_Split n⟩
theorem word_Split_ok (n:Nat):EntOk Tryz.prog (word_Split_ent n):=ent_ok' mixed (T:=[s_IndexByte_ent n]) (tabCons (s_IndexByte_ok n) tabNil) (tabLCons (word_Split_l0_ok n n) tabLNil) fun x=>by kernel_rfl
abbrev word_Join_sg:List Sg:=[.tree .str, .tree (.slice .str)]
abbrev word_Join_rs:List Rt:=[.tree .str]
def word_Join (n:Nat) (x:SgEl word_Join_sg):Option (RtEl word_Join_rs×OutEl word_Join_sg) :=
  bindN (s_Join n (x.2.1,x.1,())) fun p1 =>
  some (p1.1,((),(),()))
abbrev word_Join_ent (n:Nat):Ent:=⟨82,word_Join_sg,word_Join_rs,word_Join n⟩
theorem word_Join_ok (n:Nat):EntOk Tryz.prog (word_Join_ent n):=ent_ok' mixed (T:=[s_Join_ent n]) (tabCons (s_Join_ok n) tabNil) tabLNil fun x=>by kernel_rfl
abbrev tag_may_sg:List Sg:=[.tree tTag]
abbrev tag_may_rs:List Rt:=[.tree .bool]
def tag_may (n:Nat) (x:SgEl tag_may_sg):Option (RtEl tag_may_rs×OutEl tag_may_sg) :=
  bindN (word_Name n (x.1.1,())) fun p1 =>
  bif p1.1.1 then
   bindN (word_Value n x.1.2) fun p2 =>
   some (p2.1,((),()))
  else
  some ((false,()),((),()))
abbrev tag_may_ent (n:Nat):Ent:=⟨251,tag_may_sg,tag_may_rs,tag_may n⟩
theorem tag_may_ok (n:Nat):EntOk Tryz.prog (tag_may_ent n):=ent_ok' mixed (T:=[word_Name_ent n,word_Value_ent n]) (tabCons (word_Name_ok n) (tabCons (word_Value_ok n) tabNil)) tabLNil fun x=>by kernel_rfl
abbrev tag_order_sg:List Sg:=[.tree tTag, .tree tTag]
abbrev tag_order_rs:List Rt:=[.tree (.int .i64)]
def tag_order (n:Nat) (x:SgEl tag_order_sg):Option (RtEl tag_order_rs×OutEl tag_order_sg) :=
  bindN (s_Compare n (x.1.1,x.2.1.1,())) fun p1 =>
  some (p1.1,((),(),()))
abbrev tag_order_ent (n:Nat):Ent:=⟨254,tag_order_sg,tag_order_rs,tag_order n⟩
theorem tag_order_ok (n:Nat):EntOk Tryz.prog (tag_order_ent n):=ent_ok' mixed (T:=[s_Compare_ent n]) (tabCons (s_Compare_ok n) tabNil) tabLNil fun x=>by kernel_rfl
abbrev tag_Canon1_sg:List Sg:=[.tree tTag]
abbrev tag_Canon1_rs:List Rt:=[.tree .bool]
def tag_Canon1 (n:Nat) (x:SgEl tag_Canon1_sg):Option (RtEl tag_Canon1_rs×OutEl tag_Canon1_sg) :=
  bindN (tag_may n x) fun p1 =>
  some ((!p1.1.1,()),((),()))
abbrev tag_Canon1_ent (n:Nat):Ent:=⟨250,tag_Canon1_sg,tag_Canon1_rs,tag_Canon1 n⟩
theorem tag_Canon1_ok (n:Nat):EntOk Tryz.prog (tag_Canon1_ent n):=ent_ok' mixed (T:=[tag_may_ent n]) (tabCons (tag_may_ok n) tabNil) tabLNil fun x=>by kernel_rfl
abbrev sl_IndexTag_sg:List Sg:=[.tree (.slice tTag), .fnv 250 []]
abbrev sl_IndexTag_rs:List Rt:=[.tree (.int .i64)]
def sl_IndexTag_l0 (n:Nat):Nat→SgEl [.tree (.slice tTag), .fnv 250 [], .tree (.int .i64), .tree (.int .i64)]→Option (SgEl [] ⊕ SgEl [.tree (.int .i64)])
  | 0,_=>none
  | g+1,s =>
    bif ilt s.2.2.2.1 s.2.2.1 then
     bif ile (0:Int) s.2.2.2.1 then
      bindN (lat s.1 (iN s.2.2.2.1)) fun v1 =>
      bindN (tag_Canon1 n (v1,())) fun p2 =>
      bif p2.1.1 then
       some (Sum.inr s.2.2.2)
      else
      bindL (sl_IndexTag_l0 n g (s.1,(),s.2.2.1,iadd .i64 s.2.2.2.1 (1:Int),())) (fun a3 =>
       some (Sum.inl ())) fun b4 =>
      some (Sum.inr b4)
     else none
    else
    some (Sum.inl ())
theorem sl_IndexTag_l0_ok (n:Nat):∀ g,LEntOk Tryz.prog 292 (nSl sl_IndexTag_sg) ⟨0,[.tree (.slice tTag), .fnv 250 [], .tree (.int .i64), .tree (.int .i64)],0,[],[.tree (.int .i64)],sl_IndexTag_l0 n g⟩ g
  | 0=>loop_zero' fun _=>rfl
  | g+1=>loop_step' mixed (T:=[tag_Canon1_ent n]) (tabCons (tag_Canon1_ok n) tabNil) tabLNil (sl_IndexTag_l0_ok n g) fun s=>by kernel_rfl
def sl_IndexTag (n:Nat) (x:SgEl sl_IndexTag_sg):Option (RtEl sl_IndexTag_rs×OutEl sl_IndexTag_sg) :=
  bindL (sl_IndexTag_l0 n n (x.1,(),ilen x.1,(0:Int),())) (fun a1 =>
   some (((-1:Int),()),((),(),()))) fun b2 =>
  some (b2,((),(),()))
abbrev sl_IndexTag_ent (n:Nat):Ent:=⟨292,sl_IndexTag_sg,sl_IndexTag_rs,sl_IndexTag n⟩
theorem sl_IndexTag_ok (n:Nat):EntOk Tryz.prog (sl_IndexTag_ent n):=ent_ok' mixed (T:=[tag_Canon1_ent n]) (tabCons (tag_Canon1_ok n) tabNil) (tabLCons (sl_IndexTag_l0_ok n n) tabLNil) fun x=>by kernel_rfl
abbrev sl_ContainsTag_sg:List Sg:=[.tree (.slice tTag), .fnv 250 []]
abbrev sl_ContainsTag_rs:List Rt:=[.tree .bool]
def sl_ContainsTag (n:Nat) (x:SgEl sl_ContainsTag_sg):Option (RtEl sl_ContainsTag_rs×OutEl sl_ContainsTag_sg) :=
  bindN (sl_IndexTag n (x.1,(),())) fun p1 =>
  some ((ile (0:Int) p1.1.1,()),((),(),()))
abbrev sl_ContainsTag_ent (n:Nat):Ent:=⟨249,sl_ContainsTag_sg,sl_ContainsTag_rs,sl_ContainsTag n⟩
theorem sl_ContainsTag_ok (n:Nat):EntOk Tryz.prog (sl_ContainsTag_ent n):=ent_ok' mixed (T:=[sl_IndexTag_ent n,tag_Canon1_ent n]) (tabCons (sl_IndexTag_ok n) (tabCons (tag_Canon1_ok n) tabNil)) tabLNil fun x=>by kernel_rfl
abbrev tag_Canon_sg:List Sg:=[.tree (.slice tTag)]
abbrev tag_Canon_rs:List Rt:=[.tree (.slice tTag), .tree (.int .i64)]
def tag_Canon_l0 (n:Nat):Nat→SgEl [.own tTag, .tree (.int .i64)]→Option (SgEl [.own tTag] ⊕ SgEl [.tree (.slice tTag), .tree (.int .i64)])
  | 0,_=>none
  | g+1,s =>
    bif ilt s.2.1 (ilen s.1) then
     bif ile (0:Int) (isub .i64 s.2.1 (1:Int)) then
      bindN (lat s.1 (iN (isub .i64 s.2.1 (1:Int)))) fun v1 =>
      bindN (lat s.1 (iN (isub .i64 s.2.1 (1:Int)))) fun v2 =>
      bif ile (0:Int) s.2.1 then
       bindN (lat s.1 (iN s.2.1)) fun v3 =>
       bindN (lat s.1 (iN s.2.1)) fun v4 =>
       bindN (tag_order n (v2,v4,())) fun p5 =>
       bif ieq p5.1.1 (0:Int) then
        some (Sum.inr ([],(5:Int),()))
       else
       bindL (tag_Canon_l0 n g (s.1,iadd .i64 s.2.1 (1:Int),())) (fun a6 =>
        some (Sum.inl a6)) fun b7 =>
       some (Sum.inr b7)
      else none
     else none
    else
    some (Sum.inl (s.1,()))
theorem tag_Canon_l0_ok (n:Nat):∀ g,LEntOk Tryz.prog 196 (nSl tag_Canon_sg) ⟨0,[.own tTag, .tree (.int .i64)],0,[.own tTag],[.tree (.slice tTag), .tree (.int .i64)],tag_Canon_l0 n g⟩ g
  | 0=>loop_zero' fun _=>rfl
  | g+1=>loop_step' mixed (T:=[sl_ContainsTag_ent n,sl_CloneTag_ent n,sl_SortTag_ent n,tag_order_ent n]) (tabCons (sl_ContainsTag_ok n) (tabCons (sl_CloneTag_ok n) (tabCons (sl_SortTag_ok n) (tabCons (tag_order_ok n) tabNil)))) tabLNil (tag_Canon_l0_ok n g) fun s=>by kernel_rfl
def tag_Canon (n:Nat) (x:SgEl tag_Canon_sg):Option (RtEl tag_Canon_rs×OutEl tag_Canon_sg) :=
  bindN (sl_ContainsTag n (x.1,(),())) fun p1 =>
  bif p1.1.1 then
   some (([],(2:Int),()),((),()))
  else
  bif ilt (4:Int) (ilen x.1) then
   some (([],(4:Int),()),((),()))
  else
  bindN (sl_CloneTag n x) fun p2 =>
  bindN (sl_SortTag n (p2.1.1,(),())) fun p3 =>
  bindL (tag_Canon_l0 n n (p3.2.1,(1:Int),())) (fun a4 =>
   some ((a4.1,(0:Int),()),((),()))) fun b5 =>
  some (b5,((),()))
abbrev tag_Canon_ent (n:Nat):Ent:=⟨196,tag_Canon_sg,tag_Canon_rs,tag_Canon n⟩
theorem tag_Canon_ok (n:Nat):EntOk Tryz.prog (tag_Canon_ent n):=ent_ok' mixed (T:=[sl_ContainsTag_ent n,sl_CloneTag_ent n,sl_SortTag_ent n,tag_order_ent n]) (tabCons (sl_ContainsTag_ok n) (tabCons (sl_CloneTag_ok n) (tabCons (sl_SortTag_ok n) (tabCons (tag_order_ok n) tabNil)))) (tabLCons (tag_Canon_l0_ok n n) tabLNil) fun x=>by kernel_rfl
abbrev tag_Find_sg:List Sg:=[.tree (.slice tTag), .tree .str]
abbrev tag_Find_rs:List Rt:=[.tree .str, .tree .bool]
def tag_Find_l0 (n:Nat):Nat→SgEl [.tree .str, .tree (.slice tTag), .tree (.int .i64), .tree (.int .i64)]→Option (SgEl [] ⊕ SgEl [.tree .str, .tree .bool])
  | 0,_=>none
  | g+1,s =>
    bif ilt s.2.2.2.1 s.2.2.1 then
     bif ile (0:Int) s.2.2.2.1 then
      bindN (lat s.2.1 (iN s.2.2.2.1)) fun v1 =>
      bif seq v1.1 s.1 then
       some (Sum.inr (v1.2.1,true,()))
      else
      bindL (tag_Find_l0 n g (s.1,s.2.1,s.2.2.1,iadd .i64 s.2.2.2.1 (1:Int),())) (fun a2 =>
       some (Sum.inl ())) fun b3 =>
      some (Sum.inr b3)
     else none
    else
    some (Sum.inl ())
theorem tag_Find_l0_ok (n:Nat):∀ g,LEntOk Tryz.prog 276 (nSl tag_Find_sg) ⟨0,[.tree .str, .tree (.slice tTag), .tree (.int .i64), .tree (.int .i64)],0,[],[.tree .str, .tree .bool],tag_Find_l0 n g⟩ g
  | 0=>loop_zero' fun _=>rfl
  | g+1=>loop_step' mixed (T:=[]) tabNil tabLNil (tag_Find_l0_ok n g) fun s=>by kernel_rfl
def tag_Find (n:Nat) (x:SgEl tag_Find_sg):Option (RtEl tag_Find_rs×OutEl tag_Find_sg) :=
  bindL (tag_Find_l0 n n (x.2.1,x.1,ilen x.1,(0:Int),())) (fun a1 =>
   some (((⟨#[]⟩:ByteArray),false,()),((),(),()))) fun b2 =>
  some (b2,((),(),()))
abbrev tag_Find_ent (n:Nat):Ent:=⟨276,tag_Find_sg,tag_Find_rs,tag_Find n⟩
theorem tag_Find_ok (n:Nat):EntOk Tryz.prog (tag_Find_ent n):=ent_ok' mixed (T:=[]) tabNil (tabLCons (tag_Find_l0_ok n n) tabLNil) fun x=>by kernel_rfl
abbrev sl_IndexStr_sg:List Sg:=[.tree (.slice .str), .tree .str]
abbrev sl_IndexStr_rs:List Rt:=[.tree (.int .i64)]
def sl_IndexStr_l0 (n:Nat):Nat→SgEl [.tree (.slice .str), .tree .str, .tree (.int .i64), .tree (.int .i64)]→Option (SgEl [] ⊕ SgEl [.tree (.int .i64)])
  | 0,_=>none
  | g+1,s =>
    bif ilt s.2.2.2.1 s.2.2.1 then
     bif ile (0:Int) s.2.2.2.1 then
      bindN (lat s.1 (iN s.2.2.2.1)) fun v1 =>
      bif seq s.2.1 v1 then
       some (Sum.inr s.2.2.2)
      else
      bindL (sl_IndexStr_l0 n g (s.1,s.2.1,s.2.2.1,iadd .i64 s.2.2.2.1 (1:Int),())) (fun a2 =>
       some (Sum.inl ())) fun b3 =>
      some (Sum.inr b3)
     else none
    else
    some (Sum.inl ())
theorem sl_IndexStr_l0_ok (n:Nat):∀ g,LEntOk Tryz.prog 278 (nSl sl_IndexStr_sg) ⟨0,[.tree (.slice .str), .tree .str, .tree (.int .i64), .tree (.int .i64)],0,[],[.tree (.int .i64)],sl_IndexStr_l0 n g⟩ g
  | 0=>loop_zero' fun _=>rfl
  | g+1=>loop_step' mixed (T:=[]) tabNil tabLNil (sl_IndexStr_l0_ok n g) fun s=>by kernel_rfl
def sl_IndexStr (n:Nat) (x:SgEl sl_IndexStr_sg):Option (RtEl sl_IndexStr_rs×OutEl sl_IndexStr_sg) :=
  bindL (sl_IndexStr_l0 n n (x.1,x.2.1,ilen x.1,(0:Int),())) (fun a1 =>
   some (((-1:Int),()),((),(),()))) fun b2 =>
  some (b2,((),(),()))
abbrev sl_IndexStr_ent (n:Nat):Ent:=⟨278,sl_IndexStr_sg,sl_IndexStr_rs,sl_IndexStr n⟩
theorem sl_IndexStr_ok (n:Nat):EntOk Tryz.prog (sl_IndexStr_ent n):=ent_ok' mixed (T:=[]) tabNil (tabLCons (sl_IndexStr_l0_ok n n) tabLNil) fun x=>by kernel_rfl
abbrev sl_ContainsStr_sg:List Sg:=[.tree (.slice .str), .tree .str]
abbrev sl_ContainsStr_rs:List Rt:=[.tree .bool]
def sl_ContainsStr (n:Nat) (x:SgEl sl_ContainsStr_sg):Option (RtEl sl_ContainsStr_rs×OutEl sl_ContainsStr_sg) :=
  bindN (sl_IndexStr n x) fun p1 =>
  some ((ile (0:Int) p1.1.1,()),((),(),()))
abbrev sl_ContainsStr_ent (n:Nat):Ent:=⟨230,sl_ContainsStr_sg,sl_ContainsStr_rs,sl_ContainsStr n⟩
theorem sl_ContainsStr_ok (n:Nat):EntOk Tryz.prog (sl_ContainsStr_ent n):=ent_ok' mixed (T:=[sl_IndexStr_ent n]) (tabCons (sl_IndexStr_ok n) tabNil) tabLNil fun x=>by kernel_rfl
abbrev tag_Only_sg:List Sg:=[.tree (.slice tTag), .tree (.slice .str)]
abbrev tag_Only_rs:List Rt:=[.tree (.slice tTag)]
def tag_Only_l0 (n:Nat):Nat→SgEl [.tree (.slice .str), .own tTag, .tree (.slice tTag), .tree (.int .i64), .tree (.int .i64)]→Option (SgEl [.own tTag] ⊕ SgEl [])
  | 0,_=>none
  | g+1,s =>
    bif ilt s.2.2.2.2.1 s.2.2.2.1 then
     bif ile (0:Int) s.2.2.2.2.1 then
      bindN (lat s.2.2.1 (iN s.2.2.2.2.1)) fun v1 =>
      bindN (sl_ContainsStr n (s.1,v1.1,())) fun p2 =>
      bif p2.1.1 then
       bif roomA s.2.1 [v1] 32 then
        bindL (tag_Only_l0 n g (s.1,app s.2.1 [v1],s.2.2.1,s.2.2.2.1,iadd .i64 s.2.2.2.2.1 (1:Int),())) (fun a3 =>
         some (Sum.inl a3)) fun b4 =>
        some (Sum.inr ())
       else none
      else
      bindL (tag_Only_l0 n g (s.1,s.2.1,s.2.2.1,s.2.2.2.1,iadd .i64 s.2.2.2.2.1 (1:Int),())) (fun a5 =>
       some (Sum.inl a5)) fun b6 =>
      some (Sum.inr ())
     else none
    else
    some (Sum.inl (s.2.1,()))
theorem tag_Only_l0_ok (n:Nat):∀ g,LEntOk Tryz.prog 179 (nSl tag_Only_sg) ⟨0,[.tree (.slice .str), .own tTag, .tree (.slice tTag), .tree (.int .i64), .tree (.int .i64)],0,[.own tTag],[],tag_Only_l0 n g⟩ g
  | 0=>loop_zero' fun _=>rfl
  | g+1=>loop_step' mixed (T:=[sl_ContainsStr_ent n]) (tabCons (sl_ContainsStr_ok n) tabNil) tabLNil (tag_Only_l0_ok n g) fun s=>by kernel_rfl
def tag_Only (n:Nat) (x:SgEl tag_Only_sg):Option (RtEl tag_Only_rs×OutEl tag_Only_sg) :=
  bindL (tag_Only_l0 n n (x.2.1,[],x.1,ilen x.1,(0:Int),())) (fun a1 =>
   some (a1,((),(),()))) fun b2 =>
  none
abbrev tag_Only_ent (n:Nat):Ent:=⟨179,tag_Only_sg,tag_Only_rs,tag_Only n⟩
theorem tag_Only_ok (n:Nat):EntOk Tryz.prog (tag_Only_ent n):=ent_ok' mixed (T:=[sl_ContainsStr_ent n]) (tabCons (sl_ContainsStr_ok n) tabNil) (tabLCons (tag_Only_l0_ok n n) tabLNil) fun x=>by kernel_rfl
abbrev tag_Text_sg:List Sg:=[.tree (.slice tTag)]
abbrev tag_Text_rs:List Rt:=[.tree .str]
def tag_Text_l0 (n:Nat):Nat→SgEl [.own .str, .tree (.slice tTag), .tree (.int .i64), .tree (.int .i64)]→Option (SgEl [.own .str] ⊕ SgEl [])
  | 0,_=>none
  | g+1,s =>
    bif ilt s.2.2.2.1 s.2.2.1 then
     bif ile (0:Int) s.2.2.2.1 then
      bindN (lat s.2.1 (iN s.2.2.2.1)) fun v1 =>
      bindN (word_Join n ((⟨#[61]⟩:ByteArray),[v1.1,v1.2.1],())) fun p2 =>
      bif roomA s.1 [p2.1.1] 16 then
       bindL (tag_Text_l0 n g (app s.1 [p2.1.1],s.2.1,s.2.2.1,iadd .i64 s.2.2.2.1 (1:Int),())) (fun a3 =>
        some (Sum.inl a3)) fun b4 =>
       some (Sum.inr ())
      else none
     else none
    else
    some (Sum.inl (s.1,()))
theorem tag_Text_l0_ok (n:Nat):∀ g,LEntOk Tryz.prog 152 (nSl tag_Text_sg) ⟨0,[.own .str, .tree (.slice tTag), .tree (.int .i64), .tree (.int .i64)],0,[.own .str],[],tag_Text_l0 n g⟩ g
  | 0=>loop_zero' fun _=>rfl
  | g+1=>loop_step' mixed (T:=[word_Join_ent n]) (tabCons (word_Join_ok n) tabNil) tabLNil (tag_Text_l0_ok n g) fun s=>by kernel_rfl
def tag_Text (n:Nat) (x:SgEl tag_Text_sg):Option (RtEl tag_Text_rs×OutEl tag_Text_sg) :=
  bindL (tag_Text_l0 n n ([],x.1,ilen x.1,(0:Int),())) (fun a1 =>
   bindN (word_Join n ((⟨#[44]⟩:ByteArray),a1)) fun p3 =>
   some (p3.1,((),()))) fun b2 =>
  none
abbrev tag_Text_ent (n:Nat):Ent:=⟨152,tag_Text_sg,tag_Text_rs,tag_Text n⟩
theorem tag_Text_ok (n:Nat):EntOk Tryz.prog (tag_Text_ent n):=ent_ok' mixed (T:=[word_Join_ent n]) (tabCons (word_Join_ok n) tabNil) (tabLCons (tag_Text_l0_ok n n) tabLNil) fun x=>by kernel_rfl
abbrev tag_Parse_sg:List Sg:=[.tree .str]
abbrev tag_Parse_rs:List Rt:=[.tree (.slice tTag), .tree (.int .i64)]
def tag_Parse_l0 (n:Nat):Nat→SgEl [.own tTag, .tree (.slice .str), .tree (.int .i64), .tree (.int .i64)]→Option (SgEl [.own tTag] ⊕ SgEl [.tree (.slice tTag), .tree (.int .i64)])
  | 0,_=>none
  | g+1,s =>
    bif ilt s.2.2.2.1 s.2.2.1 then
     bif ile (0:Int) s.2.2.2.1 then
      bindN (lat s.2.1 (iN s.2.2.2.1)) fun v1 =>
      bindN (s_Cut n (v1,(⟨#[61]⟩:ByteArray),())) fun p2 =>
      bif !p2.1.2.2.1 then
       some (Sum.inr ([],(2:Int),()))
      else
      bif roomA s.1 [(p2.1.1,p2.1.2.1,())] 32 then
       bindL (tag_Parse_l0 n g (app s.1 [(p2.1.1,p2.1.2.1,())],s.2.1,s.2.2.1,iadd .i64 s.2.2.2.1 (1:Int),())) (fun a3 =>
        some (Sum.inl a3)) fun b4 =>
       some (Sum.inr b4)
      else none
     else none
    else
    some (Sum.inl (s.1,()))
theorem tag_Parse_l0_ok (n:Nat):∀ g,LEntOk Tryz.prog 169 (nSl tag_Parse_sg) ⟨0,[.own tTag, .tree (.slice .str), .tree (.int .i64), .tree (.int .i64)],0,[.own tTag],[.tree (.slice tTag), .tree (.int .i64)],tag_Parse_l0 n g⟩ g
  | 0=>loop_zero' fun _=>rfl
  | g+1=>loop_step' mixed (T:=[word_Split_ent n,s_Cut_ent n,tag_Canon_ent n]) (tabCons (word_Split_ok n) (tabCons (s_Cut_ok n) (tabCons (tag_Canon_ok n) tabNil))) tabLNil (tag_Parse_l0_ok n g) fun s=>by kernel_rfl
def tag_Parse (n:Nat) (x:SgEl tag_Parse_sg):Option (RtEl tag_Parse_rs×OutEl tag_Parse_sg) :=
  bif seq x.1 (⟨#[]⟩:ByteArray) then
   some (([],(0:Int),()),((),()))
  else
  bindN (word_Split n (x.1,(44:Int),())) fun p1 =>
  bindL (tag_Parse_l0 n n ([],p1.1.1,ilen p1.1.1,(0:Int),())) (fun a2 =>
   bindN (tag_Canon n a2) fun p4 =>
   some (p4.1,((),()))) fun b3 =>
  some (b3,((),()))
abbrev tag_Parse_ent (n:Nat):Ent:=⟨169,tag_Parse_sg,tag_Parse_rs,tag_Parse n⟩
theorem tag_Parse_ok (n:Nat):EntOk Tryz.prog (tag_Parse_ent n):=ent_ok' mixed (T:=[word_Split_ent n,s_Cut_ent n,tag_Canon_ent n]) (tabCons (word_Split_ok n) (tabCons (s_Cut_ok n) (tabCons (tag_Canon_ok n) tabNil))) (tabLCons (tag_Parse_l0_ok n n) tabLNil) fun x=>by kernel_rfl
abbrev key_Text_sg:List Sg:=[.tree tKey]
abbrev key_Text_rs:List Rt:=[.tree .str]
def key_Text (n:Nat) (x:SgEl key_Text_sg):Option (RtEl key_Text_rs×OutEl key_Text_sg) :=
  bif ieq (ilen x.1.2.1) (0:Int) then
   some ((x.1.1,()),((),()))
  else
  bindN (tag_Text n x.1.2) fun p1 =>
  bindN (word_Join n ((⟨#[]⟩:ByteArray),[x.1.1,(⟨#[123]⟩:ByteArray),p1.1.1,(⟨#[125]⟩:ByteArray)],())) fun p2 =>
  some (p2.1,((),()))
abbrev key_Text_ent (n:Nat):Ent:=⟨83,key_Text_sg,key_Text_rs,key_Text n⟩
theorem key_Text_ok (n:Nat):EntOk Tryz.prog (key_Text_ent n):=ent_ok' mixed (T:=[tag_Text_ent n,word_Join_ent n]) (tabCons (tag_Text_ok n) (tabCons (word_Join_ok n) tabNil)) tabLNil fun x=>by kernel_rfl
abbrev key_Parse_sg:List Sg:=[.tree .str]
abbrev key_Parse_rs:List Rt:=[.tree tKey, .tree (.int .i64)]
def key_Parse (n:Nat) (x:SgEl key_Parse_sg):Option (RtEl key_Parse_rs×OutEl key_Parse_sg) :=
  bindN (s_Cut n (x.1,(⟨#[123]⟩:ByteArray),())) fun p1 =>
  bif p1.1.2.2.1 then
   bindN (s_CutSuffix n (p1.1.2.1,(⟨#[125]⟩:ByteArray),())) fun p2 =>
   bif !p2.1.2.1 then
    some ((((⟨#[]⟩:ByteArray),[],()),(2:Int),()),((),()))
   else
   bif seq p2.1.1 (⟨#[]⟩:ByteArray) then
    some ((((⟨#[]⟩:ByteArray),[],()),(2:Int),()),((),()))
   else
   bindN (word_Name n (p1.1.1,())) fun p3 =>
   bif !p3.1.1 then
    some ((((⟨#[]⟩:ByteArray),[],()),(2:Int),()),((),()))
   else
   bindN (tag_Parse n (p2.1.1,())) fun p4 =>
   bif !(ieq p4.1.2.1 (0:Int)) then
    some ((((⟨#[]⟩:ByteArray),[],()),p4.1.2),((),()))
   else
   some (((p1.1.1,p4.1.1,()),(0:Int),()),((),()))
  else
  bindN (word_Name n (p1.1.1,())) fun p5 =>
  bif !p5.1.1 then
   some ((((⟨#[]⟩:ByteArray),[],()),(2:Int),()),((),()))
  else
  bindN (tag_Parse n (p1.1.2.1,())) fun p6 =>
  bif !(ieq p6.1.2.1 (0:Int)) then
   some ((((⟨#[]⟩:ByteArray),[],()),p6.1.2),((),()))
  else
  some (((p1.1.1,p6.1.1,()),(0:Int),()),((),()))
abbrev key_Parse_ent (n:Nat):Ent:=⟨177,key_Parse_sg,key_Parse_rs,key_Parse n⟩
theorem key_Parse_ok (n:Nat):EntOk Tryz.prog (key_Parse_ent n):=ent_ok' mixed (T:=[s_Cut_ent n,s_CutSuffix_ent n,word_Name_ent n,tag_Parse_ent n]) (tabCons (s_Cut_ok n) (tabCons (s_CutSuffix_ok n) (tabCons (word_Name_ok n) (tabCons (tag_Parse_ok n) tabNil)))) tabLNil fun x=>by kernel_rfl
abbrev pick_may_sg:List Sg:=[.tree tPick_match]
abbrev pick_may_rs:List Rt:=[.tree .bool]
def pick_may (n:Nat) (x:SgEl pick_may_sg):Option (RtEl pick_may_rs×OutEl pick_may_sg) :=
  bindN (word_Name n (x.1.1.2.1,())) fun p1 =>
  bif !p1.1.1 then
   some ((false,()),((),()))
  else
  bif ieq x.1.1.1 (1:Int) then
   bindN (word_Value n x.1.1.2.2) fun p2 =>
   some (p2.1,((),()))
  else
  bif ieq x.1.1.1 (2:Int) then
   bindN (word_Value n x.1.1.2.2) fun p3 =>
   some (p3.1,((),()))
  else
  bif ieq x.1.1.1 (3:Int) then
   bif seq x.1.1.2.2.1 (⟨#[]⟩:ByteArray) then
    some ((true,()),((),()))
   else
   bindN (word_Value n x.1.1.2.2) fun p4 =>
   some (p4.1,((),()))
  else
  bif ieq x.1.1.1 (4:Int) then
   some ((seq x.1.1.2.2.1 (⟨#[]⟩:ByteArray),()),((),()))
  else
  some ((false,()),((),()))
abbrev pick_may_ent (n:Nat):Ent:=⟨200,pick_may_sg,pick_may_rs,pick_may n⟩
theorem pick_may_ok (n:Nat):EntOk Tryz.prog (pick_may_ent n):=ent_ok' mixed (T:=[word_Name_ent n,word_Value_ent n]) (tabCons (word_Name_ok n) (tabCons (word_Value_ok n) tabNil)) tabLNil fun x=>by kernel_rfl
abbrev pick_fits_sg:List Sg:=[.tree tPick_match, .tree (.slice tTag)]
abbrev pick_fits_rs:List Rt:=[.tree .bool]
def pick_fits (n:Nat) (x:SgEl pick_fits_sg):Option (RtEl pick_fits_rs×OutEl pick_fits_sg) :=
  bindN (tag_Find n (x.2.1,x.1.1.2.1,())) fun p1 =>
  bif ieq x.1.1.1 (1:Int) then
   bif p1.1.2.1 then
    some ((seq p1.1.1 x.1.1.2.2.1,()),((),(),()))
   else
   some ((false,()),((),(),()))
  else
  bif ieq x.1.1.1 (2:Int) then
   bif p1.1.2.1 then
    some ((!(seq p1.1.1 x.1.1.2.2.1),()),((),(),()))
   else
   some ((true,()),((),(),()))
  else
  bif ieq x.1.1.1 (3:Int) then
   bif p1.1.2.1 then
    bindN (s_HasPrefix n (p1.1.1,x.1.1.2.2)) fun p2 =>
    some (p2.1,((),(),()))
   else
   some ((false,()),((),(),()))
  else
  bif ieq x.1.1.1 (4:Int) then
   some (p1.1.2,((),(),()))
  else
  some ((false,()),((),(),()))
abbrev pick_fits_ent (n:Nat):Ent:=⟨229,pick_fits_sg,pick_fits_rs,pick_fits n⟩
theorem pick_fits_ok (n:Nat):EntOk Tryz.prog (pick_fits_ent n):=ent_ok' mixed (T:=[tag_Find_ent n,s_HasPrefix_ent n]) (tabCons (tag_Find_ok n) (tabCons (s_HasPrefix_ok n) tabNil)) tabLNil fun x=>by kernel_rfl
abbrev pick_Right1_sg:List Sg:=[.tree tMatch]
abbrev pick_Right1_rs:List Rt:=[.tree .bool]
def pick_Right1 (n:Nat) (x:SgEl pick_Right1_sg):Option (RtEl pick_Right1_rs×OutEl pick_Right1_sg) :=
  bindN (pick_may n (x,())) fun p1 =>
  some ((!p1.1.1,()),((),()))
abbrev pick_Right1_ent (n:Nat):Ent:=⟨199,pick_Right1_sg,pick_Right1_rs,pick_Right1 n⟩
theorem pick_Right1_ok (n:Nat):EntOk Tryz.prog (pick_Right1_ent n):=ent_ok' mixed (T:=[pick_may_ent n]) (tabCons (pick_may_ok n) tabNil) tabLNil fun x=>by kernel_rfl
abbrev sl_IndexMatch_sg:List Sg:=[.tree (.slice tMatch), .fnv 199 []]
abbrev sl_IndexMatch_rs:List Rt:=[.tree (.int .i64)]
def sl_IndexMatch_l0 (n:Nat):Nat→SgEl [.tree (.slice tMatch), .fnv 199 [], .tree (.int .i64), .tree (.int .i64)]→Option (SgEl [.fnv 199 []] ⊕ SgEl [.fnv 199 [], .tree (.int .i64)])
  | 0,_=>none
  | g+1,s =>
    bif ilt s.2.2.2.1 s.2.2.1 then
     bif ile (0:Int) s.2.2.2.1 then
      bindN (lat s.1 (iN s.2.2.2.1)) fun v1 =>
      bindN (pick_Right1 n (v1,())) fun p2 =>
      bif p2.1.1 then
       some (Sum.inr ((),s.2.2.2))
      else
      bindL (sl_IndexMatch_l0 n g (s.1,(),s.2.2.1,iadd .i64 s.2.2.2.1 (1:Int),())) (fun a3 =>
       some (Sum.inl ((),()))) fun b4 =>
      some (Sum.inr ((),b4.2))
     else none
    else
    some (Sum.inl ((),()))
theorem sl_IndexMatch_l0_ok (n:Nat):∀ g,LEntOk Tryz.prog 255 (nSl sl_IndexMatch_sg) ⟨0,[.tree (.slice tMatch), .fnv 199 [], .tree (.int .i64), .tree (.int .i64)],0,[.fnv 199 []],[.fnv 199 [], .tree (.int .i64)],sl_IndexMatch_l0 n g⟩ g
  | 0=>loop_zero' fun _=>rfl
  | g+1=>loop_step' mixed (T:=[pick_Right1_ent n]) (tabCons (pick_Right1_ok n) tabNil) tabLNil (sl_IndexMatch_l0_ok n g) fun s=>by kernel_rfl
def sl_IndexMatch (n:Nat) (x:SgEl sl_IndexMatch_sg):Option (RtEl sl_IndexMatch_rs×OutEl sl_IndexMatch_sg) :=
  bindL (sl_IndexMatch_l0 n n (x.1,(),ilen x.1,(0:Int),())) (fun a1 =>
   some (((-1:Int),()),((),(),()))) fun b2 =>
  some (b2.2,((),(),()))
abbrev sl_IndexMatch_ent (n:Nat):Ent:=⟨255,sl_IndexMatch_sg,sl_IndexMatch_rs,sl_IndexMatch n⟩
theorem sl_IndexMatch_ok (n:Nat):EntOk Tryz.prog (sl_IndexMatch_ent n):=ent_ok' mixed (T:=[pick_Right1_ent n]) (tabCons (pick_Right1_ok n) tabNil) (tabLCons (sl_IndexMatch_l0_ok n n) tabLNil) fun x=>by kernel_rfl
abbrev sl_ContainsMatch_sg:List Sg:=[.tree (.slice tMatch), .fnv 199 []]
abbrev sl_ContainsMatch_rs:List Rt:=[.tree .bool]
def sl_ContainsMatch (n:Nat) (x:SgEl sl_ContainsMatch_sg):Option (RtEl sl_ContainsMatch_rs×OutEl sl_ContainsMatch_sg) :=
  bindN (sl_IndexMatch n (x.1,(),())) fun p1 =>
  some ((ile (0:Int) p1.1.1,()),((),(),()))
abbrev sl_ContainsMatch_ent (n:Nat):Ent:=⟨198,sl_ContainsMatch_sg,sl_ContainsMatch_rs,sl_ContainsMatch n⟩
theorem sl_ContainsMatch_ok (n:Nat):EntOk Tryz.prog (sl_ContainsMatch_ent n):=ent_ok' mixed (T:=[sl_IndexMatch_ent n,pick_Right1_ent n]) (tabCons (sl_IndexMatch_ok n) (tabCons (pick_Right1_ok n) tabNil)) tabLNil fun x=>by kernel_rfl
abbrev pick_Right_sg:List Sg:=[.tree (.slice tMatch)]
abbrev pick_Right_rs:List Rt:=[.tree .bool]
def pick_Right (n:Nat) (x:SgEl pick_Right_sg):Option (RtEl pick_Right_rs×OutEl pick_Right_sg) :=
  bif ile (ilen x.1) (4:Int) then
   bindN (sl_ContainsMatch n (x.1,(),())) fun p1 =>
   some ((!p1.1.1,()),((),()))
  else
  some ((false,()),((),()))
abbrev pick_Right_ent (n:Nat):Ent:=⟨147,pick_Right_sg,pick_Right_rs,pick_Right n⟩
theorem pick_Right_ok (n:Nat):EntOk Tryz.prog (pick_Right_ent n):=ent_ok' mixed (T:=[sl_ContainsMatch_ent n]) (tabCons (sl_ContainsMatch_ok n) tabNil) tabLNil fun x=>by kernel_rfl
abbrev pick_Fits1_sg:List Sg:=[.tree tMatch, .box [.tree (.slice tTag)]]
abbrev pick_Fits1_rs:List Rt:=[.tree .bool]
def pick_Fits1 (n:Nat) (x:SgEl pick_Fits1_sg):Option (RtEl pick_Fits1_rs×OutEl pick_Fits1_sg) :=
  bindN (pick_fits n ((x.1,()),x.2.1)) fun p1 =>
  some ((!p1.1.1,()),((),x.2))
abbrev pick_Fits1_ent (n:Nat):Ent:=⟨228,pick_Fits1_sg,pick_Fits1_rs,pick_Fits1 n⟩
theorem pick_Fits1_ok (n:Nat):EntOk Tryz.prog (pick_Fits1_ent n):=ent_ok' mixed (T:=[pick_fits_ent n]) (tabCons (pick_fits_ok n) tabNil) tabLNil fun x=>by kernel_rfl
abbrev sl_IndexMatchF_sg:List Sg:=[.tree (.slice tMatch), .fnv 228 [.slice tTag]]
abbrev sl_IndexMatchF_rs:List Rt:=[.tree (.int .i64)]
def sl_IndexMatchF_l0 (n:Nat):Nat→SgEl [.tree (.slice tMatch), .fnv 228 [.slice tTag], .tree (.int .i64), .tree (.int .i64)]→Option (SgEl [.fnv 228 [.slice tTag]] ⊕ SgEl [.fnv 228 [.slice tTag], .tree (.int .i64)])
  | 0,_=>none
  | g+1,s =>
    bif ilt s.2.2.2.1 s.2.2.1 then
     bif ile (0:Int) s.2.2.2.1 then
      bindN (lat s.1 (iN s.2.2.2.1)) fun v1 =>
      bindN (pick_Fits1 n (v1,s.2.1,())) fun p2 =>
      bif p2.1.1 then
       some (Sum.inr (p2.2.2.1,s.2.2.2))
      else
      bindL (sl_IndexMatchF_l0 n g (s.1,p2.2.2.1,s.2.2.1,iadd .i64 s.2.2.2.1 (1:Int),())) (fun a3 =>
       some (Sum.inl a3)) fun b4 =>
      some (Sum.inr b4)
     else none
    else
    some (Sum.inl (s.2.1,()))
theorem sl_IndexMatchF_l0_ok (n:Nat):∀ g,LEntOk Tryz.prog 255 (nSl sl_IndexMatchF_sg) ⟨0,[.tree (.slice tMatch), .fnv 228 [.slice tTag], .tree (.int .i64), .tree (.int .i64)],0,[.fnv 228 [.slice tTag]],[.fnv 228 [.slice tTag], .tree (.int .i64)],sl_IndexMatchF_l0 n g⟩ g
  | 0=>loop_zero' fun _=>rfl
  | g+1=>loop_step' mixed (T:=[pick_Fits1_ent n]) (tabCons (pick_Fits1_ok n) tabNil) tabLNil (sl_IndexMatchF_l0_ok n g) fun s=>by kernel_rfl
def sl_IndexMatchF (n:Nat) (x:SgEl sl_IndexMatchF_sg):Option (RtEl sl_IndexMatchF_rs×OutEl sl_IndexMatchF_sg) :=
  bindL (sl_IndexMatchF_l0 n n (x.1,x.2.1,ilen x.1,(0:Int),())) (fun a1 =>
   some (((-1:Int),()),((),a1))) fun b2 =>
  some (b2.2,((),b2.1,()))
abbrev sl_IndexMatchF_ent (n:Nat):Ent:=⟨255,sl_IndexMatchF_sg,sl_IndexMatchF_rs,sl_IndexMatchF n⟩
theorem sl_IndexMatchF_ok (n:Nat):EntOk Tryz.prog (sl_IndexMatchF_ent n):=ent_ok' mixed (T:=[pick_Fits1_ent n]) (tabCons (pick_Fits1_ok n) tabNil) (tabLCons (sl_IndexMatchF_l0_ok n n) tabLNil) fun x=>by kernel_rfl
abbrev sl_ContainsMatchF_sg:List Sg:=[.tree (.slice tMatch), .fnv 228 [.slice tTag]]
abbrev sl_ContainsMatchF_rs:List Rt:=[.tree .bool]
def sl_ContainsMatchF (n:Nat) (x:SgEl sl_ContainsMatchF_sg):Option (RtEl sl_ContainsMatchF_rs×OutEl sl_ContainsMatchF_sg) :=
  bindN (sl_IndexMatchF n x) fun p1 =>
  some ((ile (0:Int) p1.1.1,()),((),p1.2.2))
abbrev sl_ContainsMatchF_ent (n:Nat):Ent:=⟨198,sl_ContainsMatchF_sg,sl_ContainsMatchF_rs,sl_ContainsMatchF n⟩
theorem sl_ContainsMatchF_ok (n:Nat):EntOk Tryz.prog (sl_ContainsMatchF_ent n):=ent_ok' mixed (T:=[sl_IndexMatchF_ent n,pick_Fits1_ent n]) (tabCons (sl_IndexMatchF_ok n) (tabCons (pick_Fits1_ok n) tabNil)) tabLNil fun x=>by kernel_rfl
abbrev pick_Fits_sg:List Sg:=[.tree (.slice tTag), .tree (.slice tMatch)]
abbrev pick_Fits_rs:List Rt:=[.tree .bool]
def pick_Fits (n:Nat) (x:SgEl pick_Fits_sg):Option (RtEl pick_Fits_rs×OutEl pick_Fits_sg) :=
  bindN (sl_ContainsMatchF n (x.2.1,(x.1,()),())) fun p1 =>
  some ((!p1.1.1,()),((),(),()))
abbrev pick_Fits_ent (n:Nat):Ent:=⟨178,pick_Fits_sg,pick_Fits_rs,pick_Fits n⟩
theorem pick_Fits_ok (n:Nat):EntOk Tryz.prog (pick_Fits_ent n):=ent_ok' mixed (T:=[pick_Fits1_ent n,sl_ContainsMatchF_ent n]) (tabCons (pick_Fits1_ok n) (tabCons (sl_ContainsMatchF_ok n) tabNil)) tabLNil fun x=>by kernel_rfl
abbrev query_names1_sg:List Sg:=[.tree .str]
abbrev query_names1_rs:List Rt:=[.tree .bool]
def query_names1 (n:Nat) (x:SgEl query_names1_sg):Option (RtEl query_names1_rs×OutEl query_names1_sg) :=
  bindN (word_Name n x) fun p1 =>
  some ((!p1.1.1,()),((),()))
abbrev query_names1_ent (n:Nat):Ent:=⟨204,query_names1_sg,query_names1_rs,query_names1 n⟩
theorem query_names1_ok (n:Nat):EntOk Tryz.prog (query_names1_ent n):=ent_ok' mixed (T:=[word_Name_ent n]) (tabCons (word_Name_ok n) tabNil) tabLNil fun x=>by kernel_rfl
abbrev sl_IndexStrF_sg:List Sg:=[.tree (.slice .str), .fnv 204 []]
abbrev sl_IndexStrF_rs:List Rt:=[.tree (.int .i64)]
def sl_IndexStrF_l0 (n:Nat):Nat→SgEl [.tree (.slice .str), .fnv 204 [], .tree (.int .i64), .tree (.int .i64)]→Option (SgEl [] ⊕ SgEl [.tree (.int .i64)])
  | 0,_=>none
  | g+1,s =>
    bif ilt s.2.2.2.1 s.2.2.1 then
     bif ile (0:Int) s.2.2.2.1 then
      bindN (lat s.1 (iN s.2.2.2.1)) fun v1 =>
      bindN (query_names1 n (v1,())) fun p2 =>
      bif p2.1.1 then
       some (Sum.inr s.2.2.2)
      else
      bindL (sl_IndexStrF_l0 n g (s.1,(),s.2.2.1,iadd .i64 s.2.2.2.1 (1:Int),())) (fun a3 =>
       some (Sum.inl ())) fun b4 =>
      some (Sum.inr b4)
     else none
    else
    some (Sum.inl ())
theorem sl_IndexStrF_l0_ok (n:Nat):∀ g,LEntOk Tryz.prog 260 (nSl sl_IndexStrF_sg) ⟨0,[.tree (.slice .str), .fnv 204 [], .tree (.int .i64), .tree (.int .i64)],0,[],[.tree (.int .i64)],sl_IndexStrF_l0 n g⟩ g
  | 0=>loop_zero' fun _=>rfl
  | g+1=>loop_step' mixed (T:=[query_names1_ent n]) (tabCons (query_names1_ok n) tabNil) tabLNil (sl_IndexStrF_l0_ok n g) fun s=>by kernel_rfl
def sl_IndexStrF (n:Nat) (x:SgEl sl_IndexStrF_sg):Option (RtEl sl_IndexStrF_rs×OutEl sl_IndexStrF_sg) :=
  bindL (sl_IndexStrF_l0 n n (x.1,(),ilen x.1,(0:Int),())) (fun a1 =>
   some (((-1:Int),()),((),(),()))) fun b2 =>
  some (b2,((),(),()))
abbrev sl_IndexStrF_ent (n:Nat):Ent:=⟨260,sl_IndexStrF_sg,sl_IndexStrF_rs,sl_IndexStrF n⟩
theorem sl_IndexStrF_ok (n:Nat):EntOk Tryz.prog (sl_IndexStrF_ent n):=ent_ok' mixed (T:=[query_names1_ent n]) (tabCons (query_names1_ok n) tabNil) (tabLCons (sl_IndexStrF_l0_ok n n) tabLNil) fun x=>by kernel_rfl
abbrev sl_ContainsStrF_sg:List Sg:=[.tree (.slice .str), .fnv 204 []]
abbrev sl_ContainsStrF_rs:List Rt:=[.tree .bool]
def sl_ContainsStrF (n:Nat) (x:SgEl sl_ContainsStrF_sg):Option (RtEl sl_ContainsStrF_rs×OutEl sl_ContainsStrF_sg) :=
  bindN (sl_IndexStrF n (x.1,(),())) fun p1 =>
  some ((ile (0:Int) p1.1.1,()),((),(),()))
abbrev sl_ContainsStrF_ent (n:Nat):Ent:=⟨203,sl_ContainsStrF_sg,sl_ContainsStrF_rs,sl_ContainsStrF n⟩
theorem sl_ContainsStrF_ok (n:Nat):EntOk Tryz.prog (sl_ContainsStrF_ent n):=ent_ok' mixed (T:=[sl_IndexStrF_ent n,query_names1_ent n]) (tabCons (sl_IndexStrF_ok n) (tabCons (query_names1_ok n) tabNil)) tabLNil fun x=>by kernel_rfl
abbrev cell_Empty_sg:List Sg:=[.tree tCell]
abbrev cell_Empty_rs:List Rt:=[.tree .bool]
def cell_Empty (n:Nat) (x:SgEl cell_Empty_sg):Option (RtEl cell_Empty_rs×OutEl cell_Empty_sg) :=
  some ((ilt x.1.1 (1:Int),()),((),()))
abbrev cell_Empty_ent (n:Nat):Ent:=⟨120,cell_Empty_sg,cell_Empty_rs,cell_Empty n⟩
theorem cell_Empty_ok (n:Nat):EntOk Tryz.prog (cell_Empty_ent n):=ent_ok' mixed (T:=[]) tabNil tabLNil fun x=>by kernel_rfl
abbrev cell_counts_sg:List Sg:=[.tree (.int .i64), .tree (.int .i64)]
abbrev cell_counts_rs:List Rt:=[.tree (.int .i64)]
def cell_counts (n:Nat) (x:SgEl cell_counts_sg):Option (RtEl cell_counts_rs×OutEl cell_counts_sg) :=
  bif ilt (isub .i64 (9223372036854775807:Int) x.2.1) x.1 then
   some (((9223372036854775807:Int),()),((),(),()))
  else
  some ((iadd .i64 x.1 x.2.1,()),((),(),()))
abbrev cell_counts_ent (n:Nat):Ent:=⟨231,cell_counts_sg,cell_counts_rs,cell_counts n⟩
theorem cell_counts_ok (n:Nat):EntOk Tryz.prog (cell_counts_ent n):=ent_ok' mixed (T:=[]) tabNil tabLNil fun x=>by kernel_rfl
abbrev cell_two_sg:List Sg:=[.tree tCell, .tree tCell]
abbrev cell_two_rs:List Rt:=[.tree tCell]
def cell_two (n:Nat) (x:SgEl cell_two_sg):Option (RtEl cell_two_rs×OutEl cell_two_sg) :=
  bindN (cell_Empty n x.2) fun p1 =>
  bif p1.1.1 then
   some ((x.1,()),((),(),()))
  else
  bindN (cell_Empty n (x.1,())) fun p2 =>
  bif p2.1.1 then
   some (x.2,((),(),()))
  else
  bindN (cell_counts n (x.1.1,x.2.1.1,())) fun p3 =>
  bindN (sat_Add n (x.1.2.1,x.2.1.2.1,())) fun p4 =>
  some (((p3.1.1,p4.1.1,bif ilt x.2.1.2.2.1 x.1.2.2.1 then x.2.1.2.2.1 else x.1.2.2.1,bif ilt x.1.2.2.2.1 x.2.1.2.2.2.1 then x.2.1.2.2.2.1 else x.1.2.2.2.1,()),()),((),(),()))
abbrev cell_two_ent (n:Nat):Ent:=⟨180,cell_two_sg,cell_two_rs,cell_two n⟩
theorem cell_two_ok (n:Nat):EntOk Tryz.prog (cell_two_ent n):=ent_ok' mixed (T:=[cell_Empty_ent n,cell_counts_ent n,sat_Add_ent n]) (tabCons (cell_Empty_ok n) (tabCons (cell_counts_ok n) (tabCons (sat_Add_ok n) tabNil))) tabLNil fun x=>by kernel_rfl
abbrev cell_Merge_sg:List Sg:=[.tree (.slice tCell)]
abbrev cell_Merge_rs:List Rt:=[.tree tCell]
def cell_Merge_l0 (n:Nat):Nat→SgEl [.boxr tCell, .tree (.slice tCell), .tree (.int .i64), .tree (.int .i64)]→Option (SgEl [.boxr tCell] ⊕ SgEl [])
  | 0,_=>none
  | g+1,s =>
    bif ilt s.2.2.2.1 s.2.2.1 then
     bif ile (0:Int) s.2.2.2.1 then
      bindN (lat s.2.1 (iN s.2.2.2.1)) fun v1 =>
      bindN (cell_two n (s.1,v1,())) fun p2 =>
      bindL (cell_Merge_l0 n g (p2.1.1,s.2.1,s.2.2.1,iadd .i64 s.2.2.2.1 (1:Int),())) (fun a3 =>
       some (Sum.inl a3)) fun b4 =>
      some (Sum.inr ())
     else none
    else
    some (Sum.inl (s.1,()))
theorem cell_Merge_l0_ok (n:Nat):∀ g,LEntOk Tryz.prog 123 (nSl cell_Merge_sg) ⟨0,[.boxr tCell, .tree (.slice tCell), .tree (.int .i64), .tree (.int .i64)],0,[.boxr tCell],[],cell_Merge_l0 n g⟩ g
  | 0=>loop_zero' fun _=>rfl
  | g+1=>loop_step' mixed (T:=[cell_two_ent n]) (tabCons (cell_two_ok n) tabNil) tabLNil (cell_Merge_l0_ok n g) fun s=>by kernel_rfl
def cell_Merge (n:Nat) (x:SgEl cell_Merge_sg):Option (RtEl cell_Merge_rs×OutEl cell_Merge_sg) :=
  bindL (cell_Merge_l0 n n (((0:Int),((0:Int),false,()),(0:Int),(0:Int),()),x.1,ilen x.1,(0:Int),())) (fun a1 =>
   some (a1,((),()))) fun b2 =>
  none
abbrev cell_Merge_ent (n:Nat):Ent:=⟨123,cell_Merge_sg,cell_Merge_rs,cell_Merge n⟩
theorem cell_Merge_ok (n:Nat):EntOk Tryz.prog (cell_Merge_ent n):=ent_ok' mixed (T:=[cell_two_ent n]) (tabCons (cell_two_ok n) tabNil) (tabLCons (cell_Merge_l0_ok n n) tabLNil) fun x=>by kernel_rfl
abbrev cell_Value_sg:List Sg:=[.tree tCell, .tree (.int .i64)]
abbrev cell_Value_rs:List Rt:=[.tree tSum]
def cell_Value (n:Nat) (x:SgEl cell_Value_sg):Option (RtEl cell_Value_rs×OutEl cell_Value_sg) :=
  bif ieq x.2.1 (1:Int) then
   bindN (sat_Of n (x.1.1,())) fun p1 =>
   some (p1.1,((),(),()))
  else
  bif ieq x.2.1 (2:Int) then
   some ((x.1.2.1,()),((),(),()))
  else
  bif ieq x.2.1 (3:Int) then
   bindN (sat_Of n (x.1.2.2.1,())) fun p2 =>
   some (p2.1,((),(),()))
  else
  bif ieq x.2.1 (4:Int) then
   bindN (sat_Of n x.1.2.2.2) fun p3 =>
   some (p3.1,((),(),()))
  else
  some ((((0:Int),false,()),()),((),(),()))
abbrev cell_Value_ent (n:Nat):Ent:=⟨124,cell_Value_sg,cell_Value_rs,cell_Value n⟩
theorem cell_Value_ok (n:Nat):EntOk Tryz.prog (cell_Value_ent n):=ent_ok' mixed (T:=[sat_Of_ent n]) (tabCons (sat_Of_ok n) tabNil) tabLNil fun x=>by kernel_rfl
abbrev row_series_sg:List Sg:=[.tree .str]
abbrev row_series_rs:List Rt:=[.tree tKey, .tree .bool]
def row_series (n:Nat) (x:SgEl row_series_sg):Option (RtEl row_series_rs×OutEl row_series_sg) :=
  bindN (key_Parse n x) fun p1 =>
  bif ieq p1.1.2.1 (0:Int) then
   bindN (key_Text n (p1.1.1,())) fun p2 =>
   some ((p1.1.1,seq p2.1.1 x.1,()),((),()))
  else
  some ((p1.1.1,false,()),((),()))
abbrev row_series_ent (n:Nat):Ent:=⟨119,row_series_sg,row_series_rs,row_series n⟩
theorem row_series_ok (n:Nat):EntOk Tryz.prog (row_series_ent n):=ent_ok' mixed (T:=[key_Parse_ent n,key_Text_ent n]) (tabCons (key_Parse_ok n) (tabCons (key_Text_ok n) tabNil)) tabLNil fun x=>by kernel_rfl
abbrev row_Answer1_sg:List Sg:=[.tree tItem, .tree tItem]
abbrev row_Answer1_rs:List Rt:=[.tree (.int .i64)]
def row_Answer1 (n:Nat) (x:SgEl row_Answer1_sg):Option (RtEl row_Answer1_rs×OutEl row_Answer1_sg) :=
  bindN (s_Compare n (x.1.2.1,x.2.1.2.1,())) fun p1 =>
  some (p1.1,((),(),()))
abbrev row_Answer1_ent (n:Nat):Ent:=⟨117,row_Answer1_sg,row_Answer1_rs,row_Answer1 n⟩
theorem row_Answer1_ok (n:Nat):EntOk Tryz.prog (row_Answer1_ent n):=ent_ok' mixed (T:=[s_Compare_ent n]) (tabCons (s_Compare_ok n) tabNil) tabLNil fun x=>by kernel_rfl
abbrev sl_insItem_sg:List Sg:=[.own tItem, .tree (.int .i64), .tree (.int .i64), .fnv 117 []]
abbrev sl_insItem_rs:List Rt:=[]
def sl_insItem_l1 (n:Nat):Nat→SgEl [.own tItem, .tree (.int .i64), .tree (.int .i64), .fnv 117 [], .tree (.int .i64), .tree (.int .i64)]→Option (SgEl [.own tItem, .tree (.int .i64), .tree (.int .i64), .fnv 117 [], .tree (.int .i64)] ⊕ SgEl [])
  | 0,_=>none
  | g+1,s =>
    bif ilt s.2.1 s.2.2.2.2.2.1 then
     bif ile (0:Int) s.2.2.2.2.2.1 then
      bindN (lat s.1 (iN s.2.2.2.2.2.1)) fun v1 =>
      bindN (lat s.1 (iN s.2.2.2.2.2.1)) fun v2 =>
      bif ile (0:Int) (isub .i64 s.2.2.2.2.2.1 (1:Int)) then
       bindN (lat s.1 (iN (isub .i64 s.2.2.2.2.2.1 (1:Int)))) fun v3 =>
       bindN (lat s.1 (iN (isub .i64 s.2.2.2.2.2.1 (1:Int)))) fun v4 =>
       bindN (row_Answer1 n (v2,v4,())) fun p5 =>
       bif ilt p5.1.1 (0:Int) then
        bif ile (0:Int) (isub .i64 s.2.2.2.2.2.1 (1:Int)) then
         bindN (lat s.1 (iN (isub .i64 s.2.2.2.2.2.1 (1:Int)))) fun v6 =>
         bindN (lat s.1 (iN (isub .i64 s.2.2.2.2.2.1 (1:Int)))) fun v7 =>
         bif ile (0:Int) s.2.2.2.2.2.1 then
          bindN (lat s.1 (iN s.2.2.2.2.2.1)) fun v8 =>
          bindN (lat s.1 (iN s.2.2.2.2.2.1)) fun v9 =>
          bif ile (0:Int) s.2.2.2.2.2.1 then
           bindN (lat s.1 (iN s.2.2.2.2.2.1)) fun v10 =>
           bindN (lat s.1 (iN s.2.2.2.2.2.1)) fun v11 =>
           bif ile (0:Int) (isub .i64 s.2.2.2.2.2.1 (1:Int)) then
            bindN (lat (lput s.1 (iN s.2.2.2.2.2.1) v7) (iN (isub .i64 s.2.2.2.2.2.1 (1:Int)))) fun v12 =>
            bindN (lat (lput s.1 (iN s.2.2.2.2.2.1) v7) (iN (isub .i64 s.2.2.2.2.2.1 (1:Int)))) fun v13 =>
            bindL (sl_insItem_l1 n g (lput (lput s.1 (iN s.2.2.2.2.2.1) v7) (iN (isub .i64 s.2.2.2.2.2.1 (1:Int))) v9,s.2.1,s.2.2.1,(),s.2.2.2.2.1,isub .i64 s.2.2.2.2.2.1 (1:Int),())) (fun a14 =>
             some (Sum.inl (a14.1,a14.2.1,a14.2.2.1,(),a14.2.2.2.2))) fun b15 =>
            some (Sum.inr ())
           else none
          else none
         else none
        else none
       else
       some (Sum.inl (s.1,s.2.1,s.2.2.1,(),s.2.2.2.2.1,()))
      else none
     else none
    else
    some (Sum.inl (s.1,s.2.1,s.2.2.1,(),s.2.2.2.2.1,()))
theorem sl_insItem_l1_ok (n:Nat):∀ g,LEntOk Tryz.prog 224 (nSl sl_insItem_sg) ⟨1,[.own tItem, .tree (.int .i64), .tree (.int .i64), .fnv 117 [], .tree (.int .i64), .tree (.int .i64)],2,[.own tItem, .tree (.int .i64), .tree (.int .i64), .fnv 117 [], .tree (.int .i64)],[],sl_insItem_l1 n g⟩ g
  | 0=>loop_zero' fun _=>rfl
  | g+1=>loop_step' mixed (T:=[row_Answer1_ent n]) (tabCons (row_Answer1_ok n) tabNil) tabLNil (sl_insItem_l1_ok n g) fun s=>by kernel_rfl
def sl_insItem_l0 (n:Nat):Nat→SgEl [.own tItem, .tree (.int .i64), .tree (.int .i64), .fnv 117 [], .tree (.int .i64)]→Option (SgEl [.own tItem] ⊕ SgEl [])
  | 0,_=>none
  | g+1,s =>
    bif ilt s.2.2.2.2.1 s.2.2.1 then
     bindL (sl_insItem_l1 n n (s.1,s.2.1,s.2.2.1,(),s.2.2.2.2.1,s.2.2.2.2)) (fun a1 =>
      bindL (sl_insItem_l0 n g (a1.1,a1.2.1,a1.2.2.1,(),iadd .i64 a1.2.2.2.2.1 (1:Int),())) (fun a3 =>
       some (Sum.inl a3)) fun b4 =>
      some (Sum.inr ())) fun b2 =>
     none
    else
    some (Sum.inl (s.1,()))
theorem sl_insItem_l0_ok (n:Nat):∀ g,LEntOk Tryz.prog 224 (nSl sl_insItem_sg) ⟨0,[.own tItem, .tree (.int .i64), .tree (.int .i64), .fnv 117 [], .tree (.int .i64)],0,[.own tItem],[],sl_insItem_l0 n g⟩ g
  | 0=>loop_zero' fun _=>rfl
  | g+1=>loop_step' mixed (T:=[row_Answer1_ent n]) (tabCons (row_Answer1_ok n) tabNil) (tabLCons (sl_insItem_l1_ok n n) tabLNil) (sl_insItem_l0_ok n g) fun s=>by kernel_rfl
def sl_insItem (n:Nat) (x:SgEl sl_insItem_sg):Option (RtEl sl_insItem_rs×OutEl sl_insItem_sg) :=
  bindL (sl_insItem_l0 n n (x.1,x.2.1,x.2.2.1,(),iadd .i64 x.2.1 (1:Int),())) (fun a1 =>
   some ((),(a1.1,(),(),(),()))) fun b2 =>
  none
abbrev sl_insItem_ent (n:Nat):Ent:=⟨224,sl_insItem_sg,sl_insItem_rs,sl_insItem n⟩
theorem sl_insItem_ok (n:Nat):EntOk Tryz.prog (sl_insItem_ent n):=ent_ok' mixed (T:=[row_Answer1_ent n]) (tabCons (row_Answer1_ok n) tabNil) (tabLCons (sl_insItem_l0_ok n n) (tabLCons (sl_insItem_l1_ok n n) tabLNil)) fun x=>by kernel_rfl
abbrev sl_swapItem_sg:List Sg:=[.own tItem, .tree (.int .i64), .tree (.int .i64), .tree (.int .i64), .fnv 117 []]
abbrev sl_swapItem_rs:List Rt:=[]
def sl_swapItem_l0 (n:Nat):Nat→SgEl [.own tItem, .tree (.int .i64), .tree (.int .i64), .tree (.int .i64), .tree (.int .i64)]→Option (SgEl [.own tItem] ⊕ SgEl [])
  | 0,_=>none
  | g+1,s =>
    bif ilt s.2.2.2.2.1 s.2.2.2.1 then
     bif ile (0:Int) (iadd .i64 s.2.2.1 s.2.2.2.2.1) then
      bindN (lat s.1 (iN (iadd .i64 s.2.2.1 s.2.2.2.2.1))) fun v1 =>
      bindN (lat s.1 (iN (iadd .i64 s.2.2.1 s.2.2.2.2.1))) fun v2 =>
      bif ile (0:Int) (iadd .i64 s.2.1 s.2.2.2.2.1) then
       bindN (lat s.1 (iN (iadd .i64 s.2.1 s.2.2.2.2.1))) fun v3 =>
       bindN (lat s.1 (iN (iadd .i64 s.2.1 s.2.2.2.2.1))) fun v4 =>
       bif ile (0:Int) (iadd .i64 s.2.1 s.2.2.2.2.1) then
        bindN (lat s.1 (iN (iadd .i64 s.2.1 s.2.2.2.2.1))) fun v5 =>
        bindN (lat s.1 (iN (iadd .i64 s.2.1 s.2.2.2.2.1))) fun v6 =>
        bif ile (0:Int) (iadd .i64 s.2.2.1 s.2.2.2.2.1) then
         bindN (lat (lput s.1 (iN (iadd .i64 s.2.1 s.2.2.2.2.1)) v2) (iN (iadd .i64 s.2.2.1 s.2.2.2.2.1))) fun v7 =>
         bindN (lat (lput s.1 (iN (iadd .i64 s.2.1 s.2.2.2.2.1)) v2) (iN (iadd .i64 s.2.2.1 s.2.2.2.2.1))) fun v8 =>
         bindL (sl_swapItem_l0 n g (lput (lput s.1 (iN (iadd .i64 s.2.1 s.2.2.2.2.1)) v2) (iN (iadd .i64 s.2.2.1 s.2.2.2.2.1)) v4,s.2.1,s.2.2.1,s.2.2.2.1,iadd .i64 s.2.2.2.2.1 (1:Int),())) (fun a9 =>
          some (Sum.inl a9)) fun b10 =>
         some (Sum.inr ())
        else none
       else none
      else none
     else none
    else
    some (Sum.inl (s.1,()))
theorem sl_swapItem_l0_ok (n:Nat):∀ g,LEntOk Tryz.prog 311 (nSl sl_swapItem_sg) ⟨0,[.own tItem, .tree (.int .i64), .tree (.int .i64), .tree (.int .i64), .tree (.int .i64)],0,[.own tItem],[],sl_swapItem_l0 n g⟩ g
  | 0=>loop_zero' fun _=>rfl
  | g+1=>loop_step' mixed (T:=[row_Answer1_ent n]) (tabCons (row_Answer1_ok n) tabNil) tabLNil (sl_swapItem_l0_ok n g) fun s=>by kernel_rfl
def sl_swapItem (n:Nat) (x:SgEl sl_swapItem_sg):Option (RtEl sl_swapItem_rs×OutEl sl_swapItem_sg) :=
  bindL (sl_swapItem_l0 n n (x.1,x.2.1,x.2.2.1,x.2.2.2.1,(0:Int),())) (fun a1 =>
   some ((),(a1.1,(),(),(),(),()))) fun b2 =>
  none
abbrev sl_swapItem_ent (n:Nat):Ent:=⟨311,sl_swapItem_sg,sl_swapItem_rs,sl_swapItem n⟩
theorem sl_swapItem_ok (n:Nat):EntOk Tryz.prog (sl_swapItem_ent n):=ent_ok' mixed (T:=[row_Answer1_ent n]) (tabCons (row_Answer1_ok n) tabNil) (tabLCons (sl_swapItem_l0_ok n n) tabLNil) fun x=>by kernel_rfl
abbrev sl_rotItem_sg:List Sg:=[.own tItem, .tree (.int .i64), .tree (.int .i64), .tree (.int .i64), .fnv 117 []]
abbrev sl_rotItem_rs:List Rt:=[]
def sl_rotItem_l0 (n:Nat):Nat→SgEl [.own tItem, .tree (.int .i64), .fnv 117 [], .tree (.int .i64), .tree (.int .i64)]→Option (SgEl [.own tItem, .tree (.int .i64), .fnv 117 [], .tree (.int .i64)] ⊕ SgEl [])
  | 0,_=>none
  | g+1,s =>
    bif !(ieq s.2.2.2.1 s.2.2.2.2.1) then
     bif ilt s.2.2.2.2.1 s.2.2.2.1 then
      bindN (sl_swapItem n (s.1,isub .i64 s.2.1 s.2.2.2.1,s.2.1,s.2.2.2.2.1,(),())) fun p1 =>
      bindL (sl_rotItem_l0 n g (p1.2.1,s.2.1,(),isub .i64 s.2.2.2.1 s.2.2.2.2.1,s.2.2.2.2)) (fun a2 =>
       some (Sum.inl (a2.1,a2.2.1,(),a2.2.2.2))) fun b3 =>
      some (Sum.inr ())
     else
     bindN (sl_swapItem n (s.1,isub .i64 s.2.1 s.2.2.2.1,isub .i64 (iadd .i64 s.2.1 s.2.2.2.2.1) s.2.2.2.1,s.2.2.2.1,(),())) fun p4 =>
     bindL (sl_rotItem_l0 n g (p4.2.1,s.2.1,(),s.2.2.2.1,isub .i64 s.2.2.2.2.1 s.2.2.2.1,())) (fun a5 =>
      some (Sum.inl (a5.1,a5.2.1,(),a5.2.2.2))) fun b6 =>
     some (Sum.inr ())
    else
    some (Sum.inl (s.1,s.2.1,(),s.2.2.2.1,()))
theorem sl_rotItem_l0_ok (n:Nat):∀ g,LEntOk Tryz.prog 274 (nSl sl_rotItem_sg) ⟨0,[.own tItem, .tree (.int .i64), .fnv 117 [], .tree (.int .i64), .tree (.int .i64)],0,[.own tItem, .tree (.int .i64), .fnv 117 [], .tree (.int .i64)],[],sl_rotItem_l0 n g⟩ g
  | 0=>loop_zero' fun _=>rfl
  | g+1=>loop_step' mixed (T:=[sl_swapItem_ent n,row_Answer1_ent n]) (tabCons (sl_swapItem_ok n) (tabCons (row_Answer1_ok n) tabNil)) tabLNil (sl_rotItem_l0_ok n g) fun s=>by kernel_rfl
def sl_rotItem (n:Nat) (x:SgEl sl_rotItem_sg):Option (RtEl sl_rotItem_rs×OutEl sl_rotItem_sg) :=
  bindL (sl_rotItem_l0 n n (x.1,x.2.2.1,(),isub .i64 x.2.2.1 x.2.1,isub .i64 x.2.2.2.1 x.2.2.1,())) (fun a1 =>
   bindN (sl_swapItem n (a1.1,isub .i64 a1.2.1 a1.2.2.2.1,a1.2.1,a1.2.2.2.1,(),())) fun p3 =>
   some ((),(p3.2.1,(),(),(),(),()))) fun b2 =>
  none
abbrev sl_rotItem_ent (n:Nat):Ent:=⟨274,sl_rotItem_sg,sl_rotItem_rs,sl_rotItem n⟩
theorem sl_rotItem_ok (n:Nat):EntOk Tryz.prog (sl_rotItem_ent n):=ent_ok' mixed (T:=[sl_swapItem_ent n,row_Answer1_ent n]) (tabCons (sl_swapItem_ok n) (tabCons (row_Answer1_ok n) tabNil)) (tabLCons (sl_rotItem_l0_ok n n) tabLNil) fun x=>by kernel_rfl
abbrev sl_symItem_sg:List Sg:=[.own tItem, .tree (.int .i64), .tree (.int .i64), .tree (.int .i64), .fnv 117 []]
abbrev sl_symItem_rs:List Rt:=[]
def sl_symItem_l4 (n:Nat):Nat→SgEl [.own tItem, .tree (.int .i64), .tree (.int .i64), .tree (.int .i64), .fnv 117 [], .tree (.int .i64), .tree (.int .i64), .tree (.int .i64), .tree (.int .i64), .tree (.int .i64)]→Option (SgEl [.own tItem, .tree (.int .i64), .tree (.int .i64), .tree (.int .i64), .fnv 117 [], .tree (.int .i64), .tree (.int .i64), .tree (.int .i64)] ⊕ SgEl [])
  | 0,_=>none
  | g+1,s =>
    bif ilt s.2.2.2.2.2.2.2.1 s.2.2.2.2.2.2.2.2.1 then
     bif ilt (1:Int) (0:Int) then
      none
     else
     bif ile (0:Int) (isub .i64 s.2.2.2.2.2.2.2.2.2.1 (iconv .i64 (ishr .u64 (iconv .u64 (iadd .i64 s.2.2.2.2.2.2.2.1 s.2.2.2.2.2.2.2.2.1)) (1:Int)))) then
      bindN (lat s.1 (iN (isub .i64 s.2.2.2.2.2.2.2.2.2.1 (iconv .i64 (ishr .u64 (iconv .u64 (iadd .i64 s.2.2.2.2.2.2.2.1 s.2.2.2.2.2.2.2.2.1)) (1:Int)))))) fun v1 =>
      bindN (lat s.1 (iN (isub .i64 s.2.2.2.2.2.2.2.2.2.1 (iconv .i64 (ishr .u64 (iconv .u64 (iadd .i64 s.2.2.2.2.2.2.2.1 s.2.2.2.2.2.2.2.2.1)) (1:Int)))))) fun v2 =>
      bif ile (0:Int) (iconv .i64 (ishr .u64 (iconv .u64 (iadd .i64 s.2.2.2.2.2.2.2.1 s.2.2.2.2.2.2.2.2.1)) (1:Int))) then
       bindN (lat s.1 (iN (iconv .i64 (ishr .u64 (iconv .u64 (iadd .i64 s.2.2.2.2.2.2.2.1 s.2.2.2.2.2.2.2.2.1)) (1:Int))))) fun v3 =>
       bindN (lat s.1 (iN (iconv .i64 (ishr .u64 (iconv .u64 (iadd .i64 s.2.2.2.2.2.2.2.1 s.2.2.2.2.2.2.2.2.1)) (1:Int))))) fun v4 =>
       bindN (row_Answer1 n (v2,v4,())) fun p5 =>
       bif !(ilt p5.1.1 (0:Int)) then
        bindL (sl_symItem_l4 n g (s.1,s.2.1,s.2.2.1,s.2.2.2.1,(),s.2.2.2.2.2.1,s.2.2.2.2.2.2.1,iadd .i64 (iconv .i64 (ishr .u64 (iconv .u64 (iadd .i64 s.2.2.2.2.2.2.2.1 s.2.2.2.2.2.2.2.2.1)) (1:Int))) (1:Int),s.2.2.2.2.2.2.2.2)) (fun a6 =>
         some (Sum.inl (a6.1,a6.2.1,a6.2.2.1,a6.2.2.2.1,(),a6.2.2.2.2.2))) fun b7 =>
        some (Sum.inr ())
       else
       bindL (sl_symItem_l4 n g (s.1,s.2.1,s.2.2.1,s.2.2.2.1,(),s.2.2.2.2.2.1,s.2.2.2.2.2.2.1,s.2.2.2.2.2.2.2.1,iconv .i64 (ishr .u64 (iconv .u64 (iadd .i64 s.2.2.2.2.2.2.2.1 s.2.2.2.2.2.2.2.2.1)) (1:Int)),s.2.2.2.2.2.2.2.2.2)) (fun a8 =>
        some (Sum.inl (a8.1,a8.2.1,a8.2.2.1,a8.2.2.2.1,(),a8.2.2.2.2.2))) fun b9 =>
       some (Sum.inr ())
      else none
     else none
    else
    some (Sum.inl (s.1,s.2.1,s.2.2.1,s.2.2.2.1,(),s.2.2.2.2.2.1,s.2.2.2.2.2.2.1,s.2.2.2.2.2.2.2.1,()))
theorem sl_symItem_l4_ok (n:Nat):∀ g,LEntOk Tryz.prog 225 (nSl sl_symItem_sg) ⟨4,[.own tItem, .tree (.int .i64), .tree (.int .i64), .tree (.int .i64), .fnv 117 [], .tree (.int .i64), .tree (.int .i64), .tree (.int .i64), .tree (.int .i64), .tree (.int .i64)],8,[.own tItem, .tree (.int .i64), .tree (.int .i64), .tree (.int .i64), .fnv 117 [], .tree (.int .i64), .tree (.int .i64), .tree (.int .i64)],[],sl_symItem_l4 n g⟩ g
  | 0=>loop_zero' fun _=>rfl
  | g+1=>loop_step' mixed (T:=[sl_rotItem_ent n,row_Answer1_ent n]) (tabCons (sl_rotItem_ok n) (tabCons (row_Answer1_ok n) tabNil)) tabLNil (sl_symItem_l4_ok n g) fun s=>by kernel_rfl
def sl_symItem_l3 (n:Nat):Nat→SgEl [.own tItem, .tree (.int .i64), .tree (.int .i64)]→Option (SgEl [.own tItem] ⊕ SgEl [])
  | 0,_=>none
  | g+1,s =>
    bif ilt s.2.1 s.2.2.1 then
     bif ile (0:Int) (isub .i64 s.2.2.1 (1:Int)) then
      bindN (lat s.1 (iN (isub .i64 s.2.2.1 (1:Int)))) fun v1 =>
      bindN (lat s.1 (iN (isub .i64 s.2.2.1 (1:Int)))) fun v2 =>
      bif ile (0:Int) s.2.2.1 then
       bindN (lat s.1 (iN s.2.2.1)) fun v3 =>
       bindN (lat s.1 (iN s.2.2.1)) fun v4 =>
       bif ile (0:Int) s.2.2.1 then
        bindN (lat s.1 (iN s.2.2.1)) fun v5 =>
        bindN (lat s.1 (iN s.2.2.1)) fun v6 =>
        bif ile (0:Int) (isub .i64 s.2.2.1 (1:Int)) then
         bindN (lat (lput s.1 (iN s.2.2.1) v2) (iN (isub .i64 s.2.2.1 (1:Int)))) fun v7 =>
         bindN (lat (lput s.1 (iN s.2.2.1) v2) (iN (isub .i64 s.2.2.1 (1:Int)))) fun v8 =>
         bindL (sl_symItem_l3 n g (lput (lput s.1 (iN s.2.2.1) v2) (iN (isub .i64 s.2.2.1 (1:Int))) v4,s.2.1,isub .i64 s.2.2.1 (1:Int),())) (fun a9 =>
          some (Sum.inl a9)) fun b10 =>
         some (Sum.inr ())
        else none
       else none
      else none
     else none
    else
    some (Sum.inl (s.1,()))
theorem sl_symItem_l3_ok (n:Nat):∀ g,LEntOk Tryz.prog 225 (nSl sl_symItem_sg) ⟨3,[.own tItem, .tree (.int .i64), .tree (.int .i64)],6,[.own tItem],[],sl_symItem_l3 n g⟩ g
  | 0=>loop_zero' fun _=>rfl
  | g+1=>loop_step' mixed (T:=[sl_rotItem_ent n,row_Answer1_ent n]) (tabCons (sl_rotItem_ok n) (tabCons (row_Answer1_ok n) tabNil)) (tabLCons (sl_symItem_l4_ok n n) tabLNil) (sl_symItem_l3_ok n g) fun s=>by kernel_rfl
def sl_symItem_l2 (n:Nat):Nat→SgEl [.own tItem, .tree (.int .i64), .fnv 117 [], .tree (.int .i64), .tree (.int .i64)]→Option (SgEl [.own tItem, .tree (.int .i64), .tree (.int .i64)] ⊕ SgEl [])
  | 0,_=>none
  | g+1,s =>
    bif ilt s.2.2.2.1 s.2.2.2.2.1 then
     bif ilt (1:Int) (0:Int) then
      none
     else
     bif ile (0:Int) s.2.1 then
      bindN (lat s.1 (iN s.2.1)) fun v1 =>
      bindN (lat s.1 (iN s.2.1)) fun v2 =>
      bif ile (0:Int) (iconv .i64 (ishr .u64 (iconv .u64 (iadd .i64 s.2.2.2.1 s.2.2.2.2.1)) (1:Int))) then
       bindN (lat s.1 (iN (iconv .i64 (ishr .u64 (iconv .u64 (iadd .i64 s.2.2.2.1 s.2.2.2.2.1)) (1:Int))))) fun v3 =>
       bindN (lat s.1 (iN (iconv .i64 (ishr .u64 (iconv .u64 (iadd .i64 s.2.2.2.1 s.2.2.2.2.1)) (1:Int))))) fun v4 =>
       bindN (row_Answer1 n (v2,v4,())) fun p5 =>
       bif !(ilt p5.1.1 (0:Int)) then
        bindL (sl_symItem_l2 n g (s.1,s.2.1,(),iadd .i64 (iconv .i64 (ishr .u64 (iconv .u64 (iadd .i64 s.2.2.2.1 s.2.2.2.2.1)) (1:Int))) (1:Int),s.2.2.2.2)) (fun a6 =>
         some (Sum.inl a6)) fun b7 =>
        some (Sum.inr ())
       else
       bindL (sl_symItem_l2 n g (s.1,s.2.1,(),s.2.2.2.1,iconv .i64 (ishr .u64 (iconv .u64 (iadd .i64 s.2.2.2.1 s.2.2.2.2.1)) (1:Int)),())) (fun a8 =>
        some (Sum.inl a8)) fun b9 =>
       some (Sum.inr ())
      else none
     else none
    else
    some (Sum.inl (s.1,s.2.1,s.2.2.2.1,()))
theorem sl_symItem_l2_ok (n:Nat):∀ g,LEntOk Tryz.prog 225 (nSl sl_symItem_sg) ⟨2,[.own tItem, .tree (.int .i64), .fnv 117 [], .tree (.int .i64), .tree (.int .i64)],4,[.own tItem, .tree (.int .i64), .tree (.int .i64)],[],sl_symItem_l2 n g⟩ g
  | 0=>loop_zero' fun _=>rfl
  | g+1=>loop_step' mixed (T:=[sl_rotItem_ent n,row_Answer1_ent n]) (tabCons (sl_rotItem_ok n) (tabCons (row_Answer1_ok n) tabNil)) (tabLCons (sl_symItem_l3_ok n n) (tabLCons (sl_symItem_l4_ok n n) tabLNil)) (sl_symItem_l2_ok n g) fun s=>by kernel_rfl
def sl_symItem_l1 (n:Nat):Nat→SgEl [.own tItem, .tree (.int .i64), .tree (.int .i64)]→Option (SgEl [.own tItem] ⊕ SgEl [])
  | 0,_=>none
  | g+1,s =>
    bif ilt s.2.2.1 (isub .i64 s.2.1 (1:Int)) then
     bif ile (0:Int) (iadd .i64 s.2.2.1 (1:Int)) then
      bindN (lat s.1 (iN (iadd .i64 s.2.2.1 (1:Int)))) fun v1 =>
      bindN (lat s.1 (iN (iadd .i64 s.2.2.1 (1:Int)))) fun v2 =>
      bif ile (0:Int) s.2.2.1 then
       bindN (lat s.1 (iN s.2.2.1)) fun v3 =>
       bindN (lat s.1 (iN s.2.2.1)) fun v4 =>
       bif ile (0:Int) s.2.2.1 then
        bindN (lat s.1 (iN s.2.2.1)) fun v5 =>
        bindN (lat s.1 (iN s.2.2.1)) fun v6 =>
        bif ile (0:Int) (iadd .i64 s.2.2.1 (1:Int)) then
         bindN (lat (lput s.1 (iN s.2.2.1) v2) (iN (iadd .i64 s.2.2.1 (1:Int)))) fun v7 =>
         bindN (lat (lput s.1 (iN s.2.2.1) v2) (iN (iadd .i64 s.2.2.1 (1:Int)))) fun v8 =>
         bindL (sl_symItem_l1 n g (lput (lput s.1 (iN s.2.2.1) v2) (iN (iadd .i64 s.2.2.1 (1:Int))) v4,s.2.1,iadd .i64 s.2.2.1 (1:Int),())) (fun a9 =>
          some (Sum.inl a9)) fun b10 =>
         some (Sum.inr ())
        else none
       else none
      else none
     else none
    else
    some (Sum.inl (s.1,()))
theorem sl_symItem_l1_ok (n:Nat):∀ g,LEntOk Tryz.prog 225 (nSl sl_symItem_sg) ⟨1,[.own tItem, .tree (.int .i64), .tree (.int .i64)],2,[.own tItem],[],sl_symItem_l1 n g⟩ g
  | 0=>loop_zero' fun _=>rfl
  | g+1=>loop_step' mixed (T:=[sl_rotItem_ent n,row_Answer1_ent n]) (tabCons (sl_rotItem_ok n) (tabCons (row_Answer1_ok n) tabNil)) (tabLCons (sl_symItem_l2_ok n n) (tabLCons (sl_symItem_l3_ok n n) (tabLCons (sl_symItem_l4_ok n n) tabLNil))) (sl_symItem_l1_ok n g) fun s=>by kernel_rfl
def sl_symItem_l0 (n:Nat):Nat→SgEl [.own tItem, .tree (.int .i64), .fnv 117 [], .tree (.int .i64), .tree (.int .i64)]→Option (SgEl [.own tItem, .tree (.int .i64), .tree (.int .i64)] ⊕ SgEl [])
  | 0,_=>none
  | g+1,s =>
    bif ilt s.2.2.2.1 s.2.2.2.2.1 then
     bif ilt (1:Int) (0:Int) then
      none
     else
     bif ile (0:Int) (iconv .i64 (ishr .u64 (iconv .u64 (iadd .i64 s.2.2.2.1 s.2.2.2.2.1)) (1:Int))) then
      bindN (lat s.1 (iN (iconv .i64 (ishr .u64 (iconv .u64 (iadd .i64 s.2.2.2.1 s.2.2.2.2.1)) (1:Int))))) fun v1 =>
      bindN (lat s.1 (iN (iconv .i64 (ishr .u64 (iconv .u64 (iadd .i64 s.2.2.2.1 s.2.2.2.2.1)) (1:Int))))) fun v2 =>
      bif ile (0:Int) s.2.1 then
       bindN (lat s.1 (iN s.2.1)) fun v3 =>
       bindN (lat s.1 (iN s.2.1)) fun v4 =>
       bindN (row_Answer1 n (v2,v4,())) fun p5 =>
       bif ilt p5.1.1 (0:Int) then
        bindL (sl_symItem_l0 n g (s.1,s.2.1,(),iadd .i64 (iconv .i64 (ishr .u64 (iconv .u64 (iadd .i64 s.2.2.2.1 s.2.2.2.2.1)) (1:Int))) (1:Int),s.2.2.2.2)) (fun a6 =>
         some (Sum.inl a6)) fun b7 =>
        some (Sum.inr ())
       else
       bindL (sl_symItem_l0 n g (s.1,s.2.1,(),s.2.2.2.1,iconv .i64 (ishr .u64 (iconv .u64 (iadd .i64 s.2.2.2.1 s.2.2.2.2.1)) (1:Int)),())) (fun a8 =>
        some (Sum.inl a8)) fun b9 =>
       some (Sum.inr ())
      else none
     else none
    else
    some (Sum.inl (s.1,s.2.1,s.2.2.2.1,()))
theorem sl_symItem_l0_ok (n:Nat):∀ g,LEntOk Tryz.prog 225 (nSl sl_symItem_sg) ⟨0,[.own tItem, .tree (.int .i64), .fnv 117 [], .tree (.int .i64), .tree (.int .i64)],0,[.own tItem, .tree (.int .i64), .tree (.int .i64)],[],sl_symItem_l0 n g⟩ g
  | 0=>loop_zero' fun _=>rfl
  | g+1=>loop_step' mixed (T:=[sl_rotItem_ent n,row_Answer1_ent n]) (tabCons (sl_rotItem_ok n) (tabCons (row_Answer1_ok n) tabNil)) (tabLCons (sl_symItem_l1_ok n n) (tabLCons (sl_symItem_l2_ok n n) (tabLCons (sl_symItem_l3_ok n n) (tabLCons (sl_symItem_l4_ok n n) tabLNil)))) (sl_symItem_l0_ok n g) fun s=>by kernel_rfl
def sl_symItem_r (n:Nat):Nat→SgEl sl_symItem_sg→Option (RtEl sl_symItem_rs×OutEl sl_symItem_sg)
  | 0,_=>none
  | g+1,x =>
    bif ieq (isub .i64 x.2.2.1 x.2.1) (1:Int) then
     bindL (sl_symItem_l0 n n (x.1,x.2.1,(),x.2.2.1,x.2.2.2.1,())) (fun a1 =>
      bindL (sl_symItem_l1 n n (a1.1,a1.2.2.1,a1.2.1,())) (fun a3 =>
       some ((),(a3.1,(),(),(),(),()))) fun b4 =>
      none) fun b2 =>
     none
    else
    bif ieq (isub .i64 x.2.2.2.1 x.2.2.1) (1:Int) then
     bindL (sl_symItem_l2 n n (x.1,x.2.2.1,(),x.2.1,x.2.2.1,())) (fun a5 =>
      bindL (sl_symItem_l3 n n (a5.1,a5.2.2.1,a5.2.1,())) (fun a7 =>
       some ((),(a7.1,(),(),(),(),()))) fun b8 =>
      none) fun b6 =>
     none
    else
    bif ilt (1:Int) (0:Int) then
     none
    else
    bif ilt (iconv .i64 (ishr .u64 (iconv .u64 (iadd .i64 x.2.1 x.2.2.2.1)) (1:Int))) x.2.2.1 then
     bindL (sl_symItem_l4 n n (x.1,x.2.1,x.2.2.1,x.2.2.2.1,(),iconv .i64 (ishr .u64 (iconv .u64 (iadd .i64 x.2.1 x.2.2.2.1)) (1:Int)),iadd .i64 (iconv .i64 (ishr .u64 (iconv .u64 (iadd .i64 x.2.1 x.2.2.2.1)) (1:Int))) x.2.2.1,isub .i64 (iadd .i64 (iconv .i64 (ishr .u64 (iconv .u64 (iadd .i64 x.2.1 x.2.2.2.1)) (1:Int))) x.2.2.1) x.2.2.2.1,iconv .i64 (ishr .u64 (iconv .u64 (iadd .i64 x.2.1 x.2.2.2.1)) (1:Int)),isub .i64 (iadd .i64 (iconv .i64 (ishr .u64 (iconv .u64 (iadd .i64 x.2.1 x.2.2.2.1)) (1:Int))) x.2.2.1) (1:Int),())) (fun a9 =>
      bif ilt a9.2.2.2.2.2.2.2.1 a9.2.2.1 then
       bif ilt a9.2.2.1 (isub .i64 a9.2.2.2.2.2.2.1 a9.2.2.2.2.2.2.2.1) then
        bindN (sl_rotItem n (a9.1,a9.2.2.2.2.2.2.2.1,a9.2.2.1,isub .i64 a9.2.2.2.2.2.2.1 a9.2.2.2.2.2.2.2.1,(),())) fun p11 =>
        bif ilt a9.2.1 a9.2.2.2.2.2.2.2.1 then
         bif ilt a9.2.2.2.2.2.2.2.1 a9.2.2.2.2.2.1 then
          bindN (sl_symItem_r n g (p11.2.1,a9.2.1,a9.2.2.2.2.2.2.2.1,a9.2.2.2.2.2.1,(),())) fun p12 =>
          bif ilt a9.2.2.2.2.2.1 (isub .i64 a9.2.2.2.2.2.2.1 a9.2.2.2.2.2.2.2.1) then
           bif ilt (isub .i64 a9.2.2.2.2.2.2.1 a9.2.2.2.2.2.2.2.1) a9.2.2.2.1 then
            bindN (sl_symItem_r n g (p12.2.1,a9.2.2.2.2.2.1,isub .i64 a9.2.2.2.2.2.2.1 a9.2.2.2.2.2.2.2.1,a9.2.2.2.1,(),())) fun p13 =>
            some ((),(p13.2.1,(),(),(),(),()))
           else
           some ((),(p12.2.1,(),(),(),(),()))
          else
          some ((),(p12.2.1,(),(),(),(),()))
         else
         bif ilt a9.2.2.2.2.2.1 (isub .i64 a9.2.2.2.2.2.2.1 a9.2.2.2.2.2.2.2.1) then
          bif ilt (isub .i64 a9.2.2.2.2.2.2.1 a9.2.2.2.2.2.2.2.1) a9.2.2.2.1 then
           bindN (sl_symItem_r n g (p11.2.1,a9.2.2.2.2.2.1,isub .i64 a9.2.2.2.2.2.2.1 a9.2.2.2.2.2.2.2.1,a9.2.2.2.1,(),())) fun p14 =>
           some ((),(p14.2.1,(),(),(),(),()))
          else
          some ((),(p11.2.1,(),(),(),(),()))
         else
         some ((),(p11.2.1,(),(),(),(),()))
        else
        bif ilt a9.2.2.2.2.2.1 (isub .i64 a9.2.2.2.2.2.2.1 a9.2.2.2.2.2.2.2.1) then
         bif ilt (isub .i64 a9.2.2.2.2.2.2.1 a9.2.2.2.2.2.2.2.1) a9.2.2.2.1 then
          bindN (sl_symItem_r n g (p11.2.1,a9.2.2.2.2.2.1,isub .i64 a9.2.2.2.2.2.2.1 a9.2.2.2.2.2.2.2.1,a9.2.2.2.1,(),())) fun p15 =>
          some ((),(p15.2.1,(),(),(),(),()))
         else
         some ((),(p11.2.1,(),(),(),(),()))
        else
        some ((),(p11.2.1,(),(),(),(),()))
       else
       bif ilt a9.2.1 a9.2.2.2.2.2.2.2.1 then
        bif ilt a9.2.2.2.2.2.2.2.1 a9.2.2.2.2.2.1 then
         bindN (sl_symItem_r n g (a9.1,a9.2.1,a9.2.2.2.2.2.2.2.1,a9.2.2.2.2.2.1,(),())) fun p16 =>
         bif ilt a9.2.2.2.2.2.1 (isub .i64 a9.2.2.2.2.2.2.1 a9.2.2.2.2.2.2.2.1) then
          bif ilt (isub .i64 a9.2.2.2.2.2.2.1 a9.2.2.2.2.2.2.2.1) a9.2.2.2.1 then
           bindN (sl_symItem_r n g (p16.2.1,a9.2.2.2.2.2.1,isub .i64 a9.2.2.2.2.2.2.1 a9.2.2.2.2.2.2.2.1,a9.2.2.2.1,(),())) fun p17 =>
           some ((),(p17.2.1,(),(),(),(),()))
          else
          some ((),(p16.2.1,(),(),(),(),()))
         else
         some ((),(p16.2.1,(),(),(),(),()))
        else
        bif ilt a9.2.2.2.2.2.1 (isub .i64 a9.2.2.2.2.2.2.1 a9.2.2.2.2.2.2.2.1) then
         bif ilt (isub .i64 a9.2.2.2.2.2.2.1 a9.2.2.2.2.2.2.2.1) a9.2.2.2.1 then
          bindN (sl_symItem_r n g (a9.1,a9.2.2.2.2.2.1,isub .i64 a9.2.2.2.2.2.2.1 a9.2.2.2.2.2.2.2.1,a9.2.2.2.1,(),())) fun p18 =>
          some ((),(p18.2.1,(),(),(),(),()))
         else
         some ((),(a9.1,(),(),(),(),()))
        else
        some ((),(a9.1,(),(),(),(),()))
       else
       bif ilt a9.2.2.2.2.2.1 (isub .i64 a9.2.2.2.2.2.2.1 a9.2.2.2.2.2.2.2.1) then
        bif ilt (isub .i64 a9.2.2.2.2.2.2.1 a9.2.2.2.2.2.2.2.1) a9.2.2.2.1 then
         bindN (sl_symItem_r n g (a9.1,a9.2.2.2.2.2.1,isub .i64 a9.2.2.2.2.2.2.1 a9.2.2.2.2.2.2.2.1,a9.2.2.2.1,(),())) fun p19 =>
         some ((),(p19.2.1,(),(),(),(),()))
        else
        some ((),(a9.1,(),(),(),(),()))
       else
       some ((),(a9.1,(),(),(),(),()))
      else
      bif ilt a9.2.1 a9.2.2.2.2.2.2.2.1 then
       bif ilt a9.2.2.2.2.2.2.2.1 a9.2.2.2.2.2.1 then
        bindN (sl_symItem_r n g (a9.1,a9.2.1,a9.2.2.2.2.2.2.2.1,a9.2.2.2.2.2.1,(),())) fun p20 =>
        bif ilt a9.2.2.2.2.2.1 (isub .i64 a9.2.2.2.2.2.2.1 a9.2.2.2.2.2.2.2.1) then
         bif ilt (isub .i64 a9.2.2.2.2.2.2.1 a9.2.2.2.2.2.2.2.1) a9.2.2.2.1 then
          bindN (sl_symItem_r n g (p20.2.1,a9.2.2.2.2.2.1,isub .i64 a9.2.2.2.2.2.2.1 a9.2.2.2.2.2.2.2.1,a9.2.2.2.1,(),())) fun p21 =>
          some ((),(p21.2.1,(),(),(),(),()))
         else
         some ((),(p20.2.1,(),(),(),(),()))
        else
        some ((),(p20.2.1,(),(),(),(),()))
       else
       bif ilt a9.2.2.2.2.2.1 (isub .i64 a9.2.2.2.2.2.2.1 a9.2.2.2.2.2.2.2.1) then
        bif ilt (isub .i64 a9.2.2.2.2.2.2.1 a9.2.2.2.2.2.2.2.1) a9.2.2.2.1 then
         bindN (sl_symItem_r n g (a9.1,a9.2.2.2.2.2.1,isub .i64 a9.2.2.2.2.2.2.1 a9.2.2.2.2.2.2.2.1,a9.2.2.2.1,(),())) fun p22 =>
         some ((),(p22.2.1,(),(),(),(),()))
        else
        some ((),(a9.1,(),(),(),(),()))
       else
       some ((),(a9.1,(),(),(),(),()))
      else
      bif ilt a9.2.2.2.2.2.1 (isub .i64 a9.2.2.2.2.2.2.1 a9.2.2.2.2.2.2.2.1) then
       bif ilt (isub .i64 a9.2.2.2.2.2.2.1 a9.2.2.2.2.2.2.2.1) a9.2.2.2.1 then
        bindN (sl_symItem_r n g (a9.1,a9.2.2.2.2.2.1,isub .i64 a9.2.2.2.2.2.2.1 a9.2.2.2.2.2.2.2.1,a9.2.2.2.1,(),())) fun p23 =>
        some ((),(p23.2.1,(),(),(),(),()))
       else
       some ((),(a9.1,(),(),(),(),()))
      else
      some ((),(a9.1,(),(),(),(),()))) fun b10 =>
     none
    else
    bindL (sl_symItem_l4 n n (x.1,x.2.1,x.2.2.1,x.2.2.2.1,(),iconv .i64 (ishr .u64 (iconv .u64 (iadd .i64 x.2.1 x.2.2.2.1)) (1:Int)),iadd .i64 (iconv .i64 (ishr .u64 (iconv .u64 (iadd .i64 x.2.1 x.2.2.2.1)) (1:Int))) x.2.2.1,x.2.1,x.2.2.1,isub .i64 (iadd .i64 (iconv .i64 (ishr .u64 (iconv .u64 (iadd .i64 x.2.1 x.2.2.2.1)) (1:Int))) x.2.2.1) (1:Int),())) (fun a24 =>
     bif ilt a24.2.2.2.2.2.2.2.1 a24.2.2.1 then
      bif ilt a24.2.2.1 (isub .i64 a24.2.2.2.2.2.2.1 a24.2.2.2.2.2.2.2.1) then
       bindN (sl_rotItem n (a24.1,a24.2.2.2.2.2.2.2.1,a24.2.2.1,isub .i64 a24.2.2.2.2.2.2.1 a24.2.2.2.2.2.2.2.1,(),())) fun p26 =>
       bif ilt a24.2.1 a24.2.2.2.2.2.2.2.1 then
        bif ilt a24.2.2.2.2.2.2.2.1 a24.2.2.2.2.2.1 then
         bindN (sl_symItem_r n g (p26.2.1,a24.2.1,a24.2.2.2.2.2.2.2.1,a24.2.2.2.2.2.1,(),())) fun p27 =>
         bif ilt a24.2.2.2.2.2.1 (isub .i64 a24.2.2.2.2.2.2.1 a24.2.2.2.2.2.2.2.1) then
          bif ilt (isub .i64 a24.2.2.2.2.2.2.1 a24.2.2.2.2.2.2.2.1) a24.2.2.2.1 then
           bindN (sl_symItem_r n g (p27.2.1,a24.2.2.2.2.2.1,isub .i64 a24.2.2.2.2.2.2.1 a24.2.2.2.2.2.2.2.1,a24.2.2.2.1,(),())) fun p28 =>
           some ((),(p28.2.1,(),(),(),(),()))
          else
          some ((),(p27.2.1,(),(),(),(),()))
         else
         some ((),(p27.2.1,(),(),(),(),()))
        else
        bif ilt a24.2.2.2.2.2.1 (isub .i64 a24.2.2.2.2.2.2.1 a24.2.2.2.2.2.2.2.1) then
         bif ilt (isub .i64 a24.2.2.2.2.2.2.1 a24.2.2.2.2.2.2.2.1) a24.2.2.2.1 then
          bindN (sl_symItem_r n g (p26.2.1,a24.2.2.2.2.2.1,isub .i64 a24.2.2.2.2.2.2.1 a24.2.2.2.2.2.2.2.1,a24.2.2.2.1,(),())) fun p29 =>
          some ((),(p29.2.1,(),(),(),(),()))
         else
         some ((),(p26.2.1,(),(),(),(),()))
        else
        some ((),(p26.2.1,(),(),(),(),()))
       else
       bif ilt a24.2.2.2.2.2.1 (isub .i64 a24.2.2.2.2.2.2.1 a24.2.2.2.2.2.2.2.1) then
        bif ilt (isub .i64 a24.2.2.2.2.2.2.1 a24.2.2.2.2.2.2.2.1) a24.2.2.2.1 then
         bindN (sl_symItem_r n g (p26.2.1,a24.2.2.2.2.2.1,isub .i64 a24.2.2.2.2.2.2.1 a24.2.2.2.2.2.2.2.1,a24.2.2.2.1,(),())) fun p30 =>
         some ((),(p30.2.1,(),(),(),(),()))
        else
        some ((),(p26.2.1,(),(),(),(),()))
       else
       some ((),(p26.2.1,(),(),(),(),()))
      else
      bif ilt a24.2.1 a24.2.2.2.2.2.2.2.1 then
       bif ilt a24.2.2.2.2.2.2.2.1 a24.2.2.2.2.2.1 then
        bindN (sl_symItem_r n g (a24.1,a24.2.1,a24.2.2.2.2.2.2.2.1,a24.2.2.2.2.2.1,(),())) fun p31 =>
        bif ilt a24.2.2.2.2.2.1 (isub .i64 a24.2.2.2.2.2.2.1 a24.2.2.2.2.2.2.2.1) then
         bif ilt (isub .i64 a24.2.2.2.2.2.2.1 a24.2.2.2.2.2.2.2.1) a24.2.2.2.1 then
          bindN (sl_symItem_r n g (p31.2.1,a24.2.2.2.2.2.1,isub .i64 a24.2.2.2.2.2.2.1 a24.2.2.2.2.2.2.2.1,a24.2.2.2.1,(),())) fun p32 =>
          some ((),(p32.2.1,(),(),(),(),()))
         else
         some ((),(p31.2.1,(),(),(),(),()))
        else
        some ((),(p31.2.1,(),(),(),(),()))
       else
       bif ilt a24.2.2.2.2.2.1 (isub .i64 a24.2.2.2.2.2.2.1 a24.2.2.2.2.2.2.2.1) then
        bif ilt (isub .i64 a24.2.2.2.2.2.2.1 a24.2.2.2.2.2.2.2.1) a24.2.2.2.1 then
         bindN (sl_symItem_r n g (a24.1,a24.2.2.2.2.2.1,isub .i64 a24.2.2.2.2.2.2.1 a24.2.2.2.2.2.2.2.1,a24.2.2.2.1,(),())) fun p33 =>
         some ((),(p33.2.1,(),(),(),(),()))
        else
        some ((),(a24.1,(),(),(),(),()))
       else
       some ((),(a24.1,(),(),(),(),()))
      else
      bif ilt a24.2.2.2.2.2.1 (isub .i64 a24.2.2.2.2.2.2.1 a24.2.2.2.2.2.2.2.1) then
       bif ilt (isub .i64 a24.2.2.2.2.2.2.1 a24.2.2.2.2.2.2.2.1) a24.2.2.2.1 then
        bindN (sl_symItem_r n g (a24.1,a24.2.2.2.2.2.1,isub .i64 a24.2.2.2.2.2.2.1 a24.2.2.2.2.2.2.2.1,a24.2.2.2.1,(),())) fun p34 =>
        some ((),(p34.2.1,(),(),(),(),()))
       else
       some ((),(a24.1,(),(),(),(),()))
      else
      some ((),(a24.1,(),(),(),(),()))
     else
     bif ilt a24.2.1 a24.2.2.2.2.2.2.2.1 then
      bif ilt a24.2.2.2.2.2.2.2.1 a24.2.2.2.2.2.1 then
       bindN (sl_symItem_r n g (a24.1,a24.2.1,a24.2.2.2.2.2.2.2.1,a24.2.2.2.2.2.1,(),())) fun p35 =>
       bif ilt a24.2.2.2.2.2.1 (isub .i64 a24.2.2.2.2.2.2.1 a24.2.2.2.2.2.2.2.1) then
        bif ilt (isub .i64 a24.2.2.2.2.2.2.1 a24.2.2.2.2.2.2.2.1) a24.2.2.2.1 then
         bindN (sl_symItem_r n g (p35.2.1,a24.2.2.2.2.2.1,isub .i64 a24.2.2.2.2.2.2.1 a24.2.2.2.2.2.2.2.1,a24.2.2.2.1,(),())) fun p36 =>
         some ((),(p36.2.1,(),(),(),(),()))
        else
        some ((),(p35.2.1,(),(),(),(),()))
       else
       some ((),(p35.2.1,(),(),(),(),()))
      else
      bif ilt a24.2.2.2.2.2.1 (isub .i64 a24.2.2.2.2.2.2.1 a24.2.2.2.2.2.2.2.1) then
       bif ilt (isub .i64 a24.2.2.2.2.2.2.1 a24.2.2.2.2.2.2.2.1) a24.2.2.2.1 then
        bindN (sl_symItem_r n g (a24.1,a24.2.2.2.2.2.1,isub .i64 a24.2.2.2.2.2.2.1 a24.2.2.2.2.2.2.2.1,a24.2.2.2.1,(),())) fun p37 =>
        some ((),(p37.2.1,(),(),(),(),()))
       else
       some ((),(a24.1,(),(),(),(),()))
      else
      some ((),(a24.1,(),(),(),(),()))
     else
     bif ilt a24.2.2.2.2.2.1 (isub .i64 a24.2.2.2.2.2.2.1 a24.2.2.2.2.2.2.2.1) then
      bif ilt (isub .i64 a24.2.2.2.2.2.2.1 a24.2.2.2.2.2.2.2.1) a24.2.2.2.1 then
       bindN (sl_symItem_r n g (a24.1,a24.2.2.2.2.2.1,isub .i64 a24.2.2.2.2.2.2.1 a24.2.2.2.2.2.2.2.1,a24.2.2.2.1,(),())) fun p38 =>
       some ((),(p38.2.1,(),(),(),(),()))
      else
      some ((),(a24.1,(),(),(),(),()))
     else
     some ((),(a24.1,(),(),(),(),()))) fun b25 =>
    none
theorem sl_symItem_r_ok (n:Nat):∀ g,EntOk Tryz.prog ⟨225,sl_symItem_sg,sl_symItem_rs,sl_symItem_r n g⟩
  | 0=>fun a y h=>by cases h
  | g+1=>ent_ok' mixed (T:=[⟨225,sl_symItem_sg,sl_symItem_rs,sl_symItem_r n g⟩,sl_rotItem_ent n,row_Answer1_ent n]) (tabCons (sl_symItem_r_ok n g) (tabCons (sl_rotItem_ok n) (tabCons (row_Answer1_ok n) tabNil))) (tabLCons (sl_symItem_l0_ok n n) (tabLCons (sl_symItem_l1_ok n n) (tabLCons (sl_symItem_l2_ok n n) (tabLCons (sl_symItem_l3_ok n n) (tabLCons (sl_symItem_l4_ok n n) tabLNil))))) fun x=>by kernel_rfl
def sl_symItem (n:Nat) (x:SgEl sl_symItem_sg):Option (RtEl sl_symItem_rs×OutEl sl_symItem_sg):=sl_symItem_r n n x
abbrev sl_symItem_ent (n:Nat):Ent:=⟨225,sl_symItem_sg,sl_symItem_rs,sl_symItem n⟩
theorem sl_symItem_ok (n:Nat):EntOk Tryz.prog (sl_symItem_ent n):=sl_symItem_r_ok n n
abbrev sl_stabItem_sg:List Sg:=[.own tItem, .tree (.int .i64), .fnv 117 []]
abbrev sl_stabItem_rs:List Rt:=[]
def sl_stabItem_l2 (n:Nat):Nat→SgEl [.own tItem, .tree (.int .i64), .fnv 117 [], .tree (.int .i64), .tree (.int .i64), .tree (.int .i64)]→Option (SgEl [.own tItem, .tree (.int .i64), .fnv 117 [], .tree (.int .i64), .tree (.int .i64)] ⊕ SgEl [])
  | 0,_=>none
  | g+1,s =>
    bif ile s.2.2.2.2.2.1 s.2.1 then
     bindN (sl_symItem n (s.1,s.2.2.2.2.1,iadd .i64 s.2.2.2.2.1 s.2.2.2.1,s.2.2.2.2.2.1,(),())) fun p1 =>
     bindL (sl_stabItem_l2 n g (p1.2.1,s.2.1,(),s.2.2.2.1,s.2.2.2.2.2.1,iadd .i64 s.2.2.2.2.2.1 (imul .i64 (2:Int) s.2.2.2.1),())) (fun a2 =>
      some (Sum.inl (a2.1,a2.2.1,(),a2.2.2.2))) fun b3 =>
     some (Sum.inr ())
    else
    some (Sum.inl (s.1,s.2.1,(),s.2.2.2.1,s.2.2.2.2.1,()))
theorem sl_stabItem_l2_ok (n:Nat):∀ g,LEntOk Tryz.prog 175 (nSl sl_stabItem_sg) ⟨2,[.own tItem, .tree (.int .i64), .fnv 117 [], .tree (.int .i64), .tree (.int .i64), .tree (.int .i64)],4,[.own tItem, .tree (.int .i64), .fnv 117 [], .tree (.int .i64), .tree (.int .i64)],[],sl_stabItem_l2 n g⟩ g
  | 0=>loop_zero' fun _=>rfl
  | g+1=>loop_step' mixed (T:=[sl_insItem_ent n,sl_symItem_ent n,row_Answer1_ent n]) (tabCons (sl_insItem_ok n) (tabCons (sl_symItem_ok n) (tabCons (row_Answer1_ok n) tabNil))) tabLNil (sl_stabItem_l2_ok n g) fun s=>by kernel_rfl
def sl_stabItem_l1 (n:Nat):Nat→SgEl [.own tItem, .tree (.int .i64), .fnv 117 [], .tree (.int .i64)]→Option (SgEl [.own tItem] ⊕ SgEl [])
  | 0,_=>none
  | g+1,s =>
    bif ilt s.2.2.2.1 s.2.1 then
     bindL (sl_stabItem_l2 n n (s.1,s.2.1,(),s.2.2.2.1,(0:Int),imul .i64 (2:Int) s.2.2.2.1,())) (fun a1 =>
      bif ilt (iadd .i64 a1.2.2.2.2.1 a1.2.2.2.1) a1.2.1 then
       bindN (sl_symItem n (a1.1,a1.2.2.2.2.1,iadd .i64 a1.2.2.2.2.1 a1.2.2.2.1,a1.2.1,(),())) fun p3 =>
       bindL (sl_stabItem_l1 n g (p3.2.1,a1.2.1,(),imul .i64 a1.2.2.2.1 (2:Int),())) (fun a4 =>
        some (Sum.inl a4)) fun b5 =>
       some (Sum.inr ())
      else
      bindL (sl_stabItem_l1 n g (a1.1,a1.2.1,(),imul .i64 a1.2.2.2.1 (2:Int),())) (fun a6 =>
       some (Sum.inl a6)) fun b7 =>
      some (Sum.inr ())) fun b2 =>
     none
    else
    some (Sum.inl (s.1,()))
theorem sl_stabItem_l1_ok (n:Nat):∀ g,LEntOk Tryz.prog 175 (nSl sl_stabItem_sg) ⟨1,[.own tItem, .tree (.int .i64), .fnv 117 [], .tree (.int .i64)],2,[.own tItem],[],sl_stabItem_l1 n g⟩ g
  | 0=>loop_zero' fun _=>rfl
  | g+1=>loop_step' mixed (T:=[sl_insItem_ent n,sl_symItem_ent n,row_Answer1_ent n]) (tabCons (sl_insItem_ok n) (tabCons (sl_symItem_ok n) (tabCons (row_Answer1_ok n) tabNil))) (tabLCons (sl_stabItem_l2_ok n n) tabLNil) (sl_stabItem_l1_ok n g) fun s=>by kernel_rfl
def sl_stabItem_l0 (n:Nat):Nat→SgEl [.own tItem, .tree (.int .i64), .fnv 117 [], .tree (.int .i64), .tree (.int .i64), .tree (.int .i64)]→Option (SgEl [.own tItem, .tree (.int .i64), .fnv 117 [], .tree (.int .i64), .tree (.int .i64)] ⊕ SgEl [])
  | 0,_=>none
  | g+1,s =>
    bif ile s.2.2.2.2.2.1 s.2.1 then
     bindN (sl_insItem n (s.1,s.2.2.2.2.1,s.2.2.2.2.2.1,(),())) fun p1 =>
     bindL (sl_stabItem_l0 n g (p1.2.1,s.2.1,(),s.2.2.2.1,s.2.2.2.2.2.1,iadd .i64 s.2.2.2.2.2.1 s.2.2.2.1,())) (fun a2 =>
      some (Sum.inl (a2.1,a2.2.1,(),a2.2.2.2))) fun b3 =>
     some (Sum.inr ())
    else
    some (Sum.inl (s.1,s.2.1,(),s.2.2.2.1,s.2.2.2.2.1,()))
theorem sl_stabItem_l0_ok (n:Nat):∀ g,LEntOk Tryz.prog 175 (nSl sl_stabItem_sg) ⟨0,[.own tItem, .tree (.int .i64), .fnv 117 [], .tree (.int .i64), .tree (.int .i64), .tree (.int .i64)],0,[.own tItem, .tree (.int .i64), .fnv 117 [], .tree (.int .i64), .tree (.int .i64)],[],sl_stabItem_l0 n g⟩ g
  | 0=>loop_zero' fun _=>rfl
  | g+1=>loop_step' mixed (T:=[sl_insItem_ent n,sl_symItem_ent n,row_Answer1_ent n]) (tabCons (sl_insItem_ok n) (tabCons (sl_symItem_ok n) (tabCons (row_Answer1_ok n) tabNil))) (tabLCons (sl_stabItem_l1_ok n n) (tabLCons (sl_stabItem_l2_ok n n) tabLNil)) (sl_stabItem_l0_ok n g) fun s=>by kernel_rfl
def sl_stabItem (n:Nat) (x:SgEl sl_stabItem_sg):Option (RtEl sl_stabItem_rs×OutEl sl_stabItem_sg) :=
  bindL (sl_stabItem_l0 n n (x.1,x.2.1,(),(20:Int),(0:Int),(20:Int),())) (fun a1 =>
   bindN (sl_insItem n (a1.1,a1.2.2.2.2.1,a1.2.1,(),())) fun p3 =>
   bindL (sl_stabItem_l1 n n (p3.2.1,a1.2.1,(),a1.2.2.2.1,())) (fun a4 =>
    some ((),(a4.1,(),(),()))) fun b5 =>
   none) fun b2 =>
  none
abbrev sl_stabItem_ent (n:Nat):Ent:=⟨175,sl_stabItem_sg,sl_stabItem_rs,sl_stabItem n⟩
theorem sl_stabItem_ok (n:Nat):EntOk Tryz.prog (sl_stabItem_ent n):=ent_ok' mixed (T:=[sl_insItem_ent n,sl_symItem_ent n,row_Answer1_ent n]) (tabCons (sl_insItem_ok n) (tabCons (sl_symItem_ok n) (tabCons (row_Answer1_ok n) tabNil))) (tabLCons (sl_stabItem_l0_ok n n) (tabLCons (sl_stabItem_l1_ok n n) (tabLCons (sl_stabItem_l2_ok n n) tabLNil))) fun x=>by kernel_rfl
abbrev sl_StableItem_sg:List Sg:=[.own tItem, .fnv 117 []]
abbrev sl_StableItem_rs:List Rt:=[]
def sl_StableItem (n:Nat) (x:SgEl sl_StableItem_sg):Option (RtEl sl_StableItem_rs×OutEl sl_StableItem_sg) :=
  bindN (sl_stabItem n (x.1,ilen x.1,(),())) fun p1 =>
  some ((),(p1.2.1,(),()))
abbrev sl_StableItem_ent (n:Nat):Ent:=⟨116,sl_StableItem_sg,sl_StableItem_rs,sl_StableItem n⟩
theorem sl_StableItem_ok (n:Nat):EntOk Tryz.prog (sl_StableItem_ent n):=ent_ok' mixed (T:=[sl_stabItem_ent n,row_Answer1_ent n]) (tabCons (sl_stabItem_ok n) (tabCons (row_Answer1_ok n) tabNil)) tabLNil fun x=>by kernel_rfl
end Go.Proofs.YtdcphpbimeoioaaGreatDoorE
end
section
set_option linter.unusedSectionVars false
namespace Go.Proofs.YtdcphpbimeoioaaGreatDoorE
open Go Go.RowKit Go.Shelf Go.Proofs
set_option linter.unusedVariables false
set_option linter.unusedSimpArgs false
theorem Below.trans' {a b c:World} (h:Below a.heap.size a b) (k:Below b.heap.size b c):Below a.heap.size a c :=
 ⟨k.os.trans h.os,k.tape.trans h.tape,k.output.trans h.output,Nat.le_trans h.size k.size,fun i hi=>(k.block i (Nat.lt_of_lt_of_le hi h.size)).trans (h.block i hi)⟩
end Go.Proofs.YtdcphpbimeoioaaGreatDoorE
end
section
set_option linter.unusedSectionVars false
namespace Go.Proofs.YtdcphpbimeoioaaGreatDoorE.SV
open Go Go.Proofs Go.RowKit Go.Shelf Go.Sort
set_option linter.unusedVariables false
set_option linter.unusedSimpArgs false
attribute [local go_sem] Oper.semAt_some
def upto {α:Type} (f:Nat→α) (k:Nat):List α:=(List.range k).map f
theorem upto_succ {α:Type} (f:Nat→α) (k:Nat):upto f (k+1)=upto f k++[f k]:=by simp [upto,List.range_succ]
theorem upto_length {α:Type} (f:Nat→α) (k:Nat):(upto f k).length=k:=by simp [upto]
theorem upto_all {α:Type} (d:α) (zs:List α):upto (fun j=>zs[j]?.getD d) zs.length=zs:=by
 apply List.ext_getElem
 ·simp [upto]
 ·intro i h1 h2
  simp [upto,h2]
abbrev TX:=List UInt8
set_option maxRecDepth 100000 in
set_option maxHeartbeats 2000000 in
theorem values1_in (F:Fence) (n:Nat) (h7:F.fn 259) (hro:F.round=none) (hn:1≤n) (l Bs n₀ b off len cap:Nat) (zs:List TX) (hreach:len * 16≤140737488355328) (hb:b<n₀) (J Jx:List TX→World→Prop)
  (hY:∀ pre x W,J pre W→pre.length<len→YieldAt F (n - 1) Tryz.prog l #[encStr x] W fun e W' =>
   (e = .returned (.bool true)∧J (pre++[x]) W'∧Below n₀ W W')∨(e = .returned (.bool false)∧Jx (pre++[x]) W'))
  (W:World) (hBs:W.cell? ⟨Bs,0,none⟩=some (.slice (some ⟨b,off,none⟩) len cap)) (hc:∀ j,j<len→W.cell? ⟨b,off+j,none⟩=some (encStr (zs[j]?.getD []))) (h0:J [] W) :
  CallsIn F n Tryz.prog 259 #[.func (.yield l) #[] #[], .pointer (some ⟨Bs,0,none⟩)] W fun e W'=>(∃ v,e = .returned v) ∧
   ((∃ ys,ys=upto (fun j=>zs[j]?.getD []) len∧J ys W')∨(∃ pre,(∃ k,k≤len∧pre=upto (fun j=>zs[j]?.getD []) k)∧Jx pre W')):=by
 refine callsIn_of_wp Tryz.func259 rfl h7 ?_ hro
 simp only [Tryz.ntmps259,List.size_toArray,List.length_cons,List.length_nil,Nat.reduceAdd,Nat.reduceSub,Array.replicate_succ,Array.replicate_zero,List.push_toArray,List.append_toArray,List.nil_append,List.cons_append]
 gi_wp2
 gi_loopw [7] (fun i wr=>∃ k:Nat,k≤len∧i = .int .i64 k∧J (upto (fun j=>zs[j]?.getD []) k) wr∧Below n₀ W wr)
  (fun i _=>len - (intOf i).toNat)
 case atStart=>exact ⟨0,Nat.zero_le _,rfl,h0,Below.refl _ _⟩
 case round =>
  obtain ⟨k,hk,rfl,hJs,hnx⟩:=hrel
  have hcx:k<len→wr.cell? ⟨b,off+k,none⟩=some (encStr (zs[k]?.getD [])):=fun h=>(hnx.cell (p:=⟨b,off+k,none⟩) hb).trans (hc k h)
  by_cases hlt:k<len
  ·obtain ⟨fn,tmps,assign,body,hy,hR⟩:=hY _ (zs[k]?.getD []) wr hJs (by rw [upto_length];exact hlt)
   have hcx':=hcx hlt
   obtain ⟨s0,hs0⟩:∃ s0:ByteArray,encStr (zs[k]?.getD []) = .string s0:=⟨_,rfl⟩
   rw [hs0] at hcx' hy
   clear hcx hc
   gi_wp2
   refine hR.mono ?_
   rintro e W3 (⟨rfl,hJ3,hk3⟩|⟨rfl,hJx3⟩)
   ·gi_wp2
    go_roundw
    case rel=>exact ⟨k+1,by omega,by simp,by rw [upto_succ];exact hJ3,hnx.trans hk3⟩
    case measure=>simp [intOf];omega
   ·gi_wp2
    refine bodyPost_ret (results_none rfl _ _ _) rfl ?_
    exact ⟨⟨_,rfl⟩, .inr ⟨_,⟨k+1,by omega,(upto_succ _ _).symm⟩,hJx3⟩⟩
  ·obtain rfl:k=len:=by omega
   gi_wp2
   go_end0
   exact ⟨⟨_,rfl⟩, .inl ⟨_,rfl,hJs⟩⟩
theorem upto_take {α:Type} (d:α) (zs:List α) {k:Nat} (hk:k≤zs.length):upto (fun j=>zs[j]?.getD d) k=zs.take k:=by
 apply List.ext_getElem
 ·simp [upto,hk]
 ·intro i h1 h2
  have:i<zs.length:=by simp [upto] at h1;omega
  simp [upto,this]
def Texts (n₀:Nat) (W:World) (sv:Value) (zs:List TX):Prop :=
 (zs=[]∧∃ A c,sv = .slice A 0 c)∨∃ b off cap,sv = .slice (some ⟨b,off,none⟩) zs.length cap∧b<n₀∧∀ j,j<zs.length→W.cell? ⟨b,off+j,none⟩=some (encStr (zs[j]?.getD []))
theorem Texts.below {n₀:Nat} {A B:World} (h:Below n₀ A B) {sv:Value} {zs:List TX}:Texts n₀ A sv zs→Texts n₀ B sv zs
 | .inl e => .inl e
 | .inr ⟨b,off,cap,e,hb,hc⟩ => .inr ⟨b,off,cap,e,hb,fun j hj=>(h.cell (p:=⟨b,off+j,none⟩) hb).trans (hc j hj)⟩
set_option maxRecDepth 100000 in
set_option maxHeartbeats 1000000 in
theorem values1_nil_in (F:Fence) (n:Nat) (h7:F.fn 259) (hro:F.round=none) (l Bs:Nat) (A:Option Addr) (c:Nat) (J:List TX→World→Prop) (W:World) (hBs:W.cell? ⟨Bs,0,none⟩=some (.slice A 0 c)) (h0:J [] W) :
  CallsIn F n Tryz.prog 259 #[.func (.yield l) #[] #[], .pointer (some ⟨Bs,0,none⟩)] W fun e W'=>(∃ v,e = .returned v)∧J [] W':=by
 refine callsIn_of_wp Tryz.func259 rfl h7 ?_ hro
 simp only [Tryz.ntmps259,List.size_toArray,List.length_cons,List.length_nil,Nat.reduceAdd,Nat.reduceSub,Array.replicate_succ,Array.replicate_zero,List.push_toArray,List.append_toArray,List.nil_append,List.cons_append]
 gi_wp2
 gi_loopw [7] (fun i wr=>i = .int .i64 0∧J [] wr) (fun _ _=>0)
 case atStart=>exact ⟨rfl,h0⟩
 case round =>
  obtain ⟨rfl,hJs⟩:=hrel
  gi_wp2
  go_end0
  exact ⟨⟨_,rfl⟩,hJs⟩
set_option maxHeartbeats 1000000 in
theorem values_in (F:Fence) (n:Nat) (h5:F.fn 202) (hro:F.round=none) (a:Option Addr) (len cap:Nat) (w:World) :
  CallsIn F n Tryz.prog 202 #[.slice a len cap] w fun e w'=>e = .returned (.func (.func 259) #[] #[.pointer (some ⟨w.heap.size,0,none⟩)])∧w'=w.alloc (.cells #[.slice a len cap] 23):=by
 refine callsIn_of_wp Tryz.func202 rfl h5 ?_ hro
 simp only [Tryz.ntmps202,List.size_toArray,List.length_cons,List.length_nil,Nat.reduceAdd,Nat.reduceSub,Array.replicate_succ,Array.replicate_zero,List.push_toArray,List.append_toArray,List.nil_append,List.cons_append]
 gi_wp2
 go_ret
 exact ⟨rfl,rfl⟩
theorem values_stops (F:Fence) (n:Nat) (h7:F.fn 259) (hro:F.round=none) (hn:1≤n) (Bs n₀:Nat) (sv:Value) (zs:List TX) (hreach:zs.length * 16≤140737488355328) (w:World) (hBs:Bs<w.heap.size) (hn₀:n₀≤w.heap.size)
  (hc:w.cell? ⟨Bs,0,none⟩=some sv) (hI:Texts n₀ w sv zs) :
  SeqStopsK F n Tryz.prog 259 #[.pointer (some ⟨Bs,0,none⟩)] (fun x:TX=>#[encStr x]) (Below n₀) (fun ys=>ys=zs) (fun pre=>pre <+:zs) zs.length w:=fun l J Jx W hW _ _ hY h0=>by
 have hc':=(hW.cell (p:=⟨Bs,0,none⟩) hBs).trans hc
 rcases hI.below (hW.mono hn₀) with ⟨rfl,A,c,rfl⟩|⟨b,off,cap,rfl,hb,hcs⟩
 ·exact (values1_nil_in F n h7 hro l Bs A c J W hc' h0).mono fun e W' ⟨he,hj⟩=>⟨he, .inl ⟨_,rfl,hj⟩⟩
 ·refine (values1_in F n h7 hro hn l Bs n₀ b off zs.length cap zs hreach hb J Jx hY W hc' hcs h0).mono ?_
  rintro e W' ⟨he,⟨ys,rfl,hj⟩|⟨pre,⟨k,hk,rfl⟩,hj⟩⟩
  ·exact ⟨he, .inl ⟨_,upto_all [] zs,hj⟩⟩
  ·exact ⟨he, .inr ⟨_,by rw [upto_take [] zs hk];exact List.take_prefix _ _,hj⟩⟩
end Go.Proofs.YtdcphpbimeoioaaGreatDoorE.SV
end
section
set_option linter.unusedSectionVars false
namespace Go.Proofs.YtdcphpbimeoioaaGreatDoorE.SV
open Go Go.Proofs Go.RowKit Go.Shelf Go.Sort
set_option linter.unusedVariables false
set_option linter.unusedSimpArgs false
attribute [local go_sem] Oper.semAt_some
theorem infoS:(Tryz.prog.info? 9).map (fun i=>(i.zero,i.size,i.bytes))=some (some (.string ⟨#[]⟩),1,16):=by kernel_rfl
set_option maxRecDepth 100000 in
set_option maxHeartbeats 2000000 in
theorem appendSeq_calls (Bs:Nat) (sv:Value) (zs:List TX) (hreach:zs.length * 16≤140737488355328) (w:World) (hBs:Bs<w.heap.size) (hc:w.cell? ⟨Bs,0,none⟩=some sv) (hI:Texts w.heap.size w sv zs) :
  Calls Tryz.prog 294 #[.slice none 0 0, .func (.func 259) #[] #[.pointer (some ⟨Bs,0,none⟩)]] w fun e W'=>∃ v,e = .returned v∧W'.ownsRow w.heap.size 9 1 v zs.length (zs.map encStr)∧Below w.heap.size w W':=by
 refine (callsIn_wide (n:=6)).1 ?_
 have hro:Fence.wide.round=none:=rfl
 have h1:1≤6:=by omega
 obtain ⟨i0,hi,hz0,hz1,hz2⟩:=info_parts infoS
 refine callsIn_of_wp_marks Tryz.func294 rfl trivial ?_ hro
 simp only [Tryz.ntmps294,List.size_toArray,List.length_cons,List.length_nil,Nat.reduceAdd,Nat.reduceSub,Array.replicate_succ,Array.replicate_zero,List.push_toArray,List.append_toArray,List.nil_append,List.cons_append]
 gi_wp2
 have bO:=Boxed.new w 23 (.slice none 0 0)
 have hB0:Below w.heap.size w (w.alloc (.cells #[.slice none 0 0] 23)):=(Below.refl _ w).alloc (Nat.le_refl _) _
 refine wpIn_rangeFunc_ownG hro h1 (gf:=259) (lb:=#[.pointer (some ⟨Bs,0,none⟩)]) rfl trivial (enters_of Tryz.func259 (by kernel_rfl) rfl)
  (values_stops Fence.wide (6 - 1) trivial hro (by omega) Bs w.heap.size sv zs hreach (w.alloc (.cells #[.slice none 0 0] 23)) (by simp;omega) (by simp) ((hB0.cell (p:=⟨Bs,0,none⟩) hBs).trans hc) (hI.below hB0)) belowK_t (belowK_b (by simp)) (Below.refl _ _) (fun _=>rfl)
  (fun pre W=>(∃ v,Boxed W w.heap.size 23 v∧W.ownsRow w.heap.size 9 1 v pre.length (pre.map encStr)∧True)∧Below w.heap.size w W)
  (fun _ _ _=>False)
  (OwnFrom.and (Own.from (holdsRow_own w.heap.size w.heap.size 23 9 1 (fun pre:List TX=>pre.length) (fun pre:List TX=>pre.map encStr) (fun pre v=>True)) _) (ownFrom_below (Nat.le_refl _) (by simp)))
  (fun _ _ _ _ _ hs _ _=>hs)
  ⟨⟨_,bO,World.ownsRow_nil _ _ _ _,trivial⟩,hB0⟩
  (fun x=>{ tmps:=#[.slice none 0 0, .func (.func 259) #[] #[.pointer (some ⟨Bs,0,none⟩)], .pointer (some ⟨w.heap.size,0,none⟩),undef, .slice none 0 0, .string ⟨x.toArray⟩, .func (.func 259) #[] #[.pointer (some ⟨Bs,0,none⟩)], .string ⟨x.toArray⟩,undef,undef,undef,undef,undef],defers:=[] }) ?assign ?body ?done ?stop
 case assign =>
  intro l x W K hK
  gi_wp2
  exact hK
 case body =>
  rintro l pre x W ⟨⟨v,hv,hrow,_⟩,hB⟩ hlt
  have hcv:=hv.cell
  have hlt':pre.length<zs.length:=hlt
  gi_wp2_with (gi_at_builtin;refine wpListIn_append_own _ rfl _ _ 23 rfl w.heap.size 9 i0 (.string ⟨#[]⟩) 1 16 Tryz.underlying23 hi hz0 hz1 hz2 rfl (by decide) _ _ _ rfl (hrow.alloc _) ⟨W.heap.size,0,none⟩ 1 1 [.string ⟨x.toArray⟩] rfl rfl (cell_one_new _ _ _) (by simp [Value.oneCell']) (by unfold maxLen;omega) (by omega) (by have:=hB.size;simp;omega) ?_;intro v' w1 hown' hgrow _;obtain ⟨g',cap',rfl⟩:=ownsRow_succ hown';obtain ⟨hv1,hv2,hr2,hk2,hb2⟩:=hv.appended (by decide) hrow hB.size (Nat.le_refl _) hown' hgrow;have hc1:=hv1.cell;have hf1:=hv1.frozen)
  exact ⟨hk2.from _,hb2,⟨_,hv2,by simpa [encStr] using hr2,trivial⟩,hB.trans hb2⟩
 case done =>
  rintro D ys W hD rfl ⟨⟨v,hv,hrow,_⟩,hB⟩ hK
  have hcv:=hv.cell
  gi_wp2
  refine ⟨by simp, .inl ⟨_,_,rfl,run_takeDeferred hK,?_⟩⟩
  exact ⟨_,results_tmp rfl _ _ _,v,rfl,ownsRow_putObj hrow _ hK rfl,hB.trans (belowK_b (w:=w) (Nat.le_refl _) W D _ _ (by simp at hD;omega) hK rfl rfl)⟩
 case stop =>
  rintro D c pre W _ _ h _
  exact h.elim
set_option maxRecDepth 100000 in
set_option maxHeartbeats 2000000 in
theorem collect_calls (Bs:Nat) (sv:Value) (zs:List TX) (hreach:zs.length * 16≤140737488355328) (w:World) (hBs:Bs<w.heap.size) (hc:w.cell? ⟨Bs,0,none⟩=some sv) (hI:Texts w.heap.size w sv zs) :
  Calls Tryz.prog 257 #[.func (.func 259) #[] #[.pointer (some ⟨Bs,0,none⟩)]] w fun e W'=>∃ v,e = .returned v∧W'.ownsRow w.heap.size 9 1 v zs.length (zs.map encStr)∧Below w.heap.size w W':=by
 have hcon:=appendSeq_calls Bs sv zs hreach w hBs hc hI
 clear hc hI
 go_enter Tryz.func257,Tryz.ntmps257
 go_wp2_with (go_at_call 294;refine hcon.mono ?_;rintro e W' ⟨v,rfl,hr,hb⟩)
 go_ret
 exact ⟨v,rfl,hr,hb⟩
def sortedT (zs:List TX):List TX:=zs.mergeSort fun x y=>decide (x≤y)
theorem sortedT_len (zs:List TX):(sortedT zs).length=zs.length:=by unfold sortedT;exact List.length_mergeSort zs
theorem row_opened {w:World} {base:Nat} {e:TypeId} {v:Value} {zs:List TX} (hn:0<zs.length) (hr:w.ownsRow base e 1 v zs.length (zs.map encStr)) :
  ∃ g cap cur,v = .slice (some ⟨g,0,none⟩) zs.length cap∧base≤g∧w.heap[g]?=some (.cells cur e (0,0))∧zs.length≤cap∧cap≤maxLen∧cur.size=cap * 1∧Holds encStr w g 0 zs.toArray:=by
 rcases hr.2 with ⟨_,hz⟩|⟨g,cap,cur,rfl,hbase,hgb,r1,r2,r3,r4⟩
 ·omega
 ·exact ⟨g,cap,cur,rfl,hbase,hgb,r1,r2,r3,holds_of_block hgb (by simpa using r4)⟩
theorem sorted_calls (Bs:Nat) (sv:Value) (zs:List TX) (hreach:zs.length * 16≤140737488355328) (w:World) (hBs:Bs<w.heap.size) (hc:w.cell? ⟨Bs,0,none⟩=some sv) (hI:Texts w.heap.size w sv zs) :
  Calls Tryz.prog 201 #[.func (.func 259) #[] #[.pointer (some ⟨Bs,0,none⟩)]] w fun e W'=>((zs=[]∧∃ A c,e = .returned (.slice A 0 c))∨∃ g cap,e = .returned (.slice (some ⟨g,0,none⟩) (sortedT zs).length cap)∧(sortedT zs).length≤cap∧w.heap.size≤g∧g<W'.heap.size∧Holds encStr W' g 0 (sortedT zs).toArray)∧Below w.heap.size w W':=by
 have hcon:=collect_calls Bs sv zs hreach w hBs hc hI
 clear hc hI
 by_cases h0:zs=[]
 ·subst h0
  go_enter Tryz.func201,Tryz.ntmps201
  go_wp2_with (first|(go_at_call 257;refine hcon.mono ?_;rintro e W' ⟨v,rfl,hr,hb⟩;have hr2:=hr.2;obtain ⟨A1,c1,rfl⟩:∃ A1 c1,v = .slice A1 0 c1:=(by rcases hr2 with ⟨rfl,_⟩|⟨g,cap,cur,rfl,_⟩<;>exact ⟨_,_,rfl⟩);clear hr hr2)|(go_at_call 258;refine (Tryz.slices_Sort_string_none _ _ _).mono ?_;rintro e w' ⟨rfl,rfl⟩))
  go_ret
  exact ⟨.inl ⟨by first|rfl|trivial,_,_,rfl⟩,hb⟩
 ·have hz0:0<zs.length:=by cases zs with
   | nil=>exact absurd rfl h0
   | cons x t=>simp
  go_enter Tryz.func201,Tryz.ntmps201
  go_wp2_with (first|(go_at_call 257;refine hcon.mono ?_;rintro e W' ⟨v,rfl,hr,hb⟩;obtain ⟨g,cap,cur,rfl,hg,hgb,r1,r2,r3,hH⟩:=row_opened hz0 hr;have hlt:=(Array.getElem?_eq_some_iff.1 hgb).1;have hown:=fun nn os=>ownsRow_sorted (n:=nn) (os:=os) (ts:=sortedT zs) (sortedT_len zs) hg hgb r1 r2 r3;have hbel:=fun nn os=>hb.grown (grownBy_sorted (n:=nn) (os:=os) (sortedT zs).toArray) hb.size (fun j hj=>by cases hj;exact hg);clear hr)|(go_at_call 258;refine (Tryz.slices_Sort_string g 0 cap zs _ hH hlt (by omega)).mono ?_;rintro e w' ⟨rfl,nn,os,rfl⟩))
  go_ret
  have hs:=hown nn os
  obtain ⟨g1,cap1,cur1,e1,hg1,hgb1,s1,s2,s3,hH1⟩:=row_opened (by rw [sortedT_len];exact hz0) (by rw [sortedT_len];exact hs)
  injection e1 with e2 e3 e4
  injection e2 with e5
  injection e5 with e6
  subst e6
  subst e4
  exact ⟨.inr ⟨g,cap,by rw [sortedT_len];rfl,s1,hg,(Array.getElem?_eq_some_iff.1 hgb1).1,hH1⟩,hbel nn os⟩
end Go.Proofs.YtdcphpbimeoioaaGreatDoorE.SV
end
section
set_option linter.unusedSectionVars false
namespace Go.Proofs.YtdcphpbimeoioaaGreatDoorE
open Go Go.RowKit Go.Shelf Go.Proofs
set_option linter.unusedVariables false
set_option linter.unusedSimpArgs false
structure Aside0 (p:Prop):Prop where mk ::(out:p)
theorem below_then {a b c:World} {n:Nat} (h:Below n a b) (hn:n≤b.heap.size) (k:Below b.heap.size b c):Below n a c :=
  ⟨k.os.trans h.os,k.tape.trans h.tape,k.output.trans h.output,Nat.le_trans h.size k.size,fun i hi=>(k.block i (Nat.lt_of_lt_of_le hi hn)).trans (h.block i hi)⟩
def StrsAt (w:World) (A:Option Addr) (l:List ByteArray):Prop :=
  l=[]∨∃ bk o,A=some ⟨bk,o,none⟩∧(∀ (j:Nat) x,l[j]?=some x→w.cell? ⟨bk,o+j,none⟩=some (.string x))∧bk<w.heap.size
def qn.texts (l0:List ByteArray):List (List UInt8):=l0.map (·.data.toList)
theorem qn.hold (l0:List ByteArray) (A0:Option Addr) (c0:Nat) (w:World) (hr0:StrsAt w A0 l0):SV.Texts w.heap.size w (.slice A0 l0.length c0) (qn.texts l0):=by
  by_cases h0:l0=[]
  · subst h0
    exact .inl ⟨rfl,A0,c0,rfl⟩
  · obtain ⟨bk,o,rfl,hcell,hbk⟩:=hr0.resolve_left h0
    refine .inr ⟨bk,o,c0,by simp [qn.texts],hbk,fun j hj=>?_⟩
    have hj':j<l0.length:=by simpa [qn.texts] using hj
    rw [hcell j _ (List.getElem?_eq_getElem hj')]
    simp [qn.texts,Go.Proofs.encStr,hj']
theorem qn.sorted (l0:List ByteArray) (A0:Option Addr) (c0:Nat) (w:World) (hr0:StrsAt w A0 l0) (hl:l0.length≤1000000000) :
    Calls Tryz.prog 201 #[.func (.func 259) #[] #[.pointer (some ⟨w.heap.size,0,none⟩)]] (w.alloc (.cells #[.slice A0 l0.length c0] 23)) fun e W'=>∃ As ns cs,e = .returned (.slice As ns cs)∧Below w.heap.size w W' ∧
      ((l0=[]∧ns=0)∨(ns=(SV.sortedT (qn.texts l0)).length∧ns≤cs∧∃ g,As=some ⟨g,0,none⟩∧w.heap.size≤g∧Go.Sort.Holds Go.Proofs.encStr W' g 0 (SV.sortedT (qn.texts l0)).toArray)):=by
  have hB0:Below w.heap.size w (w.alloc (.cells #[.slice A0 l0.length c0] 23)):=(Below.refl _ w).alloc (Nat.le_refl _) _
  have hsz:w.heap.size<(w.alloc (.cells #[.slice A0 l0.length c0] 23)).heap.size:=by show _<(w.heap.push _).size;simp
  have hI:=(qn.hold l0 A0 c0 w hr0).below hB0
  have hI2:SV.Texts (w.alloc (.cells #[.slice A0 l0.length c0] 23)).heap.size (w.alloc (.cells #[.slice A0 l0.length c0] 23)) (.slice A0 l0.length c0) (qn.texts l0):=by
    rcases hI with h|⟨b,o,cap,e,hb,hc⟩
    · exact .inl h
    · exact .inr ⟨b,o,cap,e,by omega,hc⟩
  refine (SV.sorted_calls w.heap.size _ (qn.texts l0) (by simp [qn.texts];omega) _ hsz (by unfold World.cell?;rw [(MapKept.heap_alloc w _).1];rfl) hI2).mono ?_
  rintro e W' ⟨h,hb⟩
  have hb2:Below w.heap.size w W':=below_then hB0 hB0.size hb
  rcases h with ⟨hz,A,c,rfl⟩|⟨g,cap,rfl,hcap,hg,_,hH⟩
  · exact ⟨A,0,c,rfl,hb2, .inl ⟨by simpa [qn.texts] using hz,rfl⟩⟩
  · exact ⟨_,_,_,rfl,hb2, .inr ⟨rfl,hcap,g,rfl,by omega,hH⟩⟩
theorem qn.compact (l0:List ByteArray) (w W:World) (As:Option Addr) (ns cs:Nat) (hB:Below w.heap.size w W) (hl:l0.length≤1000000000) (hs:(l0=[]∧ns=0)∨(ns=(SV.sortedT (qn.texts l0)).length∧ns≤cs∧∃ g,As=some ⟨g,0,none⟩∧w.heap.size≤g∧Go.Sort.Holds Go.Proofs.encStr W g 0 (SV.sortedT (qn.texts l0)).toArray)) :
    Calls Tryz.prog 205 #[.slice As ns cs] W fun e W'=>∃ Ac cc,e = .returned (.slice Ac (Lib.compact (SV.sortedT (qn.texts l0))).length cc)∧Below w.heap.size w W':=by
  rcases hs with ⟨rfl,rfl⟩|⟨rfl,hcs,g,rfl,hg,hH⟩
  · refine (Tryz.slices_Compact_string_empty As cs W).mono ?_
    rintro e W' ⟨rfl,rfl⟩
    have h0:SV.sortedT (qn.texts [])=[]:=List.length_eq_zero_iff.1 (by rw [SV.sortedT_len];rfl)
    rw [h0]
    exact ⟨As,cs,rfl,hB⟩
  · refine (Tryz.slices_Compact_string g 0 cs _ W hH (by rw [SV.sortedT_len];simp [qn.texts];omega) hcs).mono ?_
    rintro e W' ⟨rfl,q,rfl⟩
    have hgr:=Go.grownBy_sorted (w:=W) (g:=g) (n:=q) (os:=#[]) (Lib.compact (SV.sortedT (qn.texts l0))++List.replicate ((SV.sortedT (qn.texts l0)).length - (Lib.compact (SV.sortedT (qn.texts l0))).length) []).toArray
    rw [Go.Sort.grow_empty] at hgr
    exact ⟨_,_,rfl,hB.grown hgr hB.size (fun j hj=>by cases hj;exact hg)⟩
theorem qn.later {l0:List ByteArray} {n:Nat} {W W2:World} {As:Option Addr} {ns cs:Nat} (hs:(l0=[]∧ns=0)∨(ns=(SV.sortedT (qn.texts l0)).length∧ns≤cs∧∃ g,As=some ⟨g,0,none⟩∧n≤g∧Go.Sort.Holds Go.Proofs.encStr W g 0 (SV.sortedT (qn.texts l0)).toArray)) (hB:Below W.heap.size W W2) :
    (l0=[]∧ns=0)∨(ns=(SV.sortedT (qn.texts l0)).length∧ns≤cs∧∃ g,As=some ⟨g,0,none⟩∧n≤g∧Go.Sort.Holds Go.Proofs.encStr W2 g 0 (SV.sortedT (qn.texts l0)).toArray):=by
  rcases hs with h|⟨h1,h2,g,h3,h4,h5⟩
  · exact .inl h
  · refine .inr ⟨h1,h2,g,h3,h4,fun j hj=>?_⟩
    have h6:=h5 j hj
    have hlt:=World.block_lt_of_cell? W _ h6.1
    exact ⟨(hB.cell hlt).trans h6.1,(hB.frozen hlt).trans h6.2⟩
set_option maxHeartbeats 4000000 in
set_option maxRecDepth 100000 in
theorem qn.calls (A0:Option Addr) (c0:Nat) (l0:List ByteArray) (b:Bool) (r:Int) (w:World) (hr0:StrsAt w A0 l0) (hc0:l0.length≤c0) (hl:l0.length≤1000000000)
    (hb:∀ W,Below w.heap.size w W→Calls Tryz.prog 203 #[.slice A0 l0.length c0, .func (.func 204) #[] #[]] W fun e w'=>e = .returned (.bool b)∧Below W.heap.size W w')
    (h:(if b=true then some 2 else (if (l0.length:Int)>4 then some 4 else (if (Lib.compact (SV.sortedT (qn.texts l0))).length<l0.length then some 5 else some 0)))=some r) :
    Calls Tryz.prog 148 #[.slice A0 l0.length c0] w fun e w'=>e = .returned (.int .i64 r)∧Below w.heap.size w w':=by
  have HR0:=Aside0.mk hr0
  have HC0:=Aside0.mk hc0
  have HL:=Aside0.mk hl
  have HF:=Aside0.mk hb
  have hV:∀ W:World,Calls Tryz.prog 202 #[.slice A0 l0.length c0] W fun e w'=>e = .returned (.func (.func 259) #[] #[.pointer (some ⟨W.heap.size,0,none⟩)])∧w'=W.alloc (.cells #[.slice A0 l0.length c0] 23):=fun W=>(callsIn_wide (n:=6)).1 (SV.values_in Fence.wide 6 trivial rfl A0 l0.length c0 W)
  have HV:=Aside0.mk hV
  clear hr0 hc0 hl hb hV
  by_cases hbt:b=true
  · subst hbt
    rw [if_pos rfl] at h
    obtain rfl:=Option.some.inj h
    go_enter Tryz.func148,Tryz.ntmps148
    go_wp2_with (first|(go_at_call 202;refine (HV.out _).mono ?_;rintro e w' ⟨rfl,rfl⟩)|(go_at_call 201;refine (qn.sorted l0 A0 c0 w HR0.out HL.out).mono ?_;rintro e W' ⟨As,ns,cs,rfl,hB,hS⟩;have HB:=Aside0.mk hB;clear hB hS)|(go_at_call 203;refine (HF.out _ HB.out).mono ?_;rintro e W2 ⟨rfl,hB2⟩;have HB2:=Aside0.mk (below_then HB.out HB.out.size hB2);clear hB2))
    go_ret
    exact ⟨rfl,HB2.out⟩
  · rw [if_neg hbt] at h
    have hbf:b=false:=by simpa using hbt
    subst hbf
    clear hbt
    by_cases h4:(l0.length:Int)>4
    · rw [if_pos h4] at h
      obtain rfl:=Option.some.inj h
      have h4b:decide ((4:Int)<(l0.length:Int))=true:=decide_eq_true h4
      have h4c:decide (4<l0.length)=true:=decide_eq_true (by omega)
      clear h4
      go_enter Tryz.func148,Tryz.ntmps148
      go_wp2_with (first|(go_at_call 202;refine (HV.out _).mono ?_;rintro e w' ⟨rfl,rfl⟩)|(go_at_call 201;refine (qn.sorted l0 A0 c0 w HR0.out HL.out).mono ?_;rintro e W' ⟨As,ns,cs,rfl,hB,hS⟩;have HB:=Aside0.mk hB;clear hB hS)|(go_at_call 203;refine (HF.out _ HB.out).mono ?_;rintro e W2 ⟨rfl,hB2⟩;have HB2:=Aside0.mk (below_then HB.out HB.out.size hB2);clear hB2))
      go_ret
      exact ⟨rfl,HB2.out⟩
    · rw [if_neg h4] at h
      have h4b:decide ((4:Int)<(l0.length:Int))=false:=decide_eq_false h4
      have h4c:decide (4<l0.length)=false:=decide_eq_false (by omega)
      clear h4
      by_cases h5:(Lib.compact (SV.sortedT (qn.texts l0))).length<l0.length
      · rw [if_pos h5] at h
        obtain rfl:=Option.some.inj h
        have h5b:decide (((Lib.compact (SV.sortedT (qn.texts l0))).length:Int)<(l0.length:Int))=true:=decide_eq_true (by omega)
        have h5c:decide ((Lib.compact (SV.sortedT (qn.texts l0))).length<l0.length)=true:=decide_eq_true h5
        clear h5
        generalize hLC:Lib.compact (SV.sortedT (qn.texts l0))=LC at h5b h5c
        have HLC:=Aside0.mk hLC
        clear hLC
        go_enter Tryz.func148,Tryz.ntmps148
        go_wp2_with (first|(go_at_call 202;refine (HV.out _).mono ?_;rintro e w' ⟨rfl,rfl⟩)|(go_at_call 201;refine (qn.sorted l0 A0 c0 w HR0.out HL.out).mono ?_;rintro e W' ⟨As,ns,cs,rfl,hB,hS⟩;have HB:=Aside0.mk hB;have HS:=Aside0.mk hS;clear hB hS)|(go_at_call 203;refine (HF.out _ HB.out).mono ?_;rintro e W2 ⟨rfl,hB2⟩;have HB2:=Aside0.mk (below_then HB.out HB.out.size hB2);have HS2:=Aside0.mk (qn.later HS.out hB2);clear hB2)|(go_at_call 205;refine (qn.compact l0 w _ As ns cs HB2.out HL.out HS2.out).mono ?_;rintro e W3 ⟨Ac,cc,rfl,hB3⟩;rw [HLC.out];have HB3:=Aside0.mk hB3;clear hB3))
        go_ret
        exact ⟨rfl,HB3.out⟩
      · rw [if_neg h5] at h
        obtain rfl:=Option.some.inj h
        have h5b:decide (((Lib.compact (SV.sortedT (qn.texts l0))).length:Int)<(l0.length:Int))=false:=decide_eq_false (by omega)
        have h5c:decide ((Lib.compact (SV.sortedT (qn.texts l0))).length<l0.length)=false:=decide_eq_false h5
        clear h5
        generalize hLC:Lib.compact (SV.sortedT (qn.texts l0))=LC at h5b h5c
        have HLC:=Aside0.mk hLC
        clear hLC
        go_enter Tryz.func148,Tryz.ntmps148
        go_wp2_with (first|(go_at_call 202;refine (HV.out _).mono ?_;rintro e w' ⟨rfl,rfl⟩)|(go_at_call 201;refine (qn.sorted l0 A0 c0 w HR0.out HL.out).mono ?_;rintro e W' ⟨As,ns,cs,rfl,hB,hS⟩;have HB:=Aside0.mk hB;have HS:=Aside0.mk hS;clear hB hS)|(go_at_call 203;refine (HF.out _ HB.out).mono ?_;rintro e W2 ⟨rfl,hB2⟩;have HB2:=Aside0.mk (below_then HB.out HB.out.size hB2);have HS2:=Aside0.mk (qn.later HS.out hB2);clear hB2)|(go_at_call 205;refine (qn.compact l0 w _ As ns cs HB2.out HL.out HS2.out).mono ?_;rintro e W3 ⟨Ac,cc,rfl,hB3⟩;rw [HLC.out];have HB3:=Aside0.mk hB3;clear hB3))
        go_ret
        exact ⟨rfl,HB3.out⟩
theorem sorted_pair (ts:List (List UInt8)):(SV.sortedT ts).Pairwise (fun a b=>a≤b):=by
  have:=List.pairwise_mergeSort (le:=fun x y:List UInt8=>decide (x≤y)) (fun a b c h1 h2=>by
    simp only [decide_eq_true_eq] at h1 h2 ⊢;exact List.le_trans h1 h2) (fun a b=>by
    simp only [Bool.or_eq_true,decide_eq_true_eq];exact List.le_total a b) ts
  exact this.imp (fun h=>by simpa using h)
theorem compact_dup (ts:List (List UInt8)):(Lib.compact (SV.sortedT ts)).length<ts.length↔¬ ts.Nodup:=by
  have hlen:(SV.sortedT ts).length=ts.length:=List.length_mergeSort ts
  have hperm:(SV.sortedT ts).Perm ts:=List.mergeSort_perm ts _
  have hpw:=List.pairwise_iff_getElem.1 (sorted_pair ts)
  rw [← hperm.nodup_iff]
  generalize SV.sortedT ts=z at hlen hpw
  have hget:∀ j,(h:j<z.length)→z.toArray[j]! = z[j]:=fun j h=>by simp [getElem!_pos,h]
  constructor
  · intro h hn
    rw [Lib.compact_all z (fun j hj=>?_)] at h
    · omega
    · by_cases h0:j=0
      · subst h0;exact Lib.keeps_lt_one _ 0 (by omega)
      · refine Lib.keeps_pos ?_
        rw [hget j hj,hget (j - 1) (by omega)]
        intro e
        exact List.pairwise_iff_getElem.1 hn (j - 1) j (by omega) hj (by omega) e.symm
  · intro hn
    have hle:=Lib.compact_length_le z
    refine Classical.byContradiction fun hge=>hn ?_
    have heq:(Lib.compact z).length=z.length:=by omega
    unfold Lib.compact Lib.compactUpTo at heq
    rw [List.length_map] at heq
    have hall:∀ j,j<z.length→Lib.keeps z.toArray j=true:=by
      have h1:=List.length_filter_eq_length_iff (p:=Lib.keeps z.toArray) (l:=List.range z.length)
      rw [List.length_range] at h1
      exact fun j hj=>h1.1 heq j (List.mem_range.2 hj)
    have hadj:∀ j,(h:j+1<z.length)→z[j]≠z[j+1]:=by
      intro j h e
      have:=hall (j+1) h
      rw [Lib.keeps_neg (by omega) (by rw [hget (j+1) h,show j+1 - 1=j from rfl,hget j (by omega)];exact e.symm)] at this
      cases this
    refine List.pairwise_iff_getElem.2 (fun i j hi hj hij e=>?_)
    have h1:=hpw i (i+1) (by omega) (by omega) (by omega)
    refine hadj i (by omega) (List.le_antisymm h1 ?_)
    by_cases h2:i+1=j
    · subst h2;rw [e];exact List.le_refl _
    · rw [e];exact hpw (i+1) j (by omega) hj (by omega)
def dupL:List (List UInt8)→Bool
  | []=>false
  | x ::r=>r.contains x || dupL r
theorem dupL_iff:∀ l:List (List UInt8),dupL l=true↔¬ l.Nodup
  | []=>by simp [dupL]
  | x ::r=>by
    rw [dupL,Bool.or_eq_true,dupL_iff r,List.nodup_cons]
    by_cases h:x∈r
    · simp [h]
    · simp [h]
abbrev query_names_sg:List Sg:=[.tree (.slice .str)]
abbrev query_names_rs:List Rt:=[.tree (.int .i64)]
def query_names (n:Nat) (x:SgEl query_names_sg):Option (RtEl query_names_rs×OutEl query_names_sg) :=
  bif Nat.ble x.1.length 1000000000 then
   bindN (sl_ContainsStrF n (x.1,(),())) fun p1 =>
   some ((bif p1.1.1 then 2 else bif Nat.blt 4 x.1.length then 4 else bif dupL (qn.texts x.1) then 5 else 0,()),((),()))
  else none
abbrev query_names_ent (n:Nat):Ent:=⟨148,query_names_sg,query_names_rs,query_names n⟩
theorem query_names_ok (n:Nat):EntOk Tryz.prog (query_names_ent n):=by
  intro x y hy
  obtain ⟨xs,⟨⟩⟩:=x
  obtain ⟨h0,hy⟩:=cond_some hy
  have hl:=Nat.le_of_ble_eq_true h0
  simp only at hy hl
  cases hC:sl_ContainsStrF n (xs,(),()) with
  | none=>rw [hC] at hy;simp [bindN] at hy
  | some p1 =>
  rw [hC] at hy
  simp only [bindN,Option.bind_some,Option.some.injEq] at hy
  subst hy
  obtain ⟨⟨b,⟨⟩⟩,o⟩:=p1
  refine ⟨enters Tryz.func148 (by kernel_rfl) (by kernel_rfl),?_⟩
  intro S F w vs hr hA
  have hr:Rel S F w []:=hr
  have hsz:vs.size=1:=hA.1
  obtain ⟨v0,rfl⟩:∃ v0,vs=#[v0]:=by
    obtain ⟨q⟩:=vs
    match q,hsz with
    | [a],_=>exact ⟨a,rfl⟩
  have a0:Val S F w (.lst .str xs) v0:=hA.2 0 _ v0 rfl rfl
  have hcont:∀ W,Below w.heap.size w W→Calls Tryz.prog 203 #[v0, .func (.func 204) #[] #[]] W fun e w'=>e = .returned (.bool b)∧Below W.heap.size W w':=by
    intro W hB
    obtain ⟨r1,r2⟩:=below_rel hr (belOff hB)
    obtain ⟨_,h2⟩:=sl_ContainsStrF_ok n (xs,(),()) _ hC
    have hAr:Args S F W (argsOf sl_ContainsStrF_sg (xs,(),()) 0) #[v0, .func (.func 204) #[] #[]]:=by
      refine ⟨rfl,fun i p v hp hv=>?_⟩
      match i,hp,hv with
      | 0,hp,hv=>cases hp;cases hv;exact a0.adv hr r2
      | 1,hp,hv=>cases hp;cases hv;exact .fn _ _ _ _ _ rfl rfl (fun i p v hp=>by simp at hp) (fun i p v hp=>by simp [ptrs] at hp)
      | i+2,hp,hv=>simp at hv
    refine (h2 S F W _ r1 hAr).mono ?_
    rintro e w' ⟨v,S',F',rfl,_,hv,hAd⟩
    have e1:v = .bool b:=val_bool hv
    refine ⟨by rw [e1],hAd.st.1,hAd.st.2.1,hAd.st.2.2.1,hAd.sz,fun k hk=>hAd.same k hk ?_⟩
    rintro ⟨b',z,hz,_,_⟩
    have hz:hget ([]:Heap) b' = .live z:=hz
    simp [hget] at hz
  have hres:(if b=true then some 2 else (if (xs.length:Int)>4 then some 4 else (if (Lib.compact (SV.sortedT (qn.texts xs))).length<xs.length then some 5 else some (0:Int))))=some (bif b then 2 else bif Nat.blt 4 xs.length then 4 else bif dupL (qn.texts xs) then 5 else 0):=by
    cases b with
    | true=>rfl
    | false =>
      have e1:=compact_dup (qn.texts xs)
      have e2:(qn.texts xs).length=xs.length:=by simp [qn.texts]
      have e3:=dupL_iff (qn.texts xs)
      rw [e2] at e1
      simp only [Bool.false_eq_true,if_false,cond_false]
      by_cases h4:4<xs.length
      · have:Nat.blt 4 xs.length=true:=by unfold Nat.blt;rw [Nat.ble_eq];omega
        rw [if_pos (by omega),this];rfl
      · have:Nat.blt 4 xs.length=false:=by
          cases hq:Nat.blt 4 xs.length with
          | false=>rfl
          | true=>exact absurd (Nat.le_of_ble_eq_true hq) h4
        rw [if_neg (by omega),this,cond_false]
        by_cases h5:(qn.texts xs).Nodup
        · have:dupL (qn.texts xs)=false:=by
            cases hq:dupL (qn.texts xs) with
            | false=>rfl
            | true=>exact absurd h5 (e3.1 hq)
          rw [if_neg (fun h=>e1.1 h h5),this];rfl
        · rw [if_pos (e1.2 h5),e3.2 h5];rfl
  cases a0 with
  | lst _ _ a cap vf hc ha hs hcell hv =>
    have hstr:StrsAt w a xs:=by
      by_cases hx:xs=[]
      · exact .inl hx
      · obtain ⟨ad,rfl⟩:=ha hx
        have hsp:=hs hx ad rfl
        obtain ⟨bk,o,sp⟩:=ad
        simp only at hsp
        subst hsp
        have hcs:∀ (j:Nat) (x:ByteArray),xs[j]?=some x→w.cell? ⟨bk,o+j,none⟩=some (.string x):=by
          intro j x hj
          have h1:=(hcell _ j x 0 (.str x) rfl hj rfl).2
          have h2:=val_str (hv j x 0 (.str x) hj rfl)
          rw [h2] at h1
          simpa [Ty.size] using h1
        have hbk:bk<w.heap.size:=by
          cases xs with
          | nil=>exact absurd rfl hx
          | cons x r=>exact hr.fsz _ (hcell _ 0 x 0 (.str x) rfl rfl rfl).1
        exact .inr ⟨bk,o,rfl,hcs,hbk⟩
    refine (qn.calls a cap xs b _ w hstr hc hl hcont hres).mono ?_
    rintro e w' ⟨rfl,hB⟩
    obtain ⟨r1,r2⟩:=below_rel hr (belOff hB)
    exact ⟨_,S,F,rfl,r1, .int _ _,r2⟩
end Go.Proofs.YtdcphpbimeoioaaGreatDoorE
end
section
set_option linter.unusedSectionVars false
namespace Go.Proofs.YtdcphpbimeoioaaGreatDoorE
open Go
set_option linter.unusedVariables false
set_option maxRecDepth 100000
abbrev query_agg_sg:List Sg:=[.tree .str]
abbrev query_agg_rs:List Rt:=[.tree (.int .i64)]
def query_agg (n:Nat) (x:SgEl query_agg_sg):Option (RtEl query_agg_rs×OutEl query_agg_sg) :=
  bif seq x.1 (⟨#[99,111,117,110,116]⟩:ByteArray) then
   some (((1:Int),()),((),()))
  else
  bif seq x.1 (⟨#[115,117,109]⟩:ByteArray) then
   some (((2:Int),()),((),()))
  else
  bif seq x.1 (⟨#[109,105,110]⟩:ByteArray) then
   some (((3:Int),()),((),()))
  else
  bif seq x.1 (⟨#[109,97,120]⟩:ByteArray) then
   some (((4:Int),()),((),()))
  else
  some (((0:Int),()),((),()))
abbrev query_agg_ent (n:Nat):Ent:=⟨197,query_agg_sg,query_agg_rs,query_agg n⟩
theorem query_agg_ok (n:Nat):EntOk Tryz.prog (query_agg_ent n):=ent_ok' mixed (T:=[]) tabNil tabLNil fun x=>by kernel_rfl
abbrev query_name_sg:List Sg:=[.tree (.int .i64)]
abbrev query_name_rs:List Rt:=[.tree .str]
def query_name_l0 (n:Nat):Nat→SgEl [.tree (.int .i64), .own .str, .tree (.int .i64), .tree (.int .i64)]→Option (SgEl [] ⊕ SgEl [.tree .str])
  | 0,_=>none
  | g+1,s =>
    bif ilt s.2.2.2.1 s.2.2.1 then
     bif ile (0:Int) s.2.2.2.1 then
      bindN (lat s.2.1 (iN s.2.2.2.1)) fun v1 =>
      bindN (lat s.2.1 (iN s.2.2.2.1)) fun v2 =>
      bindN (query_agg n (v2,())) fun p3 =>
      bif ieq p3.1.1 s.1 then
       some (Sum.inr (v2,()))
      else
      bindL (query_name_l0 n g (s.1,s.2.1,s.2.2.1,iadd .i64 s.2.2.2.1 (1:Int),())) (fun a4 =>
       some (Sum.inl ())) fun b5 =>
      some (Sum.inr b5)
     else none
    else
    some (Sum.inl ())
theorem query_name_l0_ok (n:Nat):∀ g,LEntOk Tryz.prog 146 (nSl query_name_sg) ⟨0,[.tree (.int .i64), .own .str, .tree (.int .i64), .tree (.int .i64)],0,[],[.tree .str],query_name_l0 n g⟩ g
  | 0=>loop_zero' fun _=>rfl
  | g+1=>loop_step' mixed (T:=[query_agg_ent n]) (tabCons (query_agg_ok n) tabNil) tabLNil (query_name_l0_ok n g) fun s=>by kernel_rfl
def query_name (n:Nat) (x:SgEl query_name_sg):Option (RtEl query_name_rs×OutEl query_name_sg) :=
  bindL (query_name_l0 n n (x.1,[(⟨#[99,111,117,110,116]⟩:ByteArray),(⟨#[115,117,109]⟩:ByteArray),(⟨#[109,105,110]⟩:ByteArray),(⟨#[109,97,120]⟩:ByteArray)],ilen [(⟨#[99,111,117,110,116]⟩:ByteArray),(⟨#[115,117,109]⟩:ByteArray),(⟨#[109,105,110]⟩:ByteArray),(⟨#[109,97,120]⟩:ByteArray)],(0:Int),())) (fun a1 =>
   some (((⟨#[]⟩:ByteArray),()),((),()))) fun b2 =>
  some (b2,((),()))
abbrev query_name_ent (n:Nat):Ent:=⟨146,query_name_sg,query_name_rs,query_name n⟩
theorem query_name_ok (n:Nat):EntOk Tryz.prog (query_name_ent n):=ent_ok' mixed (T:=[query_agg_ent n]) (tabCons (query_agg_ok n) tabNil) (tabLCons (query_name_l0_ok n n) tabLNil) fun x=>by kernel_rfl
abbrev query_Right_sg:List Sg:=[.tree tQuery]
abbrev query_Right_rs:List Rt:=[.tree .bool]
def query_Right (n:Nat) (x:SgEl query_Right_sg):Option (RtEl query_Right_rs×OutEl query_Right_sg) :=
  bindN (query_name n (x.1.1,())) fun p1 =>
  bif !(seq p1.1.1 (⟨#[]⟩:ByteArray)) then
   bindN (word_Name n (x.1.2.1,())) fun p2 =>
   bif p2.1.1 then
    bindN (pick_Right n (x.1.2.2.1,())) fun p3 =>
    bif p3.1.1 then
     bindN (query_names n x.1.2.2.2) fun p4 =>
     some ((ieq p4.1.1 (0:Int),()),((),()))
    else
    some ((false,()),((),()))
   else
   some ((false,()),((),()))
  else
  some ((false,()),((),()))
abbrev query_Right_ent (n:Nat):Ent:=⟨78,query_Right_sg,query_Right_rs,query_Right n⟩
theorem query_Right_ok (n:Nat):EntOk Tryz.prog (query_Right_ent n):=ent_ok' mixed (T:=[query_name_ent n,word_Name_ent n,pick_Right_ent n,query_names_ent n]) (tabCons (query_name_ok n) (tabCons (word_Name_ok n) (tabCons (pick_Right_ok n) (tabCons (query_names_ok n) tabNil)))) tabLNil fun x=>by kernel_rfl
abbrev query_Fits_sg:List Sg:=[.tree tQuery, .tree tKey]
abbrev query_Fits_rs:List Rt:=[.tree .bool]
def query_Fits (n:Nat) (x:SgEl query_Fits_sg):Option (RtEl query_Fits_rs×OutEl query_Fits_sg) :=
  bif seq x.2.1.1 x.1.2.1 then
   bindN (pick_Fits n (x.2.1.2.1,x.1.2.2.1,())) fun p1 =>
   some (p1.1,((),(),()))
  else
  some ((false,()),((),(),()))
abbrev query_Fits_ent (n:Nat):Ent:=⟨121,query_Fits_sg,query_Fits_rs,query_Fits n⟩
theorem query_Fits_ok (n:Nat):EntOk Tryz.prog (query_Fits_ent n):=ent_ok' mixed (T:=[pick_Fits_ent n]) (tabCons (pick_Fits_ok n) tabNil) tabLNil fun x=>by kernel_rfl
abbrev query_Group_sg:List Sg:=[.tree tQuery, .tree tKey]
abbrev query_Group_rs:List Rt:=[.tree .str]
def query_Group (n:Nat) (x:SgEl query_Group_sg):Option (RtEl query_Group_rs×OutEl query_Group_sg) :=
  bindN (tag_Only n (x.2.1.2.1,x.1.2.2.2)) fun p1 =>
  bindN (tag_Text n p1.1) fun p2 =>
  some (p2.1,((),(),()))
abbrev query_Group_ent (n:Nat):Ent:=⟨122,query_Group_sg,query_Group_rs,query_Group n⟩
theorem query_Group_ok (n:Nat):EntOk Tryz.prog (query_Group_ent n):=ent_ok' mixed (T:=[tag_Only_ent n,tag_Text_ent n]) (tabCons (tag_Only_ok n) (tabCons (tag_Text_ok n) tabNil)) tabLNil fun x=>by kernel_rfl
abbrev chain_newest_sg:List Sg:=[.tree (.slice tVersion), .tree (.int .i64)]
abbrev chain_newest_rs:List Rt:=[.tree (.int .i64)]
def chain_newest_l0 (n:Nat):Nat→SgEl [.tree (.slice tVersion), .tree (.int .i64), .tree (.int .i64)]→Option (SgEl [] ⊕ SgEl [.tree (.int .i64)])
  | 0,_=>none
  | g+1,s =>
    bif ile (0:Int) s.2.2.1 then
     bif ile (0:Int) s.2.2.1 then
      bindN (lat s.1 (iN s.2.2.1)) fun v1 =>
      bif ile v1.1 s.2.1 then
       some (Sum.inr s.2.2)
      else
      bindL (chain_newest_l0 n g (s.1,s.2.1,isub .i64 s.2.2.1 (1:Int),())) (fun a2 =>
       some (Sum.inl ())) fun b3 =>
      some (Sum.inr b3)
     else none
    else
    some (Sum.inl ())
theorem chain_newest_l0_ok (n:Nat):∀ g,LEntOk Tryz.prog 193 (nSl chain_newest_sg) ⟨0,[.tree (.slice tVersion), .tree (.int .i64), .tree (.int .i64)],0,[],[.tree (.int .i64)],chain_newest_l0 n g⟩ g
  | 0=>loop_zero' fun _=>rfl
  | g+1=>loop_step' mixed (T:=[]) tabNil tabLNil (chain_newest_l0_ok n g) fun s=>by kernel_rfl
def chain_newest (n:Nat) (x:SgEl chain_newest_sg):Option (RtEl chain_newest_rs×OutEl chain_newest_sg) :=
  bindL (chain_newest_l0 n n (x.1,x.2.1,isub .i64 (ilen x.1) (1:Int),())) (fun a1 =>
   some (((-1:Int),()),((),(),()))) fun b2 =>
  some (b2,((),(),()))
abbrev chain_newest_ent (n:Nat):Ent:=⟨193,chain_newest_sg,chain_newest_rs,chain_newest n⟩
theorem chain_newest_ok (n:Nat):EntOk Tryz.prog (chain_newest_ent n):=ent_ok' mixed (T:=[]) tabNil (tabLCons (chain_newest_l0_ok n n) tabLNil) fun x=>by kernel_rfl
abbrev chain_At_sg:List Sg:=[.tree (.slice tVersion), .tree (.int .i64)]
abbrev chain_At_rs:List Rt:=[.tree tCell]
def chain_At (n:Nat) (x:SgEl chain_At_sg):Option (RtEl chain_At_rs×OutEl chain_At_sg) :=
  bindN (chain_newest n x) fun p1 =>
  bif ile (0:Int) p1.1.1 then
   bif ile (0:Int) p1.1.1 then
    bindN (lat x.1 (iN p1.1.1)) fun v2 =>
    some (v2.2,((),(),()))
   else none
  else
  some ((((0:Int),((0:Int),false,()),(0:Int),(0:Int),()),()),((),(),()))
abbrev chain_At_ent (n:Nat):Ent:=⟨140,chain_At_sg,chain_At_rs,chain_At n⟩
theorem chain_At_ok (n:Nat):EntOk Tryz.prog (chain_At_ent n):=ent_ok' mixed (T:=[chain_newest_ent n]) (tabCons (chain_newest_ok n) tabNil) tabLNil fun x=>by kernel_rfl
abbrev shard_dropped1_sg:List Sg:=[.tree tDrop, .box [.tree (.int .i64)], .box [.tree (.int .i64)]]
abbrev shard_dropped1_rs:List Rt:=[.tree .bool]
def shard_dropped1 (n:Nat) (x:SgEl shard_dropped1_sg):Option (RtEl shard_dropped1_rs×OutEl shard_dropped1_sg) :=
  bif ieq x.1.1 x.2.1.1 then
   some ((ile x.1.2.1 x.2.2.1.1,()),((),x.2))
  else
  some ((false,()),((),x.2))
abbrev shard_dropped1_ent (n:Nat):Ent:=⟨192,shard_dropped1_sg,shard_dropped1_rs,shard_dropped1 n⟩
theorem shard_dropped1_ok (n:Nat):EntOk Tryz.prog (shard_dropped1_ent n):=ent_ok' mixed (T:=[]) tabNil tabLNil fun x=>by kernel_rfl
abbrev sl_IndexDrop_sg:List Sg:=[.tree (.slice tDrop), .fnv 192 [.int .i64, .int .i64]]
abbrev sl_IndexDrop_rs:List Rt:=[.tree (.int .i64)]
def sl_IndexDrop_l0 (n:Nat):Nat→SgEl [.tree (.slice tDrop), .fnv 192 [.int .i64, .int .i64], .tree (.int .i64), .tree (.int .i64)]→Option (SgEl [.fnv 192 [.int .i64, .int .i64]] ⊕ SgEl [.fnv 192 [.int .i64, .int .i64], .tree (.int .i64)])
  | 0,_=>none
  | g+1,s =>
    bif ilt s.2.2.2.1 s.2.2.1 then
     bif ile (0:Int) s.2.2.2.1 then
      bindN (lat s.1 (iN s.2.2.2.1)) fun v1 =>
      bindN (shard_dropped1 n (v1,(s.2.1.1,()),s.2.1.2,())) fun p2 =>
      bif p2.1.1 then
       some (Sum.inr ((p2.2.2.1.1,p2.2.2.2.1),s.2.2.2))
      else
      bindL (sl_IndexDrop_l0 n g (s.1,(p2.2.2.1.1,p2.2.2.2.1),s.2.2.1,iadd .i64 s.2.2.2.1 (1:Int),())) (fun a3 =>
       some (Sum.inl a3)) fun b4 =>
      some (Sum.inr b4)
     else none
    else
    some (Sum.inl (s.2.1,()))
theorem sl_IndexDrop_l0_ok (n:Nat):∀ g,LEntOk Tryz.prog 247 (nSl sl_IndexDrop_sg) ⟨0,[.tree (.slice tDrop), .fnv 192 [.int .i64, .int .i64], .tree (.int .i64), .tree (.int .i64)],0,[.fnv 192 [.int .i64, .int .i64]],[.fnv 192 [.int .i64, .int .i64], .tree (.int .i64)],sl_IndexDrop_l0 n g⟩ g
  | 0=>loop_zero' fun _=>rfl
  | g+1=>loop_step' mixed (T:=[shard_dropped1_ent n]) (tabCons (shard_dropped1_ok n) tabNil) tabLNil (sl_IndexDrop_l0_ok n g) fun s=>by kernel_rfl
def sl_IndexDrop (n:Nat) (x:SgEl sl_IndexDrop_sg):Option (RtEl sl_IndexDrop_rs×OutEl sl_IndexDrop_sg) :=
  bindL (sl_IndexDrop_l0 n n (x.1,x.2.1,ilen x.1,(0:Int),())) (fun a1 =>
   some (((-1:Int),()),((),a1))) fun b2 =>
  some (b2.2,((),b2.1,()))
abbrev sl_IndexDrop_ent (n:Nat):Ent:=⟨247,sl_IndexDrop_sg,sl_IndexDrop_rs,sl_IndexDrop n⟩
theorem sl_IndexDrop_ok (n:Nat):EntOk Tryz.prog (sl_IndexDrop_ent n):=ent_ok' mixed (T:=[shard_dropped1_ent n]) (tabCons (shard_dropped1_ok n) tabNil) (tabLCons (sl_IndexDrop_l0_ok n n) tabLNil) fun x=>by kernel_rfl
abbrev sl_ContainsDrop_sg:List Sg:=[.tree (.slice tDrop), .fnv 192 [.int .i64, .int .i64]]
abbrev sl_ContainsDrop_rs:List Rt:=[.tree .bool]
def sl_ContainsDrop (n:Nat) (x:SgEl sl_ContainsDrop_sg):Option (RtEl sl_ContainsDrop_rs×OutEl sl_ContainsDrop_sg) :=
  bindN (sl_IndexDrop n x) fun p1 =>
  some ((ile (0:Int) p1.1.1,()),((),p1.2.2))
abbrev sl_ContainsDrop_ent (n:Nat):Ent:=⟨191,sl_ContainsDrop_sg,sl_ContainsDrop_rs,sl_ContainsDrop n⟩
theorem sl_ContainsDrop_ok (n:Nat):EntOk Tryz.prog (sl_ContainsDrop_ent n):=ent_ok' mixed (T:=[sl_IndexDrop_ent n,shard_dropped1_ent n]) (tabCons (sl_IndexDrop_ok n) (tabCons (shard_dropped1_ok n) tabNil)) tabLNil fun x=>by kernel_rfl
abbrev shard_dropped_sg:List Sg:=[.tree (.slice tDrop), .tree (.int .i64), .tree (.int .i64)]
abbrev shard_dropped_rs:List Rt:=[.tree .bool]
def shard_dropped (n:Nat) (x:SgEl shard_dropped_sg):Option (RtEl shard_dropped_rs×OutEl shard_dropped_sg) :=
  bindN (sl_ContainsDrop n (x.1,x.2,())) fun p1 =>
  some (p1.1,((),(),(),()))
abbrev shard_dropped_ent (n:Nat):Ent:=⟨139,shard_dropped_sg,shard_dropped_rs,shard_dropped n⟩
theorem shard_dropped_ok (n:Nat):EntOk Tryz.prog (shard_dropped_ent n):=ent_ok' mixed (T:=[shard_dropped1_ent n,sl_ContainsDrop_ent n]) (tabCons (shard_dropped1_ok n) (tabCons (sl_ContainsDrop_ok n) tabNil)) tabLNil fun x=>by kernel_rfl
abbrev shard_Read_sg:List Sg:=[.tree tShard, .tree (.int .i64), .tree (.slice tDrop)]
abbrev shard_Read_rs:List Rt:=[.tree (.slice tItem)]
def shard_Read_l0 (n:Nat):Nat→SgEl [.tree (.int .i64), .tree (.slice tDrop), .own tItem, .tree (.slice tEntry), .tree (.int .i64), .tree (.int .i64)]→Option (SgEl [.own tItem] ⊕ SgEl [])
  | 0,_=>none
  | g+1,s =>
    bif ilt s.2.2.2.2.2.1 s.2.2.2.2.1 then
     bif ile (0:Int) s.2.2.2.2.2.1 then
      bindN (lat s.2.2.2.1 (iN s.2.2.2.2.2.1)) fun v1 =>
      bindN (shard_dropped n (s.2.1,v1.1,s.1,())) fun p2 =>
      bif p2.1.1 then
       bindL (shard_Read_l0 n g (s.1,s.2.1,s.2.2.1,s.2.2.2.1,s.2.2.2.2.1,iadd .i64 s.2.2.2.2.2.1 (1:Int),())) (fun a3 =>
        some (Sum.inl a3)) fun b4 =>
       some (Sum.inr ())
      else
      bindN (chain_At n (v1.2.2.1,s.1,())) fun p5 =>
      bindN (cell_Empty n p5.1) fun p6 =>
      bif !p6.1.1 then
       bif roomA s.2.2.1 [(v1.1,v1.2.1,p5.1)] 64 then
        bindL (shard_Read_l0 n g (s.1,s.2.1,app s.2.2.1 [(v1.1,v1.2.1,p5.1)],s.2.2.2.1,s.2.2.2.2.1,iadd .i64 s.2.2.2.2.2.1 (1:Int),())) (fun a7 =>
         some (Sum.inl a7)) fun b8 =>
        some (Sum.inr ())
       else none
      else
      bindL (shard_Read_l0 n g (s.1,s.2.1,s.2.2.1,s.2.2.2.1,s.2.2.2.2.1,iadd .i64 s.2.2.2.2.2.1 (1:Int),())) (fun a9 =>
       some (Sum.inl a9)) fun b10 =>
      some (Sum.inr ())
     else none
    else
    some (Sum.inl (s.2.2.1,()))
theorem shard_Read_l0_ok (n:Nat):∀ g,LEntOk Tryz.prog 65 (nSl shard_Read_sg) ⟨0,[.tree (.int .i64), .tree (.slice tDrop), .own tItem, .tree (.slice tEntry), .tree (.int .i64), .tree (.int .i64)],0,[.own tItem],[],shard_Read_l0 n g⟩ g
  | 0=>loop_zero' fun _=>rfl
  | g+1=>loop_step' mixed (T:=[shard_dropped_ent n,chain_At_ent n,cell_Empty_ent n]) (tabCons (shard_dropped_ok n) (tabCons (chain_At_ok n) (tabCons (cell_Empty_ok n) tabNil))) tabLNil (shard_Read_l0_ok n g) fun s=>by kernel_rfl
def shard_Read (n:Nat) (x:SgEl shard_Read_sg):Option (RtEl shard_Read_rs×OutEl shard_Read_sg) :=
  bindL (shard_Read_l0 n n (x.2.1,x.2.2.1,[],x.1.1,ilen x.1.1,(0:Int),())) (fun a1 =>
   some (a1,((),(),(),()))) fun b2 =>
  none
abbrev shard_Read_ent (n:Nat):Ent:=⟨65,shard_Read_sg,shard_Read_rs,shard_Read n⟩
theorem shard_Read_ok (n:Nat):EntOk Tryz.prog (shard_Read_ent n):=ent_ok' mixed (T:=[shard_dropped_ent n,chain_At_ent n,cell_Empty_ent n]) (tabCons (shard_dropped_ok n) (tabCons (chain_At_ok n) (tabCons (cell_Empty_ok n) tabNil))) (tabLCons (shard_Read_l0_ok n n) tabLNil) fun x=>by kernel_rfl
abbrev sl_ConcatItem_sg:List Sg:=[.tree (.slice (.slice tItem))]
abbrev sl_ConcatItem_rs:List Rt:=[.own tItem]
def sl_ConcatItem_l1 (n:Nat):Nat→SgEl [.own tItem, .tree (.slice (.slice tItem)), .tree (.int .i64), .tree (.int .i64)]→Option (SgEl [.own tItem] ⊕ SgEl [])
  | 0,_=>none
  | g+1,s =>
    bif ilt s.2.2.2.1 s.2.2.1 then
     bif ile (0:Int) s.2.2.2.1 then
      bindN (lat s.2.1 (iN s.2.2.2.1)) fun v1 =>
      bif roomA s.1 v1 64 then
       bindL (sl_ConcatItem_l1 n g (app s.1 v1,s.2.1,s.2.2.1,iadd .i64 s.2.2.2.1 (1:Int),())) (fun a2 =>
        some (Sum.inl a2)) fun b3 =>
       some (Sum.inr ())
      else none
     else none
    else
    some (Sum.inl (s.1,()))
theorem sl_ConcatItem_l1_ok (n:Nat):∀ g,LEntOk Tryz.prog 64 (nSl sl_ConcatItem_sg) ⟨1,[.own tItem, .tree (.slice (.slice tItem)), .tree (.int .i64), .tree (.int .i64)],2,[.own tItem],[],sl_ConcatItem_l1 n g⟩ g
  | 0=>loop_zero' fun _=>rfl
  | g+1=>loop_step' mixed (T:=[sl_GrowItem_ent n]) (tabCons (sl_GrowItem_ok n) tabNil) tabLNil (sl_ConcatItem_l1_ok n g) fun s=>by kernel_rfl
def sl_ConcatItem_l0 (n:Nat):Nat→SgEl [.tree (.slice (.slice tItem)), .tree (.int .i64), .tree (.slice (.slice tItem)), .tree (.int .i64), .tree (.int .i64)]→Option (SgEl [.tree (.slice (.slice tItem)), .tree (.int .i64)] ⊕ SgEl [])
  | 0,_=>none
  | g+1,s =>
    bif ilt s.2.2.2.2.1 s.2.2.2.1 then
     bif ile (0:Int) s.2.2.2.2.1 then
      bindN (lat s.2.2.1 (iN s.2.2.2.2.1)) fun v1 =>
      bif ilt (iadd .i64 s.2.1 (ilen v1)) (0:Int) then
       none
      else
      bindL (sl_ConcatItem_l0 n g (s.1,iadd .i64 s.2.1 (ilen v1),s.2.2.1,s.2.2.2.1,iadd .i64 s.2.2.2.2.1 (1:Int),())) (fun a2 =>
       some (Sum.inl a2)) fun b3 =>
      some (Sum.inr ())
     else none
    else
    some (Sum.inl (s.1,s.2.1,()))
theorem sl_ConcatItem_l0_ok (n:Nat):∀ g,LEntOk Tryz.prog 64 (nSl sl_ConcatItem_sg) ⟨0,[.tree (.slice (.slice tItem)), .tree (.int .i64), .tree (.slice (.slice tItem)), .tree (.int .i64), .tree (.int .i64)],0,[.tree (.slice (.slice tItem)), .tree (.int .i64)],[],sl_ConcatItem_l0 n g⟩ g
  | 0=>loop_zero' fun _=>rfl
  | g+1=>loop_step' mixed (T:=[sl_GrowItem_ent n]) (tabCons (sl_GrowItem_ok n) tabNil) (tabLCons (sl_ConcatItem_l1_ok n n) tabLNil) (sl_ConcatItem_l0_ok n g) fun s=>by kernel_rfl
def sl_ConcatItem (n:Nat) (x:SgEl sl_ConcatItem_sg):Option (RtEl sl_ConcatItem_rs×OutEl sl_ConcatItem_sg) :=
  bindL (sl_ConcatItem_l0 n n (x.1,(0:Int),x.1,ilen x.1,(0:Int),())) (fun a1 =>
   bindN (sl_GrowItem n ((),a1.2)) fun p3 =>
   bindL (sl_ConcatItem_l1 n n (p3.1.1,a1.1,ilen a1.1,(0:Int),())) (fun a4 =>
    some (a4,((),()))) fun b5 =>
   none) fun b2 =>
  none
abbrev sl_ConcatItem_ent (n:Nat):Ent:=⟨64,sl_ConcatItem_sg,sl_ConcatItem_rs,sl_ConcatItem n⟩
theorem sl_ConcatItem_ok (n:Nat):EntOk Tryz.prog (sl_ConcatItem_ent n):=ent_ok' mixed (T:=[sl_GrowItem_ent n]) (tabCons (sl_GrowItem_ok n) tabNil) (tabLCons (sl_ConcatItem_l0_ok n n) (tabLCons (sl_ConcatItem_l1_ok n n) tabLNil)) fun x=>by kernel_rfl
abbrev scan_Start_sg:List Sg:=[.tree (.int .i64), .tree tQuery, .tree (.int .i64)]
abbrev scan_Start_rs:List Rt:=[.tree tScan]
def scan_Start (n:Nat) (x:SgEl scan_Start_sg):Option (RtEl scan_Start_rs×OutEl scan_Start_sg) :=
  some (((x.1,x.2.1,x.2.2.1,(0:Int),[],()),()),((),(),(),()))
abbrev scan_Start_ent (n:Nat):Ent:=⟨29,scan_Start_sg,scan_Start_rs,scan_Start n⟩
theorem scan_Start_ok (n:Nat):EntOk Tryz.prog (scan_Start_ent n):=ent_ok' mixed (T:=[]) tabNil tabLNil fun x=>by kernel_rfl
abbrev scan_Step_sg:List Sg:=[.tree tScan, .tree (.slice tShard), .tree (.slice tDrop)]
abbrev scan_Step_rs:List Rt:=[.tree tScan]
def scan_Step (n:Nat) (x:SgEl scan_Step_sg):Option (RtEl scan_Step_rs×OutEl scan_Step_sg) :=
  bif ilt x.1.2.2.2.1 (0:Int) then
   some ((x.1,()),((),(),(),()))
  else
  bif ile (ilen x.2.1) x.1.2.2.2.1 then
   some ((x.1,()),((),(),(),()))
  else
  bif ile (0:Int) x.1.2.2.2.1 then
   bindN (lat x.2.1 (iN x.1.2.2.2.1)) fun v1 =>
   bindN (shard_Read n (v1,x.1.2.2.1,x.2.2)) fun p2 =>
   bindN (sl_ConcatItem n ([x.1.2.2.2.2.1,p2.1.1],())) fun p3 =>
   some (((x.1.1,x.1.2.1,x.1.2.2.1,iadd .i64 x.1.2.2.2.1 (1:Int),p3.1),()),((),(),(),()))
  else none
abbrev scan_Step_ent (n:Nat):Ent:=⟨21,scan_Step_sg,scan_Step_rs,scan_Step n⟩
theorem scan_Step_ok (n:Nat):EntOk Tryz.prog (scan_Step_ent n):=ent_ok' mixed (T:=[shard_Read_ent n,sl_ConcatItem_ent n]) (tabCons (shard_Read_ok n) (tabCons (sl_ConcatItem_ok n) tabNil)) tabLNil fun x=>by kernel_rfl
abbrev scan_StepO_sg:List Sg:=[.tree tScan, .own tShard, .tree (.slice tDrop)]
abbrev scan_StepO_rs:List Rt:=[.tree tScan]
def scan_StepO (n:Nat) (x:SgEl scan_StepO_sg):Option (RtEl scan_StepO_rs×OutEl scan_StepO_sg) :=
  bif ilt x.1.2.2.2.1 (0:Int) then
   some ((x.1,()),((),x.2.1,(),()))
  else
  bif ile (ilen x.2.1) x.1.2.2.2.1 then
   some ((x.1,()),((),x.2.1,(),()))
  else
  bif ile (0:Int) x.1.2.2.2.1 then
   bindN (lat x.2.1 (iN x.1.2.2.2.1)) fun v1 =>
   bindN (lat x.2.1 (iN x.1.2.2.2.1)) fun v2 =>
   bindN (shard_Read n (v2,x.1.2.2.1,x.2.2)) fun p3 =>
   bindN (sl_ConcatItem n ([x.1.2.2.2.2.1,p3.1.1],())) fun p4 =>
   some (((x.1.1,x.1.2.1,x.1.2.2.1,iadd .i64 x.1.2.2.2.1 (1:Int),p4.1),()),((),x.2.1,(),()))
  else none
abbrev scan_StepO_ent (n:Nat):Ent:=⟨21,scan_StepO_sg,scan_StepO_rs,scan_StepO n⟩
theorem scan_StepO_ok (n:Nat):EntOk Tryz.prog (scan_StepO_ent n):=ent_ok' mixed (T:=[shard_Read_ent n,sl_ConcatItem_ent n]) (tabCons (shard_Read_ok n) (tabCons (sl_ConcatItem_ok n) tabNil)) tabLNil fun x=>by kernel_rfl
abbrev scan_Done_sg:List Sg:=[.tree tScan, .tree (.int .i64)]
abbrev scan_Done_rs:List Rt:=[.tree .bool]
def scan_Done (n:Nat) (x:SgEl scan_Done_sg):Option (RtEl scan_Done_rs×OutEl scan_Done_sg) :=
  some ((ile x.2.1 x.1.2.2.2.1,()),((),(),()))
abbrev scan_Done_ent (n:Nat):Ent:=⟨24,scan_Done_sg,scan_Done_rs,scan_Done n⟩
theorem scan_Done_ok (n:Nat):EntOk Tryz.prog (scan_Done_ent n):=ent_ok' mixed (T:=[]) tabNil tabLNil fun x=>by kernel_rfl
end Go.Proofs.YtdcphpbimeoioaaGreatDoorE
end
section
set_option linter.unusedSectionVars false
namespace Go.Proofs.YtdcphpbimeoioaaGreatDoorE
open Go Go.Proofs
set_option linter.unusedVariables false
set_option linter.unusedSimpArgs false
theorem sat_bl (s:ByteArray) (i:Nat) (h:i<(bl s).length):sat s (i:Int)=(((bl s)[i]).toNat:Int):=by
 have h':i<s.size:=by rwa [size_bl] at h
 unfold sat
 rw [Int.toNat_natCast]
 show ((s.data[i]!).toNat:Int)=_
 rw [getElem!_pos s.data i h']
 rfl
theorem head_get (l:List UInt8) (h:0<l.length):l[0]=l.headD 0:=by
 cases l with
 | nil=>simp at h
 | cons a t=>rfl
theorem sat_0 (s:ByteArray) (h:1≤(bl s).length):sat s 0=(((bl s).headD 0).toNat:Int):=by
 have:=sat_bl s 0 (by omega)
 rw [show ((0:Nat):Int)=0 from rfl] at this
 rw [this,head_get _ (by omega)]
@[simp] theorem scat_eq (a b:ByteArray):scat a b=a++b:=by unfold scat;rfl
@[simp] theorem sext_eq (a:ByteArray) (lo hi:Int):sext a lo hi=a.extract lo.toNat hi.toNat:=by unfold sext;rfl
theorem sfits_of {a b:ByteArray} (h:a.size+b.size≤9000000000000000000):sfits a b=true:=by unfold sfits;rw [Nat.ble_eq];omega
theorem bl_nil (s:ByteArray):s=(⟨#[]⟩:ByteArray)↔bl s=[]:=⟨fun h=>by rw [h];rfl,fun h=>bl_inj h⟩
def smallI (k:Int):Bool:=decide (97≤k) && decide (k≤122)
def digitI (k:Int):Bool:=decide (48≤k) && decide (k≤57)
theorem smallI_b (b:UInt8):smallI (b.toNat:Int)=smallB b:=by
 unfold smallI smallB;rw [Bool.eq_iff_iff];simp only [Bool.and_eq_true,decide_eq_true_eq];omega
theorem digitI_b (b:UInt8):digitI (b.toNat:Int)=digitB b:=by
 unfold digitI digitB;rw [Bool.eq_iff_iff];simp only [Bool.and_eq_true,decide_eq_true_eq];omega
theorem small_v (n:Nat) (x:SgEl r02_small_sg):r02_small n x=some ((smallI x.1,()),((),())):=by
 unfold r02_small smallI
 by_cases h:(97:Int)≤x.1<;>simp [h]
theorem digit_v (n:Nat) (x:SgEl r02_digit_sg):r02_digit n x=some ((digitI x.1,()),((),())):=by
 unfold r02_digit digitI
 by_cases h:(48:Int)≤x.1<;>simp [h]
theorem all_any {α:Type} (l:List α) (p:α→Bool):l.any (fun b => !p b) = !l.all p:=by
 induction l with
 | nil=>rfl
 | cons a t ih=>simp only [List.any_cons,List.all_cons,ih];cases p a<;>simp
theorem r02_Name_v0 {n:Nat} (hn:Big n) (s:ByteArray):r02_Name n (s,())=some ((nameL (bl s),()),((),())):=by
 have hz:=size_bl s
 unfold r02_Name nameL
 by_cases h1:s.size<1
 ·have h1':(s.size:Int)<1:=by omega
  have h2:¬ 1≤(bl s).length:=by omega
  simp [h1',h2]
 have h1':¬ (s.size:Int)<1:=by omega
 have g1:1≤(bl s).length:=by omega
 by_cases h2:12<s.size
 ·have h2':(12:Int)<s.size:=by omega
  have g2:¬ (bl s).length≤12:=by omega
  simp [h1',h2',g2]
 have h2':¬ (12:Int)<s.size:=by omega
 have g2:(bl s).length≤12:=by omega
 have h3:(0:Int)<s.size:=by omega
 have hL:=any_loop (a:=bl s) (fun b => !inNameB b) false (L:=fun g i=>r02_Name_l0 n g (s,i,())) (fun g=>by
   have:¬ ((bl s).length:Int)<s.size:=by omega
   simp only [r02_Name_l0,ilt_eq,ssize_eq,this,decide_false,cond_false]) (fun g i hi=>by
  have k1:(i:Int)<s.size:=by omega
  have k2:(0:Int)≤i:=by omega
  simp only [r02_Name_l0,ilt_eq,ile_eq,ieq_eq,ssize_eq,k1,k2,decide_true,cond_true,sat_bl s i hi,small_v,digit_v,smallI_b,digitI_b,bindN_s,iadd1 (i:=i) (by omega),bindL_id,inNameB]
  by_cases q:(bl s)[i].toNat=95
  ·have q':((bl s)[i].toNat:Int)=95:=by omega
   cases smallB (bl s)[i]<;>cases digitB (bl s)[i]<;>simp [q,q']
  ·have q':¬ ((bl s)[i].toNat:Int)=95:=by omega
   cases smallB (bl s)[i]<;>cases digitB (bl s)[i]<;>simp [q,q']) (g:=n) (by unfold Big at hn;omega)
 simp only [ilt_eq,ile_eq,ssize_eq,h1',h2',h3,decide_false,decide_true,cond_false,cond_true,Int.le_refl,sat_0 s g1,small_v,smallI_b,bindN_s,hL,g1,g2,Bool.true_and,all_any]
 cases smallB ((bl s).headD 0)<;>cases (bl s).all inNameB<;>simp
theorem r02_Name_v {n:Nat} (hn:Big n) (x:SgEl r02_Name_sg):r02_Name n x=some ((nameL (bl x.1),()),((),())):=r02_Name_v0 hn x.1
theorem r02_Value_v0 {n:Nat} (hn:Big n) (s:ByteArray):r02_Value n (s,())=some ((valueL (bl s),()),((),())):=by
 have hz:=size_bl s
 unfold r02_Value valueL
 by_cases h1:s.size<1
 ·have h1':(s.size:Int)<1:=by omega
  have h2:¬ 1≤(bl s).length:=by omega
  simp [h1',h2]
 have h1':¬ (s.size:Int)<1:=by omega
 have g1:1≤(bl s).length:=by omega
 by_cases h2:12<s.size
 ·have h2':(12:Int)<s.size:=by omega
  have g2:¬ (bl s).length≤12:=by omega
  simp [h1',h2',g2]
 have h2':¬ (12:Int)<s.size:=by omega
 have g2:(bl s).length≤12:=by omega
 have hL:=any_loop (a:=bl s) (fun b => !inValB b) false (L:=fun g i=>r02_Value_l0 n g (s,i,())) (fun g=>by
   have:¬ ((bl s).length:Int)<s.size:=by omega
   simp only [r02_Value_l0,ilt_eq,ssize_eq,this,decide_false,cond_false]) (fun g i hi=>by
  have k1:(i:Int)<s.size:=by omega
  have k2:(0:Int)≤i:=by omega
  simp only [r02_Value_l0,ilt_eq,ile_eq,ieq_eq,ssize_eq,k1,k2,decide_true,cond_true,sat_bl s i hi,small_v,digit_v,smallI_b,digitI_b,bindN_s,iadd1 (i:=i) (by omega),bindL_id,inValB]
  have q1:decide (((bl s)[i].toNat:Int)=95)=decide ((bl s)[i].toNat=95):=by rw [decide_eq_decide];omega
  have q2:decide (((bl s)[i].toNat:Int)=45)=decide ((bl s)[i].toNat=45):=by rw [decide_eq_decide];omega
  have q3:decide (((bl s)[i].toNat:Int)=46)=decide ((bl s)[i].toNat=46):=by rw [decide_eq_decide];omega
  rw [q1,q2,q3]
  cases smallB (bl s)[i]<;>cases digitB (bl s)[i]<;>cases decide ((bl s)[i].toNat=95)<;>cases decide ((bl s)[i].toNat=45)<;>cases decide ((bl s)[i].toNat=46)<;>rfl) (g:=n) (by unfold Big at hn;omega)
 simp only [ilt_eq,ssize_eq,h1',h2',decide_false,cond_false,hL,g1,g2,decide_true,Bool.true_and,all_any]
 cases (bl s).all inValB<;>simp
theorem r02_Value_v {n:Nat} (hn:Big n) (x:SgEl r02_Value_sg):r02_Value n x=some ((valueL (bl x.1),()),((),())):=r02_Value_v0 hn x.1
theorem made_v (n:Nat) (s cs:ByteArray) (h1:cs.size<4294967281) (h2:(cs.data.toList.all fun b=>decide (b.toNat<128))=true) :
  word_made n (s,cs,())=some ((decide (1≤(bl s).length) && decide ((bl s).length≤12) && (bl s).all (fun b=>cs.data.toList.contains b),()),((),(),())):=by
 have hz:=size_bl s
 unfold word_made
 by_cases h:bl s=[]
 ·simp [bl_nil,h]
 ·have hl:1≤(bl s).length:=by cases hh:bl s with
   | nil=>exact absurd hh h
   | cons a t=>simp
  by_cases hz':s.size≤12
  ·have e1:(s.size:Int)≤12:=by omega
   have e2:(bl s).length≤12:=by omega
   have e3:Nat.ble s.size 9223372036854775807=true:=by rw [Nat.ble_eq];omega
   have e4:Nat.blt cs.size 4294967281=true:=by unfold Nat.blt;rw [Nat.ble_eq];omega
   have e5:=trim_nil (bl s) cs.data.toList
   simp only [seq_eq,bl_nil,h,decide_false,Bool.not_false,cond_true,ile_eq,ssize_eq,e1,decide_true,s_Trim,e3,e4,h2,Bool.and_self,bindN_s,hl,e2,Bool.true_and]
   congr 3
   rw [Bool.eq_iff_iff,decide_eq_true_eq]
   exact e5
  ·have e1:¬ (s.size:Int)≤12:=by omega
   have e2:¬ (bl s).length≤12:=by omega
   simp [bl_nil,h,e1,e2]
theorem word_Name_v0 (n:Nat) (s:ByteArray):word_Name n (s,())=some ((nameL (bl s),()),((),())):=by
 have hz:=size_bl s
 unfold word_Name
 rw [made_v n _ _ (by decide) (by decide+kernel)]
 simp only [bindN_s]
 have e:(bl s).all (fun b=>(⟨#[97,98,99,100,101,102,103,104,105,106,107,108,109,110,111,112,113,114,115,116,117,118,119,120,121,122,48,49,50,51,52,53,54,55,56,57,95]⟩:ByteArray).data.toList.contains b)=(bl s).all inNameB:=by
  congr 1;funext b;exact in_name b
 rw [e]
 unfold nameL
 by_cases h:(decide (1≤(bl s).length) && decide ((bl s).length≤12) && (bl s).all inNameB)=true
 ·have h':=h
  simp only [Bool.and_eq_true,decide_eq_true_eq] at h'
  have e0:(0:Int)<s.size:=by omega
  have e2:=in_small ((bl s).headD 0)
  simp only [h,cond_true,ile_eq,Int.le_refl,decide_true,ilt_eq,ssize_eq,e0,sat_0 s h'.1.1,s_IndexByte,bindN_s]
  rw [show (((((bl s).headD 0).toNat:Nat):Int).toNat).toUInt8=(bl s).headD 0 by simp]
  rw [show (decide ((0:Int)≤Lib.indexByte (⟨#[97,98,99,100,101,102,103,104,105,106,107,108,109,110,111,112,113,114,115,116,117,118,119,120,121,122]⟩:ByteArray).data.toList ((bl s).headD 0)))=smallB ((bl s).headD 0) from e2]
  rw [decide_eq_true h'.1.1,decide_eq_true h'.1.2,h'.2];simp
 ·have h':(decide (1≤(bl s).length) && decide ((bl s).length≤12) && (bl s).all inNameB)=false:=by simpa using h
  simp only [h',cond_false]
  clear e h
  revert h'
  generalize decide (1≤(bl s).length)=a1
  generalize decide ((bl s).length≤12)=a2
  generalize (bl s).all inNameB=a3
  generalize smallB ((bl s).headD 0)=a4
  cases a1<;>cases a2<;>cases a3<;>cases a4<;>simp
theorem word_Name_v (n:Nat) (x:SgEl word_Name_sg):word_Name n x=some ((nameL (bl x.1),()),((),())):=word_Name_v0 n x.1
theorem word_Value_v0 (n:Nat) (s:ByteArray):word_Value n (s,())=some ((valueL (bl s),()),((),())):=by
 unfold word_Value
 rw [made_v n _ _ (by decide) (by decide+kernel)]
 simp only [bindN_s]
 have e:(bl s).all (fun b=>(⟨#[97,98,99,100,101,102,103,104,105,106,107,108,109,110,111,112,113,114,115,116,117,118,119,120,121,122,48,49,50,51,52,53,54,55,56,57,95,45,46]⟩:ByteArray).data.toList.contains b)=(bl s).all inValB:=by
  congr 1;funext b;exact in_val b
 rw [e]
 rfl
theorem word_Value_v (n:Nat) (x:SgEl word_Value_sg):word_Value n x=some ((valueL (bl x.1),()),((),())):=word_Value_v0 n x.1
theorem tag_may_v0 (n:Nat) (t:TG):tag_may n (t,())=some ((mayT t,()),((),())):=by
 obtain ⟨a,b,⟨⟩⟩:=t
 unfold tag_may mayT
 simp only [word_Name_v,bindN_s]
 cases nameL (bl a) with
 | false=>simp
 | true=>simp [word_Value_v]
theorem tag_may_v (n:Nat) (x:SgEl tag_may_sg):tag_may n x=some ((mayT x.1,()),((),())):=tag_may_v0 n x.1
theorem r03_may_v0 {n:Nat} (hn:Big n) (t:TG):r03_may n (t,())=some ((mayT t,()),((),())):=by
 obtain ⟨a,b,⟨⟩⟩:=t
 unfold r03_may mayT
 simp only [r02_Name_v hn,bindN_s]
 cases nameL (bl a) with
 | false=>simp
 | true=>simp [r02_Value_v hn]
theorem r03_may_v {n:Nat} (hn:Big n) (x:SgEl r03_may_sg):r03_may n x=some ((mayT x.1,()),((),())):=r03_may_v0 hn x.1
theorem split_loop {n:Nat} (c:UInt8):∀ (m:Nat) (s:ByteArray) (acc:List ByteArray) (g:Nat),s.size≤m→m<g→acc.length+s.size≤1000000000 →
  word_Split_l0 n g (s,(c.toNat:Int),acc,())=some (.inr (acc++splitB c s,())):=by
 intro m
 induction m with
 | zero =>
  intro s acc g hn hg hb
  obtain ⟨g,rfl⟩:∃ g',g=g'+1:=⟨g - 1,by omega⟩
  have hs:s=⟨#[]⟩:=bl_inj (List.length_eq_zero_iff.1 (by rw [size_bl];omega))
  subst hs
  have e:room (acc.length+1) 16=true:=room_of (by omega)
  simp [word_Split_l0,s_IndexByte,Lib.indexByte,roomA,app,e];rfl
 | succ m ih =>
  intro s acc g hn hg hb
  obtain ⟨g,rfl⟩:∃ g',g=g'+1:=⟨g - 1,by omega⟩
  have hlt:=idx_lt (bl s) c
  rw [size_bl] at hlt
  have hc:((c.toNat:Int).toNat).toUInt8=c:=by simp
  have e:=splitL_idx c (bl s)
  have er:room (acc.length+1) 16=true:=room_of (by omega)
  have ei:s_IndexByte n (s,(c.toNat:Int),())=some ((Lib.indexByte (bl s) c,()),((),(),())):=by simp only [s_IndexByte,hc];rfl
  by_cases h:Lib.indexByte (bl s) c<0
  ·simp only [word_Split_l0,ei,bindN_s,ilt_eq,h,decide_true,cond_true,roomA,List.length_singleton,er,app]
   rw [splitB,e,if_pos h];rfl
  ·obtain ⟨k,hk⟩:=Int.eq_ofNat_of_zero_le (show 0≤Lib.indexByte (bl s) c by omega)
   rw [hk] at hlt e h ei
   have hsz:(s.extract (k+1) s.size).size=s.size - (k+1):=by rw [← size_bl,bl_extract];simp [size_bl]
   have h1:(k:Int)≤s.size:=by omega
   have h2:(0:Int)≤((k+1:Nat):Int):=by omega
   have h3:((k+1:Nat):Int)≤s.size:=by omega
   have h4:(0:Int)≤k:=by omega
   have:=ih (s.extract (k+1) s.size) (acc++[s.extract 0 k]) g (by rw [hsz];omega) (by omega) (by rw [hsz,List.length_append];simp;omega)
   simp only [word_Split_l0,ei,bindN_s,ilt_eq,ile_eq,ssize_eq,h,h1,h2,h3,h4,decide_false,decide_true,cond_false,cond_true,roomA,List.length_singleton,er,app,iadd1 (i:=k) (by omega),Int.le_refl,sext_eq,Int.toNat_natCast,Int.toNat_zero,this,bindL_inr]
   have e2:acc++splitB c s=acc++[s.extract 0 k]++splitB c (s.extract (k+1) s.size):=by
    unfold splitB
    rw [e,if_neg h,List.append_assoc,ext_take,ext_drop,bl_mk ((bl s).drop (k+1))]
    simp
   rw [e2]
theorem word_Split_v {n:Nat} (hn:Big n) (c:UInt8) (s:ByteArray) (hs:s.size≤1000000):word_Split n (s,(c.toNat:Int),())=some ((splitB c s,()),((),(),())):=by
 have:=split_loop (n:=n) c s.size s [] n (Nat.le_refl _) (by unfold Big at hn;omega) (by simp;omega)
 simp only [word_Split,this,bindL_inr,List.nil_append]
theorem rsplit_loop {n:Nat} (c:UInt8) (s:ByteArray) (hs:s.size≤1000000):∀ (d i f g:Nat) (acc:List ByteArray),i+d=s.size→f≤i→acc.length≤i→d<g →
  ∃ (acc':List ByteArray) (f':Nat),r02_Split_l0 n g (s,(c.toNat:Int),acc,(f:Int),(i:Int),())=some (.inl (s,acc',(f':Int),()))∧f'≤s.size∧acc'.length≤s.size ∧
   acc'++[s.extract f' s.size]=acc++(glue (((bl s).take i).drop f) (splitL c ((bl s).drop i))).map fun l=>⟨l.toArray⟩
 | 0,i,f,g,acc,hd,hf,ha,hg=>by
  obtain ⟨g,rfl⟩:∃ g',g=g'+1:=⟨g - 1,by omega⟩
  have hi:i=s.size:=by omega
  subst hi
  refine ⟨acc,f,?_,hf,ha,?_⟩
  ·simp [r02_Split_l0]
  ·rw [show (bl s).drop s.size=[] from List.drop_of_length_le (by rw [size_bl];exact Nat.le_refl _),ext_mid]
   simp only [splitL,glue,List.append_nil,List.map_cons,List.map_nil]
 | d+1,i,f,g,acc,hd,hf,ha,hg=>by
  obtain ⟨g,rfl⟩:∃ g',g=g'+1:=⟨g - 1,by omega⟩
  have hi:i<(bl s).length:=by rw [size_bl];omega
  have k1:(i:Int)<s.size:=by omega
  have k2:(0:Int)≤i:=by omega
  have k3:(0:Int)≤f:=by omega
  have k4:(f:Int)≤i:=by omega
  have k5:(i:Int)≤s.size:=by omega
  have er:room (acc.length+1) 16=true:=room_of (by omega)
  rw [drop_cons (bl s) i hi]
  by_cases hc:(bl s)[i]=c
  ·obtain ⟨acc',f',h1,h2,h3,h4⟩:=rsplit_loop (n:=n) c s hs d (i+1) (i+1) g (acc++[s.extract f i]) (by omega) (by omega) (by simp;omega) (by omega)
   refine ⟨acc',f',?_,h2,h3,?_⟩
   ·simp only [r02_Split_l0,ilt_eq,ile_eq,ieq_eq,ssize_eq,k1,k2,k3,k4,k5,decide_true,cond_true,sat_bl s i hi,hc,roomA,List.length_singleton,er,app,sext_eq,Int.toNat_natCast,iadd1 (i:=i) (by omega),h1,bindL_inl]
   ·rw [h4,splitL,if_pos hc]
    have e1:((bl s).take (i+1)).drop (i+1)=[]:=List.drop_of_length_le (by simp;omega)
    rw [e1]
    have e2:glue [] (splitL c ((bl s).drop (i+1)))=splitL c ((bl s).drop (i+1)):=by
     cases h:splitL c ((bl s).drop (i+1)) with
     | nil=>exact absurd h (splitL_ne _ _)
     | cons a t=>rfl
    rw [e2]
    simp [glue,ext_mid]
  ·obtain ⟨acc',f',h1,h2,h3,h4⟩:=rsplit_loop (n:=n) c s hs d (i+1) f g acc (by omega) (by omega) (by omega) (by omega)
   have hc':¬ ((bl s)[i].toNat:Int)=(c.toNat:Int):=by rw [u8_int];exact hc
   refine ⟨acc',f',?_,h2,h3,?_⟩
   ·simp only [r02_Split_l0,ilt_eq,ile_eq,ieq_eq,ssize_eq,k1,k2,decide_true,cond_true,sat_bl s i hi,hc',decide_false,cond_false,iadd1 (i:=i) (by omega),h1,bindL_inl]
   ·rw [h4,splitL,if_neg hc]
    have e1:((bl s).take (i+1)).drop f=((bl s).take i).drop f++[(bl s)[i]]:=by
     rw [List.take_succ_eq_append_getElem hi,List.drop_append_of_le_length (by simp;omega)]
    rw [e1]
    cases h:splitL c ((bl s).drop (i+1)) with
    | nil=>exact absurd h (splitL_ne _ _)
    | cons a t=>simp [glue]
theorem r02_Split_v {n:Nat} (hn:Big n) (c:UInt8) (s:ByteArray) (hs:s.size≤1000000):r02_Split n (s,(c.toNat:Int),())=some ((splitB c s,()),((),(),())):=by
 obtain ⟨acc',f',h1,h2,h3,h4⟩:=rsplit_loop (n:=n) c s hs s.size 0 0 n [] (by omega) (by omega) (by simp) (by unfold Big at hn;omega)
 have k3:(0:Int)≤f':=by omega
 have k4:(f':Int)≤s.size:=by omega
 have er:room (acc'.length+1) 16=true:=room_of (by omega)
 have e:acc'++[s.extract f' s.size]=splitB c s:=by
  rw [h4]
  unfold splitB
  cases h:splitL c (bl s) with
  | nil=>exact absurd h (splitL_ne _ _)
  | cons a t=>simp [glue,h]
 rw [show ((0:Nat):Int)=0 from rfl] at h1
 simp only [r02_Split,h1,bindL_inl,ile_eq,ssize_eq,k3,k4,decide_true,cond_true,Int.le_refl,roomA,List.length_singleton,er,app,sext_eq,Int.toNat_natCast,e]
theorem word_Join_v (n:Nat) (sep:ByteArray) (l:List ByteArray) (h1:l.length≤1000000) (h2:(bl (joinB sep l)).length≤100000000000):word_Join n (sep,l,())=some ((joinB sep l,()),((),(),())):=by
 have e1:Nat.ble l.length 140737488355328=true:=by rw [Nat.ble_eq];omega
 have e2:Nat.ble (Lib.join (l.map (·.data.toList)) sep.data.toList).length 140737488355328=true:=by
  have:(bl (joinB sep l)).length=(Lib.join (l.map (·.data.toList)) sep.data.toList).length:=rfl
  rw [Nat.ble_eq];omega
 simp only [word_Join,s_Join,e1,e2,Bool.and_self,cond_true,bindN_s]
 rfl
theorem rjoin_loop {n:Nat} (sep:ByteArray) (l:List ByteArray) (hl:l.length≤1000000):∀ (d i g:Nat) (acc:ByteArray),i+1+d=l.length→d<g→(bl acc).length+(tl (bl sep) ((l.drop (i+1)).map bl)).length≤1000000000000 →
  r02_Join_l0 n g (sep,l,acc,((i+1:Nat):Int),())=some (.inl (mkB (bl acc++tl (bl sep) ((l.drop (i+1)).map bl)),()))
 | 0,i,g,acc,hd,hg,hb=>by
  obtain ⟨g,rfl⟩:∃ g',g=g'+1:=⟨g - 1,by omega⟩
  have k:¬ ((i+1:Nat):Int)<(l.length:Int):=by omega
  rw [List.drop_of_length_le (by omega)]
  simp only [r02_Join_l0,ilt_eq,ilen,k,decide_false,cond_false]
  simp [Lib.joinTail,mkB_bl]
 | d+1,i,g,acc,hd,hg,hb=>by
  obtain ⟨g,rfl⟩:∃ g',g=g'+1:=⟨g - 1,by omega⟩
  have hi:i+1<l.length:=by omega
  rw [drop_cons l (i+1) hi,List.map_cons,tl_cons] at hb ⊢
  rw [List.length_append,List.length_append] at hb
  have h1:=size_bl acc
  have h2:=size_bl sep
  have h3:=size_bl l[i+1]
  have k1:((i+1:Nat):Int)<(l.length:Int):=by omega
  have k2:(0:Int)<((i+1:Nat):Int):=by omega
  have k3:(0:Int)≤((i+1:Nat):Int):=by omega
  have f1:sfits acc sep=true:=sfits_of (by omega)
  have f2:sfits (acc++sep) l[i+1]=true:=sfits_of (by rw [ByteArray.size_append];omega)
  have ih:=rjoin_loop (n:=n) sep l hl d (i+1) g ((acc++sep)++l[i+1]) (by omega) (by omega) (by rw [bl_append,bl_append,List.length_append,List.length_append];omega)
  rw [bl_append,bl_append] at ih
  simp only [r02_Join_l0,ilt_eq,ile_eq,ilen,k1,k2,k3,decide_true,cond_true,f1,lat_eq,iN,Int.toNat_natCast,List.getElem?_eq_getElem hi,bindN_s,scat_eq,f2,iadd1 (i:=i+1) (by omega),ih,bindL_inl]
  simp [List.append_assoc]
theorem r02_Join_v {n:Nat} (hn:Big n) (sep:ByteArray) (l:List ByteArray) (hl:l.length≤1000000) (hb:(bl (joinB sep l)).length≤100000000000):r02_Join n (sep,l,())=some ((joinB sep l,()),((),(),())):=by
 obtain ⟨m,rfl⟩:∃ m,n=m+1:=⟨n - 1,by unfold Big at hn;omega⟩
 cases l with
 | nil=>simp [r02_Join,r02_Join_l0];rfl
 | cons x r =>
  rw [joinB_cons,List.length_append] at hb
  have h1:=size_bl x
  have f1:sfits (⟨#[]⟩:ByteArray) x=true:=sfits_of (by show 0+x.size≤_;omega)
  have:=rjoin_loop (n:=m+1) sep (x ::r) hl r.length 0 m (⟨#[]⟩++x) (by simp;omega) (by simp at hl;unfold Big at hn;omega) (by
    rw [bl_append,empty_bl];simp only [List.nil_append,Nat.zero_add,List.drop_succ_cons,List.drop_zero];omega)
  rw [bl_append,empty_bl] at this
  have e:joinB sep (x ::r)=mkB (bl x++tl (bl sep) (r.map bl)):=bl_inj (by rw [joinB_cons,bl_mkB])
  have k1:(0:Int)<((x ::r).length:Int):=by simp only [List.length_cons];omega
  have e1:iadd .i64 (0:Int) 1=((0+1:Nat):Int):=iadd1 (i:=0) (by omega)
  simp only [r02_Join,r02_Join_l0,ilt_eq,ile_eq,ilen,k1,decide_true,cond_true,Int.lt_irrefl,decide_false,cond_false,Int.le_refl,lat_eq,iN,Int.toNat_zero,List.getElem?_cons_zero,bindN_s,f1,scat_eq,e1,this,bindL_inl,e]
  simp
theorem s_Cut_v (n:Nat) (c:UInt8) (s:ByteArray) (hs:s.size≤9000000000000):s_Cut n (s,(⟨#[c]⟩:ByteArray),())=some (((cutB c s).1,(cutB c s).2.1,(cutB c s).2.2,()),((),(),())):=by
 have h:=idx_lt (bl s) c
 rw [size_bl] at h
 have e:s_Index1 n (s,(⟨#[c]⟩:ByteArray),())=some ((Lib.indexByte (bl s) c,()),((),(),())):=rfl
 have e1:(((⟨#[c]⟩:ByteArray).size:Nat):Int)=1:=rfl
 unfold s_Cut s_slCut cutB
 simp only [e,bindN_s]
 by_cases h0:Lib.indexByte (bl s) c<0
 ·have h0':¬ 0≤Lib.indexByte (bl s) c:=by omega
  simp [h0,h0']
 ·obtain ⟨m,hm⟩:=Int.eq_ofNat_of_zero_le (show 0≤Lib.indexByte (bl s) c by omega)
  rw [hm] at h h0 ⊢
  have k1:(0:Int)≤m:=by omega
  have k2:(m:Int)≤s.size:=by omega
  have k3:(0:Int)≤((m+1:Nat):Int):=by omega
  have k4:((m+1:Nat):Int)≤s.size:=by omega
  simp only [ile_eq,ssize_eq,e1,iadd1 (i:=m) (by omega),k1,k2,k3,k4,decide_true,cond_true,Int.le_refl,sext_eq,Int.toNat_natCast,Int.toNat_zero,bindN_s,if_neg h0]
end Go.Proofs.YtdcphpbimeoioaaGreatDoorE
end
section
set_option linter.unusedSectionVars false
namespace Go.Proofs.YtdcphpbimeoioaaGreatDoorE
open Go Go.Proofs
set_option linter.unusedVariables false
set_option linter.unusedSimpArgs false
def pl (t:TG) (l:List TG):Nat:=(l.takeWhile fun u=>lessT u t).length
theorem pl_le (t:TG) (l:List TG):pl t l≤l.length:=by
 unfold pl;have:=(List.takeWhile_prefix (fun u=>lessT u t) (l:=l)).length_le;exact this
theorem pl_cons_t {t u:TG} {r:List TG} (h:lessT u t=true):pl t (u ::r)=pl t r+1:=by simp [pl,h]
theorem pl_cons_f {t u:TG} {r:List TG} (h:lessT u t=false):pl t (u ::r)=0:=by simp [pl,h]
theorem insT_pl (t:TG):∀ l:List TG,insT t l=match l[pl t l]? with|some u=>if nm u=nm t then none else some (l.take (pl t l)++t ::l.drop (pl t l))|none=>some (l++[t])
 | []=>by simp [insT,pl]
 | u ::r=>by
  rw [insT]
  cases h:lessT u t with
  | true =>
   rw [pl_cons_t h,if_pos rfl,insT_pl t r]
   simp only [List.getElem?_cons_succ,List.take_succ_cons,List.drop_succ_cons]
   cases r[pl t r]? with
   | none=>simp
   | some v=>simp only;split<;>simp
  | false =>
   rw [pl_cons_f h]
   simp
theorem canon_l2 {n:Nat} (l:List TG) (i:Nat) (hi:i<l.length) (hl:l.length≤100):∀ (d j g:Nat) (acc:List TG),j+d=acc.length→acc.length≤100→d<g →
  r03_Canon_l2 n g (l,acc,(i:Int),(j:Int),())=some (.inl (l,acc,(i:Int),((j+pl l[i] (acc.drop j):Nat):Int),()))
 | 0,j,g,acc,hd,ha,hg=>by
  obtain ⟨g,rfl⟩:∃ g',g=g'+1:=⟨g - 1,by omega⟩
  have k:¬ (j:Int)<(acc.length:Int):=by omega
  rw [List.drop_of_length_le (by omega)]
  simp only [r03_Canon_l2,ilt_eq,ilen,k,decide_false,cond_false]
  rfl
 | d+1,j,g,acc,hd,ha,hg=>by
  obtain ⟨g,rfl⟩:∃ g',g=g'+1:=⟨g - 1,by omega⟩
  have hj:j<acc.length:=by omega
  have k:(j:Int)<(acc.length:Int):=by omega
  have k0:(0:Int)≤j:=by omega
  have k1:(0:Int)≤i:=by omega
  rw [drop_cons acc j hj]
  have ih:=canon_l2 (n:=n) l i hi hl d (j+1) g acc (by omega) ha (by omega)
  simp only [r03_Canon_l2,ilt_eq,ile_eq,ilen,k,k0,k1,decide_true,cond_true,lat_eq,iN,Int.toNat_natCast,List.getElem?_eq_getElem hj,List.getElem?_eq_getElem hi,bindN_s,slt_eq,iadd1 (i:=j) (by omega),bindL_id2,ih]
  have e:Op.bytesLess (acc[j]).1.data.toList (l[i]).1.data.toList=lessT acc[j] l[i]:=rfl
  rw [e]
  cases h:lessT acc[j] l[i] with
  | true=>rw [pl_cons_t h,show j+(pl l[i] (acc.drop (j+1))+1)=j+1+pl l[i] (acc.drop (j+1)) by omega];rfl
  | false=>rw [pl_cons_f h];simp
theorem canon_l1 {n:Nat} (hn:Big n) (l:List TG) (hl:l.length≤4):∀ (d i g:Nat) (acc:List TG),i+d=l.length→acc.length=i→d<g →
  r03_Canon_l1 n g (l,acc,(i:Int),())=some (match insAll acc (l.drop i) with|some o => .inl (o,())|none => .inr ([],(5:Int),()))
 | 0,i,g,acc,hd,ha,hg=>by
  obtain ⟨g,rfl⟩:∃ g',g=g'+1:=⟨g - 1,by omega⟩
  have k:¬ (i:Int)<(l.length:Int):=by omega
  rw [List.drop_of_length_le (by omega)]
  simp [r03_Canon_l1,k,insAll]
 | d+1,i,g,acc,hd,ha,hg=>by
  obtain ⟨g,rfl⟩:∃ g',g=g'+1:=⟨g - 1,by omega⟩
  have hi:i<l.length:=by omega
  have k:(i:Int)<(l.length:Int):=by omega
  have k1:(0:Int)≤i:=by omega
  have h2:=canon_l2 (n:=n) l i hi (by omega) acc.length 0 n acc (by omega) (by omega) (by unfold Big at hn;omega)
  rw [List.drop_zero,Nat.zero_add,show ((0:Nat):Int)=0 from rfl] at h2
  have hpl:=pl_le l[i] acc
  rw [drop_cons l i hi,insAll,insT_pl]
  generalize pl l[i] acc=q at h2 hpl
  have k2:(0:Int)≤q:=by omega
  have k3:(q:Int)≤(acc.length:Int):=by omega
  have e0:((acc.length:Int).toNat - q)=acc.length - q:=by omega
  have e1:(acc.drop q).take (acc.length - q)=acc.drop q:=List.take_of_length_le (by simp)
  have r1:room (acc.length - q) 32=true:=room_of (by omega)
  have r2:room (q+1) 32=true:=room_of (by omega)
  have r3:room (q+1+(acc.length - q)) 32=true:=room_of (by omega)
  have e2:min q acc.length=q:=by omega
  by_cases hq:q<acc.length
  ·have k4:(q:Int)<(acc.length:Int):=by omega
   have e:(acc[q].1=l[i].1)↔(nm acc[q]=nm l[i]):=⟨fun h=>by unfold nm;rw [h],fun h=>bl_inj h⟩
   by_cases hnm:acc[q].1=l[i].1
   ·have hnm':=e.1 hnm
    simp [r03_Canon_l1,k,k1,k2,k4,h2,hq,hi,hnm,hnm']
   ·have hnm':¬ nm acc[q]=nm l[i]:=fun h=>hnm (e.2 h)
    have ih:=canon_l1 hn l hl d (i+1) g (acc.take q++l[i] ::acc.drop q) (by omega) (by simp;omega) (by omega)
    rw [show ((i+1:Nat):Int)=(i:Int)+1 from rfl] at ih
    simp [r03_Canon_l1,k,k1,k2,k3,k4,h2,hq,hi,hnm,hnm',roomA,e0,e1,e2,r1,r2,r3,iadd1 (i:=i) (by omega),ih]
  ·have k4:¬ (q:Int)<(acc.length:Int):=by omega
   have eq:q=acc.length:=by omega
   have ih:=canon_l1 hn l hl d (i+1) g (acc++[l[i]]) (by omega) (by simp;omega) (by omega)
   subst eq
   rw [show ((i+1:Nat):Int)=(i:Int)+1 from rfl] at ih
   have r0:room 0 32=true:=room_of (by omega)
   simp [r03_Canon_l1,r0,k,k1,k2,k3,k4,h2,hq,hi,roomA,r1,r2,r3,iadd1 (i:=i) (by omega),ih]
theorem r03_Canon_v {n:Nat} (hn:Big n) (l:List TG) (hl:l.length≤1000000):r03_Canon n (l,())=some (((canonT l).1,(canonT l).2,()),((),())):=by
 have hL:=any_loop' (a:=l) (fun t => !mayT t) (l,()) (([]:List TG),(2:Int),()) (L:=fun g i=>r03_Canon_l0 n g (l,i,())) (fun g=>by simp [r03_Canon_l0]) (fun g i hi=>by
  have k:(i:Int)<(l.length:Int):=by omega
  have k1:(0:Int)≤i:=by omega
  simp only [r03_Canon_l0,ilt_eq,ile_eq,ilen,k,k1,decide_true,cond_true,lat_eq,iN,Int.toNat_natCast,List.getElem?_eq_getElem hi,bindN_s,r03_may_v hn,iadd1 (i:=i) (by omega),bindL_id1]) (g:=n) (by unfold Big at hn;omega)
 rw [all_any] at hL
 rw [canonT_eq]
 unfold r03_Canon
 cases ha:l.all mayT with
 | false=>rw [ha] at hL;simp at hL;simp [hL]
 | true =>
  rw [ha] at hL;simp at hL
  by_cases h4:4<l.length
  ·have h4':(4:Int)<l.length:=by omega
   simp [hL,h4,h4']
  ·have h4':¬ (4:Int)<l.length:=by omega
   have h1:=canon_l1 hn l (by omega) l.length 0 n [] (by omega) rfl (by unfold Big at hn;omega)
   rw [List.drop_zero,show ((0:Nat):Int)=0 from rfl] at h1
   simp only [hL,bindL_inl,ilt_eq,ilen,h4',decide_false,cond_false,h1,if_true,if_neg h4]
   cases insAll [] l<;>simp
theorem contains_bad {n:Nat} (hn:Big n) (l:List TG) (hl:l.length≤1000000):sl_ContainsTag n (l,(),())=some ((!l.all mayT,()),((),(),())):=by
 have key:∀ (d i g:Nat),i+d=l.length→d<g→∃ r,sl_IndexTag_l0 n g (l,(),(l.length:Int),(i:Int),())=some r ∧
   ((l.drop i).all mayT=true∧r = .inl ()∨(l.drop i).all mayT=false∧∃ q:Nat,r = .inr ((q:Int),())):=by
  intro d
  induction d with
  | zero =>
   intro i g hd hg
   obtain ⟨g,rfl⟩:∃ g',g=g'+1:=⟨g - 1,by omega⟩
   have k:¬ (i:Int)<(l.length:Int):=by omega
   refine ⟨_,by simp only [sl_IndexTag_l0,ilt_eq,k,decide_false,cond_false], .inl ⟨?_,rfl⟩⟩
   rw [List.drop_of_length_le (by omega)];rfl
  | succ d ih =>
   intro i g hd hg
   obtain ⟨g,rfl⟩:∃ g',g=g'+1:=⟨g - 1,by omega⟩
   have hi:i<l.length:=by omega
   have k:(i:Int)<(l.length:Int):=by omega
   have k1:(0:Int)≤i:=by omega
   obtain ⟨r,h1,h2⟩:=ih (i+1) g (by omega) (by omega)
   rw [drop_cons l i hi,List.all_cons]
   cases hm:mayT l[i] with
   | false =>
    refine ⟨.inr ((i:Int),()),?_, .inr ⟨by simp,i,rfl⟩⟩
    simp only [sl_IndexTag_l0,ilt_eq,ile_eq,k,k1,decide_true,cond_true,lat_eq,iN,Int.toNat_natCast,List.getElem?_eq_getElem hi,bindN_s,tag_Canon1,tag_may_v,hm,Bool.not_false]
   | true =>
    refine ⟨r,?_,by simpa using h2⟩
    simp only [sl_IndexTag_l0,ilt_eq,ile_eq,k,k1,decide_true,cond_true,lat_eq,iN,Int.toNat_natCast,List.getElem?_eq_getElem hi,bindN_s,tag_Canon1,tag_may_v,hm,Bool.not_true,cond_false,iadd1 (i:=i) (by omega),h1]
    rcases r with ⟨⟨⟩⟩|b<;>simp
 obtain ⟨r,h1,h2⟩:=key l.length 0 n (by omega) (by unfold Big at hn;omega)
 rw [List.drop_zero] at h2
 rw [show ((0:Nat):Int)=0 from rfl] at h1
 unfold sl_ContainsTag sl_IndexTag
 rcases h2 with ⟨h2,rfl⟩|⟨h2,q,rfl⟩
 ·simp [h1,h2]
 ·have:(0:Int)≤q:=by omega
  simp [h1,h2,this]
theorem canon_l0 {n:Nat} (l:List TG) (hl:l.length≤4):∀ (d i g:Nat),i+1+d=l.length→d<g→tag_Canon_l0 n g (l,((i+1:Nat):Int),())=some (if adj (l.drop i)=true then .inr ([],(5:Int),()) else .inl (l,()))
 | 0,i,g,hd,hg=>by
  obtain ⟨g,rfl⟩:∃ g',g=g'+1:=⟨g - 1,by omega⟩
  have hi:i<l.length:=by omega
  have k:¬ ((i+1:Nat):Int)<(l.length:Int):=by omega
  rw [drop_cons l i hi,List.drop_of_length_le (by omega),show adj [l[i]]=false from rfl]
  simp only [tag_Canon_l0,ilt_eq,ilen,k,decide_false,cond_false]
  simp
 | d+1,i,g,hd,hg=>by
  obtain ⟨g,rfl⟩:∃ g',g=g'+1:=⟨g - 1,by omega⟩
  have hi0:i<l.length:=by omega
  have hi:i+1<l.length:=by omega
  have k:((i+1:Nat):Int)<(l.length:Int):=by omega
  have k0:(0:Int)≤i:=by omega
  have k1:(0:Int)≤((i+1:Nat):Int):=by omega
  have e0:isub .i64 ((i+1:Nat):Int) 1=(i:Int):=by rw [isub64 (by omega) (by omega)];omega
  have ih:=canon_l0 (n:=n) l hl d (i+1) g (by omega) (by omega)
  rw [adj_drop l i hi]
  simp only [tag_Canon_l0,ilt_eq,ile_eq,ieq_eq,ilen,k,k0,k1,e0,decide_true,cond_true,lat_eq,iN,Int.toNat_natCast,List.getElem?_eq_getElem hi,List.getElem?_eq_getElem hi0,bindN_s,tag_order,s_Compare,iadd1 (i:=i+1) (by omega),bindL_id1,ih]
  have e:(Lib.compareBytes (l[i]).1.data.toList (l[i+1]).1.data.toList=0)↔nm l[i]=nm l[i+1]:=cmp_zero _ _
  by_cases h:nm l[i]=nm l[i+1]
  ·simp [e.2 h,h]
  ·have:¬ Lib.compareBytes (l[i]).1.data.toList (l[i+1]).1.data.toList=0:=fun q=>h (e.1 q)
   simp [this,h]
theorem tag_Canon_v {n:Nat} (hn:Big n) (l:List TG) (hl:l.length≤1000000):tag_Canon n (l,())=some (((canonT l).1,(canonT l).2,()),((),())):=by
 rw [canonT_eq]
 unfold tag_Canon
 simp only [contains_bad hn l hl,bindN_s]
 cases ha:l.all mayT with
 | false=>simp
 | true =>
  by_cases h4:4<l.length
  ·have h4':(4:Int)<l.length:=by omega
   simp [h4,h4']
  ·have h4':¬ (4:Int)<l.length:=by omega
   have r1:room l.length 32=true:=room_of (by omega)
   have b1:Nat.blt l.length 4611686018427387904=true:=by unfold Nat.blt;rw [Nat.ble_eq];omega
   have hlen:(srt l).length=l.length:=(srt_spec l).1.length_eq
   have e:=canon_scan l
   simp only [Bool.not_true,cond_false,ilt_eq,ilen,h4',decide_false,sl_CloneTag,r1,cond_true,bindN_s,sl_SortTag,b1,if_true,if_neg h4]
   have h0:tag_Canon_l0 n n (srt l,(1:Int),())=some (if adj (srt l)=true then .inr ([],(5:Int),()) else .inl (srt l,())):=by
    by_cases hz:(srt l).length=0
    ·have e:srt l=[]:=List.length_eq_zero_iff.1 hz
     obtain ⟨m,rfl⟩:∃ m,n=m+1:=⟨n - 1,by unfold Big at hn;omega⟩
     rw [e]
     simp [tag_Canon_l0,adj,ilen]
    ·have:=canon_l0 (n:=n) (srt l) (by omega) ((srt l).length - 1) 0 n (by omega) (by unfold Big at hn;omega)
     simpa using this
   rw [show sl_SortTag_sorted l=srt l from rfl,h0]
   cases hadj:adj (srt l)<;>rw [hadj] at e<;>cases hin:insAll [] l<;>rw [hin] at e<;>simp at e ⊢<;>simp [e]
theorem bl_pair (t:TG):(t.1++(⟨#[61]⟩:ByteArray))++t.2.1=pairB t:=bl_inj (by rw [bl_pairB,bl_append,bl_append];rfl)
theorem r03_Text_v {n:Nat} (hn:Big n) (l:List TG) (hf:Fit l):r03_Text n (l,())=some ((textT l,()),((),())):=by
 have h1:=hf.1
 have key:∀ (d i g:Nat) (acc:List ByteArray),i+d=l.length→acc.length=i→d<g→r03_Text_l0 n g (l,acc,(i:Int),())=some (.inl (acc++(l.drop i).map pairB,())):=by
  intro d
  induction d with
  | zero =>
   intro i g acc hd ha hg
   obtain ⟨g,rfl⟩:∃ g',g=g'+1:=⟨g - 1,by omega⟩
   have k:¬ (i:Int)<(l.length:Int):=by omega
   rw [List.drop_of_length_le (by omega)]
   simp [r03_Text_l0,k]
  | succ d ih =>
   intro i g acc hd ha hg
   obtain ⟨g,rfl⟩:∃ g',g=g'+1:=⟨g - 1,by omega⟩
   have hi:i<l.length:=by omega
   have k:(i:Int)<(l.length:Int):=by omega
   have k0:(0:Int)≤i:=by omega
   have hft:=hf.2 l[i] (List.getElem_mem hi)
   have f1:sfits l[i].1 (⟨#[61]⟩:ByteArray)=true:=sfits_of (by show l[i].1.size+1≤_;omega)
   have f2:sfits (l[i].1++(⟨#[61]⟩:ByteArray)) l[i].2.1=true:=sfits_of (by rw [ByteArray.size_append];show l[i].1.size+1+l[i].2.1.size≤_;omega)
   have r1:room (acc.length+1) 16=true:=room_of (by omega)
   have ep:=bl_pair l[i]
   rw [drop_cons l i hi]
   simp only [r03_Text_l0,ilt_eq,ile_eq,ilen,k,k0,decide_true,cond_true,lat_eq,iN,Int.toNat_natCast,List.getElem?_eq_getElem hi,bindN_s,f1,scat_eq,f2,roomA,List.length_singleton,r1,ep,app,iadd1 (i:=i) (by omega),bindL_id2,ih (i+1) g (acc++[pairB l[i]]) (by omega) (by simp;omega) (by omega)]
   simp only [List.map_cons,List.append_assoc,List.cons_append,List.nil_append]
 have h:=key l.length 0 n [] (by omega) rfl (by unfold Big at hn;omega)
 rw [show ((0:Nat):Int)=0 from rfl] at h
 have hj:=r02_Join_v hn (mkB [44]) (l.map pairB) (by simp;omega) (fit_text hf)
 rw [show mkB [44]=(⟨#[44]⟩:ByteArray) from rfl] at hj
 simp only [r03_Text,h,bindL_inl,List.nil_append,List.drop_zero,hj,bindN_s]
 rfl
theorem tag_Text_v {n:Nat} (hn:Big n) (l:List TG) (hf:Fit l):tag_Text n (l,())=some ((textT l,()),((),())):=by
 have h1:=hf.1
 have key:∀ (d i g:Nat) (acc:List ByteArray),i+d=l.length→acc.length=i→d<g→tag_Text_l0 n g (acc,l,(l.length:Int),(i:Int),())=some (.inl (acc++(l.drop i).map pairB,())):=by
  intro d
  induction d with
  | zero =>
   intro i g acc hd ha hg
   obtain ⟨g,rfl⟩:∃ g',g=g'+1:=⟨g - 1,by omega⟩
   have k:¬ (i:Int)<(l.length:Int):=by omega
   rw [List.drop_of_length_le (by omega)]
   simp [tag_Text_l0,k]
  | succ d ih =>
   intro i g acc hd ha hg
   obtain ⟨g,rfl⟩:∃ g',g=g'+1:=⟨g - 1,by omega⟩
   have hi:i<l.length:=by omega
   have k:(i:Int)<(l.length:Int):=by omega
   have k0:(0:Int)≤i:=by omega
   have e:=word_Join_v n (mkB [61]) [l[i].1,l[i].2.1] (by simp) (Nat.le_trans (fit_pair hf _ (List.getElem_mem hi)) (by omega))
   rw [show mkB [61]=(⟨#[61]⟩:ByteArray) from rfl] at e
   have e':joinB (⟨#[61]⟩:ByteArray) [l[i].1,l[i].2.1]=pairB l[i]:=rfl
   have r1:room (acc.length+1) 16=true:=room_of (by omega)
   rw [drop_cons l i hi]
   simp only [tag_Text_l0,ilt_eq,ile_eq,k,k0,decide_true,cond_true,lat_eq,iN,Int.toNat_natCast,List.getElem?_eq_getElem hi,bindN_s,e,e',roomA,List.length_singleton,r1,app,iadd1 (i:=i) (by omega),bindL_id2,ih (i+1) g (acc++[pairB l[i]]) (by omega) (by simp;omega) (by omega)]
   simp only [List.map_cons,List.append_assoc,List.cons_append,List.nil_append]
 have h:=key l.length 0 n [] (by omega) rfl (by unfold Big at hn;omega)
 rw [show ((0:Nat):Int)=0 from rfl] at h
 have hj:=word_Join_v n (mkB [44]) (l.map pairB) (by simp;omega) (fit_text hf)
 rw [show mkB [44]=(⟨#[44]⟩:ByteArray) from rfl] at hj
 simp only [tag_Text,ilen,h,bindL_inl,List.nil_append,List.drop_zero,hj,bindN_s]
 rfl
theorem tag_parse_l0 {n:Nat} (ps:List ByteArray) (hl:ps.length≤1000000) (hs:∀ x∈ps,x.size≤900000):∀ (d i g:Nat) (acc:List TG),i+d=ps.length→acc.length≤i→d<g →
  tag_Parse_l0 n g (acc,ps,(ps.length:Int),(i:Int),())=some (match pairsT (ps.drop i) with|some q => .inl (acc++q,())|none => .inr ([],(2:Int),()))
 | 0,i,g,acc,hd,ha,hg=>by
  obtain ⟨g,rfl⟩:∃ g',g=g'+1:=⟨g - 1,by omega⟩
  have k:¬ (i:Int)<(ps.length:Int):=by omega
  rw [List.drop_of_length_le (by omega)]
  simp [tag_Parse_l0,k,pairsT]
 | d+1,i,g,acc,hd,ha,hg=>by
  obtain ⟨g,rfl⟩:∃ g',g=g'+1:=⟨g - 1,by omega⟩
  have hi:i<ps.length:=by omega
  have k:(i:Int)<(ps.length:Int):=by omega
  have k0:(0:Int)≤i:=by omega
  have hx:=hs ps[i] (List.getElem_mem hi)
  have r1:room (acc.length+1) 32=true:=room_of (by omega)
  have ih:=tag_parse_l0 (n:=n) ps hl hs d (i+1) g (acc++[((cutB 61 ps[i]).1,(cutB 61 ps[i]).2.1,())]) (by omega) (by simp;omega) (by omega)
  rw [drop_cons ps i hi,pairsT]
  simp only [tag_Parse_l0,ilt_eq,ile_eq,k,k0,decide_true,cond_true,lat_eq,iN,Int.toNat_natCast,List.getElem?_eq_getElem hi,bindN_s,s_Cut_v n 61 ps[i] (by omega),roomA,List.length_singleton,r1,app,iadd1 (i:=i) (by omega),bindL_id1,ih]
  cases h:(cutB 61 ps[i]).2.2 with
  | false=>simp
  | true=>cases pairsT (ps.drop (i+1))<;>simp
theorem r03_parse_l0 {n:Nat} (hn:Big n) (ps:List ByteArray) (hl:ps.length≤1000000) (hs:∀ x∈ps,x.size≤900000):∀ (d i g:Nat) (acc:List TG),i+d=ps.length→acc.length≤i→d<g →
  r03_Parse_l0 n g (acc,ps,(i:Int),())=some (match pairsT (ps.drop i) with|some q => .inl (acc++q,())|none => .inr ([],(2:Int),()))
 | 0,i,g,acc,hd,ha,hg=>by
  obtain ⟨g,rfl⟩:∃ g',g=g'+1:=⟨g - 1,by omega⟩
  have k:¬ (i:Int)<(ps.length:Int):=by omega
  rw [List.drop_of_length_le (by omega)]
  simp [r03_Parse_l0,k,pairsT]
 | d+1,i,g,acc,hd,ha,hg=>by
  obtain ⟨g,rfl⟩:∃ g',g=g'+1:=⟨g - 1,by omega⟩
  have hi:i<ps.length:=by omega
  have k:(i:Int)<(ps.length:Int):=by omega
  have k0:(0:Int)≤i:=by omega
  have hx:=hs ps[i] (List.getElem_mem hi)
  have r1:room (acc.length+1) 32=true:=room_of (by omega)
  have ih:=r03_parse_l0 hn ps hl hs d (i+1) g (acc++[((cutB 61 ps[i]).1,(cutB 61 ps[i]).2.1,())]) (by omega) (by simp;omega) (by omega)
  have hsp:=r02_Split_v hn 61 ps[i] (by omega)
  rw [show (((61:UInt8).toNat:Nat):Int)=61 from rfl] at hsp
  have hc:=split_cut 61 ps[i]
  rw [drop_cons ps i hi,pairsT]
  cases h:(cutB 61 ps[i]).2.2 with
  | false =>
   rw [h,if_neg (by simp)] at hc
   simp [r03_Parse_l0,ilen,k,k0,hi,hsp,hc]
  | true =>
   rw [h,if_pos rfl] at hc
   have hne:1≤(splitB 61 (cutB 61 ps[i]).2.1).length:=by
    have:=splitL_ne 61 (bl (cutB 61 ps[i]).2.1)
    unfold splitB;rw [List.length_map];exact List.length_pos_iff.2 this
   have hsz:=(cut_size 61 ps[i]).2
   have hlen:=splitB_len 61 (cutB 61 ps[i]).2.1
   have hj:=joinB_split 61 (cutB 61 ps[i]).2.1
   have hjv:=r02_Join_v hn (mkB [61]) (splitB 61 (cutB 61 ps[i]).2.1) (by omega) (by rw [hj,size_bl];omega)
   rw [hj,show mkB [61]=(⟨#[61]⟩:ByteArray) from rfl] at hjv
   generalize splitB 61 (cutB 61 ps[i]).2.1=sp at hc hne hlen hjv
   have k2:¬ (sp.length:Int)+1<2:=by omega
   have k3:(1:Int)≤(sp.length:Int)+1:=by omega
   have k4:((sp.length:Int)+1 - 1).toNat=sp.length:=by omega
   rw [show ((i+1:Nat):Int)=(i:Int)+1 from rfl] at ih
   simp [r03_Parse_l0,ilen,app,k,k0,hi,hsp,hc,k2,k3,k4,hjv,roomA,r1,iadd1 (i:=i) (by omega),ih]
   cases pairsT (ps.drop (i+1))<;>simp
theorem pairsT_len:∀ (ps:List ByteArray) (q:List TG),pairsT ps=some q→q.length=ps.length
 | [],q,h=>by simp [pairsT] at h;subst h;rfl
 | x ::r,q,h=>by
  rw [pairsT] at h
  split at h
  ·cases hr:pairsT r with
   | none=>rw [hr] at h;cases h
   | some q'=>rw [hr] at h;simp at h;subst h;simp [pairsT_len r q' hr]
  ·cases h
theorem tag_Parse_v {n:Nat} (hn:Big n) (s:ByteArray) (hs:s.size≤100000):tag_Parse n (s,())=some (((parseT s).1,(parseT s).2,()),((),())):=by
 have h1:=splitB_len 44 s
 unfold tag_Parse parseT
 by_cases hb:bl s=[]
 ·simp [bl_nil,hb]
 ·have hsp:=word_Split_v hn 44 s (by omega)
  rw [show (((44:UInt8).toNat:Nat):Int)=44 from rfl] at hsp
  have h:=tag_parse_l0 (n:=n) (splitB 44 s) (by omega) (fun x hx=>by have:=splitB_size 44 s x hx;omega) (splitB 44 s).length 0 n [] (by omega) (by simp) (by unfold Big at hn;omega)
  rw [show ((0:Nat):Int)=0 from rfl,List.drop_zero] at h
  simp only [seq_eq,bl_nil,hb,decide_false,cond_false,hsp,bindN_s,ilen,h,if_false]
  cases hp:pairsT (splitB 44 s) with
  | none=>simp [readT]
  | some q =>
   have:=pairsT_len _ _ hp
   simp [readT,tag_Canon_v hn q (by omega)]
theorem r03_Parse_v {n:Nat} (hn:Big n) (s:ByteArray) (hs:s.size≤100000):r03_Parse n (s,())=some (((parseT s).1,(parseT s).2,()),((),())):=by
 have h1:=splitB_len 44 s
 unfold r03_Parse parseT
 by_cases hb:bl s=[]
 ·simp [bl_nil,hb]
 ·have hsp:=r02_Split_v hn 44 s (by omega)
  rw [show (((44:UInt8).toNat:Nat):Int)=44 from rfl] at hsp
  have h:=r03_parse_l0 hn (splitB 44 s) (by omega) (fun x hx=>by have:=splitB_size 44 s x hx;omega) (splitB 44 s).length 0 n [] (by omega) (by simp) (by unfold Big at hn;omega)
  rw [show ((0:Nat):Int)=0 from rfl,List.drop_zero] at h
  simp only [seq_eq,bl_nil,hb,decide_false,cond_false,hsp,bindN_s,h,if_false]
  cases hp:pairsT (splitB 44 s) with
  | none=>simp [readT]
  | some q =>
   have:=pairsT_len _ _ hp
   simp [readT,r03_Canon_v hn q (by omega)]
end Go.Proofs.YtdcphpbimeoioaaGreatDoorE
end
section
set_option linter.unusedSectionVars false
namespace Go.Proofs.YtdcphpbimeoioaaGreatDoorE
open Go Go.Proofs
set_option linter.unusedVariables false
set_option linter.unusedSimpArgs false
abbrev MT:=El tMatch
abbrev NoB:ByteArray:=⟨#[]⟩
abbrev KY:=ByteArray×List TG×Int
def rightK (n:ByteArray) (l:List TG):Bool:=nameL (bl n) && rightT l
def textK (n:ByteArray) (l:List TG):ByteArray:=if l.length=0 then n else ((n++mkB [123])++textT l)++mkB [125]
theorem joinK (n t:ByteArray):joinB (mkB []) [n,mkB [123],t,mkB [125]]=((n++mkB [123])++t)++mkB [125]:=by
 apply bl_inj
 rw [joinB_cons]
 simp [Lib.joinTail,bl_mkB,bl_append]
def endsL (l:List UInt8):Bool:=decide (l[l.length - 1]?=some 125)
theorem endsL_pos (l:List UInt8) (h:0<l.length):endsL l=true↔l[l.length - 1]'(by omega)=125:=by
 unfold endsL
 rw [List.getElem?_eq_getElem (by omega),decide_eq_true_eq,Option.some.injEq]
def cutK (s:ByteArray):ByteArray×ByteArray×Bool :=
 if (cutB 123 s).2.2=true then (if endsL (bl (cutB 123 s).2.1)=true then (if (bl (cutB 123 s).2.1).dropLast=[] then (NoB,NoB,false) else ((cutB 123 s).1,mkB (bl (cutB 123 s).2.1).dropLast,true)) else (NoB,NoB,false)) else (s,NoB,true)
def parseK (s:ByteArray):KY :=
 if (cutK s).2.2=true then (if nameL (bl (cutK s).1)=true then (if (parseT (cutK s).2.1).2=0 then ((cutK s).1,(parseT (cutK s).2.1).1,0) else (NoB,[],(parseT (cutK s).2.1).2)) else (NoB,[],2)) else (NoB,[],2)
theorem last_drop (l:List UInt8) (h:0<l.length):l.drop (l.length - 1)=[l[l.length - 1]'(by omega)]:=by
 rw [drop_cons l (l.length - 1) (by omega),List.drop_of_length_le (by omega)]
theorem dropLast_size (a:ByteArray):(mkB (bl a).dropLast).size≤a.size:=by rw [size_mkB,← size_bl a];simp
def atK (s:ByteArray) (m:Nat):ByteArray×ByteArray×Bool :=
 if m=s.size then (s,NoB,true) else if endsL (bl s)=true then (if m+2=s.size then (NoB,NoB,false) else (s.extract 0 m,s.extract (m+1) (s.size - 1),true)) else (NoB,NoB,false)
def placeK (l:List UInt8) (c:UInt8):Nat:=if Lib.indexByte l c<0 then l.length else (Lib.indexByte l c).toNat
theorem place_cons (b c:UInt8) (l:List UInt8):placeK (b ::l) c=if b=c then 0 else placeK l c+1:=by
 have h:=idx_lt l c
 unfold placeK
 rw [idx_cons]
 by_cases hb:b=c
 ·simp [hb]
 ·rw [if_neg hb,if_neg hb]
  by_cases h1:Lib.indexByte l c = -1
  ·rw [if_pos h1,if_pos (by omega),if_pos (by omega)];simp
  ·rw [if_neg h1,if_neg (by omega),if_neg (by omega)];omega
theorem at_cut (s:ByteArray):atK s (placeK (bl s) 123)=cutK s:=by
 have hz:=size_bl s
 have h:=idx_lt (bl s) 123
 unfold atK cutK placeK cutB
 by_cases h0:Lib.indexByte (bl s) 123<0
 ·simp only [if_pos h0,hz]
  rw [if_pos trivial,if_neg (by simp)]
 ·obtain ⟨m,hm⟩:=Int.eq_ofNat_of_zero_le (show 0≤Lib.indexByte (bl s) 123 by omega)
  rw [hm] at h
  have hmm:m<(bl s).length:=by omega
  have h0':¬ ((m:Int)<0):=by omega
  simp only [hm,if_neg h0',Int.toNat_natCast]
  rw [if_neg (by omega),if_pos trivial]
  have hb:(bl s)[m]=123:=by
   have e:=splitL_idx 123 (bl s)
   have hj:=join_split 123 (bl s)
   rw [e,if_neg h0,hm,Int.toNat_natCast,Lib.join_cons] at hj
   cases hh:splitL 123 ((bl s).drop (m+1)) with
   | nil=>exact absurd hh (splitL_ne _ _)
   | cons a t =>
    rw [hh] at hj
    have hj2:(bl s).take m++(123 ::(a++tl [123] t))=bl s:=by
     have h8:=tl_cons [123] a t
     have h9:(bl s).take m++tl [123] (a ::t)=bl s:=hj
     rw [h8] at h9
     simpa using h9
    have h3:((bl s).take m++(123 ::(a++tl [123] t)))[m]?=some 123:=by
     have h10:((bl s).take m).length=m:=by rw [List.length_take];omega
     rw [List.getElem?_append_right (by omega),h10]
     simp
    rw [hj2] at h3
    exact (List.getElem?_eq_some_iff.1 h3).2
  rw [bl_extract,List.take_of_length_le (by omega)]
  by_cases hl:m+1=(bl s).length
  ·have e1:(bl s).drop (m+1)=[]:=List.drop_of_length_le (by omega)
   have e2:endsL (bl s)=false:=by
    unfold endsL
    rw [show (bl s).length - 1=m by omega,List.getElem?_eq_getElem hmm,hb];decide
   rw [e1,e2,if_neg (by simp),if_neg (by decide)]
  ·have e1:endsL ((bl s).drop (m+1))=endsL (bl s):=by
    unfold endsL
    rw [List.getElem?_drop,List.length_drop,show m+1+((bl s).length - (m+1) - 1)=(bl s).length - 1 by omega]
   rw [e1]
   by_cases he:endsL (bl s)=true
   ·rw [if_pos he,if_pos he]
    have e3:((bl s).drop (m+1)).dropLast=((bl s).take ((bl s).length - 1)).drop (m+1):=by
     rw [List.dropLast_eq_take,List.length_drop,List.drop_take]
     congr 1;omega
    by_cases h2:m+2=s.size
    ·rw [if_pos h2,if_pos (by rw [e3];exact List.drop_of_length_le (by simp;omega))]
    ·rw [if_neg h2,if_neg]
     ·simp only [Prod.mk.injEq,and_true,true_and]
      apply bl_inj
      rw [bl_extract,bl_mkB,e3,hz]
     ·rw [e3]
      intro h5
      have h6:=congrArg List.length h5
      simp at h6;omega
   ·rw [if_neg he,if_neg he]
theorem cutK_size (s:ByteArray):(cutK s).2.1.size≤s.size:=by
 have h:=cut_size 123 s
 have h2:=dropLast_size (cutB 123 s).2.1
 unfold cutK
 split
 ·split
  ·split
   ·exact Nat.zero_le _
   ·exact Nat.le_trans h2 h.2
  ·exact Nat.zero_le _
 ·exact Nat.zero_le _
theorem rightK_iff (n:ByteArray) (l:List TG):rightK n l=true↔nameL (bl n)=true∧rightT l=true:=by
 unfold rightK;rw [Bool.and_eq_true]
theorem parseK_out (s:ByteArray):((parseK s).2.2=0∧rightK (parseK s).1 (parseK s).2.1=true)∨((parseK s).2.2≠0∧(parseK s).1=NoB∧(parseK s).2.1=[]):=by
 unfold parseK
 by_cases h1:(cutK s).2.2=true
 ·rw [if_pos h1]
  by_cases h2:nameL (bl (cutK s).1)=true
  ·rw [if_pos h2]
   rcases parse_out (cutK s).2.1 with ⟨h3,h4⟩|⟨h3,h4⟩
   ·rw [if_pos h3]
    exact .inl ⟨rfl,(rightK_iff _ _).2 ⟨h2,h4⟩⟩
   ·rw [if_neg h3];exact .inr ⟨h3,rfl,rfl⟩
  ·rw [if_neg h2];exact .inr ⟨by decide,rfl,rfl⟩
 ·rw [if_neg h1];exact .inr ⟨by decide,rfl,rfl⟩
theorem rightK_fit {n:ByteArray} {l:List TG} (h:rightK n l=true):n.size≤12∧Fit l∧l.length≤4∧(textK n l).size≤2000:=by
 obtain ⟨h1,h2⟩:=(rightK_iff n l).1 h
 have h3:=(name_len _ h1).2
 rw [size_bl] at h3
 obtain ⟨hf,ht⟩:=right_fit h2
 refine ⟨h3,hf,((right_iff l).1 h2).2.2,?_⟩
 rw [size_bl] at ht
 unfold textK
 split
 ·omega
 ·rw [← size_bl,bl_append,bl_append,bl_append]
  simp only [List.length_append,bl_mkB,size_bl,List.length_cons,List.length_nil]
  omega
def mayM (m:MT):Bool:=nameL (bl m.2.1) && (if m.1=1∨m.1=2 then valueL (bl m.2.2.1) else if m.1=3 then decide (bl m.2.2.1=[]) || valueL (bl m.2.2.1) else decide (m.1=4) && decide (bl m.2.2.1=[]))
def rightM (l:List MT):Bool:=decide (l.length≤4) && l.all mayM
def endC (c:UInt8) (l:List UInt8):Bool:=decide (l[l.length - 1]?=some c)
def prefixB (v p:ByteArray):Bool:=decide ((bl v).take (bl p).length=bl p)
def fitM (tags:List TG) (m:MT):Bool :=
 if m.1=1 then (findT tags m.2.1).2 && decide (bl (findT tags m.2.1).1=bl m.2.2.1)
 else if m.1=2 then !((findT tags m.2.1).2 && decide (bl (findT tags m.2.1).1=bl m.2.2.1))
 else if m.1=3 then (findT tags m.2.1).2 && prefixB (findT tags m.2.1).1 m.2.2.1
 else decide (m.1=4) && (findT tags m.2.1).2
def fitsM (tags:List TG) (l:List MT):Bool:=l.all (fitM tags)
def bigM (t:MT):Bool:=decide (100<t.2.1.size) || decide (100<t.2.2.1.size)
def greatM (l:List MT):Bool:=decide (20<l.length) || l.any bigM
theorem not_greatM {l:List MT} (h:greatM l=false):l.length≤20∧∀ t∈l,t.2.1.size≤100∧t.2.2.1.size≤100:=by
 unfold greatM at h
 simp only [Bool.or_eq_false_iff,decide_eq_false_iff_not,List.any_eq_false] at h
 refine ⟨by omega,fun t ht=>?_⟩
 have:=h.2 t ht
 unfold bigM at this
 simp only [Bool.or_eq_true,decide_eq_true_eq] at this
 omega
def nameB (x:ByteArray):Bool:=nameL (bl x)
def namesS (l:List ByteArray):Int:=if l.all nameB=true then (if 4<l.length then 4 else if l.Nodup then 0 else 5) else 2
def hasB (l:List ByteArray) (x:ByteArray):Bool:=l.any fun y=>decide (y=x)
theorem hasB_iff (l:List ByteArray) (x:ByteArray):hasB l x=true↔x∈l:=by
 unfold hasB;rw [List.any_eq_true]
 exact ⟨fun ⟨y,hy,e⟩=>by rw [← of_decide_eq_true e];exact hy,fun h=>⟨x,h,decide_eq_true rfl⟩⟩
def noDup:List ByteArray→List ByteArray→Bool
 | _,[]=>true
 | pre,x ::r => !(hasB pre x) && noDup (pre++[x]) r
theorem noDup_iff:∀ (r pre:List ByteArray),pre.Nodup→(noDup pre r=true↔(pre++r).Nodup)
 | [],pre,h=>by simp [noDup,h]
 | x ::r,pre,h=>by
  rw [noDup,Bool.and_eq_true,Bool.not_eq_true',← Bool.not_eq_true,hasB_iff]
  by_cases hx:x∈pre
  ·constructor
   ·exact fun h2=>absurd hx h2.1
   ·intro h2
    rw [List.nodup_append] at h2
    exact absurd rfl (h2.2.2 x hx x (by simp))
  ·have hn:(pre++[x]).Nodup:=by rw [List.nodup_append];exact ⟨h,by simp,fun a ha b hb e=>hx (by simp at hb;rw [← hb,← e];exact ha)⟩
   rw [noDup_iff r (pre++[x]) hn,List.append_assoc,List.singleton_append]
   exact ⟨fun h2=>h2.2,fun h2=>⟨hx,h2⟩⟩
def aggN (s:ByteArray):Int:=if bl s=[99,111,117,110,116] then 1 else if bl s=[115,117,109] then 2 else if bl s=[109,105,110] then 3 else if bl s=[109,97,120] then 4 else 0
def nameN (n:Int):ByteArray:=if n=1 then mkB [99,111,117,110,116] else if n=2 then mkB [115,117,109] else if n=3 then mkB [109,105,110] else if n=4 then mkB [109,97,120] else NoB
theorem nameN_nil (n:Int):bl (nameN n)=[]↔¬ (1≤n∧n≤4):=by
 unfold nameN
 by_cases h1:n=1
 ·rw [if_pos h1,bl_mkB];simp;omega
 rw [if_neg h1]
 by_cases h2:n=2
 ·rw [if_pos h2,bl_mkB];simp;omega
 rw [if_neg h2]
 by_cases h3:n=3
 ·rw [if_pos h3,bl_mkB];simp;omega
 rw [if_neg h3]
 by_cases h4:n=4
 ·rw [if_pos h4,bl_mkB];simp;omega
 rw [if_neg h4]
 exact ⟨fun _=>by omega,fun _=>rfl⟩
def rightQ (a:Int) (n:ByteArray) (m:List MT) (b:List ByteArray):Bool:=(decide (1≤a) && decide (a≤4)) && (nameL (bl n) && (rightM m && decide (namesS b=0)))
def fitsQ (n:ByteArray) (m:List MT) (kn:ByteArray) (tags:List TG):Bool:=decide (kn=n) && fitsM tags m
def groupQ (b:List ByteArray) (tags:List TG):ByteArray:=textT (onlyT tags b)
theorem only_fit {b:List ByteArray} {tags:List TG} (h:Fit tags):Fit (onlyT tags b):=⟨Nat.le_trans (List.length_filter_le _ _) h.1,fun t ht=>h.2 t (List.mem_filter.1 ht).1⟩
def greatQ (n:ByteArray) (m:List MT) (b:List ByteArray):Bool:=decide (200<n.size) || (greatM m || (decide (20<b.length) || b.any fun x=>decide (100<x.size)))
theorem not_greatQ {n:ByteArray} {m:List MT} {b:List ByteArray} (h:greatQ n m b=false):n.size≤200∧(m.length≤20∧∀ t∈m,t.2.1.size≤100∧t.2.2.1.size≤100)∧b.length≤20∧∀ x∈b,x.size≤100:=by
 unfold greatQ at h
 simp only [Bool.or_eq_false_iff,decide_eq_false_iff_not,List.any_eq_false] at h
 refine ⟨by omega,not_greatM h.2.1,by omega,fun x hx=>?_⟩
 have:=h.2.2.2 x hx
 simp only [decide_eq_true_eq] at this;omega
end Go.Proofs.YtdcphpbimeoioaaGreatDoorE
end
section
set_option linter.unusedSectionVars false
namespace Go.Proofs.YtdcphpbimeoioaaGreatDoorE
open Go Go.Proofs
set_option linter.unusedVariables false
set_option linter.unusedSimpArgs false
theorem eqbl (a b:ByteArray):decide (a=b)=decide (bl a=bl b):=by
 rw [decide_eq_decide];exact ⟨fun h=>by rw [h],bl_inj⟩
theorem u8i (c k:UInt8):((c.toNat:Int)=(k.toNat:Int))=(c=k):=propext (u8_int c k)
theorem place_le (l:List UInt8) (c:UInt8):placeK l c≤l.length:=by
 induction l with
 | nil=>simp [placeK,Lib.indexByte]
 | cons b l ih=>rw [place_cons];split<;>simp<;>omega
theorem place_get (c:UInt8):∀ (l:List UInt8) (h:placeK l c<l.length),l[placeK l c]=c
 | [],h=>absurd h (Nat.not_lt_zero _)
 | b ::l,h=>by
  have e:=place_cons b c l
  by_cases hb:b=c
  ·rw [if_pos hb] at e
   simp only [e,List.getElem_cons_zero];exact hb
  ·rw [if_neg hb] at e
   have h':placeK l c<l.length:=by rw [e] at h;simpa using h
   simp only [e,List.getElem_cons_succ]
   exact place_get c l h'
theorem r04_cut_l0 (n:Nat) (s:ByteArray) (hs:s.size≤1000000):∀ (d i g:Nat),i+d=s.size→d<g→r04_Cut_l0 n g (s,(i:Int),())=some (.inl (s,((i+placeK ((bl s).drop i) 123:Nat):Int),()))
 | 0,i,g,hd,hg=>by
  obtain ⟨g,rfl⟩:∃ g',g=g'+1:=⟨g - 1,by omega⟩
  have k:¬ (i:Int)<(s.size:Int):=by omega
  have hz:=size_bl s
  have e:placeK ((bl s).drop i) 123=0:=by rw [List.drop_of_length_le (by omega)];rfl
  rw [e]
  simp only [r04_Cut_l0,ilt_eq,ssize_eq,k,decide_false,cond_false];rfl
 | d+1,i,g,hd,hg=>by
  obtain ⟨g,rfl⟩:∃ g',g=g'+1:=⟨g - 1,by omega⟩
  have hz:=size_bl s
  have hi:i<(bl s).length:=by omega
  have k:(i:Int)<(s.size:Int):=by omega
  have k0:(0:Int)≤i:=by omega
  have u:(((bl s)[i].toNat:Int)=123)=((bl s)[i]=123):=u8i _ 123
  have ih:=r04_cut_l0 n s hs d (i+1) g (by omega) (by omega)
  rw [drop_cons (bl s) i hi,place_cons]
  simp only [r04_Cut_l0,ilt_eq,ile_eq,ieq_eq,ssize_eq,k,k0,decide_true,cond_true,sat_bl s i hi,u,iadd1 (i:=i) (by omega),bindL_id2,ih]
  by_cases q:(bl s)[i]=123
  ·simp [q]
  ·simp only [q,decide_false,Bool.not_false,cond_true,if_false]
   rw [show i+1+placeK ((bl s).drop (i+1)) 123=i+(placeK ((bl s).drop (i+1)) 123+1) by omega]
theorem r04_Cut_v {n:Nat} (hn:Big n) (s:ByteArray) (hs:s.size≤1000000):r04_Cut n (s,())=some (((cutK s).1,(cutK s).2.1,(cutK s).2.2,()),((),())):=by
 have h:=r04_cut_l0 n s hs s.size 0 n (by omega) (by unfold Big at hn;omega)
 have hz:=size_bl s
 have hle:=place_le (bl s) 123
 rw [show ((0:Nat):Int)=0 from rfl,List.drop_zero,Nat.zero_add] at h
 rw [← at_cut s]
 have hg:=place_get 123 (bl s)
 generalize placeK (bl s) 123=m at h hle hg
 unfold atK
 by_cases h1:m=s.size
 ·have h1':(m:Int)=s.size:=by omega
  simp only [r04_Cut,h,bindL_inl,ieq_eq,ssize_eq,h1',decide_true,cond_true,if_pos h1]
 ·have h1':¬ (m:Int)=s.size:=by omega
  have hm:m<s.size:=by omega
  have c2:isub .i64 (s.size:Int) 1=((s.size - 1:Nat):Int):=by rw [isub64 (by omega) (by omega)];omega
  have c3:(0:Int)≤((s.size - 1:Nat):Int):=by omega
  have c4:((s.size - 1:Nat):Int)<s.size:=by omega
  have hs1:=sat_bl s (s.size - 1) (by omega)
  have hL:((((bl s)[s.size - 1]'(by omega)).toNat:Int)=125)=(endsL (bl s)=true):=by
   rw [show (125:Int)=((125:UInt8).toNat:Int) from rfl,u8i,endsL_pos (bl s) (by omega)]
   congr 2
  simp only [r04_Cut,h,bindL_inl,ieq_eq,ile_eq,ilt_eq,ssize_eq,h1',decide_false,cond_false,if_neg h1,c2,c3,c4,decide_true,cond_true,hs1,hL]
  by_cases h2:endsL (bl s)=true
  ·have h3:m+1≠s.size:=fun e=>by
    have e1:=hg (by omega)
    have e2:=(endsL_pos (bl s) (by omega)).1 h2
    have e3:(bl s)[(bl s).length - 1]'(by omega)=(bl s)[m]'(by omega):=by first|(congr 1;done)|(congr 1;omega)
    rw [e3,e1] at e2
    exact absurd e2 (by decide)
   have c5:iadd .i64 (m:Int) 1=((m+1:Nat):Int):=by rw [iadd64 (by omega) (by omega)];rfl
   by_cases h4:m+2=s.size
   ·have h4':((m+1:Nat):Int)=((s.size - 1:Nat):Int):=by omega
    simp only [h2,decide_true,Bool.not_true,cond_false,c5,h4',cond_true,if_true,if_pos h4]
   ·have h4':¬ ((m+1:Nat):Int)=((s.size - 1:Nat):Int):=by omega
    have c6:(0:Int)≤(m:Int):=by omega
    have c7:(m:Int)≤s.size:=by omega
    have c8:(0:Int)≤((m+1:Nat):Int):=by omega
    have c9:((m+1:Nat):Int)≤((s.size - 1:Nat):Int):=by omega
    have c10:((s.size - 1:Nat):Int)≤s.size:=by omega
    simp only [h2,decide_true,Bool.not_true,cond_false,c5,h4',decide_false,cond_true,if_true,if_neg h4,Int.le_refl,c6,c7,c8,c9,c10,sext_eq,Int.toNat_natCast]
    rfl
  ·simp only [h2,decide_false,Bool.not_false,cond_true,if_neg h2]
   rfl
theorem r04_Parse_v {n:Nat} (hn:Big n) (s:ByteArray) (hs:s.size≤100000):r04_Parse n (s,())=some ((((parseK s).1,(parseK s).2.1,()),(parseK s).2.2,()),((),())):=by
 have hz:=cutK_size s
 have hC:=r04_Cut_v hn s (by omega)
 have hN:=r02_Name_v0 hn (cutK s).1
 have hP:=r03_Parse_v hn (cutK s).2.1 (by omega)
 unfold parseK
 simp only [r04_Parse,hC,bindN_s,hN,hP,ieq_eq]
 by_cases h1:(cutK s).2.2=true
 ·by_cases h2:nameL (bl (cutK s).1)=true
  ·by_cases h3:(parseT (cutK s).2.1).2=0
   ·simp [h1,h2,h3]
   ·simp [h1,h2,h3]
  ·simp [h1,h2]
 ·simp [h1]
theorem r04_Text_v {n:Nat} (hn:Big n) (k:El tKey) (h1:k.1.size≤1000000) (hf:Fit k.2.1):r04_Text n (k,())=some ((textK k.1 k.2.1,()),((),())):=by
 unfold textK
 by_cases h0:k.2.1.length=0
 ·have:(k.2.1.length:Int)=0:=by omega
  simp only [r04_Text,ilen,ieq_eq,this,decide_true,cond_true,if_pos h0]
 ·have k0:¬ (k.2.1.length:Int)=0:=by omega
  have hT:=r03_Text_v hn k.2.1 hf
  have hl:=fit_text hf
  rw [size_bl] at hl
  have z1:(⟨#[123]⟩:ByteArray).size=1:=rfl
  have z2:(⟨#[125]⟩:ByteArray).size=1:=rfl
  have f1:sfits k.1 (⟨#[123]⟩:ByteArray)=true:=sfits_of (by omega)
  have f2:sfits (k.1++(⟨#[123]⟩:ByteArray)) (textT k.2.1)=true:=sfits_of (by rw [ByteArray.size_append];omega)
  have f3:sfits (k.1++(⟨#[123]⟩:ByteArray)++textT k.2.1) (⟨#[125]⟩:ByteArray)=true:=sfits_of (by rw [ByteArray.size_append,ByteArray.size_append];omega)
  have hT':r03_Text n k.2=some ((textT k.2.1,()),((),())):=hT
  simp only [r04_Text,ilen,ieq_eq,k0,decide_false,cond_false,cond_true,if_neg h0,scat_eq,f1,hT',bindN_s,f2,f3]
  rfl
theorem findT_no:∀ (l:List TG) (key:ByteArray),(findT l key).2=false→(findT l key).1=(⟨#[]⟩:ByteArray)
 | [],key,_=>rfl
 | t ::l,key,h=>by
  rw [findT] at h ⊢
  split
  ·rename_i hh;rw [if_pos hh] at h;cases h
  ·rename_i hh;rw [if_neg hh] at h;exact findT_no l key h
theorem r03_Find_v {n:Nat} (hn:Big n) (l:List TG) (key:ByteArray) (hl:l.length≤100000000):r03_Find n (l,key,())=some (((findT l key).1,(findT l key).2,()),((),(),())):=by
 have hL:=up_loop (m:=l.length) (L:=fun g i=>r03_Find_l0 n g (l,key,i,())) (spec:=fun i=>bif (findT (l.drop i) key).2 then .inr ((findT (l.drop i) key).1,true,()) else .inl ()) (fun g=>by
   simp [r03_Find_l0,findT]) (fun g i hi ih=>by
   have k:(i:Int)<(l.length:Int):=by omega
   have k0:(0:Int)≤i:=by omega
   simp only [r03_Find_l0,ilt_eq,ile_eq,ilen,k,k0,decide_true,cond_true,lat_eq,iN,Int.toNat_natCast,List.getElem?_eq_getElem hi,bindN_s,seq_eq,eqbl,iadd1 (i:=i) (by omega),ih,bindL_id]
   rw [drop_eq hi,findT]
   by_cases q:bl l[i].1=bl key<;>simp [q]) l.length 0 n (by omega) (by unfold Big at hn;omega)
 rw [show ((0:Nat):Int)=0 from rfl,List.drop_zero] at hL
 simp only [r03_Find,hL]
 cases h:(findT l key).2 with
 | true=>simp
 | false=>simp [findT_no l key h]
theorem r03_has_v {n:Nat} (hn:Big n) (ks:List ByteArray) (s:ByteArray) (hl:ks.length≤100000000):r03_has n (ks,s,())=some ((hasT ks s,()),((),(),())):=by
 have hL:=any_loop' (a:=ks) (fun x=>decide (bl x=bl s)) () (true,()) (L:=fun g i=>r03_has_l0 n g (ks,s,i,())) (fun g=>by simp [r03_has_l0]) (fun g i hi=>by
  have k:(i:Int)<(ks.length:Int):=by omega
  have k0:(0:Int)≤i:=by omega
  simp only [r03_has_l0,ilt_eq,ile_eq,ilen,k,k0,decide_true,cond_true,lat_eq,iN,Int.toNat_natCast,List.getElem?_eq_getElem hi,bindN_s,seq_eq,eqbl,iadd1 (i:=i) (by omega),bindL_id]) (g:=n) (by unfold Big at hn;omega)
 simp only [r03_has,hL]
 unfold hasT
 cases ks.any (fun x=>decide (bl x=bl s))<;>simp
theorem r03_only_l0 {n:Nat} (hn:Big n) (l:List TG) (ks:List ByteArray) (hl:l.length≤1000000) (hk:ks.length≤1000000):∀ (d i g:Nat) (acc:List TG),i+d=l.length→acc.length≤i→d<g →
  r03_Only_l0 n g (l,ks,acc,(i:Int),())=some (.inl (acc++onlyT (l.drop i) ks,()))
 | 0,i,g,acc,hd,ha,hg=>by
  obtain ⟨g,rfl⟩:∃ g',g=g'+1:=⟨g - 1,by omega⟩
  have k:¬ (i:Int)<(l.length:Int):=by omega
  rw [List.drop_of_length_le (by omega)]
  simp [r03_Only_l0,k,onlyT]
 | d+1,i,g,acc,hd,ha,hg=>by
  obtain ⟨g,rfl⟩:∃ g',g=g'+1:=⟨g - 1,by omega⟩
  have hi:i<l.length:=by omega
  have k:(i:Int)<(l.length:Int):=by omega
  have k0:(0:Int)≤i:=by omega
  have hh:=r03_has_v hn ks l[i].1 (by omega)
  have r1:room (acc.length+1) 32=true:=room_of (by omega)
  have ih1:=r03_only_l0 hn l ks hl hk d (i+1) g (acc++[l[i]]) (by omega) (by simp;omega) (by omega)
  have ih2:=r03_only_l0 hn l ks hl hk d (i+1) g acc (by omega) (by omega) (by omega)
  rw [drop_cons l i hi]
  simp only [r03_Only_l0,ilt_eq,ile_eq,ilen,k,k0,decide_true,cond_true,lat_eq,iN,Int.toNat_natCast,List.getElem?_eq_getElem hi,bindN_s,hh,roomA,List.length_singleton,r1,app,iadd1 (i:=i) (by omega),bindL_id2,ih1,ih2]
  unfold onlyT
  rw [List.filter_cons]
  cases hasT ks l[i].1<;>simp
theorem r03_Only_v {n:Nat} (hn:Big n) (l:List TG) (ks:List ByteArray) (hl:l.length≤1000000) (hk:ks.length≤1000000):r03_Only n (l,ks,())=some ((onlyT l ks,()),((),(),())):=by
 have h:=r03_only_l0 hn l ks hl hk l.length 0 n [] (by omega) (by simp) (by unfold Big at hn;omega)
 rw [show ((0:Nat):Int)=0 from rfl,List.drop_zero,List.nil_append] at h
 simp only [r03_Only,h,bindL_inl]
theorem r05_may_v {n:Nat} (hn:Big n) (m:MT):r05_may n (m,())=some ((mayM m,()),((),())):=by
 obtain ⟨a,b,c,⟨⟩⟩:=m
 have hN:=r02_Name_v0 hn b
 have hV:=r02_Value_v0 hn c
 unfold mayM
 simp only [r05_may,hN,hV,bindN_s,ieq_eq,seq_eq,eqbl,empty_bl]
 by_cases h0:nameL (bl b)=true
 ·by_cases h1:a=1
  ·subst h1;simp [h0]
  ·by_cases h2:a=2
   ·subst h2;simp [h0]
   ·by_cases h3:a=3
    ·subst h3
     by_cases h4:bl c=[]<;>simp [h0,h4]
    ·by_cases h4:a=4
     ·subst h4;simp [h0];congr
     ·simp [h0,h1,h2,h3,h4]
 ·simp [h0]
theorem r05_Right_v {n:Nat} (hn:Big n) (l:List MT) (hl:l.length≤1000000):r05_Right n (l,())=some ((rightM l,()),((),())):=by
 have hL:=any_loop' (a:=l) (fun t => !mayM t) (l,()) (false,()) (L:=fun g i=>r05_Right_l0 n g (l,i,())) (fun g=>by simp [r05_Right_l0]) (fun g i hi=>by
  have k:(i:Int)<(l.length:Int):=by omega
  have k1:(0:Int)≤i:=by omega
  simp only [r05_Right_l0,ilt_eq,ile_eq,ilen,k,k1,decide_true,cond_true,lat_eq,iN,Int.toNat_natCast,List.getElem?_eq_getElem hi,bindN_s,r05_may_v hn l[i],iadd1 (i:=i) (by omega),bindL_id1]) (g:=n) (by unfold Big at hn;omega)
 rw [all_any] at hL
 simp only [r05_Right,hL]
 unfold rightM
 cases l.all mayM with
 | false=>simp
 | true =>
  simp only [Bool.not_true,cond_false,bindL_inl,ile_eq,ilen,Bool.and_true]
  congr 3
  rw [decide_eq_decide];omega
theorem r05_one_v {n:Nat} (hn:Big n) (tags:List TG) (m:MT) (ht:tags.length≤100000000):r05_one n (tags,m,())=some ((fitM tags m,()),((),(),())):=by
 obtain ⟨a,b,c,⟨⟩⟩:=m
 have hF:=r03_Find_v hn tags b ht
 unfold fitM
 simp only [r05_one,hF,bindN_s,ieq_eq,seq_eq,eqbl]
 by_cases h1:a=1
 ·subst h1;cases (findT tags b).2<;>simp
 ·by_cases h2:a=2
  ·subst h2;cases (findT tags b).2<;>simp
  ·by_cases h3:a=3
   ·subst h3
    cases (findT tags b).2 with
    | false=>simp
    | true =>
     have z1:=size_bl c
     have z2:=size_bl (findT tags b).1
     unfold prefixB
     by_cases h5:c.size≤(findT tags b).1.size
     ·have h5':(c.size:Int)≤(findT tags b).1.size:=by omega
      have e:bl ((findT tags b).1.extract 0 c.size)=(bl (findT tags b).1).take (bl c).length:=by
       rw [bl_extract,z1];simp
      simp [h5',e]
     ·have h5':¬ (c.size:Int)≤(findT tags b).1.size:=by omega
      have e:¬ (bl (findT tags b).1).take (bl c).length=bl c:=fun h=>by
       have:=congrArg List.length h
       rw [List.length_take] at this;omega
      simp [h5',e]
   ·by_cases h4:a=4
    ·subst h4;simp
    ·simp [h1,h2,h3,h4]
theorem r05_Fits_v {n:Nat} (hn:Big n) (tags:List TG) (l:List MT) (ht:tags.length≤100000000) (hl:l.length≤1000000):r05_Fits n (tags,l,())=some ((fitsM tags l,()),((),(),())):=by
 have hL:=any_loop' (a:=l) (fun t => !fitM tags t) () (false,()) (L:=fun g i=>r05_Fits_l0 n g (tags,l,i,())) (fun g=>by simp [r05_Fits_l0]) (fun g i hi=>by
  have k:(i:Int)<(l.length:Int):=by omega
  have k1:(0:Int)≤i:=by omega
  simp only [r05_Fits_l0,ilt_eq,ile_eq,ilen,k,k1,decide_true,cond_true,lat_eq,iN,Int.toNat_natCast,List.getElem?_eq_getElem hi,bindN_s,r05_one_v hn tags l[i] ht,iadd1 (i:=i) (by omega),bindL_id]) (g:=n) (by unfold Big at hn;omega)
 rw [all_any] at hL
 simp only [r05_Fits,hL]
 unfold fitsM
 cases l.all (fitM tags)<;>simp
theorem r07_names_l2v {n:Nat} (l:List ByteArray) (i:Nat) (hi:i<l.length) (hl:l.length≤1000000):∀ (d j g:Nat),j+d=i→d<g →
  r07_names_l2 n g (l,(i:Int),(j:Int),())=some (if hasB ((l.take i).drop j) l[i]=true then .inr (5,()) else .inl (l,(i:Int),()))
 | 0,j,g,hd,hg=>by
  obtain ⟨g,rfl⟩:∃ g',g=g'+1:=⟨g - 1,by omega⟩
  have k:¬ (j:Int)<(i:Int):=by omega
  rw [List.drop_of_length_le (by simp;omega)]
  simp [r07_names_l2,k,hasB]
 | d+1,j,g,hd,hg=>by
  obtain ⟨g,rfl⟩:∃ g',g=g'+1:=⟨g - 1,by omega⟩
  have hj:j<(l.take i).length:=by simp;omega
  have hjl:j<l.length:=by omega
  have k:(j:Int)<(i:Int):=by omega
  have k0:(0:Int)≤j:=by omega
  have k1:(0:Int)≤i:=by omega
  have ih:=r07_names_l2v (n:=n) l i hi hl d (j+1) g (by omega) (by omega)
  rw [drop_eq hj,List.getElem_take]
  simp only [r07_names_l2,ilt_eq,ile_eq,k,k0,k1,decide_true,cond_true,lat_eq,iN,Int.toNat_natCast,List.getElem?_eq_getElem hi,List.getElem?_eq_getElem hjl,bindN_s,seq_eq,iadd1 (i:=j) (by omega),bindL_id1,ih]
  by_cases q:l[j]=l[i]
  ·simp [q,hasB]
  ·have hc:hasB (l[j] ::(l.take i).drop (j+1)) l[i]=hasB ((l.take i).drop (j+1)) l[i]:=by unfold hasB;rw [List.any_cons,decide_eq_false q,Bool.false_or]
   simp only [hc,q,decide_false,cond_false]
theorem r07_names_l1v {n:Nat} (hn:Big n) (l:List ByteArray) (hl:l.length≤1000000):∀ (d i g:Nat),i+d=l.length→d<g →
  r07_names_l1 n g (l,(i:Int),())=some (if noDup (l.take i) (l.drop i)=true then .inl () else .inr (5,()))
 | 0,i,g,hd,hg=>by
  obtain ⟨g,rfl⟩:∃ g',g=g'+1:=⟨g - 1,by omega⟩
  have k:¬ (i:Int)<(l.length:Int):=by omega
  rw [List.drop_of_length_le (by omega)]
  simp [r07_names_l1,k,noDup]
 | d+1,i,g,hd,hg=>by
  obtain ⟨g,rfl⟩:∃ g',g=g'+1:=⟨g - 1,by omega⟩
  have hi:i<l.length:=by omega
  have k:(i:Int)<(l.length:Int):=by omega
  have h2:=r07_names_l2v (n:=n) l i hi hl i 0 n (by omega) (by unfold Big at hn;omega)
  rw [show ((0:Nat):Int)=0 from rfl,List.drop_zero] at h2
  have ih:=r07_names_l1v hn l hl d (i+1) g (by omega) (by omega)
  have e:l.take (i+1)=l.take i++[l[i]]:=by rw [List.take_add_one,List.getElem?_eq_getElem hi];rfl
  rw [drop_eq hi,noDup]
  simp only [r07_names_l1,ilt_eq,ilen,k,decide_true,cond_true,h2]
  cases hq:hasB (l.take i) l[i] with
  | true=>simp
  | false =>
   simp only [Bool.false_eq_true,if_false,bindL_inl,iadd1 (i:=i) (by omega),bindL_id,ih,e]
   simp
theorem r07_names_v {n:Nat} (hn:Big n) (l:List ByteArray) (hl:l.length≤1000000):r07_names n (l,())=some ((namesS l,()),((),())):=by
 have hL:=any_loop' (a:=l) (fun t => !nameB t) (l,()) ((2:Int),()) (L:=fun g i=>r07_names_l0 n g (l,i,())) (fun g=>by simp [r07_names_l0]) (fun g i hi=>by
  have k:(i:Int)<(l.length:Int):=by omega
  have k1:(0:Int)≤i:=by omega
  have hN:=r02_Name_v0 hn l[i]
  rw [show nameL (bl l[i])=nameB l[i] from rfl] at hN
  simp only [r07_names_l0,ilt_eq,ile_eq,ilen,k,k1,decide_true,cond_true,lat_eq,iN,Int.toNat_natCast,List.getElem?_eq_getElem hi,bindN_s,hN,iadd1 (i:=i) (by omega),bindL_id1]) (g:=n) (by unfold Big at hn;omega)
 rw [all_any] at hL
 have h1:=r07_names_l1v hn l hl l.length 0 n (by omega) (by unfold Big at hn;omega)
 rw [show ((0:Nat):Int)=0 from rfl,List.drop_zero,List.take_zero] at h1
 have hd:=noDup_iff l [] List.nodup_nil
 rw [List.nil_append] at hd
 simp only [r07_names,hL]
 unfold namesS
 cases hq:l.all nameB with
 | false=>simp
 | true =>
  simp only [Bool.not_true,cond_false,bindL_inl,ilt_eq,ilen,if_true]
  by_cases h4:4<l.length
  ·have h4':(4:Int)<(l.length:Int):=by omega
   simp [h4,h4']
  ·have h4':¬ (4:Int)<(l.length:Int):=by omega
   simp only [h4',decide_false,cond_false,if_neg h4,h1]
   by_cases h5:l.Nodup
   ·rw [if_pos (hd.2 h5),if_pos h5];simp
   ·rw [if_neg (fun h=>h5 (hd.1 h)),if_neg h5];simp
theorem r07_Right_v {n:Nat} (hn:Big n) (q:El tQuery) (hm:q.2.2.1.length≤1000000) (hb:q.2.2.2.1.length≤1000000):r07_Right n (q,())=some ((rightQ q.1 q.2.1 q.2.2.1 q.2.2.2.1,()),((),())):=by
 obtain ⟨a,nm,m,b,⟨⟩⟩:=q
 have hN:=r02_Name_v0 hn nm
 have hR:=r05_Right_v hn m hm
 have hS:=r07_names_v hn b hb
 simp only [r07_Right,hN,hR,hS,bindN_s,ile_eq,ieq_eq]
 unfold rightQ
 by_cases h1:(1:Int)≤a
 ·by_cases h2:a≤4
  ·cases nameL (bl nm) with
   | false=>simp [h1,h2]
   | true=>cases rightM m<;>simp [h1,h2]
  ·simp [h1,h2]
 ·simp [h1]
theorem r07_Fits_v {n:Nat} (hn:Big n) (q:El tQuery) (k:El tKey) (ht:k.2.1.length≤100000000) (hl:q.2.2.1.length≤1000000):r07_Fits n (q,k,())=some ((fitsQ q.2.1 q.2.2.1 k.1 k.2.1,()),((),(),())):=by
 have hF:=r05_Fits_v hn k.2.1 q.2.2.1 ht hl
 simp only [r07_Fits,hF,bindN_s,seq_eq]
 unfold fitsQ
 by_cases h:k.1=q.2.1<;>simp [h]
theorem r07_Group_v {n:Nat} (hn:Big n) (q:El tQuery) (k:El tKey) (hf:Fit k.2.1) (hb:q.2.2.2.1.length≤1000000):r07_Group n (q,k,())=some ((groupQ q.2.2.2.1 k.2.1,()),((),(),())):=by
 have hO:=r03_Only_v hn k.2.1 q.2.2.2.1 (Nat.le_trans hf.1 (by decide)) hb
 have hT:=r03_Text_v hn (onlyT k.2.1 q.2.2.2.1) (only_fit hf)
 have hO':r03_Only n (k.2.1,q.2.2.2)=some ((onlyT k.2.1 q.2.2.2.1,()),((),(),())):=hO
 simp only [r07_Group,hO',bindN_s,hT]
 rfl
theorem big_loop {α:Type} {a:List α} (p:α→Bool) (c:Bool) {L:Nat→Int→Option (Unit ⊕ (Bool×Unit))} {n:Nat} (hn:Big n) (ha:a.length≤100000000) (hend:∀ g,L (g+1) (a.length:Int)=some (.inl ()))
  (hstep:∀ g i (h1:i<a.length),L (g+1) (i:Int)=bif p a[i] then some (.inr (c,())) else L g ((i+1:Nat):Int)):L n (0:Int)=some (bif a.any p then .inr (c,()) else .inl ()) :=
 any_loop p c hend hstep (by unfold Big at hn;omega)
theorem lt_nat (a b:Nat):decide ((a:Int)<(b:Int))=decide (a<b):=by rw [decide_eq_decide];omega
theorem r05_Great_v {n:Nat} (hn:Big n) (l:List MT):r05_Great n (l,())=some ((greatM l,()),((),())):=by
 unfold greatM
 by_cases h:20<l.length
 ·have h':(20:Int)<(l.length:Int):=by omega
  simp [r05_Great,h,h']
 ·have h':¬ (20:Int)<(l.length:Int):=by omega
  have hL:=big_loop (a:=l) bigM true (L:=fun g i=>r05_Great_l0 n g (l,i,())) hn (by omega) (fun g=>by simp [r05_Great_l0]) (fun g i hi=>by
   have k:(i:Int)<(l.length:Int):=by omega
   have k1:(0:Int)≤i:=by omega
   simp only [r05_Great_l0,ilt_eq,ile_eq,ssize_eq,ilen,k,k1,decide_true,cond_true,lat_eq,iN,Int.toNat_natCast,List.getElem?_eq_getElem hi,bindN_s,iadd1 (i:=i) (by omega),bindL_id,bigM]
   rw [show decide ((100:Int)<(l[i].2.1.size:Int))=decide (100<l[i].2.1.size) from lt_nat 100 _,show decide ((100:Int)<(l[i].2.2.1.size:Int))=decide (100<l[i].2.2.1.size) from lt_nat 100 _]
   cases decide (100<l[i].2.1.size)<;>cases decide (100<l[i].2.2.1.size)<;>rfl)
  simp only [r05_Great,ilt_eq,ilen,h',decide_false,cond_false,hL,h,Bool.false_or]
  cases l.any bigM<;>simp
theorem r07_Great_v {n:Nat} (hn:Big n) (q:El tQuery):r07_Great n (q,())=some ((greatQ q.2.1 q.2.2.1 q.2.2.2.1,()),((),())):=by
 obtain ⟨a,nm,m,b,⟨⟩⟩:=q
 have hM:=r05_Great_v hn m
 unfold greatQ
 simp only [r07_Great,ilt_eq,ssize_eq,hM,bindN_s,ilen]
 rw [show decide ((200:Int)<(nm.size:Int))=decide (200<nm.size) from lt_nat 200 _,show decide ((20:Int)<(b.length:Int))=decide (20<b.length) from lt_nat 20 _]
 cases decide (200<nm.size) with
 | true=>simp
 | false =>
  cases greatM m with
  | true=>simp
  | false =>
   by_cases h:20<b.length
   ·simp [h]
   ·have hL:=big_loop (a:=b) (fun x=>decide (100<x.size)) true (L:=fun g i=>r07_Great_l0 n g ((a,nm,m,b,()),i,())) hn (by omega) (fun g=>by simp [r07_Great_l0]) (fun g i hi=>by
     have k:(i:Int)<(b.length:Int):=by omega
     have k1:(0:Int)≤i:=by omega
     simp only [r07_Great_l0,ilt_eq,ile_eq,ssize_eq,ilen,k,k1,decide_true,cond_true,lat_eq,iN,Int.toNat_natCast,List.getElem?_eq_getElem hi,bindN_s,iadd1 (i:=i) (by omega),bindL_id]
     rw [show decide ((100:Int)<(b[i].size:Int))=decide (100<b[i].size) from lt_nat 100 _])
    simp only [h,decide_false,cond_false,Bool.false_or,hL]
    cases b.any (fun x=>decide (100<x.size))<;>simp
end Go.Proofs.YtdcphpbimeoioaaGreatDoorE
end
section
set_option linter.unusedSectionVars false
namespace Go.Proofs.YtdcphpbimeoioaaGreatDoorE
open Go Go.Proofs
set_option linter.unusedVariables false
set_option linter.unusedSimpArgs false
def I64 (i:Int):Prop := -9223372036854775808≤i∧i≤9223372036854775807
theorem p19:(10:Nat) ^ (18+1)=10000000000000000000:=by decide
abbrev SM:=El tSum
end Go.Proofs.YtdcphpbimeoioaaGreatDoorE
end
section
set_option linter.unusedSectionVars false
namespace Go.Proofs.YtdcphpbimeoioaaGreatDoorE
open Go Go.Proofs
set_option linter.unusedVariables false
set_option linter.unusedSimpArgs false
abbrev RW:=El tRow
def befR (a b:RW):Bool:=decide (a.1<b.1) || (decide (a.1=b.1) && Op.bytesLess (bl a.2.1) (bl b.2.1))
def groupE (s:ByteArray):Int:=if (parseT s).2=0 then (if textT (parseT s).1=s then 0 else 2) else (parseT s).2
def riseR:List RW→Bool
 | a ::b ::r=>befR a b && riseR (b ::r)
 | _=>true
def okG (r:RW):Bool:=decide (groupE r.2.1=0)
def rightR (l:List RW):Bool:=l.all okG && riseR l
def FitR (l:List RW):Prop:=l.length≤100000∧∀ r∈l,r.2.1.size≤100000
theorem find_loop {α:Type} {a:List α} (p:α→Bool) {L:Nat→Int→Option (Unit ⊕ (Int×Unit))} (hend:∀ g,L (g+1) (a.length:Int)=some (.inl ()))
  (hstep:∀ g i (h1:i<a.length),L (g+1) (i:Int)=bif p a[i] then some (.inr ((i:Int),())) else L g ((i+1:Nat):Int)) {g:Nat} (hg:a.length<g) :
  L g (0:Int)=some (match a.findIdx? p with|some q => .inr ((q:Int),())|none => .inl ()):=by
 have:=up_loop (L:=L) (m:=a.length) (spec:=fun i=>match (a.drop i).findIdx? p with|some q => .inr (((i+q:Nat):Int),())|none => .inl ()) (fun g=>by
  rw [hend g];simp) (fun g i hi ih=>by
  rw [hstep g i hi,ih,drop_eq hi,List.findIdx?_cons]
  cases p a[i] with
  | true=>simp
  | false =>
   simp only [cond_false,Bool.false_eq_true,if_false]
   cases (a.drop (i+1)).findIdx? p with
   | none=>rfl
   | some q=>simp only [Option.map_some];rw [show i+(q+1)=i+1+q by omega]) a.length 0 g (by omega) hg
 simpa using this
end Go.Proofs.YtdcphpbimeoioaaGreatDoorE
end
section
set_option linter.unusedSectionVars false
namespace Go.Proofs.YtdcphpbimeoioaaGreatDoorE
open Go Go.Proofs
set_option linter.unusedVariables false
set_option linter.unusedSimpArgs false
theorem one_sz (c:UInt8):((⟨#[c]⟩:ByteArray).size:Int)=1:=rfl
theorem eq_one (l:List UInt8) (c:UInt8):((⟨l.toArray⟩:ByteArray)=(⟨#[c]⟩:ByteArray))↔l=[c]:=by
 constructor
 ·intro h
  have:=congrArg bl h
  rw [bl_mk l] at this
  exact this
 ·intro h;rw [h]
theorem suffix1 (n:Nat) (s:ByteArray) (c:UInt8) (hs:s.size≤9000000000000):s_slHasSuffix n (s,(⟨#[c]⟩:ByteArray),())=some ((endC c (bl s),()),((),(),())):=by
 have hz:=size_bl s
 unfold s_slHasSuffix
 by_cases h:1≤s.size
 ·have e:(1:Int)≤(s.size:Int):=by omega
  have e1:isub .i64 (s.size:Int) 1=((s.size - 1:Nat):Int):=by rw [isub64 (by omega) (by omega)];omega
  have e0:(0:Int)≤((s.size - 1:Nat):Int):=by omega
  have e3:((s.size - 1:Nat):Int)≤(s.size:Int):=by omega
  have hl:=last_drop (bl s) (by omega)
  have e2:s.extract (s.size - 1) s.size=⟨([(bl s)[(bl s).length - 1]'(by omega)]:List UInt8).toArray⟩:=by rw [ext_drop s (s.size - 1),← hz,hl]
  simp only [ile_eq,ssize_eq,one_sz,e,e1,e0,e3,decide_true,cond_true,Int.le_refl,sext_eq,seq_eq,Int.toNat_natCast,e2,eq_one]
  have e4:(bl s)[(bl s).length - 1]?=some ((bl s)[(bl s).length - 1]'(by omega)):=List.getElem?_eq_getElem (by omega)
  unfold endC
  rw [e4]
  simp
 ·have e:¬ (1:Int)≤(s.size:Int):=by omega
  have hb:bl s=[]:=List.length_eq_zero_iff.1 (by omega)
  simp only [ile_eq,ssize_eq,one_sz,e,decide_false,cond_false]
  unfold endC
  rw [hb];rfl
end Go.Proofs.YtdcphpbimeoioaaGreatDoorE
end
section
set_option linter.unusedSectionVars false
namespace Go.Proofs.YtdcphpbimeoioaaGreatDoorE
open Go Go.Proofs
set_option linter.unusedVariables false
set_option linter.unusedSimpArgs false
theorem idx_any {α:Type} (p:α→Bool) (a:List α):(a.findIdx? p=none∧a.any p=false)∨∃ q:Nat,a.findIdx? p=some q∧a.any p=true:=by
 cases h:a.findIdx? p with
 | none =>
  have:=List.findIdx?_eq_none_iff.1 h
  exact .inl ⟨rfl,by rw [List.any_eq_false];intro x hx;rw [this x hx];simp⟩
 | some q =>
  refine .inr ⟨q,rfl,?_⟩
  have:=List.findIdx?_isSome (p:=p) (xs:=a)
  rw [h] at this;simpa using this.symm
theorem tag_Find_v {n:Nat} (hn:Big n) (l:List TG) (key:ByteArray) (hl:l.length≤100000000):tag_Find n (l,key,())=some (((findT l key).1,(findT l key).2,()),((),(),())):=by
 have hL:=up_loop (m:=l.length) (L:=fun g i=>tag_Find_l0 n g (key,l,(l.length:Int),i,())) (spec:=fun i=>bif (findT (l.drop i) key).2 then .inr ((findT (l.drop i) key).1,true,()) else .inl ()) (fun g=>by
   simp [tag_Find_l0,findT]) (fun g i hi ih=>by
   have k:(i:Int)<(l.length:Int):=by omega
   have k0:(0:Int)≤i:=by omega
   simp only [tag_Find_l0,ilt_eq,ile_eq,k,k0,decide_true,cond_true,lat_eq,iN,Int.toNat_natCast,List.getElem?_eq_getElem hi,bindN_s,seq_eq,eqbl,iadd1 (i:=i) (by omega),ih,bindL_id]
   rw [drop_eq hi,findT]
   by_cases q:bl l[i].1=bl key<;>simp [q]) l.length 0 n (by omega) (by unfold Big at hn;omega)
 rw [show ((0:Nat):Int)=0 from rfl,List.drop_zero] at hL
 simp only [tag_Find,ilen,hL]
 cases h:(findT l key).2 with
 | true=>simp
 | false=>simp [findT_no l key h]
theorem sl_ContainsStr_v {n:Nat} (hn:Big n) (ks:List ByteArray) (s:ByteArray) (hl:ks.length≤100000000):sl_ContainsStr n (ks,s,())=some ((hasT ks s,()),((),(),())):=by
 have hL:=find_loop (a:=ks) (fun x=>decide (bl s=bl x)) (L:=fun g i=>sl_IndexStr_l0 n g (ks,s,(ks.length:Int),i,())) (fun g=>by simp [sl_IndexStr_l0]) (fun g i hi=>by
  have k:(i:Int)<(ks.length:Int):=by omega
  have k0:(0:Int)≤i:=by omega
  simp only [sl_IndexStr_l0,ilt_eq,ile_eq,k,k0,decide_true,cond_true,lat_eq,iN,Int.toNat_natCast,List.getElem?_eq_getElem hi,bindN_s,seq_eq,eqbl,iadd1 (i:=i) (by omega),bindL_id]) (g:=n) (by unfold Big at hn;omega)
 have e:hasT ks s=ks.any fun x=>decide (bl s=bl x):=by unfold hasT;congr 1;funext x;rw [decide_eq_decide];exact ⟨Eq.symm,Eq.symm⟩
 rw [e]
 unfold sl_ContainsStr sl_IndexStr
 simp only [ilen,hL]
 rcases idx_any (fun x=>decide (bl s=bl x)) ks with ⟨h1,h2⟩|⟨q,h1,h2⟩
 ·simp [h1,h2]
 ·have:(0:Int)≤q:=by omega
  simp [h1,h2,this]
theorem tag_only_l0 {n:Nat} (hn:Big n) (l:List TG) (ks:List ByteArray) (hl:l.length≤1000000) (hk:ks.length≤1000000):∀ (d i g:Nat) (acc:List TG),i+d=l.length→acc.length≤i→d<g →
  tag_Only_l0 n g (ks,acc,l,(l.length:Int),(i:Int),())=some (.inl (acc++onlyT (l.drop i) ks,()))
 | 0,i,g,acc,hd,ha,hg=>by
  obtain ⟨g,rfl⟩:∃ g',g=g'+1:=⟨g - 1,by omega⟩
  have k:¬ (i:Int)<(l.length:Int):=by omega
  rw [List.drop_of_length_le (by omega)]
  simp [tag_Only_l0,k,onlyT]
 | d+1,i,g,acc,hd,ha,hg=>by
  obtain ⟨g,rfl⟩:∃ g',g=g'+1:=⟨g - 1,by omega⟩
  have hi:i<l.length:=by omega
  have k:(i:Int)<(l.length:Int):=by omega
  have k0:(0:Int)≤i:=by omega
  have hh:=sl_ContainsStr_v hn ks l[i].1 (by omega)
  have r1:room (acc.length+1) 32=true:=room_of (by omega)
  have ih1:=tag_only_l0 hn l ks hl hk d (i+1) g (acc++[l[i]]) (by omega) (by simp;omega) (by omega)
  have ih2:=tag_only_l0 hn l ks hl hk d (i+1) g acc (by omega) (by omega) (by omega)
  rw [drop_cons l i hi]
  simp only [tag_Only_l0,ilt_eq,ile_eq,k,k0,decide_true,cond_true,lat_eq,iN,Int.toNat_natCast,List.getElem?_eq_getElem hi,bindN_s,hh,roomA,List.length_singleton,r1,app,iadd1 (i:=i) (by omega),bindL_id2,ih1,ih2]
  unfold onlyT
  rw [List.filter_cons]
  cases hasT ks l[i].1<;>simp
theorem tag_Only_v {n:Nat} (hn:Big n) (l:List TG) (ks:List ByteArray) (hl:l.length≤1000000) (hk:ks.length≤1000000):tag_Only n (l,ks,())=some ((onlyT l ks,()),((),(),())):=by
 have h:=tag_only_l0 hn l ks hl hk l.length 0 n [] (by omega) (by simp) (by unfold Big at hn;omega)
 rw [show ((0:Nat):Int)=0 from rfl,List.drop_zero,List.nil_append] at h
 simp only [tag_Only,ilen,h,bindL_inl]
theorem word_Join_v2 (n:Nat) (sep:ByteArray) (l:List ByteArray) (h1:l.length≤1000000) (h2:(bl (joinB sep l)).length≤100000000000000):word_Join n (sep,l,())=some ((joinB sep l,()),((),(),())):=by
 have e1:Nat.ble l.length 140737488355328=true:=by rw [Nat.ble_eq];omega
 have e2:Nat.ble (Lib.join (l.map (·.data.toList)) sep.data.toList).length 140737488355328=true:=by
  have:(bl (joinB sep l)).length=(Lib.join (l.map (·.data.toList)) sep.data.toList).length:=rfl
  rw [Nat.ble_eq];omega
 simp only [word_Join,s_Join,e1,e2,Bool.and_self,cond_true,bindN_s]
 rfl
theorem key_Text_v {n:Nat} (hn:Big n) (k:El tKey) (h1:k.1.size≤1000000) (hf:Fit k.2.1):key_Text n (k,())=some ((textK k.1 k.2.1,()),((),())):=by
 unfold textK
 by_cases h0:k.2.1.length=0
 ·have:(k.2.1.length:Int)=0:=by omega
  simp only [key_Text,ilen,ieq_eq,this,decide_true,cond_true,if_pos h0]
 ·have k0:¬ (k.2.1.length:Int)=0:=by omega
  have hT:tag_Text n k.2=some ((textT k.2.1,()),((),())):=tag_Text_v hn k.2.1 hf
  have hl:=fit_text hf
  have hz:=size_bl k.1
  have hJ:=word_Join_v2 n (mkB []) [k.1,mkB [123],textT k.2.1,mkB [125]] (by simp) (by rw [joinK,bl_append,bl_append,bl_append,bl_mkB,bl_mkB];simp;omega)
  rw [joinK] at hJ
  simp only [key_Text,ilen,ieq_eq,k0,decide_false,cond_false,if_neg h0,hT,bindN_s]
  rw [show (⟨#[]⟩:ByteArray)=mkB [] from rfl,show (⟨#[123]⟩:ByteArray)=mkB [123] from rfl,show (⟨#[125]⟩:ByteArray)=mkB [125] from rfl,hJ,bindN_s]
theorem cutSuffix1 (n:Nat) (s:ByteArray) (c:UInt8) (hs:s.size≤9000000000000):s_CutSuffix n (s,(⟨#[c]⟩:ByteArray),())=some ((if endC c (bl s)=true then mkB (bl s).dropLast else s,endC c (bl s),()),((),(),())):=by
 have hz:=size_bl s
 unfold s_CutSuffix s_slCutSuffix
 rw [suffix1 n s c hs]
 cases h:endC c (bl s) with
 | false=>simp
 | true =>
  have h1:1≤s.size:=by
   rw [← hz]
   cases hb:bl s with
   | nil=>rw [hb] at h;simp [endC] at h
   | cons x r=>simp
  have e1:isub .i64 (s.size:Int) 1=((s.size - 1:Nat):Int):=by rw [isub64 (by omega) (by omega)];omega
  have e0:(0:Int)≤((s.size - 1:Nat):Int):=by omega
  have e3:((s.size - 1:Nat):Int)≤(s.size:Int):=by omega
  have e2:s.extract 0 (s.size - 1)=mkB (bl s).dropLast:=by rw [ext_take s (s.size - 1),List.dropLast_eq_take,hz];rfl
  simp only [bindN_s,Bool.not_true,cond_false,cond_true,ile_eq,Int.le_refl,decide_true,ssize_eq,one_sz,e1,e0,e3,sext_eq,Int.toNat_natCast,show (0:Int).toNat=0 from rfl,e2,if_true]
theorem cutB_no (c:UInt8) (s:ByteArray) (h:(cutB c s).2.2=false):(cutB c s).1=s∧(cutB c s).2.1=(⟨#[]⟩:ByteArray):=by
 unfold cutB at *
 split
 ·exact ⟨rfl,rfl⟩
 ·rename_i h1;rw [if_neg h1] at h;cases h
theorem key_Parse_v {n:Nat} (hn:Big n) (s:ByteArray) (hs:s.size≤100000):key_Parse n (s,())=some ((((parseK s).1,(parseK s).2.1,()),(parseK s).2.2,()),((),())):=by
 have hc:=cut_size 123 s
 have hC:=s_Cut_v n 123 s (by omega)
 have hX:=cutSuffix1 n (cutB 123 s).2.1 125 (by omega)
 have he:endsL (bl (cutB 123 s).2.1)=endC 125 (bl (cutB 123 s).2.1):=rfl
 unfold parseK cutK
 simp only [key_Parse,hC,bindN_s]
 cases h1:(cutB 123 s).2.2 with
 | false =>
  obtain ⟨e1,e2⟩:=cutB_no 123 s h1
  have hN:=word_Name_v0 n s
  have hP:=tag_Parse_v hn (⟨#[]⟩:ByteArray) (by decide)
  simp only [e1,e2,hN,hP,bindN_s,cond_false,ieq_eq,Bool.false_eq_true,if_false,if_true]
  by_cases h2:nameL (bl s)=true
  ·by_cases h3:(parseT (⟨#[]⟩:ByteArray)).2=0
   ·simp [h2,h3]
   ·simp [h2,h3]
  ·simp [h2]
 | true =>
  simp only [cond_true,hX,bindN_s,he,if_true]
  by_cases h2:endC 125 (bl (cutB 123 s).2.1)=true
  ·have hsz:(mkB (bl (cutB 123 s).2.1).dropLast).size≤s.size:=Nat.le_trans (dropLast_size _) hc.2
   have hN:=word_Name_v0 n (cutB 123 s).1
   have hP:=tag_Parse_v hn (mkB (bl (cutB 123 s).2.1).dropLast) (by omega)
   simp only [h2,if_true,Bool.not_true,cond_false,seq_eq,bl_nil,bl_mkB,hN,hP,bindN_s,ieq_eq]
   by_cases h3:(bl (cutB 123 s).2.1).dropLast=[]
   ·simp [h3]
   ·by_cases h4:nameL (bl (cutB 123 s).1)=true
    ·by_cases h5:(parseT (mkB (bl (cutB 123 s).2.1).dropLast)).2=0
     ·simp [h3,h4,h5]
     ·simp [h3,h4,h5]
    ·simp [h3,h4]
  ·simp [h2]
theorem row_series_v {n:Nat} (hn:Big n) (s:ByteArray) (hs:s.size≤100000):row_series n (s,())=some ((((parseK s).1,(parseK s).2.1,()),decide ((parseK s).2.2=0) && decide (textK (parseK s).1 (parseK s).2.1=s),()),((),())):=by
 have hP:=key_Parse_v hn s hs
 simp only [row_series,hP,bindN_s,ieq_eq]
 by_cases h:(parseK s).2.2=0
 ·have hr:=(parseK_out s).resolve_right (fun h'=>h'.1 h)
  obtain ⟨f1,f2,f3,f4⟩:=rightK_fit hr.2
  have hT:=key_Text_v hn ((parseK s).1,(parseK s).2.1,()) (by show (parseK s).1.size≤_;omega) f2
  simp only at hT
  simp only [h,decide_true,cond_true,hT,bindN_s,seq_eq,Bool.true_and]
 ·simp [h]
theorem pick_may_v (n:Nat) (m:MT):pick_may n ((m,()),())=some ((mayM m,()),((),())):=by
 obtain ⟨a,b,c,⟨⟩⟩:=m
 have hN:=word_Name_v0 n b
 have hV:=word_Value_v0 n c
 unfold mayM
 simp only [pick_may,hN,hV,bindN_s,ieq_eq,seq_eq,eqbl,empty_bl]
 by_cases h0:nameL (bl b)=true
 ·by_cases h1:a=1
  ·subst h1;simp [h0]
  ·by_cases h2:a=2
   ·subst h2;simp [h0]
   ·by_cases h3:a=3
    ·subst h3
     by_cases h4:bl c=[]<;>simp [h0,h4]
    ·by_cases h4:a=4
     ·subst h4;simp [h0];congr
     ·simp [h0,h1,h2,h3,h4]
 ·simp [h0]
theorem find_loop' {α E R:Type} {a:List α} (p:α→Bool) (e:E) (mk:Int→R) {L:Nat→Int→Option (E ⊕ R)} (hend:∀ g,L (g+1) (a.length:Int)=some (.inl e))
  (hstep:∀ g i (h1:i<a.length),L (g+1) (i:Int)=bif p a[i] then some (.inr (mk (i:Int))) else L g ((i+1:Nat):Int)) {g:Nat} (hg:a.length<g) :
  L g (0:Int)=some (match a.findIdx? p with|some q => .inr (mk (q:Int))|none => .inl e):=by
 have:=up_loop (L:=L) (m:=a.length) (spec:=fun i=>match (a.drop i).findIdx? p with|some q => .inr (mk ((i+q:Nat):Int))|none => .inl e) (fun g=>by
  rw [hend g];simp) (fun g i hi ih=>by
  rw [hstep g i hi,ih,drop_eq hi,List.findIdx?_cons]
  cases p a[i] with
  | true=>simp
  | false =>
   simp only [cond_false,Bool.false_eq_true,if_false]
   cases (a.drop (i+1)).findIdx? p with
   | none=>rfl
   | some q=>simp only [Option.map_some];rw [show i+(q+1)=i+1+q by omega]) a.length 0 g (by omega) hg
 simpa using this
@[simp] theorem bindL_idU {ω:Type} (X:Option ((Unit×Unit) ⊕ (Unit×ω))):bindL X (fun _=>some (Sum.inl ((),()))) (fun b=>some (Sum.inr ((),b.2)))=X:=by
 rcases X with _|⟨⟨⟩,⟨⟩⟩|⟨⟨⟩,_⟩<;>simp
theorem pick_Right_v {n:Nat} (hn:Big n) (l:List MT) (hl:l.length≤1000000):pick_Right n (l,())=some ((rightM l,()),((),())):=by
 have hL:=find_loop' (a:=l) (fun t => !mayM t) ((),()) (fun i=>((),i,())) (L:=fun g i=>sl_IndexMatch_l0 n g (l,(),(l.length:Int),i,())) (fun g=>by simp [sl_IndexMatch_l0]) (fun g i hi=>by
  have k:(i:Int)<(l.length:Int):=by omega
  have k0:(0:Int)≤i:=by omega
  simp only [sl_IndexMatch_l0,ilt_eq,ile_eq,k,k0,decide_true,cond_true,lat_eq,iN,Int.toNat_natCast,List.getElem?_eq_getElem hi,bindN_s,pick_Right1,pick_may_v n l[i],iadd1 (i:=i) (by omega),bindL_idU]) (g:=n) (by unfold Big at hn;omega)
 have e4:decide ((l.length:Int)≤4)=decide (l.length≤4):=by rw [decide_eq_decide];omega
 unfold pick_Right sl_ContainsMatch sl_IndexMatch rightM
 simp only [ile_eq,ilen,hL,e4]
 cases decide (l.length≤4) with
 | false=>simp
 | true =>
  have ha:=all_any l mayM
  rcases idx_any (fun t => !mayM t) l with ⟨h1,h2⟩|⟨q,h1,h2⟩
  ·rw [h2] at ha
   have ha':l.all mayM=true:=by simpa using ha.symm
   simp [h1,ha']
  ·rw [h2] at ha
   have ha':l.all mayM=false:=by simpa using ha.symm
   have:(0:Int)≤q:=by omega
   simp [h1,ha',this]
theorem hasPrefix_v (n:Nat) (v p:ByteArray):s_HasPrefix n (v,p,())=some ((prefixB v p,()),((),(),())):=by
 have z1:=size_bl p
 have z2:=size_bl v
 unfold s_HasPrefix s_slHasPrefix prefixB
 by_cases h5:p.size≤v.size
 ·have h5':(p.size:Int)≤v.size:=by omega
  have h6:(0:Int)≤p.size:=by omega
  have e:bl (v.extract 0 p.size)=(bl v).take (bl p).length:=by rw [bl_extract,z1];simp
  simp only [ile_eq,ssize_eq,h5',h6,decide_true,cond_true,Int.le_refl,sext_eq,seq_eq,eqbl,show (0:Int).toNat=0 from rfl,Int.toNat_natCast,e,bindN_s]
 ·have h5':¬ (p.size:Int)≤v.size:=by omega
  have e:¬ (bl v).take (bl p).length=bl p:=fun h=>by
   have:=congrArg List.length h
   rw [List.length_take] at this;omega
  simp only [ile_eq,ssize_eq,h5',decide_false,cond_false,bindN_s,e]
theorem pick_fits_v {n:Nat} (hn:Big n) (tags:List TG) (m:MT) (ht:tags.length≤100000000):pick_fits n ((m,()),tags,())=some ((fitM tags m,()),((),(),())):=by
 obtain ⟨a,b,c,⟨⟩⟩:=m
 have hF:=tag_Find_v hn tags b ht
 have hP:=hasPrefix_v n (findT tags b).1 c
 unfold fitM
 simp only [pick_fits,hF,hP,bindN_s,ieq_eq,seq_eq,eqbl]
 by_cases h1:a=1
 ·subst h1;cases (findT tags b).2<;>simp
 ·by_cases h2:a=2
  ·subst h2;cases (findT tags b).2<;>simp
  ·by_cases h3:a=3
   ·subst h3;cases (findT tags b).2<;>simp
   ·by_cases h4:a=4
    ·subst h4;simp
    ·simp [h1,h2,h3,h4]
theorem pick_Fits_v {n:Nat} (hn:Big n) (tags:List TG) (l:List MT) (ht:tags.length≤100000000) (hl:l.length≤1000000):pick_Fits n (tags,l,())=some ((fitsM tags l,()),((),(),())):=by
 have hL:=find_loop' (a:=l) (fun t => !fitM tags t) ((tags,()),()) (fun i=>((tags,()),i,())) (L:=fun g i=>sl_IndexMatchF_l0 n g (l,(tags,()),(l.length:Int),i,())) (fun g=>by simp [sl_IndexMatchF_l0]) (fun g i hi=>by
  have k:(i:Int)<(l.length:Int):=by omega
  have k0:(0:Int)≤i:=by omega
  simp only [sl_IndexMatchF_l0,ilt_eq,ile_eq,k,k0,decide_true,cond_true,lat_eq,iN,Int.toNat_natCast,List.getElem?_eq_getElem hi,bindN_s,pick_Fits1,pick_fits_v hn tags l[i] ht,iadd1 (i:=i) (by omega),bindL_id1]) (g:=n) (by unfold Big at hn;omega)
 unfold pick_Fits sl_ContainsMatchF sl_IndexMatchF fitsM
 simp only [ilen,hL]
 have ha:=all_any l (fitM tags)
 rcases idx_any (fun t => !fitM tags t) l with ⟨h1,h2⟩|⟨q,h1,h2⟩
 ·rw [h2] at ha
  have ha':l.all (fitM tags)=true:=by simpa using ha.symm
  simp [h1,ha']
 ·rw [h2] at ha
  have ha':l.all (fitM tags)=false:=by simpa using ha.symm
  have:(0:Int)≤q:=by omega
  simp [h1,ha',this]
theorem query_agg_v (n:Nat) (s:ByteArray):query_agg n (s,())=some ((aggN s,()),((),())):=by
 unfold aggN
 simp only [query_agg,seq_eq,eqbl]
 rw [show bl (⟨#[99,111,117,110,116]⟩:ByteArray)=[99,111,117,110,116] from rfl,show bl (⟨#[115,117,109]⟩:ByteArray)=[115,117,109] from rfl,show bl (⟨#[109,105,110]⟩:ByteArray)=[109,105,110] from rfl,show bl (⟨#[109,97,120]⟩:ByteArray)=[109,97,120] from rfl]
 by_cases h1:bl s=[99,111,117,110,116]
 ·simp [h1]
 ·by_cases h2:bl s=[115,117,109]
  ·simp [h2]
  ·by_cases h3:bl s=[109,105,110]
   ·simp [h3]
   ·by_cases h4:bl s=[109,97,120]<;>simp [h1,h2,h3,h4]
theorem query_name_v {n:Nat} (hn:Big n) (k:Int):query_name n (k,())=some ((nameN k,()),((),())):=by
 obtain ⟨g,rfl⟩:∃ g,n=g+5:=⟨n - 5,by unfold Big at hn;omega⟩
 have a1:=query_agg_v (g+5) (⟨#[99,111,117,110,116]⟩:ByteArray)
 have a2:=query_agg_v (g+5) (⟨#[115,117,109]⟩:ByteArray)
 have a3:=query_agg_v (g+5) (⟨#[109,105,110]⟩:ByteArray)
 have a4:=query_agg_v (g+5) (⟨#[109,97,120]⟩:ByteArray)
 rw [show aggN (⟨#[99,111,117,110,116]⟩:ByteArray)=1 from rfl] at a1
 rw [show aggN (⟨#[115,117,109]⟩:ByteArray)=2 from rfl] at a2
 rw [show aggN (⟨#[109,105,110]⟩:ByteArray)=3 from rfl] at a3
 rw [show aggN (⟨#[109,97,120]⟩:ByteArray)=4 from rfl] at a4
 have i1:iadd .i64 0 1=1:=by decide+kernel
 have i2:iadd .i64 1 1=2:=by decide+kernel
 have i3:iadd .i64 2 1=3:=by decide+kernel
 have i4:iadd .i64 3 1=4:=by decide+kernel
 have c1:decide ((0:Int)<4)=true:=rfl
 have c2:decide ((1:Int)<4)=true:=rfl
 have c3:decide ((2:Int)<4)=true:=rfl
 have c4:decide ((3:Int)<4)=true:=rfl
 have c5:decide ((4:Int)<4)=false:=rfl
 have d1:decide ((0:Int)≤0)=true:=rfl
 have d2:decide ((0:Int)≤1)=true:=rfl
 have d3:decide ((0:Int)≤2)=true:=rfl
 have d4:decide ((0:Int)≤3)=true:=rfl
 generalize hW:[(⟨#[99,111,117,110,116]⟩:ByteArray),(⟨#[115,117,109]⟩:ByteArray),(⟨#[109,105,110]⟩:ByteArray),(⟨#[109,97,120]⟩:ByteArray)]=W
 have w1:lat W (iN (0:Int))=some (⟨#[99,111,117,110,116]⟩:ByteArray):=by rw [← hW,lat_eq];rfl
 have w2:lat W (iN (1:Int))=some (⟨#[115,117,109]⟩:ByteArray):=by rw [← hW,lat_eq];rfl
 have w3:lat W (iN (2:Int))=some (⟨#[109,105,110]⟩:ByteArray):=by rw [← hW,lat_eq];rfl
 have w4:lat W (iN (3:Int))=some (⟨#[109,97,120]⟩:ByteArray):=by rw [← hW,lat_eq];rfl
 have wl:ilen W=4:=by rw [← hW];rfl
 unfold nameN query_name
 rw [hW,wl]
 simp only [query_name_l0,ilt_eq,ile_eq,ieq_eq,i1,i2,i3,i4,c1,c2,c3,c4,c5,d1,d2,d3,d4,w1,w2,w3,w4,cond_true,cond_false,bindN_s,a1,a2,a3,a4,bindL_id]
 by_cases h1:k=1
 ·subst h1;simp;rfl
 ·by_cases h2:k=2
  ·subst h2;simp;rfl
  ·by_cases h3:k=3
   ·subst h3;simp;rfl
   ·by_cases h4:k=4
    ·subst h4;simp;rfl
    ·have g1:¬ (1:Int)=k:=fun e=>h1 e.symm
     have g2:¬ (2:Int)=k:=fun e=>h2 e.symm
     have g3:¬ (3:Int)=k:=fun e=>h3 e.symm
     have g4:¬ (4:Int)=k:=fun e=>h4 e.symm
     simp [g1,g2,g3,g4,h1,h2,h3,h4]
theorem texts_nodup (l:List ByteArray):(qn.texts l).Nodup↔l.Nodup:=by
 have e:qn.texts l=l.map bl:=rfl
 rw [e,List.Nodup,List.pairwise_map,List.Nodup]
 constructor
 ·exact fun h=>h.imp fun hab e=>hab (by rw [e])
 ·exact fun h=>h.imp fun hab e=>hab (bl_inj e)
theorem sl_ContainsStrF_v {n:Nat} (hn:Big n) (l:List ByteArray) (hl:l.length≤1000000):sl_ContainsStrF n (l,(),())=some ((!l.all nameB,()),((),(),())):=by
 have hL:=find_loop (a:=l) (fun t => !nameB t) (L:=fun g i=>sl_IndexStrF_l0 n g (l,(),(l.length:Int),i,())) (fun g=>by simp [sl_IndexStrF_l0]) (fun g i hi=>by
  have k:(i:Int)<(l.length:Int):=by omega
  have k0:(0:Int)≤i:=by omega
  have hN:=word_Name_v0 n l[i]
  rw [show nameL (bl l[i])=nameB l[i] from rfl] at hN
  simp only [sl_IndexStrF_l0,ilt_eq,ile_eq,k,k0,decide_true,cond_true,lat_eq,iN,Int.toNat_natCast,List.getElem?_eq_getElem hi,bindN_s,query_names1,hN,iadd1 (i:=i) (by omega),bindL_id]) (g:=n) (by unfold Big at hn;omega)
 unfold sl_ContainsStrF sl_IndexStrF
 simp only [ilen,hL,← all_any]
 rcases idx_any (fun t => !nameB t) l with ⟨h1,h2⟩|⟨q,h1,h2⟩
 ·simp [h1,h2]
 ·have:(0:Int)≤q:=by omega
  simp [h1,h2,this]
theorem query_names_v {n:Nat} (hn:Big n) (l:List ByteArray) (hl:l.length≤1000000):query_names n (l,())=some ((namesS l,()),((),())):=by
 have hC:=sl_ContainsStrF_v hn l hl
 have e1:Nat.ble l.length 1000000000=true:=by rw [Nat.ble_eq];omega
 unfold query_names namesS
 simp only [e1,cond_true,hC,bindN_s]
 cases l.all nameB with
 | false=>simp
 | true =>
  have e4:Nat.blt 4 l.length=decide (4<l.length):=by
   rw [Bool.eq_iff_iff,decide_eq_true_eq,Nat.blt_eq]
  simp only [Bool.not_true,cond_false,e4,if_true]
  by_cases h4:4<l.length
  ·simp [h4]
  ·simp only [h4,decide_false,cond_false,if_false]
   have hd:=dupL_iff (qn.texts l)
   rw [texts_nodup] at hd
   by_cases h5:l.Nodup
   ·have:dupL (qn.texts l)=false:=by
     cases hq:dupL (qn.texts l) with
     | false=>rfl
     | true=>exact absurd h5 (hd.1 hq)
    simp [this,h5]
   ·simp [hd.2 h5,h5]
theorem agg_no {a:Int} (h:¬ (1≤a∧a≤4)):(decide (1≤a) && decide (a≤4))=false:=by
 rw [Bool.and_eq_false_iff,decide_eq_false_iff_not,decide_eq_false_iff_not];omega
theorem query_Right_v {n:Nat} (hn:Big n) (q:El tQuery) (hm:q.2.2.1.length≤1000000) (hb:q.2.2.2.1.length≤1000000):query_Right n (q,())=some ((rightQ q.1 q.2.1 q.2.2.1 q.2.2.2.1,()),((),())):=by
 obtain ⟨a,nm,m,b,⟨⟩⟩:=q
 have hA:=query_name_v hn a
 have hN:=word_Name_v0 n nm
 have hR:=pick_Right_v hn m hm
 have hS:=query_names_v hn b hb
 have e:=nameN_nil a
 simp only [query_Right,hA,hN,hR,hS,bindN_s,seq_eq,bl_nil,ieq_eq]
 unfold rightQ
 by_cases h1:1≤a∧a≤4
 ·have e1:¬ bl (nameN a)=[]:=fun h=>(e.1 h) h1
  cases nameL (bl nm) with
  | false=>simp [e1,h1]
  | true=>cases rightM m<;>simp [e1,h1]
 ·have e1:bl (nameN a)=[]:=e.2 h1
  have e2:(decide (1≤a) && decide (a≤4))=false:=agg_no h1
  simp [e1,e2]
theorem query_Fits_v {n:Nat} (hn:Big n) (q:El tQuery) (k:El tKey) (ht:k.2.1.length≤100000000) (hl:q.2.2.1.length≤1000000):query_Fits n (q,k,())=some ((fitsQ q.2.1 q.2.2.1 k.1 k.2.1,()),((),(),())):=by
 have hF:=pick_Fits_v hn k.2.1 q.2.2.1 ht hl
 simp only [query_Fits,hF,bindN_s,seq_eq]
 unfold fitsQ
 by_cases h:k.1=q.2.1<;>simp [h]
theorem query_Group_v {n:Nat} (hn:Big n) (q:El tQuery) (k:El tKey) (hf:Fit k.2.1) (hb:q.2.2.2.1.length≤1000000):query_Group n (q,k,())=some ((groupQ q.2.2.2.1 k.2.1,()),((),(),())):=by
 have hO:=tag_Only_v hn k.2.1 q.2.2.2.1 (Nat.le_trans hf.1 (by decide)) hb
 have hT:=tag_Text_v hn (onlyT k.2.1 q.2.2.2.1) (only_fit hf)
 have hO':tag_Only n (k.2.1,q.2.2.2)=some ((onlyT k.2.1 q.2.2.2.1,()),((),(),())):=hO
 simp only [query_Group,hO',bindN_s,hT]
 rfl
end Go.Proofs.YtdcphpbimeoioaaGreatDoorE
end
section
set_option linter.unusedSectionVars false
namespace Go.Proofs.YtdcphpbimeoioaaGreatDoorE
open Go Go.Proofs
set_option linter.unusedVariables false
set_option linter.unusedSimpArgs false
section
variable {α:Type} {lt:α→α→Bool}
def eqv (lt:α→α→Bool) (z x:α):Bool := !lt z x && !lt x z
def Srt (lt:α→α→Bool) (l:List α):Prop:=l.Pairwise fun x y=>lt y x=false
def Stb (lt:α→α→Bool) (r l:List α):Prop:=∀ z,r.filter (eqv lt z)=l.filter (eqv lt z)
theorem eqv_self (h:Go.Sort.SWO lt) (x:α):eqv lt x x=true:=by simp [eqv,h.irrefl]
theorem Stb.refl (l:List α):Stb lt l l:=fun _=>rfl
theorem Stb.trans {a b c:List α} (h:Stb lt a b) (h':Stb lt b c):Stb lt a c:=fun z=>(h z).trans (h' z)
theorem Stb.symm {a b:List α} (h:Stb lt a b):Stb lt b a:=fun z=>(h z).symm
theorem Stb.app {a b c d:List α} (h:Stb lt a b) (h':Stb lt c d):Stb lt (a++c) (b++d):=fun z=>by rw [List.filter_append,List.filter_append,h z,h' z]
theorem Stb.mem (hS:Go.Sort.SWO lt) {r l:List α} (h:Stb lt r l) (x:α):x∈r↔x∈l:=by
 have e:=eqv_self hS x
 have h1:x∈r↔x∈r.filter (eqv lt x):=by rw [List.mem_filter];simp [e]
 have h2:x∈l↔x∈l.filter (eqv lt x):=by rw [List.mem_filter];simp [e]
 rw [h1,h2,h x]
theorem srt_app {a b:List α}:Srt lt (a++b)↔Srt lt a∧Srt lt b∧∀ x∈a,∀ y∈b,lt y x=false:=List.pairwise_append
theorem srt_cons {a:α} {b:List α}:Srt lt (a ::b)↔(∀ y∈b,lt y a=false)∧Srt lt b:=List.pairwise_cons
theorem stb_unique (hS:Go.Sort.SWO lt):∀ {r r':List α},Srt lt r→Srt lt r'→Stb lt r r'→r=r'
 | [],[],_,_,_=>rfl
 | [],y ::r',_,_,h=>by have:=(h.mem hS y).2 List.mem_cons_self;simp at this
 | x ::r,[],_,_,h=>by have:=(h.mem hS x).1 List.mem_cons_self;simp at this
 | x ::r,y ::r',h1,h2,h=>by
  have k1:=srt_cons.1 h1
  have k2:=srt_cons.1 h2
  have e1:lt x y=false:=by
   rcases List.mem_cons.1 ((h.mem hS x).1 List.mem_cons_self) with q|q
   ·rw [q];exact hS.irrefl y
   ·exact k2.1 x q
  have e2:lt y x=false:=by
   rcases List.mem_cons.1 ((h.mem hS y).2 List.mem_cons_self) with q|q
   ·rw [q];exact hS.irrefl x
   ·exact k1.1 y q
  have e3:eqv lt x y=true:=by simp [eqv,e1,e2]
  have e4:=h x
  rw [List.filter_cons_of_pos (by simpa using eqv_self hS x),List.filter_cons_of_pos (by simpa using e3)] at e4
  have exy:x=y:=(List.cons.inj e4).1
  subst exy
  refine congrArg _ (stb_unique hS k1.2 k2.2 fun z=>?_)
  have e5:=h z
  rw [List.filter_cons,List.filter_cons] at e5
  split at e5
  ·exact (List.cons.inj e5).2
  ·exact e5
theorem stb_swap (hS:Go.Sort.SWO lt) {X Y:List α} (h:∀ x∈X,∀ y∈Y,lt y x=true):Stb lt (Y++X) (X++Y):=by
 intro z
 rw [List.filter_append,List.filter_append]
 by_cases hx:X.filter (eqv lt z)=[]
 ·rw [hx];simp
 ·have hy:Y.filter (eqv lt z)=[]:=by
   rw [List.filter_eq_nil_iff]
   intro y hy hz
   obtain ⟨x,hx'⟩:=List.exists_mem_of_ne_nil _ hx
   rw [List.mem_filter] at hx'
   have h1:=h x hx'.1 y hy
   simp only [eqv,Bool.and_eq_true,Bool.not_eq_true'] at hz hx'
   have:=hS.ntrans y z x hz.2 hx'.2.1
   rw [this] at h1;cases h1
  rw [hy];simp
def insS (lt:α→α→Bool) (x:α) (l:List α):List α:=l.takeWhile (fun y => !lt x y)++x ::l.dropWhile (fun y => !lt x y)
theorem dw_all (hS:Go.Sort.SWO lt) (x:α):∀ {l:List α},Srt lt l→∀ y∈l.dropWhile (fun y => !lt x y),lt x y=true
 | [],_,y,h=>by simp at h
 | a ::l,hs,y,h=>by
  have k:=srt_cons.1 hs
  cases ha:lt x a with
  | false=>rw [List.dropWhile_cons_of_pos (by simp [ha])] at h;exact dw_all hS x k.2 y h
  | true =>
   rw [List.dropWhile_cons_of_neg (by simp [ha])] at h
   rcases List.mem_cons.1 h with q|q
   ·rw [q];exact ha
   ·cases hxy:lt x y with
    | true=>rfl
    | false =>
     have:=hS.ntrans x y a hxy (k.1 y q)
     rw [this] at ha;cases ha
theorem tw_all' (p:α→Bool):∀ (l:List α),∀ x∈l.takeWhile p,p x=true
 | [],x,h=>by simp at h
 | a ::l,x,h=>by
  cases ha:p a with
  | true =>
   rw [List.takeWhile_cons_of_pos ha] at h
   rcases List.mem_cons.1 h with q|q
   ·rw [q];exact ha
   ·exact tw_all' p l x q
  | false=>rw [List.takeWhile_cons_of_neg (by simp [ha])] at h;simp at h
theorem insS_ok (hS:Go.Sort.SWO lt) (x:α) {l:List α} (hs:Srt lt l):Srt lt (insS lt x l)∧Stb lt (insS lt x l) (l++[x]):=by
 have hsp:=List.takeWhile_append_dropWhile (p:=fun y => !lt x y) (l:=l)
 have h1:=tw_all' (fun y => !lt x y) l
 have h2:=dw_all hS x hs
 unfold insS
 generalize l.takeWhile (fun y => !lt x y)=p at *
 generalize l.dropWhile (fun y => !lt x y)=d at *
 rw [← hsp] at hs
 have hs':=srt_app.1 hs
 have asym:∀ {a b:α},lt a b=true→lt b a=false:=fun {a b} h=>by
  cases h':lt b a with
  | false=>rfl
  | true=>have:=hS.trans _ _ _ h h';rw [hS.irrefl] at this;cases this
 constructor
 ·rw [srt_app,srt_cons]
  refine ⟨hs'.1,⟨fun y hy=>asym (h2 y hy),hs'.2.1⟩,fun a ha b hb=>?_⟩
  rcases List.mem_cons.1 hb with q|q
  ·rw [q];simpa using h1 a ha
  ·exact hs'.2.2 a ha b q
 ·have e:Stb lt ([x]++d) (d++[x]):=stb_swap hS (X:=d) (Y:=[x]) (fun a ha y hy=>by simp at hy;subst hy;exact h2 a ha)
  have:=(Stb.refl p).app e
  rw [← hsp]
  simpa using this
def stableS (lt:α→α→Bool) (l:List α):List α:=l.foldl (fun acc x=>insS lt x acc) []
theorem stable_fold (hS:Go.Sort.SWO lt):∀ (l acc:List α),Srt lt acc→Srt lt (l.foldl (fun acc x=>insS lt x acc) acc)∧Stb lt (l.foldl (fun acc x=>insS lt x acc) acc) (acc++l)
 | [],acc,h=>⟨h,by simpa using Stb.refl acc⟩
 | x ::l,acc,h=>by
  obtain ⟨h1,h2⟩:=insS_ok hS x h
  obtain ⟨h3,h4⟩:=stable_fold hS l _ h1
  refine ⟨h3,h4.trans ?_⟩
  have:=h2.app (Stb.refl (lt:=lt) l)
  simpa using this
theorem stableS_ok (hS:Go.Sort.SWO lt) (l:List α):Srt lt (stableS lt l)∧Stb lt (stableS lt l) l:=by
 have h:=stable_fold hS l [] List.Pairwise.nil
 rw [List.nil_append] at h
 exact h
theorem stable_eq (hS:Go.Sort.SWO lt) {r l:List α} (h1:Srt lt r) (h2:Stb lt r l):r=stableS lt l :=
 stb_unique hS h1 (stableS_ok hS l).1 (h2.trans (stableS_ok hS l).2.symm)
theorem merge_cut (hS:Go.Sort.SWO lt) {A1 A2 B1 B2 L R:List α} (hA:Srt lt (A1++A2)) (hB:Srt lt (B1++B2)) (h1:∀ x∈A2,∀ y∈B1,lt y x=true) (h2:∀ x∈A1,∀ y∈B2,lt y x=false)
  (hL:Srt lt L) (sL:Stb lt L (A1++B1)) (hR:Srt lt R) (sR:Stb lt R (A2++B2)):Srt lt (L++R)∧Stb lt (L++R) ((A1++A2)++(B1++B2)):=by
 have a:=srt_app.1 hA
 have b:=srt_app.1 hB
 have asym:∀ {a b:α},lt a b=true→lt b a=false:=fun {a b} h=>by
  cases h':lt b a with
  | false=>rfl
  | true=>have:=hS.trans _ _ _ h h';rw [hS.irrefl] at this;cases this
 constructor
 ·rw [srt_app]
  refine ⟨hL,hR,fun x hx y hy=>?_⟩
  rcases List.mem_append.1 ((sL.mem hS x).1 hx) with p|p<;>rcases List.mem_append.1 ((sR.mem hS y).1 hy) with q|q
  ·exact a.2.2 x p y q
  ·exact h2 x p y q
  ·exact asym (h1 y q x p)
  ·exact b.2.2 x p y q
 ·have e1:=sL.app sR
  have e2:Stb lt ((A1++B1)++(A2++B2)) ((A1++A2)++(B1++B2)):=by
   have m:Stb lt (B1++A2) (A2++B1):=stb_swap hS (X:=A2) (Y:=B1) h1
   have:=((Stb.refl (lt:=lt) A1).app m).app (Stb.refl (lt:=lt) B2)
   simpa using this
  exact e1.trans e2
end
end Go.Proofs.YtdcphpbimeoioaaGreatDoorE
end
section
set_option linter.unusedSectionVars false
namespace Go.Proofs.YtdcphpbimeoioaaGreatDoorE
open Go Go.Proofs
set_option linter.unusedVariables false
set_option linter.unusedSimpArgs false
abbrev CL:=El tCell
abbrev IT:=El tItem
abbrev RW':=El tRow
def CellFit (c:CL):Prop:=I64 c.1∧I64 c.2.1.1∧I64 c.2.2.1∧I64 c.2.2.2.1
def addS (a b:SM):SM:=bif a.2.1 then a else bif b.2.1 then b else if 9223372036854775807<a.1+b.1 then (9223372036854775807,true,()) else if a.1+b.1 < -9223372036854775808 then (-9223372036854775808,true,()) else (a.1+b.1,false,())
theorem addS_fit {a b:SM} (ha:I64 a.1) (hb:I64 b.1):I64 (addS a b).1:=by
 unfold addS
 cases a.2.1 with
 | true=>exact ha
 | false =>
  cases b.2.1 with
  | true=>exact hb
  | false =>
   simp only [cond_false]
   split
   ·exact ⟨by decide,by decide⟩
   ·split
    ·exact ⟨by decide,by decide⟩
    ·rename_i q1 q2
     exact ⟨Int.not_lt.1 q2,Int.not_lt.1 q1⟩
theorem addI (n:Nat) (x y:Int) (o p:Bool) (hx:I64 x) (hy:I64 y):r01_Add n ((x,o,()),(y,p,()),())=some ((addS (x,o,()) (y,p,()),()),((),(),())):=by
 obtain ⟨hx1,hx2⟩:=hx
 obtain ⟨hy1,hy2⟩:=hy
 unfold addS
 cases o with
 | true=>simp [r01_Add]
 | false =>
  cases p with
  | true=>simp [r01_Add]
  | false =>
   simp only [r01_Add,cond_false,ilt_eq]
   by_cases h1:0<x
   ·have h1':¬ x<0:=by omega
    have e1:isub .i64 9223372036854775807 x=9223372036854775807 - x:=isub64 (by omega) (by omega)
    by_cases h2:9223372036854775807 - x<y
    ·have h2':9223372036854775807<x+y:=by omega
     simp only [h1,e1,h2,h2',decide_true,cond_true,if_true]
    ·have h2':¬ 9223372036854775807<x+y:=by omega
     have h3:¬ x+y < -9223372036854775808:=by omega
     have e2:iadd .i64 x y=x+y:=iadd64 (by omega) (by omega)
     simp only [h1,h1',e1,e2,h2,h2',h3,decide_true,decide_false,cond_true,cond_false,if_false]
   ·by_cases h1':x<0
    ·have e1:isub .i64 (-9223372036854775808) x = -9223372036854775808 - x:=isub64 (by omega) (by omega)
     have h2':¬ 9223372036854775807<x+y:=by omega
     by_cases h2:y < -9223372036854775808 - x
     ·have h3:x+y < -9223372036854775808:=by omega
      simp only [h1,h1',e1,h2,h2',h3,decide_true,decide_false,cond_true,cond_false,if_true,if_false]
     ·have h3:¬ x+y < -9223372036854775808:=by omega
      have e2:iadd .i64 x y=x+y:=iadd64 (by omega) (by omega)
      simp only [h1,h1',e1,e2,h2,h2',h3,decide_true,decide_false,cond_true,cond_false,if_false]
    ·have h2':¬ 9223372036854775807<x+y:=by omega
     have h3:¬ x+y < -9223372036854775808:=by omega
     have e2:iadd .i64 x y=x+y:=iadd64 (by omega) (by omega)
     simp only [h1,h1',e2,h2',h3,decide_false,cond_false,if_false]
theorem r01_Add_v (n:Nat) (a b:SM) (ha:I64 a.1) (hb:I64 b.1):r01_Add n (a,b,())=some ((addS a b,()),((),(),())):=addI n a.1 b.1 a.2.1 b.2.1 ha hb
theorem cnt_fit {x y:Int} (hx:I64 x) (hy:I64 y) (h1:¬ y<1) (h2:¬ x<1):I64 (if 9223372036854775807 - y<x then 9223372036854775807 else x+y):=by
 obtain ⟨_,_⟩:=hx
 obtain ⟨_,_⟩:=hy
 split
 ·exact ⟨by decide,by decide⟩
 ·exact ⟨by omega,by omega⟩
theorem cnt_pos {x y:Int} (hx:1≤x) (hy:¬ y<1):1≤(if 9223372036854775807 - y<x then 9223372036854775807 else x+y):=by
 split
 ·decide
 ·omega
def twoC (a b:CL):CL:=if b.1<1 then a else if a.1<1 then b else
 (if 9223372036854775807 - b.1<a.1 then 9223372036854775807 else a.1+b.1,addS a.2.1 b.2.1,if b.2.2.1<a.2.2.1 then b.2.2.1 else a.2.2.1,if a.2.2.2.1<b.2.2.2.1 then b.2.2.2.1 else a.2.2.2.1,())
theorem twoC_fit {a b:CL} (ha:CellFit a) (hb:CellFit b):CellFit (twoC a b):=by
 unfold twoC
 by_cases h1:b.1<1
 ·rw [if_pos h1];exact ha
 ·rw [if_neg h1]
  by_cases h2:a.1<1
  ·rw [if_pos h2];exact hb
  ·rw [if_neg h2]
   obtain ⟨⟨p1,p2⟩,p3,p4,p5⟩:=ha
   obtain ⟨⟨q1,q2⟩,q3,q4,q5⟩:=hb
   refine ⟨?_,addS_fit p3 q3,?_,?_⟩
   ·exact cnt_fit ⟨p1,p2⟩ ⟨q1,q2⟩ h1 h2
   ·show I64 (if b.2.2.1<a.2.2.1 then b.2.2.1 else a.2.2.1)
    split<;>assumption
   ·show I64 (if a.2.2.2.1<b.2.2.2.1 then b.2.2.2.1 else a.2.2.2.1)
    split<;>assumption
theorem twoC_pos {a b:CL} (ha:1≤a.1):1≤(twoC a b).1:=by
 unfold twoC
 by_cases h1:b.1<1
 ·rw [if_pos h1];exact ha
 ·rw [if_neg h1,if_neg (Int.not_lt.2 ha)]
  exact cnt_pos ha h1
theorem subM {d:Int} (q1 : -9223372036854775808≤d) (q2:d≤9223372036854775807) (h:¬ d<1):isub .i64 9223372036854775807 d=9223372036854775807 - d:=isub64 (by omega) (by omega)
theorem addM {c d:Int} (p2:c≤9223372036854775807) (q2:d≤9223372036854775807) (h1:¬ d<1) (h2:¬ c<1) (h3:¬ 9223372036854775807 - d<c):iadd .i64 c d=c+d:=iadd64 (by omega) (by omega)
theorem r06_Two_v (n:Nat) (a b:CL) (ha:CellFit a) (hb:CellFit b):r06_Two n (a,b,())=some ((twoC a b,()),((),(),())):=by
 have hA:=r01_Add_v n a.2.1 b.2.1 ha.2.1 hb.2.1
 obtain ⟨c,s,mn,mx,⟨⟩⟩:=a
 obtain ⟨d,t,mn',mx',⟨⟩⟩:=b
 obtain ⟨⟨p1,p2⟩,_,_,_⟩:=ha
 obtain ⟨⟨q1,q2⟩,_,_,_⟩:=hb
 simp only at p1 p2 q1 q2 hA
 unfold twoC
 simp only [r06_Two,ilt_eq]
 by_cases h1:d<1
 ·simp only [h1,decide_true,cond_true,if_true]
 ·by_cases h2:c<1
  ·simp only [h1,h2,decide_true,decide_false,cond_true,cond_false,if_true,if_false]
  ·have e1:isub .i64 9223372036854775807 d=9223372036854775807 - d:=subM q1 q2 h1
   simp only [h1,h2,decide_false,cond_false,if_false,e1,hA,bindN_s]
   by_cases h3:9223372036854775807 - d<c
   ·simp only [h3,decide_true,cond_true,if_true]
    by_cases h4:mn'<mn<;>by_cases h5:mx<mx'<;>simp only [h4,h5,decide_true,decide_false,cond_true,cond_false,if_true,if_false]
   ·have e2:iadd .i64 c d=c+d:=addM p2 q2 h1 h2 h3
    simp only [h3,decide_false,cond_false,if_false,e2]
    by_cases h4:mn'<mn<;>by_cases h5:mx<mx'<;>simp only [h4,h5,decide_true,decide_false,cond_true,cond_false,if_true,if_false]
def valC (c:CL) (agg:Int):SM:=if agg=1 then (c.1,false,()) else if agg=2 then c.2.1 else if agg=3 then (c.2.2.1,false,()) else if agg=4 then (c.2.2.2.1,false,()) else (0,false,())
theorem r06_Value_v (n:Nat) (c:CL) (agg:Int):r06_Value n (c,agg,())=some ((valC c agg,()),((),(),())):=by
 unfold valC
 simp only [r06_Value,ieq_eq]
 by_cases h1:agg=1
 ·simp [h1]
 ·by_cases h2:agg=2
  ·simp [h2]
  ·by_cases h3:agg=3
   ·simp [h3]
   ·by_cases h4:agg=4
    ·simp [h4]
    ·simp [h1,h2,h3,h4]
def ltK (x y:IT):Bool:=Op.bytesLess (bl x.2.1) (bl y.2.1)
theorem le_text (a b:ByteArray):(Op.bytesLess (bl a) (bl b) || decide (a=b)) = !Op.bytesLess (bl b) (bl a):=by
 by_cases h:bl a=bl b
 ·rw [eqbl,decide_eq_true h,h,bl_irrefl];rfl
 ·rw [eqbl,decide_eq_false h,Bool.or_false]
  rcases bl_total _ _ h with h1|h1
  ·rw [h1,bl_asymm _ _ h1];rfl
  ·rw [h1,bl_asymm _ _ h1];rfl
def plK (x:IT) (l:List IT):Nat:=(l.takeWhile fun y => !ltK x y).length
theorem plK_le (x:IT) (l:List IT):plK x l≤l.length:=(List.takeWhile_sublist _).length_le
theorem insS_at (x:IT) (l:List IT):insS ltK x l=l.take (plK x l)++x ::l.drop (plK x l):=by
 unfold insS plK
 have h:=List.takeWhile_append_dropWhile (p:=fun y => !ltK x y) (l:=l)
 generalize hp:l.takeWhile (fun y => !ltK x y)=p at *
 generalize l.dropWhile (fun y => !ltK x y)=d at *
 subst h
 rw [List.take_left',List.drop_left']<;>rfl
theorem sorted_l1 (n:Nat) (l:List IT) (k:Nat) (hk:k<l.length) (hl:l.length≤100000000):∀ (d j g:Nat) (out:List IT),j+d=out.length→out.length≤100000000→d<g →
  r08_sorted_l1 n g (l,out,(k:Int),(j:Int),())=some (.inl (l,out,(k:Int),((j+plK l[k] (out.drop j):Nat):Int),()))
 | 0,j,g,out,hd,ho,hg=>by
  obtain ⟨g,rfl⟩:∃ g',g=g'+1:=⟨g - 1,by omega⟩
  have c:¬ (j:Int)<(out.length:Int):=by omega
  rw [List.drop_of_length_le (by omega)]
  simp [r08_sorted_l1,c,plK]
 | d+1,j,g,out,hd,ho,hg=>by
  obtain ⟨g,rfl⟩:∃ g',g=g'+1:=⟨g - 1,by omega⟩
  have hj:j<out.length:=by omega
  have c:(j:Int)<(out.length:Int):=by omega
  have c0:(0:Int)≤j:=by omega
  have c1:(0:Int)≤k:=by omega
  have ih:=sorted_l1 n l k hk hl d (j+1) g out (by omega) ho (by omega)
  have ht:=le_text out[j].2.1 l[k].2.1
  rw [drop_eq hj]
  simp only [r08_sorted_l1,ilt_eq,ile_eq,ilen,c,c0,c1,decide_true,cond_true,lat_eq,iN,Int.toNat_natCast,List.getElem?_eq_getElem hj,List.getElem?_eq_getElem hk,bindN_s,slt_eq,seq_eq,iadd1 (i:=j) (by omega),bindL_id2,ih]
  rw [show Op.bytesLess out[j].2.1.data.toList l[k].2.1.data.toList=Op.bytesLess (bl out[j].2.1) (bl l[k].2.1) from rfl,ht]
  unfold plK
  rw [List.takeWhile_cons]
  unfold ltK
  cases Op.bytesLess (bl l[k].2.1) (bl out[j].2.1) with
  | true=>simp
  | false =>
   simp only [Bool.not_false,cond_true,if_true,List.length_cons]
   rw [show ∀ m:Nat,j+1+m=j+(m+1) from fun m=>by omega]
theorem sorted_l0 {n:Nat} (hn:Big n) (l:List IT) (hl:l.length≤1000000):∀ (d i g:Nat) (out:List IT),i+d=l.length→out.length=i→d<g →
  r08_sorted_l0 n g (l,out,(i:Int),())=some (.inl ((l.drop i).foldl (fun acc x=>insS ltK x acc) out,()))
 | 0,i,g,out,hd,ho,hg=>by
  obtain ⟨g,rfl⟩:∃ g',g=g'+1:=⟨g - 1,by omega⟩
  have c:¬ (i:Int)<(l.length:Int):=by omega
  rw [List.drop_of_length_le (by omega)]
  simp [r08_sorted_l0,c]
 | d+1,i,g,out,hd,ho,hg=>by
  obtain ⟨g,rfl⟩:∃ g',g=g'+1:=⟨g - 1,by omega⟩
  have hi:i<l.length:=by omega
  have c:(i:Int)<(l.length:Int):=by omega
  have c0:(0:Int)≤i:=by omega
  have h1:=sorted_l1 n l i hi (by omega) out.length 0 n out (by omega) (by omega) (by unfold Big at hn;omega)
  rw [show ((0:Nat):Int)=0 from rfl,List.drop_zero,Nat.zero_add] at h1
  have hp:=plK_le l[i] out
  have hins:=insS_at l[i] out
  have ih:=sorted_l0 hn l hl d (i+1) g (insS ltK l[i] out) (by omega) (by rw [hins];simp;omega) (by omega)
  rw [hins] at ih
  generalize hq:plK l[i] out=q at h1 hp hins ih
  have k0:(0:Int)≤q:=by omega
  have k1:(q:Int)≤(out.length:Int):=by omega
  have r1:room (0+(out.length - q)) 64=true:=room_of (by omega)
  have r2:room (q+1) 64=true:=room_of (by omega)
  have r3:room (q+1+(out.length - q)) 64=true:=room_of (by omega)
  have e1:(out.take q).length=q:=by rw [List.length_take];omega
  have e2:(out.drop q).take (out.length - q)=out.drop q:=List.take_of_length_le (by rw [List.length_drop];omega)
  rw [drop_eq hi,List.foldl_cons,hins]
  simp only [r08_sorted_l0,ilt_eq,ile_eq,ilen,c,c0,decide_true,cond_true,h1,bindL_inl,k0,k1,Int.le_refl,roomA,win_eq,iN,Int.toNat_natCast,show (0:Int).toNat=0 from rfl,List.drop_zero,Nat.sub_zero,List.length_nil,e1,e2,List.length_drop,r1,List.length_singleton,lat_eq,List.getElem?_eq_getElem hi,bindN_s,app,List.length_append,List.nil_append,r2,r3,iadd1 (i:=i) (by omega),bindL_id2,List.append_assoc,List.singleton_append,ih]
theorem r08_sorted_v {n:Nat} (hn:Big n) (l:List IT) (hl:l.length≤1000000):r08_sorted n (l,())=some ((stableS ltK l,()),((),())):=by
 have h:=sorted_l0 hn l hl l.length 0 n [] (by omega) rfl (by unfold Big at hn;omega)
 rw [show ((0:Nat):Int)=0 from rfl,List.drop_zero] at h
 simp only [r08_sorted,h,bindL_inl]
 rfl
def befP (x y:IT):Bool:=decide (x.1<y.1) || (decide (x.1=y.1) && Op.bytesLess (bl x.2.1) (bl y.2.1))
def sameP (x y:IT):Bool:=decide (x.1=y.1) && decide (x.2.1=y.2.1)
def plP (x:IT) (l:List IT):Nat:=(l.takeWhile fun y=>befP y x).length
theorem plP_le (x:IT) (l:List IT):plP x l≤l.length:=(List.takeWhile_sublist _).length_le
def intoP (x:IT) (l:List IT):List IT :=
 match l[plP x l]? with
 | some y=>if sameP y x=true then l.set (plP x l) (y.1,y.2.1,twoC y.2.2.1 x.2.2.1,()) else l.take (plP x l)++x ::l.drop (plP x l)
 | none=>l.take (plP x l)++x ::l.drop (plP x l)
theorem intoP_len (x:IT) (l:List IT):(intoP x l).length≤l.length+1:=by
 have:=plP_le x l
 unfold intoP
 split
 ·split
  ·simp
  ·simp;omega
 ·simp;omega
theorem lsetS {α:Type}:∀ (xs:List α) (i:Nat) (y:α),lset xs i y=xs.set i y
 | [],_,_=>rfl
 | _ ::_,0,_=>rfl
 | x ::r,i+1,y=>by rw [lset,lsetS r i y];rfl
theorem lputS {α:Type} (xs:List α) (i:Nat) (y:α):lput xs i y=xs.set i y:=by unfold lput;exact lsetS xs i y
theorem into_l0 (n:Nat) (x:IT):∀ (d j g:Nat) (l:List IT),j+d=l.length→l.length≤100000000→d<g →
  r08_into_l0 n g (l,x,(j:Int),())=some (.inl (l,x,((j+plP x (l.drop j):Nat):Int),()))
 | 0,j,g,l,hd,ho,hg=>by
  obtain ⟨g,rfl⟩:∃ g',g=g'+1:=⟨g - 1,by omega⟩
  have c:¬ (j:Int)<(l.length:Int):=by omega
  rw [List.drop_of_length_le (by omega)]
  simp [r08_into_l0,c,plP]
 | d+1,j,g,l,hd,ho,hg=>by
  obtain ⟨g,rfl⟩:∃ g',g=g'+1:=⟨g - 1,by omega⟩
  have hj:j<l.length:=by omega
  have c:(j:Int)<(l.length:Int):=by omega
  have c0:(0:Int)≤j:=by omega
  have ih:=into_l0 n x d (j+1) g l (by omega) ho (by omega)
  rw [drop_eq hj]
  unfold plP
  rw [List.takeWhile_cons]
  simp only [r08_into_l0,ilt_eq,ile_eq,ieq_eq,ilen,c,c0,decide_true,cond_true,lat_eq,iN,Int.toNat_natCast,List.getElem?_eq_getElem hj,bindN_s,slt_eq,iadd1 (i:=j) (by omega),bindL_id2,ih]
  unfold befP plP
  rw [show Op.bytesLess l[j].2.1.data.toList x.2.1.data.toList=Op.bytesLess (bl l[j].2.1) (bl x.2.1) from rfl]
  have e:∀ m:Nat,j+1+m=j+(m+1):=fun m=>by omega
  by_cases h1:l[j].1<x.1
  ·simp only [h1,decide_true,cond_true,Bool.true_or,if_true,List.length_cons,e];rfl
  ·by_cases h2:l[j].1=x.1
   ·cases Op.bytesLess (bl l[j].2.1) (bl x.2.1) with
    | true =>
     have e1:decide (l[j].1<x.1)=false:=decide_eq_false h1
     have e2:decide (l[j].1=x.1)=true:=decide_eq_true h2
     simp only [e1,e2,cond_true,cond_false,Bool.false_or,Bool.true_and,if_true,List.length_cons,e];rfl
    | false=>simp [h1,h2]
   ·simp [h1,h2]
theorem r08_into_v {n:Nat} (hn:Big n) (l:List IT) (x:IT) (hl:l.length≤1000000) (hf:∀ y∈l,CellFit y.2.2.1) (hx:CellFit x.2.2.1):r08_into n (l,x,())=some ((intoP x l,()),((),(),())):=by
 have h:=into_l0 n x l.length 0 n l (by omega) (by omega) (by unfold Big at hn;omega)
 rw [show ((0:Nat):Int)=0 from rfl,List.drop_zero,Nat.zero_add] at h
 have hp:=plP_le x l
 unfold intoP
 generalize plP x l=q at h hp
 have k0:(0:Int)≤q:=by omega
 have k1:(q:Int)≤(l.length:Int):=by omega
 have r1:room (0+(l.length - q)) 64=true:=room_of (by omega)
 have r2:room (q+1) 64=true:=room_of (by omega)
 have r3:room (q+1+(l.length - q)) 64=true:=room_of (by omega)
 have e1:(l.take q).length=q:=by rw [List.length_take];omega
 have e2:(l.drop q).take (l.length - q)=l.drop q:=List.take_of_length_le (by rw [List.length_drop];omega)
 by_cases hq:q<l.length
 ·have k2:(q:Int)<(l.length:Int):=by omega
  have hT:=r06_Two_v n l[q].2.2.1 x.2.2.1 (hf _ (List.getElem_mem hq)) hx
  have hT':r06_Two n (l[q].2.2.1,x.2.2)=some ((twoC l[q].2.2.1 x.2.2.1,()),((),(),())):=hT
  rw [List.getElem?_eq_getElem hq]
  simp only [r08_into,h,bindL_inl,ilt_eq,ile_eq,ieq_eq,seq_eq,ilen,k0,k1,k2,decide_true,cond_true,lat_eq,iN,Int.toNat_natCast,List.getElem?_eq_getElem hq,bindN_s,hT',lputS,Int.le_refl,roomA,win_eq,show (0:Int).toNat=0 from rfl,List.drop_zero,Nat.sub_zero,List.length_nil,e1,e2,List.length_drop,r1,List.length_singleton,app,List.length_append,List.nil_append,r2,r3,List.append_assoc,List.singleton_append,sameP]
  by_cases h1:l[q].1=x.1
  ·by_cases h2:l[q].2.1=x.2.1
   ·simp [h1,h2]
   ·simp [h1,h2]
  ·simp [h1]
 ·have k2:¬ (q:Int)<(l.length:Int):=by omega
  rw [List.getElem?_eq_none (by omega)]
  simp only [r08_into,h,bindL_inl,ilt_eq,ile_eq,ilen,k0,k1,k2,decide_true,decide_false,cond_true,cond_false,iN,Int.toNat_natCast,bindN_s,Int.le_refl,roomA,win_eq,show (0:Int).toNat=0 from rfl,List.drop_zero,Nat.sub_zero,List.length_nil,e1,e2,List.length_drop,r1,List.length_singleton,app,List.length_append,List.nil_append,r2,r3,List.append_assoc,List.singleton_append]
end Go.Proofs.YtdcphpbimeoioaaGreatDoorE
end
section
set_option linter.unusedSectionVars false
namespace Go.Proofs.YtdcphpbimeoioaaGreatDoorE
open Go Go.Proofs
set_option linter.unusedVariables false
set_option linter.unusedSimpArgs false
abbrev QY:=El tQuery
def okI (q:QY) (x:IT):Option ByteArray :=
 if (parseK x.2.1).2.2=0 then (if textK (parseK x.2.1).1 (parseK x.2.1).2.1=x.2.1 then (if x.2.2.1.1<1 then none else if fitsQ q.2.1 q.2.2.1 (parseK x.2.1).1 (parseK x.2.1).2.1=true then some (groupQ q.2.2.2.1 (parseK x.2.1).2.1) else none) else none) else none
def stepQ (q:QY) (acc:List IT) (x:IT):List IT:=match okI q x with|some g=>intoP (x.1,g,x.2.2.1,()) acc|none=>acc
def rowQ (q:QY) (p:IT):RW':=(p.1,p.2.1,valC p.2.2.1 q.1,())
def rightY (q:QY):Bool:=rightQ q.1 q.2.1 q.2.2.1 q.2.2.2.1
def partsQ' (q:QY) (l:List IT):List IT:=(stableS ltK l).foldl (stepQ q) []
def answerQ (q:QY) (l:List IT):List RW':=if rightY q=true then (partsQ' q l).map (rowQ q) else []
def FitI (l:List IT):Prop:=l.length≤100000∧∀ x∈l,x.2.1.size≤100000∧CellFit x.2.2.1
def FitQ (q:QY):Prop:=q.2.1.size≤1000000∧q.2.2.1.length≤1000000∧q.2.2.2.1.length≤1000000
theorem intoP_mem {x:IT} {l:List IT} {y:IT} (h:y∈intoP x l):y∈l∨y=x∨∃ z∈l,y=(z.1,z.2.1,twoC z.2.2.1 x.2.2.1,()):=by
 unfold intoP at h
 have ins:y∈l.take (plP x l)++x ::l.drop (plP x l)→y∈l∨y=x∨∃ z∈l,y=(z.1,z.2.1,twoC z.2.2.1 x.2.2.1,()):=fun h=>by
  rcases List.mem_append.1 h with h|h
  ·exact .inl (List.mem_of_mem_take h)
  ·rcases List.mem_cons.1 h with h|h
   ·exact .inr (.inl h)
   ·exact .inl (List.mem_of_mem_drop h)
 split at h
 ·rename_i z hz
  split at h
  ·rcases List.mem_or_eq_of_mem_set h with h|h
   ·exact .inl h
   ·exact .inr (.inr ⟨z,List.mem_of_getElem? hz,h⟩)
  ·exact ins h
 ·exact ins h
theorem intoP_fit {x:IT} {l:List IT} (hf:∀ y∈l,CellFit y.2.2.1) (hx:CellFit x.2.2.1):∀ y∈intoP x l,CellFit y.2.2.1:=fun y hy=>by
 rcases intoP_mem hy with h|h|⟨z,hz,h⟩
 ·exact hf y h
 ·rw [h];exact hx
 ·rw [h];exact twoC_fit (hf z hz) hx
theorem stepQ_fit {q:QY} {l:List IT} {x:IT} (hf:∀ y∈l,CellFit y.2.2.1) (hx:CellFit x.2.2.1):∀ y∈stepQ q l x,CellFit y.2.2.1:=by
 unfold stepQ
 cases okI q x with
 | none=>exact hf
 | some g=>exact intoP_fit hf hx
theorem stepQ_len (q:QY) (l:List IT) (x:IT):(stepQ q l x).length≤l.length+1:=by
 unfold stepQ
 cases okI q x with
 | none=>exact Nat.le_succ _
 | some g=>exact intoP_len _ _
theorem answer_l0 {n:Nat} (hn:Big n) (q:QY) (hq:FitQ q) (l:List IT) (hl:FitI l):∀ (d i g:Nat) (acc:List IT),i+d=l.length→acc.length≤i→(∀ y∈acc,CellFit y.2.2.1)→d<g →
  r08_Answer_l0 n g (q,acc,l,(i:Int),())=some (.inl (q,(l.drop i).foldl (stepQ q) acc,()))
 | 0,i,g,acc,hd,ha,hf,hg=>by
  obtain ⟨g,rfl⟩:∃ g',g=g'+1:=⟨g - 1,by omega⟩
  have k:¬ (i:Int)<(l.length:Int):=by omega
  rw [List.drop_of_length_le (by omega)]
  simp [r08_Answer_l0,k]
 | d+1,i,g,acc,hd,ha,hf,hg=>by
  obtain ⟨g,rfl⟩:∃ g',g=g'+1:=⟨g - 1,by omega⟩
  have hl1:=hl.1
  have hi:i<l.length:=by omega
  have k:(i:Int)<(l.length:Int):=by omega
  have k0:(0:Int)≤i:=by omega
  obtain ⟨hx1,hx2⟩:=hl.2 l[i] (List.getElem_mem hi)
  have hP:=r04_Parse_v hn l[i].2.1 hx1
  have ih:=answer_l0 hn q hq l hl d (i+1) g (stepQ q acc l[i]) (by omega) (by have:=stepQ_len q acc l[i];omega) (stepQ_fit hf hx2) (by omega)
  have i1:=iadd1 (i:=i) (by omega)
  rw [drop_eq hi,List.foldl_cons]
  simp only [r08_Answer_l0,ilt_eq,ile_eq,ieq_eq,seq_eq,ilen,k,k0,decide_true,cond_true,lat_eq,iN,Int.toNat_natCast,List.getElem?_eq_getElem hi,bindN_s,hP,i1,bindL_id2]
  have hout:=parseK_out l[i].2.1
  unfold stepQ at ih ⊢
  unfold okI at ih ⊢
  by_cases q1:(parseK l[i].2.1).2.2=0
  ·have hr:=hout.resolve_right (fun h=>h.1 q1)
   obtain ⟨f1,f2,f3,f4⟩:=rightK_fit hr.2
   have hT:=r04_Text_v hn ((parseK l[i].2.1).1,(parseK l[i].2.1).2.1,()) (by show (parseK l[i].2.1).1.size≤_;omega) f2
   simp only at hT
   simp only [q1,decide_true,Bool.not_true,cond_false,hT,bindN_s,if_true]
   by_cases q2:textK (parseK l[i].2.1).1 (parseK l[i].2.1).2.1=l[i].2.1
   ·simp only [q1,q2,if_true] at ih
    simp only [q2,decide_true,Bool.not_true,cond_false,if_true]
    by_cases q3:l[i].2.2.1.1<1
    ·simp only [q3,if_true] at ih
     simp only [q3,decide_true,cond_true,ih,if_true]
    ·have hF:=r07_Fits_v hn q ((parseK l[i].2.1).1,(parseK l[i].2.1).2.1,()) (by show (parseK l[i].2.1).2.1.length≤_;omega) hq.2.1
     simp only at hF
     simp only [q3,if_false] at ih
     simp only [q3,decide_false,cond_false,hF,bindN_s,if_false]
     by_cases q4:fitsQ q.2.1 q.2.2.1 (parseK l[i].2.1).1 (parseK l[i].2.1).2.1=true
     ·have hG:=r07_Group_v hn q ((parseK l[i].2.1).1,(parseK l[i].2.1).2.1,()) f2 hq.2.2
      simp only at hG
      have hI:=r08_into_v hn acc (l[i].1,groupQ q.2.2.2.1 (parseK l[i].2.1).2.1,l[i].2.2.1,()) (by omega) hf hx2
      have hI':r08_into n (acc,(l[i].1,groupQ q.2.2.2.1 (parseK l[i].2.1).2.1,l[i].2.2),())=some ((intoP (l[i].1,groupQ q.2.2.2.1 (parseK l[i].2.1).2.1,l[i].2.2.1,()) acc,()),((),(),())):=hI
      simp only [q4,if_true] at ih
      simp only [q4,Bool.not_true,cond_false,hG,bindN_s,hI',ih,if_true]
     ·simp only [q4,Bool.false_eq_true,if_false] at ih
      have q4':fitsQ q.2.1 q.2.2.1 (parseK l[i].2.1).1 (parseK l[i].2.1).2.1=false:=by simpa using q4
      simp only [q4',Bool.not_false,cond_true,ih,Bool.false_eq_true,if_false]
   ·simp only [q1,q2,if_true,if_false] at ih
    simp only [q2,decide_false,Bool.not_false,cond_true,ih,if_false]
  ·simp only [q1,if_false] at ih
   simp only [q1,decide_false,Bool.not_false,cond_true,ih,if_false]
theorem answer_l1 {n:Nat} (q:QY) (ps:List IT) (hp:ps.length≤1000000) (items:List IT):∀ (d i g:Nat) (acc:List RW'),i+d=ps.length→acc.length=i→d<g →
  r08_Answer_l1 n g (q,ps,acc,(i:Int),())=some (.inl (acc++(ps.drop i).map (rowQ q),()))
 | 0,i,g,acc,hd,ha,hg=>by
  obtain ⟨g,rfl⟩:∃ g',g=g'+1:=⟨g - 1,by omega⟩
  have k:¬ (i:Int)<(ps.length:Int):=by omega
  rw [List.drop_of_length_le (by omega)]
  simp [r08_Answer_l1,k]
 | d+1,i,g,acc,hd,ha,hg=>by
  obtain ⟨g,rfl⟩:∃ g',g=g'+1:=⟨g - 1,by omega⟩
  have hi:i<ps.length:=by omega
  have k:(i:Int)<(ps.length:Int):=by omega
  have k0:(0:Int)≤i:=by omega
  have hV:=r06_Value_v n ps[i].2.2.1 q.1
  have r1:room (acc.length+1) 40=true:=room_of (by omega)
  have ih:=answer_l1 (n:=n) q ps hp items d (i+1) g (acc++[rowQ q ps[i]]) (by omega) (by simp;omega) (by omega)
  rw [drop_eq hi]
  unfold rowQ at ih ⊢
  simp only [r08_Answer_l1,ilt_eq,ile_eq,ilen,k,k0,decide_true,cond_true,lat_eq,iN,Int.toNat_natCast,List.getElem?_eq_getElem hi,bindN_s,hV,roomA,List.length_singleton,r1,app,iadd1 (i:=i) (by omega),bindL_id2,ih]
  rw [List.map_cons,List.append_assoc];rfl
theorem fold_len (q:QY):∀ (l acc:List IT),(l.foldl (stepQ q) acc).length≤acc.length+l.length
 | [],acc=>by simp
 | x ::l,acc=>by
  have h1:=fold_len q l (stepQ q acc x)
  have h2:=stepQ_len q acc x
  rw [List.foldl_cons,List.length_cons];omega
theorem stableS_perm (l:List IT):(stableS ltK l).Perm l:=by
 have key:∀ (l acc:List IT),(l.foldl (fun acc x=>insS ltK x acc) acc).Perm (acc++l):=by
  intro l
  induction l with
  | nil=>intro acc;simp
  | cons x l ih =>
   intro acc
   rw [List.foldl_cons]
   refine (ih _).trans ?_
   have h:(insS ltK x acc).Perm (x ::acc):=by
    rw [insS_at]
    refine List.perm_middle.trans ?_
    rw [List.take_append_drop]
   have:=h.append_right l
   exact this.trans List.perm_middle.symm
 have:=key l []
 simpa [stableS] using this
theorem fitI_sorted {l:List IT} (h:FitI l):FitI (stableS ltK l):=by
 have hp:=stableS_perm l
 exact ⟨by rw [hp.length_eq];exact h.1,fun x hx=>h.2 x (hp.mem_iff.1 hx)⟩
theorem r08_Answer_v {n:Nat} (hn:Big n) (q:QY) (hq:FitQ q) (l:List IT) (hl:FitI l):r08_Answer n (q,l,())=some ((answerQ q l,()),((),(),())):=by
 have hl1:=hl.1
 have hR:=r07_Right_v hn q hq.2.1 hq.2.2
 have hS:=r08_sorted_v hn l (by omega)
 have hs:=fitI_sorted hl
 have h0:=answer_l0 hn q hq (stableS ltK l) hs (stableS ltK l).length 0 n [] (by omega) (by simp) (fun y hy=>by cases hy) (by have:=hs.1;unfold Big at hn;omega)
 rw [show ((0:Nat):Int)=0 from rfl,List.drop_zero] at h0
 have hlen:=fold_len q (stableS ltK l) []
 have h1:=answer_l1 (n:=n) q (partsQ' q l) (by unfold partsQ';have:=hs.1;simp at hlen;omega) l (partsQ' q l).length 0 n [] (by omega) rfl (by unfold partsQ';have:=hs.1;simp at hlen;unfold Big at hn;omega)
 rw [show ((0:Nat):Int)=0 from rfl,List.drop_zero,List.nil_append] at h1
 unfold answerQ rightY
 simp only [r08_Answer,hR,bindN_s]
 cases rightQ q.1 q.2.1 q.2.2.1 q.2.2.2.1 with
 | false=>simp
 | true =>
  have h1':r08_Answer_l1 n n (q,(stableS ltK l).foldl (stepQ q) [],[],(0:Int),())=some (.inl ((partsQ' q l).map (rowQ q),())):=h1
  simp only [Bool.not_true,cond_false,hS,bindN_s,h0,bindL_inl,h1',if_true]
end Go.Proofs.YtdcphpbimeoioaaGreatDoorE
end
section
set_option linter.unusedSectionVars false
namespace Go.Proofs.YtdcphpbimeoioaaGreatDoorE
open Go Go.RowKit Go.Shelf
open Go.ChangeMaps (setBlock)
set_option linter.unusedVariables false
set_option linter.unusedSimpArgs false
section
variable {P:Program} {K V:Type} {mt kt et:TypeId} {ek:K→Value} {ev:V→Value} {eqk:K→K→Bool} {z:V} {w w':World} {b r:Nat} {l left:List (K×V)}
structure MapTy (P:Program) (mt kt et:TypeId) (ek:K→Value) (ev:V→Value) (eqk:K→K→Bool) (z:V):Prop where
 und:P.underlying mt=some (.map kt et)
 kd:∃ fs,P.underlying kt=some (.struct fs)
 chk:∀ e k w,(Instr.checkKey e 10000 kt (ek k)).run P w = .ok () w
 eq:∀ k k' w,(Op.equal kt (ek k) (ek k')).run P w = .ok (eqk k k') w
 bits:∀ k k',eqk k k'=true→Instr.sameBits 10000 (ek k') (ek k)=true
 zero:∀ w,(zeroValue et).run P w = .ok (ev z) w
def mfind (eqk:K→K→Bool) (k:K):List (K×V)→Nat→Option (Nat×V)
 | [],_=>none
 | p ::r,i=>bif eqk k p.1 then some (i,p.2) else mfind eqk k r (i+1)
def mget (eqk:K→K→Bool) (k:K) (z:V):List (K×V)→V
 | []=>z
 | p ::r=>bif eqk k p.1 then p.2 else mget eqk k z r
def mput (eqk:K→K→Bool) (k:K) (v:V):List (K×V)→List (K×V)
 | []=>[(k,v)]
 | p ::r=>bif eqk k p.1 then (k,v) ::r else p ::mput eqk k v r
theorem mfind_get (k:K) (z:V):∀ (l:List (K×V)) (i:Nat),((mfind eqk k l i).map (·.2)).getD z=mget eqk k z l
 | [],_=>rfl
 | p ::r,i=>by
  simp only [mfind,mget]
  cases eqk k p.1 with
  | true=>rfl
  | false=>exact mfind_get k z r (i+1)
theorem mfind_some {k:K}:∀ {l:List (K×V)} {i0 i:Nat} {v:V},mfind eqk k l i0=some (i,v)→i0≤i∧∃ p,l[i - i0]?=some p∧eqk k p.1=true
 | [],_,_,_,h=>by cases h
 | p ::r,i0,i,v,h=>by
  simp only [mfind] at h
  cases he:eqk k p.1 with
  | true =>
   rw [he] at h
   simp only [cond_true,Option.some.injEq,Prod.mk.injEq] at h
   obtain ⟨rfl,rfl⟩:=h
   exact ⟨Nat.le_refl _,p,by simp,he⟩
  | false =>
   rw [he] at h
   obtain ⟨h1,q,h2,h3⟩:=mfind_some h
   refine ⟨by omega,q,?_,h3⟩
   rw [show i - i0=(i - (i0+1))+1 by omega]
   simpa using h2
theorem mput_find {α:Type} (g:K×V→α) (k:K) (v:V):∀ (l:List (K×V)) (i0:Nat) (es:List α),es=l.map g →
  match mfind eqk k l i0 with
  | some (i,_)=>es.modify (i - i0) (fun _=>g (k,v))=(mput eqk k v l).map g
  | none=>es++[g (k,v)]=(mput eqk k v l).map g
 | [],i0,es,h=>by subst h;rfl
 | p ::r,i0,es,h=>by
  subst h
  simp only [mfind,mput]
  cases he:eqk k p.1 with
  | true=>simp
  | false =>
   have ih:=mput_find g k v r (i0+1) (r.map g) rfl
   simp only [cond_false]
   cases hm:mfind eqk k r (i0+1) with
   | none=>rw [hm] at ih;simpa using ih
   | some q =>
    obtain ⟨i,u⟩:=q
    rw [hm] at ih
    obtain ⟨h1,_⟩:=mfind_some hm
    simp only at ih ⊢
    rw [show i - i0=(i - (i0+1))+1 by omega]
    simp only [List.map_cons,List.modify_succ_cons,ih]
def HasMap (ek:K→Value) (ev:V→Value) (w:World) (b:Nat) (l:List (K×V)):Prop :=
 ∃ es:Array MapEntry,w.heap[b]?=some (.map es es.size)∧es.toList.map (fun e=>(e.key,e.val))=l.map (fun p=>(ek p.1,ev p.2))∧∀ (i:Nat) (e:MapEntry),es.toList[i]?=some e→e.born=i
theorem HasMap.lt (h:HasMap ek ev w b l):b<w.heap.size:=by
 obtain ⟨es,h1,_⟩:=h
 exact (Array.getElem?_eq_some_iff.1 h1).1
theorem HasMap.same (h:HasMap ek ev w b l) (hw:w'.heap[b]?=w.heap[b]?):HasMap ek ev w' b l:=by
 obtain ⟨es,h1,h2⟩:=h
 exact ⟨es,hw.trans h1,h2⟩
theorem HasMap.made (w:World):HasMap ek ev (w.alloc (.map #[] 0)) w.heap.size ([]:List (K×V)) :=
 ⟨#[],(MapKept.heap_alloc w _).1,rfl,fun i e h=>by simp at h⟩
theorem findAsking_run (M:MapTy P mt kt et ek ev eqk z) (k:K) (w:World):∀ (es:List MapEntry) (l:List (K×V)) (i:Nat),es.map (fun e=>(e.key,e.val))=l.map (fun p=>(ek p.1,ev p.2)) →
  (Instr.findAsking kt (ek k) es i).run P w = .ok ((mfind eqk k l i).map fun x=>(x.1,ev x.2)) w
 | [],[],i,_=>rfl
 | [],p ::l,_,h=>by simp at h
 | e ::es,[],_,h=>by simp at h
 | e ::es,p ::l,i,h=>by
  simp only [List.map_cons,List.cons.injEq,Prod.mk.injEq] at h
  obtain ⟨⟨h1,h2⟩,h3⟩:=h
  simp only [Instr.findAsking,Sem.run_bind,h1,M.eq,Result.andThen_ok,mfind]
  cases he:eqk k p.1 with
  | true=>simp [h2]
  | false=>simp only [Bool.false_eq_true,if_false,cond_false];exact findAsking_run M k w es l (i+1) h3
theorem findKey_run (M:MapTy P mt kt et ek ev eqk z) (k:K) (w:World) (es:List MapEntry) (l:List (K×V)) (h:es.map (fun e=>(e.key,e.val))=l.map (fun p=>(ek p.1,ev p.2))) :
  (Instr.findKey kt (ek k) es).run P w = .ok ((mfind eqk k l 0).map fun x=>(x.1,ev x.2)) w:=by
 obtain ⟨fs,hfs⟩:=M.kd
 cases es with
 | nil =>
  cases l with
  | nil=>simp [Instr.findKey,underlying,hfs,Instr.findNow,mfind]
  | cons p l=>simp at h
 | cons e es =>
  have:=findAsking_run M k w (e ::es) l 0 h
  simpa [Instr.findKey,underlying,hfs,Instr.findNow,Instr.sameNow] using this
theorem lookup_run (M:MapTy P mt kt et ek ev eqk z) (h:HasMap ek ev w b l) (k:K):(Instr.lookup mt (.map (some b)) (ek k) false).run P w = .ok (ev (mget eqk k z l)) w:=by
 obtain ⟨es,h1,h2,_⟩:=h
 have hf:=findKey_run M k w es.toList l h2
 have hg:=mfind_get (eqk:=eqk) k z l 0
 cases hm:mfind eqk k l 0 with
 | none =>
  rw [hm] at hf hg
  simp only [Option.map_none,Option.getD_none] at hf hg
  simp [Instr.lookup,underlying,M.und,MapKept.run_getObj_map h1,M.chk,hf,M.zero,← hg]
 | some q =>
  rw [hm] at hf hg
  simp only [Option.map_some,Option.getD_some] at hf hg
  simp [Instr.lookup,underlying,M.und,MapKept.run_getObj_map h1,M.chk,hf,← hg]
theorem update_run (M:MapTy P mt kt et ek ev eqk z) (h:HasMap ek ev w b l) (k:K) (v:V) :
  ∃ o,(Instr.mapUpdate mt (.map (some b)) (ek k) (ev v)).run P w = .ok () (setBlock w b o)∧HasMap ek ev (setBlock w b o) b (mput eqk k v l):=by
 obtain ⟨es,h1,h2,h3⟩:=h
 have hf:=findKey_run M k w es.toList l h2
 have hp:=mput_find (eqk:=eqk) (fun p:K×V=>(ek p.1,ev p.2)) k v l 0 _ h2
 cases hm:mfind eqk k l 0 with
 | none =>
  rw [hm] at hf hp
  simp only [Option.map_none] at hf
  refine ⟨.map (es.push { key:=ek k,val:=ev v,born:=es.size }) (es.size+1),by simp [Instr.mapUpdate,underlying,M.und,MapKept.run_getObj_map h1,M.chk,hf,MapKept.run_setObj_map _ h1,setBlock],es.push { key:=ek k,val:=ev v,born:=es.size },?_,?_,?_⟩
  ·rw [ChangeMaps.heap_setBlock_same h1];simp
  ·simpa using hp
  ·intro i e hi
   rw [Array.toList_push,List.getElem?_append] at hi
   split at hi
   ·exact h3 i e hi
   ·rename_i hlt
    have:i - es.toList.length=0:=by
     have:=(List.getElem?_eq_some_iff.1 hi).1
     simp at this ⊢;omega
    rw [this] at hi
    simp at hi
    subst hi
    simp at hlt this ⊢;omega
 | some q =>
  obtain ⟨i,u⟩:=q
  rw [hm] at hf hp
  simp only [Option.map_some,Nat.sub_zero] at hf hp
  obtain ⟨_,p,g1,g2⟩:=mfind_some hm
  rw [Nat.sub_zero] at g1
  have hlen:es.toList.length=l.length:=by have:=congrArg List.length h2;simpa using this
  have hi:i<es.size:=by have:=(List.getElem?_eq_some_iff.1 g1).1;rw [← hlen] at this;simpa using this
  have hkey:es[i].key=ek p.1:=by
   have:=congrArg (fun x=>x[i]?) h2
   simp only [List.getElem?_map,g1,Option.map_some] at this
   rw [Array.getElem?_toList,Array.getElem?_eq_getElem hi] at this
   simpa using (congrArg Prod.fst (Option.some.inj this))
  have hst:(Instr.keyThatStays (((es[i]?).map (·.key)).getD (ek k)) (ek k)).run P w = .ok (ek k) w:=by
   rw [Array.getElem?_eq_getElem hi]
   simp only [Option.map_some,Option.getD_some,hkey]
   simp [Instr.keyThatStays,M.bits k p.1 g2]
  have hso:=MapKept.run_setObj_map (P:=P) (.map (es.modify i fun e=>{ e with key:=ek k,val:=ev v }) es.size) h1
  refine ⟨.map (es.modify i fun e=>{ e with key:=ek k,val:=ev v }) es.size,by simp [Instr.mapUpdate,underlying,M.und,MapKept.run_getObj_map h1,M.chk,hf,hst,hso,setBlock],es.modify i fun e=>{ e with key:=ek k,val:=ev v },?_,?_,?_⟩
  ·rw [ChangeMaps.heap_setBlock_same h1];simp
  ·rw [← hp,Array.toList_modify]
   apply List.ext_getElem?
   intro j
   simp only [List.getElem?_map,List.getElem?_modify]
   cases es.toList[j]? with
   | none=>simp
   | some e=>by_cases hj:i=j<;>simp [hj]
  ·intro j e hj
   rw [Array.toList_modify,List.getElem?_modify] at hj
   cases he:es.toList[j]? with
   | none=>rw [he] at hj;simp at hj
   | some e0 =>
    rw [he] at hj
    have:=h3 j e0 he
    by_cases hij:i=j<;>simp [hij] at hj<;>subst hj<;>exact this
def HasIter (ek:K→Value) (ev:V→Value) (w:World) (b r:Nat) (left:List (K×V)):Prop :=
 ∃ (es:Array MapEntry) (seen:Array Nat),w.heap[b]?=some (.map es es.size)∧w.heap[r]?=some (.mapIter (some b) es.size seen es.size)∧(∀ (i:Nat) (e:MapEntry),es.toList[i]?=some e→e.born=i) ∧
  (leftOf es seen).toList.map (fun e=>(e.key,e.val))=left.map (fun p=>(ek p.1,ev p.2))
theorem HasIter.lt (h:HasIter ek ev w b r left):b<w.heap.size∧r<w.heap.size∧b≠r:=by
 obtain ⟨es,seen,h1,h2,_⟩:=h
 exact ⟨(Array.getElem?_eq_some_iff.1 h1).1,(Array.getElem?_eq_some_iff.1 h2).1,fun e=>by subst e;rw [h1] at h2;cases h2⟩
theorem HasIter.same (h:HasIter ek ev w b r left) (hb:w'.heap[b]?=w.heap[b]?) (hr:w'.heap[r]?=w.heap[r]?):HasIter ek ev w' b r left:=by
 obtain ⟨es,seen,h1,h2,h3⟩:=h
 exact ⟨es,seen,hb.trans h1,hr.trans h2,h3⟩
theorem range_run (M:MapTy P mt kt et ek ev eqk z) (h:HasMap ek ev w b l) :
  ∃ n,(Instr.range mt (.map (some b))).run P w = .ok (.pointer (some ⟨w.heap.size,0,none⟩)) (w.alloc (.mapIter (some b) n #[] n))∧HasIter ek ev (w.alloc (.mapIter (some b) n #[] n)) b w.heap.size l:=by
 have hlt:=h.lt
 obtain ⟨es,h1,h2,h3⟩:=h
 refine ⟨es.size,run_range_map w mt kt et b es es.size M.und h1,es,#[],((MapKept.heap_alloc w _).2 b hlt).trans h1,(MapKept.heap_alloc w _).1,h3,?_⟩
 rw [← h2]
 congr 1
 simp [leftOf]
theorem born_nodup {es:Array MapEntry} (h3:∀ (i:Nat) (e:MapEntry),es.toList[i]?=some e→e.born=i):(es.toList.map (·.born)).Nodup:=by
 rw [List.Nodup,List.pairwise_iff_getElem]
 intro i j hi hj hij
 simp only [List.length_map] at hi hj
 simp only [List.getElem_map]
 rw [h3 i _ (List.getElem?_eq_getElem hi),h3 j _ (List.getElem?_eq_getElem hj)]
 omega
theorem filter_erase:∀ (L:List MapEntry) (j:Nat) (e:MapEntry),(L.map (·.born)).Nodup→L[j]?=some e→L.filter (fun x => !(x.born ==e.born))=L.eraseIdx j
 | [],_,_,_,h=>by simp at h
 | x ::L,0,e,hn,h=>by
  simp only [List.getElem?_cons_zero,Option.some.injEq] at h
  subst h
  simp only [List.map_cons,List.nodup_cons] at hn
  simp only [List.filter_cons,beq_self_eq_true,Bool.not_true,Bool.false_eq_true,if_false,List.eraseIdx_cons_zero]
  refine List.filter_eq_self.2 fun y hy=>?_
  have:y.born≠x.born:=fun hh=>hn.1 (hh ▸ List.mem_map.2 ⟨y,hy,rfl⟩)
  simpa using this
 | x ::L,j+1,e,hn,h=>by
  simp only [List.getElem?_cons_succ] at h
  simp only [List.map_cons,List.nodup_cons] at hn
  have:x.born≠e.born:=fun hh=>hn.1 (hh ▸ List.mem_map.2 ⟨e,List.mem_of_getElem? h,rfl⟩)
  simp only [List.filter_cons,List.eraseIdx_cons_succ]
  rw [if_pos (by simpa using this),filter_erase L j e hn.2 h]
theorem left_push (es:Array MapEntry) (seen:Array Nat) (y:Nat):(leftOf es (seen.push y)).toList=(leftOf es seen).toList.filter fun x => !(x.born ==y):=by
 unfold leftOf
 rw [Array.toList_filter,Array.toList_filter,List.filter_filter]
 congr 1
 funext x
 rw [contains_push]
 cases seen.contains x.born<;>cases (x.born ==y)<;>rfl
theorem map_erase {α β:Type} (f:α→β):∀ (l:List α) (j:Nat),(l.eraseIdx j).map f=(l.map f).eraseIdx j
 | [],_=>rfl
 | _ ::_,0=>rfl
 | x ::l,j+1=>by rw [List.eraseIdx_cons_succ,List.map_cons,map_erase f l j];rfl
theorem next_run (h:HasIter ek ev w b r left) (ty:TypeId) :
  (left=[]∧(Instr.next (.pointer (some ⟨r,0,none⟩)) false ty).run P w = .ok (.tuple #[.bool false]) w) ∨
  ∃ j p w1 o,left[j]?=some p∧(w1=w∨w1=w.drew)∧(Instr.next (.pointer (some ⟨r,0,none⟩)) false ty).run P w = .ok (.tuple #[.bool true,ek p.1,ev p.2]) (setBlock w1 r o)∧HasIter ek ev (setBlock w1 r o) b r (left.eraseIdx j) ∧
   (Instr.entry (.pointer (some ⟨r,0,none⟩))).run P (setBlock w1 r o) = .ok (.tuple #[ek p.1,ev p.2]) (setBlock w1 r o):=by
 have hne:=h.lt.2.2
 obtain ⟨es,seen,h1,h2,h3,h4⟩:=h
 have hold:∀ x∈es.toList,x.born<es.size:=fun x hx=>by
  obtain ⟨i,hi⟩:=List.getElem?_of_mem hx
  rw [h3 i x hi]
  simpa using (List.getElem?_eq_some_iff.1 hi).1
 rcases run_next_at (P:=P) w ty r b es.size es.size seen es es.size h2 h1 hold (Nat.le_refl _) with ⟨h0,hrun⟩|⟨e,he,w1,hal,hrun⟩
 ·refine .inl ⟨?_,hrun⟩
  have:(leftOf es seen).toList=[]:=by rw [← List.length_eq_zero_iff];simpa using h0
  rw [this] at h4
  exact (List.map_eq_nil_iff.1 h4.symm)
 ·obtain ⟨j,hj⟩:=List.getElem?_of_mem he
  have hlj:=congrArg (fun x=>x[j]?) h4
  simp only [List.getElem?_map,hj,Option.map_some] at hlj
  cases hp:left[j]? with
  | none=>rw [hp] at hlj;cases hlj
  | some p =>
   rw [hp] at hlj
   simp only [Option.map_some,Option.some.injEq,Prod.mk.injEq] at hlj
   have hr1:w1.heap[r]?=some (.mapIter (some b) es.size seen es.size):=by rcases hal with rfl|rfl<;>exact h2
   have hb1:w1.heap[b]?=some (.map es es.size):=by rcases hal with rfl|rfl<;>exact h1
   have hset:=MapKept.heap_set (o' := .mapIter (some b) es.size (seen.push e.born) es.size) hr1
   have hb':(setBlock w1 r (.mapIter (some b) es.size (seen.push e.born) es.size)).heap[b]?=some (.map es es.size):=(hset.2 b hne).trans hb1
   have hem:=(mem_left he).1
   have hnd:=born_nodup h3
   refine .inr ⟨j,p,w1, .mapIter (some b) es.size (seen.push e.born) es.size,hp,hal,by rw [hrun,hlj.1,hlj.2],⟨es,seen.push e.born,hb',hset.1,h3,?_⟩,?_⟩
   ·have hnd':((leftOf es seen).toList.map (·.born)).Nodup:=by
     unfold leftOf
     rw [Array.toList_filter]
     exact (List.filter_sublist.map _).nodup hnd
    rw [left_push,filter_erase _ j e hnd' hj,map_erase,h4,← map_erase]
   ·rw [run_entry_at _ r b es.size seen es es.size e hset.1 hb' hem hnd,hlj.1,hlj.2]
end
end Go.Proofs.YtdcphpbimeoioaaGreatDoorE
end
