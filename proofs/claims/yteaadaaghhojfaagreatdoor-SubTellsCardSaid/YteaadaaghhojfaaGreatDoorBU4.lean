/- A part of the proof: GF. No condition. -/
import Derived.Test.YteaadaaghhojfaaGreatDoorBU3
import Derived.Test.YteaadaaghhojfaaGreatDoorProg
section
namespace Go.Proofs.YteaadaaghhojfaaGreatDoorE
open Go
set_option linter.unusedVariables false
set_option maxRecDepth 100000
abbrev tStrings_Builder : Ty := .pair .none (.pair (.slice (.int .u8)) .unit)
abbrev tRow_place : Ty := .pair (.int .i64) (.pair .str .unit)
abbrev tSub_viewer : Ty := .pair (.slice tRow) tSum
abbrev tLaw19_Push : Ty := .pair (.int .i64) (.pair (.slice tRow) (.pair .bool .unit))
abbrev s_slCut_sg : List Sg := [.tree .str, .tree .str]
abbrev s_slCut_rs : List Rt := [.tree .str, .tree .str, .tree .bool]
def s_slCut (n : Nat) (x : SgEl s_slCut_sg) : Option (RtEl s_slCut_rs × OutEl s_slCut_sg) :=
  bindN (s_Index1 n x) fun p1 =>
  bif ile (0 : Int) p1.1.1 then
   bif ile (0 : Int) (0 : Int) then
    bif ile (0 : Int) p1.1.1 then
     bif ile p1.1.1 (ssize x.1) then
      bif ile (0 : Int) (iadd .i64 p1.1.1 (ssize x.2.1)) then
       bif ile (iadd .i64 p1.1.1 (ssize x.2.1)) (ssize x.1) then
        bif ile (ssize x.1) (ssize x.1) then
         some ((sext x.1 (0 : Int) p1.1.1, sext x.1 (iadd .i64 p1.1.1 (ssize x.2.1)) (ssize x.1), true, ()), ((), (), ()))
        else none
       else none
      else none
     else none
    else none
   else none
  else
  some ((x.1, (⟨#[]⟩ : ByteArray), false, ()), ((), (), ()))
abbrev s_slCut_ent (n : Nat) : Ent := ⟨178, s_slCut_sg, s_slCut_rs, s_slCut n⟩
theorem s_slCut_ok (n : Nat) : EntOk Tryz.prog (s_slCut_ent n) := ent_ok' mixed (T := [s_Index1_ent n]) (tabCons (s_Index1_ok n) tabNil) tabLNil fun x => by kernel_rfl
abbrev s_Cut_sg : List Sg := [.tree .str, .tree .str]
abbrev s_Cut_rs : List Rt := [.tree .str, .tree .str, .tree .bool]
def s_Cut (n : Nat) (x : SgEl s_Cut_sg) : Option (RtEl s_Cut_rs × OutEl s_Cut_sg) :=
  bindN (s_slCut n x) fun p1 =>
  some (p1.1, ((), (), ()))
abbrev s_Cut_ent (n : Nat) : Ent := ⟨146, s_Cut_sg, s_Cut_rs, s_Cut n⟩
theorem s_Cut_ok (n : Nat) : EntOk Tryz.prog (s_Cut_ent n) := ent_ok' mixed (T := [s_slCut_ent n]) (tabCons (s_slCut_ok n) tabNil) tabLNil fun x => by kernel_rfl
abbrev cmp_isNaN_sg : List Sg := [.tree (.int .i64)]
abbrev cmp_isNaN_rs : List Rt := [.tree .bool]
def cmp_isNaN (n : Nat) (x : SgEl cmp_isNaN_sg) : Option (RtEl cmp_isNaN_rs × OutEl cmp_isNaN_sg) :=
  some ((!(ieq x.1 x.1), ()), ((), ()))
abbrev cmp_isNaN_ent (n : Nat) : Ent := ⟨208, cmp_isNaN_sg, cmp_isNaN_rs, cmp_isNaN n⟩
theorem cmp_isNaN_ok (n : Nat) : EntOk Tryz.prog (cmp_isNaN_ent n) := ent_ok' mixed (T := []) tabNil tabLNil fun x => by kernel_rfl
abbrev cmp_Compare_sg : List Sg := [.tree (.int .i64), .tree (.int .i64)]
abbrev cmp_Compare_rs : List Rt := [.tree (.int .i64)]
def cmp_Compare (n : Nat) (x : SgEl cmp_Compare_sg) : Option (RtEl cmp_Compare_rs × OutEl cmp_Compare_sg) :=
  bindN (cmp_isNaN n (x.1, ())) fun p1 =>
  bindN (cmp_isNaN n x.2) fun p2 =>
  bif p1.1.1 then
   bif p2.1.1 then
    some (((0 : Int), ()), ((), (), ()))
   else
   some (((-1 : Int), ()), ((), (), ()))
  else
  bif p2.1.1 then
   some (((1 : Int), ()), ((), (), ()))
  else
  bif ilt x.1 x.2.1 then
   some (((-1 : Int), ()), ((), (), ()))
  else
  bif ilt x.2.1 x.1 then
   some (((1 : Int), ()), ((), (), ()))
  else
  some (((0 : Int), ()), ((), (), ()))
abbrev cmp_Compare_ent (n : Nat) : Ent := ⟨185, cmp_Compare_sg, cmp_Compare_rs, cmp_Compare n⟩
theorem cmp_Compare_ok (n : Nat) : EntOk Tryz.prog (cmp_Compare_ent n) := ent_ok' mixed (T := [cmp_isNaN_ent n]) (tabCons (cmp_isNaN_ok n) tabNil) tabLNil fun x => by kernel_rfl
abbrev cmp_Or_sg : List Sg := [.tree (.slice (.int .i64))]
abbrev cmp_Or_rs : List Rt := [.tree (.int .i64)]
def cmp_Or_l0 (n : Nat) : Nat → SgEl [.tree (.int .i64), .tree (.slice (.int .i64)), .tree (.int .i64), .tree (.int .i64)] → Option (SgEl [.tree (.int .i64)] ⊕ SgEl [.tree (.int .i64)])
  | 0, _ => none
  | g + 1, s =>
    bif ilt s.2.2.2.1 s.2.2.1 then
     bif ile (0 : Int) s.2.2.2.1 then
      bindN (lat s.2.1 (iN s.2.2.2.1)) fun v1 =>
      bif !(ieq v1 s.1) then
       some (Sum.inr (v1, ()))
      else
      bindL (cmp_Or_l0 n g (s.1, s.2.1, s.2.2.1, iadd .i64 s.2.2.2.1 (1 : Int), ())) (fun a2 =>
       some (Sum.inl a2)) fun b3 =>
      some (Sum.inr b3)
     else none
    else
    some (Sum.inl (s.1, ()))
theorem cmp_Or_l0_ok (n : Nat) : ∀ g, LEntOk Tryz.prog 184 (nSl cmp_Or_sg) ⟨0, [.tree (.int .i64), .tree (.slice (.int .i64)), .tree (.int .i64), .tree (.int .i64)], 0, [.tree (.int .i64)], [.tree (.int .i64)], cmp_Or_l0 n g⟩ g
  | 0 => loop_zero' fun _ => rfl
  | g + 1 => loop_step' mixed (T := []) tabNil tabLNil (cmp_Or_l0_ok n g) fun s => by kernel_rfl
def cmp_Or (n : Nat) (x : SgEl cmp_Or_sg) : Option (RtEl cmp_Or_rs × OutEl cmp_Or_sg) :=
  bindL (cmp_Or_l0 n n ((0 : Int), x.1, ilen x.1, (0 : Int), ())) (fun a1 =>
   some (a1, ((), ()))) fun b2 =>
  some (b2, ((), ()))
abbrev cmp_Or_ent (n : Nat) : Ent := ⟨184, cmp_Or_sg, cmp_Or_rs, cmp_Or n⟩
theorem cmp_Or_ok (n : Nat) : EntOk Tryz.prog (cmp_Or_ent n) := ent_ok' mixed (T := []) tabNil (tabLCons (cmp_Or_l0_ok n n) tabLNil) fun x => by kernel_rfl
abbrev word_made_sg : List Sg := [.tree .str, .tree .str]
abbrev word_made_rs : List Rt := [.tree .bool]
def word_made (n : Nat) (x : SgEl word_made_sg) : Option (RtEl word_made_rs × OutEl word_made_sg) :=
  bif !(seq x.1 (⟨#[]⟩ : ByteArray)) then
   bif ile (ssize x.1) (12 : Int) then
    bindN (s_Trim n x) fun p1 =>
    some ((seq p1.1.1 (⟨#[]⟩ : ByteArray), ()), ((), (), ()))
   else
   some ((false, ()), ((), (), ()))
  else
  some ((false, ()), ((), (), ()))
abbrev word_made_ent (n : Nat) : Ent := ⟨99, word_made_sg, word_made_rs, word_made n⟩
theorem word_made_ok (n : Nat) : EntOk Tryz.prog (word_made_ent n) := ent_ok' mixed (T := [s_Trim_ent n]) (tabCons (s_Trim_ok n) tabNil) tabLNil fun x => by kernel_rfl
abbrev word_Name_sg : List Sg := [.tree .str]
abbrev word_Name_rs : List Rt := [.tree .bool]
def word_Name (n : Nat) (x : SgEl word_Name_sg) : Option (RtEl word_Name_rs × OutEl word_Name_sg) :=
  bindN (word_made n (x.1, (⟨#[97, 98, 99, 100, 101, 102, 103, 104, 105, 106, 107, 108, 109, 110, 111, 112, 113, 114, 115, 116, 117, 118, 119, 120, 121, 122, 48, 49, 50, 51, 52, 53, 54, 55, 56, 57, 95]⟩ : ByteArray), ())) fun p1 =>
  bif p1.1.1 then
   bif ile (0 : Int) (0 : Int) then
    bif ilt (0 : Int) (ssize x.1) then
     bindN (s_IndexByte n ((⟨#[97, 98, 99, 100, 101, 102, 103, 104, 105, 106, 107, 108, 109, 110, 111, 112, 113, 114, 115, 116, 117, 118, 119, 120, 121, 122]⟩ : ByteArray), sat x.1 (0 : Int), ())) fun p2 =>
     some ((ile (0 : Int) p2.1.1, ()), ((), ()))
    else none
   else none
  else
  some ((false, ()), ((), ()))
abbrev word_Name_ent (n : Nat) : Ent := ⟨51, word_Name_sg, word_Name_rs, word_Name n⟩
theorem word_Name_ok (n : Nat) : EntOk Tryz.prog (word_Name_ent n) := ent_ok' mixed (T := [word_made_ent n, s_IndexByte_ent n]) (tabCons (word_made_ok n) (tabCons (s_IndexByte_ok n) tabNil)) tabLNil fun x => by kernel_rfl
abbrev word_Value_sg : List Sg := [.tree .str]
abbrev word_Value_rs : List Rt := [.tree .bool]
def word_Value (n : Nat) (x : SgEl word_Value_sg) : Option (RtEl word_Value_rs × OutEl word_Value_sg) :=
  bindN (word_made n (x.1, (⟨#[97, 98, 99, 100, 101, 102, 103, 104, 105, 106, 107, 108, 109, 110, 111, 112, 113, 114, 115, 116, 117, 118, 119, 120, 121, 122, 48, 49, 50, 51, 52, 53, 54, 55, 56, 57, 95, 45, 46]⟩ : ByteArray), ())) fun p1 =>
  some (p1.1, ((), ()))
abbrev word_Value_ent (n : Nat) : Ent := ⟨137, word_Value_sg, word_Value_rs, word_Value n⟩
theorem word_Value_ok (n : Nat) : EntOk Tryz.prog (word_Value_ent n) := ent_ok' mixed (T := [word_made_ent n]) (tabCons (word_made_ok n) tabNil) tabLNil fun x => by kernel_rfl
abbrev word_Split_sg : List Sg := [.tree .str, .tree (.int .u8)]
abbrev word_Split_rs : List Rt := [.tree (.slice .str)]
def word_Split_l0 (n : Nat) : Nat → SgEl [.tree .str, .tree (.int .u8), .own .str] → Option (SgEl [] ⊕ SgEl [.own .str])
  | 0, _ => none
  | g + 1, s =>
    bindN (s_IndexByte n (s.1, s.2.1, ())) fun p1 =>
    bif ilt p1.1.1 (0 : Int) then
     bif roomA s.2.2.1 [s.1] 16 then
      some (Sum.inr (app s.2.2.1 [s.1], ()))
     else none
    else
    bif ile (0 : Int) (0 : Int) then
     bif ile (0 : Int) p1.1.1 then
      bif ile p1.1.1 (ssize s.1) then
       bif roomA s.2.2.1 [sext s.1 (0 : Int) p1.1.1] 16 then
        bif ile (0 : Int) (iadd .i64 p1.1.1 (1 : Int)) then
         bif ile (iadd .i64 p1.1.1 (1 : Int)) (ssize s.1) then
          bif ile (ssize s.1) (ssize s.1) then
           bindL (word_Split_l0 n g (sext s.1 (iadd .i64 p1.1.1 (1 : Int)) (ssize s.1), s.2.1, app s.2.2.1 [sext s.1 (0 : Int) p1.1.1], ())) (fun a2 =>
            some (Sum.inl ())) fun b3 =>
           some (Sum.inr b3)
          else none
         else none
        else none
       else none
      else none
     else none
    else none
theorem word_Split_l0_ok (n : Nat) : ∀ g, LEntOk Tryz.prog 116 (nSl word_Split_sg) ⟨0, [.tree .str, .tree (.int .u8), .own .str], 0, [], [.own .str], word_Split_l0 n g⟩ g
  | 0 => loop_zero' fun _ => rfl
  | g + 1 => loop_step' mixed (T := [s_IndexByte_ent n]) (tabCons (s_IndexByte_ok n) tabNil) tabLNil (word_Split_l0_ok n g) fun s => by kernel_rfl
def word_Split (n : Nat) (x : SgEl word_Split_sg) : Option (RtEl word_Split_rs × OutEl word_Split_sg) :=
  bindL (word_Split_l0 n n (x.1, x.2.1, [], ())) (fun a1 =>
   none) fun b2 =>
  some (b2, ((), (), ()))
abbrev word_Split_ent (n : Nat) : Ent := ⟨116, word_Split_sg, word_Split_rs, word_Split n⟩
theorem word_Split_ok (n : Nat) : EntOk Tryz.prog (word_Split_ent n) := ent_ok' mixed (T := [s_IndexByte_ent n]) (tabCons (s_IndexByte_ok n) tabNil) (tabLCons (word_Split_l0_ok n n) tabLNil) fun x => by kernel_rfl
abbrev word_Join_sg : List Sg := [.tree .str, .tree (.slice .str)]
abbrev word_Join_rs : List Rt := [.tree .str]
def word_Join (n : Nat) (x : SgEl word_Join_sg) : Option (RtEl word_Join_rs × OutEl word_Join_sg) :=
  bindN (s_Join n (x.2.1, x.1, ())) fun p1 =>
  some (p1.1, ((), (), ()))
abbrev word_Join_ent (n : Nat) : Ent := ⟨57, word_Join_sg, word_Join_rs, word_Join n⟩
theorem word_Join_ok (n : Nat) : EntOk Tryz.prog (word_Join_ent n) := ent_ok' mixed (T := [s_Join_ent n]) (tabCons (s_Join_ok n) tabNil) tabLNil fun x => by kernel_rfl
abbrev tag_may_sg : List Sg := [.tree tTag]
abbrev tag_may_rs : List Rt := [.tree .bool]
def tag_may (n : Nat) (x : SgEl tag_may_sg) : Option (RtEl tag_may_rs × OutEl tag_may_sg) :=
  bindN (word_Name n (x.1.1, ())) fun p1 =>
  bif p1.1.1 then
   bindN (word_Value n x.1.2) fun p2 =>
   some (p2.1, ((), ()))
  else
  some ((false, ()), ((), ()))
abbrev tag_may_ent (n : Nat) : Ent := ⟨224, tag_may_sg, tag_may_rs, tag_may n⟩
theorem tag_may_ok (n : Nat) : EntOk Tryz.prog (tag_may_ent n) := ent_ok' mixed (T := [word_Name_ent n, word_Value_ent n]) (tabCons (word_Name_ok n) (tabCons (word_Value_ok n) tabNil)) tabLNil fun x => by kernel_rfl
abbrev tag_order_sg : List Sg := [.tree tTag, .tree tTag]
abbrev tag_order_rs : List Rt := [.tree (.int .i64)]
def tag_order (n : Nat) (x : SgEl tag_order_sg) : Option (RtEl tag_order_rs × OutEl tag_order_sg) :=
  bindN (s_Compare n (x.1.1, x.2.1.1, ())) fun p1 =>
  some (p1.1, ((), (), ()))
abbrev tag_order_ent (n : Nat) : Ent := ⟨227, tag_order_sg, tag_order_rs, tag_order n⟩
theorem tag_order_ok (n : Nat) : EntOk Tryz.prog (tag_order_ent n) := ent_ok' mixed (T := [s_Compare_ent n]) (tabCons (s_Compare_ok n) tabNil) tabLNil fun x => by kernel_rfl
abbrev tag_Canon1_sg : List Sg := [.tree tTag]
abbrev tag_Canon1_rs : List Rt := [.tree .bool]
def tag_Canon1 (n : Nat) (x : SgEl tag_Canon1_sg) : Option (RtEl tag_Canon1_rs × OutEl tag_Canon1_sg) :=
  bindN (tag_may n x) fun p1 =>
  some ((!p1.1.1, ()), ((), ()))
abbrev tag_Canon1_ent (n : Nat) : Ent := ⟨223, tag_Canon1_sg, tag_Canon1_rs, tag_Canon1 n⟩
theorem tag_Canon1_ok (n : Nat) : EntOk Tryz.prog (tag_Canon1_ent n) := ent_ok' mixed (T := [tag_may_ent n]) (tabCons (tag_may_ok n) tabNil) tabLNil fun x => by kernel_rfl
abbrev sl_IndexTag_sg : List Sg := [.tree (.slice tTag), .fnv 223 []]
abbrev sl_IndexTag_rs : List Rt := [.tree (.int .i64)]
def sl_IndexTag_l0 (n : Nat) : Nat → SgEl [.tree (.slice tTag), .fnv 223 [], .tree (.int .i64), .tree (.int .i64)] → Option (SgEl [] ⊕ SgEl [.tree (.int .i64)])
  | 0, _ => none
  | g + 1, s =>
    bif ilt s.2.2.2.1 s.2.2.1 then
     bif ile (0 : Int) s.2.2.2.1 then
      bindN (lat s.1 (iN s.2.2.2.1)) fun v1 =>
      bindN (tag_Canon1 n (v1, ())) fun p2 =>
      bif p2.1.1 then
       some (Sum.inr s.2.2.2)
      else
      bindL (sl_IndexTag_l0 n g (s.1, (), s.2.2.1, iadd .i64 s.2.2.2.1 (1 : Int), ())) (fun a3 =>
       some (Sum.inl ())) fun b4 =>
      some (Sum.inr b4)
     else none
    else
    some (Sum.inl ())
theorem sl_IndexTag_l0_ok (n : Nat) : ∀ g, LEntOk Tryz.prog 232 (nSl sl_IndexTag_sg) ⟨0, [.tree (.slice tTag), .fnv 223 [], .tree (.int .i64), .tree (.int .i64)], 0, [], [.tree (.int .i64)], sl_IndexTag_l0 n g⟩ g
  | 0 => loop_zero' fun _ => rfl
  | g + 1 => loop_step' mixed (T := [tag_Canon1_ent n]) (tabCons (tag_Canon1_ok n) tabNil) tabLNil (sl_IndexTag_l0_ok n g) fun s => by kernel_rfl
def sl_IndexTag (n : Nat) (x : SgEl sl_IndexTag_sg) : Option (RtEl sl_IndexTag_rs × OutEl sl_IndexTag_sg) :=
  bindL (sl_IndexTag_l0 n n (x.1, (), ilen x.1, (0 : Int), ())) (fun a1 =>
   some (((-1 : Int), ()), ((), (), ()))) fun b2 =>
  some (b2, ((), (), ()))
abbrev sl_IndexTag_ent (n : Nat) : Ent := ⟨232, sl_IndexTag_sg, sl_IndexTag_rs, sl_IndexTag n⟩
theorem sl_IndexTag_ok (n : Nat) : EntOk Tryz.prog (sl_IndexTag_ent n) := ent_ok' mixed (T := [tag_Canon1_ent n]) (tabCons (tag_Canon1_ok n) tabNil) (tabLCons (sl_IndexTag_l0_ok n n) tabLNil) fun x => by kernel_rfl
abbrev sl_ContainsTag_sg : List Sg := [.tree (.slice tTag), .fnv 223 []]
abbrev sl_ContainsTag_rs : List Rt := [.tree .bool]
def sl_ContainsTag (n : Nat) (x : SgEl sl_ContainsTag_sg) : Option (RtEl sl_ContainsTag_rs × OutEl sl_ContainsTag_sg) :=
  bindN (sl_IndexTag n (x.1, (), ())) fun p1 =>
  some ((ile (0 : Int) p1.1.1, ()), ((), (), ()))
abbrev sl_ContainsTag_ent (n : Nat) : Ent := ⟨222, sl_ContainsTag_sg, sl_ContainsTag_rs, sl_ContainsTag n⟩
theorem sl_ContainsTag_ok (n : Nat) : EntOk Tryz.prog (sl_ContainsTag_ent n) := ent_ok' mixed (T := [sl_IndexTag_ent n, tag_Canon1_ent n]) (tabCons (sl_IndexTag_ok n) (tabCons (tag_Canon1_ok n) tabNil)) tabLNil fun x => by kernel_rfl
abbrev tag_Canon_sg : List Sg := [.tree (.slice tTag)]
abbrev tag_Canon_rs : List Rt := [.tree (.slice tTag), .tree (.int .i64)]
def tag_Canon_l0 (n : Nat) : Nat → SgEl [.own tTag, .tree (.int .i64)] → Option (SgEl [.own tTag] ⊕ SgEl [.tree (.slice tTag), .tree (.int .i64)])
  | 0, _ => none
  | g + 1, s =>
    bif ilt s.2.1 (ilen s.1) then
     bif ile (0 : Int) (isub .i64 s.2.1 (1 : Int)) then
      bindN (lat s.1 (iN (isub .i64 s.2.1 (1 : Int)))) fun v1 =>
      bindN (lat s.1 (iN (isub .i64 s.2.1 (1 : Int)))) fun v2 =>
      bif ile (0 : Int) s.2.1 then
       bindN (lat s.1 (iN s.2.1)) fun v3 =>
       bindN (lat s.1 (iN s.2.1)) fun v4 =>
       bindN (tag_order n (v2, v4, ())) fun p5 =>
       bif ieq p5.1.1 (0 : Int) then
        some (Sum.inr ([], (5 : Int), ()))
       else
       bindL (tag_Canon_l0 n g (s.1, iadd .i64 s.2.1 (1 : Int), ())) (fun a6 =>
        some (Sum.inl a6)) fun b7 =>
       some (Sum.inr b7)
      else none
     else none
    else
    some (Sum.inl (s.1, ()))
theorem tag_Canon_l0_ok (n : Nat) : ∀ g, LEntOk Tryz.prog 207 (nSl tag_Canon_sg) ⟨0, [.own tTag, .tree (.int .i64)], 0, [.own tTag], [.tree (.slice tTag), .tree (.int .i64)], tag_Canon_l0 n g⟩ g
  | 0 => loop_zero' fun _ => rfl
  | g + 1 => loop_step' mixed (T := [sl_ContainsTag_ent n, sl_CloneTag_ent n, sl_SortTag_ent n, tag_order_ent n]) (tabCons (sl_ContainsTag_ok n) (tabCons (sl_CloneTag_ok n) (tabCons (sl_SortTag_ok n) (tabCons (tag_order_ok n) tabNil)))) tabLNil (tag_Canon_l0_ok n g) fun s => by kernel_rfl
def tag_Canon (n : Nat) (x : SgEl tag_Canon_sg) : Option (RtEl tag_Canon_rs × OutEl tag_Canon_sg) :=
  bindN (sl_ContainsTag n (x.1, (), ())) fun p1 =>
  bif p1.1.1 then
   some (([], (2 : Int), ()), ((), ()))
  else
  bif ilt (4 : Int) (ilen x.1) then
   some (([], (4 : Int), ()), ((), ()))
  else
  bindN (sl_CloneTag n x) fun p2 =>
  bindN (sl_SortTag n (p2.1.1, (), ())) fun p3 =>
  bindL (tag_Canon_l0 n n (p3.2.1, (1 : Int), ())) (fun a4 =>
   some ((a4.1, (0 : Int), ()), ((), ()))) fun b5 =>
  some (b5, ((), ()))
abbrev tag_Canon_ent (n : Nat) : Ent := ⟨207, tag_Canon_sg, tag_Canon_rs, tag_Canon n⟩
theorem tag_Canon_ok (n : Nat) : EntOk Tryz.prog (tag_Canon_ent n) := ent_ok' mixed (T := [sl_ContainsTag_ent n, sl_CloneTag_ent n, sl_SortTag_ent n, tag_order_ent n]) (tabCons (sl_ContainsTag_ok n) (tabCons (sl_CloneTag_ok n) (tabCons (sl_SortTag_ok n) (tabCons (tag_order_ok n) tabNil)))) (tabLCons (tag_Canon_l0_ok n n) tabLNil) fun x => by kernel_rfl
abbrev tag_Text_sg : List Sg := [.tree (.slice tTag)]
abbrev tag_Text_rs : List Rt := [.tree .str]
def tag_Text_l0 (n : Nat) : Nat → SgEl [.own .str, .tree (.slice tTag), .tree (.int .i64), .tree (.int .i64)] → Option (SgEl [.own .str] ⊕ SgEl [])
  | 0, _ => none
  | g + 1, s =>
    bif ilt s.2.2.2.1 s.2.2.1 then
     bif ile (0 : Int) s.2.2.2.1 then
      bindN (lat s.2.1 (iN s.2.2.2.1)) fun v1 =>
      bindN (word_Join n ((⟨#[61]⟩ : ByteArray), [v1.1, v1.2.1], ())) fun p2 =>
      bif roomA s.1 [p2.1.1] 16 then
       bindL (tag_Text_l0 n g (app s.1 [p2.1.1], s.2.1, s.2.2.1, iadd .i64 s.2.2.2.1 (1 : Int), ())) (fun a3 =>
        some (Sum.inl a3)) fun b4 =>
       some (Sum.inr ())
      else none
     else none
    else
    some (Sum.inl (s.1, ()))
theorem tag_Text_l0_ok (n : Nat) : ∀ g, LEntOk Tryz.prog 75 (nSl tag_Text_sg) ⟨0, [.own .str, .tree (.slice tTag), .tree (.int .i64), .tree (.int .i64)], 0, [.own .str], [], tag_Text_l0 n g⟩ g
  | 0 => loop_zero' fun _ => rfl
  | g + 1 => loop_step' mixed (T := [word_Join_ent n]) (tabCons (word_Join_ok n) tabNil) tabLNil (tag_Text_l0_ok n g) fun s => by kernel_rfl
def tag_Text (n : Nat) (x : SgEl tag_Text_sg) : Option (RtEl tag_Text_rs × OutEl tag_Text_sg) :=
  bindL (tag_Text_l0 n n ([], x.1, ilen x.1, (0 : Int), ())) (fun a1 =>
   bindN (word_Join n ((⟨#[44]⟩ : ByteArray), a1)) fun p3 =>
   some (p3.1, ((), ()))) fun b2 =>
  none
abbrev tag_Text_ent (n : Nat) : Ent := ⟨75, tag_Text_sg, tag_Text_rs, tag_Text n⟩
theorem tag_Text_ok (n : Nat) : EntOk Tryz.prog (tag_Text_ent n) := ent_ok' mixed (T := [word_Join_ent n]) (tabCons (word_Join_ok n) tabNil) (tabLCons (tag_Text_l0_ok n n) tabLNil) fun x => by kernel_rfl
abbrev tag_Parse_sg : List Sg := [.tree .str]
abbrev tag_Parse_rs : List Rt := [.tree (.slice tTag), .tree (.int .i64)]
def tag_Parse_l0 (n : Nat) : Nat → SgEl [.own tTag, .tree (.slice .str), .tree (.int .i64), .tree (.int .i64)] → Option (SgEl [.own tTag] ⊕ SgEl [.tree (.slice tTag), .tree (.int .i64)])
  | 0, _ => none
  | g + 1, s =>
    bif ilt s.2.2.2.1 s.2.2.1 then
     bif ile (0 : Int) s.2.2.2.1 then
      bindN (lat s.2.1 (iN s.2.2.2.1)) fun v1 =>
      bindN (s_Cut n (v1, (⟨#[61]⟩ : ByteArray), ())) fun p2 =>
      bif !p2.1.2.2.1 then
       some (Sum.inr ([], (2 : Int), ()))
      else
      bif roomA s.1 [(p2.1.1, p2.1.2.1, ())] 32 then
       bindL (tag_Parse_l0 n g (app s.1 [(p2.1.1, p2.1.2.1, ())], s.2.1, s.2.2.1, iadd .i64 s.2.2.2.1 (1 : Int), ())) (fun a3 =>
        some (Sum.inl a3)) fun b4 =>
       some (Sum.inr b4)
      else none
     else none
    else
    some (Sum.inl (s.1, ()))
theorem tag_Parse_l0_ok (n : Nat) : ∀ g, LEntOk Tryz.prog 183 (nSl tag_Parse_sg) ⟨0, [.own tTag, .tree (.slice .str), .tree (.int .i64), .tree (.int .i64)], 0, [.own tTag], [.tree (.slice tTag), .tree (.int .i64)], tag_Parse_l0 n g⟩ g
  | 0 => loop_zero' fun _ => rfl
  | g + 1 => loop_step' mixed (T := [word_Split_ent n, s_Cut_ent n, tag_Canon_ent n]) (tabCons (word_Split_ok n) (tabCons (s_Cut_ok n) (tabCons (tag_Canon_ok n) tabNil))) tabLNil (tag_Parse_l0_ok n g) fun s => by kernel_rfl
def tag_Parse (n : Nat) (x : SgEl tag_Parse_sg) : Option (RtEl tag_Parse_rs × OutEl tag_Parse_sg) :=
  bif seq x.1 (⟨#[]⟩ : ByteArray) then
   some (([], (0 : Int), ()), ((), ()))
  else
  bindN (word_Split n (x.1, (44 : Int), ())) fun p1 =>
  bindL (tag_Parse_l0 n n ([], p1.1.1, ilen p1.1.1, (0 : Int), ())) (fun a2 =>
   bindN (tag_Canon n a2) fun p4 =>
   some (p4.1, ((), ()))) fun b3 =>
  some (b3, ((), ()))
abbrev tag_Parse_ent (n : Nat) : Ent := ⟨183, tag_Parse_sg, tag_Parse_rs, tag_Parse n⟩
theorem tag_Parse_ok (n : Nat) : EntOk Tryz.prog (tag_Parse_ent n) := ent_ok' mixed (T := [word_Split_ent n, s_Cut_ent n, tag_Canon_ent n]) (tabCons (word_Split_ok n) (tabCons (s_Cut_ok n) (tabCons (tag_Canon_ok n) tabNil))) (tabLCons (tag_Parse_l0_ok n n) tabLNil) fun x => by kernel_rfl
abbrev sl_EqMatch_sg : List Sg := [.tree (.slice tMatch), .tree (.slice tMatch)]
abbrev sl_EqMatch_rs : List Rt := [.tree .bool]
def sl_EqMatch_l0 (n : Nat) : Nat → SgEl [.tree (.slice tMatch), .tree (.slice tMatch), .tree (.int .i64), .tree (.int .i64)] → Option (SgEl [] ⊕ SgEl [.tree .bool])
  | 0, _ => none
  | g + 1, s =>
    bif ilt s.2.2.2.1 s.2.2.1 then
     bif ile (0 : Int) s.2.2.2.1 then
      bindN (lat s.1 (iN s.2.2.2.1)) fun v1 =>
      bif ile (0 : Int) s.2.2.2.1 then
       bindN (lat s.2.1 (iN s.2.2.2.1)) fun v2 =>
       bif !(ieq v1.1 v2.1 && (seq v1.2.1 v2.2.1 && (seq v1.2.2.1 v2.2.2.1 && true))) then
        some (Sum.inr (false, ()))
       else
       bindL (sl_EqMatch_l0 n g (s.1, s.2.1, s.2.2.1, iadd .i64 s.2.2.2.1 (1 : Int), ())) (fun a3 =>
        some (Sum.inl ())) fun b4 =>
       some (Sum.inr b4)
      else none
     else none
    else
    some (Sum.inl ())
theorem sl_EqMatch_l0_ok (n : Nat) : ∀ g, LEntOk Tryz.prog 114 (nSl sl_EqMatch_sg) ⟨0, [.tree (.slice tMatch), .tree (.slice tMatch), .tree (.int .i64), .tree (.int .i64)], 0, [], [.tree .bool], sl_EqMatch_l0 n g⟩ g
  | 0 => loop_zero' fun _ => rfl
  | g + 1 => loop_step' mixed (T := []) tabNil tabLNil (sl_EqMatch_l0_ok n g) fun s => by kernel_rfl
def sl_EqMatch (n : Nat) (x : SgEl sl_EqMatch_sg) : Option (RtEl sl_EqMatch_rs × OutEl sl_EqMatch_sg) :=
  bif !(ieq (ilen x.1) (ilen x.2.1)) then
   some ((false, ()), ((), (), ()))
  else
  bindL (sl_EqMatch_l0 n n (x.1, x.2.1, ilen x.1, (0 : Int), ())) (fun a1 =>
   some ((true, ()), ((), (), ()))) fun b2 =>
  some (b2, ((), (), ()))
abbrev sl_EqMatch_ent (n : Nat) : Ent := ⟨114, sl_EqMatch_sg, sl_EqMatch_rs, sl_EqMatch n⟩
theorem sl_EqMatch_ok (n : Nat) : EntOk Tryz.prog (sl_EqMatch_ent n) := ent_ok' mixed (T := []) tabNil (tabLCons (sl_EqMatch_l0_ok n n) tabLNil) fun x => by kernel_rfl
abbrev sl_EqStr_sg : List Sg := [.tree (.slice .str), .tree (.slice .str)]
abbrev sl_EqStr_rs : List Rt := [.tree .bool]
def sl_EqStr_l0 (n : Nat) : Nat → SgEl [.tree (.slice .str), .tree (.slice .str), .tree (.int .i64), .tree (.int .i64)] → Option (SgEl [] ⊕ SgEl [.tree .bool])
  | 0, _ => none
  | g + 1, s =>
    bif ilt s.2.2.2.1 s.2.2.1 then
     bif ile (0 : Int) s.2.2.2.1 then
      bindN (lat s.1 (iN s.2.2.2.1)) fun v1 =>
      bif ile (0 : Int) s.2.2.2.1 then
       bindN (lat s.2.1 (iN s.2.2.2.1)) fun v2 =>
       bif !(seq v1 v2) then
        some (Sum.inr (false, ()))
       else
       bindL (sl_EqStr_l0 n g (s.1, s.2.1, s.2.2.1, iadd .i64 s.2.2.2.1 (1 : Int), ())) (fun a3 =>
        some (Sum.inl ())) fun b4 =>
       some (Sum.inr b4)
      else none
     else none
    else
    some (Sum.inl ())
theorem sl_EqStr_l0_ok (n : Nat) : ∀ g, LEntOk Tryz.prog 63 (nSl sl_EqStr_sg) ⟨0, [.tree (.slice .str), .tree (.slice .str), .tree (.int .i64), .tree (.int .i64)], 0, [], [.tree .bool], sl_EqStr_l0 n g⟩ g
  | 0 => loop_zero' fun _ => rfl
  | g + 1 => loop_step' mixed (T := []) tabNil tabLNil (sl_EqStr_l0_ok n g) fun s => by kernel_rfl
def sl_EqStr (n : Nat) (x : SgEl sl_EqStr_sg) : Option (RtEl sl_EqStr_rs × OutEl sl_EqStr_sg) :=
  bif !(ieq (ilen x.1) (ilen x.2.1)) then
   some ((false, ()), ((), (), ()))
  else
  bindL (sl_EqStr_l0 n n (x.1, x.2.1, ilen x.1, (0 : Int), ())) (fun a1 =>
   some ((true, ()), ((), (), ()))) fun b2 =>
  some (b2, ((), (), ()))
abbrev sl_EqStr_ent (n : Nat) : Ent := ⟨63, sl_EqStr_sg, sl_EqStr_rs, sl_EqStr n⟩
theorem sl_EqStr_ok (n : Nat) : EntOk Tryz.prog (sl_EqStr_ent n) := ent_ok' mixed (T := []) tabNil (tabLCons (sl_EqStr_l0_ok n n) tabLNil) fun x => by kernel_rfl
abbrev pick_Same_sg : List Sg := [.tree (.slice tMatch), .tree (.slice tMatch)]
abbrev pick_Same_rs : List Rt := [.tree .bool]
def pick_Same (n : Nat) (x : SgEl pick_Same_sg) : Option (RtEl pick_Same_rs × OutEl pick_Same_sg) :=
  bindN (sl_EqMatch n x) fun p1 =>
  some (p1.1, ((), (), ()))
abbrev pick_Same_ent (n : Nat) : Ent := ⟨62, pick_Same_sg, pick_Same_rs, pick_Same n⟩
theorem pick_Same_ok (n : Nat) : EntOk Tryz.prog (pick_Same_ent n) := ent_ok' mixed (T := [sl_EqMatch_ent n]) (tabCons (sl_EqMatch_ok n) tabNil) tabLNil fun x => by kernel_rfl
abbrev query_Same_sg : List Sg := [.tree tQuery, .tree tQuery]
abbrev query_Same_rs : List Rt := [.tree .bool]
def query_Same (n : Nat) (x : SgEl query_Same_sg) : Option (RtEl query_Same_rs × OutEl query_Same_sg) :=
  bif ieq x.1.1 x.2.1.1 then
   bif seq x.1.2.1 x.2.1.2.1 then
    bindN (pick_Same n (x.1.2.2.1, x.2.1.2.2.1, ())) fun p1 =>
    bif p1.1.1 then
     bindN (sl_EqStr n (x.1.2.2.2.1, x.2.1.2.2.2)) fun p2 =>
     some (p2.1, ((), (), ()))
    else
    some ((false, ()), ((), (), ()))
   else
   some ((false, ()), ((), (), ()))
  else
  some ((false, ()), ((), (), ()))
abbrev query_Same_ent (n : Nat) : Ent := ⟨18, query_Same_sg, query_Same_rs, query_Same n⟩
theorem query_Same_ok (n : Nat) : EntOk Tryz.prog (query_Same_ent n) := ent_ok' mixed (T := [pick_Same_ent n, sl_EqStr_ent n]) (tabCons (pick_Same_ok n) (tabCons (sl_EqStr_ok n) tabNil)) tabLNil fun x => by kernel_rfl
abbrev row_of_sg : List Sg := [.tree tRow]
abbrev row_of_rs : List Rt := [.tree tRow_place]
def row_of (n : Nat) (x : SgEl row_of_sg) : Option (RtEl row_of_rs × OutEl row_of_sg) :=
  some (((x.1.1, x.1.2.1, ()), ()), ((), ()))
abbrev row_of_ent (n : Nat) : Ent := ⟨161, row_of_sg, row_of_rs, row_of n⟩
theorem row_of_ok (n : Nat) : EntOk Tryz.prog (row_of_ent n) := ent_ok' mixed (T := []) tabNil tabLNil fun x => by kernel_rfl
abbrev row_order_sg : List Sg := [.tree tRow_place, .tree tRow_place]
abbrev row_order_rs : List Rt := [.tree (.int .i64)]
def row_order (n : Nat) (x : SgEl row_order_sg) : Option (RtEl row_order_rs × OutEl row_order_sg) :=
  bindN (cmp_Compare n (x.1.1, x.2.1.1, ())) fun p1 =>
  bindN (s_Compare n (x.1.2.1, x.2.1.2)) fun p2 =>
  bindN (cmp_Or n ([p1.1.1, p2.1.1], ())) fun p3 =>
  some (p3.1, ((), (), ()))
abbrev row_order_ent (n : Nat) : Ent := ⟨160, row_order_sg, row_order_rs, row_order n⟩
theorem row_order_ok (n : Nat) : EntOk Tryz.prog (row_order_ent n) := ent_ok' mixed (T := [cmp_Compare_ent n, s_Compare_ent n, cmp_Or_ent n]) (tabCons (cmp_Compare_ok n) (tabCons (s_Compare_ok n) (tabCons (cmp_Or_ok n) tabNil))) tabLNil fun x => by kernel_rfl
abbrev row_Before_sg : List Sg := [.tree tRow, .tree tRow]
abbrev row_Before_rs : List Rt := [.tree .bool]
def row_Before (n : Nat) (x : SgEl row_Before_sg) : Option (RtEl row_Before_rs × OutEl row_Before_sg) :=
  bindN (row_of n (x.1, ())) fun p1 =>
  bindN (row_of n x.2) fun p2 =>
  bindN (row_order n (p1.1.1, p2.1)) fun p3 =>
  some ((ilt p3.1.1 (0 : Int), ()), ((), (), ()))
abbrev row_Before_ent (n : Nat) : Ent := ⟨125, row_Before_sg, row_Before_rs, row_Before n⟩
theorem row_Before_ok (n : Nat) : EntOk Tryz.prog (row_Before_ent n) := ent_ok' mixed (T := [row_of_ent n, row_order_ent n]) (tabCons (row_of_ok n) (tabCons (row_order_ok n) tabNil)) tabLNil fun x => by kernel_rfl
abbrev row_rise_sg : List Sg := [.tree (.slice tRow)]
abbrev row_rise_rs : List Rt := [.tree .bool]
def row_rise_l0 (n : Nat) : Nat → SgEl [.tree (.slice tRow), .tree (.int .i64)] → Option (SgEl [] ⊕ SgEl [.tree .bool])
  | 0, _ => none
  | g + 1, s =>
    bif ilt s.2.1 (ilen s.1) then
     bif ile (0 : Int) (isub .i64 s.2.1 (1 : Int)) then
      bindN (lat s.1 (iN (isub .i64 s.2.1 (1 : Int)))) fun v1 =>
      bif ile (0 : Int) s.2.1 then
       bindN (lat s.1 (iN s.2.1)) fun v2 =>
       bindN (row_Before n (v1, v2, ())) fun p3 =>
       bif !p3.1.1 then
        some (Sum.inr (false, ()))
       else
       bindL (row_rise_l0 n g (s.1, iadd .i64 s.2.1 (1 : Int), ())) (fun a4 =>
        some (Sum.inl ())) fun b5 =>
       some (Sum.inr b5)
      else none
     else none
    else
    some (Sum.inl ())
theorem row_rise_l0_ok (n : Nat) : ∀ g, LEntOk Tryz.prog 156 (nSl row_rise_sg) ⟨0, [.tree (.slice tRow), .tree (.int .i64)], 0, [], [.tree .bool], row_rise_l0 n g⟩ g
  | 0 => loop_zero' fun _ => rfl
  | g + 1 => loop_step' mixed (T := [row_Before_ent n]) (tabCons (row_Before_ok n) tabNil) tabLNil (row_rise_l0_ok n g) fun s => by kernel_rfl
def row_rise (n : Nat) (x : SgEl row_rise_sg) : Option (RtEl row_rise_rs × OutEl row_rise_sg) :=
  bindL (row_rise_l0 n n (x.1, (1 : Int), ())) (fun a1 =>
   some ((true, ()), ((), ()))) fun b2 =>
  some (b2, ((), ()))
abbrev row_rise_ent (n : Nat) : Ent := ⟨156, row_rise_sg, row_rise_rs, row_rise n⟩
theorem row_rise_ok (n : Nat) : EntOk Tryz.prog (row_rise_ent n) := ent_ok' mixed (T := [row_Before_ent n]) (tabCons (row_Before_ok n) tabNil) (tabLCons (row_rise_l0_ok n n) tabLNil) fun x => by kernel_rfl
abbrev row_group_sg : List Sg := [.tree .str]
abbrev row_group_rs : List Rt := [.tree (.int .i64)]
def row_group (n : Nat) (x : SgEl row_group_sg) : Option (RtEl row_group_rs × OutEl row_group_sg) :=
  bindN (tag_Parse n x) fun p1 =>
  bif ieq p1.1.2.1 (0 : Int) then
   bindN (tag_Text n (p1.1.1, ())) fun p2 =>
   bif !(seq p2.1.1 x.1) then
    some (((2 : Int), ()), ((), ()))
   else
   some (p1.1.2, ((), ()))
  else
  some (p1.1.2, ((), ()))
abbrev row_group_ent (n : Nat) : Ent := ⟨159, row_group_sg, row_group_rs, row_group n⟩
theorem row_group_ok (n : Nat) : EntOk Tryz.prog (row_group_ent n) := ent_ok' mixed (T := [tag_Parse_ent n, tag_Text_ent n]) (tabCons (tag_Parse_ok n) (tabCons (tag_Text_ok n) tabNil)) tabLNil fun x => by kernel_rfl
abbrev row_Right1_sg : List Sg := [.tree tRow]
abbrev row_Right1_rs : List Rt := [.tree .bool]
def row_Right1 (n : Nat) (x : SgEl row_Right1_sg) : Option (RtEl row_Right1_rs × OutEl row_Right1_sg) :=
  bindN (row_group n (x.1.2.1, ())) fun p1 =>
  some ((!(ieq p1.1.1 (0 : Int)), ()), ((), ()))
abbrev row_Right1_ent (n : Nat) : Ent := ⟨158, row_Right1_sg, row_Right1_rs, row_Right1 n⟩
theorem row_Right1_ok (n : Nat) : EntOk Tryz.prog (row_Right1_ent n) := ent_ok' mixed (T := [row_group_ent n]) (tabCons (row_group_ok n) tabNil) tabLNil fun x => by kernel_rfl
abbrev sl_IndexRow_sg : List Sg := [.tree (.slice tRow), .fnv 158 []]
abbrev sl_IndexRow_rs : List Rt := [.tree (.int .i64)]
def sl_IndexRow_l0 (n : Nat) : Nat → SgEl [.tree (.slice tRow), .fnv 158 [], .tree (.int .i64), .tree (.int .i64)] → Option (SgEl [] ⊕ SgEl [.tree (.int .i64)])
  | 0, _ => none
  | g + 1, s =>
    bif ilt s.2.2.2.1 s.2.2.1 then
     bif ile (0 : Int) s.2.2.2.1 then
      bindN (lat s.1 (iN s.2.2.2.1)) fun v1 =>
      bindN (row_Right1 n (v1, ())) fun p2 =>
      bif p2.1.1 then
       some (Sum.inr s.2.2.2)
      else
      bindL (sl_IndexRow_l0 n g (s.1, (), s.2.2.1, iadd .i64 s.2.2.2.1 (1 : Int), ())) (fun a3 =>
       some (Sum.inl ())) fun b4 =>
      some (Sum.inr b4)
     else none
    else
    some (Sum.inl ())
theorem sl_IndexRow_l0_ok (n : Nat) : ∀ g, LEntOk Tryz.prog 182 (nSl sl_IndexRow_sg) ⟨0, [.tree (.slice tRow), .fnv 158 [], .tree (.int .i64), .tree (.int .i64)], 0, [], [.tree (.int .i64)], sl_IndexRow_l0 n g⟩ g
  | 0 => loop_zero' fun _ => rfl
  | g + 1 => loop_step' mixed (T := [row_Right1_ent n]) (tabCons (row_Right1_ok n) tabNil) tabLNil (sl_IndexRow_l0_ok n g) fun s => by kernel_rfl
def sl_IndexRow (n : Nat) (x : SgEl sl_IndexRow_sg) : Option (RtEl sl_IndexRow_rs × OutEl sl_IndexRow_sg) :=
  bindL (sl_IndexRow_l0 n n (x.1, (), ilen x.1, (0 : Int), ())) (fun a1 =>
   some (((-1 : Int), ()), ((), (), ()))) fun b2 =>
  some (b2, ((), (), ()))
abbrev sl_IndexRow_ent (n : Nat) : Ent := ⟨182, sl_IndexRow_sg, sl_IndexRow_rs, sl_IndexRow n⟩
theorem sl_IndexRow_ok (n : Nat) : EntOk Tryz.prog (sl_IndexRow_ent n) := ent_ok' mixed (T := [row_Right1_ent n]) (tabCons (row_Right1_ok n) tabNil) (tabLCons (sl_IndexRow_l0_ok n n) tabLNil) fun x => by kernel_rfl
abbrev sl_ContainsRow_sg : List Sg := [.tree (.slice tRow), .fnv 158 []]
abbrev sl_ContainsRow_rs : List Rt := [.tree .bool]
def sl_ContainsRow (n : Nat) (x : SgEl sl_ContainsRow_sg) : Option (RtEl sl_ContainsRow_rs × OutEl sl_ContainsRow_sg) :=
  bindN (sl_IndexRow n (x.1, (), ())) fun p1 =>
  some ((ile (0 : Int) p1.1.1, ()), ((), (), ()))
abbrev sl_ContainsRow_ent (n : Nat) : Ent := ⟨157, sl_ContainsRow_sg, sl_ContainsRow_rs, sl_ContainsRow n⟩
theorem sl_ContainsRow_ok (n : Nat) : EntOk Tryz.prog (sl_ContainsRow_ent n) := ent_ok' mixed (T := [sl_IndexRow_ent n, row_Right1_ent n]) (tabCons (sl_IndexRow_ok n) (tabCons (row_Right1_ok n) tabNil)) tabLNil fun x => by kernel_rfl
abbrev row_Right_sg : List Sg := [.tree (.slice tRow)]
abbrev row_Right_rs : List Rt := [.tree .bool]
def row_Right (n : Nat) (x : SgEl row_Right_sg) : Option (RtEl row_Right_rs × OutEl row_Right_sg) :=
  bindN (row_rise n x) fun p1 =>
  bif p1.1.1 then
   bindN (sl_ContainsRow n (x.1, (), ())) fun p2 =>
   some ((!p2.1.1, ()), ((), ()))
  else
  some ((false, ()), ((), ()))
abbrev row_Right_ent (n : Nat) : Ent := ⟨124, row_Right_sg, row_Right_rs, row_Right n⟩
theorem row_Right_ok (n : Nat) : EntOk Tryz.prog (row_Right_ent n) := ent_ok' mixed (T := [row_rise_ent n, sl_ContainsRow_ent n]) (tabCons (row_rise_ok n) (tabCons (sl_ContainsRow_ok n) tabNil)) tabLNil fun x => by kernel_rfl
abbrev sl_EqRow_sg : List Sg := [.tree (.slice tRow), .tree (.slice tRow)]
abbrev sl_EqRow_rs : List Rt := [.tree .bool]
def sl_EqRow_l0 (n : Nat) : Nat → SgEl [.tree (.slice tRow), .tree (.slice tRow), .tree (.int .i64), .tree (.int .i64)] → Option (SgEl [] ⊕ SgEl [.tree .bool])
  | 0, _ => none
  | g + 1, s =>
    bif ilt s.2.2.2.1 s.2.2.1 then
     bif ile (0 : Int) s.2.2.2.1 then
      bindN (lat s.1 (iN s.2.2.2.1)) fun v1 =>
      bif ile (0 : Int) s.2.2.2.1 then
       bindN (lat s.2.1 (iN s.2.2.2.1)) fun v2 =>
       bif !(ieq v1.1 v2.1 && (seq v1.2.1 v2.2.1 && (ieq v1.2.2.1.1 v2.2.2.1.1 && (beqB v1.2.2.1.2.1 v2.2.2.1.2.1 && true)))) then
        some (Sum.inr (false, ()))
       else
       bindL (sl_EqRow_l0 n g (s.1, s.2.1, s.2.2.1, iadd .i64 s.2.2.2.1 (1 : Int), ())) (fun a3 =>
        some (Sum.inl ())) fun b4 =>
       some (Sum.inr b4)
      else none
     else none
    else
    some (Sum.inl ())
theorem sl_EqRow_l0_ok (n : Nat) : ∀ g, LEntOk Tryz.prog 128 (nSl sl_EqRow_sg) ⟨0, [.tree (.slice tRow), .tree (.slice tRow), .tree (.int .i64), .tree (.int .i64)], 0, [], [.tree .bool], sl_EqRow_l0 n g⟩ g
  | 0 => loop_zero' fun _ => rfl
  | g + 1 => loop_step' mixed (T := []) tabNil tabLNil (sl_EqRow_l0_ok n g) fun s => by kernel_rfl
def sl_EqRow (n : Nat) (x : SgEl sl_EqRow_sg) : Option (RtEl sl_EqRow_rs × OutEl sl_EqRow_sg) :=
  bif !(ieq (ilen x.1) (ilen x.2.1)) then
   some ((false, ()), ((), (), ()))
  else
  bindL (sl_EqRow_l0 n n (x.1, x.2.1, ilen x.1, (0 : Int), ())) (fun a1 =>
   some ((true, ()), ((), (), ()))) fun b2 =>
  some (b2, ((), (), ()))
abbrev sl_EqRow_ent (n : Nat) : Ent := ⟨128, sl_EqRow_sg, sl_EqRow_rs, sl_EqRow n⟩
theorem sl_EqRow_ok (n : Nat) : EntOk Tryz.prog (sl_EqRow_ent n) := ent_ok' mixed (T := []) tabNil (tabLCons (sl_EqRow_l0_ok n n) tabLNil) fun x => by kernel_rfl
abbrev row_Same_sg : List Sg := [.tree (.slice tRow), .tree (.slice tRow)]
abbrev row_Same_rs : List Rt := [.tree .bool]
def row_Same (n : Nat) (x : SgEl row_Same_sg) : Option (RtEl row_Same_rs × OutEl row_Same_sg) :=
  bindN (sl_EqRow n x) fun p1 =>
  some (p1.1, ((), (), ()))
abbrev row_Same_ent (n : Nat) : Ent := ⟨87, row_Same_sg, row_Same_rs, row_Same n⟩
theorem row_Same_ok (n : Nat) : EntOk Tryz.prog (row_Same_ent n) := ent_ok' mixed (T := [sl_EqRow_ent n]) (tabCons (sl_EqRow_ok n) tabNil) tabLNil fun x => by kernel_rfl
abbrev diff_gone_sg : List Sg := [.tree tRow]
abbrev diff_gone_rs : List Rt := [.tree tChange]
def diff_gone (n : Nat) (x : SgEl diff_gone_sg) : Option (RtEl diff_gone_rs × OutEl diff_gone_sg) :=
  some ((((x.1.1, x.1.2.1, ((0 : Int), false, ()), ()), true, ()), ()), ((), ()))
abbrev diff_gone_ent (n : Nat) : Ent := ⟨126, diff_gone_sg, diff_gone_rs, diff_gone n⟩
theorem diff_gone_ok (n : Nat) : EntOk Tryz.prog (diff_gone_ent n) := ent_ok' mixed (T := []) tabNil tabLNil fun x => by kernel_rfl
abbrev diff_Of_sg : List Sg := [.tree (.slice tRow), .tree (.slice tRow)]
abbrev diff_Of_rs : List Rt := [.tree (.slice tChange), .tree (.int .i64)]
def diff_Of_l0 (n : Nat) : Nat → SgEl [.tree (.slice tRow), .tree (.slice tRow), .own tChange] → Option (SgEl [.own tChange] ⊕ SgEl [])
  | 0, _ => none
  | g + 1, s =>
    bif ilt (0 : Int) (ilen s.1) then
     bif ieq (ilen s.2.1) (0 : Int) then
      bif ile (0 : Int) (0 : Int) then
       bindN (lat s.1 (iN (0 : Int))) fun v1 =>
       bindN (diff_gone n (v1, ())) fun p2 =>
       bif roomA s.2.2.1 [p2.1.1] 48 then
        bif ile (0 : Int) (1 : Int) then
         bif ile (1 : Int) (ilen s.1) then
          bif ile (ilen s.1) (ilen s.1) then
           bindL (diff_Of_l0 n g (winI s.1 (1 : Int) (ilen s.1), s.2.1, app s.2.2.1 [p2.1.1], ())) (fun a3 =>
            some (Sum.inl a3)) fun b4 =>
           some (Sum.inr ())
          else none
         else none
        else none
       else none
      else none
     else
     bif ilt (0 : Int) (ilen s.1) then
      bif ile (0 : Int) (0 : Int) then
       bindN (lat s.1 (iN (0 : Int))) fun v5 =>
       bif ile (0 : Int) (0 : Int) then
        bindN (lat s.2.1 (iN (0 : Int))) fun v6 =>
        bindN (row_Before n (v5, v6, ())) fun p7 =>
        bif p7.1.1 then
         bif ile (0 : Int) (0 : Int) then
          bindN (lat s.1 (iN (0 : Int))) fun v8 =>
          bindN (diff_gone n (v8, ())) fun p9 =>
          bif roomA s.2.2.1 [p9.1.1] 48 then
           bif ile (0 : Int) (1 : Int) then
            bif ile (1 : Int) (ilen s.1) then
             bif ile (ilen s.1) (ilen s.1) then
              bindL (diff_Of_l0 n g (winI s.1 (1 : Int) (ilen s.1), s.2.1, app s.2.2.1 [p9.1.1], ())) (fun a10 =>
               some (Sum.inl a10)) fun b11 =>
              some (Sum.inr ())
             else none
            else none
           else none
          else none
         else none
        else
        bif ieq (ilen s.1) (0 : Int) then
         bif ile (0 : Int) (0 : Int) then
          bindN (lat s.2.1 (iN (0 : Int))) fun v12 =>
          bif roomA s.2.2.1 [(v12, false, ())] 48 then
           bif ile (0 : Int) (1 : Int) then
            bif ile (1 : Int) (ilen s.2.1) then
             bif ile (ilen s.2.1) (ilen s.2.1) then
              bindL (diff_Of_l0 n g (s.1, winI s.2.1 (1 : Int) (ilen s.2.1), app s.2.2.1 [(v12, false, ())], ())) (fun a13 =>
               some (Sum.inl a13)) fun b14 =>
              some (Sum.inr ())
             else none
            else none
           else none
          else none
         else none
        else
        bif ile (0 : Int) (0 : Int) then
         bindN (lat s.2.1 (iN (0 : Int))) fun v15 =>
         bif ile (0 : Int) (0 : Int) then
          bindN (lat s.1 (iN (0 : Int))) fun v16 =>
          bindN (row_Before n (v15, v16, ())) fun p17 =>
          bif p17.1.1 then
           bif ile (0 : Int) (0 : Int) then
            bindN (lat s.2.1 (iN (0 : Int))) fun v18 =>
            bif roomA s.2.2.1 [(v18, false, ())] 48 then
             bif ile (0 : Int) (1 : Int) then
              bif ile (1 : Int) (ilen s.2.1) then
               bif ile (ilen s.2.1) (ilen s.2.1) then
                bindL (diff_Of_l0 n g (s.1, winI s.2.1 (1 : Int) (ilen s.2.1), app s.2.2.1 [(v18, false, ())], ())) (fun a19 =>
                 some (Sum.inl a19)) fun b20 =>
                some (Sum.inr ())
               else none
              else none
             else none
            else none
           else none
          else
          bif ile (0 : Int) (0 : Int) then
           bindN (lat s.1 (iN (0 : Int))) fun v21 =>
           bif ile (0 : Int) (0 : Int) then
            bindN (lat s.2.1 (iN (0 : Int))) fun v22 =>
            bif !(ieq v21.1 v22.1 && (seq v21.2.1 v22.2.1 && (ieq v21.2.2.1.1 v22.2.2.1.1 && (beqB v21.2.2.1.2.1 v22.2.2.1.2.1 && true)))) then
             bif ile (0 : Int) (0 : Int) then
              bindN (lat s.2.1 (iN (0 : Int))) fun v23 =>
              bif roomA s.2.2.1 [(v23, false, ())] 48 then
               bif ile (0 : Int) (1 : Int) then
                bif ile (1 : Int) (ilen s.1) then
                 bif ile (ilen s.1) (ilen s.1) then
                  bif ile (0 : Int) (1 : Int) then
                   bif ile (1 : Int) (ilen s.2.1) then
                    bif ile (ilen s.2.1) (ilen s.2.1) then
                     bindL (diff_Of_l0 n g (winI s.1 (1 : Int) (ilen s.1), winI s.2.1 (1 : Int) (ilen s.2.1), app s.2.2.1 [(v23, false, ())], ())) (fun a24 =>
                      some (Sum.inl a24)) fun b25 =>
                     some (Sum.inr ())
                    else none
                   else none
                  else none
                 else none
                else none
               else none
              else none
             else none
            else
            bif ile (0 : Int) (1 : Int) then
             bif ile (1 : Int) (ilen s.1) then
              bif ile (ilen s.1) (ilen s.1) then
               bif ile (0 : Int) (1 : Int) then
                bif ile (1 : Int) (ilen s.2.1) then
                 bif ile (ilen s.2.1) (ilen s.2.1) then
                  bindL (diff_Of_l0 n g (winI s.1 (1 : Int) (ilen s.1), winI s.2.1 (1 : Int) (ilen s.2.1), s.2.2)) (fun a26 =>
                   some (Sum.inl a26)) fun b27 =>
                  some (Sum.inr ())
                 else none
                else none
               else none
              else none
             else none
            else none
           else none
          else none
         else none
        else none
       else none
      else none
     else
     bif ieq (ilen s.1) (0 : Int) then
      bif ile (0 : Int) (0 : Int) then
       bindN (lat s.2.1 (iN (0 : Int))) fun v28 =>
       bif roomA s.2.2.1 [(v28, false, ())] 48 then
        bif ile (0 : Int) (1 : Int) then
         bif ile (1 : Int) (ilen s.2.1) then
          bif ile (ilen s.2.1) (ilen s.2.1) then
           bindL (diff_Of_l0 n g (s.1, winI s.2.1 (1 : Int) (ilen s.2.1), app s.2.2.1 [(v28, false, ())], ())) (fun a29 =>
            some (Sum.inl a29)) fun b30 =>
           some (Sum.inr ())
          else none
         else none
        else none
       else none
      else none
     else
     bif ile (0 : Int) (0 : Int) then
      bindN (lat s.2.1 (iN (0 : Int))) fun v31 =>
      bif ile (0 : Int) (0 : Int) then
       bindN (lat s.1 (iN (0 : Int))) fun v32 =>
       bindN (row_Before n (v31, v32, ())) fun p33 =>
       bif p33.1.1 then
        bif ile (0 : Int) (0 : Int) then
         bindN (lat s.2.1 (iN (0 : Int))) fun v34 =>
         bif roomA s.2.2.1 [(v34, false, ())] 48 then
          bif ile (0 : Int) (1 : Int) then
           bif ile (1 : Int) (ilen s.2.1) then
            bif ile (ilen s.2.1) (ilen s.2.1) then
             bindL (diff_Of_l0 n g (s.1, winI s.2.1 (1 : Int) (ilen s.2.1), app s.2.2.1 [(v34, false, ())], ())) (fun a35 =>
              some (Sum.inl a35)) fun b36 =>
             some (Sum.inr ())
            else none
           else none
          else none
         else none
        else none
       else
       bif ile (0 : Int) (0 : Int) then
        bindN (lat s.1 (iN (0 : Int))) fun v37 =>
        bif ile (0 : Int) (0 : Int) then
         bindN (lat s.2.1 (iN (0 : Int))) fun v38 =>
         bif !(ieq v37.1 v38.1 && (seq v37.2.1 v38.2.1 && (ieq v37.2.2.1.1 v38.2.2.1.1 && (beqB v37.2.2.1.2.1 v38.2.2.1.2.1 && true)))) then
          bif ile (0 : Int) (0 : Int) then
           bindN (lat s.2.1 (iN (0 : Int))) fun v39 =>
           bif roomA s.2.2.1 [(v39, false, ())] 48 then
            bif ile (0 : Int) (1 : Int) then
             bif ile (1 : Int) (ilen s.1) then
              bif ile (ilen s.1) (ilen s.1) then
               bif ile (0 : Int) (1 : Int) then
                bif ile (1 : Int) (ilen s.2.1) then
                 bif ile (ilen s.2.1) (ilen s.2.1) then
                  bindL (diff_Of_l0 n g (winI s.1 (1 : Int) (ilen s.1), winI s.2.1 (1 : Int) (ilen s.2.1), app s.2.2.1 [(v39, false, ())], ())) (fun a40 =>
                   some (Sum.inl a40)) fun b41 =>
                  some (Sum.inr ())
                 else none
                else none
               else none
              else none
             else none
            else none
           else none
          else none
         else
         bif ile (0 : Int) (1 : Int) then
          bif ile (1 : Int) (ilen s.1) then
           bif ile (ilen s.1) (ilen s.1) then
            bif ile (0 : Int) (1 : Int) then
             bif ile (1 : Int) (ilen s.2.1) then
              bif ile (ilen s.2.1) (ilen s.2.1) then
               bindL (diff_Of_l0 n g (winI s.1 (1 : Int) (ilen s.1), winI s.2.1 (1 : Int) (ilen s.2.1), s.2.2)) (fun a42 =>
                some (Sum.inl a42)) fun b43 =>
               some (Sum.inr ())
              else none
             else none
            else none
           else none
          else none
         else none
        else none
       else none
      else none
     else none
    else
    bif ilt (0 : Int) (ilen s.2.1) then
     bif ieq (ilen s.2.1) (0 : Int) then
      bif ile (0 : Int) (0 : Int) then
       bindN (lat s.1 (iN (0 : Int))) fun v44 =>
       bindN (diff_gone n (v44, ())) fun p45 =>
       bif roomA s.2.2.1 [p45.1.1] 48 then
        bif ile (0 : Int) (1 : Int) then
         bif ile (1 : Int) (ilen s.1) then
          bif ile (ilen s.1) (ilen s.1) then
           bindL (diff_Of_l0 n g (winI s.1 (1 : Int) (ilen s.1), s.2.1, app s.2.2.1 [p45.1.1], ())) (fun a46 =>
            some (Sum.inl a46)) fun b47 =>
           some (Sum.inr ())
          else none
         else none
        else none
       else none
      else none
     else
     bif ilt (0 : Int) (ilen s.1) then
      bif ile (0 : Int) (0 : Int) then
       bindN (lat s.1 (iN (0 : Int))) fun v48 =>
       bif ile (0 : Int) (0 : Int) then
        bindN (lat s.2.1 (iN (0 : Int))) fun v49 =>
        bindN (row_Before n (v48, v49, ())) fun p50 =>
        bif p50.1.1 then
         bif ile (0 : Int) (0 : Int) then
          bindN (lat s.1 (iN (0 : Int))) fun v51 =>
          bindN (diff_gone n (v51, ())) fun p52 =>
          bif roomA s.2.2.1 [p52.1.1] 48 then
           bif ile (0 : Int) (1 : Int) then
            bif ile (1 : Int) (ilen s.1) then
             bif ile (ilen s.1) (ilen s.1) then
              bindL (diff_Of_l0 n g (winI s.1 (1 : Int) (ilen s.1), s.2.1, app s.2.2.1 [p52.1.1], ())) (fun a53 =>
               some (Sum.inl a53)) fun b54 =>
              some (Sum.inr ())
             else none
            else none
           else none
          else none
         else none
        else
        bif ieq (ilen s.1) (0 : Int) then
         bif ile (0 : Int) (0 : Int) then
          bindN (lat s.2.1 (iN (0 : Int))) fun v55 =>
          bif roomA s.2.2.1 [(v55, false, ())] 48 then
           bif ile (0 : Int) (1 : Int) then
            bif ile (1 : Int) (ilen s.2.1) then
             bif ile (ilen s.2.1) (ilen s.2.1) then
              bindL (diff_Of_l0 n g (s.1, winI s.2.1 (1 : Int) (ilen s.2.1), app s.2.2.1 [(v55, false, ())], ())) (fun a56 =>
               some (Sum.inl a56)) fun b57 =>
              some (Sum.inr ())
             else none
            else none
           else none
          else none
         else none
        else
        bif ile (0 : Int) (0 : Int) then
         bindN (lat s.2.1 (iN (0 : Int))) fun v58 =>
         bif ile (0 : Int) (0 : Int) then
          bindN (lat s.1 (iN (0 : Int))) fun v59 =>
          bindN (row_Before n (v58, v59, ())) fun p60 =>
          bif p60.1.1 then
           bif ile (0 : Int) (0 : Int) then
            bindN (lat s.2.1 (iN (0 : Int))) fun v61 =>
            bif roomA s.2.2.1 [(v61, false, ())] 48 then
             bif ile (0 : Int) (1 : Int) then
              bif ile (1 : Int) (ilen s.2.1) then
               bif ile (ilen s.2.1) (ilen s.2.1) then
                bindL (diff_Of_l0 n g (s.1, winI s.2.1 (1 : Int) (ilen s.2.1), app s.2.2.1 [(v61, false, ())], ())) (fun a62 =>
                 some (Sum.inl a62)) fun b63 =>
                some (Sum.inr ())
               else none
              else none
             else none
            else none
           else none
          else
          bif ile (0 : Int) (0 : Int) then
           bindN (lat s.1 (iN (0 : Int))) fun v64 =>
           bif ile (0 : Int) (0 : Int) then
            bindN (lat s.2.1 (iN (0 : Int))) fun v65 =>
            bif !(ieq v64.1 v65.1 && (seq v64.2.1 v65.2.1 && (ieq v64.2.2.1.1 v65.2.2.1.1 && (beqB v64.2.2.1.2.1 v65.2.2.1.2.1 && true)))) then
             bif ile (0 : Int) (0 : Int) then
              bindN (lat s.2.1 (iN (0 : Int))) fun v66 =>
              bif roomA s.2.2.1 [(v66, false, ())] 48 then
               bif ile (0 : Int) (1 : Int) then
                bif ile (1 : Int) (ilen s.1) then
                 bif ile (ilen s.1) (ilen s.1) then
                  bif ile (0 : Int) (1 : Int) then
                   bif ile (1 : Int) (ilen s.2.1) then
                    bif ile (ilen s.2.1) (ilen s.2.1) then
                     bindL (diff_Of_l0 n g (winI s.1 (1 : Int) (ilen s.1), winI s.2.1 (1 : Int) (ilen s.2.1), app s.2.2.1 [(v66, false, ())], ())) (fun a67 =>
                      some (Sum.inl a67)) fun b68 =>
                     some (Sum.inr ())
                    else none
                   else none
                  else none
                 else none
                else none
               else none
              else none
             else none
            else
            bif ile (0 : Int) (1 : Int) then
             bif ile (1 : Int) (ilen s.1) then
              bif ile (ilen s.1) (ilen s.1) then
               bif ile (0 : Int) (1 : Int) then
                bif ile (1 : Int) (ilen s.2.1) then
                 bif ile (ilen s.2.1) (ilen s.2.1) then
                  bindL (diff_Of_l0 n g (winI s.1 (1 : Int) (ilen s.1), winI s.2.1 (1 : Int) (ilen s.2.1), s.2.2)) (fun a69 =>
                   some (Sum.inl a69)) fun b70 =>
                  some (Sum.inr ())
                 else none
                else none
               else none
              else none
             else none
            else none
           else none
          else none
         else none
        else none
       else none
      else none
     else
     bif ieq (ilen s.1) (0 : Int) then
      bif ile (0 : Int) (0 : Int) then
       bindN (lat s.2.1 (iN (0 : Int))) fun v71 =>
       bif roomA s.2.2.1 [(v71, false, ())] 48 then
        bif ile (0 : Int) (1 : Int) then
         bif ile (1 : Int) (ilen s.2.1) then
          bif ile (ilen s.2.1) (ilen s.2.1) then
           bindL (diff_Of_l0 n g (s.1, winI s.2.1 (1 : Int) (ilen s.2.1), app s.2.2.1 [(v71, false, ())], ())) (fun a72 =>
            some (Sum.inl a72)) fun b73 =>
           some (Sum.inr ())
          else none
         else none
        else none
       else none
      else none
     else
     bif ile (0 : Int) (0 : Int) then
      bindN (lat s.2.1 (iN (0 : Int))) fun v74 =>
      bif ile (0 : Int) (0 : Int) then
       bindN (lat s.1 (iN (0 : Int))) fun v75 =>
       bindN (row_Before n (v74, v75, ())) fun p76 =>
       bif p76.1.1 then
        bif ile (0 : Int) (0 : Int) then
         bindN (lat s.2.1 (iN (0 : Int))) fun v77 =>
         bif roomA s.2.2.1 [(v77, false, ())] 48 then
          bif ile (0 : Int) (1 : Int) then
           bif ile (1 : Int) (ilen s.2.1) then
            bif ile (ilen s.2.1) (ilen s.2.1) then
             bindL (diff_Of_l0 n g (s.1, winI s.2.1 (1 : Int) (ilen s.2.1), app s.2.2.1 [(v77, false, ())], ())) (fun a78 =>
              some (Sum.inl a78)) fun b79 =>
             some (Sum.inr ())
            else none
           else none
          else none
         else none
        else none
       else
       bif ile (0 : Int) (0 : Int) then
        bindN (lat s.1 (iN (0 : Int))) fun v80 =>
        bif ile (0 : Int) (0 : Int) then
         bindN (lat s.2.1 (iN (0 : Int))) fun v81 =>
         bif !(ieq v80.1 v81.1 && (seq v80.2.1 v81.2.1 && (ieq v80.2.2.1.1 v81.2.2.1.1 && (beqB v80.2.2.1.2.1 v81.2.2.1.2.1 && true)))) then
          bif ile (0 : Int) (0 : Int) then
           bindN (lat s.2.1 (iN (0 : Int))) fun v82 =>
           bif roomA s.2.2.1 [(v82, false, ())] 48 then
            bif ile (0 : Int) (1 : Int) then
             bif ile (1 : Int) (ilen s.1) then
              bif ile (ilen s.1) (ilen s.1) then
               bif ile (0 : Int) (1 : Int) then
                bif ile (1 : Int) (ilen s.2.1) then
                 bif ile (ilen s.2.1) (ilen s.2.1) then
                  bindL (diff_Of_l0 n g (winI s.1 (1 : Int) (ilen s.1), winI s.2.1 (1 : Int) (ilen s.2.1), app s.2.2.1 [(v82, false, ())], ())) (fun a83 =>
                   some (Sum.inl a83)) fun b84 =>
                  some (Sum.inr ())
                 else none
                else none
               else none
              else none
             else none
            else none
           else none
          else none
         else
         bif ile (0 : Int) (1 : Int) then
          bif ile (1 : Int) (ilen s.1) then
           bif ile (ilen s.1) (ilen s.1) then
            bif ile (0 : Int) (1 : Int) then
             bif ile (1 : Int) (ilen s.2.1) then
              bif ile (ilen s.2.1) (ilen s.2.1) then
               bindL (diff_Of_l0 n g (winI s.1 (1 : Int) (ilen s.1), winI s.2.1 (1 : Int) (ilen s.2.1), s.2.2)) (fun a85 =>
                some (Sum.inl a85)) fun b86 =>
               some (Sum.inr ())
              else none
             else none
            else none
           else none
          else none
         else none
        else none
       else none
      else none
     else none
    else
    some (Sum.inl s.2.2)
theorem diff_Of_l0_ok (n : Nat) : ∀ g, LEntOk Tryz.prog 80 (nSl diff_Of_sg) ⟨0, [.tree (.slice tRow), .tree (.slice tRow), .own tChange], 0, [.own tChange], [], diff_Of_l0 n g⟩ g
  | 0 => loop_zero' fun _ => rfl
  | g + 1 => loop_step' mixed (T := [row_Right_ent n, row_Before_ent n, diff_gone_ent n]) (tabCons (row_Right_ok n) (tabCons (row_Before_ok n) (tabCons (diff_gone_ok n) tabNil))) tabLNil (diff_Of_l0_ok n g) fun s => by kernel_rfl
def diff_Of (n : Nat) (x : SgEl diff_Of_sg) : Option (RtEl diff_Of_rs × OutEl diff_Of_sg) :=
  bindN (row_Right n (x.1, ())) fun p1 =>
  bif !p1.1.1 then
   some (([], (9 : Int), ()), ((), (), ()))
  else
  bindN (row_Right n x.2) fun p2 =>
  bif !p2.1.1 then
   some (([], (9 : Int), ()), ((), (), ()))
  else
  bindL (diff_Of_l0 n n (x.1, x.2.1, [], ())) (fun a3 =>
   some ((a3.1, (0 : Int), ()), ((), (), ()))) fun b4 =>
  none
abbrev diff_Of_ent (n : Nat) : Ent := ⟨80, diff_Of_sg, diff_Of_rs, diff_Of n⟩
theorem diff_Of_ok (n : Nat) : EntOk Tryz.prog (diff_Of_ent n) := ent_ok' mixed (T := [row_Right_ent n, row_Before_ent n, diff_gone_ent n]) (tabCons (row_Right_ok n) (tabCons (row_Before_ok n) (tabCons (diff_gone_ok n) tabNil))) (tabLCons (diff_Of_l0_ok n n) tabLNil) fun x => by kernel_rfl
abbrev diff_right_sg : List Sg := [.tree (.slice tChange)]
abbrev diff_right_rs : List Rt := [.tree .bool]
def diff_right_l0 (n : Nat) : Nat → SgEl [.own tRow, .tree (.slice tChange), .tree (.int .i64), .tree (.int .i64)] → Option (SgEl [.own tRow] ⊕ SgEl [.tree .bool])
  | 0, _ => none
  | g + 1, s =>
    bif ilt s.2.2.2.1 s.2.2.1 then
     bif ile (0 : Int) s.2.2.2.1 then
      bindN (lat s.2.1 (iN s.2.2.2.1)) fun v1 =>
      bif v1.2.1 then
       bindN (diff_gone n (v1.1, ())) fun p2 =>
       bif !(ieq v1.1.1 p2.1.1.1.1 && (seq v1.1.2.1 p2.1.1.1.2.1 && (ieq v1.1.2.2.1.1 p2.1.1.1.2.2.1.1 && (beqB v1.1.2.2.1.2.1 p2.1.1.1.2.2.1.2.1 && (beqB v1.2.1 p2.1.1.2.1 && true))))) then
        some (Sum.inr (false, ()))
       else
       bif roomA s.1 [v1.1] 40 then
        bindL (diff_right_l0 n g (app s.1 [v1.1], s.2.1, s.2.2.1, iadd .i64 s.2.2.2.1 (1 : Int), ())) (fun a3 =>
         some (Sum.inl a3)) fun b4 =>
        some (Sum.inr b4)
       else none
      else
      bif roomA s.1 [v1.1] 40 then
       bindL (diff_right_l0 n g (app s.1 [v1.1], s.2.1, s.2.2.1, iadd .i64 s.2.2.2.1 (1 : Int), ())) (fun a5 =>
        some (Sum.inl a5)) fun b6 =>
       some (Sum.inr b6)
      else none
     else none
    else
    some (Sum.inl (s.1, ()))
theorem diff_right_l0_ok (n : Nat) : ∀ g, LEntOk Tryz.prog 163 (nSl diff_right_sg) ⟨0, [.own tRow, .tree (.slice tChange), .tree (.int .i64), .tree (.int .i64)], 0, [.own tRow], [.tree .bool], diff_right_l0 n g⟩ g
  | 0 => loop_zero' fun _ => rfl
  | g + 1 => loop_step' mixed (T := [diff_gone_ent n, row_Right_ent n]) (tabCons (diff_gone_ok n) (tabCons (row_Right_ok n) tabNil)) tabLNil (diff_right_l0_ok n g) fun s => by kernel_rfl
def diff_right (n : Nat) (x : SgEl diff_right_sg) : Option (RtEl diff_right_rs × OutEl diff_right_sg) :=
  bindL (diff_right_l0 n n ([], x.1, ilen x.1, (0 : Int), ())) (fun a1 =>
   bindN (row_Right n a1) fun p3 =>
   some (p3.1, ((), ()))) fun b2 =>
  some (b2, ((), ()))
abbrev diff_right_ent (n : Nat) : Ent := ⟨163, diff_right_sg, diff_right_rs, diff_right n⟩
theorem diff_right_ok (n : Nat) : EntOk Tryz.prog (diff_right_ent n) := ent_ok' mixed (T := [diff_gone_ent n, row_Right_ent n]) (tabCons (diff_gone_ok n) (tabCons (row_Right_ok n) tabNil)) (tabLCons (diff_right_l0_ok n n) tabLNil) fun x => by kernel_rfl
abbrev diff_Apply_sg : List Sg := [.tree (.slice tRow), .tree (.slice tChange)]
abbrev diff_Apply_rs : List Rt := [.tree (.slice tRow), .tree (.int .i64)]
def diff_Apply_l1 (n : Nat) : Nat → SgEl [.own tRow, .tree (.slice tRow), .boxr tChange, .tree (.slice tChange), .tree (.int .i64), .tree (.int .i64)] → Option (SgEl [.own tRow, .tree (.slice tRow), .boxr tChange, .tree (.slice tChange), .tree (.int .i64), .tree (.int .i64)] ⊕ SgEl [])
  | 0, _ => none
  | g + 1, s =>
    bif ilt (0 : Int) (ilen s.2.1) then
     bif ile (0 : Int) (0 : Int) then
      bindN (lat s.2.1 (iN (0 : Int))) fun v1 =>
      bindN (row_Before n (v1, s.2.2.1.1, ())) fun p2 =>
      bif p2.1.1 then
       bif ile (0 : Int) (0 : Int) then
        bindN (lat s.2.1 (iN (0 : Int))) fun v3 =>
        bif roomA s.1 [v3] 40 then
         bif ile (0 : Int) (1 : Int) then
          bif ile (1 : Int) (ilen s.2.1) then
           bif ile (ilen s.2.1) (ilen s.2.1) then
            bindL (diff_Apply_l1 n g (app s.1 [v3], winI s.2.1 (1 : Int) (ilen s.2.1), s.2.2)) (fun a4 =>
             some (Sum.inl a4)) fun b5 =>
            some (Sum.inr ())
           else none
          else none
         else none
        else none
       else none
      else
      some (Sum.inl s)
     else none
    else
    some (Sum.inl s)
theorem diff_Apply_l1_ok (n : Nat) : ∀ g, LEntOk Tryz.prog 130 (nSl diff_Apply_sg) ⟨1, [.own tRow, .tree (.slice tRow), .boxr tChange, .tree (.slice tChange), .tree (.int .i64), .tree (.int .i64)], 2, [.own tRow, .tree (.slice tRow), .boxr tChange, .tree (.slice tChange), .tree (.int .i64), .tree (.int .i64)], [], diff_Apply_l1 n g⟩ g
  | 0 => loop_zero' fun _ => rfl
  | g + 1 => loop_step' mixed (T := [row_Right_ent n, diff_right_ent n, row_Before_ent n]) (tabCons (row_Right_ok n) (tabCons (diff_right_ok n) (tabCons (row_Before_ok n) tabNil))) tabLNil (diff_Apply_l1_ok n g) fun s => by kernel_rfl
def diff_Apply_l0 (n : Nat) : Nat → SgEl [.own tRow, .tree (.slice tRow), .tree (.slice tChange), .tree (.int .i64), .tree (.int .i64)] → Option (SgEl [.own tRow, .tree (.slice tRow)] ⊕ SgEl [.tree (.slice tRow), .tree (.int .i64)])
  | 0, _ => none
  | g + 1, s =>
    bif ilt s.2.2.2.2.1 s.2.2.2.1 then
     bif ile (0 : Int) s.2.2.2.2.1 then
      bindN (lat s.2.2.1 (iN s.2.2.2.2.1)) fun v1 =>
      bindL (diff_Apply_l1 n n (s.1, s.2.1, v1, s.2.2)) (fun a2 =>
       bif ilt (0 : Int) (ilen a2.2.1) then
        bif ile (0 : Int) (0 : Int) then
         bindN (lat a2.2.1 (iN (0 : Int))) fun v4 =>
         bindN (row_Before n (a2.2.2.1.1, v4, ())) fun p5 =>
         bif !p5.1.1 then
          bif ile (0 : Int) (1 : Int) then
           bif ile (1 : Int) (ilen a2.2.1) then
            bif ile (ilen a2.2.1) (ilen a2.2.1) then
             bif !a2.2.2.1.2.1 then
              bif roomA a2.1 [a2.2.2.1.1] 40 then
               bindL (diff_Apply_l0 n g (app a2.1 [a2.2.2.1.1], winI a2.2.1 (1 : Int) (ilen a2.2.1), a2.2.2.2.1, a2.2.2.2.2.1, iadd .i64 a2.2.2.2.2.2.1 (1 : Int), ())) (fun a6 =>
                some (Sum.inl a6)) fun b7 =>
               some (Sum.inr b7)
              else none
             else
             bif !(!p5.1.1) then
              some (Sum.inr ([], (6 : Int), ()))
             else
             bindL (diff_Apply_l0 n g (a2.1, winI a2.2.1 (1 : Int) (ilen a2.2.1), a2.2.2.2.1, a2.2.2.2.2.1, iadd .i64 a2.2.2.2.2.2.1 (1 : Int), ())) (fun a8 =>
              some (Sum.inl a8)) fun b9 =>
             some (Sum.inr b9)
            else none
           else none
          else none
         else
         bif !a2.2.2.1.2.1 then
          bif roomA a2.1 [a2.2.2.1.1] 40 then
           bindL (diff_Apply_l0 n g (app a2.1 [a2.2.2.1.1], a2.2.1, a2.2.2.2.1, a2.2.2.2.2.1, iadd .i64 a2.2.2.2.2.2.1 (1 : Int), ())) (fun a10 =>
            some (Sum.inl a10)) fun b11 =>
           some (Sum.inr b11)
          else none
         else
         bif !(!p5.1.1) then
          some (Sum.inr ([], (6 : Int), ()))
         else
         bindL (diff_Apply_l0 n g (a2.1, a2.2.1, a2.2.2.2.1, a2.2.2.2.2.1, iadd .i64 a2.2.2.2.2.2.1 (1 : Int), ())) (fun a12 =>
          some (Sum.inl a12)) fun b13 =>
         some (Sum.inr b13)
        else none
       else
       bif !a2.2.2.1.2.1 then
        bif roomA a2.1 [a2.2.2.1.1] 40 then
         bindL (diff_Apply_l0 n g (app a2.1 [a2.2.2.1.1], a2.2.1, a2.2.2.2.1, a2.2.2.2.2.1, iadd .i64 a2.2.2.2.2.2.1 (1 : Int), ())) (fun a14 =>
          some (Sum.inl a14)) fun b15 =>
         some (Sum.inr b15)
        else none
       else
       some (Sum.inr ([], (6 : Int), ()))) fun b3 =>
      none
     else none
    else
    some (Sum.inl (s.1, s.2.1, ()))
theorem diff_Apply_l0_ok (n : Nat) : ∀ g, LEntOk Tryz.prog 130 (nSl diff_Apply_sg) ⟨0, [.own tRow, .tree (.slice tRow), .tree (.slice tChange), .tree (.int .i64), .tree (.int .i64)], 0, [.own tRow, .tree (.slice tRow)], [.tree (.slice tRow), .tree (.int .i64)], diff_Apply_l0 n g⟩ g
  | 0 => loop_zero' fun _ => rfl
  | g + 1 => loop_step' mixed (T := [row_Right_ent n, diff_right_ent n, row_Before_ent n]) (tabCons (row_Right_ok n) (tabCons (diff_right_ok n) (tabCons (row_Before_ok n) tabNil))) (tabLCons (diff_Apply_l1_ok n n) tabLNil) (diff_Apply_l0_ok n g) fun s => by kernel_rfl
def diff_Apply (n : Nat) (x : SgEl diff_Apply_sg) : Option (RtEl diff_Apply_rs × OutEl diff_Apply_sg) :=
  bindN (row_Right n (x.1, ())) fun p1 =>
  bif !p1.1.1 then
   some (([], (9 : Int), ()), ((), (), ()))
  else
  bindN (diff_right n x.2) fun p2 =>
  bif !p2.1.1 then
   some (([], (9 : Int), ()), ((), (), ()))
  else
  bindL (diff_Apply_l0 n n ([], x.1, x.2.1, ilen x.2.1, (0 : Int), ())) (fun a3 =>
   bif roomA a3.1 a3.2.1 40 then
    some ((app a3.1 a3.2.1, (0 : Int), ()), ((), (), ()))
   else none) fun b4 =>
  some (b4, ((), (), ()))
abbrev diff_Apply_ent (n : Nat) : Ent := ⟨130, diff_Apply_sg, diff_Apply_rs, diff_Apply n⟩
theorem diff_Apply_ok (n : Nat) : EntOk Tryz.prog (diff_Apply_ent n) := ent_ok' mixed (T := [row_Right_ent n, diff_right_ent n, row_Before_ent n]) (tabCons (row_Right_ok n) (tabCons (diff_right_ok n) (tabCons (row_Before_ok n) tabNil))) (tabLCons (diff_Apply_l0_ok n n) (tabLCons (diff_Apply_l1_ok n n) tabLNil)) fun x => by kernel_rfl
abbrev sl_EqChange_sg : List Sg := [.tree (.slice tChange), .tree (.slice tChange)]
abbrev sl_EqChange_rs : List Rt := [.tree .bool]
def sl_EqChange_l0 (n : Nat) : Nat → SgEl [.tree (.slice tChange), .tree (.slice tChange), .tree (.int .i64), .tree (.int .i64)] → Option (SgEl [] ⊕ SgEl [.tree .bool])
  | 0, _ => none
  | g + 1, s =>
    bif ilt s.2.2.2.1 s.2.2.1 then
     bif ile (0 : Int) s.2.2.2.1 then
      bindN (lat s.1 (iN s.2.2.2.1)) fun v1 =>
      bif ile (0 : Int) s.2.2.2.1 then
       bindN (lat s.2.1 (iN s.2.2.2.1)) fun v2 =>
       bif !(ieq v1.1.1 v2.1.1 && (seq v1.1.2.1 v2.1.2.1 && (ieq v1.1.2.2.1.1 v2.1.2.2.1.1 && (beqB v1.1.2.2.1.2.1 v2.1.2.2.1.2.1 && (beqB v1.2.1 v2.2.1 && true))))) then
        some (Sum.inr (false, ()))
       else
       bindL (sl_EqChange_l0 n g (s.1, s.2.1, s.2.2.1, iadd .i64 s.2.2.2.1 (1 : Int), ())) (fun a3 =>
        some (Sum.inl ())) fun b4 =>
       some (Sum.inr b4)
      else none
     else none
    else
    some (Sum.inl ())
theorem sl_EqChange_l0_ok (n : Nat) : ∀ g, LEntOk Tryz.prog 129 (nSl sl_EqChange_sg) ⟨0, [.tree (.slice tChange), .tree (.slice tChange), .tree (.int .i64), .tree (.int .i64)], 0, [], [.tree .bool], sl_EqChange_l0 n g⟩ g
  | 0 => loop_zero' fun _ => rfl
  | g + 1 => loop_step' mixed (T := []) tabNil tabLNil (sl_EqChange_l0_ok n g) fun s => by kernel_rfl
def sl_EqChange (n : Nat) (x : SgEl sl_EqChange_sg) : Option (RtEl sl_EqChange_rs × OutEl sl_EqChange_sg) :=
  bif !(ieq (ilen x.1) (ilen x.2.1)) then
   some ((false, ()), ((), (), ()))
  else
  bindL (sl_EqChange_l0 n n (x.1, x.2.1, ilen x.1, (0 : Int), ())) (fun a1 =>
   some ((true, ()), ((), (), ()))) fun b2 =>
  some (b2, ((), (), ()))
abbrev sl_EqChange_ent (n : Nat) : Ent := ⟨129, sl_EqChange_sg, sl_EqChange_rs, sl_EqChange n⟩
theorem sl_EqChange_ok (n : Nat) : EntOk Tryz.prog (sl_EqChange_ent n) := ent_ok' mixed (T := []) tabNil (tabLCons (sl_EqChange_l0_ok n n) tabLNil) fun x => by kernel_rfl
abbrev diff_Same_sg : List Sg := [.tree (.slice tChange), .tree (.slice tChange)]
abbrev diff_Same_rs : List Rt := [.tree .bool]
def diff_Same (n : Nat) (x : SgEl diff_Same_sg) : Option (RtEl diff_Same_rs × OutEl diff_Same_sg) :=
  bindN (sl_EqChange n x) fun p1 =>
  some (p1.1, ((), (), ()))
abbrev diff_Same_ent (n : Nat) : Ent := ⟨89, diff_Same_sg, diff_Same_rs, diff_Same n⟩
theorem diff_Same_ok (n : Nat) : EntOk Tryz.prog (diff_Same_ent n) := ent_ok' mixed (T := [sl_EqChange_ent n]) (tabCons (sl_EqChange_ok n) tabNil) tabLNil fun x => by kernel_rfl
abbrev sl_ConcatMsg_sg : List Sg := [.tree (.slice (.slice tMessage))]
abbrev sl_ConcatMsg_rs : List Rt := [.own tMessage]
def sl_ConcatMsg_l1 (n : Nat) : Nat → SgEl [.own tMessage, .tree (.slice (.slice tMessage)), .tree (.int .i64), .tree (.int .i64)] → Option (SgEl [.own tMessage] ⊕ SgEl [])
  | 0, _ => none
  | g + 1, s =>
    bif ilt s.2.2.2.1 s.2.2.1 then
     bif ile (0 : Int) s.2.2.2.1 then
      bindN (lat s.2.1 (iN s.2.2.2.1)) fun v1 =>
      bif roomA s.1 v1 72 then
       bindL (sl_ConcatMsg_l1 n g (app s.1 v1, s.2.1, s.2.2.1, iadd .i64 s.2.2.2.1 (1 : Int), ())) (fun a2 =>
        some (Sum.inl a2)) fun b3 =>
       some (Sum.inr ())
      else none
     else none
    else
    some (Sum.inl (s.1, ()))
theorem sl_ConcatMsg_l1_ok (n : Nat) : ∀ g, LEntOk Tryz.prog 162 (nSl sl_ConcatMsg_sg) ⟨1, [.own tMessage, .tree (.slice (.slice tMessage)), .tree (.int .i64), .tree (.int .i64)], 2, [.own tMessage], [], sl_ConcatMsg_l1 n g⟩ g
  | 0 => loop_zero' fun _ => rfl
  | g + 1 => loop_step' mixed (T := [sl_GrowMsg_ent n]) (tabCons (sl_GrowMsg_ok n) tabNil) tabLNil (sl_ConcatMsg_l1_ok n g) fun s => by kernel_rfl
def sl_ConcatMsg_l0 (n : Nat) : Nat → SgEl [.tree (.slice (.slice tMessage)), .tree (.int .i64), .tree (.slice (.slice tMessage)), .tree (.int .i64), .tree (.int .i64)] → Option (SgEl [.tree (.slice (.slice tMessage)), .tree (.int .i64)] ⊕ SgEl [])
  | 0, _ => none
  | g + 1, s =>
    bif ilt s.2.2.2.2.1 s.2.2.2.1 then
     bif ile (0 : Int) s.2.2.2.2.1 then
      bindN (lat s.2.2.1 (iN s.2.2.2.2.1)) fun v1 =>
      bif ilt (iadd .i64 s.2.1 (ilen v1)) (0 : Int) then
       none
      else
      bindL (sl_ConcatMsg_l0 n g (s.1, iadd .i64 s.2.1 (ilen v1), s.2.2.1, s.2.2.2.1, iadd .i64 s.2.2.2.2.1 (1 : Int), ())) (fun a2 =>
       some (Sum.inl a2)) fun b3 =>
      some (Sum.inr ())
     else none
    else
    some (Sum.inl (s.1, s.2.1, ()))
theorem sl_ConcatMsg_l0_ok (n : Nat) : ∀ g, LEntOk Tryz.prog 162 (nSl sl_ConcatMsg_sg) ⟨0, [.tree (.slice (.slice tMessage)), .tree (.int .i64), .tree (.slice (.slice tMessage)), .tree (.int .i64), .tree (.int .i64)], 0, [.tree (.slice (.slice tMessage)), .tree (.int .i64)], [], sl_ConcatMsg_l0 n g⟩ g
  | 0 => loop_zero' fun _ => rfl
  | g + 1 => loop_step' mixed (T := [sl_GrowMsg_ent n]) (tabCons (sl_GrowMsg_ok n) tabNil) (tabLCons (sl_ConcatMsg_l1_ok n n) tabLNil) (sl_ConcatMsg_l0_ok n g) fun s => by kernel_rfl
def sl_ConcatMsg (n : Nat) (x : SgEl sl_ConcatMsg_sg) : Option (RtEl sl_ConcatMsg_rs × OutEl sl_ConcatMsg_sg) :=
  bindL (sl_ConcatMsg_l0 n n (x.1, (0 : Int), x.1, ilen x.1, (0 : Int), ())) (fun a1 =>
   bindN (sl_GrowMsg n ((), a1.2)) fun p3 =>
   bindL (sl_ConcatMsg_l1 n n (p3.1.1, a1.1, ilen a1.1, (0 : Int), ())) (fun a4 =>
    some (a4, ((), ()))) fun b5 =>
   none) fun b2 =>
  none
abbrev sl_ConcatMsg_ent (n : Nat) : Ent := ⟨162, sl_ConcatMsg_sg, sl_ConcatMsg_rs, sl_ConcatMsg n⟩
theorem sl_ConcatMsg_ok (n : Nat) : EntOk Tryz.prog (sl_ConcatMsg_ent n) := ent_ok' mixed (T := [sl_GrowMsg_ent n]) (tabCons (sl_GrowMsg_ok n) tabNil) (tabLCons (sl_ConcatMsg_l0_ok n n) (tabLCons (sl_ConcatMsg_l1_ok n n) tabLNil)) fun x => by kernel_rfl
abbrev sub_free_sg : List Sg := [.box [.tree tSub, .tree (.int .i64)]]
abbrev sub_free_rs : List Rt := [.tree .bool]
def sub_free (n : Nat) (x : SgEl sub_free_sg) : Option (RtEl sub_free_rs × OutEl sub_free_sg) :=
  some ((ilt (ilen x.1.1.2.2.2.2.1) x.1.2.1, ()), x)
abbrev sub_free_ent (n : Nat) : Ent := ⟨84, sub_free_sg, sub_free_rs, sub_free n⟩
theorem sub_free_ok (n : Nat) : EntOk Tryz.prog (sub_free_ent n) := ent_ok' mixed (T := []) tabNil tabLNil fun x => by kernel_rfl
abbrev sub_put_sg : List Sg := [.box [.tree tSub, .tree (.int .i64)], .tree tMessage, .tree (.slice tRow)]
abbrev sub_put_rs : List Rt := []
def sub_put (n : Nat) (x : SgEl sub_put_sg) : Option (RtEl sub_put_rs × OutEl sub_put_sg) :=
  bindN (sl_ConcatMsg n ([x.1.1.2.2.2.2.1, [(x.2.1.1, x.1.1.1, x.2.1.2.2)]], ())) fun p1 =>
  some ((), (((x.1.1.1, x.1.1.2.1, x.2.1.2.2.1, x.2.2.1, p1.1.1, x.1.1.2.2.2.2.2), x.1.2), (), (), ()))
abbrev sub_put_ent (n : Nat) : Ent := ⟨127, sub_put_sg, sub_put_rs, sub_put n⟩
theorem sub_put_ok (n : Nat) : EntOk Tryz.prog (sub_put_ent n) := ent_ok' mixed (T := [sl_ConcatMsg_ent n]) (tabCons (sl_ConcatMsg_ok n) tabNil) tabLNil fun x => by kernel_rfl
abbrev sub_push_sg : List Sg := [.box [.tree tSub, .tree (.int .i64)], .tree (.int .i64), .tree (.slice tRow), .tree (.slice tChange)]
abbrev sub_push_rs : List Rt := []
def sub_push (n : Nat) (x : SgEl sub_push_sg) : Option (RtEl sub_push_rs × OutEl sub_push_sg) :=
  bif !x.1.1.2.2.2.2.2.1 then
   bindN (sub_put n (((x.1.1.1, x.1.1.2.1, x.1.1.2.2.1, x.1.1.2.2.2.1, x.1.1.2.2.2.2.1, true, x.1.1.2.2.2.2.2.2), x.1.2), ((1 : Int), (0 : Int), x.2.1, x.2.2.1, [], ()), x.2.2.1, ())) fun p1 =>
   some ((), (p1.2.1, (), (), (), ()))
  else
  bif ile x.2.1 x.1.1.2.2.1 then
   some ((), (x.1, (), (), (), ()))
  else
  bif x.1.1.2.2.2.2.2.2.1 then
   bindN (sub_free n (x.1, ())) fun p2 =>
   bif p2.1.1 then
    bindN (sub_put n (((p2.2.1.1.1, p2.2.1.1.2.1, p2.2.1.1.2.2.1, p2.2.1.1.2.2.2.1, p2.2.1.1.2.2.2.2.1, p2.2.1.1.2.2.2.2.2.1, false, ()), p2.2.1.2), ((3 : Int), (0 : Int), x.2.1, x.2.2.1, [], ()), x.2.2.1, ())) fun p3 =>
    some ((), (p3.2.1, (), (), (), ()))
   else
   some ((), (p2.2.1, (), (), (), ()))
  else
  bif ieq (ilen x.2.2.2.1) (0 : Int) then
   some ((), (((x.1.1.1, x.1.1.2.1, x.2.1, x.1.1.2.2.2), x.1.2), (), (), (), ()))
  else
  bindN (sub_free n (x.1, ())) fun p4 =>
  bif p4.1.1 then
   bindN (sub_put n (p4.2.1, ((2 : Int), (0 : Int), x.2.1, [], x.2.2.2), x.2.2.1, ())) fun p5 =>
   some ((), (p5.2.1, (), (), (), ()))
  else
  some ((), (((p4.2.1.1.1, p4.2.1.1.2.1, p4.2.1.1.2.2.1, p4.2.1.1.2.2.2.1, p4.2.1.1.2.2.2.2.1, p4.2.1.1.2.2.2.2.2.1, true, ()), p4.2.1.2), (), (), (), ()))
abbrev sub_push_ent (n : Nat) : Ent := ⟨81, sub_push_sg, sub_push_rs, sub_push n⟩
theorem sub_push_ok (n : Nat) : EntOk Tryz.prog (sub_push_ent n) := ent_ok' mixed (T := [sub_put_ent n, sub_free_ent n]) (tabCons (sub_put_ok n) (tabCons (sub_free_ok n) tabNil)) tabLNil fun x => by kernel_rfl
abbrev sub_New_sg : List Sg := [.tree (.int .i64), .tree tQuery]
abbrev sub_New_rs : List Rt := [.tree tSub]
def sub_New (n : Nat) (x : SgEl sub_New_sg) : Option (RtEl sub_New_rs × OutEl sub_New_sg) :=
  some (((x.1, x.2.1, (0 : Int), [], [], false, false, ()), ()), ((), (), ()))
abbrev sub_New_ent (n : Nat) : Ent := ⟨46, sub_New_sg, sub_New_rs, sub_New n⟩
theorem sub_New_ok (n : Nat) : EntOk Tryz.prog (sub_New_ent n) := ent_ok' mixed (T := []) tabNil tabLNil fun x => by kernel_rfl
abbrev sub_Push_sg : List Sg := [.tree tSub, .tree (.int .i64), .tree (.slice tRow), .tree (.int .i64)]
abbrev sub_Push_rs : List Rt := [.tree tSub, .tree (.int .i64)]
def sub_Push (n : Nat) (x : SgEl sub_Push_sg) : Option (RtEl sub_Push_rs × OutEl sub_Push_sg) :=
  bindN (diff_Of n (x.1.2.2.2.1, x.2.2.1, ())) fun p1 =>
  bif !(ieq p1.1.2.1 (0 : Int)) then
   some ((x.1, p1.1.2), ((), (), (), (), ()))
  else
  bindN (sl_CloneRow n (x.2.2.1, ())) fun p2 =>
  bindN (sub_push n ((x.1, x.2.2.2), x.2.1, p2.1.1, p1.1.1, ())) fun p3 =>
  some ((p3.2.1.1, (0 : Int), ()), ((), (), (), (), ()))
abbrev sub_Push_ent (n : Nat) : Ent := ⟨30, sub_Push_sg, sub_Push_rs, sub_Push n⟩
theorem sub_Push_ok (n : Nat) : EntOk Tryz.prog (sub_Push_ent n) := ent_ok' mixed (T := [diff_Of_ent n, sl_CloneRow_ent n, sub_push_ent n]) (tabCons (diff_Of_ok n) (tabCons (sl_CloneRow_ok n) (tabCons (sub_push_ok n) tabNil))) tabLNil fun x => by kernel_rfl
abbrev sub_May_sg : List Sg := [.tree tSub, .tree (.int .i64), .tree (.int .i64)]
abbrev sub_May_rs : List Rt := [.tree .bool]
def sub_May (n : Nat) (x : SgEl sub_May_sg) : Option (RtEl sub_May_rs × OutEl sub_May_sg) :=
  bif !x.1.2.2.2.2.2.1 then
   some ((true, ()), ((), (), (), ()))
  else
  bif ilt x.1.2.2.1 x.2.1 then
   bif !x.1.2.2.2.2.2.2.1 then
    some ((true, ()), ((), (), (), ()))
   else
   bindN (sub_free n ((x.1, x.2.2), ())) fun p1 =>
   some (p1.1, ((), (), (), ()))
  else
  some ((false, ()), ((), (), (), ()))
abbrev sub_May_ent (n : Nat) : Ent := ⟨33, sub_May_sg, sub_May_rs, sub_May n⟩
theorem sub_May_ok (n : Nat) : EntOk Tryz.prog (sub_May_ent n) := ent_ok' mixed (T := [sub_free_ent n]) (tabCons (sub_free_ok n) tabNil) tabLNil fun x => by kernel_rfl
abbrev sub_Send_sg : List Sg := [.tree tSub]
abbrev sub_Send_rs : List Rt := [.tree tMessage, .tree tSub, .tree .bool]
def sub_Send (n : Nat) (x : SgEl sub_Send_sg) : Option (RtEl sub_Send_rs × OutEl sub_Send_sg) :=
  bif ieq (ilen x.1.2.2.2.2.1) (0 : Int) then
   some ((((0 : Int), (0 : Int), (0 : Int), [], [], ()), x.1, false, ()), ((), ()))
  else
  bif ile (0 : Int) (0 : Int) then
   bindN (lat x.1.2.2.2.2.1 (iN (0 : Int))) fun v1 =>
   bif ile (0 : Int) (1 : Int) then
    bif ile (1 : Int) (ilen x.1.2.2.2.2.1) then
     bif ile (ilen x.1.2.2.2.2.1) (ilen x.1.2.2.2.2.1) then
      bindN (sl_CloneMsg n (winI x.1.2.2.2.2.1 (1 : Int) (ilen x.1.2.2.2.2.1), ())) fun p2 =>
      some ((v1, (x.1.1, x.1.2.1, x.1.2.2.1, x.1.2.2.2.1, p2.1.1, x.1.2.2.2.2.2), true, ()), ((), ()))
     else none
    else none
   else none
  else none
abbrev sub_Send_ent (n : Nat) : Ent := ⟨36, sub_Send_sg, sub_Send_rs, sub_Send n⟩
theorem sub_Send_ok (n : Nat) : EntOk Tryz.prog (sub_Send_ent n) := ent_ok' mixed (T := [sl_CloneMsg_ent n]) (tabCons (sl_CloneMsg_ok n) tabNil) tabLNil fun x => by kernel_rfl
abbrev sub_see_sg : List Sg := [.box [.tree (.slice tRow), .tree (.int .i64), .tree .bool], .tree tMessage]
abbrev sub_see_rs : List Rt := [.tree (.int .i64)]
def sub_see (n : Nat) (x : SgEl sub_see_sg) : Option (RtEl sub_see_rs × OutEl sub_see_sg) :=
  bif ieq x.2.1.1 (1 : Int) then
   bif x.1.2.2.1 then
    some (((2 : Int), ()), (x.1, (), ()))
   else
   bif ilt x.2.1.2.2.1 x.1.2.1 then
    some (((9 : Int), ()), (x.1, (), ()))
   else
   bif x.1.2.2.1 then
    bif ieq x.2.1.2.2.1 x.1.2.1 then
     some (((9 : Int), ()), (x.1, (), ()))
    else
    bif ieq x.2.1.1 (2 : Int) then
     bindN (diff_Apply n (x.1.1, x.2.1.2.2.2.2)) fun p1 =>
     some (p1.1.2, ((p1.1.1, x.2.1.2.2.1, true, ()), (), ()))
    else
    bindN (row_Right n (x.2.1.2.2.2.1, ())) fun p2 =>
    bif !p2.1.1 then
     some (((9 : Int), ()), ((x.1.1, x.2.1.2.2.1, true, ()), (), ()))
    else
    some (((0 : Int), ()), ((x.2.1.2.2.2.1, x.2.1.2.2.1, true, ()), (), ()))
   else
   bif ieq x.2.1.1 (2 : Int) then
    bindN (diff_Apply n (x.1.1, x.2.1.2.2.2.2)) fun p3 =>
    some (p3.1.2, ((p3.1.1, x.2.1.2.2.1, true, ()), (), ()))
   else
   bindN (row_Right n (x.2.1.2.2.2.1, ())) fun p4 =>
   bif !p4.1.1 then
    some (((9 : Int), ()), ((x.1.1, x.2.1.2.2.1, true, ()), (), ()))
   else
   some (((0 : Int), ()), ((x.2.1.2.2.2.1, x.2.1.2.2.1, true, ()), (), ()))
  else
  bif ieq x.2.1.1 (2 : Int) then
   bif !x.1.2.2.1 then
    some (((2 : Int), ()), (x.1, (), ()))
   else
   bif ilt x.2.1.2.2.1 x.1.2.1 then
    some (((9 : Int), ()), (x.1, (), ()))
   else
   bif x.1.2.2.1 then
    bif ieq x.2.1.2.2.1 x.1.2.1 then
     some (((9 : Int), ()), (x.1, (), ()))
    else
    bif ieq x.2.1.1 (2 : Int) then
     bindN (diff_Apply n (x.1.1, x.2.1.2.2.2.2)) fun p5 =>
     some (p5.1.2, ((p5.1.1, x.2.1.2.2.1, true, ()), (), ()))
    else
    bindN (row_Right n (x.2.1.2.2.2.1, ())) fun p6 =>
    bif !p6.1.1 then
     some (((9 : Int), ()), ((x.1.1, x.2.1.2.2.1, true, ()), (), ()))
    else
    some (((0 : Int), ()), ((x.2.1.2.2.2.1, x.2.1.2.2.1, true, ()), (), ()))
   else
   bif ieq x.2.1.1 (2 : Int) then
    bindN (diff_Apply n (x.1.1, x.2.1.2.2.2.2)) fun p7 =>
    some (p7.1.2, ((p7.1.1, x.2.1.2.2.1, true, ()), (), ()))
   else
   bindN (row_Right n (x.2.1.2.2.2.1, ())) fun p8 =>
   bif !p8.1.1 then
    some (((9 : Int), ()), ((x.1.1, x.2.1.2.2.1, true, ()), (), ()))
   else
   some (((0 : Int), ()), ((x.2.1.2.2.2.1, x.2.1.2.2.1, true, ()), (), ()))
  else
  bif ieq x.2.1.1 (3 : Int) then
   bif !x.1.2.2.1 then
    some (((2 : Int), ()), (x.1, (), ()))
   else
   bif ilt x.2.1.2.2.1 x.1.2.1 then
    some (((9 : Int), ()), (x.1, (), ()))
   else
   bif x.1.2.2.1 then
    bif ieq x.2.1.2.2.1 x.1.2.1 then
     some (((9 : Int), ()), (x.1, (), ()))
    else
    bif ieq x.2.1.1 (2 : Int) then
     bindN (diff_Apply n (x.1.1, x.2.1.2.2.2.2)) fun p9 =>
     some (p9.1.2, ((p9.1.1, x.2.1.2.2.1, true, ()), (), ()))
    else
    bindN (row_Right n (x.2.1.2.2.2.1, ())) fun p10 =>
    bif !p10.1.1 then
     some (((9 : Int), ()), ((x.1.1, x.2.1.2.2.1, true, ()), (), ()))
    else
    some (((0 : Int), ()), ((x.2.1.2.2.2.1, x.2.1.2.2.1, true, ()), (), ()))
   else
   bif ieq x.2.1.1 (2 : Int) then
    bindN (diff_Apply n (x.1.1, x.2.1.2.2.2.2)) fun p11 =>
    some (p11.1.2, ((p11.1.1, x.2.1.2.2.1, true, ()), (), ()))
   else
   bindN (row_Right n (x.2.1.2.2.2.1, ())) fun p12 =>
   bif !p12.1.1 then
    some (((9 : Int), ()), ((x.1.1, x.2.1.2.2.1, true, ()), (), ()))
   else
   some (((0 : Int), ()), ((x.2.1.2.2.2.1, x.2.1.2.2.1, true, ()), (), ()))
  else
  some (((2 : Int), ()), (x.1, (), ()))
abbrev sub_see_ent (n : Nat) : Ent := ⟨91, sub_see_sg, sub_see_rs, sub_see n⟩
theorem sub_see_ok (n : Nat) : EntOk Tryz.prog (sub_see_ent n) := ent_ok' mixed (T := [diff_Apply_ent n, row_Right_ent n]) (tabCons (diff_Apply_ok n) (tabCons (row_Right_ok n) tabNil)) tabLNil fun x => by kernel_rfl
abbrev sub_Replay_sg : List Sg := [.tree (.slice tMessage)]
abbrev sub_Replay_rs : List Rt := [.tree (.slice tRow), .tree (.int .i64), .tree (.int .i64)]
def sub_Replay_l0 (n : Nat) : Nat → SgEl [.tree (.slice tMessage), .boxr tSub_viewer, .tree (.slice tMessage), .tree (.int .i64), .tree (.int .i64)] → Option (SgEl [.tree (.slice tMessage), .boxr tSub_viewer] ⊕ SgEl [.tree (.slice tMessage), .tree (.slice tRow), .tree (.int .i64), .tree (.int .i64)])
  | 0, _ => none
  | g + 1, s =>
    bif ilt s.2.2.2.2.1 s.2.2.2.1 then
     bif ile (0 : Int) s.2.2.2.2.1 then
      bindN (lat s.2.2.1 (iN s.2.2.2.2.1)) fun v1 =>
      bindN (sub_see n (s.2.1, v1, ())) fun p2 =>
      bif !(ieq p2.1.1 (0 : Int)) then
       some (Sum.inr (s.1, [], (0 : Int), p2.1))
      else
      bindL (sub_Replay_l0 n g (s.1, p2.2.1, s.2.2.1, s.2.2.2.1, iadd .i64 s.2.2.2.2.1 (1 : Int), ())) (fun a3 =>
       some (Sum.inl a3)) fun b4 =>
      some (Sum.inr b4)
     else none
    else
    some (Sum.inl (s.1, s.2.1, ()))
theorem sub_Replay_l0_ok (n : Nat) : ∀ g, LEntOk Tryz.prog 42 (nSl sub_Replay_sg) ⟨0, [.tree (.slice tMessage), .boxr tSub_viewer, .tree (.slice tMessage), .tree (.int .i64), .tree (.int .i64)], 0, [.tree (.slice tMessage), .boxr tSub_viewer], [.tree (.slice tMessage), .tree (.slice tRow), .tree (.int .i64), .tree (.int .i64)], sub_Replay_l0 n g⟩ g
  | 0 => loop_zero' fun _ => rfl
  | g + 1 => loop_step' mixed (T := [sub_see_ent n]) (tabCons (sub_see_ok n) tabNil) tabLNil (sub_Replay_l0_ok n g) fun s => by kernel_rfl
def sub_Replay (n : Nat) (x : SgEl sub_Replay_sg) : Option (RtEl sub_Replay_rs × OutEl sub_Replay_sg) :=
  bindL (sub_Replay_l0 n n (x.1, ([], (0 : Int), false, ()), x.1, ilen x.1, (0 : Int), ())) (fun a1 =>
   some ((a1.2.1.1, a1.2.1.2.1, (0 : Int), ()), ((), ()))) fun b2 =>
  some (b2.2, ((), ()))
abbrev sub_Replay_ent (n : Nat) : Ent := ⟨42, sub_Replay_sg, sub_Replay_rs, sub_Replay n⟩
theorem sub_Replay_ok (n : Nat) : EntOk Tryz.prog (sub_Replay_ent n) := ent_ok' mixed (T := [sub_see_ent n]) (tabCons (sub_see_ok n) tabNil) (tabLCons (sub_Replay_l0_ok n n) tabLNil) fun x => by kernel_rfl
abbrev sub_ReplayO_sg : List Sg := [.own tMessage]
abbrev sub_ReplayO_rs : List Rt := [.tree (.slice tRow), .tree (.int .i64), .tree (.int .i64)]
def sub_ReplayO_l0 (n : Nat) : Nat → SgEl [.own tMessage, .boxr tSub_viewer, .al 0, .tree (.int .i64), .tree (.int .i64)] → Option (SgEl [.own tMessage, .boxr tSub_viewer] ⊕ SgEl [.own tMessage, .tree (.slice tRow), .tree (.int .i64), .tree (.int .i64)])
  | 0, _ => none
  | g + 1, s =>
    bif ilt s.2.2.2.2.1 s.2.2.2.1 then
     bif ile (0 : Int) s.2.2.2.2.1 then
      bindN (lat s.1 (iN s.2.2.2.2.1)) fun v1 =>
      bindN (lat s.1 (iN s.2.2.2.2.1)) fun v2 =>
      bindN (sub_see n (s.2.1, v2, ())) fun p3 =>
      bif !(ieq p3.1.1 (0 : Int)) then
       some (Sum.inr (s.1, [], (0 : Int), p3.1))
      else
      bindL (sub_ReplayO_l0 n g (s.1, p3.2.1, (), s.2.2.2.1, iadd .i64 s.2.2.2.2.1 (1 : Int), ())) (fun a4 =>
       some (Sum.inl a4)) fun b5 =>
      some (Sum.inr b5)
     else none
    else
    some (Sum.inl (s.1, s.2.1, ()))
theorem sub_ReplayO_l0_ok (n : Nat) : ∀ g, LEntOk Tryz.prog 42 (nSl sub_ReplayO_sg) ⟨0, [.own tMessage, .boxr tSub_viewer, .al 0, .tree (.int .i64), .tree (.int .i64)], 0, [.own tMessage, .boxr tSub_viewer], [.own tMessage, .tree (.slice tRow), .tree (.int .i64), .tree (.int .i64)], sub_ReplayO_l0 n g⟩ g
  | 0 => loop_zero' fun _ => rfl
  | g + 1 => loop_step' mixed (T := [sub_see_ent n]) (tabCons (sub_see_ok n) tabNil) tabLNil (sub_ReplayO_l0_ok n g) fun s => by kernel_rfl
def sub_ReplayO (n : Nat) (x : SgEl sub_ReplayO_sg) : Option (RtEl sub_ReplayO_rs × OutEl sub_ReplayO_sg) :=
  bindL (sub_ReplayO_l0 n n (x.1, ([], (0 : Int), false, ()), (), ilen x.1, (0 : Int), ())) (fun a1 =>
   some ((a1.2.1.1, a1.2.1.2.1, (0 : Int), ()), (a1.1, ()))) fun b2 =>
  some (b2.2, (b2.1, ()))
abbrev sub_ReplayO_ent (n : Nat) : Ent := ⟨42, sub_ReplayO_sg, sub_ReplayO_rs, sub_ReplayO n⟩
theorem sub_ReplayO_ok (n : Nat) : EntOk Tryz.prog (sub_ReplayO_ent n) := ent_ok' mixed (T := [sub_see_ent n]) (tabCons (sub_see_ok n) tabNil) (tabLCons (sub_ReplayO_l0_ok n n) tabLNil) fun x => by kernel_rfl
abbrev sub_Equal_sg : List Sg := [.tree tMessage, .tree tMessage]
abbrev sub_Equal_rs : List Rt := [.tree .bool]
def sub_Equal (n : Nat) (x : SgEl sub_Equal_sg) : Option (RtEl sub_Equal_rs × OutEl sub_Equal_sg) :=
  bif ieq x.1.1 x.2.1.1 then
   bif ieq x.1.2.1 x.2.1.2.1 then
    bif ieq x.1.2.2.1 x.2.1.2.2.1 then
     bindN (row_Same n (x.1.2.2.2.1, x.2.1.2.2.2.1, ())) fun p1 =>
     bif p1.1.1 then
      bindN (diff_Same n (x.1.2.2.2.2.1, x.2.1.2.2.2.2)) fun p2 =>
      some (p2.1, ((), (), ()))
     else
     some ((false, ()), ((), (), ()))
    else
    some ((false, ()), ((), (), ()))
   else
   some ((false, ()), ((), (), ()))
  else
  some ((false, ()), ((), (), ()))
abbrev sub_Equal_ent (n : Nat) : Ent := ⟨40, sub_Equal_sg, sub_Equal_rs, sub_Equal n⟩
theorem sub_Equal_ok (n : Nat) : EntOk Tryz.prog (sub_Equal_ent n) := ent_ok' mixed (T := [row_Same_ent n, diff_Same_ent n]) (tabCons (row_Same_ok n) (tabCons (diff_Same_ok n) tabNil)) tabLNil fun x => by kernel_rfl
abbrev sl_EqMsg_sg : List Sg := [.tree (.slice tMessage), .tree (.slice tMessage), .fnv 40 []]
abbrev sl_EqMsg_rs : List Rt := [.tree .bool]
def sl_EqMsg_l0 (n : Nat) : Nat → SgEl [.tree (.slice tMessage), .fnv 40 [], .tree (.slice tMessage), .tree (.int .i64), .tree (.int .i64)] → Option (SgEl [] ⊕ SgEl [.tree .bool])
  | 0, _ => none
  | g + 1, s =>
    bif ilt s.2.2.2.2.1 s.2.2.2.1 then
     bif ile (0 : Int) s.2.2.2.2.1 then
      bindN (lat s.2.2.1 (iN s.2.2.2.2.1)) fun v1 =>
      bif ile (0 : Int) s.2.2.2.2.1 then
       bindN (lat s.1 (iN s.2.2.2.2.1)) fun v2 =>
       bindN (sub_Equal n (v1, v2, ())) fun p3 =>
       bif !p3.1.1 then
        some (Sum.inr (false, ()))
       else
       bindL (sl_EqMsg_l0 n g (s.1, (), s.2.2.1, s.2.2.2.1, iadd .i64 s.2.2.2.2.1 (1 : Int), ())) (fun a4 =>
        some (Sum.inl ())) fun b5 =>
       some (Sum.inr b5)
      else none
     else none
    else
    some (Sum.inl ())
theorem sl_EqMsg_l0_ok (n : Nat) : ∀ g, LEntOk Tryz.prog 88 (nSl sl_EqMsg_sg) ⟨0, [.tree (.slice tMessage), .fnv 40 [], .tree (.slice tMessage), .tree (.int .i64), .tree (.int .i64)], 0, [], [.tree .bool], sl_EqMsg_l0 n g⟩ g
  | 0 => loop_zero' fun _ => rfl
  | g + 1 => loop_step' mixed (T := [sub_Equal_ent n]) (tabCons (sub_Equal_ok n) tabNil) tabLNil (sl_EqMsg_l0_ok n g) fun s => by kernel_rfl
def sl_EqMsg (n : Nat) (x : SgEl sl_EqMsg_sg) : Option (RtEl sl_EqMsg_rs × OutEl sl_EqMsg_sg) :=
  bif !(ieq (ilen x.1) (ilen x.2.1)) then
   some ((false, ()), ((), (), (), ()))
  else
  bindL (sl_EqMsg_l0 n n (x.2.1, (), x.1, ilen x.1, (0 : Int), ())) (fun a1 =>
   some ((true, ()), ((), (), (), ()))) fun b2 =>
  some (b2, ((), (), (), ()))
abbrev sl_EqMsg_ent (n : Nat) : Ent := ⟨88, sl_EqMsg_sg, sl_EqMsg_rs, sl_EqMsg n⟩
theorem sl_EqMsg_ok (n : Nat) : EntOk Tryz.prog (sl_EqMsg_ent n) := ent_ok' mixed (T := [sub_Equal_ent n]) (tabCons (sub_Equal_ok n) tabNil) (tabLCons (sl_EqMsg_l0_ok n n) tabLNil) fun x => by kernel_rfl
abbrev sub_Same_sg : List Sg := [.tree tSub, .tree tSub]
abbrev sub_Same_rs : List Rt := [.tree .bool]
def sub_Same (n : Nat) (x : SgEl sub_Same_sg) : Option (RtEl sub_Same_rs × OutEl sub_Same_sg) :=
  bif ieq x.1.1 x.2.1.1 then
   bindN (query_Same n (x.1.2.1, x.2.1.2.1, ())) fun p1 =>
   bif p1.1.1 then
    bif ieq x.1.2.2.1 x.2.1.2.2.1 then
     bindN (row_Same n (x.1.2.2.2.1, x.2.1.2.2.2.1, ())) fun p2 =>
     bif p2.1.1 then
      bindN (sl_EqMsg n (x.1.2.2.2.2.1, x.2.1.2.2.2.2.1, (), ())) fun p3 =>
      bif p3.1.1 then
       bif beqB x.1.2.2.2.2.2.1 x.2.1.2.2.2.2.2.1 then
        some ((beqB x.1.2.2.2.2.2.2.1 x.2.1.2.2.2.2.2.2.1, ()), ((), (), ()))
       else
       some ((false, ()), ((), (), ()))
      else
      some ((false, ()), ((), (), ()))
     else
     some ((false, ()), ((), (), ()))
    else
    some ((false, ()), ((), (), ()))
   else
   some ((false, ()), ((), (), ()))
  else
  some ((false, ()), ((), (), ()))
abbrev sub_Same_ent (n : Nat) : Ent := ⟨39, sub_Same_sg, sub_Same_rs, sub_Same n⟩
theorem sub_Same_ok (n : Nat) : EntOk Tryz.prog (sub_Same_ent n) := ent_ok' mixed (T := [query_Same_ent n, row_Same_ent n, sl_EqMsg_ent n]) (tabCons (query_Same_ok n) (tabCons (row_Same_ok n) (tabCons (sl_EqMsg_ok n) tabNil))) tabLNil fun x => by kernel_rfl
abbrev law_alive_sg : List Sg := []
abbrev law_alive_rs : List Rt := [.tree .bool]
def law_alive (n : Nat) (x : SgEl law_alive_sg) : Option (RtEl law_alive_rs × OutEl law_alive_sg) :=
  bindN (r08_Parse n ((⟨#[51, 124, 124, 53]⟩ : ByteArray), ())) fun p1 =>
  bindN (r08_Parse n ((⟨#[51, 124, 124, 54]⟩ : ByteArray), ())) fun p2 =>
  bindN (sub_New n ((4 : Int), ((0 : Int), (⟨#[]⟩ : ByteArray), [], [], ()), ())) fun p3 =>
  bindN (sub_Push n (p3.1.1, (1 : Int), p1.1.1, (1 : Int), ())) fun p4 =>
  bindN (sub_Push n (p4.1.1, (2 : Int), p2.1.1, (1 : Int), ())) fun p5 =>
  bindN (sub_Send n (p5.1.1, ())) fun p6 =>
  bindN (sub_Push n (p6.1.2.1, (2 : Int), p2.1.1, (1 : Int), ())) fun p7 =>
  bindN (sub_Send n (p7.1.1, ())) fun p8 =>
  bindN (sub_Push n (p4.1.1, (2 : Int), p2.1.1, (2 : Int), ())) fun p9 =>
  bindN (sub_Send n (p9.1.1, ())) fun p10 =>
  bindN (sub_Send n (p10.1.2.1, ())) fun p11 =>
  bindN (sub_ReplayO n ([p6.1.1, p11.1.1], ())) fun p12 =>
  bindN (sub_ReplayO n ([p11.1.1], ())) fun p13 =>
  bif ieq p4.1.2.1 (0 : Int) then
   bif ieq p5.1.2.1 (0 : Int) then
    bif ieq p7.1.2.1 (0 : Int) then
     bif ieq p9.1.2.1 (0 : Int) then
      bif ieq p12.1.2.2.1 (0 : Int) then
       bif ieq p13.1.2.2.1 (2 : Int) then
        bif p6.1.2.2.1 then
         bif p8.1.2.2.1 then
          bif ieq p6.1.1.1 (1 : Int) then
           bif ieq p6.1.1.2.1 (4 : Int) then
            bif p5.1.1.2.2.2.2.2.2.1 then
             bindN (sub_May n (p5.1.1, (2 : Int), (1 : Int), ())) fun p14 =>
             bif !p14.1.1 then
              bindN (sub_May n (p7.1.1, (3 : Int), (2 : Int), ())) fun p15 =>
              bif p15.1.1 then
               bif ieq p8.1.1.1 (3 : Int) then
                bif ieq p11.1.1.1 (2 : Int) then
                 bindN (r08_Same n (p12.1.1, p2.1.1, ())) fun p16 =>
                 bif p16.1.1 then
                  bif ieq p12.1.2.1 (2 : Int) then
                   bindN (sub_Same n (p4.1.1, p4.1.1, ())) fun p17 =>
                   bif p17.1.1 then
                    bindN (sub_Same n (p4.1.1, p5.1.1, ())) fun p18 =>
                    bif !p18.1.1 then
                     bindN (sub_Equal n (p6.1.1, p6.1.1, ())) fun p19 =>
                     bif p19.1.1 then
                      bindN (sub_Equal n (p6.1.1, p8.1.1, ())) fun p20 =>
                      some ((!p20.1.1, ()), ())
                     else
                     some ((false, ()), ())
                    else
                    some ((false, ()), ())
                   else
                   some ((false, ()), ())
                  else
                  some ((false, ()), ())
                 else
                 some ((false, ()), ())
                else
                some ((false, ()), ())
               else
               some ((false, ()), ())
              else
              some ((false, ()), ())
             else
             some ((false, ()), ())
            else
            some ((false, ()), ())
           else
           some ((false, ()), ())
          else
          some ((false, ()), ())
         else
         some ((false, ()), ())
        else
        some ((false, ()), ())
       else
       some ((false, ()), ())
      else
      some ((false, ()), ())
     else
     some ((false, ()), ())
    else
    some ((false, ()), ())
   else
   some ((false, ()), ())
  else
  some ((false, ()), ())
abbrev law_alive_ent (n : Nat) : Ent := ⟨27, law_alive_sg, law_alive_rs, law_alive n⟩
theorem law_alive_ok (n : Nat) : EntOk Tryz.prog (law_alive_ent n) := ent_ok' mixed (T := [r08_Parse_ent n, sub_New_ent n, sub_Push_ent n, sub_Send_ent n, sub_ReplayO_ent n, sub_May_ent n, r08_Same_ent n, sub_Same_ent n, sub_Equal_ent n]) (tabCons (r08_Parse_ok n) (tabCons (sub_New_ok n) (tabCons (sub_Push_ok n) (tabCons (sub_Send_ok n) (tabCons (sub_ReplayO_ok n) (tabCons (sub_May_ok n) (tabCons (r08_Same_ok n) (tabCons (sub_Same_ok n) (tabCons (sub_Equal_ok n) tabNil))))))))) tabLNil fun x => by kernel_rfl
abbrev law_Sends_sg : List Sg := [.tree tSub, .tree tSub]
abbrev law_Sends_rs : List Rt := [.tree .bool]
def law_Sends (n : Nat) (x : SgEl law_Sends_sg) : Option (RtEl law_Sends_rs × OutEl law_Sends_sg) :=
  bindN (law_alive n ()) fun p1 =>
  bif !p1.1.1 then
   some ((false, ()), ((), (), ()))
  else
  bindN (r19_Great n (x.1, ())) fun p2 =>
  bif p2.1.1 then
   some ((true, ()), ((), (), ()))
  else
  bindN (r19_Great n x.2) fun p3 =>
  bif p3.1.1 then
   some ((true, ()), ((), (), ()))
  else
  bindN (sub_Send n (x.1, ())) fun p4 =>
  bindN (r19_Send n (x.1, ())) fun p5 =>
  bindN (r19_Equal n (p4.1.1, p5.1.1, ())) fun p6 =>
  bif !p6.1.1 then
   some ((false, ()), ((), (), ()))
  else
  bindN (r19_Same n (p4.1.2.1, p5.1.2.1, ())) fun p7 =>
  bif !p7.1.1 then
   some ((false, ()), ((), (), ()))
  else
  bif !(beqB p4.1.2.2.1 p5.1.2.2.1) then
   some ((false, ()), ((), (), ()))
  else
  bindN (sub_Same n x) fun p8 =>
  bindN (r19_Same n x) fun p9 =>
  bif !(beqB p8.1.1 p9.1.1) then
   some ((false, ()), ((), (), ()))
  else
  bif ieq (ilen x.2.1.2.2.2.2.1) (0 : Int) then
   some ((true, ()), ((), (), ()))
  else
  bif ile (0 : Int) (0 : Int) then
   bindN (lat x.2.1.2.2.2.2.1 (iN (0 : Int))) fun v10 =>
   bindN (sub_Equal n (p4.1.1, v10, ())) fun p11 =>
   bif ile (0 : Int) (0 : Int) then
    bindN (lat x.2.1.2.2.2.2.1 (iN (0 : Int))) fun v12 =>
    bindN (r19_Equal n (p5.1.1, v12, ())) fun p13 =>
    some ((beqB p11.1.1 p13.1.1, ()), ((), (), ()))
   else none
  else none
abbrev law_Sends_ent (n : Nat) : Ent := ⟨8, law_Sends_sg, law_Sends_rs, law_Sends n⟩
theorem law_Sends_ok (n : Nat) : EntOk Tryz.prog (law_Sends_ent n) := ent_ok' mixed (T := [law_alive_ent n, r19_Great_ent n, sub_Send_ent n, r19_Send_ent n, r19_Equal_ent n, r19_Same_ent n, sub_Same_ent n, sub_Equal_ent n]) (tabCons (law_alive_ok n) (tabCons (r19_Great_ok n) (tabCons (sub_Send_ok n) (tabCons (r19_Send_ok n) (tabCons (r19_Equal_ok n) (tabCons (r19_Same_ok n) (tabCons (sub_Same_ok n) (tabCons (sub_Equal_ok n) tabNil)))))))) tabLNil fun x => by kernel_rfl
abbrev law_Replays_sg : List Sg := [.tree (.slice tMessage)]
abbrev law_Replays_rs : List Rt := [.tree .bool]
def law_Replays (n : Nat) (x : SgEl law_Replays_sg) : Option (RtEl law_Replays_rs × OutEl law_Replays_sg) :=
  bindN (law_alive n ()) fun p1 =>
  bif !p1.1.1 then
   some ((false, ()), ((), ()))
  else
  bindN (r19_Much n x) fun p2 =>
  bif p2.1.1 then
   some ((true, ()), ((), ()))
  else
  bindN (sub_Replay n x) fun p3 =>
  bindN (r19_Replay n x) fun p4 =>
  bindN (r08_Same n (p3.1.1, p4.1.1, ())) fun p5 =>
  bif p5.1.1 then
   bif ieq p3.1.2.1 p4.1.2.1 then
    some ((ieq p3.1.2.2.1 p4.1.2.2.1, ()), ((), ()))
   else
   some ((false, ()), ((), ()))
  else
  some ((false, ()), ((), ()))
abbrev law_Replays_ent (n : Nat) : Ent := ⟨9, law_Replays_sg, law_Replays_rs, law_Replays n⟩
theorem law_Replays_ok (n : Nat) : EntOk Tryz.prog (law_Replays_ent n) := ent_ok' mixed (T := [law_alive_ent n, r19_Much_ent n, sub_Replay_ent n, r19_Replay_ent n, r08_Same_ent n]) (tabCons (law_alive_ok n) (tabCons (r19_Much_ok n) (tabCons (sub_Replay_ok n) (tabCons (r19_Replay_ok n) (tabCons (r08_Same_ok n) tabNil))))) tabLNil fun x => by kernel_rfl
abbrev law_Pushes_sg : List Sg := [.tree tSub, .tree tLaw19_Push, .tree (.int .i64)]
abbrev law_Pushes_rs : List Rt := [.tree .bool]
def law_Pushes (n : Nat) (x : SgEl law_Pushes_sg) : Option (RtEl law_Pushes_rs × OutEl law_Pushes_sg) :=
  bindN (law_alive n ()) fun p1 =>
  bif !p1.1.1 then
   some ((false, ()), ((), (), (), ()))
  else
  bindN (r19_Great n (x.1, ())) fun p2 =>
  bif p2.1.1 then
   some ((true, ()), ((), (), (), ()))
  else
  bindN (r08_Great n (x.2.1.2.1, ())) fun p3 =>
  bif p3.1.1 then
   some ((true, ()), ((), (), (), ()))
  else
  bif roomA ([] : List (El tMessage)) x.1.2.2.2.2.1 72 then
   bindN (sub_Push n (x.1, x.2.1.1, x.2.1.2.1, x.2.2)) fun p4 =>
   bindN (r19_Push n (x.1, x.2.1.1, x.2.1.2.1, x.2.2)) fun p5 =>
   bindN (r19_Same n (p4.1.1, p5.1.1, ())) fun p6 =>
   bif p6.1.1 then
    bif ieq p4.1.2.1 p5.1.2.1 then
     bindN (sub_May n (x.1, x.2.1.1, x.2.2)) fun p7 =>
     bindN (r19_May n (x.1, x.2.1.1, x.2.2)) fun p8 =>
     bif beqB p7.1.1 p8.1.1 then
      bindN (r19_Messages n (app ([] : List (El tMessage)) x.1.2.2.2.2.1, x.1.2.2.2.2.1, ())) fun p9 =>
      some (p9.1, ((), (), (), ()))
     else
     some ((false, ()), ((), (), (), ()))
    else
    some ((false, ()), ((), (), (), ()))
   else
   some ((false, ()), ((), (), (), ()))
  else none
abbrev law_Pushes_ent (n : Nat) : Ent := ⟨7, law_Pushes_sg, law_Pushes_rs, law_Pushes n⟩
theorem law_Pushes_ok (n : Nat) : EntOk Tryz.prog (law_Pushes_ent n) := ent_ok' mixed (T := [law_alive_ent n, r19_Great_ent n, r08_Great_ent n, sub_Push_ent n, r19_Push_ent n, r19_Same_ent n, sub_May_ent n, r19_May_ent n, r19_Messages_ent n]) (tabCons (law_alive_ok n) (tabCons (r19_Great_ok n) (tabCons (r08_Great_ok n) (tabCons (sub_Push_ok n) (tabCons (r19_Push_ok n) (tabCons (r19_Same_ok n) (tabCons (sub_May_ok n) (tabCons (r19_May_ok n) (tabCons (r19_Messages_ok n) tabNil))))))))) tabLNil fun x => by kernel_rfl
abbrev law_Loses_sg : List Sg := [.tree tSub, .tree tLaw19_Push, .tree (.int .u8)]
abbrev law_Loses_rs : List Rt := [.tree .bool]
def law_Loses (n : Nat) (x : SgEl law_Loses_sg) : Option (RtEl law_Loses_rs × OutEl law_Loses_sg) :=
  bindN (law_alive n ()) fun p1 =>
  bif !p1.1.1 then
   some ((false, ()), ((), (), (), ()))
  else
  bindN (r19_Great n (x.1, ())) fun p2 =>
  bif p2.1.1 then
   some ((true, ()), ((), (), (), ()))
  else
  bindN (r08_Great n (x.2.1.2.1, ())) fun p3 =>
  bif p3.1.1 then
   some ((true, ()), ((), (), (), ()))
  else
  bindN (r08_Right n (x.2.1.2.1, ())) fun p4 =>
  bif !p4.1.1 then
   some ((true, ()), ((), (), (), ()))
  else
  bindN (r08_Right n (x.1.2.2.2.1, ())) fun p5 =>
  bif !p5.1.1 then
   some ((true, ()), ((), (), (), ()))
  else
  bif !x.1.2.2.2.2.2.1 then
   some ((true, ()), ((), (), (), ()))
  else
  bif ieq (4 : Int) (0 : Int) then
   none
  else
  bindN (sub_Push n (x.1, x.2.1.1, x.2.1.2.1, iadd .i64 (1 : Int) (iconv .i64 (irem x.2.2.1 (4 : Int))), ())) fun p6 =>
  bif !(ieq p6.1.2.1 (0 : Int)) then
   some ((false, ()), ((), (), (), ()))
  else
  bindN (r09_Of n (x.1.2.2.2.1, x.2.1.2.1, ())) fun p7 =>
  bif ieq (ilen p6.1.1.2.2.2.2.1) (ilen x.1.2.2.2.2.1) then
   bif ile x.2.1.1 x.1.2.2.1 then
    some ((true, ()), ((), (), (), ()))
   else
   bif ile (iadd .i64 (1 : Int) (iconv .i64 (irem x.2.2.1 (4 : Int)))) (ilen x.1.2.2.2.2.1) then
    bif p6.1.1.2.2.2.2.2.2.1 then
     some ((true, ()), ((), (), (), ()))
    else
    bif !x.1.2.2.2.2.2.2.1 then
     bif ieq (ilen p7.1.1) (0 : Int) then
      bif ieq p6.1.1.2.2.1 x.2.1.1 then
       some ((true, ()), ((), (), (), ()))
      else
      bif ile (iadd .i64 (1 : Int) (iconv .i64 (irem x.2.2.1 (4 : Int)))) (ilen x.1.2.2.2.2.1) then
       some ((ieq (ilen p7.1.1) (0 : Int), ()), ((), (), (), ()))
      else
      some ((false, ()), ((), (), (), ()))
     else
     bif ile (iadd .i64 (1 : Int) (iconv .i64 (irem x.2.2.1 (4 : Int)))) (ilen x.1.2.2.2.2.1) then
      some ((ieq (ilen p7.1.1) (0 : Int), ()), ((), (), (), ()))
     else
     some ((false, ()), ((), (), (), ()))
    else
    bif ile (iadd .i64 (1 : Int) (iconv .i64 (irem x.2.2.1 (4 : Int)))) (ilen x.1.2.2.2.2.1) then
     some ((ieq (ilen p7.1.1) (0 : Int), ()), ((), (), (), ()))
    else
    some ((false, ()), ((), (), (), ()))
   else
   bif !x.1.2.2.2.2.2.2.1 then
    bif ieq (ilen p7.1.1) (0 : Int) then
     bif ieq p6.1.1.2.2.1 x.2.1.1 then
      some ((true, ()), ((), (), (), ()))
     else
     bif ile (iadd .i64 (1 : Int) (iconv .i64 (irem x.2.2.1 (4 : Int)))) (ilen x.1.2.2.2.2.1) then
      some ((ieq (ilen p7.1.1) (0 : Int), ()), ((), (), (), ()))
     else
     some ((false, ()), ((), (), (), ()))
    else
    bif ile (iadd .i64 (1 : Int) (iconv .i64 (irem x.2.2.1 (4 : Int)))) (ilen x.1.2.2.2.2.1) then
     some ((ieq (ilen p7.1.1) (0 : Int), ()), ((), (), (), ()))
    else
    some ((false, ()), ((), (), (), ()))
   else
   bif ile (iadd .i64 (1 : Int) (iconv .i64 (irem x.2.2.1 (4 : Int)))) (ilen x.1.2.2.2.2.1) then
    some ((ieq (ilen p7.1.1) (0 : Int), ()), ((), (), (), ()))
   else
   some ((false, ()), ((), (), (), ()))
  else
  bif !(ieq (ilen p6.1.1.2.2.2.2.1) (iadd .i64 (ilen x.1.2.2.2.2.1) (1 : Int))) then
   some ((false, ()), ((), (), (), ()))
  else
  bif ile (0 : Int) (isub .i64 (ilen p6.1.1.2.2.2.2.1) (1 : Int)) then
   bindN (lat p6.1.1.2.2.2.2.1 (iN (isub .i64 (ilen p6.1.1.2.2.2.2.1) (1 : Int)))) fun v8 =>
   bif ilt (ilen x.1.2.2.2.2.1) (iadd .i64 (1 : Int) (iconv .i64 (irem x.2.2.1 (4 : Int)))) then
    bif !p6.1.1.2.2.2.2.2.2.1 then
     bif ieq v8.2.2.1 x.2.1.1 then
      bif ieq p6.1.1.2.2.1 x.2.1.1 then
       some ((beqB (ieq v8.1 (3 : Int)) x.1.2.2.2.2.2.2.1, ()), ((), (), (), ()))
      else
      some ((false, ()), ((), (), (), ()))
     else
     some ((false, ()), ((), (), (), ()))
    else
    some ((false, ()), ((), (), (), ()))
   else
   some ((false, ()), ((), (), (), ()))
  else none
abbrev law_Loses_ent (n : Nat) : Ent := ⟨11, law_Loses_sg, law_Loses_rs, law_Loses n⟩
theorem law_Loses_ok (n : Nat) : EntOk Tryz.prog (law_Loses_ent n) := ent_ok' mixed (T := [law_alive_ent n, r19_Great_ent n, r08_Great_ent n, r08_Right_ent n, sub_Push_ent n, r09_Of_ent n]) (tabCons (law_alive_ok n) (tabCons (r19_Great_ok n) (tabCons (r08_Great_ok n) (tabCons (r08_Right_ok n) (tabCons (sub_Push_ok n) (tabCons (r09_Of_ok n) tabNil)))))) tabLNil fun x => by kernel_rfl
abbrev law_Tells_sg : List Sg := [.tree (.int .i64), .tree (.slice tLaw19_Push), .tree (.int .u8)]
abbrev law_Tells_rs : List Rt := [.tree .bool]
def law_Tells_l3 (n : Nat) : Nat → SgEl [.tree (.int .i64), .tree (.slice tLaw19_Push), .tree (.int .i64), .boxr tSub, .own tMessage, .tree (.int .i64), .tree (.int .i64), .tree (.slice tRow), .tree (.int .i64), .tree .bool, .tree (.int .i64)] → Option (SgEl [.tree (.int .i64), .tree (.slice tLaw19_Push), .tree (.int .i64), .boxr tSub, .own tMessage, .tree (.int .i64), .tree (.int .i64), .tree .bool] ⊕ SgEl [])
  | 0, _ => none
  | g + 1, s =>
    bif ilt s.2.2.2.2.2.2.2.2.2.2.1 (ilen s.2.1) then
     bif s.2.2.2.2.2.2.2.2.2.1 then
      bindL (law_Tells_l3 n g (s.1, s.2.1, s.2.2.1, s.2.2.2.1, s.2.2.2.2.1, s.2.2.2.2.2.1, s.2.2.2.2.2.2.1, s.2.2.2.2.2.2.2.1, s.2.2.2.2.2.2.2.2.1, true, iadd .i64 s.2.2.2.2.2.2.2.2.2.2.1 (1 : Int), ())) (fun a1 =>
       some (Sum.inl a1)) fun b2 =>
      some (Sum.inr ())
     else
     bif ile (0 : Int) s.2.2.2.2.2.2.2.2.2.2.1 then
      bindN (lat s.2.1 (iN s.2.2.2.2.2.2.2.2.2.2.1)) fun v3 =>
      bif ieq v3.1 s.2.2.2.2.2.2.2.2.1 then
       bif ile (0 : Int) s.2.2.2.2.2.2.2.2.2.2.1 then
        bindN (lat s.2.1 (iN s.2.2.2.2.2.2.2.2.2.2.1)) fun v4 =>
        bindN (r08_Same n (v4.2.1, s.2.2.2.2.2.2.2.1, ())) fun p5 =>
        bindL (law_Tells_l3 n g (s.1, s.2.1, s.2.2.1, s.2.2.2.1, s.2.2.2.2.1, s.2.2.2.2.2.1, s.2.2.2.2.2.2.1, s.2.2.2.2.2.2.2.1, s.2.2.2.2.2.2.2.2.1, p5.1.1, iadd .i64 s.2.2.2.2.2.2.2.2.2.2.1 (1 : Int), ())) (fun a6 =>
         some (Sum.inl a6)) fun b7 =>
        some (Sum.inr ())
       else none
      else
      bindL (law_Tells_l3 n g (s.1, s.2.1, s.2.2.1, s.2.2.2.1, s.2.2.2.2.1, s.2.2.2.2.2.1, s.2.2.2.2.2.2.1, s.2.2.2.2.2.2.2.1, s.2.2.2.2.2.2.2.2.1, false, iadd .i64 s.2.2.2.2.2.2.2.2.2.2.1 (1 : Int), ())) (fun a8 =>
       some (Sum.inl a8)) fun b9 =>
      some (Sum.inr ())
     else none
    else
    some (Sum.inl (s.1, s.2.1, s.2.2.1, s.2.2.2.1, s.2.2.2.2.1, s.2.2.2.2.2.1, s.2.2.2.2.2.2.1, s.2.2.2.2.2.2.2.2.2.1, ()))
theorem law_Tells_l3_ok (n : Nat) : ∀ g, LEntOk Tryz.prog 10 (nSl law_Tells_sg) ⟨3, [.tree (.int .i64), .tree (.slice tLaw19_Push), .tree (.int .i64), .boxr tSub, .own tMessage, .tree (.int .i64), .tree (.int .i64), .tree (.slice tRow), .tree (.int .i64), .tree .bool, .tree (.int .i64)], 6, [.tree (.int .i64), .tree (.slice tLaw19_Push), .tree (.int .i64), .boxr tSub, .own tMessage, .tree (.int .i64), .tree (.int .i64), .tree .bool], [], law_Tells_l3 n g⟩ g
  | 0 => loop_zero' fun _ => rfl
  | g + 1 => loop_step' mixed (T := [law_alive_ent n, r08_Great_ent n, r08_Right_ent n, sub_New_ent n, sub_Send_ent n, sub_ReplayO_ent n, r08_Same_ent n, sub_Push_ent n]) (tabCons (law_alive_ok n) (tabCons (r08_Great_ok n) (tabCons (r08_Right_ok n) (tabCons (sub_New_ok n) (tabCons (sub_Send_ok n) (tabCons (sub_ReplayO_ok n) (tabCons (r08_Same_ok n) (tabCons (sub_Push_ok n) tabNil)))))))) tabLNil (law_Tells_l3_ok n g) fun s => by kernel_rfl
def law_Tells_l2 (n : Nat) : Nat → SgEl [.tree (.int .i64), .tree (.slice tLaw19_Push), .tree (.int .i64), .boxr tSub, .own tMessage, .tree (.int .i64), .tree (.int .i64)] → Option (SgEl [.tree (.int .i64), .tree (.slice tLaw19_Push), .tree (.int .i64), .boxr tSub, .own tMessage, .tree (.int .i64)] ⊕ SgEl [.tree .bool])
  | 0, _ => none
  | g + 1, s =>
    bif ilt (0 : Int) (ilen s.2.2.2.1.2.2.2.2.1) then
     bif ilt s.2.2.2.2.2.2.1 (9 : Int) then
      bif ieq s.2.2.2.2.2.1 (ilen s.2.1) then
       bindN (sub_Send n (s.2.2.2.1, ())) fun p1 =>
       bif !p1.1.2.2.1 then
        some (Sum.inr (false, ()))
       else
       bif !(ieq p1.1.1.2.1 s.1) then
        some (Sum.inr (false, ()))
       else
       bif roomA s.2.2.2.2.1 [p1.1.1] 72 then
        bindN (sub_ReplayO n (app s.2.2.2.2.1 [p1.1.1], ())) fun p2 =>
        bif !(ieq p2.1.2.2.1 (0 : Int)) then
         some (Sum.inr (false, ()))
        else
        bif !(ieq p2.1.2.1 p1.1.1.2.2.1) then
         some (Sum.inr (false, ()))
        else
        bindL (law_Tells_l3 n n (s.1, s.2.1, s.2.2.1, p1.1.2.1, p2.2.1, s.2.2.2.2.2.1, s.2.2.2.2.2.2.1, p2.1.1, p2.1.2.1, false, (0 : Int), ())) (fun a3 =>
         bif !a3.2.2.2.2.2.2.2.1 then
          some (Sum.inr (false, ()))
         else
         bif ilt a3.2.2.2.2.2.1 (ilen a3.2.1) then
          some (Sum.inl (a3.1, a3.2.1, a3.2.2.1, a3.2.2.2.1, a3.2.2.2.2.1, a3.2.2.2.2.2.1, ()))
         else
         bindL (law_Tells_l2 n g (a3.1, a3.2.1, a3.2.2.1, a3.2.2.2.1, a3.2.2.2.2.1, a3.2.2.2.2.2.1, iadd .i64 a3.2.2.2.2.2.2.1 (1 : Int), ())) (fun a5 =>
          some (Sum.inl a5)) fun b6 =>
         some (Sum.inr b6)) fun b4 =>
        none
       else none
      else
      bif ile (0 : Int) s.2.2.2.2.2.1 then
       bindN (lat s.2.1 (iN s.2.2.2.2.2.1)) fun v7 =>
       bif v7.2.2.1 then
        bindN (sub_Send n (s.2.2.2.1, ())) fun p8 =>
        bif !p8.1.2.2.1 then
         some (Sum.inr (false, ()))
        else
        bif !(ieq p8.1.1.2.1 s.1) then
         some (Sum.inr (false, ()))
        else
        bif roomA s.2.2.2.2.1 [p8.1.1] 72 then
         bindN (sub_ReplayO n (app s.2.2.2.2.1 [p8.1.1], ())) fun p9 =>
         bif !(ieq p9.1.2.2.1 (0 : Int)) then
          some (Sum.inr (false, ()))
         else
         bif !(ieq p9.1.2.1 p8.1.1.2.2.1) then
          some (Sum.inr (false, ()))
         else
         bindL (law_Tells_l3 n n (s.1, s.2.1, s.2.2.1, p8.1.2.1, p9.2.1, s.2.2.2.2.2.1, s.2.2.2.2.2.2.1, p9.1.1, p9.1.2.1, false, (0 : Int), ())) (fun a10 =>
          bif !a10.2.2.2.2.2.2.2.1 then
           some (Sum.inr (false, ()))
          else
          bif ilt a10.2.2.2.2.2.1 (ilen a10.2.1) then
           some (Sum.inl (a10.1, a10.2.1, a10.2.2.1, a10.2.2.2.1, a10.2.2.2.2.1, a10.2.2.2.2.2.1, ()))
          else
          bindL (law_Tells_l2 n g (a10.1, a10.2.1, a10.2.2.1, a10.2.2.2.1, a10.2.2.2.2.1, a10.2.2.2.2.2.1, iadd .i64 a10.2.2.2.2.2.2.1 (1 : Int), ())) (fun a12 =>
           some (Sum.inl a12)) fun b13 =>
          some (Sum.inr b13)) fun b11 =>
         none
        else none
       else
       some (Sum.inl (s.1, s.2.1, s.2.2.1, s.2.2.2.1, s.2.2.2.2.1, s.2.2.2.2.2.1, ()))
      else none
     else
     some (Sum.inl (s.1, s.2.1, s.2.2.1, s.2.2.2.1, s.2.2.2.2.1, s.2.2.2.2.2.1, ()))
    else
    some (Sum.inl (s.1, s.2.1, s.2.2.1, s.2.2.2.1, s.2.2.2.2.1, s.2.2.2.2.2.1, ()))
theorem law_Tells_l2_ok (n : Nat) : ∀ g, LEntOk Tryz.prog 10 (nSl law_Tells_sg) ⟨2, [.tree (.int .i64), .tree (.slice tLaw19_Push), .tree (.int .i64), .boxr tSub, .own tMessage, .tree (.int .i64), .tree (.int .i64)], 4, [.tree (.int .i64), .tree (.slice tLaw19_Push), .tree (.int .i64), .boxr tSub, .own tMessage, .tree (.int .i64)], [.tree .bool], law_Tells_l2 n g⟩ g
  | 0 => loop_zero' fun _ => rfl
  | g + 1 => loop_step' mixed (T := [law_alive_ent n, r08_Great_ent n, r08_Right_ent n, sub_New_ent n, sub_Send_ent n, sub_ReplayO_ent n, r08_Same_ent n, sub_Push_ent n]) (tabCons (law_alive_ok n) (tabCons (r08_Great_ok n) (tabCons (r08_Right_ok n) (tabCons (sub_New_ok n) (tabCons (sub_Send_ok n) (tabCons (sub_ReplayO_ok n) (tabCons (r08_Same_ok n) (tabCons (sub_Push_ok n) tabNil)))))))) (tabLCons (law_Tells_l3_ok n n) tabLNil) (law_Tells_l2_ok n g) fun s => by kernel_rfl
def law_Tells_l1 (n : Nat) : Nat → SgEl [.tree (.int .i64), .tree (.slice tLaw19_Push), .tree (.int .i64), .boxr tSub, .own tMessage, .tree (.int .i64)] → Option (SgEl [.tree (.slice tLaw19_Push), .own tMessage] ⊕ SgEl [.tree .bool])
  | 0, _ => none
  | g + 1, s =>
    bif ile s.2.2.2.2.2.1 (ilen s.2.1) then
     bindL (law_Tells_l2 n n (s.1, s.2.1, s.2.2.1, s.2.2.2.1, s.2.2.2.2.1, s.2.2.2.2.2.1, (0 : Int), ())) (fun a1 =>
      bif ilt a1.2.2.2.2.2.1 (ilen a1.2.1) then
       bif ile (0 : Int) a1.2.2.2.2.2.1 then
        bindN (lat a1.2.1 (iN a1.2.2.2.2.2.1)) fun v3 =>
        bif ile (0 : Int) a1.2.2.2.2.2.1 then
         bindN (lat a1.2.1 (iN a1.2.2.2.2.2.1)) fun v4 =>
         bindN (sub_Push n (a1.2.2.2.1, v3.1, v4.2.1, a1.2.2.1, ())) fun p5 =>
         bif !(ieq p5.1.2.1 (0 : Int)) then
          some (Sum.inr (false, ()))
         else
         bif ilt a1.2.2.1 (ilen p5.1.1.2.2.2.2.1) then
          some (Sum.inr (false, ()))
         else
         bindL (law_Tells_l1 n g (a1.1, a1.2.1, a1.2.2.1, p5.1.1, a1.2.2.2.2.1, iadd .i64 a1.2.2.2.2.2.1 (1 : Int), ())) (fun a6 =>
          some (Sum.inl a6)) fun b7 =>
         some (Sum.inr b7)
        else none
       else none
      else
      bindL (law_Tells_l1 n g (a1.1, a1.2.1, a1.2.2.1, a1.2.2.2.1, a1.2.2.2.2.1, iadd .i64 a1.2.2.2.2.2.1 (1 : Int), ())) (fun a8 =>
       some (Sum.inl a8)) fun b9 =>
      some (Sum.inr b9)) fun b2 =>
     some (Sum.inr b2)
    else
    some (Sum.inl (s.2.1, s.2.2.2.2.1, ()))
theorem law_Tells_l1_ok (n : Nat) : ∀ g, LEntOk Tryz.prog 10 (nSl law_Tells_sg) ⟨1, [.tree (.int .i64), .tree (.slice tLaw19_Push), .tree (.int .i64), .boxr tSub, .own tMessage, .tree (.int .i64)], 2, [.tree (.slice tLaw19_Push), .own tMessage], [.tree .bool], law_Tells_l1 n g⟩ g
  | 0 => loop_zero' fun _ => rfl
  | g + 1 => loop_step' mixed (T := [law_alive_ent n, r08_Great_ent n, r08_Right_ent n, sub_New_ent n, sub_Send_ent n, sub_ReplayO_ent n, r08_Same_ent n, sub_Push_ent n]) (tabCons (law_alive_ok n) (tabCons (r08_Great_ok n) (tabCons (r08_Right_ok n) (tabCons (sub_New_ok n) (tabCons (sub_Send_ok n) (tabCons (sub_ReplayO_ok n) (tabCons (r08_Same_ok n) (tabCons (sub_Push_ok n) tabNil)))))))) (tabLCons (law_Tells_l2_ok n n) (tabLCons (law_Tells_l3_ok n n) tabLNil)) (law_Tells_l1_ok n g) fun s => by kernel_rfl
def law_Tells_l0 (n : Nat) : Nat → SgEl [.tree (.int .i64), .tree (.slice tLaw19_Push), .tree (.int .u8), .tree (.int .i64)] → Option (SgEl [.tree (.int .i64), .tree (.slice tLaw19_Push), .tree (.int .u8)] ⊕ SgEl [.tree .bool])
  | 0, _ => none
  | g + 1, s =>
    bif ilt s.2.2.2.1 (ilen s.2.1) then
     bif ile (0 : Int) s.2.2.2.1 then
      bindN (lat s.2.1 (iN s.2.2.2.1)) fun v1 =>
      bindN (r08_Great n (v1.2.1, ())) fun p2 =>
      bif p2.1.1 then
       some (Sum.inr (true, ()))
      else
      bif ile (0 : Int) s.2.2.2.1 then
       bindN (lat s.2.1 (iN s.2.2.2.1)) fun v3 =>
       bindN (r08_Right n (v3.2.1, ())) fun p4 =>
       bif !p4.1.1 then
        some (Sum.inr (true, ()))
       else
       bif ile (0 : Int) s.2.2.2.1 then
        bindN (lat s.2.1 (iN s.2.2.2.1)) fun v5 =>
        bif ilt v5.1 (0 : Int) then
         some (Sum.inr (true, ()))
        else
        bif ilt (0 : Int) s.2.2.2.1 then
         bif ile (0 : Int) s.2.2.2.1 then
          bindN (lat s.2.1 (iN s.2.2.2.1)) fun v6 =>
          bif ile (0 : Int) (isub .i64 s.2.2.2.1 (1 : Int)) then
           bindN (lat s.2.1 (iN (isub .i64 s.2.2.2.1 (1 : Int)))) fun v7 =>
           bif ile v6.1 v7.1 then
            some (Sum.inr (true, ()))
           else
           bindL (law_Tells_l0 n g (s.1, s.2.1, s.2.2.1, iadd .i64 s.2.2.2.1 (1 : Int), ())) (fun a8 =>
            some (Sum.inl a8)) fun b9 =>
           some (Sum.inr b9)
          else none
         else none
        else
        bindL (law_Tells_l0 n g (s.1, s.2.1, s.2.2.1, iadd .i64 s.2.2.2.1 (1 : Int), ())) (fun a10 =>
         some (Sum.inl a10)) fun b11 =>
        some (Sum.inr b11)
       else none
      else none
     else none
    else
    some (Sum.inl (s.1, s.2.1, s.2.2.1, ()))
theorem law_Tells_l0_ok (n : Nat) : ∀ g, LEntOk Tryz.prog 10 (nSl law_Tells_sg) ⟨0, [.tree (.int .i64), .tree (.slice tLaw19_Push), .tree (.int .u8), .tree (.int .i64)], 0, [.tree (.int .i64), .tree (.slice tLaw19_Push), .tree (.int .u8)], [.tree .bool], law_Tells_l0 n g⟩ g
  | 0 => loop_zero' fun _ => rfl
  | g + 1 => loop_step' mixed (T := [law_alive_ent n, r08_Great_ent n, r08_Right_ent n, sub_New_ent n, sub_Send_ent n, sub_ReplayO_ent n, r08_Same_ent n, sub_Push_ent n]) (tabCons (law_alive_ok n) (tabCons (r08_Great_ok n) (tabCons (r08_Right_ok n) (tabCons (sub_New_ok n) (tabCons (sub_Send_ok n) (tabCons (sub_ReplayO_ok n) (tabCons (r08_Same_ok n) (tabCons (sub_Push_ok n) tabNil)))))))) (tabLCons (law_Tells_l1_ok n n) (tabLCons (law_Tells_l2_ok n n) (tabLCons (law_Tells_l3_ok n n) tabLNil))) (law_Tells_l0_ok n g) fun s => by kernel_rfl
def law_Tells (n : Nat) (x : SgEl law_Tells_sg) : Option (RtEl law_Tells_rs × OutEl law_Tells_sg) :=
  bindN (law_alive n ()) fun p1 =>
  bif !p1.1.1 then
   some ((false, ()), ((), (), (), ()))
  else
  bif ilt (20 : Int) (ilen x.2.1) then
   some ((true, ()), ((), (), (), ()))
  else
  bindL (law_Tells_l0 n n (x.1, x.2.1, x.2.2.1, (0 : Int), ())) (fun a2 =>
   bif ieq (4 : Int) (0 : Int) then
    none
   else
   bindN (sub_New n (a2.1, ((0 : Int), (⟨#[]⟩ : ByteArray), [], [], ()), ())) fun p4 =>
   bindL (law_Tells_l1 n n (a2.1, a2.2.1, iadd .i64 (1 : Int) (iconv .i64 (irem a2.2.2.1 (4 : Int))), p4.1.1, [], (0 : Int), ())) (fun a5 =>
    bif ilt (0 : Int) (ilen a5.2.1) then
     some ((true, ()), ((), (), (), ()))
    else
    some ((ieq (ilen a5.1) (0 : Int), ()), ((), (), (), ()))) fun b6 =>
   some (b6, ((), (), (), ()))) fun b3 =>
  some (b3, ((), (), (), ()))
abbrev law_Tells_ent (n : Nat) : Ent := ⟨10, law_Tells_sg, law_Tells_rs, law_Tells n⟩
theorem law_Tells_ok (n : Nat) : EntOk Tryz.prog (law_Tells_ent n) := ent_ok' mixed (T := [law_alive_ent n, r08_Great_ent n, r08_Right_ent n, sub_New_ent n, sub_Send_ent n, sub_ReplayO_ent n, r08_Same_ent n, sub_Push_ent n]) (tabCons (law_alive_ok n) (tabCons (r08_Great_ok n) (tabCons (r08_Right_ok n) (tabCons (sub_New_ok n) (tabCons (sub_Send_ok n) (tabCons (sub_ReplayO_ok n) (tabCons (r08_Same_ok n) (tabCons (sub_Push_ok n) tabNil)))))))) (tabLCons (law_Tells_l0_ok n n) (tabLCons (law_Tells_l1_ok n n) (tabLCons (law_Tells_l2_ok n n) (tabLCons (law_Tells_l3_ok n n) tabLNil)))) fun x => by kernel_rfl
end Go.Proofs.YteaadaaghhojfaaGreatDoorE
end
