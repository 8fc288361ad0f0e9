import Derived.Test.YteaadaaghhojfaaGreatDoorZQaPQux0
import Derived.Test.YteaadaaghhojfaaGreatDoorZQaPQux5
import Derived.Test.YteaadaaghhojfaaGreatDoorZQaPQux9
import Derived.Test.YteaadaaghhojfaaGreatDoorZQaPQux11
import Derived.Test.YteaadaaghhojfaaGreatDoorZQaPQux12
import Derived.Test.YteaadaaghhojfaaGreatDoorZQaPQux13
import Derived.Test.YteaadaaghhojfaaGreatDoorZQaPQux14
import Derived.Test.YteaadaaghhojfaaGreatDoorZQaPQux15
namespace Go.Proofs.YteaadaaghhojfaaGreatDoor.PQu
open Go.RowKit Go.Proofs.YteaadaaghhojfaaGreatDoorW.PrintWords Go.Proofs.YteaadaaghhojfaaGreatDoorW.PrintLast Go.Proofs.YteaadaaghhojfaaGreatDoorW.PrintMore
attribute [local go_sem] max2_int min2_int max_two min_two max_three min_three max_four min_four
set_option linter.unusedVariables false
set_option linter.unusedSimpArgs false
set_option maxHeartbeats 8000000
set_option maxRecDepth 100000
def ebbtidelaw07_QueryTells.j0:Nat→Bool→Int→ByteArray→List (S127)→List ByteArray→Int→ByteArray→List (S127)→List ByteArray→Option (Bool)
 | 0,_,_,_,_,_,_,_,_,_=>none
 | k+1,x12,x447000,x447001,x447002,x447003,x448000,x448001,x448002,x448003=>if x12=true then (some true) else ((query_Right.f k x447000 x447001 x447002 x447003).bind fun t451=>((ebbtideref07_Right.f k x447000 x447001 x447002 x447003).bind fun t452=>(if (t451 ==t452)=true then ((query_Text.f k x447000 x447001 x447002 x447003).bind fun t453=>((ebbtideref07_Text.f k x447000 x447001 x447002 x447003).bind fun t454=>(if t453.toList=t454.toList then ((query_Same.f k x447000 x447001 x447002 x447003 x448000 x448001 x448002 x448003).bind fun t455=>((ebbtideref07_Same.f k x447000 x447001 x447002 x447003 x448000 x448001 x448002 x448003).bind fun t456=>(if (t455 ==t456)=true then ((query_Same.f k x447000 x447001 x447002 x447003 x447000 x447001 x447002 x447003).bind fun t457=>(some t457)) else (none)))) else (none)))) else (none))))
def ebbtidelaw07_QueryTells.f (k:Nat) (a0_0:Int) (a0_1:ByteArray) (l0_2:List (S127)) (l0_3:List ByteArray) (a1_0:Int) (a1_1:ByteArray) (l1_2:List (S127)) (l1_3:List ByteArray):Option (Bool):=(ebbtidelaw07_alive.f k).bind fun t448=>(if t448=true then ((ebbtideref07_Great.f k a0_0 a0_1 l0_2 l0_3).bind fun t449=>(if t449=true then (ebbtidelaw07_QueryTells.j0 k true a0_0 a0_1 l0_2 l0_3 a1_0 a1_1 l1_2 l1_3) else ((ebbtideref07_Great.f k a1_0 a1_1 l1_2 l1_3).bind fun t450=>(ebbtidelaw07_QueryTells.j0 k t450 a0_0 a0_1 l0_2 l0_3 a1_0 a1_1 l1_2 l1_3)))) else (none))
theorem ebbtidelaw07_QueryTells.mono_l:∀ k,(∀ y0 y1 y2 y3 y4 y5 y6 y7 y8,LeO (ebbtidelaw07_QueryTells.j0 k y0 y1 y2 y3 y4 y5 y6 y7 y8) (ebbtidelaw07_QueryTells.j0 (k+1) y0 y1 y2 y3 y4 y5 y6 y7 y8))
 | 0=>fun _ _ _ _ _ _ _ _ _ r h=>by simp [ebbtidelaw07_QueryTells.j0] at h
 | k+1=>by
  have ih0:=ebbtidelaw07_QueryTells.mono_l k
  ·intro y0 y1 y2 y3 y4 y5 y6 y7 y8
   unfold ebbtidelaw07_QueryTells.j0
   repeat' first
   | (with_reducible exact ih0 _ _ _ _ _ _ _ _ _)
   | (with_reducible exact ebbtidelaw07_alive.mono _)
   | (with_reducible exact ebbtideref07_Great.mono _ _ _ _ _)
   | (with_reducible exact ebbtideref07_Right.mono _ _ _ _ _)
   | (with_reducible exact ebbtideref07_Same.mono _ _ _ _ _ _ _ _ _)
   | (with_reducible exact ebbtideref07_Text.mono _ _ _ _ _)
   | (with_reducible exact query_Right.mono _ _ _ _ _)
   | (with_reducible exact query_Same.mono _ _ _ _ _ _ _ _ _)
   | (with_reducible exact query_Text.mono _ _ _ _ _)
   | (with_reducible exact LeO.refl _)
   | (with_reducible exact LeO.none _)
   | (with_reducible refine LeO.ite ?_ ?_)
   | (with_reducible refine LeO.bind ?_ (fun _=>?_))
   | exact ih0 _ _ _ _ _ _ _ _ _
   | exact ebbtidelaw07_alive.mono _
   | exact ebbtideref07_Great.mono _ _ _ _ _
   | exact ebbtideref07_Right.mono _ _ _ _ _
   | exact ebbtideref07_Same.mono _ _ _ _ _ _ _ _ _
   | exact ebbtideref07_Text.mono _ _ _ _ _
   | exact query_Right.mono _ _ _ _ _
   | exact query_Same.mono _ _ _ _ _ _ _ _ _
   | exact query_Text.mono _ _ _ _ _
   | exact LeO.none _
   | refine LeO.ite ?_ ?_
   | refine LeO.bind ?_ (fun _=>?_)
theorem ebbtidelaw07_QueryTells.mono:∀ a0 a1 a2 a3 a4 a5 a6 a7 k,LeO (ebbtidelaw07_QueryTells.f k a0 a1 a2 a3 a4 a5 a6 a7) (ebbtidelaw07_QueryTells.f (k+1) a0 a1 a2 a3 a4 a5 a6 a7):=by
 intro a0 a1 a2 a3 a4 a5 a6 a7 k
 have ih0:=ebbtidelaw07_QueryTells.mono_l k
 unfold ebbtidelaw07_QueryTells.f
 repeat' first
   | (with_reducible exact ih0 _ _ _ _ _ _ _ _ _)
   | (with_reducible exact ebbtidelaw07_alive.mono _)
   | (with_reducible exact ebbtideref07_Great.mono _ _ _ _ _)
   | (with_reducible exact ebbtideref07_Right.mono _ _ _ _ _)
   | (with_reducible exact ebbtideref07_Same.mono _ _ _ _ _ _ _ _ _)
   | (with_reducible exact ebbtideref07_Text.mono _ _ _ _ _)
   | (with_reducible exact query_Right.mono _ _ _ _ _)
   | (with_reducible exact query_Same.mono _ _ _ _ _ _ _ _ _)
   | (with_reducible exact query_Text.mono _ _ _ _ _)
   | (with_reducible exact LeO.refl _)
   | (with_reducible exact LeO.none _)
   | (with_reducible refine LeO.ite ?_ ?_)
   | (with_reducible refine LeO.bind ?_ (fun _=>?_))
   | exact ih0 _ _ _ _ _ _ _ _ _
   | exact ebbtidelaw07_alive.mono _
   | exact ebbtideref07_Great.mono _ _ _ _ _
   | exact ebbtideref07_Right.mono _ _ _ _ _
   | exact ebbtideref07_Same.mono _ _ _ _ _ _ _ _ _
   | exact ebbtideref07_Text.mono _ _ _ _ _
   | exact query_Right.mono _ _ _ _ _
   | exact query_Same.mono _ _ _ _ _ _ _ _ _
   | exact query_Text.mono _ _ _ _ _
   | exact LeO.none _
   | refine LeO.ite ?_ ?_
   | refine LeO.bind ?_ (fun _=>?_)
def ebbtidelaw07_QueryTells.T5:Bool×List (List Nat×List Nat):=(true,[([],[]),([0],[0]),([],[]),([2,1],[2]),([1,3],[1,3]),([4,3],[4]),([5],[5]),([6,5,5],[5,6]),([5],[5]),([8,7,5],[5,8]),([7,9,5],[5,7,9]),([5,10],[5,10]),([11,9],[11]),([12],[12]),([12],[12]),([13,14,12,12],[12,13,14]),([12],[12]),([12],[12]),([16,17,15,12],[12,16,17]),([15,18,12],[12,15,18]),([12,19],[12,19]),([20,18],[20]),([21],[21]),([21],[21]),([22,23,21,21],[21,22,23]),([21,24],[21,24]),([25,24,0,1,2,3,4,5,6,7,8,9,10,11,12,13,14,15,16,17,18,19,20,21,22,23,24,25],[25])])
def ebbtidelaw07_QueryTells.B5:List Nat:=[0,1,0,7,15,31,63,127,63,511,1023,2047,4095,8191,8191,32767,8191,8191,262143,524287,1048575,2097151,4194303,4194303,16777215,33554431,67108863]
theorem ebbtidelaw07_QueryTells.tab5:rtab .any (opsOf Tryz.f3 5)=ebbtidelaw07_QueryTells.T5:=qK
theorem ebbtidelaw07_QueryTells.bits5:waitsOk ebbtidelaw07_QueryTells.T5.2 ebbtidelaw07_QueryTells.B5=true:=qK
theorem ebbtidelaw07_QueryTells.calls (k:Nat) (a0_0:Int) (a0_1:ByteArray) (A0_2:Option Addr) (c0_2:Nat) (l0_2:List (S127)) (A0_3:Option Addr) (c0_3:Nat) (l0_3:List ByteArray) (a1_0:Int) (a1_1:ByteArray) (A1_2:Option Addr) (c1_2:Nat) (l1_2:List (S127)) (A1_3:Option Addr) (c1_3:Nat) (l1_3:List ByteArray) (r:Bool) (w:World) (hG:GInt w) (hr0_2:Kd.C k127 w A0_2 l0_2.length l0_2) (hc0_2:l0_2.length≤c0_2) (hr0_3:Kd.C Kd.string w A0_3 l0_3.length l0_3) (hc0_3:l0_3.length≤c0_3) (hr1_2:Kd.C k127 w A1_2 l1_2.length l1_2) (hc1_2:l1_2.length≤c1_2) (hr1_3:Kd.C Kd.string w A1_3 l1_3.length l1_3) (hc1_3:l1_3.length≤c1_3) (h:ebbtidelaw07_QueryTells.f k a0_0 a0_1 l0_2 l0_3 a1_0 a1_1 l1_2 l1_3=some r) :
  Calls Tryz.prog 3 #[.agg #[.int .i64 a0_0, .string a0_1, .slice A0_2 l0_2.length c0_2, .slice A0_3 l0_3.length c0_3], .agg #[.int .i64 a1_0, .string a1_1, .slice A1_2 l1_2.length c1_2, .slice A1_3 l1_3.length c1_3]] w fun e w'=>e = .returned (.bool r)∧Below w.heap.size w w':=by
 have HG:=Aside0.mk hG
 clear hG
 have hu25:=Tryz.underlying25
 have HR0_2:=Aside0.mk hr0_2
 have HC0_2:=Aside0.mk hc0_2
 clear hr0_2 hc0_2
 have HR0_3:=Aside0.mk hr0_3
 have HC0_3:=Aside0.mk hc0_3
 clear hr0_3 hc0_3
 have HR1_2:=Aside0.mk hr1_2
 have HC1_2:=Aside0.mk hc1_2
 clear hr1_2 hc1_2
 have HR1_3:=Aside0.mk hr1_3
 have HC1_3:=Aside0.mk hc1_3
 clear hr1_3 hc1_3
 have HB:=Aside0.mk (Below.refl w.heap.size w)
 have H:((ebbtidelaw07_alive.f k).bind fun t448=>(if t448=true then ((ebbtideref07_Great.f k a0_0 a0_1 l0_2 l0_3).bind fun t449=>(if t449=true then (ebbtidelaw07_QueryTells.j0 k true a0_0 a0_1 l0_2 l0_3 a1_0 a1_1 l1_2 l1_3) else ((ebbtideref07_Great.f k a1_0 a1_1 l1_2 l1_3).bind fun t450=>(ebbtidelaw07_QueryTells.j0 k t450 a0_0 a0_1 l0_2 l0_3 a1_0 a1_1 l1_2 l1_3)))) else (none)))=some r:=h
 clear h
 replace H:=Option.bind_eq_some_iff.mp H
 obtain ⟨t448,A30,H⟩:=H
 replace H:(if t448=true then ((ebbtideref07_Great.f k a0_0 a0_1 l0_2 l0_3).bind fun t449=>(if t449=true then (ebbtidelaw07_QueryTells.j0 k true a0_0 a0_1 l0_2 l0_3 a1_0 a1_1 l1_2 l1_3) else ((ebbtideref07_Great.f k a1_0 a1_1 l1_2 l1_3).bind fun t450=>(ebbtidelaw07_QueryTells.j0 k t450 a0_0 a0_1 l0_2 l0_3 a1_0 a1_1 l1_2 l1_3)))) else (none))=some r:=H
 have A3:=Aside0.mk A30
 clear A30
 by_cases c4:t448=true
 rotate_left
 ·replace c4:=Bool.eq_false_iff.mpr c4
  subst c4
  have H1:(none)=some r:=by rw [if_neg (show ¬ (false=true) by decide)] at H;exact H
  clear H
  have H:=H1
  clear H1
  exact absurd H (by simp)
 subst c4
 have H1:((ebbtideref07_Great.f k a0_0 a0_1 l0_2 l0_3).bind fun t449=>(if t449=true then (ebbtidelaw07_QueryTells.j0 k true a0_0 a0_1 l0_2 l0_3 a1_0 a1_1 l1_2 l1_3) else ((ebbtideref07_Great.f k a1_0 a1_1 l1_2 l1_3).bind fun t450=>(ebbtidelaw07_QueryTells.j0 k t450 a0_0 a0_1 l0_2 l0_3 a1_0 a1_1 l1_2 l1_3))))=some r:=by rw [if_pos rfl] at H;exact H
 clear H
 have H:=H1
 clear H1
 have HC5:=Aside0.mk H
 clear H
 go_enter Tryz.func3,Tryz.ntmps3
 go_upto_region 3 with (first|((with_reducible refine gate_dst (N:=2) rfl ?_);refine box_event ?hg (N:=2) ?hd (cs:=#[.int .i64 a0_0, .string a0_1, .slice A0_2 l0_2.length c0_2, .slice A0_3 l0_3.length c0_3]) (t:=25) ?hr ?_;(case hd=>rfl);(case hg=>rfl);(case hr=>first|(go_simp;done)|(go_simp;rfl));intro gb446 hg w6 hbox hb;have BK446:=Aside0.mk hbox;have GW446:Aside0 (w.heap.size≤gb446):=⟨qH⟩;have GE446:=GW446;replace HB:=Aside0.mk (below_step qB hb);clear hb hbox hg)|((with_reducible refine gate_dst (N:=3) rfl ?_);refine box_event ?hg (N:=3) ?hd (cs:=#[.int .i64 a1_0, .string a1_1, .slice A1_2 l1_2.length c1_2, .slice A1_3 l1_3.length c1_3]) (t:=25) ?hr ?_;(case hd=>rfl);(case hg=>rfl);(case hr=>first|(go_simp;done)|(go_simp;rfl));intro gb447 hg w7 hbox hb;have BK447:=Aside0.mk hbox;have GW447:Aside0 (w.heap.size≤gb447):=⟨qI⟩;have GE447:=GW447;replace HB:=Aside0.mk (below_step qC hb);have NB446_447:=Aside0.mk ((by rw [hg];exact Nat.ne_of_lt (blk_lt (g:=gb446) (o := .cells #[.int .i64 a0_0, .string a0_1, .slice A0_2 l0_2.length c0_2, .slice A0_3 l0_3.length c0_3] 25 (0,0)) (qW BK446)):gb446≠gb447));have NB447_446:=Aside0.mk ((by rw [hg];exact Nat.ne_of_gt (blk_lt (g:=gb446) (o := .cells #[.int .i64 a0_0, .string a0_1, .slice A0_2 l0_2.length c0_2, .slice A0_3 l0_3.length c0_3] 25 (0,0)) (qW BK446)):gb447≠gb446));replace BK446:=Aside0.mk (blk_below (g:=gb446) (o := .cells #[.int .i64 a0_0, .string a0_1, .slice A0_2 l0_2.length c0_2, .slice A0_3 l0_3.length c0_3] 25 (0,0)) (qW BK446) hb);clear hb hbox hg)|((with_reducible refine gate_callee (f:=12) rfl ?_);refine goesL_ (some 5) rfl rfl Tryz.func12 qK rfl #[] rfl qG ?_;(with_reducible refine (ebbtidelaw07_alive.calls k  true _ qM A3.out).mono ?_);rintro e w8 ⟨rfl,hb⟩;refine ⟨_,rfl,?_⟩;replace BK446:=Aside0.mk (blk_below (g:=gb446) (o := .cells #[.int .i64 a0_0, .string a0_1, .slice A0_2 l0_2.length c0_2, .slice A0_3 l0_3.length c0_3] 25 (0,0)) (qW BK446) hb);replace BK447:=Aside0.mk (blk_below (g:=gb447) (o := .cells #[.int .i64 a1_0, .string a1_1, .slice A1_2 l1_2.length c1_2, .slice A1_3 l1_3.length c1_3] 25 (0,0)) (qW BK447) hb);replace HB:=Aside0.mk (below_step qC hb);clear hb))
 (try simp only [Act.put,List.setIfInBounds_toArray,List.set_cons_zero,List.set_cons_succ])
 go_cut [12] (fun v12 wc=>∃ (kq:Nat) (x12_4:Bool),v12 = .bool x12_4∧Aside0 (ebbtidelaw07_QueryTells.j0 kq x12_4 a0_0 a0_1 l0_2 l0_3 a1_0 a1_1 l1_2 l1_3=some r)∧Aside0 (kq≤k)∧Aside0 (wc.heap[gb446]?=some (.cells #[.int .i64 a0_0, .string a0_1,(.slice A0_2 l0_2.length c0_2),(.slice A0_3 l0_3.length c0_3)] 25 (0,0)))∧Aside0 (wc.heap[gb447]?=some (.cells #[.int .i64 a1_0, .string a1_1,(.slice A1_2 l1_2.length c1_2),(.slice A1_3 l1_3.length c1_3)] 25 (0,0)))∧Aside0 (Below w.heap.size w wc))
 case first =>
  have H:=HC5.out
  clear HC5
  replace H:=Option.bind_eq_some_iff.mp H
  obtain ⟨t449,A90,H⟩:=H
  replace H:(if t449=true then (ebbtidelaw07_QueryTells.j0 k true a0_0 a0_1 l0_2 l0_3 a1_0 a1_1 l1_2 l1_3) else ((ebbtideref07_Great.f k a1_0 a1_1 l1_2 l1_3).bind fun t450=>(ebbtidelaw07_QueryTells.j0 k t450 a0_0 a0_1 l0_2 l0_3 a1_0 a1_1 l1_2 l1_3)))=some r:=H
  have A9:=Aside0.mk A90
  clear A90
  by_cases c10:t449=true
  ·subst c10
   have H1:(ebbtidelaw07_QueryTells.j0 k true a0_0 a0_1 l0_2 l0_3 a1_0 a1_1 l1_2 l1_3)=some r:=by rw [if_pos rfl] at H;exact H
   clear H
   have H:=H1
   clear H1
   have H':=Aside0.mk H
   clear H
   have hnb11:=NB446_447.out
   have hnc11:=NB447_446.out
   obtain ⟨hcz12_0,hcz12_1,hcz12_2,hcz12_3,hfz12_0,hfz12_1,hfz12_2,hfz12_3⟩:=cf4 BK446.out
   go_wp2_with (first|((with_reducible refine gate_callee (f:=13) rfl ?_);refine goesL_ (some 8) rfl rfl Tryz.func13 qK rfl #[.agg #[.int .i64 a0_0, .string a0_1, .slice A0_2 l0_2.length c0_2, .slice A0_3 l0_3.length c0_3]] rfl qG ?_;(with_reducible refine (ebbtideref07_Great.calls k a0_0 a0_1 _ _ l0_2 _ _ l0_3 true _ ?side1 ?side2 ?side3 ?side4 A9.out).mono ?_);(case side1=>repeat (first|exact (Kd.C_below HR0_2.out HB.out)|(with_reducible refine Kd.C_alloc ?_ _)|(with_reducible refine Kd.C_drewN ?_ _)|(with_reducible refine Kd.C_drew ?_)));(case side2=>exact HC0_2.out);(case side3=>repeat (first|exact (Kd.C_below HR0_3.out HB.out)|(with_reducible refine Kd.C_alloc ?_ _)|(with_reducible refine Kd.C_drewN ?_ _)|(with_reducible refine Kd.C_drew ?_)));(case side4=>exact HC0_3.out);rintro e w13 ⟨rfl,hb⟩;refine ⟨_,rfl,?_⟩;replace BK446:=Aside0.mk (blk_below (g:=gb446) (o := .cells #[.int .i64 a0_0, .string a0_1, .slice A0_2 l0_2.length c0_2, .slice A0_3 l0_3.length c0_3] 25 (0,0)) (qW BK446) hb);replace BK447:=Aside0.mk (blk_below (g:=gb447) (o := .cells #[.int .i64 a1_0, .string a1_1, .slice A1_2 l1_2.length c1_2, .slice A1_3 l1_3.length c1_3] 25 (0,0)) (qW BK447) hb);replace HB:=Aside0.mk (below_step qC hb);clear hb))
   go_meet
   case rel=>exact ⟨_,(true),qS,H',⟨by first|omega|exact Nat.le_refl _⟩,⟨qW BK446⟩,⟨qW BK447⟩,⟨qC⟩⟩
  replace c10:=Bool.eq_false_iff.mpr c10
  subst c10
  have H1:((ebbtideref07_Great.f k a1_0 a1_1 l1_2 l1_3).bind fun t450=>(ebbtidelaw07_QueryTells.j0 k t450 a0_0 a0_1 l0_2 l0_3 a1_0 a1_1 l1_2 l1_3))=some r:=by rw [if_neg (show ¬ (false=true) by decide)] at H;exact H
  clear H
  have H:=H1
  clear H1
  replace H:=Option.bind_eq_some_iff.mp H
  obtain ⟨t450,A140,H⟩:=H
  replace H:(ebbtidelaw07_QueryTells.j0 k t450 a0_0 a0_1 l0_2 l0_3 a1_0 a1_1 l1_2 l1_3)=some r:=H
  have A14:=Aside0.mk A140
  clear A140
  have H':=Aside0.mk H
  clear H
  have hnb15:=NB446_447.out
  have hnc15:=NB447_446.out
  obtain ⟨hcz16_0,hcz16_1,hcz16_2,hcz16_3,hfz16_0,hfz16_1,hfz16_2,hfz16_3⟩:=cf4 BK446.out
  go_wp2_with (first|((with_reducible refine gate_callee (f:=13) rfl ?_);refine goesL_ (some 8) rfl rfl Tryz.func13 qK rfl #[.agg #[.int .i64 a0_0, .string a0_1, .slice A0_2 l0_2.length c0_2, .slice A0_3 l0_3.length c0_3]] rfl qG ?_;(with_reducible refine (ebbtideref07_Great.calls k a0_0 a0_1 _ _ l0_2 _ _ l0_3 false _ ?side1 ?side2 ?side3 ?side4 A9.out).mono ?_);(case side1=>repeat (first|exact (Kd.C_below HR0_2.out HB.out)|(with_reducible refine Kd.C_alloc ?_ _)|(with_reducible refine Kd.C_drewN ?_ _)|(with_reducible refine Kd.C_drew ?_)));(case side2=>exact HC0_2.out);(case side3=>repeat (first|exact (Kd.C_below HR0_3.out HB.out)|(with_reducible refine Kd.C_alloc ?_ _)|(with_reducible refine Kd.C_drewN ?_ _)|(with_reducible refine Kd.C_drew ?_)));(case side4=>exact HC0_3.out);rintro e w17 ⟨rfl,hb⟩;refine ⟨_,rfl,?_⟩;replace BK446:=Aside0.mk (blk_below (g:=gb446) (o := .cells #[.int .i64 a0_0, .string a0_1, .slice A0_2 l0_2.length c0_2, .slice A0_3 l0_3.length c0_3] 25 (0,0)) (qW BK446) hb);replace BK447:=Aside0.mk (blk_below (g:=gb447) (o := .cells #[.int .i64 a1_0, .string a1_1, .slice A1_2 l1_2.length c1_2, .slice A1_3 l1_3.length c1_3] 25 (0,0)) (qW BK447) hb);replace HB:=Aside0.mk (below_step qC hb);clear hb;obtain ⟨hcz18_0,hcz18_1,hcz18_2,hcz18_3,hfz18_0,hfz18_1,hfz18_2,hfz18_3⟩:=cf4 BK447.out)|(go_at_call 13;(with_reducible refine (ebbtideref07_Great.calls k a1_0 a1_1 _ _ l1_2 _ _ l1_3 t450 _ ?side1 ?side2 ?side3 ?side4 A14.out).mono ?_);(case side1=>repeat (first|exact (Kd.C_below HR1_2.out HB.out)|(with_reducible refine Kd.C_alloc ?_ _)|(with_reducible refine Kd.C_drewN ?_ _)|(with_reducible refine Kd.C_drew ?_)));(case side2=>exact HC1_2.out);(case side3=>repeat (first|exact (Kd.C_below HR1_3.out HB.out)|(with_reducible refine Kd.C_alloc ?_ _)|(with_reducible refine Kd.C_drewN ?_ _)|(with_reducible refine Kd.C_drew ?_)));(case side4=>exact HC1_3.out);rintro e w19 ⟨rfl,hb⟩;replace BK446:=Aside0.mk (blk_below (g:=gb446) (o := .cells #[.int .i64 a0_0, .string a0_1, .slice A0_2 l0_2.length c0_2, .slice A0_3 l0_3.length c0_3] 25 (0,0)) (qW BK446) hb);replace BK447:=Aside0.mk (blk_below (g:=gb447) (o := .cells #[.int .i64 a1_0, .string a1_1, .slice A1_2 l1_2.length c1_2, .slice A1_3 l1_3.length c1_3] 25 (0,0)) (qW BK447) hb);replace HB:=Aside0.mk (below_step qC hb);clear hb))
  go_meet
  case rel=>exact ⟨_,(t450),qS,H',⟨by first|omega|exact Nat.le_refl _⟩,⟨qW BK446⟩,⟨qW BK447⟩,⟨qC⟩⟩
 case rest =>
  clear HC5
  try clear c4
  obtain ⟨kq,x12_4,rfl,HA,HJ4,BK446,BK447,HB⟩:=hcut
  cases kq with
  | zero=>exact absurd HA.out (by simp [ebbtidelaw07_QueryTells.j0])
  | succ kj4 =>
   have H:=HA.out
   clear HA
   simp only [ebbtidelaw07_QueryTells.j0] at H
   by_cases c20:x12_4=true
   ·subst c20
    have H1:(some true)=some r:=by rw [if_pos rfl] at H;exact H
    clear H
    have H:=H1
    clear H1
    obtain rfl:=Option.some.inj H
    go_wp2
    go_ret
    exact ⟨qE,qC⟩
   replace c20:=Bool.eq_false_iff.mpr c20
   subst c20
   have H1:((query_Right.f kj4 a0_0 a0_1 l0_2 l0_3).bind fun t451=>((ebbtideref07_Right.f kj4 a0_0 a0_1 l0_2 l0_3).bind fun t452=>(if (t451 ==t452)=true then ((query_Text.f kj4 a0_0 a0_1 l0_2 l0_3).bind fun t453=>((ebbtideref07_Text.f kj4 a0_0 a0_1 l0_2 l0_3).bind fun t454=>(if t453.toList=t454.toList then ((query_Same.f kj4 a0_0 a0_1 l0_2 l0_3 a1_0 a1_1 l1_2 l1_3).bind fun t455=>((ebbtideref07_Same.f kj4 a0_0 a0_1 l0_2 l0_3 a1_0 a1_1 l1_2 l1_3).bind fun t456=>(if (t455 ==t456)=true then ((query_Same.f kj4 a0_0 a0_1 l0_2 l0_3 a0_0 a0_1 l0_2 l0_3).bind fun t457=>(some t457)) else (none)))) else (none)))) else (none))))=some r:=by rw [if_neg (show ¬ (false=true) by decide)] at H;exact H
   clear H
   have H:=H1
   clear H1
   replace H:=Option.bind_eq_some_iff.mp H
   obtain ⟨t451,A210,H⟩:=H
   replace H:((ebbtideref07_Right.f kj4 a0_0 a0_1 l0_2 l0_3).bind fun t452=>(if (t451 ==t452)=true then ((query_Text.f kj4 a0_0 a0_1 l0_2 l0_3).bind fun t453=>((ebbtideref07_Text.f kj4 a0_0 a0_1 l0_2 l0_3).bind fun t454=>(if t453.toList=t454.toList then ((query_Same.f kj4 a0_0 a0_1 l0_2 l0_3 a1_0 a1_1 l1_2 l1_3).bind fun t455=>((ebbtideref07_Same.f kj4 a0_0 a0_1 l0_2 l0_3 a1_0 a1_1 l1_2 l1_3).bind fun t456=>(if (t455 ==t456)=true then ((query_Same.f kj4 a0_0 a0_1 l0_2 l0_3 a0_0 a0_1 l0_2 l0_3).bind fun t457=>(some t457)) else (none)))) else (none)))) else (none)))=some r:=H
   have A21:=Aside0.mk A210
   clear A210
   replace H:=Option.bind_eq_some_iff.mp H
   obtain ⟨t452,A220,H⟩:=H
   replace H:(if (t451 ==t452)=true then ((query_Text.f kj4 a0_0 a0_1 l0_2 l0_3).bind fun t453=>((ebbtideref07_Text.f kj4 a0_0 a0_1 l0_2 l0_3).bind fun t454=>(if t453.toList=t454.toList then ((query_Same.f kj4 a0_0 a0_1 l0_2 l0_3 a1_0 a1_1 l1_2 l1_3).bind fun t455=>((ebbtideref07_Same.f kj4 a0_0 a0_1 l0_2 l0_3 a1_0 a1_1 l1_2 l1_3).bind fun t456=>(if (t455 ==t456)=true then ((query_Same.f kj4 a0_0 a0_1 l0_2 l0_3 a0_0 a0_1 l0_2 l0_3).bind fun t457=>(some t457)) else (none)))) else (none)))) else (none))=some r:=H
   have A22:=Aside0.mk A220
   clear A220
   by_cases c23:(t451 ==t452)=true
   rotate_left
   ·rw [if_neg c23] at H
    have c23b0:(t451 ==t452)=false:=by simpa using c23
    (try (have c23b1:decide (t451=t452)=false:=by simpa using c23))
    (try (have c23b2:(t451 ==t452)=false:=by simpa using c23))
    (try (have c23b3:¬ (t451=t452):=by simpa using c23))
    clear c23
    exact absurd H (by simp)
   rw [if_pos c23] at H
   have c23b0:(t451 ==t452)=true:=c23
   (try (have c23b1:decide (t451=t452)=true:=by simpa using c23))
   (try (have c23b2:(t451 ==t452)=true:=by simpa using c23))
   clear c23
   replace H:=Option.bind_eq_some_iff.mp H
   obtain ⟨t453,A240,H⟩:=H
   replace H:((ebbtideref07_Text.f kj4 a0_0 a0_1 l0_2 l0_3).bind fun t454=>(if t453.toList=t454.toList then ((query_Same.f kj4 a0_0 a0_1 l0_2 l0_3 a1_0 a1_1 l1_2 l1_3).bind fun t455=>((ebbtideref07_Same.f kj4 a0_0 a0_1 l0_2 l0_3 a1_0 a1_1 l1_2 l1_3).bind fun t456=>(if (t455 ==t456)=true then ((query_Same.f kj4 a0_0 a0_1 l0_2 l0_3 a0_0 a0_1 l0_2 l0_3).bind fun t457=>(some t457)) else (none)))) else (none)))=some r:=H
   have A24:=Aside0.mk A240
   clear A240
   replace H:=Option.bind_eq_some_iff.mp H
   obtain ⟨t454,A250,H⟩:=H
   replace H:(if t453.toList=t454.toList then ((query_Same.f kj4 a0_0 a0_1 l0_2 l0_3 a1_0 a1_1 l1_2 l1_3).bind fun t455=>((ebbtideref07_Same.f kj4 a0_0 a0_1 l0_2 l0_3 a1_0 a1_1 l1_2 l1_3).bind fun t456=>(if (t455 ==t456)=true then ((query_Same.f kj4 a0_0 a0_1 l0_2 l0_3 a0_0 a0_1 l0_2 l0_3).bind fun t457=>(some t457)) else (none)))) else (none))=some r:=H
   have A25:=Aside0.mk A250
   clear A250
   by_cases c26:t453.toList=t454.toList
   rotate_left
   ·rw [if_neg c26] at H
    have c26b0:(t453.toList ==t454.toList)=false:=beq_eq_false_iff_ne.mpr c26
    have c26b1:(t453.toList != t454.toList)=true:=bne_iff_ne.mpr c26
    exact absurd H (by simp)
   rw [if_pos c26] at H
   have c26b0:(t453.toList ==t454.toList)=true:=beq_iff_eq.mpr c26
   have c26b1:(t453.toList != t454.toList)=false:=bne_eq_false_iff_eq.mpr c26
   clear c26
   replace H:=Option.bind_eq_some_iff.mp H
   obtain ⟨t455,A270,H⟩:=H
   replace H:((ebbtideref07_Same.f kj4 a0_0 a0_1 l0_2 l0_3 a1_0 a1_1 l1_2 l1_3).bind fun t456=>(if (t455 ==t456)=true then ((query_Same.f kj4 a0_0 a0_1 l0_2 l0_3 a0_0 a0_1 l0_2 l0_3).bind fun t457=>(some t457)) else (none)))=some r:=H
   have A27:=Aside0.mk A270
   clear A270
   replace H:=Option.bind_eq_some_iff.mp H
   obtain ⟨t456,A280,H⟩:=H
   replace H:(if (t455 ==t456)=true then ((query_Same.f kj4 a0_0 a0_1 l0_2 l0_3 a0_0 a0_1 l0_2 l0_3).bind fun t457=>(some t457)) else (none))=some r:=H
   have A28:=Aside0.mk A280
   clear A280
   by_cases c29:(t455 ==t456)=true
   rotate_left
   ·rw [if_neg c29] at H
    have c29b0:(t455 ==t456)=false:=by simpa using c29
    (try (have c29b1:decide (t455=t456)=false:=by simpa using c29))
    (try (have c29b2:(t455 ==t456)=false:=by simpa using c29))
    (try (have c29b3:¬ (t455=t456):=by simpa using c29))
    clear c29
    exact absurd H (by simp)
   rw [if_pos c29] at H
   have c29b0:(t455 ==t456)=true:=c29
   (try (have c29b1:decide (t455=t456)=true:=by simpa using c29))
   (try (have c29b2:(t455 ==t456)=true:=by simpa using c29))
   clear c29
   replace H:=Option.bind_eq_some_iff.mp H
   obtain ⟨t457,A300,H⟩:=H
   replace H:(some t457)=some r:=H
   have A30:=Aside0.mk A300
   clear A300
   obtain rfl:=Option.some.inj H
   try go_wp2
   replace BK446:=Aside0.mk (blk_drew BK446.out)
   replace BK447:=Aside0.mk (blk_drew BK447.out)
   replace HB:=Aside0.mk (below_drew1 HB.out)
   refine start_ (n:=27) (S:=fun w'=>w'.cell? ⟨gb446,0,none⟩=some (.int .i64 a0_0)∧w'.cell? ⟨gb446,1,none⟩=some (.string a0_1)∧w'.cell? ⟨gb446,2,none⟩=some (.slice A0_2 l0_2.length c0_2)∧w'.cell? ⟨gb446,3,none⟩=some (.slice A0_3 l0_3.length c0_3)∧w'.cell? ⟨gb447,0,none⟩=some (.int .i64 a1_0)∧w'.cell? ⟨gb447,1,none⟩=some (.string a1_1)∧w'.cell? ⟨gb447,2,none⟩=some (.slice A1_2 l1_2.length c1_2)∧w'.cell? ⟨gb447,3,none⟩=some (.slice A1_3 l1_3.length c1_3)) (ds:=[]) #[false,false,false,false,false,false,false,false,false,false,false,false,false,false,false,false,false,false,false,false,false,false,false,false,false,false,false] qK rfl rfl ⟨(blk_cell BK446.out 0).trans rfl,(blk_cell BK446.out 1).trans rfl,(blk_cell BK446.out 2).trans rfl,(blk_cell BK446.out 3).trans rfl,(blk_cell BK447.out 0).trans rfl,(blk_cell BK447.out 1).trans rfl,(blk_cell BK447.out 2).trans rfl,(blk_cell BK447.out 3).trans rfl⟩ (fun hHeld=>?_);refine with_tabW ebbtidelaw07_QueryTells.tab5 ebbtidelaw07_QueryTells.bits5 (fun HT_ HW_=>?_)
   generalize wc.drew=w31 at BK446 BK447 HB hHeld ⊢
   refine take_ (i:=0) (N:=some 13) (v:=?_) (a':=?_) #[true,false,false,false,false,false,false,false,false,false,false,false,false,false,false,false,false,false,false,false,false,false,false,false,false,false,false] rfl rfl (take_ofW HT_.out HW_.out qK) (fun _ _ _ h=>h) (Or.inl ⟨by rfl,?_⟩) hHeld ?_ ?_
   rotate_left
   ·rintro w' ⟨s0,s1,s2,s3,s4,s5,s6,s7⟩;go_simp;with_reducible rfl
   rotate_left
   ·simp only [Act.put,List.setIfInBounds_toArray,List.set_cons_zero,List.set_cons_succ,i64_w,i32_w];rfl
   refine take_ (i:=2) (N:=some 15) (v:=?_) (a':=?_) #[true,false,true,false,false,false,false,false,false,false,false,false,false,false,false,false,false,false,false,false,false,false,false,false,false,false,false] rfl rfl (take_ofW HT_.out HW_.out qK) (fun _ _ _ h=>h) (Or.inl ⟨by rfl,?_⟩) hHeld ?_ ?_
   rotate_left
   ·rintro w' ⟨s0,s1,s2,s3,s4,s5,s6,s7⟩;go_simp;with_reducible rfl
   rotate_left
   ·simp only [Act.put,List.setIfInBounds_toArray,List.set_cons_zero,List.set_cons_succ,i64_w,i32_w];rfl
   refine one_ (i:=1) (N:=some 14) #[true,true,true,false,false,false,false,false,false,false,false,false,false,false,false,false,false,false,false,false,false,false,false,false,false,false,false] rfl rfl (one_of HT_.out qK) (by decide) (fun K hK=>?_)
   refine goes_ Tryz.func14 qK rfl #[.agg #[.int .i64 a0_0, .string a0_1, .slice A0_2 l0_2.length c0_2, .slice A0_3 l0_3.length c0_3]] (by rfl) rfl rfl qG ?_
   with_reducible refine (query_Right.calls kj4 a0_0 a0_1 _ _ l0_2 _ _ l0_3 t451 _ ?side1 ?side2 ?side3 ?side4 A21.out).mono ?_
   (case side1=>repeat (first|exact (Kd.C_below HR0_2.out HB.out)|(with_reducible refine Kd.C_alloc ?_ _)|(with_reducible refine Kd.C_drewN ?_ _)|(with_reducible refine Kd.C_drew ?_)))
   (case side2=>exact HC0_2.out)
   (case side3=>repeat (first|exact (Kd.C_below HR0_3.out HB.out)|(with_reducible refine Kd.C_alloc ?_ _)|(with_reducible refine Kd.C_drewN ?_ _)|(with_reducible refine Kd.C_drew ?_)))
   (case side4=>exact HC0_3.out)
   rintro e w32 ⟨rfl,hb⟩
   refine ⟨_,rfl,?_⟩
   replace BK446:=Aside0.mk (blk_below (g:=gb446) (o := .cells #[.int .i64 a0_0, .string a0_1, .slice A0_2 l0_2.length c0_2, .slice A0_3 l0_3.length c0_3] 25 (0,0)) (qW BK446) hb)
   replace BK447:=Aside0.mk (blk_below (g:=gb447) (o := .cells #[.int .i64 a1_0, .string a1_1, .slice A1_2 l1_2.length c1_2, .slice A1_3 l1_3.length c1_3] 25 (0,0)) (qW BK447) hb)
   replace HB:=Aside0.mk (below_step qC hb)
   clear hb
   refine hK.out _ _ ⟨(blk_cell BK446.out 0).trans rfl,(blk_cell BK446.out 1).trans rfl,(blk_cell BK446.out 2).trans rfl,(blk_cell BK446.out 3).trans rfl,(blk_cell BK447.out 0).trans rfl,(blk_cell BK447.out 1).trans rfl,(blk_cell BK447.out 2).trans rfl,(blk_cell BK447.out 3).trans rfl⟩ (fun hHeld=>?_)
   clear hK K
   refine norm_ (a':=?_) ?_ ?_
   rotate_left
   ·show Act.put _ (some 14) _=_
    simp only [Act.put,List.setIfInBounds_toArray,List.set_cons_zero,List.set_cons_succ,i64_w,i32_w]
    rfl
   refine one_ (i:=3) (N:=some 16) #[true,true,true,true,false,false,false,false,false,false,false,false,false,false,false,false,false,false,false,false,false,false,false,false,false,false,false] rfl rfl (one_of HT_.out qK) (by decide) (fun K hK=>?_)
   refine goes_ Tryz.func15 qK rfl #[.agg #[.int .i64 a0_0, .string a0_1, .slice A0_2 l0_2.length c0_2, .slice A0_3 l0_3.length c0_3]] (by rfl) rfl rfl qG ?_
   with_reducible refine (ebbtideref07_Right.calls kj4 a0_0 a0_1 _ _ l0_2 _ _ l0_3 t452 _ ?side1 ?side2 ?side3 ?side4 A22.out).mono ?_
   (case side1=>repeat (first|exact (Kd.C_below HR0_2.out HB.out)|(with_reducible refine Kd.C_alloc ?_ _)|(with_reducible refine Kd.C_drewN ?_ _)|(with_reducible refine Kd.C_drew ?_)))
   (case side2=>exact HC0_2.out)
   (case side3=>repeat (first|exact (Kd.C_below HR0_3.out HB.out)|(with_reducible refine Kd.C_alloc ?_ _)|(with_reducible refine Kd.C_drewN ?_ _)|(with_reducible refine Kd.C_drew ?_)))
   (case side4=>exact HC0_3.out)
   rintro e w33 ⟨rfl,hb⟩
   refine ⟨_,rfl,?_⟩
   replace BK446:=Aside0.mk (blk_below (g:=gb446) (o := .cells #[.int .i64 a0_0, .string a0_1, .slice A0_2 l0_2.length c0_2, .slice A0_3 l0_3.length c0_3] 25 (0,0)) (qW BK446) hb)
   replace BK447:=Aside0.mk (blk_below (g:=gb447) (o := .cells #[.int .i64 a1_0, .string a1_1, .slice A1_2 l1_2.length c1_2, .slice A1_3 l1_3.length c1_3] 25 (0,0)) (qW BK447) hb)
   replace HB:=Aside0.mk (below_step qC hb)
   clear hb
   refine hK.out _ _ ⟨(blk_cell BK446.out 0).trans rfl,(blk_cell BK446.out 1).trans rfl,(blk_cell BK446.out 2).trans rfl,(blk_cell BK446.out 3).trans rfl,(blk_cell BK447.out 0).trans rfl,(blk_cell BK447.out 1).trans rfl,(blk_cell BK447.out 2).trans rfl,(blk_cell BK447.out 3).trans rfl⟩ (fun hHeld=>?_)
   clear hK K
   refine norm_ (a':=?_) ?_ ?_
   rotate_left
   ·show Act.put _ (some 16) _=_
    simp only [Act.put,List.setIfInBounds_toArray,List.set_cons_zero,List.set_cons_succ,i64_w,i32_w]
    rfl
   refine pure_ (i:=4) (N:=some 17) (v:=?_) (a':=?_) #[true,true,true,true,true,false,false,false,false,false,false,false,false,false,false,false,false,false,false,false,false,false,false,false,false,false,false] rfl rfl (any_of HT_.out qK) (fun _ _ _ h=>h) (Or.inl ⟨by rfl,?_⟩) ?_ ?_
   rotate_left
   ·intro w';go_simp;with_reducible rfl
   rotate_left
   ·simp only [Act.put,List.setIfInBounds_toArray,List.set_cons_zero,List.set_cons_succ,i64_w,i32_w];rfl
   refine pure_ (i:=5) (N:=some 18) (v:=?_) (a':=?_) #[true,true,true,true,true,true,false,false,false,false,false,false,false,false,false,false,false,false,false,false,false,false,false,false,false,false,false] rfl rfl (any_of HT_.out qK) (fun _ _ _ h=>h) (Or.inl ⟨by rfl,?_⟩) ?_ ?_
   rotate_left
   ·intro w';go_simp;with_reducible rfl
   rotate_left
   ·simp only [Act.put,List.setIfInBounds_toArray,List.set_cons_zero,List.set_cons_succ,i64_w,i32_w];rfl
   refine take_ (i:=6) (N:=some 19) (v:=?_) (a':=?_) #[true,true,true,true,true,true,true,false,false,false,false,false,false,false,false,false,false,false,false,false,false,false,false,false,false,false,false] rfl rfl (take_ofW HT_.out HW_.out qK) (fun _ _ _ h=>h) (Or.inl ⟨by rfl,?_⟩) hHeld ?_ ?_
   rotate_left
   ·rintro w' ⟨s0,s1,s2,s3,s4,s5,s6,s7⟩;go_simp;with_reducible rfl
   rotate_left
   ·simp only [Act.put,List.setIfInBounds_toArray,List.set_cons_zero,List.set_cons_succ,i64_w,i32_w];rfl
   refine take_ (i:=8) (N:=some 21) (v:=?_) (a':=?_) #[true,true,true,true,true,true,true,false,true,false,false,false,false,false,false,false,false,false,false,false,false,false,false,false,false,false,false] rfl rfl (take_ofW HT_.out HW_.out qK) (fun _ _ _ h=>h) (Or.inl ⟨by rfl,?_⟩) hHeld ?_ ?_
   rotate_left
   ·rintro w' ⟨s0,s1,s2,s3,s4,s5,s6,s7⟩;go_simp;with_reducible rfl
   rotate_left
   ·simp only [Act.put,List.setIfInBounds_toArray,List.set_cons_zero,List.set_cons_succ,i64_w,i32_w];rfl
   refine one_ (i:=7) (N:=some 20) #[true,true,true,true,true,true,true,true,true,false,false,false,false,false,false,false,false,false,false,false,false,false,false,false,false,false,false] rfl rfl (one_of HT_.out qK) (by decide) (fun K hK=>?_)
   refine goes_ Tryz.func16 qK rfl #[.agg #[.int .i64 a0_0, .string a0_1, .slice A0_2 l0_2.length c0_2, .slice A0_3 l0_3.length c0_3]] (by rfl) rfl rfl qG ?_
   with_reducible refine (query_Text.calls kj4 a0_0 a0_1 _ _ l0_2 _ _ l0_3 t453 _ ?side1 ?side2 ?side3 ?side4 A24.out).mono ?_
   (case side1=>repeat (first|exact (Kd.C_below HR0_2.out HB.out)|(with_reducible refine Kd.C_alloc ?_ _)|(with_reducible refine Kd.C_drewN ?_ _)|(with_reducible refine Kd.C_drew ?_)))
   (case side2=>exact HC0_2.out)
   (case side3=>repeat (first|exact (Kd.C_below HR0_3.out HB.out)|(with_reducible refine Kd.C_alloc ?_ _)|(with_reducible refine Kd.C_drewN ?_ _)|(with_reducible refine Kd.C_drew ?_)))
   (case side4=>exact HC0_3.out)
   rintro e w34 ⟨rfl,hb⟩
   refine ⟨_,rfl,?_⟩
   replace BK446:=Aside0.mk (blk_below (g:=gb446) (o := .cells #[.int .i64 a0_0, .string a0_1, .slice A0_2 l0_2.length c0_2, .slice A0_3 l0_3.length c0_3] 25 (0,0)) (qW BK446) hb)
   replace BK447:=Aside0.mk (blk_below (g:=gb447) (o := .cells #[.int .i64 a1_0, .string a1_1, .slice A1_2 l1_2.length c1_2, .slice A1_3 l1_3.length c1_3] 25 (0,0)) (qW BK447) hb)
   replace HB:=Aside0.mk (below_step qC hb)
   clear hb
   refine hK.out _ _ ⟨(blk_cell BK446.out 0).trans rfl,(blk_cell BK446.out 1).trans rfl,(blk_cell BK446.out 2).trans rfl,(blk_cell BK446.out 3).trans rfl,(blk_cell BK447.out 0).trans rfl,(blk_cell BK447.out 1).trans rfl,(blk_cell BK447.out 2).trans rfl,(blk_cell BK447.out 3).trans rfl⟩ (fun hHeld=>?_)
   clear hK K
   refine norm_ (a':=?_) ?_ ?_
   rotate_left
   ·show Act.put _ (some 20) _=_
    simp only [Act.put,List.setIfInBounds_toArray,List.set_cons_zero,List.set_cons_succ,i64_w,i32_w]
    rfl
   refine one_ (i:=9) (N:=some 22) #[true,true,true,true,true,true,true,true,true,true,false,false,false,false,false,false,false,false,false,false,false,false,false,false,false,false,false] rfl rfl (one_of HT_.out qK) (by decide) (fun K hK=>?_)
   refine goes_ Tryz.func17 qK rfl #[.agg #[.int .i64 a0_0, .string a0_1, .slice A0_2 l0_2.length c0_2, .slice A0_3 l0_3.length c0_3]] (by rfl) rfl rfl qG ?_
   with_reducible refine (ebbtideref07_Text.calls kj4 a0_0 a0_1 _ _ l0_2 _ _ l0_3 t454 _ ?side1 ?side2 ?side3 ?side4 A25.out).mono ?_
   (case side1=>repeat (first|exact (Kd.C_below HR0_2.out HB.out)|(with_reducible refine Kd.C_alloc ?_ _)|(with_reducible refine Kd.C_drewN ?_ _)|(with_reducible refine Kd.C_drew ?_)))
   (case side2=>exact HC0_2.out)
   (case side3=>repeat (first|exact (Kd.C_below HR0_3.out HB.out)|(with_reducible refine Kd.C_alloc ?_ _)|(with_reducible refine Kd.C_drewN ?_ _)|(with_reducible refine Kd.C_drew ?_)))
   (case side4=>exact HC0_3.out)
   rintro e w35 ⟨rfl,hb⟩
   refine ⟨_,rfl,?_⟩
   replace BK446:=Aside0.mk (blk_below (g:=gb446) (o := .cells #[.int .i64 a0_0, .string a0_1, .slice A0_2 l0_2.length c0_2, .slice A0_3 l0_3.length c0_3] 25 (0,0)) (qW BK446) hb)
   replace BK447:=Aside0.mk (blk_below (g:=gb447) (o := .cells #[.int .i64 a1_0, .string a1_1, .slice A1_2 l1_2.length c1_2, .slice A1_3 l1_3.length c1_3] 25 (0,0)) (qW BK447) hb)
   replace HB:=Aside0.mk (below_step qC hb)
   clear hb
   refine hK.out _ _ ⟨(blk_cell BK446.out 0).trans rfl,(blk_cell BK446.out 1).trans rfl,(blk_cell BK446.out 2).trans rfl,(blk_cell BK446.out 3).trans rfl,(blk_cell BK447.out 0).trans rfl,(blk_cell BK447.out 1).trans rfl,(blk_cell BK447.out 2).trans rfl,(blk_cell BK447.out 3).trans rfl⟩ (fun hHeld=>?_)
   clear hK K
   refine norm_ (a':=?_) ?_ ?_
   rotate_left
   ·show Act.put _ (some 22) _=_
    simp only [Act.put,List.setIfInBounds_toArray,List.set_cons_zero,List.set_cons_succ,i64_w,i32_w]
    rfl
   refine pure_ (i:=10) (N:=some 23) (v:=?_) (a':=?_) #[true,true,true,true,true,true,true,true,true,true,true,false,false,false,false,false,false,false,false,false,false,false,false,false,false,false,false] rfl rfl (any_of HT_.out qK) (fun _ _ _ h=>h) (Or.inl ⟨by rfl,?_⟩) ?_ ?_
   rotate_left
   ·intro w';go_simp;with_reducible rfl
   rotate_left
   ·simp only [Act.put,List.setIfInBounds_toArray,List.set_cons_zero,List.set_cons_succ,i64_w,i32_w];rfl
   refine pure_ (i:=11) (N:=some 24) (v:=?_) (a':=?_) #[true,true,true,true,true,true,true,true,true,true,true,true,false,false,false,false,false,false,false,false,false,false,false,false,false,false,false] rfl rfl (any_of HT_.out qK) (fun _ _ _ h=>h) (Or.inl ⟨by rfl,?_⟩) ?_ ?_
   rotate_left
   ·intro w';go_simp;with_reducible rfl
   rotate_left
   ·simp only [Act.put,List.setIfInBounds_toArray,List.set_cons_zero,List.set_cons_succ,i64_w,i32_w];rfl
   refine pure_ (i:=12) (N:=some 25) (v:=?_) (a':=?_) #[true,true,true,true,true,true,true,true,true,true,true,true,true,false,false,false,false,false,false,false,false,false,false,false,false,false,false] rfl rfl (any_of HT_.out qK) (fun _ _ _ h=>h) (Or.inl ⟨by rfl,?_⟩) ?_ ?_
   rotate_left
   ·intro w';go_simp;with_reducible rfl
   rotate_left
   ·simp only [Act.put,List.setIfInBounds_toArray,List.set_cons_zero,List.set_cons_succ,i64_w,i32_w];rfl
   refine take_ (i:=13) (N:=some 26) (v:=?_) (a':=?_) #[true,true,true,true,true,true,true,true,true,true,true,true,true,true,false,false,false,false,false,false,false,false,false,false,false,false,false] rfl rfl (take_ofW HT_.out HW_.out qK) (fun _ _ _ h=>h) (Or.inl ⟨by rfl,?_⟩) hHeld ?_ ?_
   rotate_left
   ·rintro w' ⟨s0,s1,s2,s3,s4,s5,s6,s7⟩;go_simp;with_reducible rfl
   rotate_left
   ·simp only [Act.put,List.setIfInBounds_toArray,List.set_cons_zero,List.set_cons_succ,i64_w,i32_w];rfl
   refine take_ (i:=14) (N:=some 27) (v:=?_) (a':=?_) #[true,true,true,true,true,true,true,true,true,true,true,true,true,true,true,false,false,false,false,false,false,false,false,false,false,false,false] rfl rfl (take_ofW HT_.out HW_.out qK) (fun _ _ _ h=>h) (Or.inl ⟨by rfl,?_⟩) hHeld ?_ ?_
   rotate_left
   ·rintro w' ⟨s0,s1,s2,s3,s4,s5,s6,s7⟩;go_simp;with_reducible rfl
   rotate_left
   ·simp only [Act.put,List.setIfInBounds_toArray,List.set_cons_zero,List.set_cons_succ,i64_w,i32_w];rfl
   refine take_ (i:=16) (N:=some 29) (v:=?_) (a':=?_) #[true,true,true,true,true,true,true,true,true,true,true,true,true,true,true,false,true,false,false,false,false,false,false,false,false,false,false] rfl rfl (take_ofW HT_.out HW_.out qK) (fun _ _ _ h=>h) (Or.inl ⟨by rfl,?_⟩) hHeld ?_ ?_
   rotate_left
   ·rintro w' ⟨s0,s1,s2,s3,s4,s5,s6,s7⟩;go_simp;with_reducible rfl
   rotate_left
   ·simp only [Act.put,List.setIfInBounds_toArray,List.set_cons_zero,List.set_cons_succ,i64_w,i32_w];rfl
   refine take_ (i:=17) (N:=some 30) (v:=?_) (a':=?_) #[true,true,true,true,true,true,true,true,true,true,true,true,true,true,true,false,true,true,false,false,false,false,false,false,false,false,false] rfl rfl (take_ofW HT_.out HW_.out qK) (fun _ _ _ h=>h) (Or.inl ⟨by rfl,?_⟩) hHeld ?_ ?_
   rotate_left
   ·rintro w' ⟨s0,s1,s2,s3,s4,s5,s6,s7⟩;go_simp;with_reducible rfl
   rotate_left
   ·simp only [Act.put,List.setIfInBounds_toArray,List.set_cons_zero,List.set_cons_succ,i64_w,i32_w];rfl
   refine one_ (i:=15) (N:=some 28) #[true,true,true,true,true,true,true,true,true,true,true,true,true,true,true,true,true,true,false,false,false,false,false,false,false,false,false] rfl rfl (one_of HT_.out qK) (by decide) (fun K hK=>?_)
   refine goes_ Tryz.func18 qK rfl #[.agg #[.int .i64 a0_0, .string a0_1, .slice A0_2 l0_2.length c0_2, .slice A0_3 l0_3.length c0_3], .agg #[.int .i64 a1_0, .string a1_1, .slice A1_2 l1_2.length c1_2, .slice A1_3 l1_3.length c1_3]] (by rfl) rfl rfl qG ?_
   with_reducible refine (query_Same.calls kj4 a0_0 a0_1 _ _ l0_2 _ _ l0_3 a1_0 a1_1 _ _ l1_2 _ _ l1_3 t455 _ ?side1 ?side2 ?side3 ?side4 ?side5 ?side6 ?side7 ?side8 A27.out).mono ?_
   (case side1=>repeat (first|exact (Kd.C_below HR0_2.out HB.out)|(with_reducible refine Kd.C_alloc ?_ _)|(with_reducible refine Kd.C_drewN ?_ _)|(with_reducible refine Kd.C_drew ?_)))
   (case side2=>exact HC0_2.out)
   (case side3=>repeat (first|exact (Kd.C_below HR0_3.out HB.out)|(with_reducible refine Kd.C_alloc ?_ _)|(with_reducible refine Kd.C_drewN ?_ _)|(with_reducible refine Kd.C_drew ?_)))
   (case side4=>exact HC0_3.out)
   (case side5=>repeat (first|exact (Kd.C_below HR1_2.out HB.out)|(with_reducible refine Kd.C_alloc ?_ _)|(with_reducible refine Kd.C_drewN ?_ _)|(with_reducible refine Kd.C_drew ?_)))
   (case side6=>exact HC1_2.out)
   (case side7=>repeat (first|exact (Kd.C_below HR1_3.out HB.out)|(with_reducible refine Kd.C_alloc ?_ _)|(with_reducible refine Kd.C_drewN ?_ _)|(with_reducible refine Kd.C_drew ?_)))
   (case side8=>exact HC1_3.out)
   rintro e w36 ⟨rfl,hb⟩
   refine ⟨_,rfl,?_⟩
   replace BK446:=Aside0.mk (blk_below (g:=gb446) (o := .cells #[.int .i64 a0_0, .string a0_1, .slice A0_2 l0_2.length c0_2, .slice A0_3 l0_3.length c0_3] 25 (0,0)) (qW BK446) hb)
   replace BK447:=Aside0.mk (blk_below (g:=gb447) (o := .cells #[.int .i64 a1_0, .string a1_1, .slice A1_2 l1_2.length c1_2, .slice A1_3 l1_3.length c1_3] 25 (0,0)) (qW BK447) hb)
   replace HB:=Aside0.mk (below_step qC hb)
   clear hb
   refine hK.out _ _ ⟨(blk_cell BK446.out 0).trans rfl,(blk_cell BK446.out 1).trans rfl,(blk_cell BK446.out 2).trans rfl,(blk_cell BK446.out 3).trans rfl,(blk_cell BK447.out 0).trans rfl,(blk_cell BK447.out 1).trans rfl,(blk_cell BK447.out 2).trans rfl,(blk_cell BK447.out 3).trans rfl⟩ (fun hHeld=>?_)
   clear hK K
   refine norm_ (a':=?_) ?_ ?_
   rotate_left
   ·show Act.put _ (some 28) _=_
    simp only [Act.put,List.setIfInBounds_toArray,List.set_cons_zero,List.set_cons_succ,i64_w,i32_w]
    rfl
   refine one_ (i:=18) (N:=some 31) #[true,true,true,true,true,true,true,true,true,true,true,true,true,true,true,true,true,true,true,false,false,false,false,false,false,false,false] rfl rfl (one_of HT_.out qK) (by decide) (fun K hK=>?_)
   refine goes_ Tryz.func19 qK rfl #[.agg #[.int .i64 a0_0, .string a0_1, .slice A0_2 l0_2.length c0_2, .slice A0_3 l0_3.length c0_3], .agg #[.int .i64 a1_0, .string a1_1, .slice A1_2 l1_2.length c1_2, .slice A1_3 l1_3.length c1_3]] (by rfl) rfl rfl qG ?_
   with_reducible refine (ebbtideref07_Same.calls kj4 a0_0 a0_1 _ _ l0_2 _ _ l0_3 a1_0 a1_1 _ _ l1_2 _ _ l1_3 t456 _ ?side1 ?side2 ?side3 ?side4 ?side5 ?side6 ?side7 ?side8 A28.out).mono ?_
   (case side1=>repeat (first|exact (Kd.C_below HR0_2.out HB.out)|(with_reducible refine Kd.C_alloc ?_ _)|(with_reducible refine Kd.C_drewN ?_ _)|(with_reducible refine Kd.C_drew ?_)))
   (case side2=>exact HC0_2.out)
   (case side3=>repeat (first|exact (Kd.C_below HR0_3.out HB.out)|(with_reducible refine Kd.C_alloc ?_ _)|(with_reducible refine Kd.C_drewN ?_ _)|(with_reducible refine Kd.C_drew ?_)))
   (case side4=>exact HC0_3.out)
   (case side5=>repeat (first|exact (Kd.C_below HR1_2.out HB.out)|(with_reducible refine Kd.C_alloc ?_ _)|(with_reducible refine Kd.C_drewN ?_ _)|(with_reducible refine Kd.C_drew ?_)))
   (case side6=>exact HC1_2.out)
   (case side7=>repeat (first|exact (Kd.C_below HR1_3.out HB.out)|(with_reducible refine Kd.C_alloc ?_ _)|(with_reducible refine Kd.C_drewN ?_ _)|(with_reducible refine Kd.C_drew ?_)))
   (case side8=>exact HC1_3.out)
   rintro e w37 ⟨rfl,hb⟩
   refine ⟨_,rfl,?_⟩
   replace BK446:=Aside0.mk (blk_below (g:=gb446) (o := .cells #[.int .i64 a0_0, .string a0_1, .slice A0_2 l0_2.length c0_2, .slice A0_3 l0_3.length c0_3] 25 (0,0)) (qW BK446) hb)
   replace BK447:=Aside0.mk (blk_below (g:=gb447) (o := .cells #[.int .i64 a1_0, .string a1_1, .slice A1_2 l1_2.length c1_2, .slice A1_3 l1_3.length c1_3] 25 (0,0)) (qW BK447) hb)
   replace HB:=Aside0.mk (below_step qC hb)
   clear hb
   refine hK.out _ _ ⟨(blk_cell BK446.out 0).trans rfl,(blk_cell BK446.out 1).trans rfl,(blk_cell BK446.out 2).trans rfl,(blk_cell BK446.out 3).trans rfl,(blk_cell BK447.out 0).trans rfl,(blk_cell BK447.out 1).trans rfl,(blk_cell BK447.out 2).trans rfl,(blk_cell BK447.out 3).trans rfl⟩ (fun hHeld=>?_)
   clear hK K
   refine norm_ (a':=?_) ?_ ?_
   rotate_left
   ·show Act.put _ (some 31) _=_
    simp only [Act.put,List.setIfInBounds_toArray,List.set_cons_zero,List.set_cons_succ,i64_w,i32_w]
    rfl
   refine pure_ (i:=19) (N:=some 32) (v:=?_) (a':=?_) #[true,true,true,true,true,true,true,true,true,true,true,true,true,true,true,true,true,true,true,true,false,false,false,false,false,false,false] rfl rfl (any_of HT_.out qK) (fun _ _ _ h=>h) (Or.inl ⟨by rfl,?_⟩) ?_ ?_
   rotate_left
   ·intro w';go_simp;with_reducible rfl
   rotate_left
   ·simp only [Act.put,List.setIfInBounds_toArray,List.set_cons_zero,List.set_cons_succ,i64_w,i32_w];rfl
   refine pure_ (i:=20) (N:=some 33) (v:=?_) (a':=?_) #[true,true,true,true,true,true,true,true,true,true,true,true,true,true,true,true,true,true,true,true,true,false,false,false,false,false,false] rfl rfl (any_of HT_.out qK) (fun _ _ _ h=>h) (Or.inl ⟨by rfl,?_⟩) ?_ ?_
   rotate_left
   ·intro w';go_simp;with_reducible rfl
   rotate_left
   ·simp only [Act.put,List.setIfInBounds_toArray,List.set_cons_zero,List.set_cons_succ,i64_w,i32_w];rfl
   refine pure_ (i:=21) (N:=some 34) (v:=?_) (a':=?_) #[true,true,true,true,true,true,true,true,true,true,true,true,true,true,true,true,true,true,true,true,true,true,false,false,false,false,false] rfl rfl (any_of HT_.out qK) (fun _ _ _ h=>h) (Or.inl ⟨by rfl,?_⟩) ?_ ?_
   rotate_left
   ·intro w';go_simp;with_reducible rfl
   rotate_left
   ·simp only [Act.put,List.setIfInBounds_toArray,List.set_cons_zero,List.set_cons_succ,i64_w,i32_w];rfl
   refine take_ (i:=22) (N:=some 35) (v:=?_) (a':=?_) #[true,true,true,true,true,true,true,true,true,true,true,true,true,true,true,true,true,true,true,true,true,true,true,false,false,false,false] rfl rfl (take_ofW HT_.out HW_.out qK) (fun _ _ _ h=>h) (Or.inl ⟨by rfl,?_⟩) hHeld ?_ ?_
   rotate_left
   ·rintro w' ⟨s0,s1,s2,s3,s4,s5,s6,s7⟩;go_simp;with_reducible rfl
   rotate_left
   ·simp only [Act.put,List.setIfInBounds_toArray,List.set_cons_zero,List.set_cons_succ,i64_w,i32_w];rfl
   refine take_ (i:=23) (N:=some 36) (v:=?_) (a':=?_) #[true,true,true,true,true,true,true,true,true,true,true,true,true,true,true,true,true,true,true,true,true,true,true,true,false,false,false] rfl rfl (take_ofW HT_.out HW_.out qK) (fun _ _ _ h=>h) (Or.inl ⟨by rfl,?_⟩) hHeld ?_ ?_
   rotate_left
   ·rintro w' ⟨s0,s1,s2,s3,s4,s5,s6,s7⟩;go_simp;with_reducible rfl
   rotate_left
   ·simp only [Act.put,List.setIfInBounds_toArray,List.set_cons_zero,List.set_cons_succ,i64_w,i32_w];rfl
   refine one_ (i:=24) (N:=some 37) #[true,true,true,true,true,true,true,true,true,true,true,true,true,true,true,true,true,true,true,true,true,true,true,true,true,false,false] rfl rfl (one_of HT_.out qK) (by decide) (fun K hK=>?_)
   refine goes_ Tryz.func18 qK rfl #[.agg #[.int .i64 a0_0, .string a0_1, .slice A0_2 l0_2.length c0_2, .slice A0_3 l0_3.length c0_3], .agg #[.int .i64 a0_0, .string a0_1, .slice A0_2 l0_2.length c0_2, .slice A0_3 l0_3.length c0_3]] (by rfl) rfl rfl qG ?_
   with_reducible refine (query_Same.calls kj4 a0_0 a0_1 _ _ l0_2 _ _ l0_3 a0_0 a0_1 _ _ l0_2 _ _ l0_3 t457 _ ?side1 ?side2 ?side3 ?side4 ?side5 ?side6 ?side7 ?side8 A30.out).mono ?_
   (case side1=>repeat (first|exact (Kd.C_below HR0_2.out HB.out)|(with_reducible refine Kd.C_alloc ?_ _)|(with_reducible refine Kd.C_drewN ?_ _)|(with_reducible refine Kd.C_drew ?_)))
   (case side2=>exact HC0_2.out)
   (case side3=>repeat (first|exact (Kd.C_below HR0_3.out HB.out)|(with_reducible refine Kd.C_alloc ?_ _)|(with_reducible refine Kd.C_drewN ?_ _)|(with_reducible refine Kd.C_drew ?_)))
   (case side4=>exact HC0_3.out)
   (case side5=>repeat (first|exact (Kd.C_below HR0_2.out HB.out)|(with_reducible refine Kd.C_alloc ?_ _)|(with_reducible refine Kd.C_drewN ?_ _)|(with_reducible refine Kd.C_drew ?_)))
   (case side6=>exact HC0_2.out)
   (case side7=>repeat (first|exact (Kd.C_below HR0_3.out HB.out)|(with_reducible refine Kd.C_alloc ?_ _)|(with_reducible refine Kd.C_drewN ?_ _)|(with_reducible refine Kd.C_drew ?_)))
   (case side8=>exact HC0_3.out)
   rintro e w38 ⟨rfl,hb⟩
   refine ⟨_,rfl,?_⟩
   replace BK446:=Aside0.mk (blk_below (g:=gb446) (o := .cells #[.int .i64 a0_0, .string a0_1, .slice A0_2 l0_2.length c0_2, .slice A0_3 l0_3.length c0_3] 25 (0,0)) (qW BK446) hb)
   replace BK447:=Aside0.mk (blk_below (g:=gb447) (o := .cells #[.int .i64 a1_0, .string a1_1, .slice A1_2 l1_2.length c1_2, .slice A1_3 l1_3.length c1_3] 25 (0,0)) (qW BK447) hb)
   replace HB:=Aside0.mk (below_step qC hb)
   clear hb
   refine hK.out _ _ ⟨(blk_cell BK446.out 0).trans rfl,(blk_cell BK446.out 1).trans rfl,(blk_cell BK446.out 2).trans rfl,(blk_cell BK446.out 3).trans rfl,(blk_cell BK447.out 0).trans rfl,(blk_cell BK447.out 1).trans rfl,(blk_cell BK447.out 2).trans rfl,(blk_cell BK447.out 3).trans rfl⟩ (fun hHeld=>?_)
   clear hK K
   refine norm_ (a':=?_) ?_ ?_
   rotate_left
   ·show Act.put _ (some 37) _=_
    simp only [Act.put,List.setIfInBounds_toArray,List.set_cons_zero,List.set_cons_succ,i64_w,i32_w]
    rfl
   refine pure_ (i:=25) (N:=some 38) (v:=?_) (a':=?_) #[true,true,true,true,true,true,true,true,true,true,true,true,true,true,true,true,true,true,true,true,true,true,true,true,true,true,false] rfl rfl (any_of HT_.out qK) (fun _ _ _ h=>h) (Or.inl ⟨by rfl,?_⟩) ?_ ?_
   rotate_left
   ·intro w';go_simp;with_reducible rfl
   rotate_left
   ·simp only [Act.put,List.setIfInBounds_toArray,List.set_cons_zero,List.set_cons_succ,i64_w,i32_w];rfl
   refine pure_ (i:=26) (N:=some 4) (v:=?_) (a':=?_) #[true,true,true,true,true,true,true,true,true,true,true,true,true,true,true,true,true,true,true,true,true,true,true,true,true,true,true] rfl rfl (any_of HT_.out qK) (fun _ _ _ h=>h) (Or.inl ⟨by rfl,?_⟩) ?_ ?_
   rotate_left
   ·intro w';go_simp;with_reducible rfl
   rotate_left
   ·simp only [Act.put,List.setIfInBounds_toArray,List.set_cons_zero,List.set_cons_succ,i64_w,i32_w];rfl
   refine done_ (done_of HT_.out qK) ?_
   try go_wp2
   go_ret
   exact ⟨qE,qC⟩
def ebbtideref02_Fields.l0:Nat→List ByteArray→List ByteArray→Int→Option (List ByteArray)
 | 0,_,_,_=>none
 | k+1,x3,x4,x5=>if x5<(x4.length:Int) then (if 0≤x5 then (if (rdOf ByteArray.empty x4 x5).toList=([]:List UInt8) then (ebbtideref02_Fields.l0 k x3 x4 (wrap64 (x5+1))) else (if x3.length<8796093022208 then (ebbtideref02_Fields.l0 k (x3++[rdOf ByteArray.empty x4 x5]) x4 (wrap64 (x5+1))) else (none))) else (none)) else (some x3)
def ebbtideref02_Fields.f (k:Nat) (a0:ByteArray):Option (List ByteArray):=(ebbtideref02_Split.f k a0 32).bind fun t458=>(ebbtideref02_Fields.l0 k ([]:List ByteArray) t458 0)
theorem ebbtideref02_Fields.mono_l:∀ k,(∀ y0 y1 y2,LeO (ebbtideref02_Fields.l0 k y0 y1 y2) (ebbtideref02_Fields.l0 (k+1) y0 y1 y2))
 | 0=>fun _ _ _ r h=>by simp [ebbtideref02_Fields.l0] at h
 | k+1=>by
  have ih0:=ebbtideref02_Fields.mono_l k
  ·intro y0 y1 y2
   unfold ebbtideref02_Fields.l0
   repeat' first
   | (with_reducible exact ih0 _ _ _)
   | (with_reducible exact ebbtideref02_Split.mono _ _ _)
   | (with_reducible exact LeO.refl _)
   | (with_reducible exact LeO.none _)
   | (with_reducible refine LeO.ite ?_ ?_)
   | (with_reducible refine LeO.bind ?_ (fun _=>?_))
   | exact ih0 _ _ _
   | exact ebbtideref02_Split.mono _ _ _
   | exact LeO.none _
   | refine LeO.ite ?_ ?_
   | refine LeO.bind ?_ (fun _=>?_)
theorem ebbtideref02_Fields.mono:∀ a0 k,LeO (ebbtideref02_Fields.f k a0) (ebbtideref02_Fields.f (k+1) a0):=by
 intro a0 k
 have ih0:=ebbtideref02_Fields.mono_l k
 unfold ebbtideref02_Fields.f
 repeat' first
   | (with_reducible exact ih0 _ _ _)
   | (with_reducible exact ebbtideref02_Split.mono _ _ _)
   | (with_reducible exact LeO.refl _)
   | (with_reducible exact LeO.none _)
   | (with_reducible refine LeO.ite ?_ ?_)
   | (with_reducible refine LeO.bind ?_ (fun _=>?_))
   | exact ih0 _ _ _
   | exact ebbtideref02_Split.mono _ _ _
   | exact LeO.none _
   | refine LeO.ite ?_ ?_
   | refine LeO.bind ?_ (fun _=>?_)
theorem ebbtideref02_Fields.calls (k:Nat) (a0:ByteArray) (r:List ByteArray) (w:World) (h:ebbtideref02_Fields.f k a0=some r) :
  Calls Tryz.prog 68 #[.string a0] w fun e w'=>∃ v0_:Value,e = .returned (v0_)∧Kd.R Kd.string 9 w' w.heap.size (fun _=>True) v0_ r∧Below w.heap.size w w':=by
 have HB:=Aside0.mk (Below.refl w.heap.size w)
 have H:((ebbtideref02_Split.f k a0 32).bind fun t458=>(ebbtideref02_Fields.l0 k ([]:List ByteArray) t458 0))=some r:=h
 clear h
 replace H:=Option.bind_eq_some_iff.mp H
 obtain ⟨t458,A20,H⟩:=H
 replace H:(ebbtideref02_Fields.l0 k ([]:List ByteArray) t458 0)=some r:=H
 have A2:=Aside0.mk A20
 clear A20
 have H':=Aside0.mk H
 clear H
 go_enter Tryz.func68,Tryz.ntmps68
 go_wp2_with (first|((with_reducible refine gate_callee (f:=72) rfl ?_);refine goesL_ (some 7) rfl rfl Tryz.func72 qK rfl #[.string a0, .int .u8 32] rfl qG ?_;(with_reducible refine (ebbtideref02_Split.calls k a0 32 t458 _ A2.out).mono ?_);rintro e w3 ⟨v459,rfl,ho0,hb⟩;refine ⟨_,rfl,?_⟩;have HO460:=Aside0.mk (Kd.R_lower ho0 (below_size qB));replace HB:=Aside0.mk (below_step qB hb);clear hb ho0))
 go_loopg [3,5] k (fun kq v3 v5 w'=>∃ (x3_1:List ByteArray) (x5_1:Int),v5 = .int .i64 x5_1∧Aside0 (ebbtideref02_Fields.l0 kq x3_1 t458 x5_1=some r)∧Aside0 (kq≤k)∧Aside0 (Kd.R Kd.string 9 w' w.heap.size (fun k_=>some k_≠(v459:Value).ownBlock) v3 x3_1)∧Aside0 (Kd.R Kd.string 9 w' w.heap.size (fun k_=>some k_≠(v3:Value).ownBlock) v459 t458)∧Aside0 (Below w.heap.size w w'))
 case atStart=>exact ⟨(([]:List ByteArray)),(0),qS,H',⟨Nat.le_refl _⟩,⟨qN⟩,⟨by (with_reducible repeat (first|apply Kd.R_alloc|apply Kd.R_drewN|apply Kd.R_drew));exact Kd.R_mono HO460.out (fun _ hk=>(by simp [Value.ownBlock]))⟩,⟨qB⟩⟩
 case round =>
  clear H'
  obtain ⟨x3_1,x5_1,rfl,HA,HK1,HO_3,HO_4,HB⟩:=hrel
  cases gk with
  | zero=>exact absurd HA.out (by simp [ebbtideref02_Fields.l0])
  | succ k1 =>
   have H:=HA.out
   clear HA
   simp only [ebbtideref02_Fields.l0] at H
   by_cases c4:x5_1<(t458.length:Int)
   rotate_left
   ·rw [if_neg c4] at H
    have c4b0:decide (x5_1<(t458.length:Int))=false:=decide_eq_false c4
    clear c4
    obtain rfl:=Option.some.inj H
    obtain ⟨Ao11,co11,eo11⟩:=Kd.R_slice HO_4.out
    subst eo11
    go_wp2
    go_ret
    exact ⟨_,qE,by (with_reducible repeat (first|apply Kd.R_alloc|apply Kd.R_drewN|apply Kd.R_drew));exact Kd.R_mono HO_3.out (fun _ hk=>trivial),qB⟩
   rw [if_pos c4] at H
   have c4b0:decide (x5_1<(t458.length:Int))=true:=decide_eq_true c4
   clear c4
   by_cases c5:0≤x5_1
   rotate_left
   ·rw [if_neg c5] at H
    exact absurd H (by simp)
   rw [if_pos c5] at H
   have c5b0:decide (0≤x5_1)=true:=decide_eq_true c5
   clear c5
   by_cases c6:(rdOf ByteArray.empty t458 x5_1).toList=([]:List UInt8)
   ·rw [if_pos c6] at H
    have c6b0:((rdOf ByteArray.empty t458 x5_1).toList ==([]:List UInt8))=true:=beq_iff_eq.mpr c6
    have c6b1:((rdOf ByteArray.empty t458 x5_1).toList != ([]:List UInt8))=false:=bne_eq_false_iff_eq.mpr c6
    clear c6
    have H':=Aside0.mk H
    clear H
    obtain ⟨Ao7,co7,eo7⟩:=Kd.R_slice HO_4.out
    subst eo7
    have p461:0≤(x5_1:Int):=of_decide_eq_true qA
    have q461:x5_1<(t458.length:Int):=of_decide_eq_true qA
    obtain ⟨ad461,e461,hx461_0⟩:=Kd.at_string (Kd.R_reads' HO_4.out).2.2 x5_1 p461 q461
    cases e461
    replace p461:=eq_true p461
    replace q461:=eq_true q461
    go_wp2
    go_roundg k1
    case measure=>have:=HK1.out;omega
    case rel=>exact ⟨(x3_1),(wrap64 (x5_1+1)),qS,H',⟨by have:=HK1.out;omega⟩,⟨qR HO_3⟩,⟨qR HO_4⟩,⟨qB⟩⟩
   rw [if_neg c6] at H
   have c6b0:((rdOf ByteArray.empty t458 x5_1).toList ==([]:List UInt8))=false:=beq_eq_false_iff_ne.mpr c6
   have c6b1:((rdOf ByteArray.empty t458 x5_1).toList != ([]:List UInt8))=true:=bne_iff_ne.mpr c6
   by_cases c8:x3_1.length<8796093022208
   rotate_left
   ·rw [if_neg c8] at H
    exact absurd H (by simp)
   rw [if_pos c8] at H
   have LMc8:=Aside0.mk c8
   clear c8
   obtain ⟨y463,hy463⟩:∃ y_:List ByteArray,y_=(x3_1++[rdOf ByteArray.empty t458 x5_1]):=⟨_,rfl⟩
   replace H:(ebbtideref02_Fields.l0 k1 y463 t458 (wrap64 (x5_1+1)))=some r:=by first|(rw [hy463];with_reducible exact H)|(have H2_:=(Option.bind_some _ _).symm.trans H;rw [hy463];with_reducible exact H2_)|(have H2_:=(Option.bind_some _ _).symm.trans H;with_reducible exact H2_)|with_reducible exact H|(rw [hy463];exact H)|exact H
   have Ny463:=Aside0.mk hy463
   clear hy463
   have H':=Aside0.mk H
   clear H
   obtain ⟨Ao9,co9,eo9⟩:=Kd.R_slice HO_4.out
   subst eo9
   have p461:0≤(x5_1:Int):=of_decide_eq_true qA
   have q461:x5_1<(t458.length:Int):=of_decide_eq_true qA
   obtain ⟨ad461,e461,hx461_0⟩:=Kd.at_string (Kd.R_reads' HO_4.out).2.2 x5_1 p461 q461
   cases e461
   replace p461:=eq_true p461
   replace q461:=eq_true q461
   have p462:0≤(x5_1:Int):=of_decide_eq_true qA
   have q462:x5_1<(t458.length:Int):=of_decide_eq_true qA
   obtain ⟨ad462,e462,hx462_0⟩:=Kd.at_string (Kd.R_reads' HO_4.out).2.2 x5_1 p462 q462
   obtain rfl:ad461=ad462:=(by injection e462)
   replace p462:=eq_true p462
   replace q462:=eq_true q462
   go_wp2_with (first|((with_reducible refine gate_builtin (b := .append) (xs:=#[.tmp 19, .tmp 24]) rfl ?_);at_builtin;refine Kd.R_append Kd.string (w0:=w) w.heap.size rfl (.tmp 19) (.tmp 24) 23 9 (.string ⟨#[]⟩) 16 rfl Tryz.underlying23 info9 rfl (by decide) (by omega) u3 x3_1 (rdOf ByteArray.empty t458 x5_1) [.string (rdOf ByteArray.empty t458 x5_1)] (fun k_=>some k_≠(.slice (some ad461) t458.length co9:Value).ownBlock) (fun _=>False) rfl rfl ?aP (fun _ hk=>hk.elim) ?aF ?aO ?aB ?aS ?aL ?_;(case aP=>exact rfl);(case aB=>exact qB);(case aF=>exact (fun k_ hk=>Kd.fresh' (Kd.R_lt (qR HO_4)) k_ hk));(case aO=>exact (qR HO_3));(case aS=>exact (below_size qB));(case aL=>have:=LMc8.out;omega);intro v464 w10 ho hb hg hat;rw [← Ny463.out] at ho;replace HO_4:=Aside0.mk (Kd.R_after (ok:=(fun _=>True)) (by (with_reducible repeat (first|apply Kd.R_alloc|apply Kd.R_drewN|apply Kd.R_drew));exact Kd.R_mono HO_4.out (fun _ hk=>⟨trivial,by first|exact hk|exact fun e_=>hk (e_.trans (Go.Proofs.YteaadaaghhojfaaGreatDoorW.XW.ob_len _ _ _ _ _))⟩)) hg hat);replace HB:=Aside0.mk hb;have HO465:=Aside0.mk ho;clear HO_3;clear ho hb hg hat))
   go_roundg k1
   case measure=>have:=HK1.out;omega
   case rel=>exact ⟨(y463),(wrap64 (x5_1+1)),qS,H',⟨by have:=HK1.out;omega⟩,⟨qR HO465⟩,⟨by (with_reducible repeat (first|apply Kd.R_alloc|apply Kd.R_drewN|apply Kd.R_drew));exact Kd.R_mono HO_4.out (fun _ hk=>hk.2)⟩,⟨qB⟩⟩
end Go.Proofs.YteaadaaghhojfaaGreatDoor.PQu
